import PyProof.Rows.All
import Wide.All
import OpenK.AllK
import Wide.FinOn
import KE.KStateDown
import KE.KOpsOwn
import Lean
import HandS.ForMost
import HandS.More
import HandS.WordsExc
import HandS.Defaults
import HandS.Flow
import HandS.Small
import HandS.Star
import HandS.Property
import HandS.IsInst
import HandS.DictTup
import HandS.DictComp
import HandS.ListItems
import HandS.Sort
import HandS.SortOrd
import HandS.SortRule
import HandS.SortInts
import HandS.Set
import HandS.SetBool
import HandS.SetKeys
import HandS.Wide
import HandS.WideBits
import HandS.OwnEq
import HandS.TupLen
import HandS.GenBody
import HandS.GenYield
import HandS.GenCall
import HandS.GenList
import HandS.Codes
import HandS.Conv
import HandS.Walk
import HandS.Zip
import HandS.StrMore
import HandS.Evl
import HandS.Steps
import HandS.Head0
import HandS.Head1
import HandS.Head2
import HandS.HeadEnd
import HandS.HeadHook1
import HandS.HeadHook2
import PySem.Challenge.RW_addressnets_k76_whole_ranges_with_words
import HandS.TupSets
import PyProof.Rows.SortShellAny
import PyProof.DictMoreH
import HandS.SlotsOwn
import PyProof.InstNe
import HandS.RaiseMore
import PyProof.GenQ
import PyProof.Rows.RowBridgeG
/-! Base0 -/
set_option Elab.async false
set_option linter.all false
set_option maxRecDepth 100000
set_option maxHeartbeats 4000000
namespace AH
open PySem PySem.Spec PyProof.Rows L2 He
abbrev R : PySem.W.OpenRow := PySem.W.OpenLaw.row PySem.Challenge.rw_addressnets_k76_whole_ranges_with_words
def top (i : Nat) : Stmt := PySem.Challenge.pw_addressnets_k76_whole_ranges_with_words.main.body.getD i (.Pass ⟨0, 0, 0, 0⟩)
def gN0 : List Str := ["is_integer", "is_from", "low_zeros", "number_of", "mask_number", "look_prefix", "look_strict", "low_end", "high_end", "range_pieces", "pieces", "merged", "parts4", "parts6", "look_change", "network_of", "networks_of", "summarize", "cut", "plan", "entries_of", "fewest_entries", "look_version", "width_of", "runs_of"]
def gN1 : List Str := ["set_of", "is_word", "_law_well", "_law_draw", "_law_number", "_law_address", "_law_cuts", "_law_ones", "_law_pieces", "_law_words", "_law_ranges", "_law_summed", "_law_book", "_law_joined", "_law_size", "_law_points_right", "_law_sets_right", "_law_word_at", "_law_entries_right", "_law_halved", "_law_few_right", "_law_changed_right", "law", "Address4", "Address6"]
def gN2 : List Str := ["Network4", "Network6", "Runs", "Netset", "Book"]
def gN : List Str := gN0 ++ gN1 ++ gN2
def cN0 : List Str := ["Address4", "Address6", "Network4", "Network6", "Runs", "Netset", "Book"]
def cN : List Str := cN0
def mN0 : List (Str × Str) := [("Address4", "__init__"), ("Address4", "__eq__"), ("Address6", "__init__"), ("Address6", "__eq__"), ("Network4", "__init__"), ("Network4", "__eq__"), ("Network4", "subnets"), ("Network6", "__init__"), ("Network6", "__eq__"), ("Network6", "subnets"), ("Runs", "__init__"), ("Netset", "__init__"), ("Netset", "nets"), ("Book", "__init__"), ("Book", "is_own"), ("Book", "look_address"), ("Book", "__setitem__"), ("Book", "forget"), ("Book", "__len__"), ("Book", "__eq__"), ("Book", "entries"), ("Book", "keys_of"), ("Book", "word_of"), ("Book", "__call__"), ("Book", "begins")]
def mN1 : List (Str × Str) := [("Book", "answers"), ("Book", "answered"), ("Book", "covered"), ("Book", "counts"), ("Book", "differs"), ("Book", "fewest")]
def mN : List (Str × Str) := mN0 ++ mN1
def refsF (o : Obj) : List Addr := match o.data with
  | .func fd => refV fd.code ++ refV fd.defaults ++ refV fd.kwdefaults
  | .fields vs => vs.toList.flatMap refV
  | _ => []
def nsOf (K : PySem.W.Frag) (C : Addr) : Addr := match K.lookup C with
  | some ⟨_, _, .cls cd, _⟩ => cd.ns
  | _ => 0
def asM (g : Addr → Option Obj) : List Addr :=
  let K0 := frG g [mainGlobals]
  let A1 := mainGlobals :: gN.map (ga K0)
  let K1 := frG g A1
  let A2 := A1 ++ cN.map fun C => nsOf K1 (ga K0 C)
  let K2 := frG g A2
  let A3 := A2 ++ mN.map fun p => ma K2 (ga K0 p.1) p.2
  let rf := fun a => match g a with
    | some o => refsF o
    | none => []
  let A4 := A3 ++ rf (ma K2 (ga K0 "Netset") "nets")
  A4 ++ A4.flatMap rf
def nets_get (K : PySem.W.Frag) : Addr := match PySem.W.recIn K (ma K (ga K "Netset") "nets") "property" with
  | some (.ref g :: _) => g
  | _ => 0
abbrev s_nets : Stmt := inClass (top 90) 1
/-- the getter of the property nets -/
def netsW (K : PySem.W.Frag) : FnW := match K.lookup (nets_get K) with
  | some ⟨_, _, .func fd, _⟩ => some (fd.name, fd.qualname, fd.params, fd.body, fd.scope, fd.globals, fd.closure, fd.builtins)
  | _ => none
def netsV : FnW := some ("nets", "Netset.nets", defArgs s_nets, .stmts (defBody s_nets), defScope s_nets, mainGlobals, [], builtinsNs)
def netsB (K : PySem.W.Frag) : Bool := PySem.W.keepIn K (.ref (nets_get K)) && (match K.lookup (nets_get K) with
  | some ⟨_, _, .func fd, _⟩ => PySem.W.codeIn K fd.code "Netset.nets" && (dflB K fd.defaults [] && kwdB K fd.kwdefaults [])
  | _ => false)
theorem nets_ok {K : PySem.W.Frag} (e : netsW K = netsV) (c : netsB K = true) : ∃ fd, FunD K "nets" "Netset.nets" (defArgs s_nets) (defBody s_nets) (defScope s_nets) [] [] (nets_get K) fd := by
  obtain ⟨kp, c2⟩ := ba c
  unfold netsW netsV at e
  cases q : K.lookup (nets_get K) with
  | none =>
    rw [q] at c2
    cases c2
  | some o =>
    obtain ⟨oc, od, dt, osl⟩ := o
    rw [q] at c2 e
    cases dt with
    | func fd =>
      obtain ⟨n1, n2, n3, n4, n5, n6, n7, n8, n9, n10, n11, n12, n13, n14, n15⟩ := fd
      have e2 : (some (n1, n2, n3, n4, n5, n6, n7, n15) : FnW) = (some ("nets", "Netset.nets", defArgs s_nets, .stmts (defBody s_nets), defScope s_nets, mainGlobals, [], builtinsNs) : FnW) := e
      simp only [Option.some.injEq, Prod.mk.injEq] at e2
      obtain ⟨h1, h2, h3, h4, h5, h6, h7, h8⟩ := e2
      subst h1 h2 h3 h4 h5 h6 h7 h8
      have c3 : (PySem.W.codeIn K n13 "Netset.nets" && (dflB K n8 [] && kwdB K n9 [])) = true := c2
      obtain ⟨k1, k2⟩ := ba c3
      obtain ⟨k3, k4⟩ := ba k2
      exact ⟨_, ⟨oc, od, n8, n9, n10, n11, n12, n13, n14, osl, rfl, q, k1, dflB_ok k3, kwdB_ok k4⟩, kp⟩
    | _ => cases c2
abbrev AlM : Type := AlD × Bool × FnW
def obsM (fa : List Fa) (fn : List DefD) (ex : PySem.W.Frag → Bool) (g : Addr → Option Obj) : AlM := (obsD fa fn (frG g (asM g)), ex (frG g (asM g)), netsW (frG g (asM g)))
def hookM (fa : List Fa) (fn : List DefD) (ex : PySem.W.Frag → Bool) : PySem.W.Hook where
  α := AlM
  obs := fun s => obsM fa fn ex s.heap.get?
  val := fun _ => (valD fn, true, netsV)
  says := fun _ h => ∃ K : PySem.W.Frag, K.In h ∧ SaysD fa fn K ∧ ex K = true ∧ netsW K = netsV
  of := fun _ _ e => ⟨_, frG_in, congrArg Prod.fst e, congrArg (fun z => z.2.1) e, congrArg (fun z => z.2.2) e⟩
  keeps := fun _ _ _ ⟨K, hK, c⟩ k => ⟨K, PySem.W.Frag.In.keeps hK k, c⟩
theorem obsM_eq {fa : List Fa} {fn : List DefD} {ex : PySem.W.Frag → Bool} {g : Addr → Option Obj} {s : Shared} (h : ∀ a, g a = s.heap.get? a) : obsM fa fn ex g = (hookM fa fn ex).obs s := by
  have e : g = s.heap.get? := funext h
  rw [e] <;> rfl
abbrev s_is_integer : Stmt := top 39
def d_is_integer : DefD := ⟨("is_integer", none), "is_integer", "is_integer", defArgs s_is_integer, defBody s_is_integer, defScope s_is_integer, [], []⟩
abbrev s_is_from : Stmt := top 40
def d_is_from : DefD := ⟨("is_from", none), "is_from", "is_from", defArgs s_is_from, defBody s_is_from, defScope s_is_from, [], []⟩
abbrev s_low_zeros : Stmt := top 41
def d_low_zeros : DefD := ⟨("low_zeros", none), "low_zeros", "low_zeros", defArgs s_low_zeros, defBody s_low_zeros, defScope s_low_zeros, [], []⟩
abbrev s_number_of : Stmt := top 43
def d_number_of : DefD := ⟨("number_of", none), "number_of", "number_of", defArgs s_number_of, defBody s_number_of, defScope s_number_of, [], []⟩
abbrev s_mask_number : Stmt := top 48
def d_mask_number : DefD := ⟨("mask_number", none), "mask_number", "mask_number", defArgs s_mask_number, defBody s_mask_number, defScope s_mask_number, [], []⟩
abbrev s_look_prefix : Stmt := top 54
def d_look_prefix : DefD := ⟨("look_prefix", none), "look_prefix", "look_prefix", defArgs s_look_prefix, defBody s_look_prefix, defScope s_look_prefix, [], []⟩
abbrev s_look_strict : Stmt := top 55
def d_look_strict : DefD := ⟨("look_strict", none), "look_strict", "look_strict", defArgs s_look_strict, defBody s_look_strict, defScope s_look_strict, [], []⟩
abbrev s_low_end : Stmt := top 56
def d_low_end : DefD := ⟨("low_end", none), "low_end", "low_end", defArgs s_low_end, defBody s_low_end, defScope s_low_end, [], []⟩
abbrev s_high_end : Stmt := top 57
def d_high_end : DefD := ⟨("high_end", none), "high_end", "high_end", defArgs s_high_end, defBody s_high_end, defScope s_high_end, [], []⟩
abbrev s_range_pieces : Stmt := top 59
def d_range_pieces : DefD := ⟨("range_pieces", none), "range_pieces", "range_pieces", defArgs s_range_pieces, defBody s_range_pieces, defScope s_range_pieces, [], []⟩
abbrev s_pieces : Stmt := top 60
def d_pieces : DefD := ⟨("pieces", none), "pieces", "pieces", defArgs s_pieces, defBody s_pieces, defScope s_pieces, [], []⟩
abbrev s_merged : Stmt := top 61
def d_merged : DefD := ⟨("merged", none), "merged", "merged", defArgs s_merged, defBody s_merged, defScope s_merged, [], []⟩
abbrev s_parts4 : Stmt := top 67
def d_parts4 : DefD := ⟨("parts4", none), "parts4", "parts4", defArgs s_parts4, defBody s_parts4, defScope s_parts4, [], []⟩
abbrev s_parts6 : Stmt := top 68
def d_parts6 : DefD := ⟨("parts6", none), "parts6", "parts6", defArgs s_parts6, defBody s_parts6, defScope s_parts6, [], []⟩
abbrev s_look_change : Stmt := top 70
def d_look_change : DefD := ⟨("look_change", none), "look_change", "look_change", defArgs s_look_change, defBody s_look_change, defScope s_look_change, [], []⟩
abbrev s_network_of : Stmt := top 74
def d_network_of : DefD := ⟨("network_of", none), "network_of", "network_of", defArgs s_network_of, defBody s_network_of, defScope s_network_of, [], []⟩
abbrev s_networks_of : Stmt := top 75
def d_networks_of : DefD := ⟨("networks_of", none), "networks_of", "networks_of", defArgs s_networks_of, defBody s_networks_of, defScope s_networks_of, [], []⟩
abbrev s_summarize : Stmt := top 79
def d_summarize : DefD := ⟨("summarize", none), "summarize", "summarize", defArgs s_summarize, defBody s_summarize, defScope s_summarize, [], []⟩
abbrev s_cut : Stmt := top 81
def d_cut : DefD := ⟨("cut", none), "cut", "cut", defArgs s_cut, defBody s_cut, defScope s_cut, [], []⟩
abbrev s_plan : Stmt := top 82
def d_plan : DefD := ⟨("plan", none), "plan", "plan", defArgs s_plan, defBody s_plan, defScope s_plan, [], []⟩
abbrev s_entries_of : Stmt := top 83
def d_entries_of : DefD := ⟨("entries_of", none), "entries_of", "entries_of", defArgs s_entries_of, defBody s_entries_of, defScope s_entries_of, [], []⟩
abbrev s_fewest_entries : Stmt := top 84
def d_fewest_entries : DefD := ⟨("fewest_entries", none), "fewest_entries", "fewest_entries", defArgs s_fewest_entries, defBody s_fewest_entries, defScope s_fewest_entries, [], []⟩
abbrev s_look_version : Stmt := top 86
def d_look_version : DefD := ⟨("look_version", none), "look_version", "look_version", defArgs s_look_version, defBody s_look_version, defScope s_look_version, [], []⟩
abbrev s_width_of : Stmt := top 87
def d_width_of : DefD := ⟨("width_of", none), "width_of", "width_of", defArgs s_width_of, defBody s_width_of, defScope s_width_of, [], []⟩
abbrev s_runs_of : Stmt := top 89
def d_runs_of : DefD := ⟨("runs_of", none), "runs_of", "runs_of", defArgs s_runs_of, defBody s_runs_of, defScope s_runs_of, [], []⟩
abbrev s_set_of : Stmt := top 91
def d_set_of : DefD := ⟨("set_of", none), "set_of", "set_of", defArgs s_set_of, defBody s_set_of, defScope s_set_of, [], []⟩
abbrev s_is_word : Stmt := top 95
def d_is_word : DefD := ⟨("is_word", none), "is_word", "is_word", defArgs s_is_word, defBody s_is_word, defScope s_is_word, [], []⟩
abbrev s__law_well : Stmt := top 98
def d__law_well : DefD := ⟨("_law_well", none), "_law_well", "_law_well", defArgs s__law_well, defBody s__law_well, defScope s__law_well, [], []⟩
abbrev s__law_draw : Stmt := top 99
def d__law_draw : DefD := ⟨("_law_draw", none), "_law_draw", "_law_draw", defArgs s__law_draw, defBody s__law_draw, defScope s__law_draw, [], []⟩
abbrev s__law_number : Stmt := top 100
def d__law_number : DefD := ⟨("_law_number", none), "_law_number", "_law_number", defArgs s__law_number, defBody s__law_number, defScope s__law_number, [], []⟩
abbrev s__law_address : Stmt := top 101
def d__law_address : DefD := ⟨("_law_address", none), "_law_address", "_law_address", defArgs s__law_address, defBody s__law_address, defScope s__law_address, [], []⟩
abbrev s__law_cuts : Stmt := top 102
def d__law_cuts : DefD := ⟨("_law_cuts", none), "_law_cuts", "_law_cuts", defArgs s__law_cuts, defBody s__law_cuts, defScope s__law_cuts, [], []⟩
abbrev s__law_ones : Stmt := top 103
def d__law_ones : DefD := ⟨("_law_ones", none), "_law_ones", "_law_ones", defArgs s__law_ones, defBody s__law_ones, defScope s__law_ones, [], []⟩
abbrev s__law_pieces : Stmt := top 104
def d__law_pieces : DefD := ⟨("_law_pieces", none), "_law_pieces", "_law_pieces", defArgs s__law_pieces, defBody s__law_pieces, defScope s__law_pieces, [], []⟩
abbrev s__law_words : Stmt := top 105
def d__law_words : DefD := ⟨("_law_words", none), "_law_words", "_law_words", defArgs s__law_words, defBody s__law_words, defScope s__law_words, [], []⟩
abbrev s__law_ranges : Stmt := top 106
def d__law_ranges : DefD := ⟨("_law_ranges", none), "_law_ranges", "_law_ranges", defArgs s__law_ranges, defBody s__law_ranges, defScope s__law_ranges, [], []⟩
abbrev s__law_summed : Stmt := top 107
def d__law_summed : DefD := ⟨("_law_summed", none), "_law_summed", "_law_summed", defArgs s__law_summed, defBody s__law_summed, defScope s__law_summed, [], []⟩
abbrev s__law_book : Stmt := top 108
def d__law_book : DefD := ⟨("_law_book", none), "_law_book", "_law_book", defArgs s__law_book, defBody s__law_book, defScope s__law_book, [], []⟩
abbrev s__law_joined : Stmt := top 109
def d__law_joined : DefD := ⟨("_law_joined", none), "_law_joined", "_law_joined", defArgs s__law_joined, defBody s__law_joined, defScope s__law_joined, [], []⟩
abbrev s__law_size : Stmt := top 110
def d__law_size : DefD := ⟨("_law_size", none), "_law_size", "_law_size", defArgs s__law_size, defBody s__law_size, defScope s__law_size, [], []⟩
abbrev s__law_points_right : Stmt := top 111
def d__law_points_right : DefD := ⟨("_law_points_right", none), "_law_points_right", "_law_points_right", defArgs s__law_points_right, defBody s__law_points_right, defScope s__law_points_right, [], []⟩
abbrev s__law_sets_right : Stmt := top 112
def d__law_sets_right : DefD := ⟨("_law_sets_right", none), "_law_sets_right", "_law_sets_right", defArgs s__law_sets_right, defBody s__law_sets_right, defScope s__law_sets_right, [], []⟩
abbrev s__law_word_at : Stmt := top 113
def d__law_word_at : DefD := ⟨("_law_word_at", none), "_law_word_at", "_law_word_at", defArgs s__law_word_at, defBody s__law_word_at, defScope s__law_word_at, [], []⟩
abbrev s__law_entries_right : Stmt := top 114
def d__law_entries_right : DefD := ⟨("_law_entries_right", none), "_law_entries_right", "_law_entries_right", defArgs s__law_entries_right, defBody s__law_entries_right, defScope s__law_entries_right, [], []⟩
abbrev s__law_halved : Stmt := top 115
def d__law_halved : DefD := ⟨("_law_halved", none), "_law_halved", "_law_halved", defArgs s__law_halved, defBody s__law_halved, defScope s__law_halved, [], []⟩
abbrev s__law_few_right : Stmt := top 116
def d__law_few_right : DefD := ⟨("_law_few_right", none), "_law_few_right", "_law_few_right", defArgs s__law_few_right, defBody s__law_few_right, defScope s__law_few_right, [], []⟩
abbrev s__law_changed_right : Stmt := top 117
def d__law_changed_right : DefD := ⟨("_law_changed_right", none), "_law_changed_right", "_law_changed_right", defArgs s__law_changed_right, defBody s__law_changed_right, defScope s__law_changed_right, [], []⟩
abbrev s_law : Stmt := top 118
def d_law : DefD := ⟨("law", none), "law", "law", defArgs s_law, defBody s_law, defScope s_law, [], []⟩
abbrev s_Address4_init : Stmt := inClass (top 44) 2
def d_Address4_init : DefD := ⟨("Address4", some "__init__"), "__init__", "Address4.__init__", defArgs s_Address4_init, defBody s_Address4_init, defScope s_Address4_init, [], []⟩
abbrev s_Address4_eq : Stmt := inClass (top 44) 13
def d_Address4_eq : DefD := ⟨("Address4", some "__eq__"), "__eq__", "Address4.__eq__", defArgs s_Address4_eq, defBody s_Address4_eq, defScope s_Address4_eq, [], []⟩
abbrev s_Address6_init : Stmt := inClass (top 45) 2
def d_Address6_init : DefD := ⟨("Address6", some "__init__"), "__init__", "Address6.__init__", defArgs s_Address6_init, defBody s_Address6_init, defScope s_Address6_init, [], []⟩
abbrev s_Address6_eq : Stmt := inClass (top 45) 14
def d_Address6_eq : DefD := ⟨("Address6", some "__eq__"), "__eq__", "Address6.__eq__", defArgs s_Address6_eq, defBody s_Address6_eq, defScope s_Address6_eq, [], []⟩
abbrev s_Network4_init : Stmt := inClass (top 71) 2
def d_Network4_init : DefD := ⟨("Network4", some "__init__"), "__init__", "Network4.__init__", defArgs s_Network4_init, defBody s_Network4_init, defScope s_Network4_init, [.non], [("strict", .bl true)]⟩
abbrev s_Network4_eq : Stmt := inClass (top 71) 6
def d_Network4_eq : DefD := ⟨("Network4", some "__eq__"), "__eq__", "Network4.__eq__", defArgs s_Network4_eq, defBody s_Network4_eq, defScope s_Network4_eq, [], []⟩
abbrev s_Network4_subnets : Stmt := inClass (top 71) 18
def d_Network4_subnets : DefD := ⟨("Network4", some "subnets"), "subnets", "Network4.subnets", defArgs s_Network4_subnets, defBody s_Network4_subnets, defScope s_Network4_subnets, [], [("down", .int 1)]⟩
abbrev s_Network6_init : Stmt := inClass (top 72) 2
def d_Network6_init : DefD := ⟨("Network6", some "__init__"), "__init__", "Network6.__init__", defArgs s_Network6_init, defBody s_Network6_init, defScope s_Network6_init, [.non], [("strict", .bl true)]⟩
abbrev s_Network6_eq : Stmt := inClass (top 72) 6
def d_Network6_eq : DefD := ⟨("Network6", some "__eq__"), "__eq__", "Network6.__eq__", defArgs s_Network6_eq, defBody s_Network6_eq, defScope s_Network6_eq, [], []⟩
abbrev s_Network6_subnets : Stmt := inClass (top 72) 18
def d_Network6_subnets : DefD := ⟨("Network6", some "subnets"), "subnets", "Network6.subnets", defArgs s_Network6_subnets, defBody s_Network6_subnets, defScope s_Network6_subnets, [], [("down", .int 1)]⟩
abbrev s_Runs_init : Stmt := inClass (top 88) 0
def d_Runs_init : DefD := ⟨("Runs", some "__init__"), "__init__", "Runs.__init__", defArgs s_Runs_init, defBody s_Runs_init, defScope s_Runs_init, [], []⟩
abbrev s_Netset_init : Stmt := inClass (top 90) 0
def d_Netset_init : DefD := ⟨("Netset", some "__init__"), "__init__", "Netset.__init__", defArgs s_Netset_init, defBody s_Netset_init, defScope s_Netset_init, [.adr fun K => dflAt ("Netset", some "__init__") 0 K], []⟩
abbrev s_Book_init : Stmt := inClass (top 96) 0
def d_Book_init : DefD := ⟨("Book", some "__init__"), "__init__", "Book.__init__", defArgs s_Book_init, defBody s_Book_init, defScope s_Book_init, [], []⟩
abbrev s_Book_is_own : Stmt := inClass (top 96) 1
def d_Book_is_own : DefD := ⟨("Book", some "is_own"), "is_own", "Book.is_own", defArgs s_Book_is_own, defBody s_Book_is_own, defScope s_Book_is_own, [], []⟩
abbrev s_Book_look_address : Stmt := inClass (top 96) 2
def d_Book_look_address : DefD := ⟨("Book", some "look_address"), "look_address", "Book.look_address", defArgs s_Book_look_address, defBody s_Book_look_address, defScope s_Book_look_address, [], []⟩
abbrev s_Book_setitem : Stmt := inClass (top 96) 3
def d_Book_setitem : DefD := ⟨("Book", some "__setitem__"), "__setitem__", "Book.__setitem__", defArgs s_Book_setitem, defBody s_Book_setitem, defScope s_Book_setitem, [], []⟩
abbrev s_Book_forget : Stmt := inClass (top 96) 4
def d_Book_forget : DefD := ⟨("Book", some "forget"), "forget", "Book.forget", defArgs s_Book_forget, defBody s_Book_forget, defScope s_Book_forget, [], []⟩
abbrev s_Book_len : Stmt := inClass (top 96) 5
def d_Book_len : DefD := ⟨("Book", some "__len__"), "__len__", "Book.__len__", defArgs s_Book_len, defBody s_Book_len, defScope s_Book_len, [], []⟩
abbrev s_Book_eq : Stmt := inClass (top 96) 8
def d_Book_eq : DefD := ⟨("Book", some "__eq__"), "__eq__", "Book.__eq__", defArgs s_Book_eq, defBody s_Book_eq, defScope s_Book_eq, [], []⟩
abbrev s_Book_entries : Stmt := inClass (top 96) 9
def d_Book_entries : DefD := ⟨("Book", some "entries"), "entries", "Book.entries", defArgs s_Book_entries, defBody s_Book_entries, defScope s_Book_entries, [], []⟩
abbrev s_Book_keys_of : Stmt := inClass (top 96) 10
def d_Book_keys_of : DefD := ⟨("Book", some "keys_of"), "keys_of", "Book.keys_of", defArgs s_Book_keys_of, defBody s_Book_keys_of, defScope s_Book_keys_of, [], []⟩
abbrev s_Book_word_of : Stmt := inClass (top 96) 11
def d_Book_word_of : DefD := ⟨("Book", some "word_of"), "word_of", "Book.word_of", defArgs s_Book_word_of, defBody s_Book_word_of, defScope s_Book_word_of, [], []⟩
abbrev s_Book_call : Stmt := inClass (top 96) 13
def d_Book_call : DefD := ⟨("Book", some "__call__"), "__call__", "Book.__call__", defArgs s_Book_call, defBody s_Book_call, defScope s_Book_call, [.str ""], []⟩
abbrev s_Book_begins : Stmt := inClass (top 96) 16
def d_Book_begins : DefD := ⟨("Book", some "begins"), "begins", "Book.begins", defArgs s_Book_begins, defBody s_Book_begins, defScope s_Book_begins, [], []⟩
abbrev s_Book_answers : Stmt := inClass (top 96) 17
def d_Book_answers : DefD := ⟨("Book", some "answers"), "answers", "Book.answers", defArgs s_Book_answers, defBody s_Book_answers, defScope s_Book_answers, [], []⟩
abbrev s_Book_answered : Stmt := inClass (top 96) 18
def d_Book_answered : DefD := ⟨("Book", some "answered"), "answered", "Book.answered", defArgs s_Book_answered, defBody s_Book_answered, defScope s_Book_answered, [], []⟩
abbrev s_Book_covered : Stmt := inClass (top 96) 19
def d_Book_covered : DefD := ⟨("Book", some "covered"), "covered", "Book.covered", defArgs s_Book_covered, defBody s_Book_covered, defScope s_Book_covered, [], []⟩
abbrev s_Book_counts : Stmt := inClass (top 96) 20
def d_Book_counts : DefD := ⟨("Book", some "counts"), "counts", "Book.counts", defArgs s_Book_counts, defBody s_Book_counts, defScope s_Book_counts, [], []⟩
abbrev s_Book_differs : Stmt := inClass (top 96) 21
def d_Book_differs : DefD := ⟨("Book", some "differs"), "differs", "Book.differs", defArgs s_Book_differs, defBody s_Book_differs, defScope s_Book_differs, [], []⟩
abbrev s_Book_fewest : Stmt := inClass (top 96) 22
def d_Book_fewest : DefD := ⟨("Book", some "fewest"), "fewest", "Book.fewest", defArgs s_Book_fewest, defBody s_Book_fewest, defScope s_Book_fewest, [], []⟩
def fn0 : List DefD := [d_is_integer, d_is_from, d_low_zeros, d_number_of, d_mask_number, d_look_prefix, d_look_strict, d_low_end, d_high_end, d_range_pieces, d_pieces, d_merged, d_parts4, d_parts6, d_look_change, d_network_of, d_networks_of, d_summarize, d_cut, d_plan, d_entries_of, d_fewest_entries, d_look_version, d_width_of, d_runs_of]
def fn1 : List DefD := [d_set_of, d_is_word, d__law_well, d__law_draw, d__law_number, d__law_address, d__law_cuts, d__law_ones, d__law_pieces, d__law_words, d__law_ranges, d__law_summed, d__law_book, d__law_joined, d__law_size, d__law_points_right, d__law_sets_right, d__law_word_at, d__law_entries_right, d__law_halved, d__law_few_right, d__law_changed_right, d_law, d_Address4_init, d_Address4_eq]
def fn2 : List DefD := [d_Address6_init, d_Address6_eq, d_Network4_init, d_Network4_eq, d_Network4_subnets, d_Network6_init, d_Network6_eq, d_Network6_subnets, d_Runs_init, d_Netset_init, d_Book_init, d_Book_is_own, d_Book_look_address, d_Book_setitem, d_Book_forget, d_Book_len, d_Book_eq, d_Book_entries, d_Book_keys_of, d_Book_word_of, d_Book_call, d_Book_begins, d_Book_answers, d_Book_answered, d_Book_covered]
def fn3 : List DefD := [d_Book_counts, d_Book_differs, d_Book_fewest]
def fn : List DefD := fn0 ++ fn1 ++ fn2 ++ fn3
def fa0 : List Fa := [.glo "is_integer", .glo "is_from", .glo "low_zeros", .glo "number_of", .glo "mask_number", .glo "look_prefix", .glo "look_strict", .glo "low_end", .glo "high_end", .glo "range_pieces", .glo "pieces", .glo "merged", .glo "parts4", .glo "parts6", .glo "look_change", .glo "network_of", .glo "networks_of", .glo "summarize", .glo "cut", .glo "plan", .glo "entries_of", .glo "fewest_entries", .glo "look_version", .glo "width_of", .glo "runs_of"]
def fa1 : List Fa := [.glo "set_of", .glo "is_word", .glo "_law_well", .glo "_law_draw", .glo "_law_number", .glo "_law_address", .glo "_law_cuts", .glo "_law_ones", .glo "_law_pieces", .glo "_law_words", .glo "_law_ranges", .glo "_law_summed", .glo "_law_book", .glo "_law_joined", .glo "_law_size", .glo "_law_points_right", .glo "_law_sets_right", .glo "_law_word_at", .glo "_law_entries_right", .glo "_law_halved", .glo "_law_few_right", .glo "_law_changed_right", .glo "law", .glo "Address4", .glo "Address6"]
def fa2 : List Fa := [.glo "Network4", .glo "Network6", .glo "Runs", .glo "Netset", .glo "Book", .free "len", .free "isinstance", .free "int", .free "bool", .free "str", .free "all", .free "min", .free "max", .free "range", .free "sorted", .free "set", .free "tuple", .free "list", .free "sum", .free "zip", .cls "Address4", .cls "Address6", .cls "Network4", .cls "Network6", .cls "Runs"]
def fa3 : List Fa := [.cls "Netset", .cls "Book", .mkr "Address4", .mkr "Address6", .mkr "Network4", .mkr "Network6", .mkr "Runs", .mkr "Netset", .mkr "Book", .meth "Address4" "__init__", .meth "Address4" "__eq__", .meth "Address6" "__init__", .meth "Address6" "__eq__", .meth "Network4" "__init__", .meth "Network4" "__eq__", .meth "Network4" "subnets", .meth "Network6" "__init__", .meth "Network6" "__eq__", .meth "Network6" "subnets", .meth "Runs" "__init__", .meth "Netset" "__init__", .meth "Book" "__init__", .meth "Book" "is_own", .meth "Book" "look_address", .meth "Book" "__setitem__"]
def fa4 : List Fa := [.meth "Book" "forget", .meth "Book" "__len__", .meth "Book" "__eq__", .meth "Book" "entries", .meth "Book" "keys_of", .meth "Book" "word_of", .meth "Book" "__call__", .meth "Book" "begins", .meth "Book" "answers", .meth "Book" "answered", .meth "Book" "covered", .meth "Book" "counts", .meth "Book" "differs", .meth "Book" "fewest", .int "WIDTH4" 32, .int "WIDTH6" 128, .int "MOST_LETTERS" 20, .int "MOST_DOWN" 12, .str "LETTERS" "abcdefghijklmnopqrstuvwxyz", .noat "Address4" "number", .noat "Address6" "number", .noat "Network4" "first", .noat "Network4" "last", .noat "Network4" "prefix", .noat "Network4" "size"]
def fa5 : List Fa := [.noat "Network4" "mask", .noat "Network4" "hostmask", .noat "Network4" "rank", .noat "Network6" "first", .noat "Network6" "last", .noat "Network6" "prefix", .noat "Network6" "size", .noat "Network6" "mask", .noat "Network6" "hostmask", .noat "Network6" "rank", .noat "Runs" "ranges", .noat "Netset" "version", .noat "Netset" "ranges", .noat "Netset" "size", .noat "Book" "version", .noat "Book" "width", .noat "Book" "rows"]
def fa : List Fa := fa0 ++ fa1 ++ fa2 ++ fa3 ++ fa4 ++ fa5

theorem con_of {K : PySem.W.Frag} {C : Addr} {f : Str} {v : Int} (hc : PySem.W.copiedNames.contains f = false) (h : (match PySem.W.findIn K (.ref C) f with
    | some (some (.int j t)) => decide (j = v) && decide (PySem.W.specialIn K (.int j t) "__get__" = some none)
    | _ => false) = true) : ∃ t, Con K C f (.int v) (.int v t) := by
  cases q : PySem.W.findIn K (.ref C) f with
  | none => rw [q] at h; cases h
  | some o =>
    rw [q] at h
    cases o with
    | none => cases h
    | some u =>
      cases u with
      | int j t =>
        obtain ⟨h1, h2⟩ := ba h
        have e : j = v := of_decide_eq_true h1
        subst e
        exact ⟨t, ⟨q, ⟨t, rfl⟩, of_decide_eq_true h2, hc⟩⟩
      | _ => cases h
def exB (K : PySem.W.Frag) : Bool :=
  (decide (PySem.W.kitOne K (.ref (ga K "Address4")) (.ref (ga K "Address4")) = some true)) &&
  ((decide (PySem.W.kitOne K (.ref (ga K "Address6")) (.ref (ga K "Address4")) = some false)) &&
  ((decide (PySem.W.kitOne K (.ref (ga K "Address6")) (.ref (ga K "Address6")) = some true)) &&
  ((decide (PySem.W.kitOne K (.ref (ga K "Address4")) (.ref (ga K "Address6")) = some false)) &&
  ((decide (PySem.W.kitOne K (.ref (ga K "Network4")) (.ref (ga K "Network4")) = some true)) &&
  ((decide (PySem.W.kitOne K (.ref (ga K "Network6")) (.ref (ga K "Network4")) = some false)) &&
  ((decide (PySem.W.kitOne K (.ref (ga K "Network6")) (.ref (ga K "Network6")) = some true)) &&
  ((decide (PySem.W.kitOne K (.ref (ga K "Network4")) (.ref (ga K "Network6")) = some false)) &&
  ((decide (PySem.W.kitOne K (.ref (ga K "Runs")) (.ref (ga K "Runs")) = some true)) &&
  ((decide (PySem.W.kitOne K (.ref (ga K "Book")) (.ref (ga K "Book")) = some true)) &&
  ((decide (PySem.W.kitOne K (.type "int") (.ref (ga K "Address4")) = some false)) &&
  ((decide (PySem.W.kitOne K (.ref (ga K "Address4")) (.type "str") = some false)) &&
  ((decide (PySem.W.kitOne K (.type "int") (.ref (ga K "Address6")) = some false)) &&
  ((decide (PySem.W.kitOne K (.ref (ga K "Address6")) (.type "str") = some false)) &&
  (((match PySem.W.findIn K (.ref (ga K "Address4")) "VERSION" with
    | some (some (.int j t)) => decide (j = 4) && decide (PySem.W.specialIn K (.int j t) "__get__" = some none)
    | _ => false)) &&
  (((match PySem.W.findIn K (.ref (ga K "Address4")) "WIDTH" with
    | some (some (.int j t)) => decide (j = 32) && decide (PySem.W.specialIn K (.int j t) "__get__" = some none)
    | _ => false)) &&
  (((match PySem.W.findIn K (.ref (ga K "Address6")) "VERSION" with
    | some (some (.int j t)) => decide (j = 6) && decide (PySem.W.specialIn K (.int j t) "__get__" = some none)
    | _ => false)) &&
  (((match PySem.W.findIn K (.ref (ga K "Address6")) "WIDTH" with
    | some (some (.int j t)) => decide (j = 128) && decide (PySem.W.specialIn K (.int j t) "__get__" = some none)
    | _ => false)) &&
  (((match PySem.W.findIn K (.ref (ga K "Network4")) "VERSION" with
    | some (some (.int j t)) => decide (j = 4) && decide (PySem.W.specialIn K (.int j t) "__get__" = some none)
    | _ => false)) &&
  (((match PySem.W.findIn K (.ref (ga K "Network4")) "WIDTH" with
    | some (some (.int j t)) => decide (j = 32) && decide (PySem.W.specialIn K (.int j t) "__get__" = some none)
    | _ => false)) &&
  (((match PySem.W.findIn K (.ref (ga K "Network6")) "VERSION" with
    | some (some (.int j t)) => decide (j = 6) && decide (PySem.W.specialIn K (.int j t) "__get__" = some none)
    | _ => false)) &&
  (((match PySem.W.findIn K (.ref (ga K "Network6")) "WIDTH" with
    | some (some (.int j t)) => decide (j = 128) && decide (PySem.W.specialIn K (.int j t) "__get__" = some none)
    | _ => false)) &&
  ((decide (PySem.W.findIn K (.ref (ga K "Address4")) "__ne__" = some (some (.builtin "object.__ne__")))) &&
  ((decide (PySem.W.findIn K (.ref (ga K "Address6")) "__ne__" = some (some (.builtin "object.__ne__")))) &&
  ((decide (PySem.W.findIn K (.ref (ga K "Address4")) "__class__" = some (some (.builtin "object.__class__")))) &&
  ((decide (PySem.W.mroIn K (ga K "Address4") (.type "object") = some true)) &&
  ((decide (PySem.W.findIn K (.ref (ga K "Address6")) "__class__" = some (some (.builtin "object.__class__")))) &&
  ((decide (PySem.W.mroIn K (ga K "Address6") (.type "object") = some true)) &&
  ((decide (PySem.W.findIn K (.ref (ga K "Network4")) "__class__" = some (some (.builtin "object.__class__")))) &&
  ((decide (PySem.W.mroIn K (ga K "Network4") (.type "object") = some true)) &&
  ((decide (PySem.W.findIn K (.ref (ga K "Network6")) "__class__" = some (some (.builtin "object.__class__")))) &&
  ((decide (PySem.W.mroIn K (ga K "Network6") (.type "object") = some true)) &&
  ((decide (PySem.W.findIn K (.ref (ga K "Runs")) "__class__" = some (some (.builtin "object.__class__")))) &&
  ((decide (PySem.W.mroIn K (ga K "Runs") (.type "object") = some true)) &&
  ((decide (PySem.W.findIn K (.ref (ga K "Netset")) "__class__" = some (some (.builtin "object.__class__")))) &&
  ((decide (PySem.W.mroIn K (ga K "Netset") (.type "object") = some true)) &&
  ((decide (PySem.W.findIn K (.ref (ga K "Book")) "__class__" = some (some (.builtin "object.__class__")))) &&
  ((decide (PySem.W.mroIn K (ga K "Book") (.type "object") = some true)) &&
  ((PySem.W.fnIn K (ma K (ga K "Book") "__call__")) &&
  ((PySem.W.noSeq K (ga K "Book")) &&
  ((PySem.W.isClsIn K (ga K "Book")) &&
  ((decide (PySem.W.findIn K (.ref (ga K "Netset")) "nets" = some (some (.ref (ma K (ga K "Netset") "nets")))) && (decide (PySem.W.specialIn K (.ref (ma K (ga K "Netset") "nets")) "__get__" = some (some (.builtin "property.__get__"))) && (decide (PySem.W.takesIn K (.ref (ma K (ga K "Netset") "nets")) = some true) && (match PySem.W.recIn K (ma K (ga K "Netset") "nets") "property" with
    | some (.ref _ :: _) => true
    | _ => false)))) &&
  ((netsB K)))))))))))))))))))))))))))))))))))))))))))
/-- what the walk knows of the top -/
structure Cxt (K : PySem.W.Frag) (mg : Str → Option Value) : Prop where
  g_is_integer : mg "is_integer" = some (.ref (ga K "is_integer"))
  g_is_from : mg "is_from" = some (.ref (ga K "is_from"))
  g_low_zeros : mg "low_zeros" = some (.ref (ga K "low_zeros"))
  g_number_of : mg "number_of" = some (.ref (ga K "number_of"))
  g_mask_number : mg "mask_number" = some (.ref (ga K "mask_number"))
  g_look_prefix : mg "look_prefix" = some (.ref (ga K "look_prefix"))
  g_look_strict : mg "look_strict" = some (.ref (ga K "look_strict"))
  g_low_end : mg "low_end" = some (.ref (ga K "low_end"))
  g_high_end : mg "high_end" = some (.ref (ga K "high_end"))
  g_range_pieces : mg "range_pieces" = some (.ref (ga K "range_pieces"))
  g_pieces : mg "pieces" = some (.ref (ga K "pieces"))
  g_merged : mg "merged" = some (.ref (ga K "merged"))
  g_parts4 : mg "parts4" = some (.ref (ga K "parts4"))
  g_parts6 : mg "parts6" = some (.ref (ga K "parts6"))
  g_look_change : mg "look_change" = some (.ref (ga K "look_change"))
  g_network_of : mg "network_of" = some (.ref (ga K "network_of"))
  g_networks_of : mg "networks_of" = some (.ref (ga K "networks_of"))
  g_summarize : mg "summarize" = some (.ref (ga K "summarize"))
  g_cut : mg "cut" = some (.ref (ga K "cut"))
  g_plan : mg "plan" = some (.ref (ga K "plan"))
  g_entries_of : mg "entries_of" = some (.ref (ga K "entries_of"))
  g_fewest_entries : mg "fewest_entries" = some (.ref (ga K "fewest_entries"))
  g_look_version : mg "look_version" = some (.ref (ga K "look_version"))
  g_width_of : mg "width_of" = some (.ref (ga K "width_of"))
  g_runs_of : mg "runs_of" = some (.ref (ga K "runs_of"))
  g_set_of : mg "set_of" = some (.ref (ga K "set_of"))
  g_is_word : mg "is_word" = some (.ref (ga K "is_word"))
  g__law_well : mg "_law_well" = some (.ref (ga K "_law_well"))
  g__law_draw : mg "_law_draw" = some (.ref (ga K "_law_draw"))
  g__law_number : mg "_law_number" = some (.ref (ga K "_law_number"))
  g__law_address : mg "_law_address" = some (.ref (ga K "_law_address"))
  g__law_cuts : mg "_law_cuts" = some (.ref (ga K "_law_cuts"))
  g__law_ones : mg "_law_ones" = some (.ref (ga K "_law_ones"))
  g__law_pieces : mg "_law_pieces" = some (.ref (ga K "_law_pieces"))
  g__law_words : mg "_law_words" = some (.ref (ga K "_law_words"))
  g__law_ranges : mg "_law_ranges" = some (.ref (ga K "_law_ranges"))
  g__law_summed : mg "_law_summed" = some (.ref (ga K "_law_summed"))
  g__law_book : mg "_law_book" = some (.ref (ga K "_law_book"))
  g__law_joined : mg "_law_joined" = some (.ref (ga K "_law_joined"))
  g__law_size : mg "_law_size" = some (.ref (ga K "_law_size"))
  g__law_points_right : mg "_law_points_right" = some (.ref (ga K "_law_points_right"))
  g__law_sets_right : mg "_law_sets_right" = some (.ref (ga K "_law_sets_right"))
  g__law_word_at : mg "_law_word_at" = some (.ref (ga K "_law_word_at"))
  g__law_entries_right : mg "_law_entries_right" = some (.ref (ga K "_law_entries_right"))
  g__law_halved : mg "_law_halved" = some (.ref (ga K "_law_halved"))
  g__law_few_right : mg "_law_few_right" = some (.ref (ga K "_law_few_right"))
  g__law_changed_right : mg "_law_changed_right" = some (.ref (ga K "_law_changed_right"))
  g_law : mg "law" = some (.ref (ga K "law"))
  g_Address4 : mg "Address4" = some (.ref (ga K "Address4"))
  g_Address6 : mg "Address6" = some (.ref (ga K "Address6"))
  g_Network4 : mg "Network4" = some (.ref (ga K "Network4"))
  g_Network6 : mg "Network6" = some (.ref (ga K "Network6"))
  g_Runs : mg "Runs" = some (.ref (ga K "Runs"))
  g_Netset : mg "Netset" = some (.ref (ga K "Netset"))
  g_Book : mg "Book" = some (.ref (ga K "Book"))
  z_len : mg "len" = none
  z_isinstance : mg "isinstance" = none
  z_int : mg "int" = none
  z_bool : mg "bool" = none
  z_str : mg "str" = none
  z_all : mg "all" = none
  z_min : mg "min" = none
  z_max : mg "max" = none
  z_range : mg "range" = none
  z_sorted : mg "sorted" = none
  z_set : mg "set" = none
  z_tuple : mg "tuple" = none
  z_list : mg "list" = none
  z_sum : mg "sum" = none
  z_zip : mg "zip" = none
  c_Address4 : Cls K (ga K "Address4")
  c_Address6 : Cls K (ga K "Address6")
  c_Network4 : Cls K (ga K "Network4")
  c_Network6 : Cls K (ga K "Network6")
  c_Runs : Cls K (ga K "Runs")
  c_Netset : Cls K (ga K "Netset")
  c_Book : Cls K (ga K "Book")
  mk_Address4 : Mk K (ga K "Address4") (ma K (ga K "Address4") "__init__")
  mk_Address6 : Mk K (ga K "Address6") (ma K (ga K "Address6") "__init__")
  mk_Network4 : Mk K (ga K "Network4") (ma K (ga K "Network4") "__init__")
  mk_Network6 : Mk K (ga K "Network6") (ma K (ga K "Network6") "__init__")
  mk_Runs : Mk K (ga K "Runs") (ma K (ga K "Runs") "__init__")
  mk_Netset : Mk K (ga K "Netset") (ma K (ga K "Netset") "__init__")
  mk_Book : Mk K (ga K "Book") (ma K (ga K "Book") "__init__")
  m_Address4_init : Meth K (ga K "Address4") "__init__" (ma K (ga K "Address4") "__init__")
  m_Address4_eq : Meth K (ga K "Address4") "__eq__" (ma K (ga K "Address4") "__eq__")
  m_Address6_init : Meth K (ga K "Address6") "__init__" (ma K (ga K "Address6") "__init__")
  m_Address6_eq : Meth K (ga K "Address6") "__eq__" (ma K (ga K "Address6") "__eq__")
  m_Network4_init : Meth K (ga K "Network4") "__init__" (ma K (ga K "Network4") "__init__")
  m_Network4_eq : Meth K (ga K "Network4") "__eq__" (ma K (ga K "Network4") "__eq__")
  m_Network4_subnets : Meth K (ga K "Network4") "subnets" (ma K (ga K "Network4") "subnets")
  m_Network6_init : Meth K (ga K "Network6") "__init__" (ma K (ga K "Network6") "__init__")
  m_Network6_eq : Meth K (ga K "Network6") "__eq__" (ma K (ga K "Network6") "__eq__")
  m_Network6_subnets : Meth K (ga K "Network6") "subnets" (ma K (ga K "Network6") "subnets")
  m_Runs_init : Meth K (ga K "Runs") "__init__" (ma K (ga K "Runs") "__init__")
  m_Netset_init : Meth K (ga K "Netset") "__init__" (ma K (ga K "Netset") "__init__")
  m_Book_init : Meth K (ga K "Book") "__init__" (ma K (ga K "Book") "__init__")
  m_Book_is_own : Meth K (ga K "Book") "is_own" (ma K (ga K "Book") "is_own")
  m_Book_look_address : Meth K (ga K "Book") "look_address" (ma K (ga K "Book") "look_address")
  m_Book_setitem : Meth K (ga K "Book") "__setitem__" (ma K (ga K "Book") "__setitem__")
  m_Book_forget : Meth K (ga K "Book") "forget" (ma K (ga K "Book") "forget")
  m_Book_len : Meth K (ga K "Book") "__len__" (ma K (ga K "Book") "__len__")
  m_Book_eq : Meth K (ga K "Book") "__eq__" (ma K (ga K "Book") "__eq__")
  m_Book_entries : Meth K (ga K "Book") "entries" (ma K (ga K "Book") "entries")
  m_Book_keys_of : Meth K (ga K "Book") "keys_of" (ma K (ga K "Book") "keys_of")
  m_Book_word_of : Meth K (ga K "Book") "word_of" (ma K (ga K "Book") "word_of")
  m_Book_call : Meth K (ga K "Book") "__call__" (ma K (ga K "Book") "__call__")
  m_Book_begins : Meth K (ga K "Book") "begins" (ma K (ga K "Book") "begins")
  m_Book_answers : Meth K (ga K "Book") "answers" (ma K (ga K "Book") "answers")
  m_Book_answered : Meth K (ga K "Book") "answered" (ma K (ga K "Book") "answered")
  m_Book_covered : Meth K (ga K "Book") "covered" (ma K (ga K "Book") "covered")
  m_Book_counts : Meth K (ga K "Book") "counts" (ma K (ga K "Book") "counts")
  m_Book_differs : Meth K (ga K "Book") "differs" (ma K (ga K "Book") "differs")
  m_Book_fewest : Meth K (ga K "Book") "fewest" (ma K (ga K "Book") "fewest")
  i_WIDTH4 : ∃ t, mg "WIDTH4" = some (.int 32 t)
  i_WIDTH6 : ∃ t, mg "WIDTH6" = some (.int 128 t)
  i_MOST_LETTERS : ∃ t, mg "MOST_LETTERS" = some (.int 20 t)
  i_MOST_DOWN : ∃ t, mg "MOST_DOWN" = some (.int 12 t)
  t_LETTERS : ∃ t, mg "LETTERS" = some (.str "abcdefghijklmnopqrstuvwxyz" t)
  n_Address4_number : NoAttr K (ga K "Address4") "number"
  n_Address6_number : NoAttr K (ga K "Address6") "number"
  n_Network4_first : NoAttr K (ga K "Network4") "first"
  n_Network4_last : NoAttr K (ga K "Network4") "last"
  n_Network4_prefix : NoAttr K (ga K "Network4") "prefix"
  n_Network4_size : NoAttr K (ga K "Network4") "size"
  n_Network4_mask : NoAttr K (ga K "Network4") "mask"
  n_Network4_hostmask : NoAttr K (ga K "Network4") "hostmask"
  n_Network4_rank : NoAttr K (ga K "Network4") "rank"
  n_Network6_first : NoAttr K (ga K "Network6") "first"
  n_Network6_last : NoAttr K (ga K "Network6") "last"
  n_Network6_prefix : NoAttr K (ga K "Network6") "prefix"
  n_Network6_size : NoAttr K (ga K "Network6") "size"
  n_Network6_mask : NoAttr K (ga K "Network6") "mask"
  n_Network6_hostmask : NoAttr K (ga K "Network6") "hostmask"
  n_Network6_rank : NoAttr K (ga K "Network6") "rank"
  n_Runs_ranges : NoAttr K (ga K "Runs") "ranges"
  n_Netset_version : NoAttr K (ga K "Netset") "version"
  n_Netset_ranges : NoAttr K (ga K "Netset") "ranges"
  n_Netset_size : NoAttr K (ga K "Netset") "size"
  n_Book_version : NoAttr K (ga K "Book") "version"
  n_Book_width : NoAttr K (ga K "Book") "width"
  n_Book_rows : NoAttr K (ga K "Book") "rows"
  F_is_integer : ∃ fd, FunD K d_is_integer.name d_is_integer.qual d_is_integer.params d_is_integer.body d_is_integer.scope (d_is_integer.dvs K) (d_is_integer.kws K) (fAd K d_is_integer.at_) fd
  F_is_from : ∃ fd, FunD K d_is_from.name d_is_from.qual d_is_from.params d_is_from.body d_is_from.scope (d_is_from.dvs K) (d_is_from.kws K) (fAd K d_is_from.at_) fd
  F_low_zeros : ∃ fd, FunD K d_low_zeros.name d_low_zeros.qual d_low_zeros.params d_low_zeros.body d_low_zeros.scope (d_low_zeros.dvs K) (d_low_zeros.kws K) (fAd K d_low_zeros.at_) fd
  F_number_of : ∃ fd, FunD K d_number_of.name d_number_of.qual d_number_of.params d_number_of.body d_number_of.scope (d_number_of.dvs K) (d_number_of.kws K) (fAd K d_number_of.at_) fd
  F_mask_number : ∃ fd, FunD K d_mask_number.name d_mask_number.qual d_mask_number.params d_mask_number.body d_mask_number.scope (d_mask_number.dvs K) (d_mask_number.kws K) (fAd K d_mask_number.at_) fd
  F_look_prefix : ∃ fd, FunD K d_look_prefix.name d_look_prefix.qual d_look_prefix.params d_look_prefix.body d_look_prefix.scope (d_look_prefix.dvs K) (d_look_prefix.kws K) (fAd K d_look_prefix.at_) fd
  F_look_strict : ∃ fd, FunD K d_look_strict.name d_look_strict.qual d_look_strict.params d_look_strict.body d_look_strict.scope (d_look_strict.dvs K) (d_look_strict.kws K) (fAd K d_look_strict.at_) fd
  F_low_end : ∃ fd, FunD K d_low_end.name d_low_end.qual d_low_end.params d_low_end.body d_low_end.scope (d_low_end.dvs K) (d_low_end.kws K) (fAd K d_low_end.at_) fd
  F_high_end : ∃ fd, FunD K d_high_end.name d_high_end.qual d_high_end.params d_high_end.body d_high_end.scope (d_high_end.dvs K) (d_high_end.kws K) (fAd K d_high_end.at_) fd
  F_range_pieces : ∃ fd, FunD K d_range_pieces.name d_range_pieces.qual d_range_pieces.params d_range_pieces.body d_range_pieces.scope (d_range_pieces.dvs K) (d_range_pieces.kws K) (fAd K d_range_pieces.at_) fd
  F_pieces : ∃ fd, FunD K d_pieces.name d_pieces.qual d_pieces.params d_pieces.body d_pieces.scope (d_pieces.dvs K) (d_pieces.kws K) (fAd K d_pieces.at_) fd
  F_merged : ∃ fd, FunD K d_merged.name d_merged.qual d_merged.params d_merged.body d_merged.scope (d_merged.dvs K) (d_merged.kws K) (fAd K d_merged.at_) fd
  F_parts4 : ∃ fd, FunD K d_parts4.name d_parts4.qual d_parts4.params d_parts4.body d_parts4.scope (d_parts4.dvs K) (d_parts4.kws K) (fAd K d_parts4.at_) fd
  F_parts6 : ∃ fd, FunD K d_parts6.name d_parts6.qual d_parts6.params d_parts6.body d_parts6.scope (d_parts6.dvs K) (d_parts6.kws K) (fAd K d_parts6.at_) fd
  F_look_change : ∃ fd, FunD K d_look_change.name d_look_change.qual d_look_change.params d_look_change.body d_look_change.scope (d_look_change.dvs K) (d_look_change.kws K) (fAd K d_look_change.at_) fd
  F_network_of : ∃ fd, FunD K d_network_of.name d_network_of.qual d_network_of.params d_network_of.body d_network_of.scope (d_network_of.dvs K) (d_network_of.kws K) (fAd K d_network_of.at_) fd
  F_networks_of : ∃ fd, FunD K d_networks_of.name d_networks_of.qual d_networks_of.params d_networks_of.body d_networks_of.scope (d_networks_of.dvs K) (d_networks_of.kws K) (fAd K d_networks_of.at_) fd
  F_summarize : ∃ fd, FunD K d_summarize.name d_summarize.qual d_summarize.params d_summarize.body d_summarize.scope (d_summarize.dvs K) (d_summarize.kws K) (fAd K d_summarize.at_) fd
  F_cut : ∃ fd, FunD K d_cut.name d_cut.qual d_cut.params d_cut.body d_cut.scope (d_cut.dvs K) (d_cut.kws K) (fAd K d_cut.at_) fd
  F_plan : ∃ fd, FunD K d_plan.name d_plan.qual d_plan.params d_plan.body d_plan.scope (d_plan.dvs K) (d_plan.kws K) (fAd K d_plan.at_) fd
  F_entries_of : ∃ fd, FunD K d_entries_of.name d_entries_of.qual d_entries_of.params d_entries_of.body d_entries_of.scope (d_entries_of.dvs K) (d_entries_of.kws K) (fAd K d_entries_of.at_) fd
  F_fewest_entries : ∃ fd, FunD K d_fewest_entries.name d_fewest_entries.qual d_fewest_entries.params d_fewest_entries.body d_fewest_entries.scope (d_fewest_entries.dvs K) (d_fewest_entries.kws K) (fAd K d_fewest_entries.at_) fd
  F_look_version : ∃ fd, FunD K d_look_version.name d_look_version.qual d_look_version.params d_look_version.body d_look_version.scope (d_look_version.dvs K) (d_look_version.kws K) (fAd K d_look_version.at_) fd
  F_width_of : ∃ fd, FunD K d_width_of.name d_width_of.qual d_width_of.params d_width_of.body d_width_of.scope (d_width_of.dvs K) (d_width_of.kws K) (fAd K d_width_of.at_) fd
  F_runs_of : ∃ fd, FunD K d_runs_of.name d_runs_of.qual d_runs_of.params d_runs_of.body d_runs_of.scope (d_runs_of.dvs K) (d_runs_of.kws K) (fAd K d_runs_of.at_) fd
  F_set_of : ∃ fd, FunD K d_set_of.name d_set_of.qual d_set_of.params d_set_of.body d_set_of.scope (d_set_of.dvs K) (d_set_of.kws K) (fAd K d_set_of.at_) fd
  F_is_word : ∃ fd, FunD K d_is_word.name d_is_word.qual d_is_word.params d_is_word.body d_is_word.scope (d_is_word.dvs K) (d_is_word.kws K) (fAd K d_is_word.at_) fd
  F__law_well : ∃ fd, FunD K d__law_well.name d__law_well.qual d__law_well.params d__law_well.body d__law_well.scope (d__law_well.dvs K) (d__law_well.kws K) (fAd K d__law_well.at_) fd
  F__law_draw : ∃ fd, FunD K d__law_draw.name d__law_draw.qual d__law_draw.params d__law_draw.body d__law_draw.scope (d__law_draw.dvs K) (d__law_draw.kws K) (fAd K d__law_draw.at_) fd
  F__law_number : ∃ fd, FunD K d__law_number.name d__law_number.qual d__law_number.params d__law_number.body d__law_number.scope (d__law_number.dvs K) (d__law_number.kws K) (fAd K d__law_number.at_) fd
  F__law_address : ∃ fd, FunD K d__law_address.name d__law_address.qual d__law_address.params d__law_address.body d__law_address.scope (d__law_address.dvs K) (d__law_address.kws K) (fAd K d__law_address.at_) fd
  F__law_cuts : ∃ fd, FunD K d__law_cuts.name d__law_cuts.qual d__law_cuts.params d__law_cuts.body d__law_cuts.scope (d__law_cuts.dvs K) (d__law_cuts.kws K) (fAd K d__law_cuts.at_) fd
  F__law_ones : ∃ fd, FunD K d__law_ones.name d__law_ones.qual d__law_ones.params d__law_ones.body d__law_ones.scope (d__law_ones.dvs K) (d__law_ones.kws K) (fAd K d__law_ones.at_) fd
  F__law_pieces : ∃ fd, FunD K d__law_pieces.name d__law_pieces.qual d__law_pieces.params d__law_pieces.body d__law_pieces.scope (d__law_pieces.dvs K) (d__law_pieces.kws K) (fAd K d__law_pieces.at_) fd
  F__law_words : ∃ fd, FunD K d__law_words.name d__law_words.qual d__law_words.params d__law_words.body d__law_words.scope (d__law_words.dvs K) (d__law_words.kws K) (fAd K d__law_words.at_) fd
  F__law_ranges : ∃ fd, FunD K d__law_ranges.name d__law_ranges.qual d__law_ranges.params d__law_ranges.body d__law_ranges.scope (d__law_ranges.dvs K) (d__law_ranges.kws K) (fAd K d__law_ranges.at_) fd
  F__law_summed : ∃ fd, FunD K d__law_summed.name d__law_summed.qual d__law_summed.params d__law_summed.body d__law_summed.scope (d__law_summed.dvs K) (d__law_summed.kws K) (fAd K d__law_summed.at_) fd
  F__law_book : ∃ fd, FunD K d__law_book.name d__law_book.qual d__law_book.params d__law_book.body d__law_book.scope (d__law_book.dvs K) (d__law_book.kws K) (fAd K d__law_book.at_) fd
  F__law_joined : ∃ fd, FunD K d__law_joined.name d__law_joined.qual d__law_joined.params d__law_joined.body d__law_joined.scope (d__law_joined.dvs K) (d__law_joined.kws K) (fAd K d__law_joined.at_) fd
  F__law_size : ∃ fd, FunD K d__law_size.name d__law_size.qual d__law_size.params d__law_size.body d__law_size.scope (d__law_size.dvs K) (d__law_size.kws K) (fAd K d__law_size.at_) fd
  F__law_points_right : ∃ fd, FunD K d__law_points_right.name d__law_points_right.qual d__law_points_right.params d__law_points_right.body d__law_points_right.scope (d__law_points_right.dvs K) (d__law_points_right.kws K) (fAd K d__law_points_right.at_) fd
  F__law_sets_right : ∃ fd, FunD K d__law_sets_right.name d__law_sets_right.qual d__law_sets_right.params d__law_sets_right.body d__law_sets_right.scope (d__law_sets_right.dvs K) (d__law_sets_right.kws K) (fAd K d__law_sets_right.at_) fd
  F__law_word_at : ∃ fd, FunD K d__law_word_at.name d__law_word_at.qual d__law_word_at.params d__law_word_at.body d__law_word_at.scope (d__law_word_at.dvs K) (d__law_word_at.kws K) (fAd K d__law_word_at.at_) fd
  F__law_entries_right : ∃ fd, FunD K d__law_entries_right.name d__law_entries_right.qual d__law_entries_right.params d__law_entries_right.body d__law_entries_right.scope (d__law_entries_right.dvs K) (d__law_entries_right.kws K) (fAd K d__law_entries_right.at_) fd
  F__law_halved : ∃ fd, FunD K d__law_halved.name d__law_halved.qual d__law_halved.params d__law_halved.body d__law_halved.scope (d__law_halved.dvs K) (d__law_halved.kws K) (fAd K d__law_halved.at_) fd
  F__law_few_right : ∃ fd, FunD K d__law_few_right.name d__law_few_right.qual d__law_few_right.params d__law_few_right.body d__law_few_right.scope (d__law_few_right.dvs K) (d__law_few_right.kws K) (fAd K d__law_few_right.at_) fd
  F__law_changed_right : ∃ fd, FunD K d__law_changed_right.name d__law_changed_right.qual d__law_changed_right.params d__law_changed_right.body d__law_changed_right.scope (d__law_changed_right.dvs K) (d__law_changed_right.kws K) (fAd K d__law_changed_right.at_) fd
  F_law : ∃ fd, FunD K d_law.name d_law.qual d_law.params d_law.body d_law.scope (d_law.dvs K) (d_law.kws K) (fAd K d_law.at_) fd
  F_Address4_init : ∃ fd, FunD K d_Address4_init.name d_Address4_init.qual d_Address4_init.params d_Address4_init.body d_Address4_init.scope (d_Address4_init.dvs K) (d_Address4_init.kws K) (fAd K d_Address4_init.at_) fd
  F_Address4_eq : ∃ fd, FunD K d_Address4_eq.name d_Address4_eq.qual d_Address4_eq.params d_Address4_eq.body d_Address4_eq.scope (d_Address4_eq.dvs K) (d_Address4_eq.kws K) (fAd K d_Address4_eq.at_) fd
  F_Address6_init : ∃ fd, FunD K d_Address6_init.name d_Address6_init.qual d_Address6_init.params d_Address6_init.body d_Address6_init.scope (d_Address6_init.dvs K) (d_Address6_init.kws K) (fAd K d_Address6_init.at_) fd
  F_Address6_eq : ∃ fd, FunD K d_Address6_eq.name d_Address6_eq.qual d_Address6_eq.params d_Address6_eq.body d_Address6_eq.scope (d_Address6_eq.dvs K) (d_Address6_eq.kws K) (fAd K d_Address6_eq.at_) fd
  F_Network4_init : ∃ fd, FunD K d_Network4_init.name d_Network4_init.qual d_Network4_init.params d_Network4_init.body d_Network4_init.scope (d_Network4_init.dvs K) (d_Network4_init.kws K) (fAd K d_Network4_init.at_) fd
  F_Network4_eq : ∃ fd, FunD K d_Network4_eq.name d_Network4_eq.qual d_Network4_eq.params d_Network4_eq.body d_Network4_eq.scope (d_Network4_eq.dvs K) (d_Network4_eq.kws K) (fAd K d_Network4_eq.at_) fd
  F_Network4_subnets : ∃ fd, FunD K d_Network4_subnets.name d_Network4_subnets.qual d_Network4_subnets.params d_Network4_subnets.body d_Network4_subnets.scope (d_Network4_subnets.dvs K) (d_Network4_subnets.kws K) (fAd K d_Network4_subnets.at_) fd
  F_Network6_init : ∃ fd, FunD K d_Network6_init.name d_Network6_init.qual d_Network6_init.params d_Network6_init.body d_Network6_init.scope (d_Network6_init.dvs K) (d_Network6_init.kws K) (fAd K d_Network6_init.at_) fd
  F_Network6_eq : ∃ fd, FunD K d_Network6_eq.name d_Network6_eq.qual d_Network6_eq.params d_Network6_eq.body d_Network6_eq.scope (d_Network6_eq.dvs K) (d_Network6_eq.kws K) (fAd K d_Network6_eq.at_) fd
  F_Network6_subnets : ∃ fd, FunD K d_Network6_subnets.name d_Network6_subnets.qual d_Network6_subnets.params d_Network6_subnets.body d_Network6_subnets.scope (d_Network6_subnets.dvs K) (d_Network6_subnets.kws K) (fAd K d_Network6_subnets.at_) fd
  F_Runs_init : ∃ fd, FunD K d_Runs_init.name d_Runs_init.qual d_Runs_init.params d_Runs_init.body d_Runs_init.scope (d_Runs_init.dvs K) (d_Runs_init.kws K) (fAd K d_Runs_init.at_) fd
  F_Netset_init : ∃ fd, FunD K d_Netset_init.name d_Netset_init.qual d_Netset_init.params d_Netset_init.body d_Netset_init.scope (d_Netset_init.dvs K) (d_Netset_init.kws K) (fAd K d_Netset_init.at_) fd
  F_Book_init : ∃ fd, FunD K d_Book_init.name d_Book_init.qual d_Book_init.params d_Book_init.body d_Book_init.scope (d_Book_init.dvs K) (d_Book_init.kws K) (fAd K d_Book_init.at_) fd
  F_Book_is_own : ∃ fd, FunD K d_Book_is_own.name d_Book_is_own.qual d_Book_is_own.params d_Book_is_own.body d_Book_is_own.scope (d_Book_is_own.dvs K) (d_Book_is_own.kws K) (fAd K d_Book_is_own.at_) fd
  F_Book_look_address : ∃ fd, FunD K d_Book_look_address.name d_Book_look_address.qual d_Book_look_address.params d_Book_look_address.body d_Book_look_address.scope (d_Book_look_address.dvs K) (d_Book_look_address.kws K) (fAd K d_Book_look_address.at_) fd
  F_Book_setitem : ∃ fd, FunD K d_Book_setitem.name d_Book_setitem.qual d_Book_setitem.params d_Book_setitem.body d_Book_setitem.scope (d_Book_setitem.dvs K) (d_Book_setitem.kws K) (fAd K d_Book_setitem.at_) fd
  F_Book_forget : ∃ fd, FunD K d_Book_forget.name d_Book_forget.qual d_Book_forget.params d_Book_forget.body d_Book_forget.scope (d_Book_forget.dvs K) (d_Book_forget.kws K) (fAd K d_Book_forget.at_) fd
  F_Book_len : ∃ fd, FunD K d_Book_len.name d_Book_len.qual d_Book_len.params d_Book_len.body d_Book_len.scope (d_Book_len.dvs K) (d_Book_len.kws K) (fAd K d_Book_len.at_) fd
  F_Book_eq : ∃ fd, FunD K d_Book_eq.name d_Book_eq.qual d_Book_eq.params d_Book_eq.body d_Book_eq.scope (d_Book_eq.dvs K) (d_Book_eq.kws K) (fAd K d_Book_eq.at_) fd
  F_Book_entries : ∃ fd, FunD K d_Book_entries.name d_Book_entries.qual d_Book_entries.params d_Book_entries.body d_Book_entries.scope (d_Book_entries.dvs K) (d_Book_entries.kws K) (fAd K d_Book_entries.at_) fd
  F_Book_keys_of : ∃ fd, FunD K d_Book_keys_of.name d_Book_keys_of.qual d_Book_keys_of.params d_Book_keys_of.body d_Book_keys_of.scope (d_Book_keys_of.dvs K) (d_Book_keys_of.kws K) (fAd K d_Book_keys_of.at_) fd
  F_Book_word_of : ∃ fd, FunD K d_Book_word_of.name d_Book_word_of.qual d_Book_word_of.params d_Book_word_of.body d_Book_word_of.scope (d_Book_word_of.dvs K) (d_Book_word_of.kws K) (fAd K d_Book_word_of.at_) fd
  F_Book_call : ∃ fd, FunD K d_Book_call.name d_Book_call.qual d_Book_call.params d_Book_call.body d_Book_call.scope (d_Book_call.dvs K) (d_Book_call.kws K) (fAd K d_Book_call.at_) fd
  F_Book_begins : ∃ fd, FunD K d_Book_begins.name d_Book_begins.qual d_Book_begins.params d_Book_begins.body d_Book_begins.scope (d_Book_begins.dvs K) (d_Book_begins.kws K) (fAd K d_Book_begins.at_) fd
  F_Book_answers : ∃ fd, FunD K d_Book_answers.name d_Book_answers.qual d_Book_answers.params d_Book_answers.body d_Book_answers.scope (d_Book_answers.dvs K) (d_Book_answers.kws K) (fAd K d_Book_answers.at_) fd
  F_Book_answered : ∃ fd, FunD K d_Book_answered.name d_Book_answered.qual d_Book_answered.params d_Book_answered.body d_Book_answered.scope (d_Book_answered.dvs K) (d_Book_answered.kws K) (fAd K d_Book_answered.at_) fd
  F_Book_covered : ∃ fd, FunD K d_Book_covered.name d_Book_covered.qual d_Book_covered.params d_Book_covered.body d_Book_covered.scope (d_Book_covered.dvs K) (d_Book_covered.kws K) (fAd K d_Book_covered.at_) fd
  F_Book_counts : ∃ fd, FunD K d_Book_counts.name d_Book_counts.qual d_Book_counts.params d_Book_counts.body d_Book_counts.scope (d_Book_counts.dvs K) (d_Book_counts.kws K) (fAd K d_Book_counts.at_) fd
  F_Book_differs : ∃ fd, FunD K d_Book_differs.name d_Book_differs.qual d_Book_differs.params d_Book_differs.body d_Book_differs.scope (d_Book_differs.dvs K) (d_Book_differs.kws K) (fAd K d_Book_differs.at_) fd
  F_Book_fewest : ∃ fd, FunD K d_Book_fewest.name d_Book_fewest.qual d_Book_fewest.params d_Book_fewest.body d_Book_fewest.scope (d_Book_fewest.dvs K) (d_Book_fewest.kws K) (fAd K d_Book_fewest.at_) fd
  k_Address4_Address4 : PySem.W.kitOne K (.ref (ga K "Address4")) (.ref (ga K "Address4")) = some true
  k_Address6_Address4 : PySem.W.kitOne K (.ref (ga K "Address6")) (.ref (ga K "Address4")) = some false
  k_Address6_Address6 : PySem.W.kitOne K (.ref (ga K "Address6")) (.ref (ga K "Address6")) = some true
  k_Address4_Address6 : PySem.W.kitOne K (.ref (ga K "Address4")) (.ref (ga K "Address6")) = some false
  k_Network4_Network4 : PySem.W.kitOne K (.ref (ga K "Network4")) (.ref (ga K "Network4")) = some true
  k_Network6_Network4 : PySem.W.kitOne K (.ref (ga K "Network6")) (.ref (ga K "Network4")) = some false
  k_Network6_Network6 : PySem.W.kitOne K (.ref (ga K "Network6")) (.ref (ga K "Network6")) = some true
  k_Network4_Network6 : PySem.W.kitOne K (.ref (ga K "Network4")) (.ref (ga K "Network6")) = some false
  k_Runs_Runs : PySem.W.kitOne K (.ref (ga K "Runs")) (.ref (ga K "Runs")) = some true
  k_Book_Book : PySem.W.kitOne K (.ref (ga K "Book")) (.ref (ga K "Book")) = some true
  k_int_Address4 : PySem.W.kitOne K (.type "int") (.ref (ga K "Address4")) = some false
  k_Address4_str : PySem.W.kitOne K (.ref (ga K "Address4")) (.type "str") = some false
  k_int_Address6 : PySem.W.kitOne K (.type "int") (.ref (ga K "Address6")) = some false
  k_Address6_str : PySem.W.kitOne K (.ref (ga K "Address6")) (.type "str") = some false
  v_Address4_VERSION : ∃ t, Con K (ga K "Address4") "VERSION" (.int 4) (.int 4 t)
  v_Address4_WIDTH : ∃ t, Con K (ga K "Address4") "WIDTH" (.int 32) (.int 32 t)
  v_Address6_VERSION : ∃ t, Con K (ga K "Address6") "VERSION" (.int 6) (.int 6 t)
  v_Address6_WIDTH : ∃ t, Con K (ga K "Address6") "WIDTH" (.int 128) (.int 128 t)
  v_Network4_VERSION : ∃ t, Con K (ga K "Network4") "VERSION" (.int 4) (.int 4 t)
  v_Network4_WIDTH : ∃ t, Con K (ga K "Network4") "WIDTH" (.int 32) (.int 32 t)
  v_Network6_VERSION : ∃ t, Con K (ga K "Network6") "VERSION" (.int 6) (.int 6 t)
  v_Network6_WIDTH : ∃ t, Con K (ga K "Network6") "WIDTH" (.int 128) (.int 128 t)
  ne_Address4 : PySem.W.findIn K (.ref (ga K "Address4")) "__ne__" = some (some (.builtin "object.__ne__"))
  ne_Address6 : PySem.W.findIn K (.ref (ga K "Address6")) "__ne__" = some (some (.builtin "object.__ne__"))
  o_Address4 : PySem.W.findIn K (.ref (ga K "Address4")) "__class__" = some (some (.builtin "object.__class__"))
  r_Address4 : PySem.W.mroIn K (ga K "Address4") (.type "object") = some true
  o_Address6 : PySem.W.findIn K (.ref (ga K "Address6")) "__class__" = some (some (.builtin "object.__class__"))
  r_Address6 : PySem.W.mroIn K (ga K "Address6") (.type "object") = some true
  o_Network4 : PySem.W.findIn K (.ref (ga K "Network4")) "__class__" = some (some (.builtin "object.__class__"))
  r_Network4 : PySem.W.mroIn K (ga K "Network4") (.type "object") = some true
  o_Network6 : PySem.W.findIn K (.ref (ga K "Network6")) "__class__" = some (some (.builtin "object.__class__"))
  r_Network6 : PySem.W.mroIn K (ga K "Network6") (.type "object") = some true
  o_Runs : PySem.W.findIn K (.ref (ga K "Runs")) "__class__" = some (some (.builtin "object.__class__"))
  r_Runs : PySem.W.mroIn K (ga K "Runs") (.type "object") = some true
  o_Netset : PySem.W.findIn K (.ref (ga K "Netset")) "__class__" = some (some (.builtin "object.__class__"))
  r_Netset : PySem.W.mroIn K (ga K "Netset") (.type "object") = some true
  o_Book : PySem.W.findIn K (.ref (ga K "Book")) "__class__" = some (some (.builtin "object.__class__"))
  r_Book : PySem.W.mroIn K (ga K "Book") (.type "object") = some true
  call_Book : PySem.W.fnIn K (ma K (ga K "Book") "__call__") = true
  seq_Book : PySem.W.noSeq K (ga K "Book") = true
  isc_Book : PySem.W.isClsIn K (ga K "Book") = true
  p_nets : PropOf K (ga K "Netset") "nets" (ma K (ga K "Netset") "nets") (nets_get K)
  b_nets : netsB K = true
  F_nets : ∃ fd, FunD K "nets" "Netset.nets" (defArgs s_nets) (defBody s_nets) (defScope s_nets) [] [] (nets_get K) fd
theorem prop_of {K : PySem.W.Frag} (h : (decide (PySem.W.findIn K (.ref (ga K "Netset")) "nets" = some (some (.ref (ma K (ga K "Netset") "nets")))) && (decide (PySem.W.specialIn K (.ref (ma K (ga K "Netset") "nets")) "__get__" = some (some (.builtin "property.__get__"))) && (decide (PySem.W.takesIn K (.ref (ma K (ga K "Netset") "nets")) = some true) && (match PySem.W.recIn K (ma K (ga K "Netset") "nets") "property" with
    | some (.ref _ :: _) => true
    | _ => false)))) = true) : PropOf K (ga K "Netset") "nets" (ma K (ga K "Netset") "nets") (nets_get K) := by
  obtain ⟨h1, h⟩ := ba h
  obtain ⟨h2, h⟩ := ba h
  obtain ⟨h3, h4⟩ := ba h
  refine ⟨of_decide_eq_true h1, of_decide_eq_true h2, of_decide_eq_true h3, ?_⟩
  unfold nets_get
  cases q : PySem.W.recIn K (ma K (ga K "Netset") "nets") "property" with
  | none => rw [q] at h4; cases h4
  | some l =>
    rw [q] at h4
    cases l with
    | nil => cases h4
    | cons v r =>
      cases v with
      | ref g => exact ⟨r, rfl⟩
      | _ => cases h4
theorem cxt_of {K : PySem.W.Frag} {h : Heap} {mg : Str → Option Value} (X : K.In h) (G : h.Ns mainGlobals mg) (c : SaysD fa fn K) (e : exB K = true) (en : netsW K = netsV) : Cxt K mg := by
  unfold exB at e
  obtain ⟨e0, e⟩ := ba e
  obtain ⟨e1, e⟩ := ba e
  obtain ⟨e2, e⟩ := ba e
  obtain ⟨e3, e⟩ := ba e
  obtain ⟨e4, e⟩ := ba e
  obtain ⟨e5, e⟩ := ba e
  obtain ⟨e6, e⟩ := ba e
  obtain ⟨e7, e⟩ := ba e
  obtain ⟨e8, e⟩ := ba e
  obtain ⟨e9, e⟩ := ba e
  obtain ⟨e10, e⟩ := ba e
  obtain ⟨e11, e⟩ := ba e
  obtain ⟨e12, e⟩ := ba e
  obtain ⟨e13, e⟩ := ba e
  obtain ⟨e14, e⟩ := ba e
  obtain ⟨e15, e⟩ := ba e
  obtain ⟨e16, e⟩ := ba e
  obtain ⟨e17, e⟩ := ba e
  obtain ⟨e18, e⟩ := ba e
  obtain ⟨e19, e⟩ := ba e
  obtain ⟨e20, e⟩ := ba e
  obtain ⟨e21, e⟩ := ba e
  obtain ⟨e22, e⟩ := ba e
  obtain ⟨e23, e⟩ := ba e
  obtain ⟨e24, e⟩ := ba e
  obtain ⟨e25, e⟩ := ba e
  obtain ⟨e26, e⟩ := ba e
  obtain ⟨e27, e⟩ := ba e
  obtain ⟨e28, e⟩ := ba e
  obtain ⟨e29, e⟩ := ba e
  obtain ⟨e30, e⟩ := ba e
  obtain ⟨e31, e⟩ := ba e
  obtain ⟨e32, e⟩ := ba e
  obtain ⟨e33, e⟩ := ba e
  obtain ⟨e34, e⟩ := ba e
  obtain ⟨e35, e⟩ := ba e
  obtain ⟨e36, e⟩ := ba e
  obtain ⟨e37, e⟩ := ba e
  obtain ⟨e38, e⟩ := ba e
  obtain ⟨e39, e⟩ := ba e
  obtain ⟨e40, e⟩ := ba e
  obtain ⟨e41, e⟩ := ba e
  have e42 := e
  exact {
    g_is_integer := glo_ok X G (c.fact 0 rfl)
    g_is_from := glo_ok X G (c.fact 1 rfl)
    g_low_zeros := glo_ok X G (c.fact 2 rfl)
    g_number_of := glo_ok X G (c.fact 3 rfl)
    g_mask_number := glo_ok X G (c.fact 4 rfl)
    g_look_prefix := glo_ok X G (c.fact 5 rfl)
    g_look_strict := glo_ok X G (c.fact 6 rfl)
    g_low_end := glo_ok X G (c.fact 7 rfl)
    g_high_end := glo_ok X G (c.fact 8 rfl)
    g_range_pieces := glo_ok X G (c.fact 9 rfl)
    g_pieces := glo_ok X G (c.fact 10 rfl)
    g_merged := glo_ok X G (c.fact 11 rfl)
    g_parts4 := glo_ok X G (c.fact 12 rfl)
    g_parts6 := glo_ok X G (c.fact 13 rfl)
    g_look_change := glo_ok X G (c.fact 14 rfl)
    g_network_of := glo_ok X G (c.fact 15 rfl)
    g_networks_of := glo_ok X G (c.fact 16 rfl)
    g_summarize := glo_ok X G (c.fact 17 rfl)
    g_cut := glo_ok X G (c.fact 18 rfl)
    g_plan := glo_ok X G (c.fact 19 rfl)
    g_entries_of := glo_ok X G (c.fact 20 rfl)
    g_fewest_entries := glo_ok X G (c.fact 21 rfl)
    g_look_version := glo_ok X G (c.fact 22 rfl)
    g_width_of := glo_ok X G (c.fact 23 rfl)
    g_runs_of := glo_ok X G (c.fact 24 rfl)
    g_set_of := glo_ok X G (c.fact 25 rfl)
    g_is_word := glo_ok X G (c.fact 26 rfl)
    g__law_well := glo_ok X G (c.fact 27 rfl)
    g__law_draw := glo_ok X G (c.fact 28 rfl)
    g__law_number := glo_ok X G (c.fact 29 rfl)
    g__law_address := glo_ok X G (c.fact 30 rfl)
    g__law_cuts := glo_ok X G (c.fact 31 rfl)
    g__law_ones := glo_ok X G (c.fact 32 rfl)
    g__law_pieces := glo_ok X G (c.fact 33 rfl)
    g__law_words := glo_ok X G (c.fact 34 rfl)
    g__law_ranges := glo_ok X G (c.fact 35 rfl)
    g__law_summed := glo_ok X G (c.fact 36 rfl)
    g__law_book := glo_ok X G (c.fact 37 rfl)
    g__law_joined := glo_ok X G (c.fact 38 rfl)
    g__law_size := glo_ok X G (c.fact 39 rfl)
    g__law_points_right := glo_ok X G (c.fact 40 rfl)
    g__law_sets_right := glo_ok X G (c.fact 41 rfl)
    g__law_word_at := glo_ok X G (c.fact 42 rfl)
    g__law_entries_right := glo_ok X G (c.fact 43 rfl)
    g__law_halved := glo_ok X G (c.fact 44 rfl)
    g__law_few_right := glo_ok X G (c.fact 45 rfl)
    g__law_changed_right := glo_ok X G (c.fact 46 rfl)
    g_law := glo_ok X G (c.fact 47 rfl)
    g_Address4 := glo_ok X G (c.fact 48 rfl)
    g_Address6 := glo_ok X G (c.fact 49 rfl)
    g_Network4 := glo_ok X G (c.fact 50 rfl)
    g_Network6 := glo_ok X G (c.fact 51 rfl)
    g_Runs := glo_ok X G (c.fact 52 rfl)
    g_Netset := glo_ok X G (c.fact 53 rfl)
    g_Book := glo_ok X G (c.fact 54 rfl)
    z_len := free_ok X G (c.fact 55 rfl)
    z_isinstance := free_ok X G (c.fact 56 rfl)
    z_int := free_ok X G (c.fact 57 rfl)
    z_bool := free_ok X G (c.fact 58 rfl)
    z_str := free_ok X G (c.fact 59 rfl)
    z_all := free_ok X G (c.fact 60 rfl)
    z_min := free_ok X G (c.fact 61 rfl)
    z_max := free_ok X G (c.fact 62 rfl)
    z_range := free_ok X G (c.fact 63 rfl)
    z_sorted := free_ok X G (c.fact 64 rfl)
    z_set := free_ok X G (c.fact 65 rfl)
    z_tuple := free_ok X G (c.fact 66 rfl)
    z_list := free_ok X G (c.fact 67 rfl)
    z_sum := free_ok X G (c.fact 68 rfl)
    z_zip := free_ok X G (c.fact 69 rfl)
    c_Address4 := cls_ok (c.fact 70 rfl)
    c_Address6 := cls_ok (c.fact 71 rfl)
    c_Network4 := cls_ok (c.fact 72 rfl)
    c_Network6 := cls_ok (c.fact 73 rfl)
    c_Runs := cls_ok (c.fact 74 rfl)
    c_Netset := cls_ok (c.fact 75 rfl)
    c_Book := cls_ok (c.fact 76 rfl)
    mk_Address4 := mkr_ok (c.fact 77 rfl)
    mk_Address6 := mkr_ok (c.fact 78 rfl)
    mk_Network4 := mkr_ok (c.fact 79 rfl)
    mk_Network6 := mkr_ok (c.fact 80 rfl)
    mk_Runs := mkr_ok (c.fact 81 rfl)
    mk_Netset := mkr_ok (c.fact 82 rfl)
    mk_Book := mkr_ok (c.fact 83 rfl)
    m_Address4_init := meth_ok (c.fact 84 rfl)
    m_Address4_eq := meth_ok (c.fact 85 rfl)
    m_Address6_init := meth_ok (c.fact 86 rfl)
    m_Address6_eq := meth_ok (c.fact 87 rfl)
    m_Network4_init := meth_ok (c.fact 88 rfl)
    m_Network4_eq := meth_ok (c.fact 89 rfl)
    m_Network4_subnets := meth_ok (c.fact 90 rfl)
    m_Network6_init := meth_ok (c.fact 91 rfl)
    m_Network6_eq := meth_ok (c.fact 92 rfl)
    m_Network6_subnets := meth_ok (c.fact 93 rfl)
    m_Runs_init := meth_ok (c.fact 94 rfl)
    m_Netset_init := meth_ok (c.fact 95 rfl)
    m_Book_init := meth_ok (c.fact 96 rfl)
    m_Book_is_own := meth_ok (c.fact 97 rfl)
    m_Book_look_address := meth_ok (c.fact 98 rfl)
    m_Book_setitem := meth_ok (c.fact 99 rfl)
    m_Book_forget := meth_ok (c.fact 100 rfl)
    m_Book_len := meth_ok (c.fact 101 rfl)
    m_Book_eq := meth_ok (c.fact 102 rfl)
    m_Book_entries := meth_ok (c.fact 103 rfl)
    m_Book_keys_of := meth_ok (c.fact 104 rfl)
    m_Book_word_of := meth_ok (c.fact 105 rfl)
    m_Book_call := meth_ok (c.fact 106 rfl)
    m_Book_begins := meth_ok (c.fact 107 rfl)
    m_Book_answers := meth_ok (c.fact 108 rfl)
    m_Book_answered := meth_ok (c.fact 109 rfl)
    m_Book_covered := meth_ok (c.fact 110 rfl)
    m_Book_counts := meth_ok (c.fact 111 rfl)
    m_Book_differs := meth_ok (c.fact 112 rfl)
    m_Book_fewest := meth_ok (c.fact 113 rfl)
    i_WIDTH4 := int_ok X G (c.fact 114 rfl)
    i_WIDTH6 := int_ok X G (c.fact 115 rfl)
    i_MOST_LETTERS := int_ok X G (c.fact 116 rfl)
    i_MOST_DOWN := int_ok X G (c.fact 117 rfl)
    t_LETTERS := str_ok X G (c.fact 118 rfl)
    n_Address4_number := noat_ok (c.fact 119 rfl)
    n_Address6_number := noat_ok (c.fact 120 rfl)
    n_Network4_first := noat_ok (c.fact 121 rfl)
    n_Network4_last := noat_ok (c.fact 122 rfl)
    n_Network4_prefix := noat_ok (c.fact 123 rfl)
    n_Network4_size := noat_ok (c.fact 124 rfl)
    n_Network4_mask := noat_ok (c.fact 125 rfl)
    n_Network4_hostmask := noat_ok (c.fact 126 rfl)
    n_Network4_rank := noat_ok (c.fact 127 rfl)
    n_Network6_first := noat_ok (c.fact 128 rfl)
    n_Network6_last := noat_ok (c.fact 129 rfl)
    n_Network6_prefix := noat_ok (c.fact 130 rfl)
    n_Network6_size := noat_ok (c.fact 131 rfl)
    n_Network6_mask := noat_ok (c.fact 132 rfl)
    n_Network6_hostmask := noat_ok (c.fact 133 rfl)
    n_Network6_rank := noat_ok (c.fact 134 rfl)
    n_Runs_ranges := noat_ok (c.fact 135 rfl)
    n_Netset_version := noat_ok (c.fact 136 rfl)
    n_Netset_ranges := noat_ok (c.fact 137 rfl)
    n_Netset_size := noat_ok (c.fact 138 rfl)
    n_Book_version := noat_ok (c.fact 139 rfl)
    n_Book_width := noat_ok (c.fact 140 rfl)
    n_Book_rows := noat_ok (c.fact 141 rfl)
    F_is_integer := c.def_ 0 rfl
    F_is_from := c.def_ 1 rfl
    F_low_zeros := c.def_ 2 rfl
    F_number_of := c.def_ 3 rfl
    F_mask_number := c.def_ 4 rfl
    F_look_prefix := c.def_ 5 rfl
    F_look_strict := c.def_ 6 rfl
    F_low_end := c.def_ 7 rfl
    F_high_end := c.def_ 8 rfl
    F_range_pieces := c.def_ 9 rfl
    F_pieces := c.def_ 10 rfl
    F_merged := c.def_ 11 rfl
    F_parts4 := c.def_ 12 rfl
    F_parts6 := c.def_ 13 rfl
    F_look_change := c.def_ 14 rfl
    F_network_of := c.def_ 15 rfl
    F_networks_of := c.def_ 16 rfl
    F_summarize := c.def_ 17 rfl
    F_cut := c.def_ 18 rfl
    F_plan := c.def_ 19 rfl
    F_entries_of := c.def_ 20 rfl
    F_fewest_entries := c.def_ 21 rfl
    F_look_version := c.def_ 22 rfl
    F_width_of := c.def_ 23 rfl
    F_runs_of := c.def_ 24 rfl
    F_set_of := c.def_ 25 rfl
    F_is_word := c.def_ 26 rfl
    F__law_well := c.def_ 27 rfl
    F__law_draw := c.def_ 28 rfl
    F__law_number := c.def_ 29 rfl
    F__law_address := c.def_ 30 rfl
    F__law_cuts := c.def_ 31 rfl
    F__law_ones := c.def_ 32 rfl
    F__law_pieces := c.def_ 33 rfl
    F__law_words := c.def_ 34 rfl
    F__law_ranges := c.def_ 35 rfl
    F__law_summed := c.def_ 36 rfl
    F__law_book := c.def_ 37 rfl
    F__law_joined := c.def_ 38 rfl
    F__law_size := c.def_ 39 rfl
    F__law_points_right := c.def_ 40 rfl
    F__law_sets_right := c.def_ 41 rfl
    F__law_word_at := c.def_ 42 rfl
    F__law_entries_right := c.def_ 43 rfl
    F__law_halved := c.def_ 44 rfl
    F__law_few_right := c.def_ 45 rfl
    F__law_changed_right := c.def_ 46 rfl
    F_law := c.def_ 47 rfl
    F_Address4_init := c.def_ 48 rfl
    F_Address4_eq := c.def_ 49 rfl
    F_Address6_init := c.def_ 50 rfl
    F_Address6_eq := c.def_ 51 rfl
    F_Network4_init := c.def_ 52 rfl
    F_Network4_eq := c.def_ 53 rfl
    F_Network4_subnets := c.def_ 54 rfl
    F_Network6_init := c.def_ 55 rfl
    F_Network6_eq := c.def_ 56 rfl
    F_Network6_subnets := c.def_ 57 rfl
    F_Runs_init := c.def_ 58 rfl
    F_Netset_init := c.def_ 59 rfl
    F_Book_init := c.def_ 60 rfl
    F_Book_is_own := c.def_ 61 rfl
    F_Book_look_address := c.def_ 62 rfl
    F_Book_setitem := c.def_ 63 rfl
    F_Book_forget := c.def_ 64 rfl
    F_Book_len := c.def_ 65 rfl
    F_Book_eq := c.def_ 66 rfl
    F_Book_entries := c.def_ 67 rfl
    F_Book_keys_of := c.def_ 68 rfl
    F_Book_word_of := c.def_ 69 rfl
    F_Book_call := c.def_ 70 rfl
    F_Book_begins := c.def_ 71 rfl
    F_Book_answers := c.def_ 72 rfl
    F_Book_answered := c.def_ 73 rfl
    F_Book_covered := c.def_ 74 rfl
    F_Book_counts := c.def_ 75 rfl
    F_Book_differs := c.def_ 76 rfl
    F_Book_fewest := c.def_ 77 rfl
    k_Address4_Address4 := of_decide_eq_true e0
    k_Address6_Address4 := of_decide_eq_true e1
    k_Address6_Address6 := of_decide_eq_true e2
    k_Address4_Address6 := of_decide_eq_true e3
    k_Network4_Network4 := of_decide_eq_true e4
    k_Network6_Network4 := of_decide_eq_true e5
    k_Network6_Network6 := of_decide_eq_true e6
    k_Network4_Network6 := of_decide_eq_true e7
    k_Runs_Runs := of_decide_eq_true e8
    k_Book_Book := of_decide_eq_true e9
    k_int_Address4 := of_decide_eq_true e10
    k_Address4_str := of_decide_eq_true e11
    k_int_Address6 := of_decide_eq_true e12
    k_Address6_str := of_decide_eq_true e13
    v_Address4_VERSION := con_of (by decide +kernel) e14
    v_Address4_WIDTH := con_of (by decide +kernel) e15
    v_Address6_VERSION := con_of (by decide +kernel) e16
    v_Address6_WIDTH := con_of (by decide +kernel) e17
    v_Network4_VERSION := con_of (by decide +kernel) e18
    v_Network4_WIDTH := con_of (by decide +kernel) e19
    v_Network6_VERSION := con_of (by decide +kernel) e20
    v_Network6_WIDTH := con_of (by decide +kernel) e21
    ne_Address4 := of_decide_eq_true e22
    ne_Address6 := of_decide_eq_true e23
    o_Address4 := of_decide_eq_true e24
    r_Address4 := of_decide_eq_true e25
    o_Address6 := of_decide_eq_true e26
    r_Address6 := of_decide_eq_true e27
    o_Network4 := of_decide_eq_true e28
    r_Network4 := of_decide_eq_true e29
    o_Network6 := of_decide_eq_true e30
    r_Network6 := of_decide_eq_true e31
    o_Runs := of_decide_eq_true e32
    r_Runs := of_decide_eq_true e33
    o_Netset := of_decide_eq_true e34
    r_Netset := of_decide_eq_true e35
    o_Book := of_decide_eq_true e36
    r_Book := of_decide_eq_true e37
    call_Book := id e38
    seq_Book := id e39
    isc_Book := id e40
    p_nets := prop_of e41
    b_nets := id e42
    F_nets := nets_ok en e42
  }
end AH
/-! HeadRun -/
set_option Elab.async false
set_option linter.all false
set_option maxRecDepth 100000
set_option maxHeartbeats 0
namespace AH
open PySem PySem.Spec PyProof.Rows L2 He
abbrev hk : PySem.W.Hook := hookM fa fn exB
def ob (s : PySem.W.SharedT) : AlM := obsM fa fn exB (HandSHeadRun.getT s)
theorem ob_eq (s : PySem.W.SharedT) : ob s = hk.obs s.abs := obsM_eq (HandSHeadRun.getT_eq s)
def names0 : List Str := ["_wall", "NetError", "BadKind", "BadNumber", "BadText", "BadBytes", "BadPrefix", "HostBits", "Mixed", "BadRange", "BadWord", "NotThere", "NoMatch", "DIGITS", "part_fault", "quad_fault", "read_quad", "quad_parts", "quad_text", "HEX", "quad_place", "has_wrong_quad", "has_wrong_gaps", "has_wrong_ends", "hex_groups"]
def names1 : List Str := ["parts_of", "has_wrong_count", "groups_fault", "hex_number", "read_groups", "group_numbers", "longest_run", "groups_text", "WIDTH4", "WIDTH6", "is_integer", "is_from", "low_zeros", "number_of", "Address4", "Address6", "ONES4", "mask_number", "mask_length", "digits_length", "length_of", "look_address", "read_parts", "look_prefix", "look_strict"]
def names2 : List Str := ["low_end", "high_end", "range_pieces", "pieces", "merged", "opposite", "common", "has_number", "MOST_DOWN", "parts4", "parts6", "place_of", "look_change", "Network4", "Network6", "network_of", "networks_of", "is_network", "look_networks", "ranges_of", "summarize", "cut", "plan", "entries_of", "fewest_entries"]
def names3 : List Str := ["look_version", "width_of", "Runs", "runs_of", "Netset", "set_of", "LETTERS", "MOST_LETTERS", "is_word", "Book", "_law_well", "_law_draw", "_law_number", "_law_address", "_law_cuts", "_law_ones", "_law_pieces", "_law_words", "_law_ranges", "_law_summed", "_law_book", "_law_joined", "_law_size", "_law_points_right", "_law_sets_right"]
def names4 : List Str := ["_law_word_at", "_law_entries_right", "_law_halved", "_law_few_right", "_law_changed_right"]
def names : List Str := names0 ++ names1 ++ names2 ++ names3 ++ names4
open PySem.W PySem.Calls HandSHeadRun
/-- what stands behind the run -/
def kO (s : SharedT) : PySem.W.Frag := frG (HandSHeadRun.getT s) (asM (HandSHeadRun.getT s))
theorem ob_is (s : SharedT) : ob s = ((((fa.all fun f => f.ok (kO s)) && fn.all fun d => d.ok (kO s)), fn.map fun d => fnW (kO s) d.at_), exB (kO s), netsW (kO s)) := rfl
def faA : List Fa := fa0 ++ fa1 ++ fa2
def faB : List Fa := fa3 ++ fa4 ++ fa5
theorem fa_ab : fa = faA ++ faB := rfl
theorem run_a (w : World) (os : OsState) : (endF (stepQ (denQ tabQ) R.prog w) 20000 R.prog w os).map (fun s => (looksF R.prog (boot_heap w.params) s.abs, seenQ (view R.prog [118]) names (importedModules R.prog.main.body) (fun s => xlAt (view R.prog [118]) [] s && recOk R.toRowW.records s) s.abs)) = some (true, openGood (view R.prog [118]) names) := by
  kernel_rfl
theorem run_b (w : World) (os : OsState) : (endF (stepQ (denQ tabQ) R.prog w) 20000 R.prog w os).map (fun s => faA.all fun f => f.ok (kO s)) = some true := by
  kernel_rfl
theorem run_c (w : World) (os : OsState) : (endF (stepQ (denQ tabQ) R.prog w) 20000 R.prog w os).map (fun s => faB.all fun f => f.ok (kO s)) = some true := by
  kernel_rfl
theorem run_d (w : World) (os : OsState) : (endF (stepQ (denQ tabQ) R.prog w) 20000 R.prog w os).map (fun s => fn.all fun d => d.ok (kO s)) = some true := by
  kernel_rfl
theorem run_e (w : World) (os : OsState) : (endF (stepQ (denQ tabQ) R.prog w) 20000 R.prog w os).map (fun s => fn.map fun d => fnW (kO s) d.at_) = some (fn.map DefD.val) := by
  kernel_rfl
theorem run_f (w : World) (os : OsState) : (endF (stepQ (denQ tabQ) R.prog w) 20000 R.prog w os).map (fun s => (exB (kO s), netsW (kO s))) = some ((true, netsV) : Bool × FnW) := by
  kernel_rfl
theorem run (w : World) : RunEq R (view R.prog [118]) hk ob 20000 names w := by
  intro os
  obtain ⟨s, e, ea⟩ := Option.map_eq_some_iff.mp (run_a w os)
  have at_s : ∀ {α : Type} {g : SharedT → α} {v : α}, (endF (stepQ (denQ tabQ) R.prog w) 20000 R.prog w os).map g = some v → g s = v := fun {α g v} h => by
    rw [e] at h
    exact Option.some.inj h
  have eb := at_s (run_b w os)
  have ec := at_s (run_c w os)
  have ed := at_s (run_d w os)
  have ee := at_s (run_e w os)
  have ef : (exB (kO s), netsW (kO s)) = ((true, netsV) : Bool × FnW) := at_s (run_f w os)
  obtain ⟨ex, en⟩ := Prod.mk.inj ef
  obtain ⟨e1, e2⟩ := Prod.mk.inj ea
  have eo : ob s = ((valD fn, true, netsV) : AlM) := by
    rw [ob_is, fa_ab, List.all_append, eb, ec, ed, ee, ex, en]
    rfl
  rw [e]
  show some (_, _, _) = _
  rw [eo, e1, e2]
  rfl
end AH
/-! W0 -/
set_option Elab.async false
set_option linter.all false
set_option maxRecDepth 100000
set_option maxHeartbeats 4000000
namespace AH
open PySem PySem.Spec PyProof.Rows L2 He
/-- a promise over n arguments -/
abbrev Spn (n : Nat) (f : Sp) : Sp := fun vs H Q E => vs.length = n ∧ f vs H Q E
theorem gint {mg : Str → Option Value} {x : Str} {i : Int} (h : ∃ t, mg x = some (.int i t)) : ∃ u, mg x = some u ∧ RelV (.int i) u := by
  obtain ⟨t, e⟩ := h
  exact ⟨_, e, t, rfl⟩
theorem gstr {mg : Str → Option Value} {x z : Str} (h : ∃ t, mg x = some (.str z t)) : ∃ u, mg x = some u ∧ RelV (.str z) u := by
  obtain ⟨t, e⟩ := h
  exact ⟨_, e, t, rfl⟩
/-- a def of the module x that keeps sp over level k, the arguments filled up by dvs -/
structure Cal (P : Program) (w : World) (K : PySem.W.Frag) (mg : Str → Option Value) (base : Heap) (k : Nat) (x : Str) (sp : Sp) (dvs : List V) : Prop where
  is : ∃ (f : Addr) (fd : FuncData) (ps : List Str) (ds : List Value), mg x = some (.ref f) ∧ PySem.W.keepIn K (.ref f) = true ∧ Binds K fd ps ds ∧ Vals dvs ds ∧ FnOk P w K mg base CX0 k f fd ps sp
/-- a method m of the class at C -/
structure Met (P : Program) (w : World) (K : PySem.W.Frag) (mg : Str → Option Value) (base : Heap) (k : Nat) (C : Addr) (m : Str) (sp : Sp) (dvs : List V) : Prop where
  is : ∃ (f : Addr) (fd : FuncData) (ps : List Str) (ds : List Value), Meth K C m f ∧ Cls K C ∧ Binds K fd ps ds ∧ Vals dvs ds ∧ FnOk P w K mg base CX0 k f fd ps sp
/-- the class y at C, made by its __init__ -/
structure Mak (P : Program) (w : World) (K : PySem.W.Frag) (mg : Str → Option Value) (base : Heap) (k : Nat) (y : Str) (C : Addr) (sp : Sp) (dvs : List V) : Prop where
  is : ∃ (f : Addr) (fd : FuncData) (ps : List Str) (ds : List Value), mg y = some (.ref C) ∧ Mk K C f ∧ Binds K fd ps ds ∧ Vals dvs ds ∧ FnOk P w K mg base CX0 k f fd ps sp
section
variable {P : Program} {w : World} {K : PySem.W.Frag} {mg : Str → Option Value} {base : Heap}
/-- a def of the module without defaults -/
theorem calN {x qual : Str} {params : Arguments} {body : List Stmt} {scope : Scope} {kws : List (Str × V)} {f : Addr} {fd : FuncData} {N ps : List Str} {k n : Nat} {sp : Sp} (F : FunD K x qual params body scope [] kws f fd) (hm : mg x = some (.ref f))
    (S : FnScope N ps scope) (hn : ps.length = n)
    (hb : ∀ (kV doc pm : Value) (an : Option Addr) (cdv ct : Value) (us : List Value), us.length = ps.length → bindArgs (PySem.W.fnOf x qual params body scope .none kV doc pm an cdv ct) ⟨us, []⟩ = pure (ps.zip us))
    (hbody : ∀ (cdv : Value) (A : Around) (outer : List Env) (s : Shared) (H : Hp) (vs : List V) (Q : VK) (E : XK), Room k (A.deeper (envOfC qual scope s.heap.objs.size f cdv)) → sp vs H Q E →
      ∃ t, PSs (cxOf CX0 P w K mg base N qual scope f cdv A outer s H E).nox body t ∧ t { nx := fun _ H' => Q .non H', rt := Q } (start N vs) H) : Cal P w K mg base (k + 1) x (Spn n sp) [] := by
  refine ⟨f, fd, ps, [], hm, F.kp, F.bindsN hb, .nil, F.ok S (fun vs H Q E h => h.1.trans hn.symm) (fun cdv A outer s H vs Q E hr h => ?_)⟩
  obtain ⟨t, h1, h2⟩ := hbody cdv A outer s H vs Q E hr h.2
  exact ⟨t, h1.nox, h2⟩
/-- a method without defaults -/
theorem metN {x qual : Str} {params : Arguments} {body : List Stmt} {scope : Scope} {kws : List (Str × V)} {f C : Addr} {fd : FuncData} {N ps : List Str} {k n : Nat} {sp : Sp} (F : FunD K x qual params body scope [] kws f fd) (c : Cls K C) (me : Meth K C x f)
    (S : FnScope N ps scope) (hn : ps.length = n)
    (hb : ∀ (kV doc pm : Value) (an : Option Addr) (cdv ct : Value) (us : List Value), us.length = ps.length → bindArgs (PySem.W.fnOf x qual params body scope .none kV doc pm an cdv ct) ⟨us, []⟩ = pure (ps.zip us))
    (hbody : ∀ (cdv : Value) (A : Around) (outer : List Env) (s : Shared) (H : Hp) (vs : List V) (Q : VK) (E : XK), Room k (A.deeper (envOfC qual scope s.heap.objs.size f cdv)) → sp vs H Q E →
      ∃ t, PSs (cxOf CX0 P w K mg base N qual scope f cdv A outer s H E).nox body t ∧ t { nx := fun _ H' => Q .non H', rt := Q } (start N vs) H) : Met P w K mg base (k + 1) C x (Spn n sp) [] := by
  refine ⟨f, fd, ps, [], me, c, F.bindsN hb, .nil, F.ok S (fun vs H Q E h => h.1.trans hn.symm) (fun cdv A outer s H vs Q E hr h => ?_)⟩
  obtain ⟨t, h1, h2⟩ := hbody cdv A outer s H vs Q E hr h.2
  exact ⟨t, h1.nox, h2⟩
/-- a class made by an __init__ without defaults -/
theorem makN {x qual : Str} {params : Arguments} {body : List Stmt} {scope : Scope} {kws : List (Str × V)} {f C : Addr} {fd : FuncData} {N ps : List Str} {k n : Nat} {sp : Sp} {y : Str} (F : FunD K x qual params body scope [] kws f fd) (M : Mk K C f) (hm : mg y = some (.ref C))
    (S : FnScope N ps scope) (hn : ps.length = n)
    (hb : ∀ (kV doc pm : Value) (an : Option Addr) (cdv ct : Value) (us : List Value), us.length = ps.length → bindArgs (PySem.W.fnOf x qual params body scope .none kV doc pm an cdv ct) ⟨us, []⟩ = pure (ps.zip us))
    (hbody : ∀ (cdv : Value) (A : Around) (outer : List Env) (s : Shared) (H : Hp) (vs : List V) (Q : VK) (E : XK), Room k (A.deeper (envOfC qual scope s.heap.objs.size f cdv)) → sp vs H Q E →
      ∃ t, PSs (cxOf CX0 P w K mg base N qual scope f cdv A outer s H E).nox body t ∧ t { nx := fun _ H' => Q .non H', rt := Q } (start N vs) H) : Mak P w K mg base (k + 1) y C (Spn n sp) [] := by
  refine ⟨f, fd, ps, [], hm, M, F.bindsN hb, .nil, F.ok S (fun vs H Q E h => h.1.trans hn.symm) (fun cdv A outer s H vs Q E hr h => ?_)⟩
  obtain ⟨t, h1, h2⟩ := hbody cdv A outer s H vs Q E hr h.2
  exact ⟨t, h1.nox, h2⟩
/-- .. with defaults -/
theorem makD {x qual : Str} {params : Arguments} {body : List Stmt} {scope : Scope} {kws : List (Str × V)} {f C : Addr} {fd : FuncData} {N ps : List Str} {k n : Nat} {sp : Sp} {y : Str} {dvs dv : List V} {ds : List Value} (F : FunD K x qual params body scope dv kws f fd) (M : Mk K C f) (hm : mg y = some (.ref C))
    (S : FnScope N ps scope) (hn : ps.length = n) (hb : Binds K fd ps ds) (hv : Vals dvs ds)
    (hbody : ∀ (cdv : Value) (A : Around) (outer : List Env) (s : Shared) (H : Hp) (vs : List V) (Q : VK) (E : XK), Room k (A.deeper (envOfC qual scope s.heap.objs.size f cdv)) → sp vs H Q E →
      ∃ t, PSs (cxOf CX0 P w K mg base N qual scope f cdv A outer s H E).nox body t ∧ t { nx := fun _ H' => Q .non H', rt := Q } (start N vs) H) : Mak P w K mg base (k + 1) y C (Spn n sp) dvs := by
  refine ⟨f, fd, ps, ds, hm, M, hb, hv, F.ok S (fun vs H Q E h => h.1.trans hn.symm) (fun cdv A outer s H vs Q E hr h => ?_)⟩
  obtain ⟨t, h1, h2⟩ := hbody cdv A outer s H vs Q E hr h.2
  exact ⟨t, h1.nox, h2⟩
end
section
variable {X : Cx} {k j : Nat} {C : Addr} {x m : Str} {sp : Sp} {dvs : List V} {p pos apos : Pos} {e o : Expr} {es : List Expr} {ta : TE} {t : TA}
theorem pe_gv {v : V} (hg : Gl X x) (h : ∃ u, X.mg x = some u ∧ RelV v u) (hdb : (x == ("__debug__" : Str)) = false := by decide) : PE X (.Name x pos) (tC v) :=
  let ⟨_, m, r⟩ := h
  pe_glob hg m r hdb
theorem pe_f (c : Cal X.prog X.w X.K X.mg X.base k x sp dvs) (hr : Room j X.A) (hk : k ≤ j) (hg : Gl X x) (ha : PA X (e :: es) t) (hdb : (x == ("__debug__" : Str)) = false := by decide)
    (he : starEach (e :: es) X.env = (false, eval e X.env) :: starEach es X.env := by rfl) (hpl : (backTo pos (starEach es X.env)).any (·.1) = false := by rfl) : PE X (.Call (.Name x p) (e :: es) [] pos) (tCall sp dvs E0 t) :=
  let ⟨_, _, _, _, hm, kp, b, d, F⟩ := c.is
  pe_call F (hr.mono hk) hg hm kp b d pass0 ha hdb he hpl
theorem pe_k (c : Mak X.prog X.w X.K X.mg X.base k x C sp dvs) (hr : Room j X.A) (hk : k + 1 ≤ j) (hg : Gl X x) (ha : PA X (e :: es) t) (hdb : (x == ("__debug__" : Str)) = false := by decide)
    (he : starEach (e :: es) X.env = (false, eval e X.env) :: starEach es X.env := by rfl) (hpl : (backTo pos (starEach es X.env)).any (·.1) = false := by rfl) : PE X (.Call (.Name x p) (e :: es) [] pos) (tMake C sp dvs E0 t) :=
  let ⟨_, _, _, _, hm, M, b, d, F⟩ := c.is
  pe_make M F (hr.mono hk) hg hm b d pass0 ha hdb he hpl
theorem pe_m {pl : Sem Bool} (c : Met X.prog X.w X.K X.mg X.base k C m sp dvs) (hr : Room j X.A) (hk : k ≤ j) (he : PE X o ta) (ha : PA X (e :: es) t) (hst : starEach (e :: es) X.env = (false, eval e X.env) :: starEach es X.env := by rfl)
    (hpl : (backTo pos (starEach es X.env)).any (·.1) = false := by rfl)
    (ht : eval (.Call (.Attribute o m apos) (e :: es) [] pos) X.env = (do let ov ← eval o X.env; standAt apos.atName; let (f, first) ← holding [ov] (getMethod ov m pl); callWith pos f first (backTo pos (starEach (e :: es) X.env)) (backToKw pos (keywordEach [] X.env))) := by rfl) :
    PE X (.Call (.Attribute o m apos) (e :: es) [] pos) (tMeth C m sp dvs E0 ta t) :=
  let ⟨_, _, _, _, hm, hc, b, d, F⟩ := c.is
  pe_meth (pl := pl) he hc hm F (hr.mono hk) b d pass0 ha hst hpl ht
theorem pe_m0 {pl : Sem Bool} (c : Met X.prog X.w X.K X.mg X.base k C m sp dvs) (hr : Room j X.A) (hk : k ≤ j) (he : PE X o ta)
    (ht : eval (.Call (.Attribute o m apos) [] [] pos) X.env = (do let ov ← eval o X.env; standAt apos.atName; let (f, first) ← holding [ov] (getMethod ov m pl); callWith pos f first (backTo pos (starEach [] X.env)) (backToKw pos (keywordEach [] X.env))) := by rfl) :
    PE X (.Call (.Attribute o m apos) [] [] pos) (tMeth C m sp dvs E0 ta tNil) :=
  let ⟨_, _, _, _, hm, hc, b, d, F⟩ := c.is
  pe_meth0 (pl := pl) he hc hm F (hr.mono hk) b d pass0 ht
end
end AH
/-! Ma1 -/
set_option linter.all false
namespace AN

/-! ### powers of two -/
def P (k : Nat) : Int := ((2 ^ k : Nat) : Int)
theorem P_pos (k : Nat) : 0 < P k := by
  unfold P
  exact Int.natCast_pos.mpr (Nat.pow_pos (by decide))
theorem P_zero : P 0 = 1 := rfl
theorem P_succ (k : Nat) : P (k + 1) = P k + P k := by
  unfold P
  rw [Nat.pow_succ]
  omega
theorem P_add (j k : Nat) : P (j + k) = P j * P k := by
  unfold P
  rw [Nat.pow_add]
  exact Int.natCast_mul _ _
theorem P_dvd {j k : Nat} (h : j ≤ k) : P j ∣ P k := by
  obtain ⟨d, rfl⟩ := Nat.exists_eq_add_of_le h
  rw [P_add]
  exact Int.dvd_mul_right _ _
theorem P_le {j k : Nat} (h : j ≤ k) : P j ≤ P k := by
  unfold P
  exact Int.ofNat_le.mpr (Nat.pow_le_pow_right (by decide) h)
theorem P_lt {j k : Nat} (h : j < k) : P j < P k := by
  have a : P (j + 1) ≤ P k := P_le h
  have b := P_succ j
  have c := P_pos j
  omega
theorem P_lt_iff {j k : Nat} : P j < P k ↔ j < k := by
  constructor
  · intro h
    rcases Nat.lt_or_ge j k with q | q
    · exact q
    · have := P_le q
      omega
  · exact P_lt
theorem P_le_iff {j k : Nat} : P j ≤ P k ↔ j ≤ k := by
  constructor
  · intro h
    rcases Nat.lt_or_ge k j with q | q
    · have := P_lt q
      omega
    · exact q
  · exact P_le
theorem P_inj {j k : Nat} (h : P j = P k) : j = k := by
  have a := (P_le_iff (j := j) (k := k)).mp (by omega)
  have b := (P_le_iff (j := k) (k := j)).mp (by omega)
  omega
theorem P_pow (k : Nat) : (2 : Int) ^ k = P k := by
  unfold P
  rw [Int.natCast_pow]
  rfl

/-! ### aligned blocks [n, n + P k) -/
theorem mul_le_of {d a b : Int} (hd : 0 < d) (h : d * a < d * b + d) : a ≤ b := by
  have h2 : d * a < d * (b + 1) := by rw [Int.mul_add, Int.mul_one]; exact h
  have := Int.lt_of_mul_lt_mul_left h2 (Int.le_of_lt hd)
  omega
theorem le_mul_of {d a b : Int} (hd : 0 < d) (h : a ≤ b) : d * a ≤ d * b := Int.mul_le_mul_of_nonneg_left h (Int.le_of_lt hd)
/-- a smaller aligned block that meets a larger one lies in it -/
theorem nest {a b x : Int} {j k : Nat} (hj : j ≤ k) (ha : P j ∣ a) (hb : P k ∣ b) (h1 : a ≤ x) (h2 : x < a + P j) (h3 : b ≤ x) (h4 : x < b + P k) : b ≤ a ∧ a + P j ≤ b + P k := by
  obtain ⟨u, rfl⟩ := ha
  have hb' : P j ∣ b := Int.dvd_trans (P_dvd hj) hb
  obtain ⟨v, rfl⟩ := hb'
  obtain ⟨d, hd⟩ := P_dvd hj
  have hp := P_pos j
  have l1 : v ≤ u := mul_le_of hp (by omega)
  have l2 : u + 1 ≤ v + d := by
    refine mul_le_of hp ?_
    rw [Int.mul_add, Int.mul_add, Int.mul_one, ← hd]
    omega
  have g1 := le_mul_of hp l1
  have g2 := le_mul_of hp l2
  rw [Int.mul_add, Int.mul_add, Int.mul_one, ← hd] at g2
  exact ⟨g1, g2⟩
/-- two aligned blocks of one size that meet are one -/
theorem same_block {a b x : Int} {k : Nat} (ha : P k ∣ a) (hb : P k ∣ b) (h1 : a ≤ x) (h2 : x < a + P k) (h3 : b ≤ x) (h4 : x < b + P k) : a = b := by
  have q1 := nest (Nat.le_refl k) ha hb h1 h2 h3 h4
  have q2 := nest (Nat.le_refl k) hb ha h3 h4 h1 h2
  omega
/-- the first number of the block of size k with x -/
def lowE (x : Int) (k : Nat) : Int := x / P k * P k
theorem lowE_dvd (x : Int) (k : Nat) : P k ∣ lowE x k := Int.dvd_mul_left _ _
theorem lowE_le (x : Int) (k : Nat) : lowE x k ≤ x := Int.ediv_mul_le x (Int.ne_of_gt (P_pos k))
theorem lowE_lt (x : Int) (k : Nat) : x < lowE x k + P k := by
  have h := Int.lt_ediv_add_one_mul_self x (P_pos k)
  rw [Int.add_mul, Int.one_mul] at h
  exact h
theorem lowE_eq {x n : Int} {k : Nat} (h : P k ∣ n) (h1 : n ≤ x) (h2 : x < n + P k) : lowE x k = n :=
  same_block (lowE_dvd x k) h (lowE_le x k) (lowE_lt x k) h1 h2
theorem lowE_self {n : Int} {k : Nat} (h : P k ∣ n) : lowE n k = n := lowE_eq h (Int.le_refl n) (by have := P_pos k; omega)
theorem lowE_nonneg {x : Int} (h : 0 ≤ x) (k : Nat) : 0 ≤ lowE x k := Int.mul_nonneg (Int.ediv_nonneg h (Int.le_of_lt (P_pos k))) (Int.le_of_lt (P_pos k))

/-! ### the greedy pieces of a range -/
/-- k is the size of the largest block that begins at low and ends at high at the latest -/
structure Greedy (W : Nat) (low high : Int) (k : Nat) : Prop where
  le : k ≤ W
  al : P k ∣ low
  fit : low + P k ≤ high + 1
  top : ∀ j : Nat, k < j → j ≤ W → P j ∣ low → low + P j ≤ high + 1 → False
theorem Greedy.uni {W : Nat} {low high : Int} {j k : Nat} (a : Greedy W low high j) (b : Greedy W low high k) : j = k := by
  rcases Nat.lt_trichotomy j k with h | h | h
  · exact (a.top k h b.le b.al b.fit).elim
  · exact h
  · exact (b.top j h a.le a.al a.fit).elim
inductive Pcs (W : Nat) (high : Int) : Int → List (Int × Nat) → Prop where
  | nil {low : Int} (h : high < low) : Pcs W high low []
  | cons {low : Int} {k : Nat} {l : List (Int × Nat)} (h : low ≤ high) (g : Greedy W low high k) (r : Pcs W high (low + P k) l) : Pcs W high low ((low, k) :: l)
theorem Pcs.uni {W : Nat} {high : Int} : ∀ {low : Int} {l l' : List (Int × Nat)}, Pcs W high low l → Pcs W high low l' → l = l' := by
  intro low l l' a
  induction a generalizing l' with
  | nil h =>
    intro b
    cases b with
    | nil _ => rfl
    | cons h2 _ _ => omega
  | cons h g r ih =>
    intro b
    cases b with
    | nil h2 => omega
    | cons h2 g2 r2 =>
      cases g.uni g2
      rw [ih r2]
theorem Pcs.mem {W : Nat} {high : Int} {low : Int} {l : List (Int × Nat)} (a : Pcs W high low l) : ∀ b ∈ l, P b.2 ∣ b.1 ∧ b.2 ≤ W ∧ low ≤ b.1 ∧ b.1 + P b.2 ≤ high + 1 := by
  induction a with
  | nil h => intro b hb; cases hb
  | @cons low k l h g r ih =>
    intro b hb
    rcases List.mem_cons.mp hb with rfl | hb
    · exact ⟨g.al, g.le, Int.le_refl _, g.fit⟩
    · obtain ⟨a1, a2, a3, a4⟩ := ih b hb
      have := P_pos k
      exact ⟨a1, a2, by omega, a4⟩
theorem Pcs.cover {W : Nat} {high : Int} {low : Int} {l : List (Int × Nat)} (a : Pcs W high low l) : ∀ x, low ≤ x → x ≤ high → ∃ b ∈ l, b.1 ≤ x ∧ x < b.1 + P b.2 := by
  induction a with
  | nil h => intro x h1 h2; omega
  | @cons low k l h g r ih =>
    intro x h1 h2
    by_cases hx : x < low + P k
    · exact ⟨(low, k), List.mem_cons_self, h1, hx⟩
    · obtain ⟨b, hb, q⟩ := ih x (by omega) h2
      exact ⟨b, List.mem_cons_of_mem _ hb, q⟩
theorem Pcs.asc {W : Nat} {high : Int} {low : Int} {l : List (Int × Nat)} (a : Pcs W high low l) : l.Pairwise fun b c => b.1 + P b.2 ≤ c.1 := by
  induction a with
  | nil h => exact List.Pairwise.nil
  | @cons low k l h g r ih =>
    refine List.Pairwise.cons (fun c hc => ?_) ih
    exact (r.mem c hc).2.2.1
/-- no larger aligned block within [lo, high] has b's first number -/
theorem Pcs.top {W : Nat} {high lo : Int} {low : Int} {l : List (Int × Nat)} (a : Pcs W high low l)
    (inv : ∀ (q : Int) (j : Nat), j ≤ W → P j ∣ q → lo ≤ q → q + P j ≤ high + 1 → q < low → low < q + P j → False) :
    ∀ b ∈ l, ∀ (q : Int) (j : Nat), b.2 < j → j ≤ W → P j ∣ q → lo ≤ q → q + P j ≤ high + 1 → q ≤ b.1 → b.1 < q + P j → False := by
  induction a with
  | nil h => intro b hb; cases hb
  | @cons low k l h g r ih =>
    have step : ∀ (q : Int) (j : Nat), k < j → j ≤ W → P j ∣ q → lo ≤ q → q + P j ≤ high + 1 → q ≤ low → low < q + P j → False := by
      intro q j hj hjW hd hlo hhi h1 h2
      rcases Int.lt_or_eq_of_le h1 with h1 | h1
      · exact inv q j hjW hd hlo hhi h1 h2
      · subst h1
        exact g.top j hj hjW hd hhi
    intro b hb
    rcases List.mem_cons.mp hb with rfl | hb
    · exact step
    · refine ih ?_ b hb
      intro q j hjW hd hlo hhi h1 h2
      have hk := P_pos k
      -- the block q meets the piece (its last number) and is larger
      have hjk : k < j := by
        rcases Nat.lt_or_ge k j with z | z
        · exact z
        · have := nest (x := low + P k - 1) z hd g.al (by omega) (by omega) (by omega) (by omega)
          omega
      have hn := nest (x := low + P k - 1) (Nat.le_of_lt hjk) g.al hd (by omega) (by omega) (by omega) (by omega)
      exact step q j hjk hjW hd hlo hhi hn.1 (by omega)
open Classical in
noncomputable def pcs (W : Nat) (low high : Int) : List (Int × Nat) := if h : ∃ l, Pcs W high low l then Classical.choose h else []
theorem pcs_eq {W : Nat} {low high : Int} {l : List (Int × Nat)} (h : Pcs W high low l) : pcs W low high = l := by
  have e : ∃ l, Pcs W high low l := ⟨l, h⟩
  unfold pcs
  rw [dif_pos e]
  exact (Classical.choose_spec e).uni h
/-- there is a greedy size -/
theorem greedy_ex (W : Nat) (low high : Int) (h : low ≤ high) : ∃ k, Greedy W low high k := by
  have go : ∀ m : Nat, m ≤ W → (∃ k, k ≤ m ∧ P k ∣ low ∧ low + P k ≤ high + 1 ∧ ∀ j, k < j → j ≤ m → P j ∣ low → low + P j ≤ high + 1 → False) := by
    intro m
    induction m with
    | zero =>
      intro _
      refine ⟨0, Nat.le_refl 0, ?_, by rw [P_zero]; omega, fun j h1 h2 => by omega⟩
      rw [P_zero]
      exact Int.one_dvd _
    | succ m ih =>
      intro hm
      by_cases q : P (m + 1) ∣ low ∧ low + P (m + 1) ≤ high + 1
      · exact ⟨m + 1, Nat.le_refl _, q.1, q.2, fun j h1 h2 => by omega⟩
      · obtain ⟨k, h1, h2, h3, h4⟩ := ih (by omega)
        refine ⟨k, by omega, h2, h3, fun j h5 h6 h7 h8 => ?_⟩
        rcases Nat.lt_or_ge m j with z | z
        · have : j = m + 1 := by omega
          subst this
          exact q ⟨h7, h8⟩
        · exact h4 j h5 z h7 h8
  obtain ⟨k, h1, h2, h3, h4⟩ := go W (Nat.le_refl W)
  exact ⟨k, h1, h2, h3, h4⟩
theorem pcs_ex (W : Nat) (high : Int) : ∀ (n : Nat) (low : Int), (high + 1 - low).toNat ≤ n → ∃ l, Pcs W high low l := by
  intro n
  induction n with
  | zero => intro low h; exact ⟨[], .nil (by omega)⟩
  | succ n ih =>
    intro low h
    by_cases q : low ≤ high
    · obtain ⟨k, g⟩ := greedy_ex W low high q
      have := P_pos k
      obtain ⟨l, r⟩ := ih (low + P k) (by omega)
      exact ⟨_, .cons q g r⟩
    · exact ⟨[], .nil (by omega)⟩
theorem pcs_ok (W : Nat) (low high : Int) : Pcs W high low (pcs W low high) := by
  obtain ⟨l, h⟩ := pcs_ex W high _ low (Nat.le_refl _)
  rw [pcs_eq h]
  exact h
theorem pcs_mem {W : Nat} {low high : Int} : ∀ b ∈ pcs W low high, P b.2 ∣ b.1 ∧ b.2 ≤ W ∧ low ≤ b.1 ∧ b.1 + P b.2 ≤ high + 1 := (pcs_ok W low high).mem
theorem pcs_cover {W : Nat} {low high : Int} : ∀ x, low ≤ x → x ≤ high → ∃ b ∈ pcs W low high, b.1 ≤ x ∧ x < b.1 + P b.2 := (pcs_ok W low high).cover
theorem pcs_asc {W : Nat} {low high : Int} : (pcs W low high).Pairwise fun b c => b.1 + P b.2 ≤ c.1 := (pcs_ok W low high).asc
theorem pcs_top {W : Nat} {low high : Int} : ∀ b ∈ pcs W low high, ∀ (q : Int) (j : Nat), b.2 < j → j ≤ W → P j ∣ q → low ≤ q → q + P j ≤ high + 1 → q ≤ b.1 → b.1 < q + P j → False :=
  (pcs_ok W low high).top fun q j _ _ h1 _ h2 _ => by omega
theorem pcs_first {W : Nat} {low high : Int} (h : low ≤ high) : ∃ k, (low, k) ∈ pcs W low high := by
  have e := pcs_ok W low high
  cases e' : pcs W low high with
  | nil => rw [e'] at e; cases e; omega
  | cons b l =>
    rw [e'] at e
    cases e
    exact ⟨_, List.mem_cons_self⟩
end AN
/-! Ma2 -/
set_option linter.all false
namespace AN
section
variable {α : Type} [DecidableEq α]

/-! ### tables: entries ((first number, size), word) -/
abbrev Ent (α : Type) := (Int × Nat) × α
def Has (e : Ent α) (x : Int) : Prop := e.1.1 ≤ x ∧ x < e.1.1 + P e.1.2
structure Tab (W : Nat) (E : List (Ent α)) : Prop where
  nd : (E.map (·.1)).Nodup
  al : ∀ e ∈ E, P e.1.2 ∣ e.1.1 ∧ e.1.2 ≤ W ∧ 0 ≤ e.1.1 ∧ e.1.1 + P e.1.2 ≤ P W
def val (E : List (Ent α)) (b : Int × Nat) : Option α := (E.find? fun e => decide (e.1 = b)).map (·.2)
theorem val_some {E : List (Ent α)} {b : Int × Nat} {w : α} (h : val E b = some w) : (b, w) ∈ E := by
  unfold val at h
  cases q : E.find? fun e => decide (e.1 = b) with
  | none => rw [q] at h; cases h
  | some e =>
    rw [q] at h
    have h1 := List.find?_some q
    have h2 := List.mem_of_find?_eq_some q
    simp at h1 h
    obtain ⟨e1, e2⟩ := e
    simp at h1 h
    subst h1; subst h
    exact h2
theorem val_none {E : List (Ent α)} {b : Int × Nat} (h : val E b = none) : ∀ w, (b, w) ∉ E := by
  intro w hw
  unfold val at h
  simp only [Option.map_eq_none_iff, List.find?_eq_none] at h
  exact h _ hw (by simp)
theorem nd_uni {E : List (Ent α)} (nd : (E.map (·.1)).Nodup) {b : Int × Nat} {w v : α} (h1 : (b, w) ∈ E) (h2 : (b, v) ∈ E) : w = v := by
  induction E with
  | nil => cases h1
  | cons e E ih =>
    rw [List.map_cons, List.nodup_cons] at nd
    rcases List.mem_cons.mp h1 with q1 | q1
    · rcases List.mem_cons.mp h2 with q2 | q2
      · rw [← q1] at q2
        exact (Prod.mk.inj q2).2.symm
      · subst q1
        exact (nd.1 (List.mem_map.mpr ⟨_, q2, rfl⟩)).elim
    · rcases List.mem_cons.mp h2 with q2 | q2
      · subst q2
        exact (nd.1 (List.mem_map.mpr ⟨_, q1, rfl⟩)).elim
      · exact ih nd.2 q1 q2
theorem val_of {E : List (Ent α)} (nd : (E.map (·.1)).Nodup) {b : Int × Nat} {w : α} (h : (b, w) ∈ E) : val E b = some w := by
  cases q : val E b with
  | none => exact (val_none q w h).elim
  | some v => rw [nd_uni nd (val_some q) h]
theorem val_perm {E E' : List (Ent α)} (nd : (E.map (·.1)).Nodup) (p : E.Perm E') (b : Int × Nat) : val E b = val E' b := by
  have nd' : (E'.map (·.1)).Nodup := (p.map _).nodup_iff.mp nd
  cases q : val E b with
  | some v => exact (val_of nd' (p.mem_iff.mp (val_some q))).symm
  | none =>
    cases q' : val E' b with
    | none => rfl
    | some v => exact (val_none q v (p.mem_iff.mpr (val_some q'))).elim
/-- the word of the smallest block that has x -/
def look (W : Nat) (E : List (Ent α)) (x : Int) : Option α := (List.range (W + 1)).findSome? fun k => val E (lowE x k, k)

theorem findSome_range {β : Type} (f : Nat → Option β) : ∀ (n : Nat), (∀ k, k < n → f k = none) ∧ (List.range n).findSome? f = none ∨ ∃ k v, k < n ∧ f k = some v ∧ (∀ j, j < k → f j = none) ∧ (List.range n).findSome? f = some v := by
  intro n
  induction n with
  | zero => exact .inl ⟨fun k h => by omega, rfl⟩
  | succ n ih =>
    rw [List.range_succ, List.findSome?_append]
    rcases ih with ⟨h1, h2⟩ | ⟨k, v, h1, h2, h3, h4⟩
    · cases q : f n with
      | none =>
        refine .inl ⟨fun k h => ?_, ?_⟩
        · rcases Nat.lt_or_ge k n with z | z
          · exact h1 k z
          · have : k = n := by omega
            rw [this]; exact q
        · rw [h2]
          simp [q]
      | some v =>
        refine .inr ⟨n, v, by omega, q, h1, ?_⟩
        rw [h2]
        simp [q]
    · exact .inr ⟨k, v, by omega, h2, h3, by rw [h4]; rfl⟩
/-- what look says, by entries that have x -/
theorem look_cases {W : Nat} {E : List (Ent α)} (T : Tab W E) (x : Int) :
    ((∀ e ∈ E, ¬ Has e x) ∧ look W E x = none) ∨ ∃ e ∈ E, Has e x ∧ (∀ d ∈ E, Has d x → e.1.2 ≤ d.1.2) ∧ look W E x = some e.2 := by
  have key : ∀ e ∈ E, Has e x → e = ((lowE x e.1.2, e.1.2), e.2) := fun e he h => by
    rw [lowE_eq (T.al e he).1 h.1 h.2]
  rcases findSome_range (fun k => val E (lowE x k, k)) (W + 1) with ⟨h1, h2⟩ | ⟨k, v, h1, h2, h3, h4⟩
  · refine .inl ⟨fun e he h => ?_, h2⟩
    have q := h1 e.1.2 (by have := (T.al e he).2.1; omega)
    rw [key e he h] at he
    exact val_none q _ he
  · refine .inr ⟨_, val_some h2, ⟨lowE_le x k, lowE_lt x k⟩, fun d hd h => ?_, h4⟩
    rcases Nat.lt_or_ge d.1.2 k with z | z
    · rw [key d hd h] at hd
      exact (val_none (h3 _ z) _ hd).elim
    · exact z
theorem look_some {W : Nat} {E : List (Ent α)} (T : Tab W E) {x : Int} {w : α} (h : look W E x = some w) : ∃ e ∈ E, Has e x ∧ e.2 = w ∧ ∀ d ∈ E, Has d x → e.1.2 ≤ d.1.2 := by
  rcases look_cases T x with ⟨_, q⟩ | ⟨e, he, hx, hm, q⟩
  · rw [q] at h; cases h
  · rw [q] at h
    exact ⟨e, he, hx, Option.some.inj h, hm⟩
/-- an entry with x than which none is smaller -/
theorem look_eq {W : Nat} {E : List (Ent α)} (T : Tab W E) {x : Int} {e : Ent α} (he : e ∈ E) (hx : Has e x) (hm : ∀ d ∈ E, Has d x → e.1.2 ≤ d.1.2) : look W E x = some e.2 := by
  rcases look_cases T x with ⟨h, _⟩ | ⟨d, hd, hdx, hdm, q⟩
  · exact (h e he hx).elim
  · rw [q]
    have h1 : d.1.2 = e.1.2 := by
      have := hm d hd hdx
      have := hdm e he hx
      omega
    have h2 : d.1.1 = e.1.1 := by
      have a1 := (T.al d hd).1
      rw [h1] at a1
      have b1 := hdx.2
      rw [h1] at b1
      exact same_block a1 (T.al e he).1 hdx.1 b1 hx.1 hx.2
    have : (d.1, d.2) ∈ E := hd
    rw [show d.1 = e.1 from Prod.ext h2 h1] at this
    rw [nd_uni T.nd this (show (e.1, e.2) ∈ E from he)]
theorem look_none {W : Nat} {E : List (Ent α)} (T : Tab W E) {x : Int} (h : ∀ e ∈ E, ¬ Has e x) : look W E x = none := by
  rcases look_cases T x with ⟨_, q⟩ | ⟨d, hd, hdx, _, _⟩
  · exact q
  · exact (h d hd hdx).elim
theorem look_perm {W : Nat} {E E' : List (Ent α)} (nd : (E.map (·.1)).Nodup) (p : E.Perm E') (x : Int) : look W E x = look W E' x := by
  unfold look
  congr 1
  funext k
  exact val_perm nd p _
theorem Tab.perm {W : Nat} {E E' : List (Ent α)} (T : Tab W E) (p : E.Perm E') : Tab W E' := ⟨(p.map _).nodup_iff.mp T.nd, fun e he => T.al e (p.mem_iff.mpr he)⟩
theorem look_congr {W : Nat} {E : List (Ent α)} (T : Tab W E) {x y : Int} (h : ∀ e ∈ E, Has e x ↔ Has e y) : look W E x = look W E y := by
  rcases look_cases T y with ⟨h1, q⟩ | ⟨e, he, hx, hm, q⟩
  · rw [q]
    exact look_none T fun e he z => h1 e he ((h e he).mp z)
  · rw [q]
    exact look_eq T he ((h e he).mpr hx) fun d hd z => hm d hd ((h d hd).mp z)

/-! ### rows (first, last, word) that follow one another from a to b -/
abbrev Row (α : Type) := Int × Int × Option α
def Seg : List (Row α) → Int → Int → Prop
  | [], a, b => a = b
  | r :: t, a, b => r.1 = a ∧ r.1 ≤ r.2.1 ∧ Seg t (r.2.1 + 1) b
def Says (rs : List (Row α)) (g : Int → Option α) : Prop := ∀ r ∈ rs, ∀ x, r.1 ≤ x → x ≤ r.2.1 → g x = r.2.2
theorem Seg.le : ∀ {rs : List (Row α)} {a b : Int}, Seg rs a b → a ≤ b
  | [], _, _, h => Int.le_of_eq h
  | r :: t, a, b, h => by
    have := Seg.le h.2.2
    obtain ⟨h1, h2, _⟩ := h
    omega
theorem Seg.mem : ∀ {rs : List (Row α)} {a b : Int}, Seg rs a b → ∀ r ∈ rs, a ≤ r.1 ∧ r.1 ≤ r.2.1 ∧ r.2.1 < b
  | [], _, _, _, r, hr => by cases hr
  | s :: t, a, b, h, r, hr => by
    have l := Seg.le h.2.2
    obtain ⟨h1, h2, h3⟩ := h
    rcases List.mem_cons.mp hr with rfl | hr
    · exact ⟨by omega, h2, by omega⟩
    · obtain ⟨g1, g2, g3⟩ := Seg.mem h3 r hr
      exact ⟨by omega, g2, g3⟩
theorem Seg.cover : ∀ {rs : List (Row α)} {a b : Int}, Seg rs a b → ∀ x, a ≤ x → x < b → ∃ r ∈ rs, r.1 ≤ x ∧ x ≤ r.2.1
  | [], a, b, h, x, h1, h2 => by
    have : a = b := h
    omega
  | s :: t, a, b, h, x, h1, h2 => by
    by_cases q : x ≤ s.2.1
    · exact ⟨s, List.mem_cons_self, by have := h.1; omega, q⟩
    · obtain ⟨r, hr, z⟩ := Seg.cover h.2.2 x (by omega) h2
      exact ⟨r, List.mem_cons_of_mem _ hr, z⟩
theorem Seg.asc : ∀ {rs : List (Row α)} {a b : Int}, Seg rs a b → rs.Pairwise fun r s => r.2.1 < s.1
  | [], _, _, _ => List.Pairwise.nil
  | s :: t, a, b, h => List.Pairwise.cons (fun r hr => by have := (Seg.mem h.2.2 r hr).1; omega) (Seg.asc h.2.2)
theorem asc_uni {β : Type} {lo hi : β → Int} : ∀ {l : List β}, (l.Pairwise fun r s => hi r < lo s) → ∀ r ∈ l, ∀ s ∈ l, ∀ x, lo r ≤ x → x ≤ hi r → lo s ≤ x → x ≤ hi s → r = s
  | [], _, r, hr, _, _, _, _, _, _, _ => by cases hr
  | c :: t, h, r, hr, s, hs, x, h1, h2, h3, h4 => by
    cases h with
    | cons h5 h6 =>
      rcases List.mem_cons.mp hr with q1 | q1 <;> rcases List.mem_cons.mp hs with q2 | q2
      · rw [q1, q2]
      · subst q1
        have := h5 s q2
        omega
      · subst q2
        have := h5 r q1
        omega
      · exact asc_uni h6 r q1 s q2 x h1 h2 h3 h4
theorem Seg.uni {rs : List (Row α)} {a b : Int} (h : Seg rs a b) {r s : Row α} (hr : r ∈ rs) (hs : s ∈ rs) {x : Int} (h1 : r.1 ≤ x) (h2 : x ≤ r.2.1) (h3 : s.1 ≤ x) (h4 : x ≤ s.2.1) : r = s :=
  asc_uni (lo := fun r : Row α => r.1) (hi := fun r => r.2.1) h.asc r hr s hs x h1 h2 h3 h4
theorem Seg.append : ∀ {rs ss : List (Row α)} {a b c : Int}, Seg rs a b → Seg ss b c → Seg (rs ++ ss) a c
  | [], ss, a, b, c, h, h2 => by
    have e : a = b := h
    subst e
    exact h2
  | r :: t, ss, a, b, c, h, h2 => ⟨h.1, h.2.1, Seg.append h.2.2 h2⟩
/-- the word of the row with x -/
def fOf (rs : List (Row α)) (x : Int) : Option α := match rs.find? fun r => decide (r.1 ≤ x ∧ x ≤ r.2.1) with
  | some r => r.2.2
  | none => none
theorem fOf_says {rs : List (Row α)} {a b : Int} (h : Seg rs a b) : Says rs (fOf rs) := fun r hr x h1 h2 => by
  unfold fOf
  cases q : rs.find? fun r => decide (r.1 ≤ x ∧ x ≤ r.2.1) with
  | none =>
    rw [List.find?_eq_none] at q
    exact (q r hr (by simp [h1, h2])).elim
  | some s =>
    have z := List.find?_some q
    simp at z
    rw [h.uni (List.mem_of_find?_eq_some q) hr z.1 z.2 h1 h2]

/-! ### the table of all pieces -/
noncomputable def rowP (W : Nat) (r : Row α) : List (Ent α) := match r.2.2 with
  | none => []
  | some w => (pcs W r.1 r.2.1).map fun b => (b, w)
noncomputable def allP (W : Nat) (rs : List (Row α)) : List (Ent α) := rs.flatMap (rowP W)
theorem mem_rowP {W : Nat} {r : Row α} {e : Ent α} : e ∈ rowP W r ↔ e.1 ∈ pcs W r.1 r.2.1 ∧ r.2.2 = some e.2 := by
  unfold rowP
  cases q : r.2.2 with
  | none => simp
  | some w =>
    obtain ⟨b, v⟩ := e
    simp only [List.mem_map, Prod.mk.injEq, Option.some.injEq]
    constructor
    · rintro ⟨c, h1, rfl, rfl⟩
      exact ⟨h1, rfl⟩
    · rintro ⟨h1, rfl⟩
      exact ⟨b, h1, rfl, rfl⟩
theorem mem_allP {W : Nat} {rs : List (Row α)} {e : Ent α} : e ∈ allP W rs ↔ ∃ r ∈ rs, e.1 ∈ pcs W r.1 r.2.1 ∧ r.2.2 = some e.2 := by
  unfold allP
  rw [List.mem_flatMap]
  constructor
  · rintro ⟨r, h1, h2⟩; exact ⟨r, h1, mem_rowP.mp h2⟩
  · rintro ⟨r, h1, h2⟩; exact ⟨r, h1, mem_rowP.mpr h2⟩
theorem rowP_asc {W : Nat} {r : Row α} : (rowP W r).Pairwise fun d e => d.1.1 + P d.1.2 ≤ e.1.1 := by
  unfold rowP
  cases r.2.2 with
  | none => exact List.Pairwise.nil
  | some w =>
    show ((pcs W r.1 r.2.1).map fun b => (b, w)).Pairwise _
    rw [List.pairwise_map]
    exact pcs_asc
theorem allP_asc {W : Nat} : ∀ {rs : List (Row α)} {a b : Int}, Seg rs a b → (allP W rs).Pairwise fun d e => d.1.1 + P d.1.2 ≤ e.1.1
  | [], _, _, _ => List.Pairwise.nil
  | r :: t, a, b, h => by
    show (rowP W r ++ allP W t).Pairwise _
    rw [List.pairwise_append]
    refine ⟨rowP_asc, allP_asc h.2.2, fun d hd e he => ?_⟩
    obtain ⟨h1, _⟩ := mem_rowP.mp hd
    obtain ⟨s, hs, h2, _⟩ := mem_allP.mp he
    have g1 := (pcs_mem _ h1).2.2.2
    have g2 := (pcs_mem _ h2).2.2.1
    have g3 := (Seg.mem h.2.2 s hs).1
    omega
theorem asc_nd {l : List (Ent α)} (h : l.Pairwise fun d e => d.1.1 + P d.1.2 ≤ e.1.1) : (l.map (·.1)).Nodup := by
  unfold List.Nodup
  rw [List.pairwise_map]
  refine h.imp fun {d e} q z => ?_
  have := P_pos d.1.2
  have z1 : d.1.1 = e.1.1 := congrArg Prod.fst z
  omega
theorem allP_tab {W : Nat} {rs : List (Row α)} (h : Seg rs 0 (P W)) : Tab W (allP W rs) := by
  refine ⟨asc_nd (allP_asc h), fun e he => ?_⟩
  obtain ⟨r, hr, h1, _⟩ := mem_allP.mp he
  obtain ⟨a1, a2, a3, a4⟩ := pcs_mem _ h1
  obtain ⟨b1, b2, b3⟩ := h.mem r hr
  exact ⟨a1, a2, by omega, by omega⟩
theorem allP_look {W : Nat} {rs : List (Row α)} (h : Seg rs 0 (P W)) {x : Int} (h0 : 0 ≤ x) (h1 : x < P W) : look W (allP W rs) x = fOf rs x := by
  have T := allP_tab h
  obtain ⟨r, hr, h2, h3⟩ := h.cover x h0 h1
  rw [fOf_says h r hr x h2 h3]
  have inr : ∀ e ∈ allP W rs, Has e x → r.2.2 = some e.2 := fun e he hx => by
    obtain ⟨s, hs, q1, q2⟩ := mem_allP.mp he
    obtain ⟨a1, a2, a3, a4⟩ := pcs_mem _ q1
    rw [h.uni hr hs h2 h3 (by have := hx.1; omega) (by have := hx.2; omega)]
    exact q2
  rcases look_cases T x with ⟨q1, q2⟩ | ⟨e, he, hx, _, q⟩
  · rw [q2]
    cases z : r.2.2 with
    | none => rfl
    | some w =>
      obtain ⟨b, hb, c1, c2⟩ := pcs_cover (W := W) x h2 h3
      exact (q1 (b, w) (mem_allP.mpr ⟨r, hr, hb, z⟩) ⟨c1, c2⟩).elim
  · rw [q, inr e he hx]
end
end AN
/-! Ma3 -/
set_option linter.all false
namespace AN
section
variable {α : Type} [DecidableEq α]

/-! ### the plan of a block, and its entries -/
inductive Pl (α : Type) where
  | leaf (v : α)
  | node (ws : List α) (a b : Pl α)
def Pl.words : Pl α → List α
  | .leaf v => [v]
  | .node ws _ _ => ws
/-- what holds of the plan of the block [low, low + P k) for the answers g, z the answer of none -/
inductive PlanOK (g : Int → α) (z : α) : Int → Nat → Pl α → Prop where
  | leaf {low : Int} {k : Nat} {v : α} (h : ∀ x, low ≤ x → x < low + P k → g x = v) : PlanOK g z low k (.leaf v)
  | node {low : Int} {k : Nat} {ws : List α} {a b : Pl α} (ha : PlanOK g z low k a) (hb : PlanOK g z (low + P k) k b)
      (h0 : (∃ x, low ≤ x ∧ x < low + P (k + 1) ∧ g x = z) → ws = [z])
      (h1 : (∀ x, low ≤ x → x < low + P (k + 1) → g x ≠ z) → (∃ u, u ∈ a.words ∧ u ∈ b.words) → ∀ v, v ∈ ws ↔ v ∈ a.words ∧ v ∈ b.words)
      (h2 : (∀ x, low ≤ x → x < low + P (k + 1) → g x ≠ z) → (∀ u, u ∈ a.words → u ∉ b.words) → ∀ v, v ∈ ws ↔ v ∈ a.words ∨ v ∈ b.words)
      (hn : ∀ v, ¬ ∀ x, low ≤ x → x < low + P (k + 1) → g x = v) : PlanOK g z low (k + 1) (.node ws a b)
/-- the word a block goes on with, the entry it makes -/
def goOn (ws : List α) (h : α) : α := if h ∈ ws then h else ws.headD h
def own (ws : List α) (low : Int) (k : Nat) (h : α) : List (Ent α) := if h ∈ ws then [] else [((low, k), ws.headD h)]
def ents : Pl α → Int → Nat → α → List (Ent α)
  | .leaf v, low, k, h => own [v] low k h
  | .node ws a b, low, k, h => own ws low k h ++ ents a low (k - 1) (goOn ws h) ++ ents b (low + P (k - 1)) (k - 1) (goOn ws h)
theorem own_in {ws : List α} {low : Int} {k : Nat} {h : α} : ∀ e ∈ own ws low k h, e.1 = (low, k) ∧ e.2 = goOn ws h ∧ h ∉ ws := by
  intro e he
  unfold own at he
  unfold goOn
  by_cases q : h ∈ ws
  · rw [if_pos q] at he; cases he
  · rw [if_neg q] at he
    rw [if_neg q]
    have := List.mem_singleton.mp he
    subst this
    exact ⟨rfl, rfl, q⟩
theorem own_eq {ws : List α} {low : Int} {k : Nat} {h : α} (q : h ∉ ws) : own ws low k h = [((low, k), goOn ws h)] := by
  unfold own goOn
  rw [if_neg q, if_neg q]
theorem own_nil {ws : List α} {low : Int} {k : Nat} {h : α} (q : h ∈ ws) : own ws low k h = [] := by
  unfold own
  rw [if_pos q]
/-- words are never none at all -/
theorem PlanOK.ne {g : Int → α} {z : α} {low : Int} {k : Nat} {p : Pl α} (h : PlanOK g z low k p) : p.words ≠ [] := by
  induction h with
  | leaf h => intro q; cases q
  | @node low k ws a b ha hb h0 h1 h2 hn iha ihb =>
    show ws ≠ []
    by_cases q : ∃ x, low ≤ x ∧ x < low + P (k + 1) ∧ g x = z
    · rw [h0 q]; intro r; cases r
    · have q' : ∀ x, low ≤ x → x < low + P (k + 1) → g x ≠ z := fun x a1 a2 a3 => q ⟨x, a1, a2, a3⟩
      obtain ⟨u, hu⟩ := List.exists_mem_of_ne_nil _ iha
      intro r
      by_cases t : ∃ u, u ∈ a.words ∧ u ∈ b.words
      · obtain ⟨v, hv⟩ := t
        have := (h1 q' ⟨v, hv⟩ v).mpr hv
        rw [r] at this
        cases this
      · have := (h2 q' (fun u hu hb => t ⟨u, hu, hb⟩) u).mpr (.inl hu)
        rw [r] at this
        cases this
theorem goOn_mem {ws : List α} (h : ws ≠ []) (v : α) : goOn ws v ∈ ws := by
  unfold goOn
  by_cases q : v ∈ ws
  · rw [if_pos q]; exact q
  · rw [if_neg q]
    cases ws with
    | nil => exact (h rfl).elim
    | cons a t => exact List.mem_cons_self
theorem goOn_id {ws : List α} {v : α} (q : v ∈ ws) : goOn ws v = v := by
  unfold goOn
  rw [if_pos q]

/-! ### where the entries of a plan stand -/
theorem ents_in {g : Int → α} {z : α} {low : Int} {k : Nat} {p : Pl α} (h : PlanOK g z low k p) : ∀ v, P k ∣ low → ∀ e ∈ ents p low k v, P e.1.2 ∣ e.1.1 ∧ e.1.2 ≤ k ∧ low ≤ e.1.1 ∧ e.1.1 + P e.1.2 ≤ low + P k := by
  induction h with
  | @leaf low k v h =>
    intro w hd e he
    obtain ⟨h1, _, _⟩ := own_in e he
    rw [h1]
    exact ⟨hd, Nat.le_refl _, Int.le_refl _, Int.le_refl _⟩
  | @node low k ws a b ha hb h0 h1 h2 hn iha ihb =>
    intro w hd e he
    have hd2 : P k ∣ low := Int.dvd_trans (P_dvd (Nat.le_succ k)) hd
    have hd3 : P k ∣ low + P k := Int.dvd_add hd2 (Int.dvd_refl _)
    have ps := P_succ k
    have pp := P_pos k
    show P e.1.2 ∣ e.1.1 ∧ e.1.2 ≤ k + 1 ∧ low ≤ e.1.1 ∧ e.1.1 + P e.1.2 ≤ low + P (k + 1)
    rcases List.mem_append.mp he with he | he
    · rcases List.mem_append.mp he with he | he
      · obtain ⟨q1, _, _⟩ := own_in e he
        rw [q1]
        exact ⟨hd, Nat.le_refl _, Int.le_refl _, Int.le_refl _⟩
      · obtain ⟨q1, q2, q3, q4⟩ := iha _ hd2 e he
        have q2' : e.1.2 ≤ k := q2
        have q4' : e.1.1 + P e.1.2 ≤ low + P k := q4
        exact ⟨q1, by omega, q3, by omega⟩
    · obtain ⟨q1, q2, q3, q4⟩ := ihb _ hd3 e he
      have q2' : e.1.2 ≤ k := q2
      have q3' : low + P k ≤ e.1.1 := q3
      have q4' : e.1.1 + P e.1.2 ≤ low + P k + P k := q4
      exact ⟨q1, by omega, by omega, by omega⟩
theorem Pairwise.app {β : Type} {R : β → β → Prop} {l m : List β} (h1 : l.Pairwise R) (h2 : m.Pairwise R) (h3 : ∀ a ∈ l, ∀ b ∈ m, R a b) : (l ++ m).Pairwise R := List.pairwise_append.mpr ⟨h1, h2, h3⟩
/-- in the order of networks: by first number, the larger block first -/
def Bef (d e : Ent α) : Prop := d.1.1 < e.1.1 ∨ (d.1.1 = e.1.1 ∧ e.1.2 < d.1.2)
theorem ents_asc {g : Int → α} {z : α} {low : Int} {k : Nat} {p : Pl α} (h : PlanOK g z low k p) : ∀ v, P k ∣ low → (ents p low k v).Pairwise Bef := by
  induction h with
  | @leaf low k v h =>
    intro w hd
    show (own [v] low k w).Pairwise Bef
    unfold own
    split
    · exact List.Pairwise.nil
    · exact List.pairwise_singleton _ _
  | @node low k ws a b ha hb h0 h1 h2 hn iha ihb =>
    intro w hd
    have hd2 : P k ∣ low := Int.dvd_trans (P_dvd (Nat.le_succ k)) hd
    have hd3 : P k ∣ low + P k := Int.dvd_add hd2 (Int.dvd_refl _)
    have pp := P_pos k
    show (own ws low (k + 1) w ++ ents a low k (goOn ws w) ++ ents b (low + P k) k (goOn ws w)).Pairwise Bef
    refine Pairwise.app (Pairwise.app ?_ (iha _ hd2) ?_) (ihb _ hd3) ?_
    · unfold own
      split
      · exact List.Pairwise.nil
      · exact List.pairwise_singleton _ _
    · intro d hdm e hem
      obtain ⟨q1, _, _⟩ := own_in d hdm
      obtain ⟨_, r2, r3, r4⟩ := ents_in ha _ hd2 e hem
      have : d.1.1 = low := congrArg Prod.fst q1
      have : d.1.2 = k + 1 := congrArg Prod.snd q1
      unfold Bef
      omega
    · intro d hdm e hem
      obtain ⟨_, r2, r3, r4⟩ := ents_in hb _ hd3 e hem
      unfold Bef
      left
      rcases List.mem_append.mp hdm with q | q
      · obtain ⟨q1, _, _⟩ := own_in d q
        have : d.1.1 = low := congrArg Prod.fst q1
        omega
      · obtain ⟨_, s2, s3, s4⟩ := ents_in ha _ hd2 d q
        have := P_pos d.1.2
        omega
theorem bef_nd {l : List (Ent α)} (h : l.Pairwise Bef) : (l.map (·.1)).Nodup := by
  unfold List.Nodup
  rw [List.pairwise_map]
  refine h.imp fun {d e} q z => ?_
  have z1 : d.1.1 = e.1.1 := congrArg Prod.fst z
  have z2 : d.1.2 = e.1.2 := congrArg Prod.snd z
  unfold Bef at q
  omega
theorem ents_tab {g : Int → α} {z : α} {W : Nat} {p : Pl α} (h : PlanOK g z 0 W p) (v : α) : Tab W (ents p 0 W v) := by
  have hd : P W ∣ 0 := Int.dvd_zero _
  refine ⟨bef_nd (ents_asc h v hd), fun e he => ?_⟩
  obtain ⟨q1, q2, q3, q4⟩ := ents_in h v hd e he
  exact ⟨q1, q2, q3, by omega⟩

/-! ### the entries answer as g -/
/-- the answer of entries, v where there is none: by the smallest block that has x -/
inductive Ans (E : List (Ent α)) (v : α) (x : Int) : α → Prop where
  | none (h : ∀ e ∈ E, ¬ Has e x) : Ans E v x v
  | some {e : Ent α} (he : e ∈ E) (hx : Has e x) (hm : ∀ d ∈ E, Has d x → e.1.2 ≤ d.1.2) : Ans E v x e.2
theorem ents_ans {g : Int → α} {z : α} {low : Int} {k : Nat} {p : Pl α} (h : PlanOK g z low k p) :
    ∀ v, P k ∣ low → ((∃ x, low ≤ x ∧ x < low + P k ∧ g x = z) → v = z) → ∀ x, low ≤ x → x < low + P k → Ans (ents p low k v) v x (g x) := by
  induction h with
  | @leaf low k u h =>
    intro v hd hz x h1 h2
    rw [h x h1 h2]
    show Ans (own [u] low k v) v x u
    by_cases q : v ∈ [u]
    · rw [own_nil q]
      have e : v = u := List.mem_singleton.mp q
      subst e
      exact .none fun e he => by cases he
    · rw [own_eq q]
      have e : goOn [u] v = u := List.mem_singleton.mp (goOn_mem (ws := [u]) (by intro r; cases r) v)
      rw [e]
      refine Ans.some (e := ((low, k), u)) (List.mem_singleton.mpr rfl) ⟨h1, h2⟩ fun d hd _ => ?_
      rw [List.mem_singleton.mp hd]
      exact Nat.le_refl _
  | @node low k ws a b ha hb h0 h1 h2 hn iha ihb =>
    intro v hd hz x hx1 hx2
    have ps := P_succ k
    have pp := P_pos k
    have hd2 : P k ∣ low := Int.dvd_trans (P_dvd (Nat.le_succ k)) hd
    have hd3 : P k ∣ low + P k := Int.dvd_add hd2 (Int.dvd_refl _)
    have ne := (PlanOK.node ha hb h0 h1 h2 hn).ne
    have ne' : ws ≠ [] := ne
    -- the word that goes on
    have hv' : (∃ y, low ≤ y ∧ y < low + P (k + 1) ∧ g y = z) → goOn ws v = z := fun q => by
      rw [h0 q]
      exact List.mem_singleton.mp (goOn_mem (ws := [z]) (by intro r; cases r) v)
    have va : (∃ y, low ≤ y ∧ y < low + P k ∧ g y = z) → goOn ws v = z := fun ⟨y, q1, q2, q3⟩ => hv' ⟨y, q1, by omega, q3⟩
    have vb : (∃ y, low + P k ≤ y ∧ y < low + P k + P k ∧ g y = z) → goOn ws v = z := fun ⟨y, q1, q2, q3⟩ => hv' ⟨y, by omega, by omega, q3⟩
    show Ans (own ws low (k + 1) v ++ ents a low k (goOn ws v) ++ ents b (low + P k) k (goOn ws v)) v x (g x)
    -- one half H of the entries answers, the other has nothing at x
    have join : ∀ (L : List (Ent α)) (r : α), (∀ e ∈ own ws low (k + 1) v ++ ents a low k (goOn ws v) ++ ents b (low + P k) k (goOn ws v), Has e x → e ∈ own ws low (k + 1) v ∨ e ∈ L) →
        (∀ e ∈ L, e ∈ own ws low (k + 1) v ++ ents a low k (goOn ws v) ++ ents b (low + P k) k (goOn ws v)) → (∀ e ∈ L, e.1.2 ≤ k) → Ans L (goOn ws v) x r →
        Ans (own ws low (k + 1) v ++ ents a low k (goOn ws v) ++ ents b (low + P k) k (goOn ws v)) v x r := by
      intro L r sub sup hk hA
      cases hA with
      | none hn =>
        by_cases q : v ∈ ws
        · refine Eq.mpr (congrArg (fun r => Ans (own ws low (k + 1) v ++ ents a low k (goOn ws v) ++ ents b (low + P k) k (goOn ws v)) v x r) (goOn_id q)) (.none fun e he hxe => ?_)
          rcases sub e he hxe with z1 | z1
          · rw [own_nil q] at z1; cases z1
          · exact hn e z1 hxe
        · have hm : ((low, k + 1), goOn ws v) ∈ own ws low (k + 1) v ++ ents a low k (goOn ws v) ++ ents b (low + P k) k (goOn ws v) := by
            rw [own_eq q]
            exact List.mem_append_left _ (List.mem_append_left _ (List.mem_singleton.mpr rfl))
          refine Ans.some (e := ((low, k + 1), goOn ws v)) hm ⟨hx1, hx2⟩ fun d hdm hdx => ?_
          rcases sub d hdm hdx with z1 | z1
          · obtain ⟨z2, _, _⟩ := own_in d z1
            rw [z2]
            exact Nat.le_refl _
          · exact (hn d z1 hdx).elim
      | @some e he hxe hm =>
        refine Ans.some (sup e he) hxe fun d hdm hdx => ?_
        rcases sub d hdm hdx with z1 | z1
        · obtain ⟨z2, _, _⟩ := own_in d z1
          have z3 : d.1.2 = k + 1 := congrArg Prod.snd z2
          have := hk e he
          omega
        · exact hm d z1 hdx
    by_cases hx : x < low + P k
    · refine join (ents a low k (goOn ws v)) (g x) (fun e he hxe => ?_) (fun e he => List.mem_append_left _ (List.mem_append_right _ he)) (fun e he => (ents_in ha _ hd2 e he).2.1) (iha _ hd2 va x hx1 hx)
      rcases List.mem_append.mp he with he | he
      · rcases List.mem_append.mp he with he | he
        · exact .inl he
        · exact .inr he
      · obtain ⟨_, _, r3, _⟩ := ents_in hb _ hd3 e he
        have := hxe.1
        omega
    · refine join (ents b (low + P k) k (goOn ws v)) (g x) (fun e he hxe => ?_) (fun e he => List.mem_append_right _ he) (fun e he => (ents_in hb _ hd3 e he).2.1) (ihb _ hd3 vb x (by omega) (by omega))
      rcases List.mem_append.mp he with he | he
      · rcases List.mem_append.mp he with he | he
        · exact .inl he
        · obtain ⟨_, _, _, r4⟩ := ents_in ha _ hd2 e he
          have := hxe.2
          omega
      · exact .inr he
end
end AN
/-! Ma4 -/
set_option linter.all false
namespace AN
section
variable {α : Type} [DecidableEq α]
/-! ### no table has fewer entries -/
def miss (v : α) (ws : List α) : Nat := if v ∈ ws then 0 else 1
theorem miss_in {v : α} {ws : List α} (h : v ∈ ws) : miss v ws = 0 := if_pos h
theorem miss_out {v : α} {ws : List α} (h : v ∉ ws) : miss v ws = 1 := if_neg h
theorem miss_le (v : α) (ws : List α) : miss v ws ≤ 1 := by
  unfold miss
  split <;> omega
theorem own_len (ws : List α) (low : Int) (k : Nat) (v : α) : (own ws low k v).length = miss v ws := by
  unfold own miss
  split <;> rfl
/-- whether the words of two halves meet -/
theorem cost {g : Int → α} {z : α} {low : Int} {k : Nat} {p : Pl α} (h : PlanOK g z low k p) (nz : ∀ x, low ≤ x → x < low + P k → g x ≠ z) : ∃ c, ∀ v, (ents p low k v).length = c + miss v p.words := by
  induction h with
  | @leaf low k u h => exact ⟨0, fun v => by rw [Nat.zero_add]; exact own_len _ _ _ _⟩
  | @node low k ws a b ha hb h0 h1 h2 hn iha ihb =>
    have ps := P_succ k
    have pp := P_pos k
    obtain ⟨ca, ea⟩ := iha fun x q1 q2 => nz x q1 (by omega)
    obtain ⟨cb, eb⟩ := ihb fun x q1 q2 => nz x (by omega) (by omega)
    have ne : ws ≠ [] := (PlanOK.node ha hb h0 h1 h2 hn).ne
    have len : ∀ v, (ents (.node ws a b) low (k + 1) v).length = miss v ws + (ca + miss (goOn ws v) a.words) + (cb + miss (goOn ws v) b.words) := fun v => by
      show (own ws low (k + 1) v ++ ents a low k (goOn ws v) ++ ents b (low + P k) k (goOn ws v)).length = _
      rw [List.length_append, List.length_append, own_len, ea, eb]
    by_cases t : ∃ u, u ∈ a.words ∧ u ∈ b.words
    · refine ⟨ca + cb, fun v => ?_⟩
      have q := (h1 nz t (goOn ws v)).mp (goOn_mem ne v)
      rw [len v, miss_in q.1, miss_in q.2]
      show _ = ca + cb + miss v ws
      omega
    · have t' : ∀ u, u ∈ a.words → u ∉ b.words := fun u q1 q2 => t ⟨u, q1, q2⟩
      refine ⟨ca + cb + 1, fun v => ?_⟩
      have q := (h2 nz t' (goOn ws v)).mp (goOn_mem ne v)
      rw [len v]
      show _ = ca + cb + 1 + miss v ws
      rcases q with q | q
      · rw [miss_in q, miss_out (t' _ q)]; omega
      · rw [miss_in q, miss_out (fun r => t' _ r q)]; omega
/-- .. and what it is of the halves' -/
theorem cost_node {g : Int → α} {z : α} {low : Int} {k : Nat} {ws : List α} {a b : Pl α} (h : PlanOK g z low (k + 1) (.node ws a b)) (nz : ∀ x, low ≤ x → x < low + P (k + 1) → g x ≠ z) :
    ∃ ca cb, (∀ v, (ents a low k v).length = ca + miss v a.words) ∧ (∀ v, (ents b (low + P k) k v).length = cb + miss v b.words) ∧ ∀ v u, (ents (.node ws a b) low (k + 1) v).length ≤ ca + cb + miss u a.words + miss u b.words + 1 ∧
      (ents (.node ws a b) low (k + 1) v).length ≤ ca + cb + miss v a.words + miss v b.words := by
  cases h with
  | node ha hb h0 h1 h2 hn =>
    have ps := P_succ k
    have pp := P_pos k
    obtain ⟨ca, ea⟩ := cost ha fun x q1 q2 => nz x q1 (by omega)
    obtain ⟨cb, eb⟩ := cost hb fun x q1 q2 => nz x (by omega) (by omega)
    have ne : ws ≠ [] := (PlanOK.node ha hb h0 h1 h2 hn).ne
    have len : ∀ v, (ents (.node ws a b) low (k + 1) v).length = miss v ws + (ca + miss (goOn ws v) a.words) + (cb + miss (goOn ws v) b.words) := fun v => by
      show (own ws low (k + 1) v ++ ents a low k (goOn ws v) ++ ents b (low + P k) k (goOn ws v)).length = _
      rw [List.length_append, List.length_append, own_len, ea, eb]
    refine ⟨ca, cb, ea, eb, fun v u => ?_⟩
    rw [len v]
    have l1 := miss_le v ws
    by_cases t : ∃ u, u ∈ a.words ∧ u ∈ b.words
    · have q := (h1 nz t (goOn ws v)).mp (goOn_mem ne v)
      rw [miss_in q.1, miss_in q.2]
      refine ⟨by omega, ?_⟩
      by_cases r : v ∈ ws
      · rw [miss_in r]; omega
      · rw [miss_out r]
        have : ¬ (v ∈ a.words ∧ v ∈ b.words) := fun s => r ((h1 nz t v).mpr s)
        by_cases s : v ∈ a.words
        · rw [miss_out (fun s' => this ⟨s, s'⟩)]; omega
        · rw [miss_out s]; omega
    · have t' : ∀ u, u ∈ a.words → u ∉ b.words := fun u q1 q2 => t ⟨u, q1, q2⟩
      have q := (h2 nz t' (goOn ws v)).mp (goOn_mem ne v)
      have e1 : miss (goOn ws v) a.words + miss (goOn ws v) b.words = 1 := by
        rcases q with q | q
        · rw [miss_in q, miss_out (t' _ q)]
        · rw [miss_in q, miss_out (fun r => t' _ r q)]
      have e2 : 1 ≤ miss u a.words + miss u b.words := by
        by_cases s : u ∈ a.words
        · rw [miss_out (t' u s)]; omega
        · rw [miss_out s]; omega
      refine ⟨by omega, ?_⟩
      by_cases r : v ∈ ws
      · rw [miss_in r]
        have : 1 ≤ miss v a.words + miss v b.words := by
          by_cases s : v ∈ a.words
          · rw [miss_out (t' v s)]; omega
          · rw [miss_out s]; omega
        omega
      · rw [miss_out r]
        have r1 : v ∉ a.words := fun s => r ((h2 nz t' v).mpr (.inl s))
        have r2 : v ∉ b.words := fun s => r ((h2 nz t' v).mpr (.inr s))
        rw [miss_out r1, miss_out r2]
        omega
theorem filter3 {β : Type} (p q r : β → Bool) : ∀ (l : List β), (∀ e ∈ l, p e = true → q e = false ∧ r e = false) → (∀ e ∈ l, q e = true → r e = false) → (l.filter p).length + (l.filter q).length + (l.filter r).length ≤ l.length
  | [], _, _ => Nat.le_refl _
  | e :: l, h1, h2 => by
    have ih := filter3 p q r l (fun d hd => h1 d (List.mem_cons_of_mem _ hd)) (fun d hd => h2 d (List.mem_cons_of_mem _ hd))
    have a1 := h1 e List.mem_cons_self
    have a2 := h2 e List.mem_cons_self
    rw [List.filter_cons, List.filter_cons, List.filter_cons, List.length_cons]
    cases hp : p e with
    | true =>
      obtain ⟨b1, b2⟩ := a1 hp
      rw [b1, b2]
      simp only [if_true, Bool.false_eq_true, if_false, List.length_cons]
      omega
    | false =>
      cases hq : q e with
      | true =>
        rw [a2 hq]
        simp only [if_true, Bool.false_eq_true, if_false, List.length_cons]
        omega
      | false =>
        cases hr : r e with
        | true =>
          simp only [if_true, Bool.false_eq_true, if_false, List.length_cons]
          omega
        | false =>
          simp only [Bool.false_eq_true, if_false]
          omega
def InB (low : Int) (k : Nat) (e : Ent α) : Prop := P e.1.2 ∣ e.1.1 ∧ e.1.2 ≤ k ∧ low ≤ e.1.1 ∧ e.1.1 + P e.1.2 ≤ low + P k
def inb (low : Int) (k : Nat) (e : Ent α) : Bool := decide (e.1.2 ≤ k ∧ low ≤ e.1.1 ∧ e.1.1 + P e.1.2 ≤ low + P k)
theorem least {g : Int → α} {z : α} {low : Int} {k : Nat} {p : Pl α} (h : PlanOK g z low k p) : ∀ (E : List (Ent α)) (v : α), P k ∣ low → (E.map (·.1)).Nodup → (∀ e ∈ E, InB low k e ∧ e.2 ≠ z) →
    (∀ x, low ≤ x → x < low + P k → Ans E v x (g x)) → (ents p low k v).length ≤ E.length := by
  induction h with
  | @leaf low k u h =>
    intro E v hd nd hE hA
    show (own [u] low k v).length ≤ _
    rw [own_len]
    by_cases q : v ∈ [u]
    · rw [miss_in q]; exact Nat.zero_le _
    · rw [miss_out q]
      have pp := P_pos k
      have A := hA low (Int.le_refl _) (by omega)
      have e : g low = u := h low (Int.le_refl _) (by omega)
      rw [e] at A
      cases A with
      | none _ => exact (q (List.mem_singleton.mpr rfl)).elim
      | some he _ _ => exact List.length_pos_of_mem he
  | @node low k ws a b ha hb h0 h1 h2 hn iha ihb =>
    intro E v hd nd hE hA
    have hp := PlanOK.node ha hb h0 h1 h2 hn
    have ps := P_succ k
    have pp := P_pos k
    have hd2 : P k ∣ low := Int.dvd_trans (P_dvd (Nat.le_succ k)) hd
    have hd3 : P k ∣ low + P k := Int.dvd_add hd2 (Int.dvd_refl _)
    -- every entry is the block itself or lies in one half
    have part : ∀ e ∈ E, e.1 = (low, k + 1) ∨ InB low k e ∨ InB (low + P k) k e := fun e he => by
      obtain ⟨⟨q1, q2, q3, q4⟩, _⟩ := hE e he
      have pe := P_pos e.1.2
      rcases Nat.lt_or_ge k e.1.2 with t | t
      · left
        have e2 : e.1.2 = k + 1 := by omega
        rw [e2] at q4
        exact Prod.ext (by show e.1.1 = low; omega) e2
      · right
        rcases Int.lt_or_le e.1.1 (low + P k) with s | s
        · left
          have := nest (x := e.1.1) t q1 hd2 (Int.le_refl _) (by omega) q3 s
          exact ⟨q1, t, q3, this.2⟩
        · right
          exact ⟨q1, t, s, by omega⟩
    have mema : ∀ e, e ∈ E.filter (inb low k) → e ∈ E ∧ InB low k e := fun e he => by
      obtain ⟨m1, m2⟩ := List.mem_filter.mp he
      exact ⟨m1, (hE e m1).1.1, of_decide_eq_true m2⟩
    have memb : ∀ e, e ∈ E.filter (inb (low + P k) k) → e ∈ E ∧ InB (low + P k) k e := fun e he => by
      obtain ⟨m1, m2⟩ := List.mem_filter.mp he
      exact ⟨m1, (hE e m1).1.1, of_decide_eq_true m2⟩
    have ina : ∀ e ∈ E, InB low k e → e ∈ E.filter (inb low k) := fun e he q => List.mem_filter.mpr ⟨he, decide_eq_true q.2⟩
    have inb' : ∀ e ∈ E, InB (low + P k) k e → e ∈ E.filter (inb (low + P k) k) := fun e he q => List.mem_filter.mpr ⟨he, decide_eq_true q.2⟩
    have nda : ((E.filter (inb low k)).map (·.1)).Nodup := (List.Sublist.map _ List.filter_sublist).nodup nd
    have ndb : ((E.filter (inb (low + P k) k)).map (·.1)).Nodup := (List.Sublist.map _ List.filter_sublist).nodup nd
    have sum := filter3 (fun e : Ent α => decide (e.1 = (low, k + 1))) (inb low k) (inb (low + P k) k) E
      (fun e he q => by
        have q : e.1 = (low, k + 1) := of_decide_eq_true q
        have q2 : e.1.2 = k + 1 := congrArg Prod.snd q
        exact ⟨decide_eq_false fun r => by omega, decide_eq_false fun r => by omega⟩)
      (fun e he q => by
        obtain ⟨q1, q2, q3⟩ := of_decide_eq_true (p := e.1.2 ≤ k ∧ low ≤ e.1.1 ∧ e.1.1 + P e.1.2 ≤ low + P k) q
        have := P_pos e.1.2
        exact decide_eq_false fun r => by omega)
    -- the answers of a half, w where the half has none
    have half : ∀ (lo : Int) (L : List (Ent α)) (w : α), (∀ e ∈ L, e ∈ E ∧ InB lo k e) → (∀ e ∈ E, InB lo k e → e ∈ L) → (∀ x, lo ≤ x → x < lo + P k → low ≤ x ∧ x < low + P (k + 1)) →
        (∀ e ∈ E, ∀ x, lo ≤ x → x < lo + P k → Has e x → e.1 = (low, k + 1) ∨ InB lo k e) →
        ((∀ e ∈ E, e.1 ≠ (low, k + 1)) → w = v) → (∀ e ∈ E, e.1 = (low, k + 1) → w = e.2) → ∀ x, lo ≤ x → x < lo + P k → Ans L w x (g x) := by
      intro lo L w hL hL2 hx hpart hw1 hw2 x x1 x2
      obtain ⟨y1, y2⟩ := hx x x1 x2
      have A := hA x y1 y2
      generalize g x = r at A
      cases A with
      | none hn =>
        have z1 : ∀ e ∈ E, e.1 ≠ (low, k + 1) := fun e he q => hn e he ⟨by rw [show e.1.1 = low from congrArg Prod.fst q]; exact y1, by
          rw [show e.1.1 = low from congrArg Prod.fst q, show e.1.2 = k + 1 from congrArg Prod.snd q]; exact y2⟩
        have := hw1 z1
        subst this
        exact .none fun e he => hn e (hL e he).1
      | @some e he hxe hm =>
        rcases hpart e he x x1 x2 hxe with q | q
        · rw [← hw2 e he q]
          refine .none fun d hd hdx => ?_
          have := hm d (hL d hd).1 hdx
          have q2 : e.1.2 = k + 1 := congrArg Prod.snd q
          have := (hL d hd).2.2.1
          omega
        · exact .some (hL2 e he q) hxe fun d hd hdx => hm d (hL d hd).1 hdx
    have hpa : ∀ e ∈ E, ∀ x, low ≤ x → x < low + P k → Has e x → e.1 = (low, k + 1) ∨ InB low k e := fun e he x x1 x2 hx => by
      rcases part e he with q | q | q
      · exact .inl q
      · exact .inr q
      · have := q.2.2.1
        have := hx.1
        omega
    have hpb : ∀ e ∈ E, ∀ x, low + P k ≤ x → x < low + P k + P k → Has e x → e.1 = (low, k + 1) ∨ InB (low + P k) k e := fun e he x x1 x2 hx => by
      rcases part e he with q | q | q
      · exact .inl q
      · have := q.2.2.2
        have := hx.2
        omega
      · exact .inr q
    by_cases t : ∃ e ∈ E, e.1 = (low, k + 1)
    · -- the block has an entry
      obtain ⟨e0, he0, k0⟩ := t
      have hw2 : ∀ e ∈ E, e.1 = (low, k + 1) → e0.2 = e.2 := fun e he q => by
        refine nd_uni nd (b := (low, k + 1)) ?_ ?_
        · rw [← k0]; exact he0
        · rw [← q]; exact he
      have Aa := half low (E.filter (inb low k)) e0.2 mema ina (fun x x1 x2 => ⟨x1, by omega⟩) hpa (fun q => (q e0 he0 k0).elim) hw2
      have Ab := half (low + P k) (E.filter (inb (low + P k) k)) e0.2 memb inb' (fun x x1 x2 => ⟨by omega, by omega⟩) hpb (fun q => (q e0 he0 k0).elim) hw2
      have la := iha _ e0.2 hd2 nda (fun e he => ⟨(mema e he).2, (hE e (mema e he).1).2⟩) Aa
      have lb := ihb _ e0.2 hd3 ndb (fun e he => ⟨(memb e he).2, (hE e (memb e he).1).2⟩) Ab
      have nz : ∀ x, low ≤ x → x < low + P (k + 1) → g x ≠ z := fun x x1 x2 => by
        have A := hA x x1 x2
        generalize g x = r at A
        cases A with
        | none hn =>
          exact (hn e0 he0 ⟨by rw [show e0.1.1 = low from congrArg Prod.fst k0]; exact x1, by
            rw [show e0.1.1 = low from congrArg Prod.fst k0, show e0.1.2 = k + 1 from congrArg Prod.snd k0]; exact x2⟩).elim
        | some he _ _ => exact (hE _ he).2
      obtain ⟨ca, cb, ea, eb, hc⟩ := cost_node hp nz
      have l1 := (hc v e0.2).1
      have hone : 1 ≤ (E.filter fun e : Ent α => decide (e.1 = (low, k + 1))).length := List.length_pos_of_mem (List.mem_filter.mpr ⟨he0, decide_eq_true k0⟩)
      rw [ea] at la
      rw [eb] at lb
      omega
    · -- it has none
      have t' : ∀ e ∈ E, e.1 ≠ (low, k + 1) := fun e he q => t ⟨e, he, q⟩
      have Aa := half low (E.filter (inb low k)) v mema ina (fun x x1 x2 => ⟨x1, by omega⟩) hpa (fun _ => rfl) (fun e he q => (t' e he q).elim)
      have Ab := half (low + P k) (E.filter (inb (low + P k) k)) v memb inb' (fun x x1 x2 => ⟨by omega, by omega⟩) hpb (fun _ => rfl) (fun e he q => (t' e he q).elim)
      have la := iha _ v hd2 nda (fun e he => ⟨(mema e he).2, (hE e (mema e he).1).2⟩) Aa
      have lb := ihb _ v hd3 ndb (fun e he => ⟨(memb e he).2, (hE e (memb e he).1).2⟩) Ab
      by_cases nz : ∃ x, low ≤ x ∧ x < low + P (k + 1) ∧ g x = z
      · have ev : v = z := by
          obtain ⟨x, x1, x2, x3⟩ := nz
          have A := hA x x1 x2
          generalize g x = r at A x3
          cases A with
          | none _ => exact x3
          | some he _ _ => exact ((hE _ he).2 x3).elim
        have ew := h0 nz
        have hin : v ∈ ws := by rw [ew, ev]; exact List.mem_singleton.mpr rfl
        show (own ws low (k + 1) v ++ ents a low k (goOn ws v) ++ ents b (low + P k) k (goOn ws v)).length ≤ _
        rw [own_nil hin, goOn_id hin, List.nil_append, List.length_append]
        omega
      · obtain ⟨ca, cb, ea, eb, hc⟩ := cost_node hp fun x x1 x2 x3 => nz ⟨x, x1, x2, x3⟩
        have l1 := (hc v v).2
        rw [ea] at la
        rw [eb] at lb
        omega
end
end AN
/-! Ma5 -/
set_option linter.all false
namespace AN
/-! ### runs: ascending pairs of a first and a last number -/
def InR (l : List (Int × Int)) (x : Int) : Prop := ∃ r ∈ l, r.1 ≤ x ∧ x ≤ r.2
structure Asc0 (l : List (Int × Int)) : Prop where
  pw : l.Pairwise fun r s => r.2 < s.1
  le : ∀ r ∈ l, r.1 ≤ r.2
structure Asc (l : List (Int × Int)) : Prop where
  pw : l.Pairwise fun r s => r.2 + 1 < s.1
  le : ∀ r ∈ l, r.1 ≤ r.2
theorem InR.nil {x : Int} : ¬ InR [] x := fun ⟨_, h, _⟩ => by cases h
theorem InR.cons {r : Int × Int} {l : List (Int × Int)} {x : Int} : InR (r :: l) x ↔ (r.1 ≤ x ∧ x ≤ r.2) ∨ InR l x := by
  constructor
  · rintro ⟨s, hs, q⟩
    rcases List.mem_cons.mp hs with rfl | hs
    · exact .inl q
    · exact .inr ⟨s, hs, q⟩
  · rintro (q | ⟨s, hs, q⟩)
    · exact ⟨r, List.mem_cons_self, q⟩
    · exact ⟨s, List.mem_cons_of_mem _ hs, q⟩
theorem InR.app {l m : List (Int × Int)} {x : Int} : InR (l ++ m) x ↔ InR l x ∨ InR m x := by
  constructor
  · rintro ⟨s, hs, q⟩
    rcases List.mem_append.mp hs with hs | hs
    · exact .inl ⟨s, hs, q⟩
    · exact .inr ⟨s, hs, q⟩
  · rintro (⟨s, hs, q⟩ | ⟨s, hs, q⟩)
    · exact ⟨s, List.mem_append_left _ hs, q⟩
    · exact ⟨s, List.mem_append_right _ hs, q⟩
theorem InR.one {r : Int × Int} {x : Int} : InR [r] x ↔ r.1 ≤ x ∧ x ≤ r.2 := by
  rw [InR.cons]
  exact ⟨fun h => h.elim id fun q => (InR.nil q).elim, .inl⟩
/-- maximal runs with the same numbers are the same -/
theorem Asc.uni : ∀ {l m : List (Int × Int)}, Asc l → Asc m → (∀ x, InR l x ↔ InR m x) → l = m
  | [], [], _, _, _ => rfl
  | [], s :: m, _, hm, h => (InR.nil ((h s.1).mpr ⟨s, List.mem_cons_self, Int.le_refl _, hm.le s List.mem_cons_self⟩)).elim
  | r :: l, [], hl, _, h => (InR.nil ((h r.1).mp ⟨r, List.mem_cons_self, Int.le_refl _, hl.le r List.mem_cons_self⟩)).elim
  | r :: l, s :: m, hl, hm, h => by
    have rl := hl.le r List.mem_cons_self
    have sm := hm.le s List.mem_cons_self
    obtain ⟨pl, pl'⟩ := List.pairwise_cons.mp hl.pw
    obtain ⟨pm, pm'⟩ := List.pairwise_cons.mp hm.pw
    have al : ∀ x, InR (r :: l) x → r.1 ≤ x := fun x ⟨t, ht, q1, q2⟩ => by
      rcases List.mem_cons.mp ht with rfl | ht
      · exact q1
      · have := pl t ht; omega
    have am : ∀ x, InR (s :: m) x → s.1 ≤ x := fun x ⟨t, ht, q1, q2⟩ => by
      rcases List.mem_cons.mp ht with rfl | ht
      · exact q1
      · have := pm t ht; omega
    have e1 : r.1 = s.1 := by
      have a1 := am r.1 ((h _).mp ⟨r, List.mem_cons_self, Int.le_refl _, rl⟩)
      have a2 := al s.1 ((h _).mpr ⟨s, List.mem_cons_self, Int.le_refl _, sm⟩)
      omega
    have nl : ¬ InR (r :: l) (r.2 + 1) := fun ⟨t, ht, q1, q2⟩ => by
      rcases List.mem_cons.mp ht with rfl | ht
      · omega
      · have := pl t ht; omega
    have nm : ¬ InR (s :: m) (s.2 + 1) := fun ⟨t, ht, q1, q2⟩ => by
      rcases List.mem_cons.mp ht with rfl | ht
      · omega
      · have := pm t ht; omega
    have e2 : r.2 = s.2 := by
      rcases Int.lt_trichotomy r.2 s.2 with q | q | q
      · exact (nl ((h _).mpr ⟨s, List.mem_cons_self, by omega, by omega⟩)).elim
      · exact q
      · exact (nm ((h _).mp ⟨r, List.mem_cons_self, by omega, by omega⟩)).elim
    have er : r = s := Prod.ext e1 e2
    subst er
    refine congrArg (r :: ·) (Asc.uni ⟨pl', fun t ht => hl.le t (List.mem_cons_of_mem _ ht)⟩ ⟨pm', fun t ht => hm.le t (List.mem_cons_of_mem _ ht)⟩ fun x => ?_)
    have hx := h x
    rw [InR.cons, InR.cons] at hx
    constructor
    · intro q
      have nr : ¬ (r.1 ≤ x ∧ x ≤ r.2) := fun z => by
        obtain ⟨t, ht, q1, q2⟩ := q
        have := pl t ht
        omega
      exact (hx.mp (.inr q)).elim (fun z => (nr z).elim) id
    · intro q
      have nr : ¬ (r.1 ≤ x ∧ x ≤ r.2) := fun z => by
        obtain ⟨t, ht, q1, q2⟩ := q
        have := pm t ht
        omega
      exact (hx.mpr (.inr q)).elim (fun z => (nr z).elim) id

/-- how many numbers -/
def tot (l : List (Int × Int)) : Int := (l.map fun r => r.2 - r.1 + 1).sum
theorem tot_app (l m : List (Int × Int)) : tot (l ++ m) = tot l + tot m := by
  unfold tot
  rw [List.map_append, List.sum_append]
theorem tot_one (r : Int × Int) : tot [r] = r.2 - r.1 + 1 := by
  unfold tot
  rw [List.map_cons, List.map_nil, List.sum_cons, List.sum_nil]
  omega
/-- the next run joined to the last one if it follows it at once -/
def jstep (acc : List (Int × Int)) (r : Int × Int) : List (Int × Int) := match acc.getLast? with
  | none => [r]
  | some t => if t.2 + 1 = r.1 then acc.dropLast ++ [(t.1, r.2)] else acc ++ [r]
theorem jstep_nil (r : Int × Int) : jstep [] r = [r] := rfl
theorem jstep_app (l : List (Int × Int)) (t r : Int × Int) : jstep (l ++ [t]) r = if t.2 + 1 = r.1 then l ++ [(t.1, r.2)] else l ++ [t] ++ [r] := by
  unfold jstep
  rw [List.getLast?_concat, List.dropLast_concat]
def jn (l : List (Int × Int)) : List (Int × Int) := l.foldl jstep []
theorem jn_app (l : List (Int × Int)) (r : Int × Int) : jn (l ++ [r]) = jstep (jn l) r := by
  unfold jn
  rw [List.foldl_append]
  rfl
structure JI (l acc : List (Int × Int)) : Prop where
  asc : Asc acc
  same : ∀ x, InR acc x ↔ InR l x
  tot : tot acc = tot l
  below : ∀ b, (∀ s ∈ l, s.2 < b) → ∀ t ∈ acc, t.2 < b
theorem JI.nil : JI [] [] := ⟨⟨List.Pairwise.nil, fun _ h => by cases h⟩, fun _ => Iff.rfl, rfl, fun _ _ _ h => by cases h⟩
theorem Asc.app {l : List (Int × Int)} {r : Int × Int} (h : Asc l) (h2 : r.1 ≤ r.2) (h3 : ∀ s ∈ l, s.2 + 1 < r.1) : Asc (l ++ [r]) :=
  ⟨List.pairwise_append.mpr ⟨h.pw, List.pairwise_singleton _ _, fun s hs t ht => by rw [List.mem_singleton.mp ht]; exact h3 s hs⟩, fun s hs => by
    rcases List.mem_append.mp hs with hs | hs
    · exact h.le s hs
    · rw [List.mem_singleton.mp hs]; exact h2⟩
theorem Asc.init {l : List (Int × Int)} {t : Int × Int} (h : Asc (l ++ [t])) : Asc l ∧ t.1 ≤ t.2 ∧ ∀ s ∈ l, s.2 + 1 < t.1 := by
  obtain ⟨p1, p2, p3⟩ := List.pairwise_append.mp h.pw
  exact ⟨⟨p1, fun s hs => h.le s (List.mem_append_left _ hs)⟩, h.le t (List.mem_append_right _ (List.mem_singleton.mpr rfl)), fun s hs => p3 s hs t (List.mem_singleton.mpr rfl)⟩
theorem JI.step {l acc : List (Int × Int)} {r : Int × Int} (h : JI l acc) (h1 : r.1 ≤ r.2) (h2 : ∀ s ∈ l, s.2 < r.1) : JI (l ++ [r]) (jstep acc r) := by
  have hb := h.below r.1 h2
  have low : ∀ b, (∀ s ∈ l ++ [r], s.2 < b) → r.2 < b ∧ ∀ s ∈ l, s.2 < b := fun b q => ⟨q r (List.mem_append_right _ (List.mem_singleton.mpr rfl)), fun s hs => q s (List.mem_append_left _ hs)⟩
  rcases List.eq_nil_or_concat acc with e | ⟨i, t, e⟩
  · subst e
    rw [jstep_nil]
    refine ⟨⟨List.pairwise_singleton _ _, fun s hs => by rw [List.mem_singleton.mp hs]; exact h1⟩, fun x => ?_, ?_, fun b q s hs => by rw [List.mem_singleton.mp hs]; exact (low b q).1⟩
    · rw [InR.app, ← h.same x]
      exact ⟨.inr, fun q => q.elim (fun z => (InR.nil z).elim) id⟩
    · rw [tot_app, ← h.tot]
      show AN.tot [r] = 0 + AN.tot [r]
      omega
  · rw [List.concat_eq_append] at e
    subst e
    obtain ⟨a1, a2, a3⟩ := h.asc.init
    have ht := hb t (List.mem_append_right _ (List.mem_singleton.mpr rfl))
    rw [jstep_app]
    have hs := h.same
    have htot := h.tot
    rw [tot_app, tot_one] at htot
    by_cases q : t.2 + 1 = r.1
    · rw [if_pos q]
      refine ⟨a1.app (by show t.1 ≤ r.2; omega) a3, fun x => ?_, ?_, fun b z s hs => ?_⟩
      · rw [InR.app, InR.app, InR.one, InR.one, ← hs x, InR.app, InR.one]
        show InR i x ∨ (t.1 ≤ x ∧ x ≤ r.2) ↔ (InR i x ∨ (t.1 ≤ x ∧ x ≤ t.2)) ∨ (r.1 ≤ x ∧ x ≤ r.2)
        constructor
        · rintro (z | z)
          · exact .inl (.inl z)
          · rcases Int.lt_or_le t.2 x with y | y
            · exact .inr (by omega)
            · exact .inl (.inr ⟨z.1, y⟩)
        · rintro ((z | z) | z)
          · exact .inl z
          · exact .inr (by omega)
          · exact .inr (by omega)
      · rw [tot_app, tot_app, tot_one, tot_one]
        show AN.tot i + (r.2 - t.1 + 1) = AN.tot l + (r.2 - r.1 + 1)
        omega
      · obtain ⟨z1, z2⟩ := low b z
        have := h.below b z2
        rcases List.mem_append.mp hs with hs | hs
        · exact this s (List.mem_append_left _ hs)
        · rw [List.mem_singleton.mp hs]; exact z1
    · rw [if_neg q]
      refine ⟨h.asc.app h1 fun s hs => ?_, fun x => ?_, ?_, fun b z s hs => ?_⟩
      · rcases List.mem_append.mp hs with y | y
        · have := a3 s y; omega
        · rw [List.mem_singleton.mp y]; omega
      · rw [InR.app, InR.app (l := l), hs x]
      · rw [tot_app, tot_app, tot_app, tot_one, tot_one]
        omega
      · obtain ⟨z1, z2⟩ := low b z
        have := h.below b z2
        rcases List.mem_append.mp hs with hs | hs
        · exact this s hs
        · rw [List.mem_singleton.mp hs]; exact z1
theorem Asc0.init {l : List (Int × Int)} {t : Int × Int} (h : Asc0 (l ++ [t])) : Asc0 l ∧ t.1 ≤ t.2 ∧ ∀ s ∈ l, s.2 < t.1 := by
  obtain ⟨p1, p2, p3⟩ := List.pairwise_append.mp h.pw
  exact ⟨⟨p1, fun s hs => h.le s (List.mem_append_left _ hs)⟩, h.le t (List.mem_append_right _ (List.mem_singleton.mpr rfl)), fun s hs => p3 s hs t (List.mem_singleton.mpr rfl)⟩
theorem jn_ok : ∀ (n : Nat) (l : List (Int × Int)), l.length = n → Asc0 l → JI l (jn l)
  | 0, l, e, _ => by
    have : l = [] := List.eq_nil_of_length_eq_zero e
    subst this
    exact JI.nil
  | n + 1, l, e, h => by
    rcases List.eq_nil_or_concat l with q | ⟨i, t, q⟩
    · subst q; cases e
    · rw [List.concat_eq_append] at q
      subst q
      obtain ⟨a1, a2, a3⟩ := h.init
      rw [jn_app]
      exact (jn_ok n i (by rw [List.length_append] at e; simpa using e) a1).step a2 a3
theorem jn_ji {l : List (Int × Int)} (h : Asc0 l) : JI l (jn l) := jn_ok _ l rfl h
theorem jn_len (l : List (Int × Int)) : (jn l).length ≤ l.length := by
  have go : ∀ (l acc : List (Int × Int)), (l.foldl jstep acc).length ≤ acc.length + l.length := by
    intro l
    induction l with
    | nil => intro acc; exact Nat.le_refl _
    | cons r l ih =>
      intro acc
      have h1 : (jstep acc r).length ≤ acc.length + 1 := by
        rcases List.eq_nil_or_concat acc with e | ⟨i, t, e⟩
        · subst e; exact Nat.le_refl _
        · rw [List.concat_eq_append] at e
          subst e
          rw [jstep_app]
          split
          · simp
          · simp
      have := ih (jstep acc r)
      show ((l.foldl jstep (jstep acc r))).length ≤ acc.length + (l.length + 1)
      omega
  have h := go l []
  rw [List.length_nil, Nat.zero_add] at h
  exact h

/-! ### what rows say, by runs -/
section
variable {α : Type} [DecidableEq α]
def sel (p : Option α → Bool) (rs : List (Row α)) : List (Int × Int) := (rs.filter fun r => p r.2.2).map fun r => (r.1, r.2.1)
theorem sel_asc {p : Option α → Bool} {rs : List (Row α)} {a b : Int} (h : Seg rs a b) : Asc0 (sel p rs) := by
  refine ⟨?_, fun r hr => ?_⟩
  · unfold sel
    rw [List.pairwise_map]
    exact List.Pairwise.filter _ h.asc
  · obtain ⟨s, hs, rfl⟩ := List.mem_map.mp hr
    exact (h.mem s (List.mem_filter.mp hs).1).2.1
theorem sel_in {p : Option α → Bool} {rs : List (Row α)} {a b : Int} {f : Int → Option α} (h : Seg rs a b) (hf : Says rs f) (x : Int) : InR (sel p rs) x ↔ a ≤ x ∧ x < b ∧ p (f x) = true := by
  constructor
  · rintro ⟨r, hr, q1, q2⟩
    obtain ⟨s, hs, rfl⟩ := List.mem_map.mp hr
    obtain ⟨m1, m2⟩ := List.mem_filter.mp hs
    obtain ⟨b1, b2, b3⟩ := h.mem s m1
    have q1 : s.1 ≤ x := q1
    have q2 : x ≤ s.2.1 := q2
    rw [hf s m1 x q1 q2]
    exact ⟨by omega, by omega, m2⟩
  · rintro ⟨q1, q2, q3⟩
    obtain ⟨r, hr, q4, q5⟩ := h.cover x q1 q2
    rw [hf r hr x q4 q5] at q3
    exact ⟨(r.1, r.2.1), List.mem_map.mpr ⟨r, List.mem_filter.mpr ⟨hr, q3⟩, rfl⟩, q4, q5⟩
/-- two partitions that say the same give the same maximal runs -/
theorem jn_sel {p q : Option α → Bool} {rs ss : List (Row α)} {a b : Int} {f g : Int → Option α} (h : Seg rs a b) (hf : Says rs f) (h' : Seg ss a b) (hg : Says ss g) (e : ∀ x, a ≤ x → x < b → p (f x) = q (g x)) : jn (sel p rs) = jn (sel q ss) := by
  have J1 := jn_ji (sel_asc (p := p) h)
  have J2 := jn_ji (sel_asc (p := q) h')
  refine Asc.uni J1.asc J2.asc fun x => ?_
  rw [J1.same, J2.same, sel_in h hf, sel_in h' hg]
  constructor
  · rintro ⟨q1, q2, q3⟩
    exact ⟨q1, q2, by rw [← e x q1 q2]; exact q3⟩
  · rintro ⟨q1, q2, q3⟩
    exact ⟨q1, q2, by rw [e x q1 q2]; exact q3⟩
theorem tot_sel {p q : Option α → Bool} {rs ss : List (Row α)} {a b : Int} {f g : Int → Option α} (h : Seg rs a b) (hf : Says rs f) (h' : Seg ss a b) (hg : Says ss g) (e : ∀ x, a ≤ x → x < b → p (f x) = q (g x)) : tot (sel p rs) = tot (sel q ss) := by
  rw [← (jn_ji (sel_asc (p := p) h)).tot, ← (jn_ji (sel_asc (p := q) h')).tot, jn_sel h hf h' hg e]
theorem tot_pos {l : List (Int × Int)} (h : ∀ r ∈ l, r.1 ≤ r.2) : 0 ≤ tot l ∧ (l ≠ [] → 0 < tot l) := by
  induction l with
  | nil => exact ⟨Int.le_refl _, fun z => (z rfl).elim⟩
  | cons r l ih =>
    have h1 := h r List.mem_cons_self
    have h2 := (ih fun s hs => h s (List.mem_cons_of_mem _ hs)).1
    have e : tot (r :: l) = (r.2 - r.1 + 1) + tot l := by
      unfold tot
      rw [List.map_cons, List.sum_cons]
    rw [e]
    exact ⟨by omega, fun _ => by omega⟩

/-! ### the rows between ascending numbers -/
def rowsOf (f : Int → Option α) (top : Int) : List Int → List (Row α)
  | [] => []
  | [b] => [(b, top - 1, f b)]
  | b :: c :: r => (b, c - 1, f b) :: rowsOf f top (c :: r)
theorem rowsOf_seg {f : Int → Option α} {top : Int} : ∀ {l : List Int} {b : Int}, (b :: l).Pairwise (· < ·) → (∀ x ∈ b :: l, x < top) → Seg (rowsOf f top (b :: l)) b top
  | [], b, _, h => by
    have := h b List.mem_cons_self
    exact ⟨rfl, by show b ≤ top - 1; omega, by show top - 1 + 1 = top; omega⟩
  | c :: r, b, p, h => by
    obtain ⟨p1, p2⟩ := List.pairwise_cons.mp p
    have := p1 c List.mem_cons_self
    refine ⟨rfl, by show b ≤ c - 1; omega, ?_⟩
    show Seg (rowsOf f top (c :: r)) (c - 1 + 1) top
    rw [show c - 1 + 1 = c by omega]
    exact rowsOf_seg p2 fun x hx => h x (List.mem_cons_of_mem _ hx)
theorem rowsOf_says {f : Int → Option α} {top : Int} : ∀ {l : List Int} {b : Int}, (b :: l).Pairwise (· < ·) → (∀ x ∈ b :: l, x < top) → (∀ c ∈ b :: l, ∀ x, c ≤ x → x < top → (∀ d ∈ b :: l, c < d → x < d) → f x = f c) → Says (rowsOf f top (b :: l)) f
  | [], b, _, _, h => fun r hr x h1 h2 => by
    rw [List.mem_singleton.mp hr] at h1 h2 ⊢
    refine h b List.mem_cons_self x h1 (by have : x ≤ top - 1 := h2; omega) fun d hd q => ?_
    rw [List.mem_singleton.mp hd] at q
    omega
  | c :: t, b, p, ht, h => fun r hr x h1 h2 => by
    obtain ⟨p1, p2⟩ := List.pairwise_cons.mp p
    have bc := p1 c List.mem_cons_self
    have ct := ht c (List.mem_cons_of_mem _ List.mem_cons_self)
    rcases List.mem_cons.mp hr with e | hr
    · rw [e] at h1 h2 ⊢
      have h2 : x ≤ c - 1 := h2
      refine h b List.mem_cons_self x h1 (by omega) fun d hd q => ?_
      rcases List.mem_cons.mp hd with e | hd
      · omega
      · have : c ≤ d := by
          rcases List.mem_cons.mp hd with e | hd
          · omega
          · exact Int.le_of_lt ((List.pairwise_cons.mp p2).1 d hd)
        omega
    · refine rowsOf_says p2 (fun y hy => ht y (List.mem_cons_of_mem _ hy)) (fun c' hc' x' a1 a2 a3 => h c' (List.mem_cons_of_mem _ hc') x' a1 a2 fun d hd q => ?_) r hr x h1 h2
      rcases List.mem_cons.mp hd with e | hd
      · subst e
        have := p1 c' hc'
        omega
      · exact a3 d hd q
end
end AN
/-! Ma6 -/
set_option linter.all false
namespace AN
section
variable {α : Type} [DecidableEq α]
/-! ### the numbers at which the answer may change -/
structure Beg (W : Nat) (E : List (Ent α)) (B : List Int) : Prop where
  pw : B.Pairwise (· < ·)
  mem : ∀ x, x ∈ B ↔ x < P W ∧ (x = 0 ∨ ∃ e ∈ E, x = e.1.1 ∨ x = e.1.1 + P e.1.2)
theorem Beg.nonneg {W : Nat} {E : List (Ent α)} {B : List Int} (T : Tab W E) (h : Beg W E B) : ∀ x ∈ B, 0 ≤ x ∧ x < P W := fun x hx => by
  obtain ⟨h1, h2⟩ := (h.mem x).mp hx
  refine ⟨?_, h1⟩
  rcases h2 with q | ⟨e, he, q⟩
  · omega
  · have := (T.al e he).2.2.1
    have := P_pos e.1.2
    omega
theorem Beg.cons {W : Nat} {E : List (Ent α)} {B : List Int} (T : Tab W E) (h : Beg W E B) : ∃ t, B = 0 :: t := by
  have h0 : (0 : Int) ∈ B := (h.mem 0).mpr ⟨P_pos W, .inl rfl⟩
  have nn := h.nonneg T
  have pw := h.pw
  cases B with
  | nil => cases h0
  | cons b t =>
    refine ⟨t, ?_⟩
    have hb := (nn b List.mem_cons_self).1
    rcases List.mem_cons.mp h0 with q | q
    · rw [← q]
    · have := (List.pairwise_cons.mp pw).1 0 q
      omega
theorem Beg.rows {W : Nat} {E : List (Ent α)} {B : List Int} (T : Tab W E) (h : Beg W E B) : Seg (rowsOf (look W E) (P W) B) 0 (P W) ∧ Says (rowsOf (look W E) (P W) B) (look W E) := by
  obtain ⟨t, e⟩ := h.cons T
  have nn := h.nonneg T
  have pw := h.pw
  have mem := h.mem
  subst e
  refine ⟨rowsOf_seg pw fun x hx => (nn x hx).2, rowsOf_says pw (fun x hx => (nn x hx).2) fun c hc x h1 h2 h3 => ?_⟩
  have c0 := nn c hc
  refine look_congr T fun e he => ?_
  obtain ⟨_, _, a1, a2⟩ := T.al e he
  have pe := P_pos e.1.2
  unfold Has
  have m1 : e.1.1 ∈ 0 :: t := (mem _).mpr ⟨by omega, .inr ⟨e, he, .inl rfl⟩⟩
  have s1 : e.1.1 ≤ x ↔ e.1.1 ≤ c := by
    constructor
    · intro q
      rcases Int.lt_or_le c e.1.1 with z | z
      · have := h3 _ m1 z; omega
      · exact z
    · intro q; omega
  have s2 : x < e.1.1 + P e.1.2 ↔ c < e.1.1 + P e.1.2 := by
    constructor
    · intro q; omega
    · intro q
      rcases Int.lt_or_le (e.1.1 + P e.1.2) (P W) with z | z
      · exact h3 _ ((mem _).mpr ⟨z, .inr ⟨e, he, .inr rfl⟩⟩) q
      · omega
  rw [s1, s2]

/-! ### the part of rows within two ends -/
def cutR (rs : List (Row α)) (low high : Int) : List (Row α) := rs.filterMap fun r => if r.1 ≤ high ∧ low ≤ r.2.1 then some (if low > r.1 then low else r.1, (if high < r.2.1 then high else r.2.1), r.2.2) else none
theorem cut_aux {low high : Int} (hlh : low ≤ high) : ∀ {rs : List (Row α)} {a b : Int}, Seg rs a b → high < b →
    (a ≤ high → Seg (cutR rs low high) (if low > a then low else a) (high + 1)) ∧ (high < a → cutR rs low high = [])
  | [], a, b, h, hb => by
    have e : a = b := h
    exact ⟨fun q => by omega, fun _ => rfl⟩
  | r :: t, a, b, h, hb => by
    obtain ⟨h1, h2, h3⟩ := h
    obtain ⟨i1, i2⟩ := cut_aux hlh h3 hb
    constructor
    · intro q
      by_cases c : low ≤ r.2.1
      · have e : cutR (r :: t) low high = (if low > r.1 then low else r.1, (if high < r.2.1 then high else r.2.1), r.2.2) :: cutR t low high := by
          unfold cutR
          rw [List.filterMap_cons, if_pos ⟨by omega, c⟩]
        rw [e]
        by_cases d : high ≤ r.2.1
        · rw [i2 (by omega)]
          refine ⟨by show (if low > r.1 then low else r.1) = _; rw [h1], ?_, ?_⟩
          · show (if low > r.1 then low else r.1) ≤ (if high < r.2.1 then high else r.2.1)
            split <;> split <;> omega
          · show (if high < r.2.1 then high else r.2.1) + 1 = high + 1
            split <;> omega
        · refine ⟨by show (if low > r.1 then low else r.1) = _; rw [h1], ?_, ?_⟩
          · show (if low > r.1 then low else r.1) ≤ (if high < r.2.1 then high else r.2.1)
            split <;> split <;> omega
          · show Seg (cutR t low high) ((if high < r.2.1 then high else r.2.1) + 1) (high + 1)
            have i3 := i1 (by omega)
            rw [if_neg (by omega)] at i3
            rw [if_neg (by omega)]
            exact i3
      · have e : cutR (r :: t) low high = cutR t low high := by
          unfold cutR
          rw [List.filterMap_cons, if_neg (fun z => c z.2)]
        rw [e]
        have i3 := i1 (by omega)
        by_cases d : low > r.2.1 + 1
        · rw [if_pos d] at i3
          rw [if_pos (by omega)]
          exact i3
        · rw [if_neg d] at i3
          rw [if_pos (by omega), show low = r.2.1 + 1 by omega]
          rw [show low = r.2.1 + 1 by omega] at i3
          exact i3
    · intro q
      have e : cutR (r :: t) low high = cutR t low high := by
        unfold cutR
        rw [List.filterMap_cons, if_neg (fun z => by omega)]
      rw [e]
      exact i2 (by omega)
theorem cut_seg {rs : List (Row α)} {a b low high : Int} (h : Seg rs a b) (h1 : a ≤ low) (h2 : low ≤ high) (h3 : high < b) : Seg (cutR rs low high) low (high + 1) := by
  have q := (cut_aux h2 h h3).1 (by omega)
  by_cases d : low > a
  · rw [if_pos d] at q; exact q
  · rw [if_neg d] at q
    rw [show low = a by omega]
    rw [show low = a by omega] at q
    exact q
theorem cut_says {rs : List (Row α)} {low high : Int} {f : Int → Option α} (h : Says rs f) : Says (cutR rs low high) f := fun r hr x h1 h2 => by
  unfold cutR at hr
  obtain ⟨s, hs, e⟩ := List.mem_filterMap.mp hr
  by_cases c : s.1 ≤ high ∧ low ≤ s.2.1
  · rw [if_pos c] at e
    have e := (Option.some.inj e).symm
    subst e
    have h1 : (if low > s.1 then low else s.1) ≤ x := h1
    have h2 : x ≤ (if high < s.2.1 then high else s.2.1) := h2
    refine h s hs x ?_ ?_
    · split at h1 <;> omega
    · split at h2 <;> omega
  · rw [if_neg c] at e; cases e

/-! ### one row's word is changed -/
theorem Seg.swap {pre post : List (Row α)} {lo hi a b : Int} {w o : Option α} (h : Seg (pre ++ (lo, hi, w) :: post) a b) : Seg (pre ++ (lo, hi, o) :: post) a b := by
  induction pre generalizing a with
  | nil => exact ⟨h.1, h.2.1, h.2.2⟩
  | cons r t ih => exact ⟨h.1, h.2.1, ih h.2.2⟩
theorem chg_in {pre post : List (Row α)} {lo hi a b : Int} {w : Option α} (h : Seg (pre ++ (lo, hi, w) :: post) a b) {x : Int} (h1 : lo ≤ x) (h2 : x ≤ hi) : fOf (pre ++ (lo, hi, w) :: post) x = w :=
  fOf_says h (lo, hi, w) (List.mem_append_right _ List.mem_cons_self) x h1 h2
theorem chg_out {pre post : List (Row α)} {lo hi a b : Int} {w o : Option α} (h : Seg (pre ++ (lo, hi, w) :: post) a b) {x : Int} (h0 : a ≤ x) (h1 : x < b) (h2 : ¬ (lo ≤ x ∧ x ≤ hi)) :
    fOf (pre ++ (lo, hi, o) :: post) x = fOf (pre ++ (lo, hi, w) :: post) x := by
  obtain ⟨r, hr, q1, q2⟩ := h.cover x h0 h1
  rw [fOf_says h r hr x q1 q2]
  refine fOf_says (h.swap (o := o)) r ?_ x q1 q2
  rcases List.mem_append.mp hr with z | z
  · exact List.mem_append_left _ z
  · rcases List.mem_cons.mp z with z | z
    · rw [z] at q1 q2
      exact (h2 ⟨q1, q2⟩).elim
    · exact List.mem_append_right _ (List.mem_cons_of_mem _ z)
/-- the table of all pieces, at the keys of one row and elsewhere -/
theorem val_row {W : Nat} {rs : List (Row α)} (h : Seg rs 0 (P W)) {r : Row α} (hr : r ∈ rs) {b : Int × Nat} (hb : b ∈ pcs W r.1 r.2.1) : val (allP W rs) b = r.2.2 := by
  have T := allP_tab h
  cases q : r.2.2 with
  | some w => exact val_of T.nd (mem_allP.mpr ⟨r, hr, hb, q⟩)
  | none =>
    cases z : val (allP W rs) b with
    | none => rfl
    | some v =>
      obtain ⟨s, hs, h1, h2⟩ := mem_allP.mp (val_some z)
      obtain ⟨_, _, a3, a4⟩ := pcs_mem _ hb
      obtain ⟨_, _, b3, b4⟩ := pcs_mem _ h1
      have pp := P_pos b.2
      have b3 : s.1 ≤ b.1 := b3
      have b4 : b.1 + P b.2 ≤ s.2.1 + 1 := b4
      have e := h.uni hr hs (x := b.1) a3 (by omega) b3 (by omega)
      rw [e, h2] at q
      cases q
theorem val_swap {W : Nat} {pre post : List (Row α)} {lo hi : Int} {w o : Option α} (h : Seg (pre ++ (lo, hi, w) :: post) 0 (P W)) {b : Int × Nat} (hb : b ∉ pcs W lo hi) :
    val (allP W (pre ++ (lo, hi, o) :: post)) b = val (allP W (pre ++ (lo, hi, w) :: post)) b := by
  have T := allP_tab h
  have T' := allP_tab (h.swap (o := o))
  have tr : ∀ (w o : Option α) (v : α), (b, v) ∈ allP W (pre ++ (lo, hi, w) :: post) → (b, v) ∈ allP W (pre ++ (lo, hi, o) :: post) := fun w o v hm => by
    obtain ⟨s, hs, h1, h2⟩ := mem_allP.mp hm
    refine mem_allP.mpr ⟨s, ?_, h1, h2⟩
    rcases List.mem_append.mp hs with z | z
    · exact List.mem_append_left _ z
    · rcases List.mem_cons.mp z with z | z
      · rw [z] at h1
        exact (hb h1).elim
      · exact List.mem_append_right _ (List.mem_cons_of_mem _ z)
  cases q : val (allP W (pre ++ (lo, hi, o) :: post)) b with
  | some v => exact (val_of T.nd (tr _ _ v (val_some q))).symm
  | none =>
    cases z : val (allP W (pre ++ (lo, hi, w) :: post)) b with
    | none => rfl
    | some v => exact (val_none q v (tr _ _ v (val_some z))).elim

/-! ### one word alone: the largest blocks -/
structure MB (W : Nat) (S : Int → Prop) (b : Int × Nat) : Prop where
  al : P b.2 ∣ b.1
  le : b.2 ≤ W
  all : ∀ x, b.1 ≤ x → x < b.1 + P b.2 → S x
  top : ∀ (q : Int) (j : Nat), b.2 < j → j ≤ W → P j ∣ q → q ≤ b.1 → b.1 < q + P j → ¬ ∀ x, q ≤ x → x < q + P j → S x
abbrev Dis (l : List (Int × Nat)) : Prop := l.Pairwise fun b c => b.1 + P b.2 ≤ c.1
def InK (l : List (Int × Nat)) (x : Int) : Prop := ∃ b ∈ l, b.1 ≤ x ∧ x < b.1 + P b.2
theorem mb_uni {W : Nat} {S : Int → Prop} : ∀ {l m : List (Int × Nat)}, Dis l → Dis m → (∀ b ∈ l, MB W S b) → (∀ b ∈ m, MB W S b) → (∀ x, InK l x ↔ InK m x) → l = m
  | [], [], _, _, _, _, _ => rfl
  | [], c :: m, _, _, _, _, h => by
    have := P_pos c.2
    obtain ⟨b, hb, _⟩ := (h c.1).mpr ⟨c, List.mem_cons_self, Int.le_refl _, by omega⟩
    cases hb
  | b :: l, [], _, _, _, _, h => by
    have := P_pos b.2
    obtain ⟨c, hc, _⟩ := (h b.1).mp ⟨b, List.mem_cons_self, Int.le_refl _, by omega⟩
    cases hc
  | b :: l, c :: m, dl, dm, hl, hm, h => by
    have pb := P_pos b.2
    have pc := P_pos c.2
    obtain ⟨d1, d2⟩ := List.pairwise_cons.mp dl
    obtain ⟨f1, f2⟩ := List.pairwise_cons.mp dm
    have ml := hl b List.mem_cons_self
    have mm := hm c List.mem_cons_self
    have e1 : b.1 = c.1 := by
      obtain ⟨t, ht, q1, q2⟩ := (h b.1).mp ⟨b, List.mem_cons_self, Int.le_refl _, by omega⟩
      obtain ⟨s, hs, r1, r2⟩ := (h c.1).mpr ⟨c, List.mem_cons_self, Int.le_refl _, by omega⟩
      have a1 : c.1 ≤ b.1 := by
        rcases List.mem_cons.mp ht with z | z
        · rw [z] at q1; exact q1
        · have := f1 t z; omega
      have a2 : b.1 ≤ c.1 := by
        rcases List.mem_cons.mp hs with z | z
        · rw [z] at r1; exact r1
        · have := d1 s z; omega
      omega
    have e2 : b.2 = c.2 := by
      rcases Nat.lt_trichotomy b.2 c.2 with q | q | q
      · exact (ml.top c.1 c.2 q mm.le mm.al (by omega) (by omega) mm.all).elim
      · exact q
      · exact (mm.top b.1 b.2 q ml.le ml.al (by omega) (by omega) ml.all).elim
    have e : b = c := Prod.ext e1 e2
    subst e
    refine congrArg (b :: ·) (mb_uni d2 f2 (fun t ht => hl t (List.mem_cons_of_mem _ ht)) (fun t ht => hm t (List.mem_cons_of_mem _ ht)) fun x => ?_)
    have hx := h x
    constructor
    · rintro ⟨t, ht, q1, q2⟩
      obtain ⟨s, hs, r1, r2⟩ := hx.mp ⟨t, List.mem_cons_of_mem _ ht, q1, q2⟩
      rcases List.mem_cons.mp hs with z | z
      · rw [z] at r2
        have := d1 t ht
        omega
      · exact ⟨s, z, r1, r2⟩
    · rintro ⟨t, ht, q1, q2⟩
      obtain ⟨s, hs, r1, r2⟩ := hx.mpr ⟨t, List.mem_cons_of_mem _ ht, q1, q2⟩
      rcases List.mem_cons.mp hs with z | z
      · rw [z] at r2
        have := f1 t ht
        omega
      · exact ⟨s, z, r1, r2⟩
/-- the pieces of maximal runs -/
noncomputable def runP (W : Nat) (l : List (Int × Int)) : List (Int × Nat) := l.flatMap fun r => pcs W r.1 r.2
theorem runP_in {W : Nat} {l : List (Int × Int)} (h : Asc l) (x : Int) : InK (runP W l) x ↔ InR l x := by
  constructor
  · rintro ⟨b, hb, q1, q2⟩
    obtain ⟨r, hr, hb⟩ := List.mem_flatMap.mp hb
    obtain ⟨_, _, a3, a4⟩ := pcs_mem _ hb
    exact ⟨r, hr, by omega, by omega⟩
  · rintro ⟨r, hr, q1, q2⟩
    obtain ⟨b, hb, z⟩ := pcs_cover (W := W) x q1 q2
    exact ⟨b, List.mem_flatMap.mpr ⟨r, hr, hb⟩, z⟩
theorem runP_dis {W : Nat} : ∀ {l : List (Int × Int)}, Asc l → Dis (runP W l)
  | [], _ => List.Pairwise.nil
  | r :: l, h => by
    obtain ⟨p1, p2⟩ := List.pairwise_cons.mp h.pw
    show Dis (pcs W r.1 r.2 ++ runP W l)
    refine List.pairwise_append.mpr ⟨pcs_asc, runP_dis ⟨p2, fun s hs => h.le s (List.mem_cons_of_mem _ hs)⟩, fun b hb c hc => ?_⟩
    obtain ⟨s, hs, hc⟩ := List.mem_flatMap.mp hc
    have := p1 s hs
    have := (pcs_mem _ hb).2.2.2
    have := (pcs_mem _ hc).2.2.1
    omega
theorem asc_run {l : List (Int × Int)} (h : Asc l) {r s : Int × Int} (hr : r ∈ l) (hs : s ∈ l) {x y : Int} (h1 : r.1 ≤ x) (h2 : x ≤ r.2) (h3 : s.1 ≤ y) (h4 : y ≤ s.2) (h5 : y = x + 1 ∨ x = y + 1 ∨ x = y) : r = s := by
  have go : ∀ {l : List (Int × Int)}, (l.Pairwise fun r s => r.2 + 1 < s.1) → ∀ r ∈ l, ∀ s ∈ l, r.1 ≤ x → x ≤ r.2 → s.1 ≤ y → y ≤ s.2 → r = s := by
    intro l
    induction l with
    | nil => intro _ r hr; cases hr
    | cons c t ih =>
      intro pw r hr s hs h1 h2 h3 h4
      obtain ⟨p1, p2⟩ := List.pairwise_cons.mp pw
      rcases List.mem_cons.mp hr with q1 | q1 <;> rcases List.mem_cons.mp hs with q2 | q2
      · rw [q1, q2]
      · have := p1 s q2; rw [q1] at h1 h2; omega
      · have := p1 r q1; rw [q2] at h3 h4; omega
      · exact ih p2 r q1 s q2 h1 h2 h3 h4
  exact go h.pw r hr s hs h1 h2 h3 h4
theorem runP_mb {W : Nat} {l : List (Int × Int)} (h : Asc l) : ∀ b ∈ runP W l, MB W (InR l) b := by
  intro b hb
  obtain ⟨r, hr, hb⟩ := List.mem_flatMap.mp hb
  obtain ⟨a1, a2, a3, a4⟩ := pcs_mem _ hb
  have pb := P_pos b.2
  refine ⟨a1, a2, fun x q1 q2 => ⟨r, hr, by omega, by omega⟩, fun q j hj hjW hd h1 h2 hall => ?_⟩
  -- all of the larger block lies in the run
  have up : ∀ n : Nat, b.1 + (n : Int) < q + P j → b.1 + (n : Int) ≤ r.2 := by
    intro n
    induction n with
    | zero => intro _; omega
    | succ n ih =>
      intro z
      have z1 := ih (by omega)
      obtain ⟨s, hs, s1, s2⟩ := hall (b.1 + ((n + 1 : Nat) : Int)) (by omega) z
      have e := asc_run h hr hs (x := b.1 + (n : Int)) (y := b.1 + ((n + 1 : Nat) : Int)) (by omega) z1 s1 s2 (.inl (by omega))
      rw [e]
      exact s2
  have dn : ∀ n : Nat, q ≤ b.1 - (n : Int) → r.1 ≤ b.1 - (n : Int) := by
    intro n
    induction n with
    | zero => intro _; omega
    | succ n ih =>
      intro z
      have z1 := ih (by omega)
      obtain ⟨s, hs, s1, s2⟩ := hall (b.1 - ((n + 1 : Nat) : Int)) z (by omega)
      have e := asc_run h hr hs (x := b.1 - (n : Int)) (y := b.1 - ((n + 1 : Nat) : Int)) z1 (by omega) s1 s2 (.inr (.inl (by omega)))
      rw [e]
      exact s1
  have g1 := up (q + P j - 1 - b.1).toNat (by omega)
  have g2 := dn (b.1 - q).toNat (by omega)
  exact pcs_top b hb q j hj hjW hd (by omega) (by omega) h1 h2
/-- the entries of a plan of one word and none -/
theorem one_word {g : Int → α} {z w : α} (hw : w ≠ z) {low : Int} {k : Nat} {p : Pl α} (h : PlanOK g z low k p) : P k ∣ low → (∀ x, low ≤ x → x < low + P k → g x = z ∨ g x = w) →
    (∀ e ∈ ents p low k z, e.2 = w ∧ ∀ x, Has e x → g x = w) ∧
    (∀ e ∈ ents p low k z, ∀ (q : Int) (j : Nat), e.1.2 < j → j ≤ k → P j ∣ q → q ≤ e.1.1 → e.1.1 < q + P j → ¬ ∀ x, q ≤ x → x < q + P j → g x = w) ∧
    (ents p low k z).Pairwise fun d e => d.1.1 + P d.1.2 ≤ e.1.1 := by
  induction h with
  | @leaf low k v h =>
    intro hd hg
    have pp := P_pos k
    show (∀ e ∈ own [v] low k z, _) ∧ (∀ e ∈ own [v] low k z, _) ∧ (own [v] low k z).Pairwise _
    by_cases q : z ∈ [v]
    · rw [own_nil q]
      exact ⟨(fun e he => by cases he), (fun e he => by cases he), List.Pairwise.nil⟩
    · have ev : v = w := by
        have e1 := h low (Int.le_refl _) (by omega)
        rcases hg low (Int.le_refl _) (by omega) with z1 | z1
        · exact (q (List.mem_singleton.mpr (by rw [← z1, e1]))).elim
        · rw [← z1, e1]
      subst ev
      rw [own_eq q]
      have e : goOn [v] z = v := List.mem_singleton.mp (goOn_mem (ws := [v]) (by intro r; cases r) z)
      rw [e]
      refine ⟨fun e he => ?_, fun e he q j hj hjk => ?_, List.pairwise_singleton _ _⟩
      · rw [List.mem_singleton.mp he]
        exact ⟨rfl, fun x hx => h x hx.1 hx.2⟩
      · rw [List.mem_singleton.mp he] at hj
        have hj : k < j := hj
        omega
  | @node low k ws a b ha hb h0 h1 h2 hn iha ihb =>
    intro hd hg
    have ps := P_succ k
    have pp := P_pos k
    have hd2 : P k ∣ low := Int.dvd_trans (P_dvd (Nat.le_succ k)) hd
    have hd3 : P k ∣ low + P k := Int.dvd_add hd2 (Int.dvd_refl _)
    have hz : ∃ x, low ≤ x ∧ x < low + P (k + 1) ∧ g x = z := by
      apply Classical.byContradiction
      intro t
      refine hn w fun x x1 x2 => ?_
      rcases hg x x1 x2 with q | q
      · exact (t ⟨x, x1, x2, q⟩).elim
      · exact q
    have ew := h0 hz
    subst ew
    have hin : z ∈ [z] := List.mem_singleton.mpr rfl
    obtain ⟨a1, a2, a3⟩ := iha hd2 fun x x1 x2 => hg x x1 (by omega)
    obtain ⟨b1, b2, b3⟩ := ihb hd3 fun x x1 x2 => hg x (by omega) (by omega)
    have el : ents (.node [z] a b) low (k + 1) z = ents a low k z ++ ents b (low + P k) k z := by
      show own [z] low (k + 1) z ++ ents a low k (goOn [z] z) ++ ents b (low + P k) k (goOn [z] z) = _
      rw [own_nil hin, goOn_id hin, List.nil_append]
    rw [el]
    have big : ∀ (q n : Int), P (k + 1) ∣ q → q ≤ n → n < q + P (k + 1) → low ≤ n → n < low + P (k + 1) → ¬ ∀ x, q ≤ x → x < q + P (k + 1) → g x = w := fun q n hq q1 q2 q3 q4 hall => by
      have e := same_block hq hd q1 q2 q3 q4
      subst e
      obtain ⟨x, x1, x2, x3⟩ := hz
      exact hw ((hall x x1 x2).symm.trans x3)
    refine ⟨fun e he => ?_, fun e he q j hj hjk hq q1 q2 => ?_, List.pairwise_append.mpr ⟨a3, b3, fun d hd e he => ?_⟩⟩
    · rcases List.mem_append.mp he with t | t
      · exact a1 e t
      · exact b1 e t
    · rcases Nat.lt_or_ge k j with t | t
      · have ej : j = k + 1 := by omega
        subst ej
        have pe := P_pos e.1.2
        rcases List.mem_append.mp he with s | s
        · obtain ⟨_, _, r3, r4⟩ := ents_in ha _ hd2 e s
          exact big q e.1.1 hq q1 q2 r3 (by omega)
        · obtain ⟨_, _, r3, r4⟩ := ents_in hb _ hd3 e s
          exact big q e.1.1 hq q1 q2 (by omega) (by omega)
      · rcases List.mem_append.mp he with s | s
        · exact a2 e s q j hj t hq q1 q2
        · exact b2 e s q j hj t hq q1 q2
    · obtain ⟨_, _, r3, r4⟩ := ents_in ha _ hd2 d hd
      obtain ⟨_, _, s3, s4⟩ := ents_in hb _ hd3 e he
      omega
/-- one word: the entries' blocks are the pieces of the runs of its numbers -/
theorem one_nets {g : Int → α} {z w : α} (hw : w ≠ z) {W : Nat} {p : Pl α} (h : PlanOK g z 0 W p) (hg : ∀ x, 0 ≤ x → x < P W → g x = z ∨ g x = w) {l : List (Int × Int)} (hl : Asc l) (hin : ∀ x, InR l x ↔ 0 ≤ x ∧ x < P W ∧ g x = w) :
    (ents p 0 W z).map (·.1) = runP W l := by
  have hd : P W ∣ 0 := Int.dvd_zero _
  obtain ⟨a1, a2, a3⟩ := one_word hw h hd fun x x1 x2 => hg x x1 (by omega)
  have bnd : ∀ e ∈ ents p 0 W z, P e.1.2 ∣ e.1.1 ∧ e.1.2 ≤ W ∧ 0 ≤ e.1.1 ∧ e.1.1 + P e.1.2 ≤ P W := fun e he => by
    obtain ⟨q1, q2, q3, q4⟩ := ents_in h _ hd e he
    exact ⟨q1, q2, q3, by omega⟩
  refine mb_uni (W := W) (S := InR l) ?_ (runP_dis hl) ?_ (runP_mb hl) fun x => ?_
  · unfold Dis
    rw [List.pairwise_map]
    exact a3
  · intro b hb
    obtain ⟨e, he, rfl⟩ := List.mem_map.mp hb
    obtain ⟨q1, q2, q3, q4⟩ := bnd e he
    refine ⟨q1, q2, fun x x1 x2 => (hin x).mpr ⟨by omega, by omega, (a1 e he).2 x ⟨x1, x2⟩⟩, fun q j hj hjW hq r1 r2 hall => a2 e he q j hj hjW hq r1 r2 fun x x1 x2 => ((hin x).mp (hall x x1 x2)).2.2⟩
  · rw [runP_in hl, hin]
    constructor
    · rintro ⟨b, hb, x1, x2⟩
      obtain ⟨e, he, rfl⟩ := List.mem_map.mp hb
      obtain ⟨q1, q2, q3, q4⟩ := bnd e he
      have x1 : e.1.1 ≤ x := x1
      have x2 : x < e.1.1 + P e.1.2 := x2
      exact ⟨by omega, by omega, (a1 e he).2 x ⟨x1, x2⟩⟩
    · rintro ⟨x1, x2, x3⟩
      have A := ents_ans h z hd (fun _ => rfl) x x1 (by omega)
      rw [x3] at A
      have key : ∀ r, r = w → Ans (ents p 0 W z) z x r → InK ((ents p 0 W z).map (·.1)) x := by
        intro r er A
        cases A with
        | none _ => exact (hw er.symm).elim
        | @some e he hx _ => exact ⟨e.1, List.mem_map.mpr ⟨e, he, rfl⟩, hx.1, hx.2⟩
      exact key w rfl A
end
end AN
/-! Ma7 -/
set_option linter.all false
namespace AN
/-! ### how many bits of a number are 1 -/
def pcF : Nat → Nat → Nat
  | 0, _ => 0
  | f + 1, n => n % 2 + pcF f (n / 2)
def pc (n : Nat) : Nat := pcF n n
theorem pcF_zero : ∀ f, pcF f 0 = 0
  | 0 => rfl
  | f + 1 => by
    show 0 % 2 + pcF f (0 / 2) = 0
    rw [Nat.zero_div, pcF_zero f]
theorem pcF_eq : ∀ (f g n : Nat), n ≤ f → n ≤ g → pcF f n = pcF g n
  | 0, g, n, h, _ => by
    have : n = 0 := by omega
    subst this
    rw [pcF_zero, pcF_zero]
  | f + 1, 0, n, _, h => by
    have : n = 0 := by omega
    subst this
    rw [pcF_zero, pcF_zero]
  | f + 1, g + 1, n, h, h' => by
    show n % 2 + pcF f (n / 2) = n % 2 + pcF g (n / 2)
    by_cases q : n = 0
    · subst q; rw [Nat.zero_div, pcF_zero, pcF_zero]
    · rw [pcF_eq f g (n / 2) (by omega) (by omega)]
theorem pc_zero : pc 0 = 0 := rfl
theorem pc_step (n : Nat) : pc n = n % 2 + pc (n / 2) := by
  cases n with
  | zero => rfl
  | succ n =>
    show (n + 1) % 2 + pcF n ((n + 1) / 2) = (n + 1) % 2 + pcF ((n + 1) / 2) ((n + 1) / 2)
    rw [pcF_eq n ((n + 1) / 2) ((n + 1) / 2) (by omega) (Nat.le_refl _)]
theorem pc_two (n : Nat) : pc (2 * n) = pc n := by
  rw [pc_step, Nat.mul_mod_right, Nat.mul_div_cancel_left n (by decide), Nat.zero_add]
theorem pc_odd (n : Nat) : pc (2 * n + 1) = 1 + pc n := by
  rw [pc_step, show (2 * n + 1) % 2 = 1 by omega, show (2 * n + 1) / 2 = n by omega]
theorem pc_pos {n : Nat} (h : 0 < n) : 0 < pc n := by
  induction n using Nat.strongRecOn with
  | _ n ih =>
    rw [pc_step]
    by_cases q : n % 2 = 1
    · omega
    · have := ih (n / 2) (by omega) (by omega)
      omega
/-- a number without its lowest bit -/
theorem pc_pred {n : Nat} (h : 0 < n) : pc (n &&& (n - 1)) + 1 = pc n := by
  induction n using Nat.strongRecOn with
  | _ n ih =>
    rw [pc_step (n &&& (n - 1)), Nat.and_div_two]
    have hm : (n &&& (n - 1)) % 2 = 0 := by
      have := @Nat.and_mod_two_eq_one n (n - 1)
      omega
    rw [hm, pc_step n]
    by_cases q : n % 2 = 1
    · rw [show (n - 1) / 2 = n / 2 by omega, Nat.and_self]
      omega
    · have := ih (n / 2) (by omega) (by omega)
      rw [show (n - 1) / 2 = n / 2 - 1 by omega]
      omega
theorem and_pred_lt {n : Nat} (h : 0 < n) : n &&& (n - 1) < n := by
  have := Nat.and_le_right (n := n) (m := n - 1)
  omega
theorem pc_shift (k n : Nat) : pc (2 ^ k * n) = pc n := by
  induction k with
  | zero => rw [Nat.pow_zero, Nat.one_mul]
  | succ k ih => rw [Nat.pow_succ, Nat.mul_comm (2 ^ k) 2, Nat.mul_assoc, pc_two, ih]
theorem pc_top {k r : Nat} (h : r < 2 ^ k) : pc (2 ^ k + r) = 1 + pc r := by
  induction k generalizing r with
  | zero =>
    have : r = 0 := by simp at h; omega
    subst this
    rfl
  | succ k ih =>
    rw [Nat.pow_succ] at h ⊢
    rw [pc_step, pc_step r]
    have e : (2 ^ k * 2 + r) / 2 = 2 ^ k + r / 2 := by omega
    rw [e, ih (by omega), show (2 ^ k * 2 + r) % 2 = r % 2 by omega]
    omega
theorem P_nat (k : Nat) : P k = ((2 ^ k : Nat) : Int) := rfl
theorem two_pos (k : Nat) : 0 < 2 ^ k := Nat.pow_pos (by decide)

/-! ### the pieces of a range are not more than the bits of both its sides -/
theorem cnt_desc {W : Nat} {high : Int} : ∀ (m : Nat) {low : Int} {l : List (Int × Nat)}, m ≤ W → P m ∣ low → low ≤ high + 1 → high + 1 - low < P m → Pcs W high low l → l.length ≤ pc (high + 1 - low).toNat := by
  intro m
  induction m with
  | zero =>
    intro low l hm hd h1 h2 a
    rw [P_zero] at h2
    cases a with
    | nil h => exact Nat.zero_le _
    | cons h g r => omega
  | succ m ih =>
    intro low l hm hd h1 h2 a
    have ps := P_succ m
    have pp := P_pos m
    have hd2 : P m ∣ low := Int.dvd_trans (P_dvd (Nat.le_succ m)) hd
    by_cases q : high + 1 - low < P m
    · exact ih (by omega) hd2 h1 q a
    · cases a with
      | nil h => exact Nat.zero_le _
      | @cons _ k l h g r =>
        have hk : k = m := by
          have k1 : m ≤ k := by
            rcases Nat.lt_or_ge k m with z | z
            · exact (g.top m z (by omega) hd2 (by omega)).elim
            · exact z
          have k2 : P k < P (m + 1) := by have := g.fit; omega
          have := P_lt_iff.mp k2
          omega
        subst hk
        have := ih (by omega) (Int.dvd_add hd2 (Int.dvd_refl _)) g.fit (by omega) r
        have e : (high + 1 - low).toNat = 2 ^ k + (high + 1 - (low + P k)).toNat := by
          rw [P_nat] at *
          omega
        rw [e, pc_top (by rw [P_nat] at *; omega)]
        show l.length + 1 ≤ _
        omega
theorem cnt_asc {W b : Nat} {high mid : Int} (hb : b ≤ W) (hm : P b ∣ mid) (h1 : mid ≤ high + 1) (h2 : high + 1 - mid < P b) {low : Int} {l : List (Int × Nat)} (a : Pcs W high low l) :
    low ≤ mid → mid - low ≤ P b → l.length ≤ pc (mid - low).toNat + pc (high + 1 - mid).toNat := by
  induction a with
  | nil h => intro _ _; exact Nat.zero_le _
  | @cons low k l h g r ih =>
    intro q1 q2
    rcases Int.lt_or_eq_of_le q1 with q3 | q3
    · have pk := P_pos k
      have pb := P_pos b
      -- the size is that of the lowest bit of mid - low
      have hkb : k ≤ b := by
        rcases Nat.lt_or_ge b k with z | z
        · exfalso
          have d1 : P b ∣ low := Int.dvd_trans (P_dvd (Nat.le_of_lt z)) g.al
          have d2 : P b ∣ mid - low := Int.dvd_sub hm d1
          have e : mid - low = P b := by
            obtain ⟨c, hc⟩ := d2
            rw [hc] at q2 ⊢
            have c1 : c ≤ 1 := mul_le_of pb (by rw [Int.mul_one]; omega)
            have c2 : 0 < c := by
              rcases Int.lt_or_le 0 c with y | y
              · exact y
              · have := le_mul_of pb y
                rw [Int.mul_zero] at this
                omega
            rw [show c = 1 by omega, Int.mul_one]
          have f := g.fit
          have p2 : P (b + 1) ≤ P k := P_le z
          rw [P_succ] at p2
          omega
        · exact z
      have d : P k ∣ mid - low := Int.dvd_sub (Int.dvd_trans (P_dvd hkb) hm) g.al
      obtain ⟨c, hc⟩ := d
      have c2 : 0 < c := by
        rcases Int.lt_or_le 0 c with y | y
        · exact y
        · have := le_mul_of pk y
          rw [Int.mul_zero] at this
          omega
      -- c is odd
      have hodd : c % 2 = 1 := by
        rcases Int.emod_two_eq c with y | y
        · exfalso
          have e : c = 2 * (c / 2) := by omega
          have e2 : mid - low = P (k + 1) * (c / 2) := by
            rw [hc, e, P_succ, ← Int.two_mul, ← Int.mul_assoc, Int.mul_comm (P k) 2]
            congr 1
            omega
          have kb : k + 1 ≤ b := by
            rcases Nat.lt_or_ge k b with z | z
            · exact z
            · exfalso
              have ek : k = b := by omega
              subst ek
              rw [hc, e] at q2
              have : c ≤ 1 := mul_le_of pk (by rw [Int.mul_one, e]; omega)
              omega
          have d3 : P (k + 1) ∣ low := by
            have := Int.dvd_sub (Int.dvd_trans (P_dvd kb) hm) ⟨c / 2, e2⟩
            rw [show mid - (mid - low) = low by omega] at this
            exact this
          refine g.top (k + 1) (by omega) (by omega) d3 ?_
          have : P (k + 1) ≤ mid - low := by
            rw [e2]
            have := le_mul_of (P_pos (k + 1)) (show (1 : Int) ≤ c / 2 by omega)
            rw [Int.mul_one] at this
            exact this
          omega
        · exact y
      have fit : low + P k ≤ mid := by
        have := le_mul_of pk (show (1 : Int) ≤ c by omega)
        rw [Int.mul_one] at this
        omega
      have i := ih fit (by omega)
      -- one bit less
      have e1 : (mid - low).toNat = 2 ^ k * (2 * (c / 2).toNat + 1) := by
        have hcn : c = ((2 * (c / 2).toNat + 1 : Nat) : Int) := by omega
        have : mid - low = ((2 ^ k * (2 * (c / 2).toNat + 1) : Nat) : Int) := by
          rw [hc, P_nat, Int.natCast_mul, ← hcn]
        omega
      have e2 : (mid - (low + P k)).toNat = 2 ^ k * (2 * (c / 2).toNat) := by
        have : (mid - (low + P k)).toNat = (mid - low).toNat - 2 ^ k := by rw [P_nat] at *; omega
        rw [this, e1, Nat.mul_add, Nat.mul_one, Nat.add_sub_cancel]
      rw [e1, pc_shift, pc_odd]
      rw [e2, pc_shift, pc_two] at i
      show l.length + 1 ≤ _
      omega
    · subst q3
      have := cnt_desc b hb hm h1 h2 (Pcs.cons h g r)
      omega
/-- by the highest bit in which lo and hi + 1 differ -/
theorem pcs_count {W b lo U : Nat} (hb : b ≤ W) (h1 : lo / 2 ^ (b + 1) = U / 2 ^ (b + 1)) (h2 : lo / 2 ^ b ≠ U / 2 ^ b) (h3 : lo < U) :
    lo < U / 2 ^ b * 2 ^ b ∧ U / 2 ^ b * 2 ^ b ≤ U ∧ (pcs W (lo : Int) ((U : Int) - 1)).length ≤ pc (U / 2 ^ b * 2 ^ b - lo) + pc (U - U / 2 ^ b * 2 ^ b) := by
  have pb := two_pos b
  have a1 : lo / 2 ^ b / 2 = U / 2 ^ b / 2 := by
    rw [Nat.div_div_eq_div_mul, Nat.div_div_eq_div_mul, ← Nat.pow_succ]
    exact h1
  have a2 : lo / 2 ^ b ≤ U / 2 ^ b := Nat.div_le_div_right (Nat.le_of_lt h3)
  have a3 : U / 2 ^ b = lo / 2 ^ b + 1 := by omega
  have l1 := Nat.div_mul_le_self lo (2 ^ b)
  have l2 := Nat.lt_div_mul_add (a := lo) pb
  have u1 := Nat.div_mul_le_self U (2 ^ b)
  have u2 := Nat.lt_div_mul_add (a := U) pb
  have e : U / 2 ^ b * 2 ^ b = lo / 2 ^ b * 2 ^ b + 2 ^ b := by rw [a3, Nat.add_mul, Nat.one_mul]
  refine ⟨by omega, u1, ?_⟩
  generalize hM : U / 2 ^ b * 2 ^ b = M at *
  have dv : P b ∣ (M : Int) := by
    rw [← hM, P_nat, Int.natCast_mul]
    exact Int.dvd_mul_left _ _
  have := cnt_asc (high := (U : Int) - 1) hb dv (by omega) (by rw [P_nat]; omega) (pcs_ok W (lo : Int) ((U : Int) - 1)) (by omega) (by rw [P_nat]; omega)
  rw [show ((M : Int) - (lo : Int)).toNat = M - lo by omega, show ((U : Int) - 1 + 1 - (M : Int)).toNat = U - M by omega] at this
  exact this

/-! ### the plan of a table's answers -/
section
variable {α : Type} [DecidableEq α]
theorem ans_look {W : Nat} {E : List (Ent α)} (T : Tab W E) (z : α) (x : Int) : Ans E z x ((look W E x).getD z) := by
  rcases look_cases T x with ⟨h, q⟩ | ⟨e, he, hx, hm, q⟩
  · rw [q]; exact .none h
  · rw [q]; exact .some he hx hm
/-- no table that answers so has fewer entries -/
theorem few_least {W : Nat} {g : Int → α} {z : α} {p : Pl α} (h : PlanOK g z 0 W p) {E : List (Ent α)} (T : Tab W E) (hz : ∀ e ∈ E, e.2 ≠ z) (hg : ∀ x, 0 ≤ x → x < P W → (look W E x).getD z = g x) : (ents p 0 W z).length ≤ E.length := by
  refine least h E z (Int.dvd_zero _) T.nd (fun e he => ?_) fun x h1 h2 => ?_
  · obtain ⟨a1, a2, a3, a4⟩ := T.al e he
    exact ⟨⟨a1, a2, a3, by omega⟩, hz e he⟩
  · rw [← hg x h1 (by omega)]
    exact ans_look T z x
theorem words_ne {g : Int → α} {z : α} {low : Int} {k : Nat} {p : Pl α} (h : PlanOK g z low k p) : (∀ x, low ≤ x → x < low + P k → g x ≠ z) → z ∉ p.words := by
  induction h with
  | @leaf low k v h =>
    intro nz hm
    have pp := P_pos k
    have e : z = v := List.mem_singleton.mp hm
    exact nz low (Int.le_refl _) (by omega) (by rw [h low (Int.le_refl _) (by omega), e])
  | @node low k ws a b ha hb h0 h1 h2 hn iha ihb =>
    intro nz hm
    have ps := P_succ k
    have pp := P_pos k
    have na := iha fun x q1 q2 => nz x q1 (by omega)
    have nb := ihb fun x q1 q2 => nz x (by omega) (by omega)
    by_cases t : ∃ u, u ∈ a.words ∧ u ∈ b.words
    · exact na ((h1 nz t z).mp hm).1
    · rcases (h2 nz (fun u q1 q2 => t ⟨u, q1, q2⟩) z).mp hm with q | q
      · exact na q
      · exact nb q
theorem ents_ne {g : Int → α} {z : α} {low : Int} {k : Nat} {p : Pl α} (h : PlanOK g z low k p) : ∀ v, ((∃ x, low ≤ x ∧ x < low + P k ∧ g x = z) → v = z) → ∀ e ∈ ents p low k v, e.2 ≠ z := by
  induction h with
  | @leaf low k u h =>
    intro v hv e he ez
    have pp := P_pos k
    obtain ⟨_, q1, q2⟩ := own_in (ws := [u]) e he
    have q3 := goOn_mem (ws := [u]) (by intro r; cases r) v
    rw [← q1, ez] at q3
    have e1 : z = u := List.mem_singleton.mp q3
    exact q2 (List.mem_singleton.mpr (by rw [hv ⟨low, Int.le_refl _, by omega, by rw [h low (Int.le_refl _) (by omega), e1]⟩, e1]))
  | @node low k ws a b ha hb h0 h1 h2 hn iha ihb =>
    intro v hv e he ez
    have ps := P_succ k
    have pp := P_pos k
    have hp := PlanOK.node ha hb h0 h1 h2 hn
    have ne : ws ≠ [] := hp.ne
    have hv' : (∃ y, low ≤ y ∧ y < low + P (k + 1) ∧ g y = z) → goOn ws v = z := fun q => by
      rw [h0 q]
      exact List.mem_singleton.mp (goOn_mem (ws := [z]) (by intro r; cases r) v)
    rcases List.mem_append.mp he with he | he
    · rcases List.mem_append.mp he with he | he
      · obtain ⟨_, q1, q2⟩ := own_in e he
        by_cases t : ∃ x, low ≤ x ∧ x < low + P (k + 1) ∧ g x = z
        · exact q2 (by rw [h0 t, hv t]; exact List.mem_singleton.mpr rfl)
        · have q3 := goOn_mem ne v
          rw [← q1, ez] at q3
          exact words_ne hp (fun x x1 x2 x3 => t ⟨x, x1, x2, x3⟩) q3
      · exact iha _ (fun ⟨y, q1, q2, q3⟩ => hv' ⟨y, q1, by omega, q3⟩) e he ez
    · exact ihb _ (fun ⟨y, q1, q2, q3⟩ => hv' ⟨y, by omega, by have : y < low + P k + P k := q2; omega, q3⟩) e he ez
/-- the entries of a plan answer as f -/
theorem few_look {W : Nat} {f : Int → Option α} {z : α} (hf : ∀ x, f x ≠ some z) {p : Pl α} (h : PlanOK (fun x => (f x).getD z) z 0 W p) {x : Int} (h1 : 0 ≤ x) (h2 : x < P W) : look W (ents p 0 W z) x = f x := by
  have T := ents_tab h z
  have A := ents_ans h z (Int.dvd_zero _) (fun _ => rfl) x h1 (by omega)
  have key : ∀ r, r = (f x).getD z → Ans (ents p 0 W z) z x r → look W (ents p 0 W z) x = f x := by
    intro r er A
    cases A with
    | none hn =>
      rw [look_none T hn]
      cases q : f x with
      | none => rfl
      | some v =>
        rw [q] at er
        have er : z = v := er
        exact (hf x (by rw [q, er])).elim
    | @some e he hx hm =>
      rw [look_eq T he hx hm]
      cases q : f x with
      | none =>
        rw [q] at er
        have er : e.2 = z := er
        exact (ents_ne h z (fun _ => rfl) e he er).elim
      | some v =>
        rw [q] at er
        have er : e.2 = v := er
        rw [er]
  exact key _ rfl A
end
end AN
/-! W1 -/
set_option Elab.async false
set_option linter.all false
set_option maxRecDepth 100000
set_option maxHeartbeats 4000000
namespace AH
open PySem PySem.Spec PyProof.Rows L2 He
section
variable {P : Program} {w : World} {K : PySem.W.Frag} {mg : Str → Option Value} {base : Heap}
theorem kit_of {a b : String} {r : Bool} (h : kitB a b = some r) : PySem.W.kitOne K (.type a) (.type b) = some r := kit_ty h
def sp_is_integer : Sp := fun vs H Q _ => ∃ n : Int, vs = [.int n] ∧ Q (.bl true) H
abbrev N_is_integer : List Str := ["thing"]
theorem sc_is_integer : FnScope N_is_integer ["thing"] (defScope s_is_integer) := ⟨rfl, rfl, rfl, by decide +kernel, rfl, by decide +kernel, by decide +kernel⟩
theorem c_is_integer (T : Cxt K mg) : Cal P w K mg base 1 "is_integer" (Spn 1 sp_is_integer) [] := by
  obtain ⟨fd, F⟩ := T.F_is_integer
  refine calN F T.g_is_integer sc_is_integer rfl (fun _ _ _ _ _ _ us hl => match us, hl with | [_], _ => rfl) (fun cdv A outer s H vs Q E hr h => ?_)
  have nd := sc_is_integer.nd
  have hu := hu_of hr
  obtain ⟨n, rfl, q⟩ := h
  refine ⟨_, (pss_one (ps_ret (pe_and (pe_callB call_isi (by rfl) T.z_isinstance (by decide +kernel) (pa_cons (pv 0) (pa_cons (pe_bltn (v := .ty "int") (by rfl) T.z_int (by decide +kernel) rfl) pa_nil))) (pe_one (pe_not (pe_callB call_isi (by rfl) T.z_isinstance (by decide +kernel) (pa_cons (pv 0) (pa_cons (pe_bltn (v := .ty "bool") (by rfl) T.z_bool (by decide +kernel) rfl) pa_nil)))))))), ?_⟩
  refine ⟨_, rfl, _, _, _, _, _, rfl, .ty _, .base (.int _), kit_of (by decide +kernel), true, rfl, ?_⟩
  refine iteT ⟨_, rfl, _, _, _, _, _, rfl, .ty _, .base (.int _), kit_of (by decide +kernel), false, rfl, ?_⟩
  exact q
def sp_is_from : Sp := fun vs H Q _ => ∃ n a b : Int, vs = [.int n, .int a, .int b] ∧ Q (.bl (decide (a ≤ n) && decide (n ≤ b))) H
abbrev N_is_from : List Str := ["thing", "low", "high"]
theorem sc_is_from : FnScope N_is_from ["thing", "low", "high"] (defScope s_is_from) := ⟨rfl, rfl, rfl, by decide +kernel, rfl, by decide +kernel, by decide +kernel⟩
theorem c_is_from (T : Cxt K mg) : Cal P w K mg base 2 "is_from" (Spn 3 sp_is_from) [] := by
  obtain ⟨fd, F⟩ := T.F_is_from
  refine calN F T.g_is_from sc_is_from rfl (fun _ _ _ _ _ _ us hl => match us, hl with | [_, _, _], _ => rfl) (fun cdv A outer s H vs Q E hr h => ?_)
  have nd := sc_is_from.nd
  have hu := hu_of hr
  obtain ⟨n, a, b, rfl, q⟩ := h
  refine ⟨_, (pss_one (ps_ret (pe_and (pe_f (c_is_integer T) hr (by decide) rfl (pa_cons (pv 0) pa_nil)) (pe_one (pe_chain op_le op_le (pv 1) (pv 0) (pv 2)))))), ?_⟩
  refine ⟨_, rfl, rfl, n, rfl, true, rfl, iteT ?_⟩
  refine ⟨_, rfl, _, rfl, _, _, rfl, rfl, _, rfl, ?_⟩
  cases e : decide (a ≤ n) with
  | true =>
    refine iteT ⟨_, rfl, _, _, rfl, rfl, ?_⟩
    rw [e] at q
    exact q
  | false =>
    refine iteF ?_
    rw [e] at q
    exact q

/-! ### numbers -/
theorem toNat_cast (k : Nat) : ((k : Int)).toNat = k := Int.toNat_natCast k
theorem pow_cast (k : Nat) : (2 : Int) ^ ((k : Int)).toNat = AN.P k := by rw [toNat_cast, AN.P_pow]
theorem one_and {x : Int} (h : 0 ≤ x) : Builtin.bitAnd x 1 = x % 2 := Bits.bitAnd_mask 1 h
theorem half_bit {n : Int} {t : Nat} (hd : AN.P t ∣ n) : n / AN.P t % 2 = 0 ↔ AN.P (t + 1) ∣ n := by
  obtain ⟨c, rfl⟩ := hd
  have pp := AN.P_pos t
  rw [Int.mul_ediv_cancel_left _ (Int.ne_of_gt pp)]
  have e : AN.P (t + 1) = AN.P t * 2 := by rw [AN.P_succ]; omega
  rw [e]
  constructor
  · intro h
    refine ⟨c / 2, ?_⟩
    rw [Int.mul_assoc]
    congr 1
    omega
  · rintro ⟨d, hd⟩
    rw [Int.mul_assoc] at hd
    have := Int.eq_of_mul_eq_mul_left (Int.ne_of_gt pp) hd
    omega
def sp_low_zeros : Sp := fun vs H Q _ => ∃ (n : Int) (m : Nat), vs = [.int n, .int (m : Int)] ∧ 0 ≤ n ∧ ∀ t : Nat, t ≤ m → AN.P t ∣ n → (t = m ∨ ¬ AN.P (t + 1) ∣ n) → Q (.int (t : Int)) H
abbrev N_low_zeros : List Str := ["number", "most", "found"]
theorem sc_low_zeros : FnScope N_low_zeros ["number", "most"] (defScope s_low_zeros) := ⟨rfl, rfl, rfl, by decide +kernel, rfl, by decide +kernel, by decide +kernel⟩
theorem c_low_zeros (T : Cxt K mg) : Cal P w K mg base 1 "low_zeros" (Spn 2 sp_low_zeros) [] := by
  obtain ⟨fd, F⟩ := T.F_low_zeros
  refine calN F T.g_low_zeros sc_low_zeros rfl (fun _ _ _ _ _ _ us hl => match us, hl with | [_, _], _ => rfl) (fun cdv A outer s H vs Q E hr h => ?_)
  have nd := sc_low_zeros.nd
  have hu := hu_of hr
  obtain ⟨n, m, rfl, h0, q⟩ := h
  refine ⟨_, (pss_cons (ps_set (i := 2) nd rfl (Or.inl rfl) pe_int) (pss_cons (ps_while PassesOwn.never (PW.pt (pw_and (pt_cmpR op_lt (pv 2) (pv 1) (nomark _)) (pw_and1 (pt_cmpR op_eq (pe_op op_and (pe_op op_shr (pv 0) (pv 2)) pe_int) pe_int (nomark _))))) (pss_one (ps_aug (i := 2) nd rfl (Or.inl rfl) pe_int ip_add))) (pss_one (ps_ret (pv 2))))), ?_⟩
  refine ⟨fun μ σ H' => H' = H ∧ ∃ t : Nat, σ = [some (.int n), some (.int (m : Int)), some (.int (t : Int))] ∧ μ = m - t ∧ t ≤ m ∧ AN.P t ∣ n, ⟨m, rfl, 0, rfl, by omega, by omega, by rw [AN.P_zero]; exact Int.one_dvd _⟩, ?_⟩
  rintro μ σ H' ⟨rfl, t, rfl, hμ, ht, hd⟩
  refine ⟨_, rfl, _, rfl, _, _, rfl, rfl, _, rfl, ?_⟩
  refine ite2 (fun c => ?_) (fun c => ?_)
  · have c : (t : Int) < (m : Int) := of_decide_eq_true c
    have nn : 0 ≤ n / 2 ^ ((t : Int)).toNat := by rw [pow_cast]; exact Int.ediv_nonneg h0 (Int.le_of_lt (AN.P_pos t))
    refine ⟨_, rfl, _, rfl, _, _, rfl, rfl, Int.natCast_nonneg t, _, _, rfl, rfl, rfl, _, rfl, ?_⟩
    have eb : Builtin.bitAnd (n / 2 ^ ((t : Int)).toNat) 1 = n / AN.P t % 2 := by rw [one_and nn, pow_cast]
    refine ite2 (fun c2 => ?_) (fun c2 => ?_)
    · have c2 : V.int (Builtin.bitAnd (n / 2 ^ ((t : Int)).toNat) 1) = V.int 0 := of_decide_eq_true c2
      rw [eb] at c2
      have c3 := (half_bit hd).mp (V.int.inj c2)
      refine ⟨fun σ' H2 => ∃ μ', μ' < μ ∧ H2 = H' ∧ ∃ t : Nat, σ' = [some (.int n), some (.int (m : Int)), some (.int (t : Int))] ∧ μ' = m - t ∧ t ≤ m ∧ AN.P t ∣ n, fun _ _ z => z, ?_⟩
      refine ⟨_, rfl, _, _, rfl, rfl, m - (t + 1), by omega, rfl, t + 1, ?_, rfl, by omega, c3⟩
      rfl
    · have c2 : ¬ V.int (Builtin.bitAnd (n / 2 ^ ((t : Int)).toNat) 1) = V.int 0 := of_decide_eq_false (Bool.eq_false_iff.mpr c2)
      rw [eb] at c2
      refine ⟨_, rfl, q t ht hd (.inr fun z => c2 (congrArg V.int ((half_bit hd).mpr z)))⟩
  · have c : ¬ (t : Int) < (m : Int) := of_decide_eq_false (Bool.eq_false_iff.mpr c)
    refine ⟨_, rfl, q t ht hd (.inl (by omega))⟩
/-! ### networks' numbers -/
theorem nat_lt_P {x : Int} {k : Nat} (h0 : 0 ≤ x) (h : x < AN.P k) : x.natAbs < 2 ^ k := by rw [AN.P_nat] at h; omega
theorem div_lt {n : Int} {k m : Nat} (h0 : 0 ≤ n) (h : n < AN.P m) : (n / AN.P k).natAbs < 2 ^ m :=
  nat_lt_P (Int.ediv_nonneg h0 (Int.le_of_lt (AN.P_pos k))) (Int.lt_of_le_of_lt (Int.ediv_le_self _ h0) h)
def sp_mask_number : Sp := fun vs H Q _ => ∃ W k : Nat, vs = [.int ((W : Int) - (k : Int)), .int (W : Int)] ∧ k ≤ W ∧ W ≤ 128 ∧ Q (.int (AN.P W - AN.P k)) H
abbrev N_mask_number : List Str := ["prefix", "width"]
theorem sc_mask_number : FnScope N_mask_number ["prefix", "width"] (defScope s_mask_number) := ⟨rfl, rfl, rfl, by decide +kernel, rfl, by decide +kernel, by decide +kernel⟩
theorem c_mask_number (T : Cxt K mg) : Cal P w K mg base 1 "mask_number" (Spn 2 sp_mask_number) [] := by
  obtain ⟨fd, F⟩ := T.F_mask_number
  refine calN F T.g_mask_number sc_mask_number rfl (fun _ _ _ _ _ _ us hl => match us, hl with | [_, _], _ => rfl) (fun cdv A outer s H vs Q E hr h => ?_)
  have nd := sc_mask_number.nd
  have hu := hu_of hr
  obtain ⟨W, k, rfl, hk, hW, q⟩ := h
  have e1 : (W : Int) - (k : Int) = ((W - k : Nat) : Int) := by omega
  have e2 : (W : Int) - ((W : Int) - (k : Int)) = (k : Int) := by omega
  refine ⟨_, (pss_one (ps_ret (pe_op op_shlW (pe_op op_sub (pe_op op_shlW pe_int (pv 0)) pe_int) (pe_op op_sub (pv 1) (pv 0))))), ?_⟩
  have b1 : CShl (1 : Int) ((W : Int) - (k : Int)) := by
    rw [e1]
    exact shl_ok (n := 1) (by decide) (by omega)
  have b2 : CShl (1 * 2 ^ ((W : Int) - (k : Int)).toNat - 1) ((W : Int) - ((W : Int) - (k : Int))) := by
    rw [e2, e1, pow_cast, Int.one_mul]
    have pp := AN.P_pos (W - k)
    exact shl_ok (n := W - k) (nat_lt_P (by omega) (by omega)) (by omega)
  refine ⟨_, rfl, _, _, rfl, rfl, b1, _, _, rfl, rfl, _, rfl, _, rfl, _, _, rfl, rfl, _, _, rfl, rfl, b2, ?_⟩
  have e3 : (1 * 2 ^ ((W : Int) - (k : Int)).toNat - 1) * 2 ^ ((W : Int) - ((W : Int) - (k : Int))).toNat = AN.P W - AN.P k := by
    rw [e2, e1, pow_cast, pow_cast, Int.one_mul, Int.sub_mul, Int.one_mul, ← AN.P_add, Nat.sub_add_cancel hk]
  show Q (.int _) H
  rw [e3]
  exact q
def sp_look_prefix : Sp := fun vs H Q _ => ∃ p m : Int, vs = [.int p, .int m] ∧ 0 ≤ p ∧ p ≤ m ∧ Q .non H
abbrev N_look_prefix : List Str := ["prefix", "width"]
theorem sc_look_prefix : FnScope N_look_prefix ["prefix", "width"] (defScope s_look_prefix) := ⟨rfl, rfl, rfl, by decide +kernel, rfl, by decide +kernel, by decide +kernel⟩
theorem c_look_prefix (T : Cxt K mg) : Cal P w K mg base 3 "look_prefix" (Spn 2 sp_look_prefix) [] := by
  obtain ⟨fd, F⟩ := T.F_look_prefix
  refine calN F T.g_look_prefix sc_look_prefix rfl (fun _ _ _ _ _ _ us hl => match us, hl with | [_, _], _ => rfl) (fun cdv A outer s H vs Q E hr h => ?_)
  have nd := sc_look_prefix.nd
  have hu := hu_of hr
  obtain ⟨p, m, rfl, h0, h1, q⟩ := h
  refine ⟨_, (pss_one (ps_if (PW.pt (pw_and (pt_cmpR op_notN (pv 0) pe_non (nomark _)) (pw_and1 (pt_not (pt_val (pe_f (c_is_from T) hr (by decide) rfl (pa_cons (pv 0) (pa_cons pe_int (pa_cons (pv 1) pa_nil))))))))) (pss_one ps_never) pss_nil)), ?_⟩
  refine ⟨_, rfl, rfl, _, rfl, iteT ?_⟩
  refine ⟨_, rfl, _, rfl, rfl, p, 0, m, rfl, true, by rw [decide_eq_true h0, decide_eq_true h1] <;> rfl, ?_⟩
  exact iteF q
def sp_look_strict : Sp := fun vs H Q _ => ∃ b : Bool, vs = [.bl b] ∧ Q .non H
abbrev N_look_strict : List Str := ["strict"]
theorem sc_look_strict : FnScope N_look_strict ["strict"] (defScope s_look_strict) := ⟨rfl, rfl, rfl, by decide +kernel, rfl, by decide +kernel, by decide +kernel⟩
theorem c_look_strict (T : Cxt K mg) : Cal P w K mg base 1 "look_strict" (Spn 1 sp_look_strict) [] := by
  obtain ⟨fd, F⟩ := T.F_look_strict
  refine calN F T.g_look_strict sc_look_strict rfl (fun _ _ _ _ _ _ us hl => match us, hl with | [_], _ => rfl) (fun cdv A outer s H vs Q E hr h => ?_)
  have nd := sc_look_strict.nd
  have hu := hu_of hr
  obtain ⟨b, rfl, q⟩ := h
  refine ⟨_, (pss_one (ps_if (pt_not (pt_val (pe_callB call_isi (by rfl) T.z_isinstance (by decide +kernel) (pa_cons (pv 0) (pa_cons (pe_bltn (v := .ty "bool") (by rfl) T.z_bool (by decide +kernel) rfl) pa_nil))))) (pss_one ps_never) pss_nil)), ?_⟩
  refine ⟨_, rfl, _, _, _, _, _, rfl, .ty _, .base (.bl _), kit_of (by decide +kernel), true, rfl, ?_⟩
  exact iteF q
def sp_low_end : Sp := fun vs H Q _ => ∃ (n : Int) (W k : Nat), vs = [.int n, .int ((W : Int) - (k : Int)), .int (W : Int)] ∧ k ≤ W ∧ W ≤ 128 ∧ 0 ≤ n ∧ n < AN.P 129 ∧ Q (.int (AN.lowE n k)) H
abbrev N_low_end : List Str := ["number", "prefix", "width"]
theorem sc_low_end : FnScope N_low_end ["number", "prefix", "width"] (defScope s_low_end) := ⟨rfl, rfl, rfl, by decide +kernel, rfl, by decide +kernel, by decide +kernel⟩
theorem c_low_end (T : Cxt K mg) : Cal P w K mg base 1 "low_end" (Spn 3 sp_low_end) [] := by
  obtain ⟨fd, F⟩ := T.F_low_end
  refine calN F T.g_low_end sc_low_end rfl (fun _ _ _ _ _ _ us hl => match us, hl with | [_, _, _], _ => rfl) (fun cdv A outer s H vs Q E hr h => ?_)
  have nd := sc_low_end.nd
  have hu := hu_of hr
  obtain ⟨n, W, k, rfl, hk, hW, h0, h1, q⟩ := h
  have e2 : (W : Int) - ((W : Int) - (k : Int)) = (k : Int) := by omega
  refine ⟨_, (pss_one (ps_ret (pe_op op_shlW (pe_op op_shr (pv 0) (pe_op op_sub (pv 2) (pv 1))) (pe_op op_sub (pv 2) (pv 1))))), ?_⟩
  have b2 : CShl (n / 2 ^ ((W : Int) - ((W : Int) - (k : Int))).toNat) ((W : Int) - ((W : Int) - (k : Int))) := by
    rw [e2, pow_cast]
    exact shl_ok (n := 129) (div_lt h0 h1) (by omega)
  refine ⟨_, rfl, _, rfl, _, rfl, _, _, rfl, rfl, _, _, rfl, rfl, by omega, _, rfl, _, rfl, _, _, rfl, rfl, _, _, rfl, rfl, b2, ?_⟩
  show Q (.int _) H
  rw [e2, pow_cast]
  exact q
def sp_high_end : Sp := fun vs H Q _ => ∃ (n : Int) (W k : Nat), vs = [.int n, .int ((W : Int) - (k : Int)), .int (W : Int)] ∧ k ≤ W ∧ W ≤ 128 ∧ 0 ≤ n ∧ n < AN.P 129 ∧ Q (.int (AN.lowE n k + AN.P k - 1)) H
abbrev N_high_end : List Str := ["number", "prefix", "width"]
theorem sc_high_end : FnScope N_high_end ["number", "prefix", "width"] (defScope s_high_end) := ⟨rfl, rfl, rfl, by decide +kernel, rfl, by decide +kernel, by decide +kernel⟩
theorem c_high_end (T : Cxt K mg) : Cal P w K mg base 2 "high_end" (Spn 3 sp_high_end) [] := by
  obtain ⟨fd, F⟩ := T.F_high_end
  refine calN F T.g_high_end sc_high_end rfl (fun _ _ _ _ _ _ us hl => match us, hl with | [_, _, _], _ => rfl) (fun cdv A outer s H vs Q E hr h => ?_)
  have nd := sc_high_end.nd
  have hu := hu_of hr
  obtain ⟨n, W, k, rfl, hk, hW, h0, h1, q⟩ := h
  have e2 : (W : Int) - ((W : Int) - (k : Int)) = (k : Int) := by omega
  refine ⟨_, (pss_one (ps_ret (pe_op op_sub (pe_op op_add (pe_f (c_low_end T) hr (by decide) rfl (pa_cons (pv 0) (pa_cons (pv 1) (pa_cons (pv 2) pa_nil)))) (pe_op op_shlW pe_int (pe_op op_sub (pv 2) (pv 1)))) pe_int))), ?_⟩
  have b2 : CShl (1 : Int) ((W : Int) - ((W : Int) - (k : Int))) := by
    rw [e2]
    exact shl_ok (n := 1) (by decide) (by omega)
  refine ⟨_, rfl, _, rfl, _, rfl, rfl, n, W, k, rfl, hk, hW, h0, h1, _, rfl, _, rfl, _, _, rfl, rfl, _, _, rfl, rfl, b2, _, _, rfl, rfl, _, _, rfl, rfl, ?_⟩
  show Q (.int _) H
  rw [e2, pow_cast, Int.one_mul]
  exact q
def sp_number_of : Sp := fun vs H Q _ => ∃ (n : Int) (W : Nat), vs = [.int n, .int (W : Int)] ∧ W ≤ 128 ∧ 0 ≤ n ∧ n < AN.P W ∧ Q (.int n) H
abbrev N_number_of : List Str := ["value", "width"]
theorem sc_number_of : FnScope N_number_of ["value", "width"] (defScope s_number_of) := ⟨rfl, rfl, rfl, by decide +kernel, rfl, by decide +kernel, by decide +kernel⟩
theorem c_number_of (T : Cxt K mg) : Cal P w K mg base 3 "number_of" (Spn 2 sp_number_of) [] := by
  obtain ⟨fd, F⟩ := T.F_number_of
  refine calN F T.g_number_of sc_number_of rfl (fun _ _ _ _ _ _ us hl => match us, hl with | [_, _], _ => rfl) (fun cdv A outer s H vs Q E hr h => ?_)
  have nd := sc_number_of.nd
  have hu := hu_of hr
  obtain ⟨n, W, rfl, hW, h0, h1, q⟩ := h
  refine ⟨_, (pss_cons (ps_if (pt_val (pe_f (c_is_integer T) hr (by decide) rfl (pa_cons (pv 0) pa_nil))) (pss_cons (ps_if (pt_not (pt_val (pe_f (c_is_from T) hr (by decide) rfl (pa_cons (pv 0) (pa_cons pe_int (pa_cons (pe_op op_sub (pe_op op_shlW pe_int (pv 1)) pe_int) pa_nil)))))) (pss_one ps_never) pss_nil) (pss_one (ps_ret (pv 0)))) pss_nil) pss_never), ?_⟩
  refine ⟨_, rfl, rfl, n, rfl, true, rfl, iteT ?_⟩
  have b : CShl (1 : Int) (W : Int) := shl_ok (n := 1) (by decide) (by omega)
  refine ⟨_, rfl, _, rfl, _, _, rfl, rfl, b, _, _, rfl, rfl, rfl, n, 0, _, rfl, ?_⟩
  have e : (1 : Int) * 2 ^ ((W : Int)).toNat - 1 = AN.P W - 1 := by rw [pow_cast, Int.one_mul]
  refine ⟨true, ?_, iteF ⟨_, rfl, q⟩⟩
  rw [e, decide_eq_true h0, decide_eq_true (show n ≤ AN.P W - 1 by omega)] <;> rfl
end
end AH
/-! W2 -/
set_option Elab.async false
set_option linter.all false
set_option maxRecDepth 100000
set_option maxHeartbeats 4000000
namespace AH
open PySem PySem.Spec PyProof.Rows L2 He
/-! ### addresses and networks in the heap; v: whether they are of version 6 -/
def Wd : Bool → Nat
  | true => 128
  | false => 32
theorem Wd_le (v : Bool) : Wd v ≤ 128 := by cases v <;> decide
def aC (K : PySem.W.Frag) : Bool → Addr
  | true => ga K "Address6"
  | false => ga K "Address4"
def nC (K : PySem.W.Frag) : Bool → Addr
  | true => ga K "Network6"
  | false => ga K "Network4"
def adrF (n : Int) : List (Str × V) := putF "number" (.int n) []
theorem adrF_number (n : Int) : (adrF n).lookup ("number" : Str) = some (.int n) := by kernel_rfl
def AdrAt (K : PySem.W.Frag) (v : Bool) (H : Hp) (p : Addr) (n : Int) : Prop := ∃ dx, H p = some (.ins (aC K v) dx (adrF n))
theorem AdrAt.mono {K : PySem.W.Frag} {v : Bool} {H H' : Hp} {p : Addr} {n : Int} (e : Same H H') (h : AdrAt K v H p n) : AdrAt K v H' p n := let ⟨dx, h⟩ := h; ⟨dx, e _ _ h⟩
/-- all but what stands at x is as it was -/
def But (x : Addr) (H H' : Hp) : Prop := ∀ b o, H b = some o → b ≠ x → H' b = some o
theorem But.made {H H' : Hp} {x dx C : Addr} (nx : H x = none) (nd : H dx = none) (k : But x (upd (upd H dx (.own x)) x (.ins C dx [])) H') : Same H H' := Same.made nx nd k
theorem But.refl {x : Addr} {H : Hp} : But x H H := fun _ _ h _ => h
theorem But.of {x : Addr} {H H' : Hp} (h : Same H H') : But x H H' := fun b o e _ => h b o e
theorem But.trans {x : Addr} {H H1 H2 : Hp} (a : But x H H1) (b : But x H1 H2) : But x H H2 := fun c o h n => b c o (a c o h n) n
theorem But.upd {x : Addr} {H : Hp} {o : HO} : But x H (L2.upd H x o) := fun b u e n => by rw [upd_ne n]; exact e
/-- what is new is no object of before -/
theorem Same.new {H : Hp} {p : Addr} {o : HO} (h : H p = none) : Same H (upd H p o) := fun b u e => by rw [upd_ne (ne_of_none e h)]; exact e
theorem But.same {x : Addr} {H H' : Hp} (h : But x H H') (n : H x = none) : Same H H' := fun b o e => h b o e (ne_of_none e n)
section
variable {P : Program} {w : World} {K : PySem.W.Frag} {mg : Str → Option Value} {base : Heap}
def sp_adr (K : PySem.W.Frag) (v : Bool) : Sp := fun vs H Q _ => ∃ (x dx : Addr) (n : Int), vs = [.ref x, .int n] ∧ H x = some (.ins (aC K v) dx []) ∧ 0 ≤ n ∧ n < AN.P (Wd v) ∧ ∀ H', But x H H' → AdrAt K v H' x n → Q .non H'
abbrev N_Address4_init : List Str := ["self", "value"]
theorem sc_Address4_init : FnScope N_Address4_init ["self", "value"] (defScope s_Address4_init) := ⟨rfl, rfl, rfl, by decide +kernel, rfl, by decide +kernel, by decide +kernel⟩
theorem k_Address4 (T : Cxt K mg) : Mak P w K mg base 4 "Address4" (ga K "Address4") (Spn 2 (sp_adr K false)) [] := by
  obtain ⟨fd, F⟩ := T.F_Address4_init
  refine makN F T.mk_Address4 T.g_Address4 sc_Address4_init rfl (fun _ _ _ _ _ _ us hl => match us, hl with | [_, _], _ => rfl) (fun cdv A outer s H vs Q E hr h => ?_)
  have nd := sc_Address4_init.nd
  have hu := hu_of hr
  obtain ⟨x, dx, n, rfl, hx, h0, h1, q⟩ := h
  refine ⟨_, (pss_one (ps_fld (pv 0) (pe_ifExp (pt_val (pe_callB call_isi (by rfl) T.z_isinstance (by decide +kernel) (pa_cons (pv 1) (pa_cons (pe_glob (v := .ref _) rfl T.g_Address4 rfl) pa_nil)))) (pe_fld (pv 1) rfl) (pe_f (c_number_of T) hr (by decide) rfl (pa_cons (pv 1) (pa_cons (pe_gv rfl (gint T.i_WIDTH4)) pa_nil)))) rfl)), ?_⟩
  refine ⟨_, rfl, _, _, _, _, _, rfl, .own _, .base (.int _), T.k_int_Address4, false, rfl, iteF ?_⟩
  refine ⟨_, rfl, rfl, n, 32, rfl, by decide, h0, h1, _, rfl, x, _, dx, _, rfl, hx, T.c_Address4, T.n_Address4_number, (by show 0 < 1000; decide), ?_⟩
  exact q _ But.upd ⟨dx, upd_same⟩
abbrev N_Address6_init : List Str := ["self", "value"]
theorem sc_Address6_init : FnScope N_Address6_init ["self", "value"] (defScope s_Address6_init) := ⟨rfl, rfl, rfl, by decide +kernel, rfl, by decide +kernel, by decide +kernel⟩
theorem k_Address6 (T : Cxt K mg) : Mak P w K mg base 4 "Address6" (ga K "Address6") (Spn 2 (sp_adr K true)) [] := by
  obtain ⟨fd, F⟩ := T.F_Address6_init
  refine makN F T.mk_Address6 T.g_Address6 sc_Address6_init rfl (fun _ _ _ _ _ _ us hl => match us, hl with | [_, _], _ => rfl) (fun cdv A outer s H vs Q E hr h => ?_)
  have nd := sc_Address6_init.nd
  have hu := hu_of hr
  obtain ⟨x, dx, n, rfl, hx, h0, h1, q⟩ := h
  refine ⟨_, (pss_one (ps_fld (pv 0) (pe_ifExp (pt_val (pe_callB call_isi (by rfl) T.z_isinstance (by decide +kernel) (pa_cons (pv 1) (pa_cons (pe_glob (v := .ref _) rfl T.g_Address6 rfl) pa_nil)))) (pe_fld (pv 1) rfl) (pe_f (c_number_of T) hr (by decide) rfl (pa_cons (pv 1) (pa_cons (pe_gv rfl (gint T.i_WIDTH6)) pa_nil)))) rfl)), ?_⟩
  refine ⟨_, rfl, _, _, _, _, _, rfl, .own _, .base (.int _), T.k_int_Address6, false, rfl, iteF ?_⟩
  refine ⟨_, rfl, rfl, n, 128, rfl, by decide, h0, h1, _, rfl, x, _, dx, _, rfl, hx, T.c_Address6, T.n_Address6_number, (by show 0 < 1000; decide), ?_⟩
  exact q _ But.upd ⟨dx, upd_same⟩
end
end AH
/-! W3 -/
set_option Elab.async false
set_option linter.all false
set_option maxRecDepth 100000
set_option maxHeartbeats 4000000
namespace AH
open PySem PySem.Spec PyProof.Rows L2 He
theorem few {fs : List (Str × V)} {f : Str} {v : V} {n : Nat} (h : fs.length ≤ n) : (putF f v fs).length ≤ n + 1 := by
  induction fs generalizing n with
  | nil => show 1 ≤ n + 1; omega
  | cons q r ih =>
    unfold putF
    split
    · show r.length + 1 ≤ n + 1
      have : r.length + 1 ≤ n := h
      omega
    · show (putF f v r).length + 1 ≤ n + 1
      have h1 : r.length + 1 ≤ n := h
      have := ih (n := n - 1) (by omega)
      omega
def netF (pf pl pm ph pr : Addr) (W k : Nat) : List (Str × V) :=
  putF "rank" (.ref pr) (putF "hostmask" (.ref ph) (putF "mask" (.ref pm) (putF "size" (.int (AN.P k)) (putF "prefix" (.int ((W : Int) - (k : Int))) (putF "last" (.ref pl) (putF "first" (.ref pf) []))))))
theorem netF_first (pf pl pm ph pr : Addr) (W k : Nat) : (netF pf pl pm ph pr W k).lookup ("first" : Str) = some (.ref pf) := by kernel_rfl
theorem netF_last (pf pl pm ph pr : Addr) (W k : Nat) : (netF pf pl pm ph pr W k).lookup ("last" : Str) = some (.ref pl) := by kernel_rfl
theorem netF_prefix (pf pl pm ph pr : Addr) (W k : Nat) : (netF pf pl pm ph pr W k).lookup ("prefix" : Str) = some (.int ((W : Int) - (k : Int))) := by kernel_rfl
theorem netF_rank (pf pl pm ph pr : Addr) (W k : Nat) : (netF pf pl pm ph pr W k).lookup ("rank" : Str) = some (.ref pr) := by kernel_rfl
theorem netF_no (pf pl pm ph pr : Addr) (W k : Nat) : (netF pf pl pm ph pr W k).lookup ("VERSION" : Str) = none ∧ (netF pf pl pm ph pr W k).lookup ("WIDTH" : Str) = none ∧ (netF pf pl pm ph pr W k).lookup ("subnets" : Str) = none := ⟨by kernel_rfl, by kernel_rfl, by kernel_rfl⟩
theorem adrF_no (n : Int) : (adrF n).lookup ("VERSION" : Str) = none ∧ (adrF n).lookup ("WIDTH" : Str) = none := ⟨by kernel_rfl, by kernel_rfl⟩
structure NetIs (K : PySem.W.Frag) (v : Bool) (H : Hp) (p dx pf pl pm ph pr : Addr) (n : Int) (k : Nat) : Prop where
  ob : H p = some (.ins (nC K v) dx (netF pf pl pm ph pr (Wd v) k))
  first : AdrAt K v H pf n
  last : AdrAt K v H pl (n + AN.P k - 1)
  rank : H pr = some (.tup [.int n, .int ((Wd v : Int) - (k : Int))])
def NetAt (K : PySem.W.Frag) (v : Bool) (H : Hp) (p : Addr) (n : Int) (k : Nat) : Prop := ∃ dx pf pl pm ph pr, NetIs K v H p dx pf pl pm ph pr n k
theorem NetAt.mono {K : PySem.W.Frag} {v : Bool} {H H' : Hp} {p : Addr} {n : Int} {k : Nat} (e : Same H H') (h : NetAt K v H p n k) : NetAt K v H' p n k :=
  let ⟨dx, pf, pl, pm, ph, pr, h⟩ := h; ⟨dx, pf, pl, pm, ph, pr, e _ _ h.ob, h.first.mono e, h.last.mono e, e _ _ h.rank⟩
/-- a network's numbers -/
structure NOk (v : Bool) (n : Int) (k : Nat) : Prop where
  al : AN.P k ∣ n
  le : k ≤ Wd v
  nn : 0 ≤ n
  fit : n + AN.P k ≤ AN.P (Wd v)
theorem NOk.lt {v : Bool} {n : Int} {k : Nat} (h : NOk v n k) : n < AN.P (Wd v) := by
  have := h.fit
  have := AN.P_pos k
  omega
theorem lt129 {v : Bool} {n : Int} (h : n < AN.P (Wd v)) : n < AN.P 129 := Int.lt_of_lt_of_le h (AN.P_le (Nat.le_trans (Wd_le v) (by decide)))
section
variable {P : Program} {w : World} {K : PySem.W.Frag} {mg : Str → Option Value} {base : Heap}
def sp_parts (v : Bool) : Sp := fun vs H Q _ => ∃ n p : Int, vs = [.int n, .int p] ∧ 0 ≤ n ∧ n < AN.P (Wd v) ∧ 0 ≤ p ∧ p ≤ (Wd v : Int) ∧ ∀ t H', H t = none → Same H H' → H' t = some (.tup [.int n, .int p]) → Q (.ref t) H'
def sp_net (K : PySem.W.Frag) (v : Bool) : Sp := fun vs H Q _ => ∃ (x dx : Addr) (n : Int) (k : Nat), vs = [.ref x, .int n, .int ((Wd v : Int) - (k : Int)), .bl true] ∧ H x = some (.ins (nC K v) dx []) ∧ NOk v n k ∧
  ∀ H', But x H H' → NetAt K v H' x n k → Q .non H'
theorem true_and_ne {n m : Int} (h : n = m) : (!decide (V.int n = V.int m)) = false := by rw [h, decide_eq_true rfl] <;> rfl
abbrev N_parts4 : List Str := ["value", "prefix", "number"]
theorem sc_parts4 : FnScope N_parts4 ["value", "prefix"] (defScope s_parts4) := ⟨rfl, rfl, rfl, by decide +kernel, rfl, by decide +kernel, by decide +kernel⟩
theorem c_parts4 (T : Cxt K mg) : Cal P w K mg base 4 "parts4" (Spn 2 (sp_parts (false))) [] := by
  obtain ⟨fd, F⟩ := T.F_parts4
  refine calN F T.g_parts4 sc_parts4 rfl (fun _ _ _ _ _ _ us hl => match us, hl with | [_, _], _ => rfl) (fun cdv A outer s H vs Q E hr h => ?_)
  have nd := sc_parts4.nd
  have hu := hu_of hr
  obtain ⟨n, p, rfl, h0, h1, h2, h3, q⟩ := h
  refine ⟨_, (pss_cons (ps_if (PW.pt (pw_and (pt_cmpR op_isN (pv 1) pe_non (nomark _)) (pw_and1 (pt_val (pe_callB call_isi (by rfl) T.z_isinstance (by decide +kernel) (pa_cons (pv 0) (pa_cons (pe_bltn (v := .ty "str") (by rfl) T.z_str (by decide +kernel) rfl) pa_nil))))))) (pss_one ps_never) pss_nil) (pss_cons (ps_set (i := 2) nd rfl (Or.inl rfl) (pe_ifExp (pt_val (pe_callB call_isi (by rfl) T.z_isinstance (by decide +kernel) (pa_cons (pv 0) (pa_cons (pe_glob (v := .ref _) rfl T.g_Address4 rfl) pa_nil)))) (pe_fld (pv 0) rfl) (pe_f (c_number_of T) hr (by decide) rfl (pa_cons (pv 0) (pa_cons (pe_gv rfl (gint T.i_WIDTH4)) pa_nil))))) (pss_cons (ps_expr (pe_f (c_look_prefix T) hr (by decide) rfl (pa_cons (pv 1) (pa_cons (pe_gv rfl (gint T.i_WIDTH4)) pa_nil)))) (pss_one (ps_ret (pe_tup (pa_cons (pv 2) (pa_cons (pe_ifExp (pt_cmpR op_isN (pv 1) pe_non (nomark _)) (pe_gv rfl (gint T.i_WIDTH4)) (pv 1)) pa_nil)))))))), ?_⟩
  refine ⟨_, rfl, rfl, _, rfl, iteF (iteF ?_)⟩
  refine ⟨_, rfl, _, _, _, _, _, rfl, .own _, .base (.int _), T.k_int_Address4, false, rfl, iteF ?_⟩
  refine ⟨_, rfl, rfl, n, 32, rfl, by decide, h0, h1, ?_⟩
  refine ⟨_, rfl, rfl, p, 32, rfl, h2, h3, ?_⟩
  refine ⟨_, rfl, _, rfl, rfl, _, rfl, iteF ⟨_, rfl, (by show 2 ≤ sizeLine; decide), fun t ht => ?_⟩⟩
  exact q t _ ht (Same.new ht) upd_same
abbrev N_parts6 : List Str := ["value", "prefix", "number"]
theorem sc_parts6 : FnScope N_parts6 ["value", "prefix"] (defScope s_parts6) := ⟨rfl, rfl, rfl, by decide +kernel, rfl, by decide +kernel, by decide +kernel⟩
theorem c_parts6 (T : Cxt K mg) : Cal P w K mg base 4 "parts6" (Spn 2 (sp_parts (true))) [] := by
  obtain ⟨fd, F⟩ := T.F_parts6
  refine calN F T.g_parts6 sc_parts6 rfl (fun _ _ _ _ _ _ us hl => match us, hl with | [_, _], _ => rfl) (fun cdv A outer s H vs Q E hr h => ?_)
  have nd := sc_parts6.nd
  have hu := hu_of hr
  obtain ⟨n, p, rfl, h0, h1, h2, h3, q⟩ := h
  refine ⟨_, (pss_cons (ps_if (PW.pt (pw_and (pt_cmpR op_isN (pv 1) pe_non (nomark _)) (pw_and1 (pt_val (pe_callB call_isi (by rfl) T.z_isinstance (by decide +kernel) (pa_cons (pv 0) (pa_cons (pe_bltn (v := .ty "str") (by rfl) T.z_str (by decide +kernel) rfl) pa_nil))))))) (pss_one ps_never) pss_nil) (pss_cons (ps_set (i := 2) nd rfl (Or.inl rfl) (pe_ifExp (pt_val (pe_callB call_isi (by rfl) T.z_isinstance (by decide +kernel) (pa_cons (pv 0) (pa_cons (pe_glob (v := .ref _) rfl T.g_Address6 rfl) pa_nil)))) (pe_fld (pv 0) rfl) (pe_f (c_number_of T) hr (by decide) rfl (pa_cons (pv 0) (pa_cons (pe_gv rfl (gint T.i_WIDTH6)) pa_nil))))) (pss_cons (ps_expr (pe_f (c_look_prefix T) hr (by decide) rfl (pa_cons (pv 1) (pa_cons (pe_gv rfl (gint T.i_WIDTH6)) pa_nil)))) (pss_one (ps_ret (pe_tup (pa_cons (pv 2) (pa_cons (pe_ifExp (pt_cmpR op_isN (pv 1) pe_non (nomark _)) (pe_gv rfl (gint T.i_WIDTH6)) (pv 1)) pa_nil)))))))), ?_⟩
  refine ⟨_, rfl, rfl, _, rfl, iteF (iteF ?_)⟩
  refine ⟨_, rfl, _, _, _, _, _, rfl, .own _, .base (.int _), T.k_int_Address6, false, rfl, iteF ?_⟩
  refine ⟨_, rfl, rfl, n, 128, rfl, by decide, h0, h1, ?_⟩
  refine ⟨_, rfl, rfl, p, 128, rfl, h2, h3, ?_⟩
  refine ⟨_, rfl, _, rfl, rfl, _, rfl, iteF ⟨_, rfl, (by show 2 ≤ sizeLine; decide), fun t ht => ?_⟩⟩
  exact q t _ ht (Same.new ht) upd_same
theorem AdrAt.but {v : Bool} {H H' : Hp} {p x : Addr} {n : Int} (e : But x H H') (h : AdrAt K v H p n) (ne : p ≠ x) : AdrAt K v H' p n := let ⟨dx, h⟩ := h; ⟨dx, e _ _ h ne⟩
theorem binds_Network4_init (T : Cxt K mg) : ∃ fd, FunD K d_Network4_init.name d_Network4_init.qual d_Network4_init.params d_Network4_init.body d_Network4_init.scope (d_Network4_init.dvs K) (d_Network4_init.kws K) (fAd K d_Network4_init.at_) fd ∧
    ∃ ds, Vals [.bl true] ds ∧ Binds K fd ["self", "value", "prefix", "strict"] ds := by
  obtain ⟨fd, F⟩ := T.F_Network4_init
  refine ⟨fd, F, FunD.binds F 3 1 (by intro z; cases z) rfl (fun TT D doc pm an cdv ct us its ks h1 h2 h3 => ?_) (by intro z; cases z)⟩
  match us, its, ks, h1, h2, h3 with
  | [a, b, c], [d], [e], _, _, _ => exact ⟨_, rfl, _, _, _, _, _, _, rfl, rfl, rfl⟩
abbrev N_Network4_init : List Str := ["self", "value", "prefix", "strict", "number", "length", "low"]
theorem sc_Network4_init : FnScope N_Network4_init ["self", "value", "prefix", "strict"] (defScope s_Network4_init) := ⟨rfl, rfl, rfl, by decide +kernel, rfl, by decide +kernel, by decide +kernel⟩
theorem k_Network4 (T : Cxt K mg) : Mak P w K mg base 6 "Network4" (ga K "Network4") (Spn 4 (sp_net K (false))) [.bl true] := by
  obtain ⟨fd, F, ds, hv, hb⟩ := binds_Network4_init T
  refine makD F T.mk_Network4 T.g_Network4 sc_Network4_init rfl hb hv (fun cdv A outer s H vs Q E hr h => ?_)
  have nd := sc_Network4_init.nd
  have hu := hu_of hr
  obtain ⟨x, dx, n, k, rfl, hx, ok, q⟩ := h
  have kk : k ≤ Wd (false) := ok.le
  have pk := AN.P_pos k
  have fit := ok.fit
  have nn := ok.nn
  have lo : AN.lowE n k = n := AN.lowE_self ok.al
  refine ⟨_, (pss_cons (ps_asg (pe_f (c_parts4 T) hr (by decide) rfl (pa_cons (pv 1) (pa_cons (pv 2) pa_nil))) (pg_tup rfl (pgs_cons (pg_name (i := 4) nd rfl (Or.inl rfl)) (pgs_cons (pg_name (i := 5) nd rfl (Or.inl rfl)) pgs_nil)))) (pss_cons (ps_expr (pe_f (c_look_strict T) hr (by decide) rfl (pa_cons (pv 3) pa_nil))) (pss_cons (ps_set (i := 6) nd rfl (Or.inl rfl) (pe_f (c_low_end T) hr (by decide) rfl (pa_cons (pv 4) (pa_cons (pv 5) (pa_cons (pe_gv rfl (gint T.i_WIDTH4)) pa_nil))))) (pss_cons (ps_if (PW.pt (pw_and (pt_val (pv 3)) (pw_and1 (pt_cmpR op_ne (pv 6) (pv 4) (nomark _))))) (pss_one ps_never) pss_nil) (pss_cons (ps_fld (pv 0) (pe_k (k_Address4 T) hr (by decide) rfl (pa_cons (pv 6) pa_nil)) rfl) (pss_cons (ps_fld (pv 0) (pe_k (k_Address4 T) hr (by decide) rfl (pa_cons (pe_f (c_high_end T) hr (by decide) rfl (pa_cons (pv 4) (pa_cons (pv 5) (pa_cons (pe_gv rfl (gint T.i_WIDTH4)) pa_nil)))) pa_nil)) rfl) (pss_cons (ps_fld (pv 0) (pv 5) rfl) (pss_cons (ps_fld (pv 0) (pe_op op_shlW pe_int (pe_op op_sub (pe_gv rfl (gint T.i_WIDTH4)) (pv 5))) rfl) (pss_cons (ps_fld (pv 0) (pe_k (k_Address4 T) hr (by decide) rfl (pa_cons (pe_f (c_mask_number T) hr (by decide) rfl (pa_cons (pv 5) (pa_cons (pe_gv rfl (gint T.i_WIDTH4)) pa_nil))) pa_nil)) rfl) (pss_cons (ps_fld (pv 0) (pe_k (k_Address4 T) hr (by decide) rfl (pa_cons (pe_op op_sub (pe_fld (pv 0) rfl) pe_int) pa_nil)) rfl) (pss_one (ps_fld (pv 0) (pe_tup (pa_cons (pv 6) (pa_cons (pv 5) pa_nil))) rfl)))))))))))), ?_⟩
  -- the number and the length
  refine ⟨_, rfl, _, rfl, rfl, n, _, rfl, ok.nn, ok.lt, by omega, by omega, fun t1 H1 f1 e1 ht1 => ?_⟩
  refine ⟨t1, _, rfl, SqT.of ht1, rfl, _, _, rfl, _, _, rfl, rfl, ?_⟩
  refine ⟨_, rfl, rfl, true, rfl, ?_⟩
  refine ⟨_, rfl, _, rfl, rfl, n, Wd (false), k, rfl, kk, by decide, ok.nn, lt129 ok.lt, ?_⟩
  rw [lo]
  refine ⟨_, rfl, true, rfl, iteT ⟨_, rfl, _, rfl, rfl, _, rfl, iteNS rfl ?_⟩⟩
  -- first
  refine ⟨_, rfl, fun pf df nf ndf nef => ⟨rfl, pf, df, n, rfl, upd_same, ok.nn, ok.lt, fun H2 b2 a2 => ⟨rfl, ?_⟩⟩⟩
  have e2 : Same H1 H2 := But.made nf ndf b2
  have x1 := e1 _ _ hx
  have pfx : pf ≠ x := (ne_of_none x1 nf).symm
  refine ⟨_, rfl, x, _, dx, _, rfl, e2 _ _ x1, T.c_Network4, T.n_Network4_first, (by decide), ?_⟩
  have B2 : But x H2 (upd H2 x (.ins (ga K "Network4") dx (putF "first" (.ref pf) []))) := But.upd
  -- last
  refine ⟨_, rfl, _, rfl, rfl, n, Wd (false), k, rfl, kk, by decide, ok.nn, lt129 ok.lt, fun pl dl nl ndl nel => ?_⟩
  rw [lo]
  refine ⟨rfl, pl, dl, n + AN.P k - 1, rfl, upd_same, by omega, by show _ < AN.P (Wd (false)); omega, fun H3 b3 a3 => ⟨rfl, ?_⟩⟩
  have e3 := But.made nl ndl b3
  have plx : pl ≠ x := (ne_of_none upd_same nl).symm
  refine ⟨_, rfl, x, _, dx, _, rfl, e3 _ _ upd_same, T.c_Network4, T.n_Network4_last, Nat.lt_of_le_of_lt (few (Nat.le_refl 0)) (by decide), ?_⟩
  have B3 := B2.trans ((But.of e3).trans (But.upd (x := x) (o := .ins (ga K "Network4") dx (putF "last" (.ref pl) (putF "first" (.ref pf) [])))))
  -- prefix
  refine ⟨_, rfl, _, rfl, x, _, dx, _, rfl, upd_same, T.c_Network4, T.n_Network4_prefix, Nat.lt_of_le_of_lt (few (few (Nat.le_refl 0))) (by decide), ?_⟩
  -- size
  have eW : (32:Int) - ((Wd (false) : Int) - (k : Int)) = (k : Int) := by show (32:Int) - ((32:Int) - (k : Int)) = (k : Int); omega
  have b1 : CShl (1 : Int) ((32:Int) - ((Wd (false) : Int) - (k : Int))) := by
    rw [eW]
    exact shl_ok (n := 1) (by decide) (by have : Wd (false) ≤ 128 := Wd_le _; omega)
  refine ⟨_, rfl, _, _, rfl, rfl, _, _, rfl, rfl, b1, _, rfl, x, _, dx, _, rfl, upd_same, T.c_Network4, T.n_Network4_size, Nat.lt_of_le_of_lt (few (few (few (Nat.le_refl 0)))) (by decide), ?_⟩
  dsimp only
  rw [eW, pow_cast, Int.one_mul, upd_upd, upd_upd]
  generalize hH4 : upd H3 x _ = H4
  have x4 : H4 x = some (.ins (ga K "Network4") dx (putF "size" (.int (AN.P k)) (putF "prefix" (.int ((Wd (false) : Int) - (k : Int))) (putF "last" (.ref pl) (putF "first" (.ref pf) []))))) := by rw [← hH4]; exact upd_same
  have B4 : But x H3 H4 := by rw [← hH4]; exact But.upd
  -- mask
  refine ⟨_, rfl, rfl, Wd (false), k, rfl, kk, by decide, fun pm dm nm ndm nem => ⟨rfl, pm, dm, _, rfl, upd_same, by have := AN.P_le kk; omega, by show _ < AN.P (Wd (false)); omega, fun H5 b5 a5 => ⟨rfl, ?_⟩⟩⟩
  have e5 := But.made nm ndm b5
  refine ⟨_, rfl, x, _, dx, _, rfl, e5 _ _ x4, T.c_Network4, T.n_Network4_mask, Nat.lt_of_le_of_lt (few (few (few (few (Nat.le_refl 0))))) (by decide), ?_⟩
  -- hostmask
  refine ⟨_, rfl, x, _, dx, _, _, rfl, upd_same, T.c_Network4, T.n_Network4_size, (by kernel_rfl : _ = some (V.int (AN.P k))), _, _, rfl, rfl, fun ph dh nh ndh neh => ⟨rfl, ph, dh, _, rfl, upd_same, by omega, by show _ < AN.P (Wd (false)); have := AN.P_le kk; omega, fun H6 b6 a6 => ⟨rfl, ?_⟩⟩⟩
  have e6 := But.made nh ndh b6
  refine ⟨_, rfl, x, _, dx, _, rfl, e6 _ _ upd_same, T.c_Network4, T.n_Network4_hostmask, Nat.lt_of_le_of_lt (few (few (few (few (few (Nat.le_refl 0)))))) (by decide), ?_⟩
  -- rank
  refine ⟨_, rfl, _, rfl, (by show 2 ≤ sizeLine; decide), fun pr hpr => ?_⟩
  have prx : pr ≠ x := (ne_of_none upd_same hpr).symm
  refine ⟨_, rfl, x, _, dx, _, rfl, Same.new hpr _ _ upd_same, T.c_Network4, T.n_Network4_rank, Nat.lt_of_le_of_lt (few (few (few (few (few (few (Nat.le_refl 0))))))) (by decide), ?_⟩
  have h6 : H6 pr = none := by rw [upd_ne prx] at hpr; exact hpr
  have C8 : ∀ {o1 o2 o3 : HO}, But x H6 (upd (upd (upd H6 x o1) pr o2) x o3) := (But.upd (x := x)).trans ((But.of (Same.new (by rw [upd_ne prx]; exact h6))).trans But.upd)
  have C5 : ∀ {o1 o2 o3 : HO}, But x H4 (upd (upd (upd H6 x o1) pr o2) x o3) := (But.of e5).trans ((But.upd (x := x)).trans ((But.of e6).trans C8))
  have C3 : ∀ {o1 o2 o3 : HO}, But x H3 (upd (upd (upd H6 x o1) pr o2) x o3) := B4.trans C5
  have C2 : ∀ {o1 o2 o3 : HO}, But x H2 (upd (upd (upd H6 x o1) pr o2) x o3) := (But.upd (x := x)).trans ((But.of e3).trans C3)
  exact q _ ((But.of (x := x) (Same.trans e1 e2)).trans C2) ⟨dx, pf, pl, pm, ph, pr, upd_same, a2.but C2 pfx, a3.but C3 plx, by rw [upd_ne prx]; exact upd_same⟩
theorem binds_Network6_init (T : Cxt K mg) : ∃ fd, FunD K d_Network6_init.name d_Network6_init.qual d_Network6_init.params d_Network6_init.body d_Network6_init.scope (d_Network6_init.dvs K) (d_Network6_init.kws K) (fAd K d_Network6_init.at_) fd ∧
    ∃ ds, Vals [.bl true] ds ∧ Binds K fd ["self", "value", "prefix", "strict"] ds := by
  obtain ⟨fd, F⟩ := T.F_Network6_init
  refine ⟨fd, F, FunD.binds F 3 1 (by intro z; cases z) rfl (fun TT D doc pm an cdv ct us its ks h1 h2 h3 => ?_) (by intro z; cases z)⟩
  match us, its, ks, h1, h2, h3 with
  | [a, b, c], [d], [e], _, _, _ => exact ⟨_, rfl, _, _, _, _, _, _, rfl, rfl, rfl⟩
abbrev N_Network6_init : List Str := ["self", "value", "prefix", "strict", "number", "length", "low"]
theorem sc_Network6_init : FnScope N_Network6_init ["self", "value", "prefix", "strict"] (defScope s_Network6_init) := ⟨rfl, rfl, rfl, by decide +kernel, rfl, by decide +kernel, by decide +kernel⟩
theorem k_Network6 (T : Cxt K mg) : Mak P w K mg base 6 "Network6" (ga K "Network6") (Spn 4 (sp_net K (true))) [.bl true] := by
  obtain ⟨fd, F, ds, hv, hb⟩ := binds_Network6_init T
  refine makD F T.mk_Network6 T.g_Network6 sc_Network6_init rfl hb hv (fun cdv A outer s H vs Q E hr h => ?_)
  have nd := sc_Network6_init.nd
  have hu := hu_of hr
  obtain ⟨x, dx, n, k, rfl, hx, ok, q⟩ := h
  have kk : k ≤ Wd (true) := ok.le
  have pk := AN.P_pos k
  have fit := ok.fit
  have nn := ok.nn
  have lo : AN.lowE n k = n := AN.lowE_self ok.al
  refine ⟨_, (pss_cons (ps_asg (pe_f (c_parts6 T) hr (by decide) rfl (pa_cons (pv 1) (pa_cons (pv 2) pa_nil))) (pg_tup rfl (pgs_cons (pg_name (i := 4) nd rfl (Or.inl rfl)) (pgs_cons (pg_name (i := 5) nd rfl (Or.inl rfl)) pgs_nil)))) (pss_cons (ps_expr (pe_f (c_look_strict T) hr (by decide) rfl (pa_cons (pv 3) pa_nil))) (pss_cons (ps_set (i := 6) nd rfl (Or.inl rfl) (pe_f (c_low_end T) hr (by decide) rfl (pa_cons (pv 4) (pa_cons (pv 5) (pa_cons (pe_gv rfl (gint T.i_WIDTH6)) pa_nil))))) (pss_cons (ps_if (PW.pt (pw_and (pt_val (pv 3)) (pw_and1 (pt_cmpR op_ne (pv 6) (pv 4) (nomark _))))) (pss_one ps_never) pss_nil) (pss_cons (ps_fld (pv 0) (pe_k (k_Address6 T) hr (by decide) rfl (pa_cons (pv 6) pa_nil)) rfl) (pss_cons (ps_fld (pv 0) (pe_k (k_Address6 T) hr (by decide) rfl (pa_cons (pe_f (c_high_end T) hr (by decide) rfl (pa_cons (pv 4) (pa_cons (pv 5) (pa_cons (pe_gv rfl (gint T.i_WIDTH6)) pa_nil)))) pa_nil)) rfl) (pss_cons (ps_fld (pv 0) (pv 5) rfl) (pss_cons (ps_fld (pv 0) (pe_op op_shlW pe_int (pe_op op_sub (pe_gv rfl (gint T.i_WIDTH6)) (pv 5))) rfl) (pss_cons (ps_fld (pv 0) (pe_k (k_Address6 T) hr (by decide) rfl (pa_cons (pe_f (c_mask_number T) hr (by decide) rfl (pa_cons (pv 5) (pa_cons (pe_gv rfl (gint T.i_WIDTH6)) pa_nil))) pa_nil)) rfl) (pss_cons (ps_fld (pv 0) (pe_k (k_Address6 T) hr (by decide) rfl (pa_cons (pe_op op_sub (pe_fld (pv 0) rfl) pe_int) pa_nil)) rfl) (pss_one (ps_fld (pv 0) (pe_tup (pa_cons (pv 6) (pa_cons (pv 5) pa_nil))) rfl)))))))))))), ?_⟩
  -- the number and the length
  refine ⟨_, rfl, _, rfl, rfl, n, _, rfl, ok.nn, ok.lt, by omega, by omega, fun t1 H1 f1 e1 ht1 => ?_⟩
  refine ⟨t1, _, rfl, SqT.of ht1, rfl, _, _, rfl, _, _, rfl, rfl, ?_⟩
  refine ⟨_, rfl, rfl, true, rfl, ?_⟩
  refine ⟨_, rfl, _, rfl, rfl, n, Wd (true), k, rfl, kk, by decide, ok.nn, lt129 ok.lt, ?_⟩
  rw [lo]
  refine ⟨_, rfl, true, rfl, iteT ⟨_, rfl, _, rfl, rfl, _, rfl, iteNS rfl ?_⟩⟩
  -- first
  refine ⟨_, rfl, fun pf df nf ndf nef => ⟨rfl, pf, df, n, rfl, upd_same, ok.nn, ok.lt, fun H2 b2 a2 => ⟨rfl, ?_⟩⟩⟩
  have e2 : Same H1 H2 := But.made nf ndf b2
  have x1 := e1 _ _ hx
  have pfx : pf ≠ x := (ne_of_none x1 nf).symm
  refine ⟨_, rfl, x, _, dx, _, rfl, e2 _ _ x1, T.c_Network6, T.n_Network6_first, (by decide), ?_⟩
  have B2 : But x H2 (upd H2 x (.ins (ga K "Network6") dx (putF "first" (.ref pf) []))) := But.upd
  -- last
  refine ⟨_, rfl, _, rfl, rfl, n, Wd (true), k, rfl, kk, by decide, ok.nn, lt129 ok.lt, fun pl dl nl ndl nel => ?_⟩
  rw [lo]
  refine ⟨rfl, pl, dl, n + AN.P k - 1, rfl, upd_same, by omega, by show _ < AN.P (Wd (true)); omega, fun H3 b3 a3 => ⟨rfl, ?_⟩⟩
  have e3 := But.made nl ndl b3
  have plx : pl ≠ x := (ne_of_none upd_same nl).symm
  refine ⟨_, rfl, x, _, dx, _, rfl, e3 _ _ upd_same, T.c_Network6, T.n_Network6_last, Nat.lt_of_le_of_lt (few (Nat.le_refl 0)) (by decide), ?_⟩
  have B3 := B2.trans ((But.of e3).trans (But.upd (x := x) (o := .ins (ga K "Network6") dx (putF "last" (.ref pl) (putF "first" (.ref pf) [])))))
  -- prefix
  refine ⟨_, rfl, _, rfl, x, _, dx, _, rfl, upd_same, T.c_Network6, T.n_Network6_prefix, Nat.lt_of_le_of_lt (few (few (Nat.le_refl 0))) (by decide), ?_⟩
  -- size
  have eW : (128:Int) - ((Wd (true) : Int) - (k : Int)) = (k : Int) := by show (128:Int) - ((128:Int) - (k : Int)) = (k : Int); omega
  have b1 : CShl (1 : Int) ((128:Int) - ((Wd (true) : Int) - (k : Int))) := by
    rw [eW]
    exact shl_ok (n := 1) (by decide) (by have : Wd (true) ≤ 128 := Wd_le _; omega)
  refine ⟨_, rfl, _, _, rfl, rfl, _, _, rfl, rfl, b1, _, rfl, x, _, dx, _, rfl, upd_same, T.c_Network6, T.n_Network6_size, Nat.lt_of_le_of_lt (few (few (few (Nat.le_refl 0)))) (by decide), ?_⟩
  dsimp only
  rw [eW, pow_cast, Int.one_mul, upd_upd, upd_upd]
  generalize hH4 : upd H3 x _ = H4
  have x4 : H4 x = some (.ins (ga K "Network6") dx (putF "size" (.int (AN.P k)) (putF "prefix" (.int ((Wd (true) : Int) - (k : Int))) (putF "last" (.ref pl) (putF "first" (.ref pf) []))))) := by rw [← hH4]; exact upd_same
  have B4 : But x H3 H4 := by rw [← hH4]; exact But.upd
  -- mask
  refine ⟨_, rfl, rfl, Wd (true), k, rfl, kk, by decide, fun pm dm nm ndm nem => ⟨rfl, pm, dm, _, rfl, upd_same, by have := AN.P_le kk; omega, by show _ < AN.P (Wd (true)); omega, fun H5 b5 a5 => ⟨rfl, ?_⟩⟩⟩
  have e5 := But.made nm ndm b5
  refine ⟨_, rfl, x, _, dx, _, rfl, e5 _ _ x4, T.c_Network6, T.n_Network6_mask, Nat.lt_of_le_of_lt (few (few (few (few (Nat.le_refl 0))))) (by decide), ?_⟩
  -- hostmask
  refine ⟨_, rfl, x, _, dx, _, _, rfl, upd_same, T.c_Network6, T.n_Network6_size, (by kernel_rfl : _ = some (V.int (AN.P k))), _, _, rfl, rfl, fun ph dh nh ndh neh => ⟨rfl, ph, dh, _, rfl, upd_same, by omega, by show _ < AN.P (Wd (true)); have := AN.P_le kk; omega, fun H6 b6 a6 => ⟨rfl, ?_⟩⟩⟩
  have e6 := But.made nh ndh b6
  refine ⟨_, rfl, x, _, dx, _, rfl, e6 _ _ upd_same, T.c_Network6, T.n_Network6_hostmask, Nat.lt_of_le_of_lt (few (few (few (few (few (Nat.le_refl 0)))))) (by decide), ?_⟩
  -- rank
  refine ⟨_, rfl, _, rfl, (by show 2 ≤ sizeLine; decide), fun pr hpr => ?_⟩
  have prx : pr ≠ x := (ne_of_none upd_same hpr).symm
  refine ⟨_, rfl, x, _, dx, _, rfl, Same.new hpr _ _ upd_same, T.c_Network6, T.n_Network6_rank, Nat.lt_of_le_of_lt (few (few (few (few (few (few (Nat.le_refl 0))))))) (by decide), ?_⟩
  have h6 : H6 pr = none := by rw [upd_ne prx] at hpr; exact hpr
  have C8 : ∀ {o1 o2 o3 : HO}, But x H6 (upd (upd (upd H6 x o1) pr o2) x o3) := (But.upd (x := x)).trans ((But.of (Same.new (by rw [upd_ne prx]; exact h6))).trans But.upd)
  have C5 : ∀ {o1 o2 o3 : HO}, But x H4 (upd (upd (upd H6 x o1) pr o2) x o3) := (But.of e5).trans ((But.upd (x := x)).trans ((But.of e6).trans C8))
  have C3 : ∀ {o1 o2 o3 : HO}, But x H3 (upd (upd (upd H6 x o1) pr o2) x o3) := B4.trans C5
  have C2 : ∀ {o1 o2 o3 : HO}, But x H2 (upd (upd (upd H6 x o1) pr o2) x o3) := (But.upd (x := x)).trans ((But.of e3).trans C3)
  exact q _ ((But.of (x := x) (Same.trans e1 e2)).trans C2) ⟨dx, pf, pl, pm, ph, pr, upd_same, a2.but C2 pfx, a3.but C3 plx, by rw [upd_ne prx]; exact upd_same⟩
end
end AH
/-! Rx -/
set_option Elab.async false
set_option linter.all false
set_option maxRecDepth 100000
set_option maxHeartbeats 4000000
/-! our own rules over the hand layer -/
namespace L2
open PySem PySem.Spec PyProof.Rows
section
variable {X : Cx}
/-- xs != [] -/
def rNeNil (K : PySem.W.Frag) : R2 := fun x y H Q => ∃ a b xs, x = .ref a ∧ y = .ref b ∧ SqL K H a xs ∧ SqL K H b [] ∧ Q (.bl (!xs.isEmpty)) H
theorem op_neNil (hu : X.A.units < cLine) : OpR X (compareOp .NotEq) (rNeNil X.K) := by
  intro pins s σ H x y v u Q I rx ry h
  obtain ⟨a, b, xs, rfl, rfl, ha, hb, q⟩ := h
  cases rx
  cases ry
  obtain ⟨its, r, pl, _⟩ := I.list ha
  obtain ⟨its2, r2, pl2, _⟩ := I.list hb
  cases r2
  show wpAny (model X.prog X.w) X.A (richCompare .NotEq (.ref a) (.ref b)) (EP X pins σ Q) X.xe s
  cases r with
  | nil =>
    refine SeqAt.RcNeAt.lists (e := fun _ => true) pl.isList pl2.isList rfl hu (fun j h1 _ => absurd h1 (Nat.not_lt_zero _)) X.prog X.w X.xe _ (fin_bl I q rfl)
  | cons r1 r2 =>
    refine SeqAt.RcNeAt.lists_lengths pl.isList pl2.isList (by simp) hu X.prog X.w X.xe _ (fin_bl I q rfl)
end
end L2
/-! Ma8 -/
set_option Elab.async false
set_option linter.all false
/-! the highest bit in which two numbers differ; how many pieces -/
namespace AN
theorem pc_le : ∀ (k : Nat) {n : Nat}, n < 2 ^ k → pc n ≤ k
  | 0, n, h => by
    have : n = 0 := by simpa using h
    subst this
    exact Nat.le_refl 0
  | k + 1, n, h => by
    rw [pc_step]
    have h2 : n / 2 < 2 ^ k := by rw [Nat.pow_succ] at h; omega
    have := pc_le k h2
    omega
theorem xor_zero {a b : Nat} (h : a ^^^ b = 0) : a = b := by
  have : a ^^^ (a ^^^ b) = a := by rw [h, Nat.xor_zero]
  rw [← Nat.xor_assoc, Nat.xor_self, Nat.zero_xor] at this
  exact this.symm
theorem xor_ne {lo U : Nat} (h : lo < U) : lo ^^^ U ≠ 0 := fun e => by have := xor_zero e; omega
/-- the bit -/
theorem top_bit {lo U : Nat} (h : lo < U) : lo / 2 ^ ((lo ^^^ U).log2 + 1) = U / 2 ^ ((lo ^^^ U).log2 + 1) ∧ lo / 2 ^ (lo ^^^ U).log2 ≠ U / 2 ^ (lo ^^^ U).log2 := by
  have ne := xor_ne h
  have h1 := Nat.lt_log2_self (n := lo ^^^ U)
  have h2 := Nat.log2_self_le ne
  refine ⟨xor_zero ?_, fun e => ?_⟩
  · rw [← Nat.xor_div_two_pow]
    exact Nat.div_eq_of_lt h1
  · have z : (lo ^^^ U) / 2 ^ (lo ^^^ U).log2 = 0 := by rw [Nat.xor_div_two_pow, e, Nat.xor_self]
    have := (Nat.div_eq_zero_iff.mp z)
    have p := two_pos (lo ^^^ U).log2
    omega
theorem top_le {W lo U : Nat} (h : lo < U) (hU : U ≤ 2 ^ W) : (lo ^^^ U).log2 ≤ W := by
  have h3 : lo < 2 ^ (W + 1) := by rw [Nat.pow_succ]; have := two_pos W; omega
  have h4 : U < 2 ^ (W + 1) := by rw [Nat.pow_succ]; have := two_pos W; omega
  have : lo ^^^ U < 2 ^ (W + 1) := Nat.xor_lt_two_pow h3 h4
  have := (Nat.log2_lt (xor_ne h)).mpr this
  omega
theorem pcs_nil {W : Nat} {lo hi : Int} (h : hi < lo) : pcs W lo hi = [] := pcs_eq (Pcs.nil h)
theorem pcs_le {W : Nat} {lo hi : Int} (h0 : 0 ≤ lo) (h1 : hi < P W) : (pcs W lo hi).length ≤ 2 * (W + 1) := by
  by_cases h : hi < lo
  · rw [pcs_nil h]; exact Nat.zero_le _
  · obtain ⟨a, rfl⟩ := Int.eq_ofNat_of_zero_le h0
    obtain ⟨b, rfl⟩ := Int.eq_ofNat_of_zero_le (show 0 ≤ hi by omega)
    have hl : a < b + 1 := by omega
    have hu : b + 1 ≤ 2 ^ W := by rw [P_nat] at h1; omega
    obtain ⟨t1, t2⟩ := top_bit hl
    obtain ⟨c1, c2, c3⟩ := pcs_count (top_le hl hu) t1 t2 hl
    have e : (((b + 1 : Nat) : Int) - 1) = (b : Int) := by omega
    rw [e] at c3
    have p2 := two_pos W
    have q1 : (b + 1) / 2 ^ (a ^^^ (b + 1)).log2 * 2 ^ (a ^^^ (b + 1)).log2 - a < 2 ^ (W + 1) := by rw [Nat.pow_succ]; omega
    have q2 : b + 1 - (b + 1) / 2 ^ (a ^^^ (b + 1)).log2 * 2 ^ (a ^^^ (b + 1)).log2 < 2 ^ (W + 1) := by rw [Nat.pow_succ]; omega
    have := pc_le _ q1
    have := pc_le _ q2
    omega
end AN
/-! W4 -/
set_option Elab.async false
set_option linter.all false
set_option maxRecDepth 100000
set_option maxHeartbeats 4000000
namespace AH
open PySem PySem.Spec PyProof.Rows L2 He
/-! ### what is never written -/
def Fix : HO → Prop
  | .tup _ => True
  | .ins _ _ _ => True
  | _ => False
def Fx (H H' : Hp) : Prop := ∀ b o, H b = some o → Fix o → H' b = some o
theorem Fx.refl {H : Hp} : Fx H H := fun _ _ h _ => h
theorem Fx.of {H H' : Hp} (h : Same H H') : Fx H H' := fun b o e _ => h b o e
theorem Fx.trans {H H1 H2 : Hp} (a : Fx H H1) (b : Fx H1 H2) : Fx H H2 := fun c o h f => b c o (a c o h f) f
theorem Fx.lst {H : Hp} {l : Addr} {xs : List V} {o : HO} (h : H l = some (.lst xs)) : Fx H (upd H l o) := fun b u e f => by
  rw [upd_ne (fun z => by subst z; rw [h] at e; cases e; exact f)]; exact e
theorem Fx.dT {H : Hp} {l : Addr} {xs : List (List Key × V)} {o : HO} (h : H l = some (.dT xs)) : Fx H (upd H l o) := fun b u e f => by
  rw [upd_ne (fun z => by subst z; rw [h] at e; cases e; exact f)]; exact e
theorem AdrAt.fx {K : PySem.W.Frag} {v : Bool} {H H' : Hp} {p : Addr} {n : Int} (e : Fx H H') (h : AdrAt K v H p n) : AdrAt K v H' p n := let ⟨dx, h⟩ := h; ⟨dx, e _ _ h trivial⟩
theorem NetAt.fx {K : PySem.W.Frag} {v : Bool} {H H' : Hp} {p : Addr} {n : Int} {k : Nat} (e : Fx H H') (h : NetAt K v H p n k) : NetAt K v H' p n k :=
  let ⟨dx, pf, pl, pm, ph, pr, h⟩ := h; ⟨dx, pf, pl, pm, ph, pr, e _ _ h.ob trivial, h.first.fx e, h.last.fx e, e _ _ h.rank trivial⟩
/-- a relation of values to what they stand for, kept while only lists and dicts change -/
abbrev RVT (α : Type) := Hp → V → α → Prop
def Kp {α : Type} (R : RVT α) : Prop := ∀ H H' v x, Fx H H' → R H v x → R H' v x
theorem Paired.kp {α : Type} {R : RVT α} (k : Kp R) {H H' : Hp} (e : Fx H H') {vs : List V} {xs : List α} (h : Paired (R H) vs xs) : Paired (R H') vs xs := Paired.mapP h fun a b r => k _ _ _ _ e r
theorem Paired.len {α β : Type} {F : α → β → Prop} : ∀ {l : List α} {m : List β}, Paired F l m → l.length = m.length
  | _, _, .nil => rfl
  | _, _, .cons _ t => congrArg (· + 1) (Paired.len t)
theorem Paired.app {α β : Type} {F : α → β → Prop} : ∀ {l l' : List α} {m m' : List β}, Paired F l m → Paired F l' m' → Paired F (l ++ l') (m ++ m')
  | _, _, _, _, .nil, h => h
  | _, _, _, _, .cons r t, h => .cons r (Paired.app t h)
theorem Paired.at {α β : Type} {F : α → β → Prop} : ∀ {l : List α} {m : List β} {i : Nat} {a : α}, Paired F l m → l[i]? = some a → ∃ b, m[i]? = some b ∧ F a b
  | _, _, 0, _, .cons r _, e => ⟨_, rfl, by cases e; exact r⟩
  | _, _, i + 1, _, .cons _ t, e => Paired.at (i := i) t e
  | _, _, i, _, .nil, e => nomatch e
theorem Paired.at' {α β : Type} {F : α → β → Prop} : ∀ {l : List α} {m : List β} {i : Nat} {b : β}, Paired F l m → m[i]? = some b → ∃ a, l[i]? = some a ∧ F a b
  | _, _, 0, _, .cons r _, e => ⟨_, rfl, by cases e; exact r⟩
  | _, _, i + 1, _, .cons _ t, e => Paired.at' (i := i) t e
  | _, _, i, _, .nil, e => nomatch e
theorem Paired.take {α β : Type} {F : α → β → Prop} : ∀ {l : List α} {m : List β} (n : Nat), Paired F l m → Paired F (l.take n) (m.take n)
  | _, _, 0, _ => .nil
  | _, _, _ + 1, .nil => .nil
  | _, _, n + 1, .cons r t => .cons r (Paired.take n t)
theorem Paired.drop {α β : Type} {F : α → β → Prop} : ∀ {l : List α} {m : List β} (n : Nat), Paired F l m → Paired F (l.drop n) (m.drop n)
  | _, _, 0, h => h
  | _, _, _ + 1, .nil => .nil
  | _, _, n + 1, .cons r t => Paired.drop n t
/-- a list of such -/
def LA {α : Type} (R : RVT α) (H : Hp) (l : Addr) (xs : List α) : Prop := ∃ vs, H l = some (.lst vs) ∧ Paired (R H) vs xs
theorem LA.mono {α : Type} {R : RVT α} (k : Kp R) {H H' : Hp} {l : Addr} {xs : List α} (e : Same H H') (h : LA R H l xs) : LA R H' l xs :=
  let ⟨vs, h1, h2⟩ := h; ⟨vs, e _ _ h1, Paired.kp k (.of e) h2⟩
theorem LA.new {α : Type} {R : RVT α} (k : Kp R) {H : Hp} {l : Addr} {vs : List V} {xs : List α} (n : H l = none) (h : Paired (R H) vs xs) : LA R (upd H l (.lst vs)) l xs := ⟨vs, upd_same, Paired.kp k (.of (Same.new n)) h⟩
theorem LA.put {α : Type} {R : RVT α} (k : Kp R) {H : Hp} {l : Addr} {vs us : List V} {xs : List α} (n : H l = some (.lst us)) (h : Paired (R H) vs xs) : LA R (upd H l (.lst vs)) l xs := ⟨vs, upd_same, Paired.kp k (Fx.lst n) h⟩
/-- a tuple of values -/
def TupR {α : Type} (f : α → List V) : RVT α := fun H v x => ∃ t, v = .ref t ∧ H t = some (.tup (f x))
theorem TupR.kp {α : Type} {f : α → List V} : Kp (TupR f) := fun H H' v x e h => let ⟨t, a, b⟩ := h; ⟨t, a, e _ _ b trivial⟩
/-- (number, prefix), the block by its bits -/
abbrev PkR (W : Nat) : RVT (Int × Nat) := TupR fun b => [.int b.1, .int ((W : Int) - (b.2 : Int))]
/-- (low, high) -/
abbrev RgR : RVT (Int × Int) := TupR fun r => [.int r.1, .int r.2]
/-- a word or None -/
def oV : Option Str → V
  | none => .non
  | some w => .str w
/-- (low, high, word) -/
abbrev RowR : RVT (AN.Row Str) := TupR fun r => [.int r.1, .int r.2.1, oV r.2.2]
/-- a network -/
def NetR (K : PySem.W.Frag) (v : Bool) : RVT (Int × Nat) := fun H x b => ∃ p, x = .ref p ∧ NetAt K v H p b.1 b.2
theorem NetR.kp {K : PySem.W.Frag} {v : Bool} : Kp (NetR K v) := fun H H' x b e h => let ⟨p, a, c⟩ := h; ⟨p, a, c.fx e⟩
/-- a step of a loop that fills the list at l -/
theorem Same.put {H0 H : Hp} {l : Addr} {o : HO} (n : H0 l = none) (e : Same H0 H) : Same H0 (upd H l o) := fun b u h => by rw [upd_ne (ne_of_none h n)]; exact e b u h

/-! ### pieces -/
theorem two_pow_nat (k : Nat) : ((2 ^ k : Nat) : Int) = AN.P k := rfl
theorem bits_log {d : Int} (h : 0 < d) : ∃ m : Nat, (Builtin.Int.intBits d : Int) - 1 = (m : Int) ∧ AN.P m ≤ d ∧ d < AN.P (m + 1) := by
  obtain ⟨n, rfl⟩ := Int.eq_ofNat_of_zero_le (Int.le_of_lt h)
  have hn : n ≠ 0 := by omega
  refine ⟨n.log2, ?_, ?_, ?_⟩
  · show (((if ((n : Int) == 0) = true then 0 else (n : Int).natAbs.log2 + 1 : Nat)) : Int) - 1 = _
    rw [if_neg (by simpa using hn)]
    show ((n.log2 + 1 : Nat) : Int) - 1 = _
    omega
  · have := Nat.log2_self_le hn
    rw [← two_pow_nat]
    omega
  · have := Nat.lt_log2_self (n := n)
    rw [← two_pow_nat]
    omega
theorem greedy_of {W t m : Nat} {low high : Int} (h1 : t ≤ W) (h2 : AN.P t ∣ low) (h3 : t = W ∨ ¬ AN.P (t + 1) ∣ low) (h4 : AN.P m ≤ high - low + 1) (h5 : high - low + 1 < AN.P (m + 1)) : AN.Greedy W low high (min t m) := by
  refine ⟨by omega, Int.dvd_trans (AN.P_dvd (Nat.min_le_left _ _)) h2, ?_, fun j hj hW hd hf => ?_⟩
  · have := AN.P_le (Nat.min_le_right t m)
    omega
  · have hjt : j ≤ t := by
      rcases Nat.lt_or_ge t j with c | c
      · rcases h3 with e | ne
        · omega
        · exact (ne (Int.dvd_trans (AN.P_dvd c) hd)).elim
      · exact c
    have hm : m + 1 ≤ j := by omega
    have := AN.P_le hm
    omega
section
variable {P : Program} {w : World} {K : PySem.W.Frag} {mg : Str → Option Value} {base : Heap}
def sp_range_pieces : Sp := fun vs H Q _ => ∃ (W : Nat) (lo hi : Int), vs = [.int lo, .int hi, .int (W : Int)] ∧ W ≤ 128 ∧ 0 ≤ lo ∧ hi < AN.P W ∧ ∀ l H', H l = none → Same H H' → LA (PkR W) H' l (AN.pcs W lo hi) → Q (.ref l) H'
abbrev N_range_pieces : List Str := ["low", "high", "width", "found", "bits"]
theorem sc_range_pieces : FnScope N_range_pieces ["low", "high", "width"] (defScope s_range_pieces) := ⟨rfl, rfl, rfl, by decide +kernel, rfl, by decide +kernel, by decide +kernel⟩
theorem c_range_pieces (T : Cxt K mg) : Cal P w K mg base 2 "range_pieces" (Spn 3 sp_range_pieces) [] := by
  obtain ⟨fd, F⟩ := T.F_range_pieces
  refine calN F T.g_range_pieces sc_range_pieces rfl (fun _ _ _ _ _ _ us hl => match us, hl with | [_, _, _], _ => rfl) (fun cdv A outer s H vs Q E hr h => ?_)
  have nd := sc_range_pieces.nd
  have hu := hu_of hr
  obtain ⟨W, lo, hi, rfl, hW, h0, h1, q⟩ := h
  have hlen := AN.pcs_le (W := W) h0 h1
  refine ⟨_, (pss_cons (ps_set (i := 3) nd rfl (Or.inl rfl) (pe_lst pa_nil)) (pss_cons (ps_while PassesOwn.never (pt_cmpR op_le (pv 0) (pv 1) (nomark _)) (pss_cons (ps_set (i := 4) nd rfl (Or.inl rfl) (pe_callB (call_min2 rfl) (by rfl) T.z_min (by decide +kernel) (pa_cons (pe_f (c_low_zeros T) hr (by decide) rfl (pa_cons (pv 0) (pa_cons (pv 2) pa_nil))) (pa_cons (pe_op op_sub (pe_bits (pe_op op_add (pe_op op_sub (pv 1) (pv 0)) pe_int)) pe_int) pa_nil)))) (pss_cons (ps_expr (pe_bm PySem.F.plainAttrs_list PySem.F.slot_list_append PySem.F.type_list_append mt_append (pv 3) (pa_cons (pe_tup (pa_cons (pv 0) (pa_cons (pe_op op_sub (pv 2) (pv 4)) pa_nil))) pa_nil))) (pss_one (ps_set (i := 0) nd rfl (Or.inl rfl) (pe_op op_add (pv 0) (pe_op op_shlW pe_int (pv 4)))))))) (pss_one (ps_ret (pv 3))))), ?_⟩
  refine ⟨by decide, fun l hl => ?_⟩
  refine while_by (fun σ' H' => ∃ (lw : Int) (done : List (Int × Nat)) (b : Option V), σ' = [some (.int lw), some (.int hi), some (.int (W : Int)), some (.ref l), b] ∧ 0 ≤ lw ∧ Same H H' ∧ LA (PkR W) H' l done ∧ AN.pcs W lo hi = done ++ AN.pcs W lw hi)
    (fun σ' _ => match σ' with | some (.int lw) :: _ => (hi + 1 - lw).toNat | _ => 0) ⟨lo, [], none, rfl, h0, Same.new hl, LA.new TupR.kp hl .nil, rfl⟩ ?_ ?_
  · rintro σ' H1 ⟨lw, done, b, rfl, hlw, s1, la, epc⟩
    refine ⟨_, rfl, _, rfl, _, _, rfl, rfl, _, rfl, ?_⟩
    refine ite2 (fun c => ?_) (fun c => ?_)
    · have c : lw ≤ hi := of_decide_eq_true c
      obtain ⟨m, em, m1, m2⟩ := bits_log (d := hi - lw + 1) (by omega)
      refine ⟨_, rfl, _, rfl, rfl, lw, W, rfl, hlw, fun t ht hd hx => ?_⟩
      refine ⟨_, rfl, _, rfl, _, _, rfl, rfl, _, _, rfl, rfl, _, rfl, _, _, rfl, rfl, _, _, rfl, ?_⟩
      have g := greedy_of ht hd hx m1 m2
      have emin : (if (Builtin.Int.intBits (hi - lw + 1) : Int) - 1 < (t : Int) then (Builtin.Int.intBits (hi - lw + 1) : Int) - 1 else (t : Int)) = ((min t m : Nat) : Int) := by rw [em]; split <;> omega
      rw [emin]
      generalize min t m = k at g
      obtain ⟨vs, hv, hp⟩ := la
      have epc2 : AN.pcs W lw hi = (lw, k) :: AN.pcs W (lw + AN.P k) hi := AN.pcs_eq (.cons c g (AN.pcs_ok _ _ _))
      have hdone : done.length < 300 := by
        have e := congrArg List.length epc
        rw [epc2, List.length_append, List.length_cons] at e
        omega
      refine ⟨_, rfl, .inl ⟨rfl, _, SqL.of hv⟩, ?_⟩
      refine ⟨_, rfl, _, rfl, _, rfl, _, _, rfl, rfl, (by show 2 ≤ sizeLine; decide), fun p hp0 => ?_⟩
      have hv2 := Same.new (o := .tup [.int lw, .int ((W : Int) - (k : Int))]) hp0 _ _ hv
      refine ⟨l, vs, _, rfl, rfl, hv2, by rw [Paired.len hp]; exact Nat.lt_trans hdone (by decide), ?_⟩
      have b2 : CShl (1 : Int) (k : Int) := shl_ok (n := 1) (by decide) (by have := g.le; omega)
      refine ⟨_, rfl, _, rfl, _, _, rfl, rfl, b2, _, _, rfl, rfl, ?_⟩
      have e2 : (1 : Int) * 2 ^ ((k : Int)).toNat = AN.P k := by rw [pow_cast, Int.one_mul]
      rw [e2]
      have pk := AN.P_pos k
      refine ⟨⟨lw + AN.P k, done ++ [(lw, k)], _, rfl, by omega, Same.put hl (s1.trans (Same.new hp0)), LA.put TupR.kp hv2 (Paired.app (Paired.kp TupR.kp (.of (Same.new hp0)) hp) (.cons ⟨p, rfl, upd_same⟩ .nil)), ?_⟩, ?_⟩
      · rw [epc, epc2, List.append_assoc]
        rfl
      · show (hi + 1 - (lw + AN.P k)).toNat < (hi + 1 - lw).toNat
        omega
    · have c : ¬ lw ≤ hi := of_decide_eq_false (Bool.eq_false_iff.mpr c)
      refine ⟨_, rfl, q l H1 hl s1 ?_⟩
      rw [epc, AN.pcs_nil (by omega), List.append_nil]
      exact la
  · rintro σ' H' Q Q' hq ⟨_, e1, _, e2, _, _, e3, e4, _, e5, h⟩
    exact ⟨_, e1, _, e2, _, _, e3, e4, _, e5, hq _ _ h⟩
end
end AH
/-! W5 -/
set_option Elab.async false
set_option linter.all false
set_option maxRecDepth 100000
set_option maxHeartbeats 4000000
namespace AH
open PySem PySem.Spec PyProof.Rows L2 He
/-! ### classes by their version -/
section
variable {K : PySem.W.Frag} {mg : Str → Option Value}
theorem c_aC (T : Cxt K mg) (v : Bool) : Cls K (aC K v) := match v with | false => T.c_Address4 | true => T.c_Address6
theorem c_nC (T : Cxt K mg) (v : Bool) : Cls K (nC K v) := match v with | false => T.c_Network4 | true => T.c_Network6
theorem w_aC (T : Cxt K mg) (v : Bool) : ∃ t, Con K (aC K v) "WIDTH" (.int (Wd v)) (.int (Wd v) t) := match v with | false => T.v_Address4_WIDTH | true => T.v_Address6_WIDTH
def Vn : Bool → Nat
  | false => 4
  | true => 6
theorem v_aC (T : Cxt K mg) (v : Bool) : ∃ t, Con K (aC K v) "VERSION" (.int (Vn v)) (.int (Vn v) t) := match v with | false => T.v_Address4_VERSION | true => T.v_Address6_VERSION
theorem v_nC (T : Cxt K mg) (v : Bool) : ∃ t, Con K (nC K v) "VERSION" (.int (Vn v)) (.int (Vn v) t) := match v with | false => T.v_Network4_VERSION | true => T.v_Network6_VERSION
theorem w_nC (T : Cxt K mg) (v : Bool) : ∃ t, Con K (nC K v) "WIDTH" (.int (Wd v)) (.int (Wd v) t) := match v with | false => T.v_Network4_WIDTH | true => T.v_Network6_WIDTH
theorem no_number (T : Cxt K mg) (v : Bool) : NoAttr K (aC K v) "number" := match v with | false => T.n_Address4_number | true => T.n_Address6_number
theorem no_first (T : Cxt K mg) (v : Bool) : NoAttr K (nC K v) "first" := match v with | false => T.n_Network4_first | true => T.n_Network6_first
theorem no_last (T : Cxt K mg) (v : Bool) : NoAttr K (nC K v) "last" := match v with | false => T.n_Network4_last | true => T.n_Network6_last
theorem no_prefix (T : Cxt K mg) (v : Bool) : NoAttr K (nC K v) "prefix" := match v with | false => T.n_Network4_prefix | true => T.n_Network6_prefix
theorem no_rank (T : Cxt K mg) (v : Bool) : NoAttr K (nC K v) "rank" := match v with | false => T.n_Network4_rank | true => T.n_Network6_rank
theorem o_aC (T : Cxt K mg) (v : Bool) : PySem.W.findIn K (.ref (aC K v)) "__class__" = some (some (.builtin "object.__class__")) := match v with | false => T.o_Address4 | true => T.o_Address6
theorem o_nC (T : Cxt K mg) (v : Bool) : PySem.W.findIn K (.ref (nC K v)) "__class__" = some (some (.builtin "object.__class__")) := match v with | false => T.o_Network4 | true => T.o_Network6
theorem r_aC (T : Cxt K mg) (v : Bool) : PySem.W.mroIn K (aC K v) (.type "object") = some true := match v with | false => T.r_Address4 | true => T.r_Address6
theorem r_nC (T : Cxt K mg) (v : Bool) : PySem.W.mroIn K (nC K v) (.type "object") = some true := match v with | false => T.r_Network4 | true => T.r_Network6
theorem st_n : PySem.W.specialIn K (.builtin "object.__class__") "__get__" = some (some (.builtin "getset_descriptor.__get__")) := by rfl
theorem st_t : PySem.W.takesIn K (.builtin "object.__class__") = some true := by rfl
theorem ty_ins {H : Hp} {p C dx : Addr} {fs : List (Str × V)} (h : H p = some (.ins C dx fs)) (c : Cls K C) (o : PySem.W.findIn K (.ref C) "__class__" = some (some (.builtin "object.__class__"))) (r : PySem.W.mroIn K C (.type "object") = some true) : TyX K H (.ref p) (.ref C) :=
  .base (.ins h c o st_n st_t r)
theorem ty_adr (T : Cxt K mg) {v : Bool} {H : Hp} {p : Addr} {n : Int} (h : AdrAt K v H p n) : TyX K H (.ref p) (.ref (aC K v)) := let ⟨_, h⟩ := h; ty_ins h (c_aC T v) (o_aC T v) (r_aC T v)
theorem ty_net (T : Cxt K mg) {v : Bool} {H : Hp} {p : Addr} {n : Int} {k : Nat} (h : NetAt K v H p n k) : TyX K H (.ref p) (.ref (nC K v)) := let ⟨_, _, _, _, _, _, h⟩ := h; ty_ins h.ob (c_nC T v) (o_nC T v) (r_nC T v)
theorem kit_a (T : Cxt K mg) (v : Bool) : PySem.W.kitAny K (.ref (aC K v)) [.ref (ga K "Address4"), .ref (ga K "Address6")] = some true := by
  cases v with
  | false => exact kitAny_cons T.k_Address4_Address4 (fun h => nomatch h) (fun _ => rfl)
  | true => exact kitAny_cons T.k_Address6_Address4 (fun _ => kitAny_cons T.k_Address6_Address6 (fun h => nomatch h) (fun _ => rfl)) (fun h => nomatch h)
theorem kit_n (T : Cxt K mg) (v : Bool) : PySem.W.kitAny K (.ref (nC K v)) [.ref (ga K "Network4"), .ref (ga K "Network6")] = some true := by
  cases v with
  | false => exact kitAny_cons T.k_Network4_Network4 (fun h => nomatch h) (fun _ => rfl)
  | true => exact kitAny_cons T.k_Network6_Network4 (fun _ => kitAny_cons T.k_Network6_Network6 (fun h => nomatch h) (fun _ => rfl)) (fun h => nomatch h)
theorem eq_W4 (v : Bool) : decide (V.int (Wd v : Int) = V.int 32) = !v := by cases v <;> rfl
end
/-- the pair that v stands for -/
noncomputable def keyOf (H : Hp) (v : V) : Int × Int := open Classical in if h : ∃ r : Int × Int, RgR H v r then Classical.choose h else (0, 0)
theorem RgR.uni {H : Hp} {v : V} {r q : Int × Int} (h : RgR H v r) (g : RgR H v q) : r = q := by
  obtain ⟨t, rfl, h⟩ := h
  obtain ⟨u, e, g⟩ := g
  cases e
  rw [h] at g
  obtain ⟨r1, r2⟩ := r
  obtain ⟨q1, q2⟩ := q
  cases g
  rfl
theorem keyOf_eq {H : Hp} {v : V} {r : Int × Int} (h : RgR H v r) : keyOf H v = r := by
  have e : ∃ r : Int × Int, RgR H v r := ⟨r, h⟩
  unfold keyOf
  rw [dif_pos e]
  exact RgR.uni (Classical.choose_spec e) h
section
variable {P : Program} {w : World} {K : PySem.W.Frag} {mg : Str → Option Value} {base : Heap}
def sp_pieces : Sp := fun vs H Q _ => ∃ (W : Nat) (l : Addr) (us : List V) (rs : List (Int × Int)), vs = [.ref l, .int (W : Int)] ∧ W ≤ 128 ∧ H l = some (.tup us) ∧ Paired (RgR H) us rs ∧ rs.length ≤ 4096 ∧ (∀ r ∈ rs, 0 ≤ r.1 ∧ r.2 < AN.P W) ∧
  ∀ l H', H l = none → Same H H' → LA (PkR W) H' l (rs.flatMap fun r => AN.pcs W r.1 r.2) → Q (.ref l) H'
theorem flat_len {W : Nat} (hW : W ≤ 128) : ∀ {rs : List (Int × Int)}, (∀ r ∈ rs, 0 ≤ r.1 ∧ r.2 < AN.P W) → (rs.flatMap fun r => AN.pcs W r.1 r.2).length ≤ 258 * rs.length
  | [], _ => Nat.zero_le _
  | r :: rs, h => by
    have h1 := AN.pcs_le (W := W) (h r (by simp)).1 (h r (by simp)).2
    have h2 := flat_len hW (rs := rs) fun q hq => h q (by simp [hq])
    rw [List.flatMap_cons, List.length_append, List.length_cons]
    omega
abbrev N_pieces : List Str := ["ranges", "width", "found", "low", "high"]
theorem sc_pieces : FnScope N_pieces ["ranges", "width"] (defScope s_pieces) := ⟨rfl, rfl, rfl, by decide +kernel, rfl, by decide +kernel, by decide +kernel⟩
theorem c_pieces (T : Cxt K mg) : Cal P w K mg base 4 "pieces" (Spn 2 sp_pieces) [] := by
  obtain ⟨fd, F⟩ := T.F_pieces
  refine calN F T.g_pieces sc_pieces rfl (fun _ _ _ _ _ _ us hl => match us, hl with | [_, _], _ => rfl) (fun cdv A outer s H vs Q E hr h => ?_)
  have nd := sc_pieces.nd
  have hu := hu_of hr
  obtain ⟨W, l, us, rs, rfl, hW, hl, hp, hlen, hrs, q⟩ := h
  refine ⟨_, (pss_cons (ps_set (i := 2) nd rfl (Or.inl rfl) (pe_lst pa_nil)) (pss_cons (ps_for PassesOwn.never rfl (pi_tup (pv 0)) (pg_tup rfl (pgs_cons (pg_name (i := 3) nd rfl (Or.inl rfl)) (pgs_cons (pg_name (i := 4) nd rfl (Or.inl rfl)) pgs_nil))) (pss_one (ps_expr (pe_bm PySem.F.plainAttrs_list PySem.F.slot_list_extend PySem.F.type_list_extend mt_extend (pv 2) (pa_cons (pe_f (c_range_pieces T) hr (by decide) rfl (pa_cons (pv 3) (pa_cons (pv 4) (pa_cons (pv 1) pa_nil)))) pa_nil))))) (pss_one (ps_ret (pv 2))))), ?_⟩
  refine ⟨by decide, fun f hf => ?_⟩
  refine ⟨_, rfl, l, rfl, ⟨us, SqT.of (Same.new hf _ _ hl)⟩, ?_⟩
  refine for_tup (fun i σ' H' => ∃ a b : Option V, σ' = [some (.ref l), some (.int (W : Int)), some (.ref f), a, b] ∧ Same H H' ∧ LA (PkR W) H' f ((rs.take i).flatMap fun r => AN.pcs W r.1 r.2))
    ⟨none, none, rfl, Same.new hf, LA.new TupR.kp hf .nil⟩ (fun i σ' H' _ ⟨_, _, _, s1, _⟩ => SqT.of (s1 _ _ hl)) ?_ ?_
  · rintro i x σ' H1 hx ⟨a, b, rfl, s1, vs, hv, hvp⟩
    obtain ⟨r, hr, t, rfl, ht⟩ := Paired.at hp hx
    have ht1 := s1 _ _ ht
    have hm : r ∈ rs := List.mem_of_getElem? hr
    refine ⟨t, _, rfl, SqT.of ht1, rfl, _, _, rfl, _, _, rfl, rfl, ?_⟩
    refine ⟨_, rfl, .inl ⟨rfl, _, SqL.of hv⟩, ?_⟩
    refine ⟨_, rfl, _, rfl, _, rfl, rfl, W, r.1, r.2, rfl, hW, (hrs r hm).1, (hrs r hm).2, fun p H2 np s2 la => ?_⟩
    obtain ⟨us2, hu2, hp2⟩ := la
    have ev : (rs.take (i + 1)).flatMap (fun r => AN.pcs W r.1 r.2) = (rs.take i).flatMap (fun r => AN.pcs W r.1 r.2) ++ AN.pcs W r.1 r.2 := by
      rw [List.take_add_one, hr, List.flatMap_append]
      simp
    have hb := flat_len hW (rs := rs.take (i + 1)) fun q hq => hrs q (List.mem_of_mem_take hq)
    have hb2 : (rs.take (i + 1)).length ≤ 4096 := Nat.le_trans (by rw [List.length_take]; omega) hlen
    have fp : f ≠ p := ne_of_none hv np
    refine ⟨f, p, vs, us2, rfl, rfl, s2 _ _ hv, hu2, ?_, ?_⟩
    · rw [Paired.len hvp, Paired.len hp2, ← List.length_append, ← ev]
      exact Nat.le_trans hb (Nat.le_trans (Nat.mul_le_mul_left 258 hb2) (by decide))
    · refine ⟨_, _, rfl, Same.put hf (s1.trans s2), ?_⟩
      rw [ev]
      exact LA.put TupR.kp (s2 _ _ hv) (Paired.app (Paired.kp TupR.kp (.of s2) hvp) hp2)
  · rintro σ' H1 ⟨a, b, rfl, s1, la⟩
    refine ⟨_, rfl, q f H1 hf s1 ?_⟩
    rw [Paired.len hp, List.take_length] at la
    exact la
end
end AH
/-! W6 -/
set_option Elab.async false
set_option linter.all false
set_option maxRecDepth 100000
set_option maxHeartbeats 4000000
namespace AH
open PySem PySem.Spec PyProof.Rows L2 He
theorem pairs_keys {H : Hp} : ∀ {us : List V} {rs : List (Int × Int)}, Paired (RgR H) us rs → us.map (keyOf H) = rs
  | _, _, .nil => rfl
  | _, _, .cons r t => by rw [List.map_cons, keyOf_eq r, pairs_keys t]
theorem asc_srtd {H : Hp} {us : List V} {rs : List (Int × Int)} (h : Paired (RgR H) us rs) (a : AN.Asc0 rs) : SrtO.Srtd (ltP (keyOf H)) us := by
  have pw := a.pw
  have le := a.le
  rw [← pairs_keys h] at pw le
  rw [List.pairwise_map] at pw
  refine List.Pairwise.imp_of_mem (fun {x y} hx hy hlt => ?_) pw
  have h2 := le _ (List.mem_map_of_mem hx)
  have h3 := le _ (List.mem_map_of_mem hy)
  refine SrtO.lexB_no.mpr ?_
  omega
theorem jn_take {rs : List (Int × Int)} {i : Nat} {r : Int × Int} (h : rs[i]? = some r) : AN.jn (rs.take (i + 1)) = AN.jstep (AN.jn (rs.take i)) r := by
  rw [List.take_add_one, h]
  exact AN.jn_app _ _
theorem asc0_take {rs : List (Int × Int)} (a : AN.Asc0 rs) (i : Nat) : AN.Asc0 (rs.take i) := ⟨a.pw.sublist (List.take_sublist _ _), fun r hr => a.le r (List.mem_of_mem_take hr)⟩
theorem asc0_below {rs : List (Int × Int)} (a : AN.Asc0 rs) {i : Nat} {r : Int × Int} (h : rs[i]? = some r) : ∀ s ∈ rs.take i, s.2 < r.1 := by
  intro s hs
  obtain ⟨j, hj⟩ := List.getElem?_of_mem hs
  have hj2 : j < i := by
    rcases Nat.lt_or_ge j i with c | c
    · exact c
    · rw [List.getElem?_take_eq_none c] at hj; cases hj
  rw [List.getElem?_take_of_lt hj2] at hj
  obtain ⟨hj3, ej⟩ := List.getElem?_eq_some_iff.mp hj
  obtain ⟨hi3, ei⟩ := List.getElem?_eq_some_iff.mp h
  have := List.pairwise_iff_getElem.mp a.pw j i hj3 hi3 hj2
  rw [ej, ei] at this
  exact this
theorem atI_neg {α : Type} {xs : List α} {v : α} (h : xs.getLast? = some v) : atI xs (-1) = some v := by
  rcases List.eq_nil_or_concat xs with e | ⟨l, x, e⟩
  · subst e; cases h
  · rw [List.concat_eq_append] at e
    subst e
    rw [List.getLast?_concat] at h
    cases h
    exact atI_last l v
theorem ixN_last {n : Nat} (h : 0 < n) : ixN n (-1) = some (n - 1) := by
  unfold ixN
  rw [if_neg (by decide), if_pos (by omega)]
  congr 1
  omega
theorem Paired.set {α β : Type} {F : α → β → Prop} {a : α} {b : β} (r : F a b) : ∀ {l : List α} {m : List β} (i : Nat), Paired F l m → Paired F (l.set i a) (m.set i b)
  | _, _, _, .nil => .nil
  | _, _, 0, .cons _ t => .cons r t
  | _, _, i + 1, .cons q t => .cons q (Paired.set r i t)
theorem set_last {α : Type} (l : List α) (t r : α) : (l ++ [t]).set ((l ++ [t]).length - 1) r = l ++ [r] := by
  rw [List.length_append, List.length_singleton, Nat.add_sub_cancel, List.set_append_right _ _ (Nat.le_refl _), Nat.sub_self]
  rfl
section
variable {P : Program} {w : World} {K : PySem.W.Frag} {mg : Str → Option Value} {base : Heap}
def sp_merged : Sp := fun vs H Q _ => ∃ (l : Addr) (rs : List (Int × Int)), vs = [.ref l] ∧ LA RgR H l rs ∧ AN.Asc0 rs ∧ rs.length ≤ 4096 ∧ ∀ l H', H l = none → Same H H' → LA RgR H' l (AN.jn rs) → Q (.ref l) H'
abbrev N_merged : List Str := ["ranges", "found", "low", "high"]
theorem sc_merged : FnScope N_merged ["ranges"] (defScope s_merged) := ⟨rfl, rfl, rfl, by decide +kernel, rfl, by decide +kernel, by decide +kernel⟩
theorem c_merged (T : Cxt K mg) : Cal P w K mg base 2 "merged" (Spn 1 sp_merged) [] := by
  obtain ⟨fd, F⟩ := T.F_merged
  refine calN F T.g_merged sc_merged rfl (fun _ _ _ _ _ _ us hl => match us, hl with | [_], _ => rfl) (fun cdv A outer s H vs Q E hr h => ?_)
  have nd := sc_merged.nd
  have hu := hu_of hr
  obtain ⟨l, rs, rfl, ⟨us, hl, hp⟩, ha, hlen, q⟩ := h
  refine ⟨_, (pss_cons (ps_set (i := 1) nd rfl (Or.inl rfl) (pe_lst pa_nil)) (pss_cons (ps_for PassesOwn.never rfl (pi_list (pe_callB cr_sortedPO (by rfl) T.z_sorted (by decide +kernel) (pa_cons (pv 0) pa_nil))) (pg_tup rfl (pgs_cons (pg_name (i := 2) nd rfl (Or.inl rfl)) (pgs_cons (pg_name (i := 3) nd rfl (Or.inl rfl)) pgs_nil))) (pss_one (ps_if (PW.pt (pw_and (pt_cmpR (op_neNil (Nat.lt_of_succ_lt hu)) (pv 1) (pe_lst pa_nil) (nomark _)) (pw_and1 (pt_cmpR op_le (pv 2) (pe_op op_add (pe_ix ix_tup (pe_ix ix_list (pv 1) (pe_un un_neg pe_int) (fun _ _ => rfl)) pe_int (fun _ _ => rfl)) pe_int) (nomark _))))) (pss_one (ps_asg (pe_tup (pa_cons (pe_ix ix_tup (pe_ix ix_list (pv 1) (pe_un un_neg pe_int) (fun _ _ => rfl)) pe_int (fun _ _ => rfl)) (pa_cons (pe_callB (call_max2 rfl) (by rfl) T.z_max (by decide +kernel) (pa_cons (pe_ix ix_tup (pe_ix ix_list (pv 1) (pe_un un_neg pe_int) (fun _ _ => rfl)) pe_int (fun _ _ => rfl)) (pa_cons (pv 3) pa_nil))) pa_nil))) (pg_sub (pv 1) (pe_un un_neg pe_int) set_list))) (pss_one (ps_expr (pe_bm PySem.F.plainAttrs_list PySem.F.slot_list_append PySem.F.type_list_append mt_append (pv 1) (pa_cons (pe_tup (pa_cons (pv 2) (pa_cons (pv 3) pa_nil))) pa_nil))))))) (pss_one (ps_ret (pv 1))))), ?_⟩
  refine ⟨by decide, fun f hf => ?_⟩
  have hl1 := Same.new (o := .lst []) hf _ _ hl
  have hp1 : Paired (RgR (upd H f (.lst []))) us rs := Paired.kp TupR.kp (.of (Same.new hf)) hp
  refine ⟨_, rfl, l, us, keyOf (upd H f (.lst [])), rfl, SqL.of hl1, ?_, fun ys p hs hb np => ?_⟩
  · intro x hx
    obtain ⟨i, hi⟩ := List.getElem?_of_mem hx
    obtain ⟨r, _, hr⟩ := Paired.at hp1 hi
    rw [keyOf_eq hr]
    exact hr
  obtain rfl : ys = us := SrtO.stb_uniq (ltP_swo _) hs (asc_srtd hp1 ha) hb
  have fp : f ≠ p := ne_of_none upd_same np
  have s0 : Same H (upd (upd H f (.lst [])) p (.lst ys)) := (Same.new hf).trans (Same.new np)
  refine ⟨p, rfl, ⟨_, SqL.of upd_same⟩, ?_⟩
  refine for_list (fun i σ' H' => ∃ a b : Option V, σ' = [some (.ref l), some (.ref f), a, b] ∧ Same H H' ∧ H' p = some (.lst ys) ∧ LA RgR H' f (AN.jn (rs.take i)))
    ⟨none, none, rfl, s0, upd_same, [], by rw [upd_ne fp, upd_same], .nil⟩ (fun i σ' H' _ ⟨_, _, _, _, h, _⟩ => SqL.of h) ?_ ?_
  · rintro i x σ' H1 hx ⟨a, b, rfl, s1, hp2, vs, hv, hvp⟩
    obtain ⟨r, hr, t, rfl, ht⟩ := Paired.at hp hx
    have ht1 := s1 _ _ ht
    have hm : r ∈ rs := List.mem_of_getElem? hr
    have hle := ha.le r hm
    have ji := AN.jn_ji (asc0_take ha i)
    have bel := ji.below r.1 (asc0_below ha hr)
    have jl := AN.jn_len (rs.take i)
    have tl : (rs.take i).length ≤ 4096 := Nat.le_trans (by rw [List.length_take]; omega) hlen
    have ej := jn_take hr
    refine ⟨t, _, rfl, SqT.of ht1, rfl, _, _, rfl, _, _, rfl, rfl, ?_⟩
    refine ⟨_, rfl, (by decide), fun e0 he0 => ⟨f, e0, vs, rfl, rfl, SqL.of (Same.new he0 _ _ hv), SqL.of upd_same, _, rfl, ?_⟩⟩
    generalize hG : upd H1 e0 (.lst []) = G
    have sG : Same H1 G := by rw [← hG]; exact Same.new he0
    have hvG := sG _ _ hv
    have hpG := sG _ _ hp2
    have hvpG : Paired (RgR G) vs (AN.jn (rs.take i)) := Paired.kp TupR.kp (.of sG) hvp
    -- appending
    have add : (AN.jn (rs.take (i + 1)) = AN.jn (rs.take i) ++ [r]) → ∀ pt, G pt = none → ∃ l' xs' y', V.ref f = .ref l' ∧ [V.ref pt] = [y'] ∧ (upd G pt (.tup [.int r.1, .int r.2])) l' = some (.lst xs') ∧ xs'.length < sizeLine ∧
        ∃ a b : Option V, [some (V.ref l), some (V.ref f), some (V.int r.1), some (V.int r.2)] = [some (.ref l), some (.ref f), a, b] ∧ Same H (upd (upd G pt (.tup [.int r.1, .int r.2])) l' (.lst (xs' ++ [y']))) ∧ (upd (upd G pt (.tup [.int r.1, .int r.2])) l' (.lst (xs' ++ [y']))) p = some (.lst ys) ∧ LA RgR (upd (upd G pt (.tup [.int r.1, .int r.2])) l' (.lst (xs' ++ [y']))) f (AN.jn (rs.take (i + 1))) := by
      intro ej2 pt npt
      have s2 : Same G (upd G pt (.tup [.int r.1, .int r.2])) := Same.new npt
      refine ⟨f, vs, _, rfl, rfl, s2 _ _ hvG, ?_, _, _, rfl, Same.put hf (s1.trans (sG.trans s2)), ?_, ?_⟩
      · rw [Paired.len hvpG]
        exact Nat.lt_of_le_of_lt (Nat.le_trans jl tl) (by decide)
      · rw [upd_ne fp.symm]
        exact s2 _ _ hpG
      · rw [ej2]
        exact LA.put TupR.kp (s2 _ _ hvG) (Paired.app (Paired.kp TupR.kp (.of s2) hvpG) (.cons ⟨pt, rfl, upd_same⟩ .nil))
    rcases List.eq_nil_or_concat (AN.jn (rs.take i)) with en | ⟨jl0, jt, en⟩
    · rw [en] at hvpG ej
      cases hvpG
      refine iteF (iteF ?_)
      refine ⟨_, rfl, .inl ⟨rfl, _, SqL.of hvG⟩, ?_⟩
      refine ⟨_, rfl, _, rfl, (by show 2 ≤ sizeLine; decide), fun pt npt => ?_⟩
      exact add (by rw [ej, en]; rfl) pt npt
    · rw [List.concat_eq_append] at en
      have hne : vs ≠ [] := by
        intro z
        subst z
        have := Paired.len hvp
        rw [en] at this
        simp at this
      have eb : (!vs.isEmpty) = true := by
        cases vs with
        | nil => exact (hne rfl).elim
        | cons _ _ => rfl
      rw [eb]
      refine iteT ?_
      have hlast : (AN.jn (rs.take i)).getLast? = some jt := by rw [en, List.getLast?_concat]
      obtain ⟨vt, hvt, tt, rfl, htt⟩ : ∃ vt, vs.getLast? = some vt ∧ RgR G vt jt := by
        have e2 : (AN.jn (rs.take i))[(AN.jn (rs.take i)).length - 1]? = some jt := by rw [← List.getLast?_eq_getElem?]; exact hlast
        obtain ⟨vt, h1, h2⟩ := Paired.at' hvpG e2
        rw [← Paired.len hvpG, ← List.getLast?_eq_getElem?] at h1
        exact ⟨vt, h1, h2⟩
      have hjt : jt.2 < r.1 := bel jt (by rw [en]; simp)
      have L1 : atI vs (-1) = some (.ref tt) := atI_neg hvt
      have A1 : atI [V.int jt.1, V.int jt.2] 1 = some (.int jt.2) := rfl
      have A0 : atI [V.int jt.1, V.int jt.2] 0 = some (.int jt.1) := rfl
      refine ⟨_, rfl, _, rfl, _, rfl, f, vs, _, _, rfl, rfl, SqL.of hvG, L1, tt, _, _, _, rfl, rfl, SqT.of htt, A1, _, _, rfl, rfl, _, _, rfl, rfl, _, rfl, ?_⟩
      refine ite2 (fun c => ?_) (fun c => ?_)
      · have c : r.1 ≤ jt.2 + 1 := of_decide_eq_true c
        have e1 : jt.2 + 1 = r.1 := by omega
        refine ⟨_, rfl, _, rfl, f, vs, _, _, rfl, rfl, SqL.of hvG, L1, tt, _, _, _, rfl, rfl, SqT.of htt, A0, ?_⟩
        refine ⟨_, rfl, _, rfl, f, vs, _, _, rfl, rfl, SqL.of hvG, L1, tt, _, _, _, rfl, rfl, SqT.of htt, A1, _, rfl, _, _, rfl, (by show 2 ≤ sizeLine; decide), fun pt npt => ?_⟩
        have em : (if r.2 > jt.2 then r.2 else jt.2) = r.2 := if_pos (by omega)
        rw [em]
        have s2 : Same G (upd G pt (.tup [.int jt.1, .int r.2])) := Same.new npt
        have hl0 : 0 < vs.length := by
          cases vs with
          | nil => exact (hne rfl).elim
          | cons _ _ => exact Nat.zero_lt_succ _
        refine ⟨_, rfl, _, rfl, f, vs, _, _, rfl, rfl, s2 _ _ hvG, ixN_last hl0, _, _, rfl, Same.put hf (s1.trans (sG.trans s2)), ?_, ?_⟩
        · rw [upd_ne fp.symm]
          exact s2 _ _ hpG
        · have ej2 : AN.jn (rs.take (i + 1)) = (AN.jn (rs.take i)).set (vs.length - 1) (jt.1, r.2) := by
            rw [ej, en, AN.jstep_app, if_pos e1, Paired.len hvpG, en, set_last]
          rw [ej2]
          exact LA.put TupR.kp (s2 _ _ hvG) (Paired.set (F := RgR (upd G pt (.tup [.int jt.1, .int r.2]))) ⟨pt, rfl, upd_same⟩ _ (Paired.kp TupR.kp (.of s2) hvpG))
      · have c : ¬ r.1 ≤ jt.2 + 1 := of_decide_eq_false (Bool.eq_false_iff.mpr c)
        refine ⟨_, rfl, .inl ⟨rfl, _, SqL.of hvG⟩, ?_⟩
        refine ⟨_, rfl, _, rfl, (by show 2 ≤ sizeLine; decide), fun pt npt => ?_⟩
        exact add (by rw [ej, en, AN.jstep_app, if_neg (by omega)]) pt npt
  · rintro σ' H1 ⟨a, b, rfl, s1, _, la⟩
    refine ⟨_, rfl, q f H1 hf s1 ?_⟩
    rw [Paired.len hp, List.take_length] at la
    exact la
end
end AH
/-! W7 -/
set_option Elab.async false
set_option linter.all false
set_option maxRecDepth 100000
set_option maxHeartbeats 4000000
namespace AH
open PySem PySem.Spec PyProof.Rows L2 He
/-- no test in a comprehension -/
theorem lcY {σ : L2.St} {H : Hp} {A B : Hp → Prop} (h : A H) : tYes σ H (fun b H3 => if b = true then A H3 else B H3) := by
  show if true = true then A H else B H
  rw [if_pos rfl]
  exact h
section
variable {P : Program} {w : World} {K : PySem.W.Frag} {mg : Str → Option Value} {base : Heap}
def sp_network_of (K : PySem.W.Frag) : Sp := fun vs H Q _ => ∃ (v : Bool) (n : Int) (k : Nat), vs = [.int n, .int ((Wd v : Int) - (k : Int)), .int (Wd v : Int)] ∧ NOk v n k ∧ ∀ p H', H p = none → Same H H' → NetAt K v H' p n k → Q (.ref p) H'
abbrev N_network_of : List Str := ["number", "prefix", "width"]
theorem sc_network_of : FnScope N_network_of ["number", "prefix", "width"] (defScope s_network_of) := ⟨rfl, rfl, rfl, by decide +kernel, rfl, by decide +kernel, by decide +kernel⟩
theorem c_network_of (T : Cxt K mg) : Cal P w K mg base 8 "network_of" (Spn 3 (sp_network_of K)) [] := by
  obtain ⟨fd, F⟩ := T.F_network_of
  refine calN F T.g_network_of sc_network_of rfl (fun _ _ _ _ _ _ us hl => match us, hl with | [_, _, _], _ => rfl) (fun cdv A outer s H vs Q E hr h => ?_)
  have nd := sc_network_of.nd
  have hu := hu_of hr
  obtain ⟨v, n, k, rfl, ok, q⟩ := h
  refine ⟨_, (pss_one (ps_ret (pe_ifExp (pt_cmpR op_eq (pv 2) (pe_gv rfl (gint T.i_WIDTH4)) (nomark _)) (pe_k (k_Network4 T) hr (by decide) rfl (pa_cons (pv 0) (pa_cons (pv 1) pa_nil))) (pe_k (k_Network6 T) hr (by decide) rfl (pa_cons (pv 0) (pa_cons (pv 1) pa_nil)))))), ?_⟩
  refine ⟨_, rfl, by cases v <;> rfl, _, rfl, ?_⟩
  rw [eq_W4]
  cases v with
  | false => exact iteT ⟨_, rfl, _, rfl, fun p dp np ndp nep => ⟨rfl, p, dp, n, k, rfl, upd_same, ok, fun H' b' net => ⟨rfl, q p H' np (But.made np ndp b') net⟩⟩⟩
  | true => exact iteF ⟨_, rfl, _, rfl, fun p dp np ndp nep => ⟨rfl, p, dp, n, k, rfl, upd_same, ok, fun H' b' net => ⟨rfl, q p H' np (But.made np ndp b') net⟩⟩⟩
def sp_networks_of (K : PySem.W.Frag) : Sp := fun vs H Q _ => ∃ (v : Bool) (l : Addr) (bs : List (Int × Nat)), vs = [.ref l, .int (Wd v : Int)] ∧ LA (PkR (Wd v)) H l bs ∧ (∀ b ∈ bs, NOk v b.1 b.2) ∧ bs.length < 2000000 ∧ ∀ l H', H l = none → Same H H' → LA (NetR K v) H' l bs → Q (.ref l) H'
abbrev N_networks_of : List Str := ["rows", "width", "number", "prefix"]
theorem sc_networks_of : FnScope N_networks_of ["rows", "width"] (defScope s_networks_of) := ⟨rfl, rfl, rfl, by decide +kernel, rfl, by decide +kernel, by decide +kernel⟩
theorem c_networks_of (T : Cxt K mg) : Cal P w K mg base 9 "networks_of" (Spn 2 (sp_networks_of K)) [] := by
  obtain ⟨fd, F⟩ := T.F_networks_of
  refine calN F T.g_networks_of sc_networks_of rfl (fun _ _ _ _ _ _ us hl => match us, hl with | [_, _], _ => rfl) (fun cdv A outer s H vs Q E hr h => ?_)
  have nd := sc_networks_of.nd
  have hu := hu_of hr
  obtain ⟨v, l, bs, rfl, ⟨us, hl, hp⟩, hok, hlen, q⟩ := h
  refine ⟨_, (pss_one (ps_ret (pe_lc (own := [("number", 2), ("prefix", 3)]) (g := gTup K 2 (gCons (gName 2) (gCons (gName 3) gNil))) (tt := tYes) rfl nd (pi_list (pv 0)) (blkOk_by (own := [("number", 2), ("prefix", 3)]) (N := N_networks_of) (sc := defScope s_networks_of) (by decide +kernel)) (fun _ _ _ _ _ => (pg_tup rfl (pgs_cons (pg_name (i := 2) nd rfl (Or.inl rfl) (.inr rfl)) (pgs_cons (pg_name (i := 3) nd rfl (Or.inl rfl) (.inr rfl)) pgs_nil)))) (fun _ _ _ _ _ => pts_nil) (fun _ _ _ _ _ => (pe_f (c_network_of T) hr (by decide) rfl (pa_cons (pv 2) (pa_cons (pv 3) (pa_cons (pv 1) pa_nil)))))))), ?_⟩
  refine ⟨_, rfl, l, rfl, ⟨us, SqL.of hl⟩, fun D nD => ?_⟩
  have lD : l ≠ D := ne_of_none hl nD
  refine lc_list (fun i H' => Same H H' ∧ LA (NetR K v) H' D (bs.take i)) ⟨Same.new nD, LA.new NetR.kp nD .nil⟩ (fun i H' _ ⟨s1, _⟩ => SqL.of (s1 _ _ hl)) ?_ ?_
  · rintro i x H1 hx ⟨s1, vs, hv, hvp⟩
    obtain ⟨b, hb, t, rfl, ht⟩ := Paired.at hp hx
    refine ⟨t, _, rfl, SqT.of (s1 _ _ ht), rfl, _, _, rfl, _, _, rfl, rfl, ?_⟩
    refine ⟨rfl, lcY ?_⟩
    refine ⟨_, rfl, _, rfl, _, rfl, rfl, v, b.1, b.2, rfl, hok b (List.mem_of_getElem? hb), fun p H2 np s2 net => ?_⟩
    have pD : D ≠ p := ne_of_none hv np
    refine ⟨vs, s2 _ _ hv, ?_, Same.put nD (s1.trans s2), ?_⟩
    · rw [Paired.len hvp]
      have : (bs.take i).length ≤ bs.length := by rw [List.length_take]; omega
      exact Nat.lt_of_le_of_lt this (Nat.lt_trans hlen (by decide))
    · rw [List.take_add_one, hb]
      exact LA.put NetR.kp (s2 _ _ hv) (Paired.app (Paired.kp NetR.kp (.of s2) hvp) (.cons ⟨p, rfl, net⟩ .nil))
  · rintro H1 ⟨s1, la⟩
    refine q D H1 nD s1 ?_
    rw [Paired.len hp, List.take_length] at la
    exact la
theorem pcs_nok {v : Bool} {lo hi : Int} (h0 : 0 ≤ lo) (h1 : hi < AN.P (Wd v)) : ∀ b ∈ AN.pcs (Wd v) lo hi, NOk v b.1 b.2 := fun b hb => by
  obtain ⟨a1, a2, a3, a4⟩ := AN.pcs_mem b hb
  exact ⟨a1, a2, by omega, by omega⟩
def sp_summarize (K : PySem.W.Frag) : Sp := fun vs H Q _ => ∃ (v : Bool) (a b : Addr) (lo hi : Int), vs = [.ref a, .ref b] ∧ AdrAt K v H a lo ∧ AdrAt K v H b hi ∧ 0 ≤ lo ∧ lo ≤ hi ∧ hi < AN.P (Wd v) ∧ ∀ l H', H l = none → Same H H' → LA (NetR K v) H' l (AN.pcs (Wd v) lo hi) → Q (.ref l) H'
abbrev N_summarize : List Str := ["first", "last"]
theorem sc_summarize : FnScope N_summarize ["first", "last"] (defScope s_summarize) := ⟨rfl, rfl, rfl, by decide +kernel, rfl, by decide +kernel, by decide +kernel⟩
theorem c_summarize (T : Cxt K mg) : Cal P w K mg base 10 "summarize" (Spn 2 (sp_summarize K)) [] := by
  obtain ⟨fd, F⟩ := T.F_summarize
  refine calN F T.g_summarize sc_summarize rfl (fun _ _ _ _ _ _ us hl => match us, hl with | [_, _], _ => rfl) (fun cdv A outer s H vs Q E hr h => ?_)
  have nd := sc_summarize.nd
  have hu := hu_of hr
  obtain ⟨v, a, b, lo, hi, rfl, ha, hb, h0, h1, h2, q⟩ := h
  obtain ⟨tW, cW⟩ := w_aC T v
  have cl := c_aC T v
  have nn := no_number T v
  refine ⟨_, (pss_cons (ps_if (pt_not (pt_val (pe_callB call_isiT (by rfl) T.z_isinstance (by decide +kernel) (pa_cons (pv 0) (pa_cons (pe_tup (pa_cons (pe_glob (v := .ref _) rfl T.g_Address4 rfl) (pa_cons (pe_glob (v := .ref _) rfl T.g_Address6 rfl) pa_nil))) pa_nil))))) (pss_one ps_never) pss_nil) (pss_cons (ps_if (PW.pt (pw_or (pt_not (pt_val (pe_callB call_isiT (by rfl) T.z_isinstance (by decide +kernel) (pa_cons (pv 1) (pa_cons (pe_tup (pa_cons (pe_glob (v := .ref _) rfl T.g_Address4 rfl) (pa_cons (pe_glob (v := .ref _) rfl T.g_Address6 rfl) pa_nil))) pa_nil))))) (pw_or1 (pt_cmpR op_ne (pe_con (pv 1) rfl) (pe_con (pv 0) rfl) (nomark _))))) (pss_one ps_never) pss_nil) (pss_cons (ps_if (pt_cmpR op_gt (pe_fld (pv 0) rfl) (pe_fld (pv 1) rfl) (nomark _)) (pss_one ps_never) pss_nil) (pss_one (ps_ret (pe_f (c_networks_of T) hr (by decide) rfl (pa_cons (pe_f (c_range_pieces T) hr (by decide) rfl (pa_cons (pe_fld (pv 0) rfl) (pa_cons (pe_fld (pv 1) rfl) (pa_cons (pe_con (pv 0) rfl) pa_nil)))) (pa_cons (pe_con (pv 0) rfl) pa_nil)))))))), ?_⟩
  refine ⟨_, rfl, (by show 2 ≤ sizeLine; decide), fun t1 n1 => ⟨_, t1, _, _, _, true, rfl, upd_same, .cons (.own _) (.cons (.own _) .nil), ty_adr T (ha.mono (Same.new n1)), kit_a T v, true, rfl, iteF ?_⟩⟩
  have s1 : Same H _ := Same.new (o := .tup [.ref (ga K "Address4"), .ref (ga K "Address6")]) n1
  refine ⟨_, rfl, (by show 2 ≤ sizeLine; decide), fun t2 n2 => ⟨_, t2, _, _, _, true, rfl, upd_same, .cons (.own _) (.cons (.own _) .nil), ty_adr T (hb.mono (s1.trans (Same.new n2))), kit_a T v, true, rfl, iteF ?_⟩⟩
  have s2 := s1.trans (Same.new (o := .tup [.ref (ga K "Address4"), .ref (ga K "Address6")]) n2)
  obtain ⟨da, ea⟩ := ha.mono s2
  obtain ⟨db, eb⟩ := hb.mono s2
  refine ⟨_, rfl, b, _, db, _, _, _, rfl, eb, cl, cW, (adrF_no _).2, ?_⟩
  refine ⟨_, rfl, a, _, da, _, _, _, rfl, ea, cl, cW, (adrF_no _).2, rfl, _, rfl, iteNS rfl ?_⟩
  refine ⟨_, rfl, a, _, da, _, _, rfl, ea, cl, nn, adrF_number _, _, rfl, b, _, db, _, _, rfl, eb, cl, nn, adrF_number _, _, _, rfl, rfl, _, rfl, ?_⟩
  rw [decide_eq_false (show ¬ hi < lo by omega)]
  refine iteF ?_
  refine ⟨_, rfl, a, _, da, _, _, rfl, ea, cl, nn, adrF_number _, _, rfl, b, _, db, _, _, rfl, eb, cl, nn, adrF_number _, ?_⟩
  refine ⟨_, rfl, a, _, da, _, _, _, rfl, ea, cl, cW, (adrF_no _).2, rfl, Wd v, lo, hi, rfl, Wd_le v, h0, h2, fun l1 H1 nl1 s3 la1 => ?_⟩
  refine ⟨_, rfl, a, _, da, _, _, _, rfl, s3 _ _ ea, cl, cW, (adrF_no _).2, rfl, v, l1, _, rfl, la1, pcs_nok h0 h2, ?_, fun l H' nl s4 la => ?_⟩
  · have := AN.pcs_le (W := Wd v) h0 h2
    have := Wd_le v
    omega
  · exact q l H' (Same.free s2 (Same.free s3 nl)) (s2.trans (s3.trans s4)) la
def sp_look_change : Sp := fun vs H Q _ => ∃ c m : Int, vs = [.int c, .int m] ∧ 0 ≤ c ∧ c ≤ m ∧ Q .non H
abbrev N_look_change : List Str := ["change", "most"]
theorem sc_look_change : FnScope N_look_change ["change", "most"] (defScope s_look_change) := ⟨rfl, rfl, rfl, by decide +kernel, rfl, by decide +kernel, by decide +kernel⟩
theorem c_look_change (T : Cxt K mg) : Cal P w K mg base 3 "look_change" (Spn 2 sp_look_change) [] := by
  obtain ⟨fd, F⟩ := T.F_look_change
  refine calN F T.g_look_change sc_look_change rfl (fun _ _ _ _ _ _ us hl => match us, hl with | [_, _], _ => rfl) (fun cdv A outer s H vs Q E hr h => ?_)
  have nd := sc_look_change.nd
  have hu := hu_of hr
  obtain ⟨c, m, rfl, h0, h1, q⟩ := h
  refine ⟨_, (pss_one (ps_if (pt_not (pt_val (pe_f (c_is_from T) hr (by decide) rfl (pa_cons (pv 0) (pa_cons pe_int (pa_cons (pv 1) pa_nil)))))) (pss_one ps_never) pss_nil)), ?_⟩
  refine ⟨_, rfl, _, rfl, rfl, c, 0, m, rfl, true, by rw [decide_eq_true h0, decide_eq_true h1] <;> rfl, ?_⟩
  exact iteF q
end
end AH
/-! Rs -/
set_option Elab.async false
set_option linter.all false
set_option maxRecDepth 100000
set_option maxHeartbeats 4000000
/-! sets of keys (ints and texts) with tables that can be walked: add, set(xs), {.. for ..}, sorted -/
namespace SetX
open PySem PySem.Spec PyProof.Rows L2
def keyM (e : Int × Value) : Key := match e.2 with
  | .int k _ => .inl k
  | .str x _ => .inr x
  | _ => .inl 0
theorem keyM_of {k : Key} {e : Int × Value} (h : keyIs k e.2 = true) : keyM e = k := by
  obtain ⟨n, v⟩ := e
  rcases keyIs_shape h with ⟨i, t, rfl, e2⟩ | ⟨x, t, rfl, e2⟩
  · subst e2; rfl
  · subst e2; rfl
/-- the members ks (in some order) of the set at a -/
def SetL (P : Program) (w : World) (h : Heap) (a : Addr) (ks : List Key) : Prop :=
  ∃ o es ep t, h.get? a = some o ∧ o.ExactSet ∧ o.data = .set es ep t ∧ ElemsOf (mixKind P w) es.toList ∧ (es.toList.map keyM).Perm ks ∧ ks.Nodup ∧
    es.size < scanBound ∧ t.fits es.size = true ∧ Ris t.place.toList ∧ (w.params.followText "set-order" = true ∨ t.led = true)
section
variable {P : Program} {w : World} {h h' : Heap} {a : Addr} {ks : List Key}
theorem SetL.at (R : SetL P w h a ks) (k : ∀ o, h.get? a = some o → h'.get? a = some o) : SetL P w h' a ks := let ⟨o, es, ep, t, ho, r⟩ := R; ⟨o, es, ep, t, k o ho, r⟩
theorem elem_key {l : List (Int × Value)} (g : ElemsOf (mixKind P w) l) {e : Int × Value} (he : e ∈ l) : keyIs (keyM e) e.2 = true := by
  obtain ⟨⟨k, h1, _⟩, _⟩ := g e he
  rw [keyM_of h1]
  exact h1
theorem elem_is {l : List (Int × Value)} (g : ElemsOf (mixKind P w) l) {e : Int × Value} (he : e ∈ l) (k : Key) : (mixKind P w).is k e.2 = true ↔ keyM e = k :=
  ⟨fun q => keyM_of q, fun q => q ▸ elem_key g he⟩
theorem elem_mem {l : List (Int × Value)} (g : ElemsOf (mixKind P w) l) (k : Key) : k ∈ l.map keyM ↔ ∃ e ∈ l, (mixKind P w).is k e.2 = true :=
  List.mem_map.trans ⟨fun ⟨e, he, q⟩ => ⟨e, he, (elem_is g he k).2 q⟩, fun ⟨e, he, q⟩ => ⟨e, he, (elem_is g he k).1 q⟩⟩
theorem SetL.len (R : SetL P w h a ks) : ks.length < scanBound := by
  obtain ⟨_, es, _, _, _, _, _, _, pm, _, hb, _⟩ := R
  rw [← pm.length_eq, List.length_map, Array.length_toList]
  exact hb
theorem SetL.setOf (R : SetL P w h a ks) : ∃ S n, h.SetOf (mixKind P w) a S n := by
  obtain ⟨o, es, ep, t, ho, hx, hd, g, pm, nd, hb, hf, _⟩ := R
  refine ⟨fun k => @decide (k ∈ ks) (Classical.propDecidable _), es.size, o, es, ep, t, ho, hx, hd, g, fun k => ?_, hb, hf, rfl⟩
  exact ((iff_of_eq (@decide_eq_true_eq _ (Classical.propDecidable (k ∈ ks)))).trans pm.mem_iff.symm).trans (elem_mem g k)
/-- one more member -/
noncomputable def ins (k : Key) (ks : List Key) : List Key := open Classical in if k ∈ ks then ks else k :: ks
theorem mem_ins {k j : Key} {ks : List Key} : j ∈ ins k ks ↔ j = k ∨ j ∈ ks := by
  unfold ins
  split
  · rename_i hk
    exact ⟨.inr, fun q => q.elim (fun e => e ▸ hk) id⟩
  · exact List.mem_cons
theorem ins_nd {k : Key} {ks : List Key} (h : ks.Nodup) : (ins k ks).Nodup := by
  unfold ins
  split
  · exact h
  · rename_i hk
    exact List.nodup_cons.mpr ⟨hk, h⟩
theorem ins_len {k : Key} {ks : List Key} : (ins k ks).length ≤ ks.length + 1 := by
  unfold ins
  split
  · exact Nat.le_succ _
  · exact Nat.le_refl _
end
section
variable {P : Program} {w : World} {A : Around} {E : Value → Shared → Prop} {s : Shared} {a : Addr} {ks : List Key}
theorem stored {h : Heap} {o : Obj} {es es2 : Array (Int × Value)} {ep : Nat} {t t2 : SetTable} (ho : h.get? a = some o) (hd : o.data = .set es ep t) :
    (h.update a (Obj.putSet es2 t2)).get? a = some { o with data := .set es2 (ep + 1) t2 } := by
  have e := putSet_of es2 t2 hd
  exact (Heap.get?_update_self (Obj.putSet es2 t2) ho (by rw [e] <;> rfl)).trans (congrArg some e)
theorem add_end {g : Bool → Sem Unit} (hg : ∀ (b : Bool) (z : Shared) (F : Unit → Shared → Prop), F () z → wpAny (model P w) A (g b) F E z)
    {o : Obj} {es : Array (Int × Value)} {ep : Nat} {t : SetTable} (ho : s.heap.get? a = some o) (hex : o.ExactSet) (hd : o.data = .set es ep t)
    {e1 : Array (Int × Value)} {t2 : SetTable} (g1 : ElemsOf (mixKind P w) e1.toList) (p1 : (e1.toList.map keyM).Perm ks) (nd : ks.Nodup)
    (hb : e1.size < scanBound) (hf : t2.fits e1.size = true) (hr : Ris t2.place.toList) (hl : w.params.followText "set-order" = true ∨ t2.led = true) {wd : Bool} {R : Option Bool → Shared → Prop}
    (hR : ∀ z, Heap.SameBut a s.heap z → SetL P w z a ks → R (some true) { s with heap := z }) :
    wpAny (model P w) A (do
        storeSet a e1 t2
        if (!wd && t2.tooFull) = true then do
            g (relayAll t2 e1 (SetTable.grown e1.size)).2.2
            storeSet a (relayAll t2 e1 (SetTable.grown e1.size)).1 (relayAll t2 e1 (SetTable.grown e1.size)).2.1
            pure (some true)
          else pure (some true)) R E s := by
  refine wpAny_bind (wpAny_storeSet_of ho hd ?_ (fits_of_scanBound hb))
  have o1 := stored (es2 := e1) (t2 := t2) ho hd
  have k1 := Heap.SameBut.update s.heap a (Obj.putSet e1 t2)
  split
  · have q1 := relayAll_perm t2 e1 (SetTable.grown e1.size)
    have q2 := relayAll_fits t2 e1 (SetTable.grown e1.size)
    have q3 := relayAll_ris t2 e1 (SetTable.grown e1.size)
    have q4 := relayAll_led t2 e1 (SetTable.grown e1.size)
    generalize relayAll t2 e1 (SetTable.grown e1.size) = Z at q1 q2 q3 q4 ⊢
    obtain ⟨e2, t3, gave⟩ := Z
    dsimp only at q1 q2 q3 q4 ⊢
    have z : e2.size = e1.size := by rw [← Array.length_toList, q1.length_eq, Array.length_toList]
    refine wpAny_bind (hg _ _ _ ?_)
    refine wpAny_bind (wpAny_storeSet_of o1 rfl ?_ (fits_of_scanBound (by rw [z]; exact hb)))
    refine wpAny_pure (hR _ (k1.trans (Heap.SameBut.update _ a _)) ⟨_, e2, _, t3, stored (es2 := e2) (t2 := t3) o1 rfl, hex, rfl, fun e he => g1 e (q1.mem_iff.mp he), (q1.map keyM).trans p1, nd, by rw [z]; exact hb, q2, q3, ?_⟩)
    exact hl.imp id fun y => by rw [q4]; exact y
  · exact wpAny_pure (hR _ k1 ⟨_, e1, _, t2, o1, hex, rfl, g1, p1, nd, hb, hf, hr, hl⟩)
theorem add_hashed {k : Key} {v : Value} {Q : Bool → Shared → Prop} (hv : keyIs k v = true) (hs : v.scannable = true) (R : SetL P w s.heap a ks) (room : ks.length + 1 < scanBound)
    (hQ : ∀ z b, Heap.SameBut a s.heap z → SetL P w z a (ins k ks) → Q b { s with heap := z }) :
    wpAny (model P w) A (setAddHashed a v ((mixKind P w).hash k)) Q E s := by
  obtain ⟨o, es, ep, t, ho, hex, hd, g, pm, nd, hb, hf, hr, hl⟩ := R
  have hkey : (mixKind P w).is k v = true := hv
  unfold setAddHashed setAddHashedIn
  refine wpAny_holding (wpAny_bind (wpAny_setState_of ho hd hf ?_))
  dsimp only
  rw [byScan_of hs hb g]
  simp only [↓reduceIte]
  unfold setAddByScan
  refine wpAny_bind ?_
  refine wpAny_bind (wpAny_rule ?_)
  refine wpAny_bind (wpAny_setScan_of hkey ho hd hf g ?_)
  cases hfi : List.findIdx? (fun e => (mixKind P w).is k e.2) es.toList with
  | some j =>
    dsimp only
    obtain ⟨hj, pj, _⟩ := List.findIdx?_eq_some_iff_getElem.mp hfi
    have hm : k ∈ ks := pm.mem_iff.mp ((elem_mem g k).2 ⟨es.toList[j], List.getElem_mem hj, pj⟩)
    refine wpAny_pure (wpAny_pure (hQ s.heap _ (Heap.SameBut.refl a s.heap) ?_))
    rw [show ins k ks = ks by unfold ins; rw [if_pos hm]]
    exact ⟨o, es, ep, t, ho, hex, hd, g, pm, nd, hb, hf, hr, hl⟩
  | none =>
    dsimp only
    have hnk : k ∉ ks := fun z => by
      obtain ⟨e, he, q⟩ := (elem_mem g k).1 (pm.mem_iff.mpr z)
      have c := List.findIdx?_eq_none_iff.mp hfi e he
      rw [q] at c
      cases c
    have ek : ins k ks = k :: ks := by unfold ins; rw [if_neg hnk]
    have gv : ∀ (b : Bool) {z : Shared} {F : Unit → Shared → Prop}, F () z → wpAny (model P w) A (match b with | true => rule "set.scan.the-table-gave-way" | false => pure ()) F E z :=
      fun b z F q => match b with
        | true => wpAny_rule q
        | false => wpAny_pure q
    have q1 := layNew_perm t es ((mixKind P w).hash k) v
    have q2 := layNew_fits t es ((mixKind P w).hash k) v
    have q3 := layNew_ris t es ((mixKind P w).hash k) v hr
    have q4 := layNew_led t es ((mixKind P w).hash k) v
    generalize layNew t es ((mixKind P w).hash k) v = Z at q1 q2 q3 q4 ⊢
    obtain ⟨e1, t1, wd, gave⟩ := Z
    dsimp only at q1 q2 q3 q4 ⊢
    rw [Array.toList_push] at q1
    have pc : e1.toList.Perm (((mixKind P w).hash k, v) :: es.toList) := q1.trans (List.perm_append_singleton _ _)
    have g1 : ElemsOf (mixKind P w) e1.toList := fun e he => by
      rcases List.mem_cons.mp (pc.mem_iff.mp he) with z | z
      · subst z
        exact ⟨⟨k, hv, rfl⟩, hs⟩
      · exact g e z
    have pk : (e1.toList.map keyM).Perm (ins k ks) := by
      have z := pc.map keyM
      rw [List.map_cons, keyM_of (e := ((mixKind P w).hash k, v)) hv] at z
      rw [ek]
      exact z.trans (pm.cons k)
    have hz : e1.size = ks.length + 1 := by rw [← Array.length_toList, pc.length_eq, List.length_cons, ← pm.length_eq, List.length_map]
    have hb1 : e1.size < scanBound := by rw [hz]; exact room
    have hld : w.params.followText "set-order" = true ∨ t1.led = true := hl.imp id fun z => by rw [q4]; exact z
    have fin : ∀ z, Heap.SameBut a s.heap z → SetL P w z a (ins k ks) → Q true { s with heap := z } := fun z sb r => hQ z true sb r
    refine wpAny_bind (gv _ ?_)
    split
    · refine wpAny_bind ?_
      rw [hashByValue_scannable 8 hs]
      refine wpAny_pure ?_
      refine add_end ?_ ho hex hd g1 pk (ins_nd nd) hb1 ?_ ?_ ?_ ?_
      · intro b z F q
        cases b <;> first | exact wpAny_pure q | exact wpAny_rule q
      · first | (split <;> first | exact q2 | exact SetTable.fits_plain_off q2) | exact q2
      · first | (split <;> exact q3) | exact q3
      · first | (split <;> exact hld) | exact hld
      · intro z sb r
        dsimp only
        exact wpAny_pure (fin z sb r)
    · refine wpAny_bind (wpAny_pure ?_)
      simp only [↓reduceIte]
      refine add_end ?_ ho hex hd g1 pk (ins_nd nd) hb1 q2 q3 hld ?_
      · intro b z F q
        cases b <;> first | exact wpAny_pure q | exact wpAny_rule q
      · intro z sb r
        dsimp only
        exact wpAny_pure (fin z sb r)
theorem key_hash {k : Key} {v : Value} {Q : Int → Shared → Prop} (hv : keyIs k v = true) (h : Q ((mixKind P w).hash k) { s with toks := s.toks + 1 }) : wpAny (model P w) A (pyHash v) Q E s := (mixKind P w).pyHash hv h
theorem set_add {k : Key} {v : Value} {Q : Bool → Shared → Prop} (hv : keyIs k v = true) (hs : v.scannable = true) (R : SetL P w s.heap a ks) (room : ks.length + 1 < scanBound)
    (hQ : ∀ z b, Heap.SameBut a s.heap z → SetL P w z a (ins k ks) → Q b { s with heap := z, toks := s.toks + 1 }) : wpAny (model P w) A (setAdd a v) Q E s := by
  unfold setAdd
  refine wpAny_holding ?_
  refine wpAny_bind (key_hash hv ?_)
  exact add_hashed (s := { s with toks := s.toks + 1 }) hv hs R room hQ
/-- found.add(k) -/
theorem call_add {k : Key} {v : Value} {Q : Value → Shared → Prop} (hv : keyIs k v = true) (hs : v.scannable = true) (R : SetL P w s.heap a ks) (room : ks.length + 1 < scanBound)
    (hQ : ∀ z, Heap.SameBut a s.heap z → SetL P w z a (ins k ks) → Q .none { s with heap := z, toks := s.toks + 1 }) : wpAny (model P w) A (call (.builtin "set.add") [.ref a, v]) Q E s := by
  obtain ⟨S, n, hS⟩ := R.setOf
  refine wpAny_call_entry F.slot_set_add hS.typeIs F.entry_set_add ?_ (F.args_set_add_2 _ _)
  unfold Builtin.«set.add» Builtin.Frozenset.oneOther
  simp only [List.isEmpty_nil, bind_assoc]
  unfold Builtin.Frozenset.addrOf
  refine wpAny_bind (wpAny_pure ?_)
  try dsimp only
  refine wpAny_bind (wpAny_pure ?_)
  try dsimp only
  refine wpAny_bind (set_add hv hs R room fun z b sb r => ?_)
  show wpAny _ _ (ret Value.none) _ _ _
  exact wpAny_pure ⟨_, rfl, hQ z sb r⟩
theorem set_fresh {h : Heap} (P : Program) (w : World) : SetL P w (h.push { cls := .type "set", dict := none, data := .set #[] 0 (.fresh 0 0 (!w.params.followText "set-order")) }) h.objs.size [] := by
  refine ⟨_, #[], 0, _, Heap.get?_push_size _ rfl, ⟨rfl, rfl, rfl⟩, rfl, ?_, .nil, List.nodup_nil, (by show 0 < scanBound; decide), rfl, List.Pairwise.nil, ?_⟩
  · intro e he
    exact nomatch he
  show _ ∨ (!w.params.followText "set-order") = true
  cases w.params.followText "set-order" with
  | false => exact .inr rfl
  | true => exact .inl rfl
end

/-! ### as tracked things -/
def SetLO (P : Program) (w : World) (a : Addr) (ks : List Key) : HO := .ext fun h => SetL P w h a ks
theorem setLO_new {w : World} {P : Program} {H : Hp} {h : Heap} {a : Addr} {ks : List Key} (R : SetL P w h a ks) : ObjOk P w H h a (SetLO P w a ks) :=
  have ⟨o, _, _, _, ho, _⟩ := R
  ⟨R, ⟨o, ho⟩, fun _ _ p k => SetL.at p k⟩
section
variable {X : Cx} {pins : List (Addr × Obj)} {σ : L2.St} {H : Hp} {s : Shared}
theorem setLO_get {a : Addr} {ks : List Key} (I : Inv X pins σ H s) (ha : H a = some (SetLO X.prog X.w a ks)) : SetL X.prog X.w s.heap a ks := (I.hok a _ ha).1
theorem addK_ok {E : Value → Shared → Prop} {D : Addr} {ks : List Key} {k : Key} {u : Value} {Q : Value → Shared → Prop} (I : Inv X pins σ H s) (hD : H D = some (SetLO X.prog X.w D ks)) (room : ks.length + 1 < scanBound) (r : RelV (kV k) u)
    (h : ∀ z, Inv X pins σ (upd H D (SetLO X.prog X.w D (ins k ks))) z → Q .none z) : wpAny (model X.prog X.w) X.A (call (.builtin "set.add") [.ref D, u]) Q E s := by
  refine call_add (kV_is (P := X.prog) (w := X.w) r) (key_scan r) (setLO_get I hD) room fun z sb new => ?_
  have he : ∃ y, z.get? D = some y := have ⟨o, _, _, _, ho, _⟩ := new; ⟨o, ho⟩
  exact h _ (I.write (e := D) (t' := s.toks + 1) (by rw [hD]; trivial) (.inl rfl) (fun b y hb hu => (sb.2 b hb).trans hu) he (setLO_new new))
/-- {elt for target in iter if ..}, elt an int or a text: D the new set -/
def tScK (P : Program) (w : World) (wi : TI) (g : TG) (tt : TT) (te : TE) (vs : List Nat) : TE := fun σ H Q => wi σ H fun J H1 => ∀ D, H1 D = none → ∃ W : Nat → Nat → Hp → Prop, (∃ m, W 0 m (upd H1 D (SetLO P w D []))) ∧ ∀ i m H, W i m H →
  (J.stop i H ∧ Q (.ref D) H) ∨ (J.go i H ∧ ∃ Nx : Hp → Prop, (∀ H', Nx H' → ∃ m', m' < m ∧ W (i + 1) m' H') ∧ ∀ x H', J.yld i H x H' → g x (wipe σ vs) H' fun σ2 H2 => wipe σ2 vs = wipe σ vs ∧ tt σ2 H2 fun b H3 =>
    if b = true then te σ2 H3 fun y H4 => ∃ (k : Key) (ks : List Key), y = kV k ∧ H4 D = some (SetLO P w D ks) ∧ ks.length + 1 < scanBound ∧ Nx (upd H4 D (SetLO P w D (ins k ks))) else Nx H3)
theorem scK_core {Q : VK} {elt tg iter : Expr} {ifs : List Expr} {scope : Scope} {own : List (PySem.Str × Nat)} {pos pos' : Pos} {wi : TI} {g : TG} {tt : TT} {te : TE} {use : Option (Value → Sem Unit)} {Qf : Value → Shared → Prop}
    (hc : X.calm = true) (hN : X.N.Nodup) (I : Inv X pins σ H s) (hi : PI X tg iter wi) (ok : BlkOk X.N X.env.scope scope own)
    (hg : ∀ (s : Shared) (H : Hp) (C : Addr) (cl : List (PySem.Str × Addr)) (fp : List Addr), PG (X.blk s H scope (compEnvC scope cl C X.env) fp) tg g) (ht : ∀ (s : Shared) (H : Hp) (C : Addr) (cl : List (PySem.Str × Addr)) (fp : List Addr), PTs (X.blk s H scope (compEnvC scope cl C X.env) fp) ifs tt)
    (he : ∀ (s : Shared) (H : Hp) (C : Addr) (cl : List (PySem.Str × Addr)) (fp : List Addr), PE (X.blk s H scope (compEnvC scope cl C X.env) fp) elt te) (hs : ∀ x, foldedSetIterable iter X.env x = pure x)
    (h : tScK X.prog X.w wi g tt te (own.map (·.2)) σ H Q)
    (hRR : ∀ D C s' m H', Inv X pins σ H' s' → Q (.ref D) H' → s'.heap.Ns C m → FpOk X pins H' C → compPost (model X.prog X.w) X.A X.xe use Qf (.ref D) C (.ok .next) s') :
    wpAny (model X.prog X.w) X.A (comprehension (.SetComp elt [⟨tg, iter, ifs, 0⟩] scope pos) scope X.env pos' (newSet (.type "set")) false (eval iter X.env) use) Qf X.xe s := by
  have hfree : ∀ y ∈ scope.names, y.2 = .free → ∃ c, X.env.cells.lookup y.1 = some c := fun y hy e => (ok.free y hy e).elim (fun k => I.ok.has _ (.inl k)) fun k => I.ok.has _ (.inr k)
  refine wpAny_comprehension_free (use := use) rfl hs (closure_ok hfree) ok.kind (fun y hy e => by rw [ok.uniq y hy, e]) (thn (hi.run pins s σ H _ I h) fun xv s1 hx => thn hx fun itv s2 h2 => ?_)
  obtain ⟨it, fp, tn, J, H2, e, I2, T, st2, f2, q⟩ := h2
  subst e
  refine PpSet.newSet_ok (newEnv_comp ?_)
  generalize hD : s2.heap.objs.size = D
  have hDn : H2 D = none := I2.hok.fresh (Nat.le_of_eq hD)
  obtain ⟨W, ⟨m0, w0⟩, turn⟩ := q D hDn
  generalize hs3 : ({ s2 with heap := s2.heap.push { cls := .type "set", dict := none, data := .set #[] 0 (.fresh 0 0 (!X.w.params.followText "set-order")) } } : Shared) = s3
  have h3 : s3.heap = s2.heap.push { cls := .type "set", dict := none, data := .set #[] 0 (.fresh 0 0 (!X.w.params.followText "set-order")) } := by rw [← hs3]
  have grew : ∀ b o, s2.heap.get? b = some o → s3.heap.get? b = some o := fun b o e => by rw [h3]; exact Heap.get?_push_of_some _ e
  have I3 : Inv X pins σ (upd H2 D (SetLO X.prog X.w D [])) s3 := by
    subst hs3
    subst hD
    exact I2.laid (t' := s2.toks) (fun b o e => Heap.get?_push_of_some _ e) (Nat.le_refl _) (setLO_new (set_fresh X.prog X.w))
  have f3 : ∀ b ∈ fp, FpOk X pins (upd H2 D (SetLO X.prog X.w D [])) b ∧ b < s3.heap.objs.size := fun b hb => by
    obtain ⟨o, eo, _⟩ := T.obj _ _ st2 b hb
    have lt := Heap.lt_size eo
    refine ⟨⟨?_, (f2 b hb).2⟩, Heap.lt_size (grew _ _ eo)⟩
    rw [upd_ne (by rw [← hD]; exact Nat.ne_of_lt lt)]
    exact (f2 b hb).1
  have st3 : tn 0 s3.heap := T.keep _ _ _ st2 fun b _ o e => grew b o e
  have I4 := block_start I3 ok hN f3
  have pg := hg s3 (upd H2 D (SetLO X.prog X.w D [])) s3.heap.objs.size (cellsFrom (s3.heap.objs.size + 1) scope.names (cloFrom X.env.cells scope.names [])) fp
  have pt := ht s3 (upd H2 D (SetLO X.prog X.w D [])) s3.heap.objs.size (cellsFrom (s3.heap.objs.size + 1) scope.names (cloFrom X.env.cells scope.names [])) fp
  have pe := he s3 (upd H2 D (SetLO X.prog X.w D [])) s3.heap.objs.size (cellsFrom (s3.heap.objs.size + 1) scope.names (cloFrom X.env.cells scope.names [])) fp
  show codeAny _ _ (.compStart (.SetComp elt [⟨tg, iter, ifs, 0⟩] scope pos) 0 (.ref it) (.ref D) (compEnvC scope (cellsFrom (s3.heap.objs.size + 1) scope.names (cloFrom X.env.cells scope.names [])) s3.heap.objs.size X.env)) (compPost (model X.prog X.w) X.A X.xe use Qf (.ref D) s3.heap.objs.size) { s3 with heap := pushCells (s3.heap.push { cls := .type "dict", data := .dict #[] }) scope.names }
  have nfp : ∀ b ∈ fp, (upd H2 D (SetLO X.prog X.w D [])) b = none := fun b hb => (f3 b hb).1.1
  generalize hce : compEnvC scope (cellsFrom (s3.heap.objs.size + 1) scope.names (cloFrom X.env.cells scope.names [])) s3.heap.objs.size X.env = ce at I4 pg pt pe ⊢
  have cL : ce.locals = s3.heap.objs.size := by subst hce; rfl
  generalize hH3 : upd H2 D (SetLO X.prog X.w D []) = H3 at I3 I4 pg pt pe w0 nfp f3
  generalize hs4 : ({ s3 with heap := pushCells (s3.heap.push { cls := .type "dict", data := .dict #[] }) scope.names } : Shared) = s4 at I4 ⊢
  have st4 : tn 0 s4.heap := T.keep _ _ _ st3 fun b _ o e => by rw [← hs4]; exact pushCells_keeps _ _ _ _ (Heap.get?_push_of_some _ e)
  have stat : ∀ {σ' : L2.St} {H' : Hp} {s' : Shared}, Inv (X.blk s3 H3 scope ce fp) [] σ' H' s' → (∀ b ∈ fp, H' b = none) → ∀ b ∈ fp, FpOk (X.blk s3 H3 scope ce fp) [] H' b := fun {σ' H' s'} I' hn b hb =>
    ⟨hn b hb, (I'.ok.exf b hb).1, I'.ok.exfs b hb, .inl hb, fun x c e => (I'.ok.exf b hb).2 x c e, fun p hp => nomatch (show p ∈ ([] : List (Addr × Obj)) from hp)⟩
  have loop : codeAny (model X.prog X.w) X.A (.compLoop (.SetComp elt [⟨tg, iter, ifs, 0⟩] scope pos) 0 (.ref it) (.ref D) ce) (compPost (model X.prog X.w) X.A X.xe use Qf (.ref D) s3.heap.objs.size) s4 := by
    refine PpSet.compLoopS_any (fun n s' => ∃ i H', Inv (X.blk s3 H3 scope ce fp) [] (wipe σ (own.map (·.2))) H' s' ∧ tn i s'.heap ∧ (∀ b ∈ fp, H' b = none) ∧ W i n H') ?_ m0 ⟨0, H3, I4, st4, nfp, w0⟩
    rintro n s5 ⟨i, H5, I5, st5, n5, w5⟩
    rcases turn i n H5 w5 with ⟨stop, qq⟩ | ⟨go, Nx, hNx, step⟩
    · refine thnF (T.done (X.blk s3 H3 scope ce fp) rfl rfl rfl hc i [] s5 _ H5 (fun _ _ => False) I5 (stat I5 n5) st5 stop) fun r s6 ⟨hr, I6⟩ => ?_
      subst hr
      have I7 : Inv X pins σ H5 s6 := I3.call' (ch := fp) I6.os I6.base I6.hok I6.bare fun b hb => let z := (f3 b hb).1.2; ⟨z.2.2.1, z.1, z.2.2.2.1, z.2.2.2.2⟩
      have nC : H5 s3.heap.objs.size = none := cL ▸ I6.free
      obtain ⟨m, hn, _⟩ := I6.loc
      exact hRR D s3.heap.objs.size s6 m H5 I7 qq (cL ▸ (show s6.heap.Ns ce.locals m from hn)) (I3.fpOk (Nat.le_refl _) nC)
    · refine thnF (T.item (X.blk s3 H3 scope ce fp) rfl rfl rfl hc i [] s5 _ H5 (fun _ _ => False) I5 (stat I5 n5) st5 go) fun r s6 ⟨u, hr, h6⟩ => ?_
      subst hr
      refine thnF h6 fun _ s7 ⟨x, H7, I7, r7, y7, st7, n7⟩ => ?_
      refine thnF (pg.run _ s7 _ H7 x u _ (I7.pinned (stat I7 n7) (T.obj _ _ st7)) r7 (step x H7 y7)) fun _ s8 ⟨σ8, H8, I8, hw8, q8⟩ => ?_
      refine thnF (pt.run _ s8 σ8 H8 _ I8 q8) fun b s9 ⟨H9, I9, q9⟩ => ?_
      have fin : ∀ {s' : Shared} {H' : Hp}, Inv (X.blk s3 H3 scope ce fp) ([] ++ pinsAt fp s7.heap) σ8 H' s' → Nx H' → ∃ m, m < n ∧ ∃ i H', Inv (X.blk s3 H3 scope ce fp) [] (wipe σ (own.map (·.2))) H' s' ∧ tn i s'.heap ∧ (∀ b ∈ fp, H' b = none) ∧ W i m H' := fun {s' H'} I' nx => by
        obtain ⟨m', hm, w'⟩ := hNx H' nx
        have pin' : ∀ b ∈ fp, ∀ o, s7.heap.get? b = some o → s'.heap.get? b = some o ∧ H' b = none := fun b hb o e =>
          let z := I'.pin (b, o) (List.mem_append_right _ (List.mem_append_right _ (mem_pinsAt hb e)))
          ⟨z.1, z.2.1⟩
        refine ⟨m', hm, i + 1, H', (I'.unpinned (pins := [])).weak (by rw [← hw8, wipe_length]) (fun j v e => ?_), T.keep _ _ _ st7 fun b hb o e => (pin' b hb o e).1, fun b hb => ?_, w'⟩
        · rw [← hw8] at e
          exact (wipe_some e).1
        · obtain ⟨o, e, _⟩ := T.obj _ _ st7 b hb
          exact (pin' b hb o e).2
      cases b with
      | false =>
        simp only [Bool.false_eq_true, if_false] at q9 ⊢
        exact fin I9 q9
      | true =>
        simp only [if_true] at q9 ⊢
        refine thnF (pe.run _ s9 σ8 H9 _ I9 q9) fun z s10 ⟨yv, H10, I10, r10, k0, ks0, ey, hD10, hz10, nx⟩ => ?_
        subst ey
        exact addK_ok (X := X.blk s3 H3 scope ce fp) I10 hD10 hz10 r10 fun s11 I11 => fin I11 nx
  exact PpSet.codeAny_compStart_set loop (T.self X.A 0 _ _ _ st4 loop)
theorem pe_scK {elt tg iter : Expr} {ifs : List Expr} {scope : Scope} {own : List (PySem.Str × Nat)} {pos : Pos} {wi : TI} {g : TG} {tt : TT} {te : TE} (hc : X.calm = true) (hN : X.N.Nodup) (hi : PI X tg iter wi) (ok : BlkOk X.N X.env.scope scope own)
    (hg : ∀ (s : Shared) (H : Hp) (C : Addr) (cl : List (PySem.Str × Addr)) (fp : List Addr), PG (X.blk s H scope (compEnvC scope cl C X.env) fp) tg g) (ht : ∀ (s : Shared) (H : Hp) (C : Addr) (cl : List (PySem.Str × Addr)) (fp : List Addr), PTs (X.blk s H scope (compEnvC scope cl C X.env) fp) ifs tt)
    (he : ∀ (s : Shared) (H : Hp) (C : Addr) (cl : List (PySem.Str × Addr)) (fp : List Addr), PE (X.blk s H scope (compEnvC scope cl C X.env) fp) elt te) (hs : ∀ x, foldedSetIterable iter X.env x = pure x := by intro _; rfl) :
    PE X (.SetComp elt [⟨tg, iter, ifs, 0⟩] scope pos) (tScK X.prog X.w wi g tt te (own.map (·.2))) := by
  refine ⟨fun pins s σ H Q I h => ?_⟩
  rw [PpSet.eval_SetComp]
  exact scK_core hc hN I hi ok hg ht he hs h fun D C s' m H' I' q hn f => ⟨m, hn, fun z sb => ⟨.ref D, H', I'.turned (t' := s'.toks) (fun b o hb e => (sb.2 b hb).trans e) f.1 f.2.1 f.2.2.2.1 f.2.2.2.2.1 f.2.2.2.2.2, rfl, q⟩⟩
end
end SetX
/-! Rs2 -/
set_option Elab.async false
set_option linter.all false
set_option maxRecDepth 100000
set_option maxHeartbeats 4000000
/-! set(xs) of a list of ints or texts; sorted of such a set -/
namespace SetX
open PySem PySem.Spec PyProof.Rows L2
abbrev eS (w : World) : Obj := { cls := .type "set", dict := none, data := .set #[] 0 (.fresh 0 0 (!w.params.followText "set-order")) }
/-- the keys of a list, one after the other -/
noncomputable def gath : List Key → List Key
  | [] => []
  | k :: ks => ins k (gath ks)
theorem gath_mem {k : Key} : ∀ {ks : List Key}, k ∈ gath ks ↔ k ∈ ks
  | [] => Iff.rfl
  | j :: ks => by
    unfold gath
    rw [mem_ins, gath_mem, List.mem_cons]
theorem gath_nd : ∀ {ks : List Key}, (gath ks).Nodup
  | [] => List.nodup_nil
  | j :: ks => ins_nd gath_nd
theorem gath_len : ∀ {ks : List Key}, (gath ks).length ≤ ks.length
  | [] => Nat.le_refl 0
  | j :: ks => Nat.le_trans ins_len (Nat.succ_le_succ gath_len)
section
variable {P : Program} {w : World} {A : Around} {E : Value → Shared → Prop} {s : Shared}
theorem empty_at {h : Heap} {a : Addr} (ho : h.get? a = some (eS w)) : SetL P w h a [] := by
  refine ⟨_, #[], 0, _, ho, ⟨rfl, rfl, rfl⟩, rfl, ?_, .nil, List.nodup_nil, (by show 0 < scanBound; decide), rfl, List.Pairwise.nil, ?_⟩
  · intro e he
    exact nomatch he
  show _ ∨ (!w.params.followText "set-order") = true
  cases w.params.followText "set-order" with
  | false => exact .inr rfl
  | true => exact .inl rfl
theorem update_loop {I : Addr} {fp wr : List Addr} {G : Array GenState → Array GenState → Prop} {n : Nat} {Pv : Nat → Value → Prop} {St : Nat → Shared → Prop} {R : Result → Shared → Prop}
    (W : WalksS P w A.in1 I fp wr G n Pv St) (S : Addr) (hSf : S ∉ fp) (ks : List Key) (hn : n = ks.length) (room : ks.length + 1 < scanBound) (hval : ∀ i v, Pv i v → ∃ k, ks[i]? = some k ∧ keyIs k v = true ∧ v.scannable = true) :
    ∀ (k i : Nat) (s : Shared), n - i = k → i ≤ n → St i s → SetL P w s.heap S (gath (ks.take i).reverse) →
      (∀ z, Moved (S :: wr) G s z → SetL P w z.heap S (gath ks.reverse) → R (.ok (.ret .none)) z) →
      codeAny (model P w) A (.builtin "set.update.loop" ⟨[.ref S, .ref I], []⟩) R s := by
  have hSw : S ∉ wr := fun h => hSf (W.sub _ h)
  have hsub : ∀ b ∈ wr, b ∈ S :: wr := fun b hb => List.mem_cons_of_mem _ hb
  intro k
  induction k with
  | zero =>
    intro i s hk hi hst hS hR
    obtain rfl : i = n := by omega
    refine codeAny_builtin F.entry_set_update_loop ?_
    rw [Around.under_plainId F.plain_set_update_loop _]
    show wpAny _ A.in1 (pyNext (.ref I) >>= _) _ _ s
    refine wpAny_bind (W.done s _ _ hst fun z hm => ?_)
    show wpAny _ A.in1 (ret Value.none) _ _ z
    rw [List.take_of_length_le (by omega)] at hS
    exact wpAny_pure (hR z (hm.mono hsub) (hS.at fun o e => hm.heap S o hSw e))
  | succ k ih =>
    intro i s hk hi hst hS hR
    have lt : i < n := by omega
    refine codeAny_builtin F.entry_set_update_loop ?_
    rw [Around.under_plainId F.plain_set_update_loop _]
    show wpAny _ A.in1 (pyNext (.ref I) >>= _) _ _ s
    refine wpAny_bind (W.item i s _ _ lt hst fun v z hP hst2 hm => ?_)
    obtain ⟨c, hc, hv, hs⟩ := hval i v hP
    have hS2 : SetL P w z.heap S (gath (ks.take i).reverse) := hS.at fun o e => hm.heap S o hSw e
    have hroom : (gath (ks.take i).reverse).length + 1 < scanBound := by
      have := gath_len (ks := (ks.take i).reverse)
      rw [List.length_reverse, List.length_take] at this
      omega
    show wpAny _ A.in1 (holding [v] (setAdd S v) >>= _) _ _ z
    refine wpAny_bind (wpAny_holding (set_add hv hs hS2 hroom fun h2 b sb hS3 => ?_))
    have e3 : ins c (gath (ks.take i).reverse) = gath (ks.take (i + 1)).reverse := by
      rw [List.take_add_one, hc, List.reverse_append]
      rfl
    rw [e3] at hS3
    refine wpAny_pure ⟨plainId_quiet F.plain_set_update_loop _, ih (i + 1) _ (by omega) lt (W.frame _ z _ _ hst2 (Nat.le_succ _) fun b hb o e => ?_) hS3 fun z2 hm2 hS4 => ?_⟩
    · rw [sb.2 b (fun h : b = S => hSf (by rw [← h]; exact hb))]
      exact e
    · refine hR z2 (Moved.trans W.gtrans ((hm.mono hsub).then_heap (Nat.le_succ _) fun b o hb e => ?_) hm2) hS4
      rw [sb.2 b (fun h : b = S => hb (by rw [h]; exact List.mem_cons_self))]
      exact e
/-- set(l) -/
theorem call_set_keys {l : Addr} {items : Array Value} (ks : List Key) {Q : Value → Shared → Prop} (hh : A.handled = none) (hl : s.heap.IsList l items) (hit : Paired (fun k v => keyIs k v = true ∧ v.scannable = true) ks items.toList) (room : ks.length + 1 < scanBound)
    (h : ∀ (z : Heap) (tk : Nat), SetL P w z s.heap.objs.size (gath ks.reverse) → (∀ b o, s.heap.get? b = some o → z.get? b = some o) → Q (.ref s.heap.objs.size) { s with heap := z, toks := tk }) :
    wpAny (model P w) A (call (.type "set") [.ref l]) Q E s := by
  have hisz : items.size = ks.length := by
    rw [hit.length, Array.length_toList]
  obtain ⟨c, tl, hmro⟩ := F.called_set.mro
  have hmade := F.called_set.made
  have hsub := F.called_set.sub
  refine wpAny_call (codeAny_of_tree ?_)
  show wpAny _ _ (callAny (.type "set") _) _ _ _
  refine wpAny_pure ⟨Code.quiet_builtin _ (by decide +kernel), codeAny_builtin F.entry_type_call ?_⟩
  rw [Around.under_plain (weight_type_call_type "set" [.ref l] []) rfl]
  have h1 := F.called_set.notType
  have h2 := F.called_set.canCreate
  have hct := F.typeCall_set_1 (.ref l)
  repeat (any_goals (first | assumption | wp_step))
  refine codeAny_mono (code_set_led1 (.ref l) (E := E) (Q₁ := fun obj z => obj = .ref s.heap.objs.size ∧ z = { s with heap := s.heap.push (eS w) }) ⟨rfl, rfl⟩) fun r z hr => ?_
  cases r with
  | error e => exact hr
  | ok fl =>
    cases fl with
    | ret obj =>
      obtain ⟨rfl, rfl⟩ := hr
      have hS : (s.heap.push (eS w)).get? s.heap.objs.size = some (eS w) := Heap.get?_push_size _ rfl
      have hT : Shared.TypeIs { s with heap := s.heap.push (eS w) } (.ref s.heap.objs.size) "set" := ⟨_, hS, rfl⟩
      have hli := F.called_set.init.lookup
      have hbi := F.called_set.init.bind (.ref s.heap.objs.size)
      repeat (any_goals (first | assumption | wp_step))
      refine codeAny_mono (codeAny_call_builtin (R := wants (fun r z => r = .none ∧ ∃ y tk, z = { s with heap := y, toks := tk } ∧ SetL P w y s.heap.objs.size (gath ks.reverse) ∧
          (∀ b o, s.heap.get? b = some o → y.get? b = some o)) E) F.called_set.init.plain F.entry_set_init (check_set_init_1 hT ?_)) fun r₂ s₂ hr₂ => ?_
      · obtain ⟨ol, hol, hcl, nl, hdl⟩ := hl
        obtain ⟨ocls, odict, odata, oslots⟩ := ol
        simp only at hcl hdl
        subst hcl; subst hdl
        have hol' : (s.heap.push (eS w)).get? l = some { cls := .type "list", dict := odict, data := .seq items nl, slots := oslots } := Heap.get?_push_of_some _ hol
        have hsls := F.sub_list_set
        have hslf := F.sub_list_frozenset
        have hne : (Value.type "list" == Value.type "dict") = false := by decide
        have hl1 : (s.heap.push (eS w)).IsList l items := ⟨_, hol', rfl, nl, rfl⟩
        unfold Builtin.«set.__init__» noKeywords Builtin.Frozenset.updateFrom
        generalize hPI : pyIter = PI
        wp_walk
        subst hPI
        refine wpAny_pyIter_list hl1 ?_
        refine wpAny_bind (wpAny_runValue ?_)
        have hlS : l < s.heap.objs.size := Heap.lt_size hol
        have hh3 : A.in1.in1.in1.handled = none := by simp [hh]
        have hneI : l ≠ (s.heap.push (eS w)).objs.size := by
          rw [Heap.size_push]; exact Nat.ne_of_lt (Nat.lt_succ_of_lt hlS)
        have hSf : s.heap.objs.size ∉ [(s.heap.push (eS w)).objs.size, l] := by
          rw [Heap.size_push]; simp only [List.mem_cons, List.mem_singleton, List.not_mem_nil, or_false, not_or]
          exact ⟨Nat.ne_of_lt (Nat.lt_succ_self _), Nat.ne_of_gt hlS⟩
        have hval : ∀ (i : Nat) (v : Value), items[i]? = some v → ∃ k, ks[i]? = some k ∧ keyIs k v = true ∧ v.scannable = true := fun i v hv => by
          have hv2 : items.toList[i]? = some v := by rw [Array.getElem?_toList]; exact hv
          have hi : i < ks.length := by rw [← hisz]; exact (Array.getElem?_eq_some_iff.mp hv).1
          have go : ∀ {ks : List Key} {vs : List Value} {i : Nat} {v : Value}, Paired (fun k v => keyIs k v = true ∧ v.scannable = true) ks vs → vs[i]? = some v → ∃ k, ks[i]? = some k ∧ keyIs k v = true ∧ v.scannable = true := by
            intro ks vs i v hp
            induction hp generalizing i with
            | nil => intro e; cases e
            | cons r _ ih =>
              intro e
              cases i with
              | zero => cases e; exact ⟨_, rfl, r⟩
              | succ i => exact ih e
          exact go hit hv2
        refine update_loop ((Walks.list hh3 _ l hneI items).toS) s.heap.objs.size
          hSf ks hisz room hval (items.size - 0) 0 _ (by omega) (Nat.zero_le _)
          ⟨⟨_, Heap.get?_push_size _ rfl, rfl, rfl⟩, (hl1.push _)⟩ ?hS0 ?hR
        case hS0 =>
          exact empty_at (Heap.get?_push_of_some _ hS)
        case hR =>
          intro s' hm hS'
          obtain ⟨h', g2, d', tk', os'⟩ := s'
          have eg : g2 = s.gens := hm.gens
          have ed : d' = s.drawn := hm.drawn
          have eo : os' = s.os := hm.os
          subst eg; subst ed; subst eo
          show wpAny _ _ _ _ _ _
          refine wpAny_pure ?_
          show wpAny _ _ (ret Value.none) _ _ _
          refine wpAny_pure ⟨rfl, h', tk', rfl, hS', fun b o e => ?_⟩
          have b0 : b < s.heap.objs.size := Heap.lt_size e
          have b2 : b ≠ (s.heap.push (eS w)).objs.size := by
            rw [Heap.size_push]; exact Nat.ne_of_lt (Nat.lt_succ_of_lt b0)
          exact hm.heap b o (by simp only [List.mem_cons, List.mem_singleton, List.not_mem_nil, or_false, not_or]; exact ⟨Nat.ne_of_lt b0, b2⟩) (Heap.get?_push_of_some _ (Heap.get?_push_of_some _ e))
      · cases r₂ with
        | error e => exact hr₂
        | ok fl₂ =>
          cases fl₂ with
          | ret r =>
            obtain ⟨rfl, h', tk, rfl, hS', hk'⟩ := hr₂
            repeat (any_goals (first | assumption | wp_step))
            exact h _ _ hS' hk'
          | _ => exact hr₂.elim
    | _ => exact hr.elim
end
end SetX
/-! Rs3 -/
set_option Elab.async false
set_option linter.all false
set_option maxRecDepth 100000
set_option maxHeartbeats 4000000
namespace SetX
open PySem PySem.Spec PyProof.Rows L2
def kM (v : Value) : Key := keyM (0, v)
theorem keyM_snd (e : Int × Value) : keyM e = kM e.2 := rfl
section
variable {P : Program} {w : World} {A : Around} {E : Value → Shared → Prop} {s : Shared}
/-- list.sort puts lists of such values into an order that Good tells -/
def Sorter (P : Program) (w : World) (Good : List Value → Prop) (ks : List Key) : Prop := ∀ (A : Around) (E : Value → Shared → Prop) (z : Shared) (L : Addr) (vs : List Value) (R : PySem.Fin → Shared → Prop),
  (vs.map kM).Perm ks → (∀ v ∈ vs, keyIs (kM v) v = true) → z.heap.get? L = some (seqObj "list" vs.toArray 0) → vs.length ≤ sizeLine →
  (∀ out : List Value, Good out → out.Perm vs → R (.done (.ret .none)) { z with heap := sortedHeap z.heap L vs out.toArray }) → wpAny (model P w) A (Builtin.«list.sort» ⟨[.ref L], []⟩) R E z
theorem sorted_of {a : Addr} {ks : List Key} {Good : List Value → Prop} {Q : Value → Shared → Prop} (R : SetL P w s.heap a ks) (hh : A.handled = none) (so : Sorter P w Good ks)
    (hQ : ∀ z p (out : List Value) (c : Nat), (∀ b o, s.heap.get? b = some o → z.heap.get? b = some o) → z.gens = s.gens → z.os = s.os → s.heap.objs.size ≤ p →
      z.heap.get? p = some (seqObj "list" out.toArray c) → Good out → (out.map kM).Perm ks → (∀ v ∈ out, keyIs (kM v) v = true) → Q (.ref p) z) :
    wpAny (model P w) A (call (.builtin "sorted") [.ref a]) Q E s := by
  have hlen := R.len
  obtain ⟨o, es, ep, t, ho, hex, hd, g, pm, nd, hb, hf, hr, hl⟩ := R
  refine Calls.call_function_entry kind_sorted plain_sorted entry_sorted (args_sorted1 _) ?_
  unfold Builtin.«sorted»
  refine wpAny_bind (m := checkCount "sorted" 1 1 _) (wpAny_pure ?_)
  refine wpAny_bind (collect_set (A := A.in1) hh ⟨o, ho, hex.1, hd⟩ hf hb hr hl fun s1 vs k1 hz g1 o1 pv => ?_)
  have pk : (vs.map kM).Perm ks := by
    have q := pv.map kM
    rw [List.map_map] at q
    exact q.trans pm
  have hk : ∀ v ∈ vs, keyIs (kM v) v = true := fun v hv => by
    obtain ⟨e, he, q⟩ := List.mem_map.mp (pv.mem_iff.mp hv)
    subst q
    show keyIs (keyM e) e.2 = true
    exact elem_key g he
  have hz2 : vs.length ≤ sizeLine := by
    have := pk.length_eq
    rw [List.length_map] at this
    rw [this, sizeLine_eq]
    have : scanBound = 4096 := rfl
    omega
  refine wpAny_bind (wpAny_newList ?_ hz2)
  have hoL : (s1.heap.push (seqObj "list" vs.toArray 0)).get? s1.heap.objs.size = some (seqObj "list" vs.toArray 0) := Heap.get?_push_size _ rfl
  refine wpAny_bind (wpAny_holding (wpAny_call_entry slot_list_sort ⟨_, hoL, rfl⟩ entry_list_sort (so _ _ { s1 with heap := s1.heap.push (seqObj "list" vs.toArray 0) } _ vs _ pk hk hoL hz2 fun out a1 a2 => ⟨_, rfl, ?_⟩) (args_list_sort _)))
  obtain ⟨c, hc⟩ := sortedHeap_at (vs := vs) (out := out.toArray) hoL
  refine wpAny_pure ⟨_, rfl, hQ _ s1.heap.objs.size out c (fun b u e => ?_) g1 o1 hz hc a1 ((a2.map kM).trans pk) (fun v hv => hk v (a2.mem_iff.mp hv))⟩
  have q := k1 b u e
  have lt := Heap.lt_size q
  show (sortedHeap (s1.heap.push (seqObj "list" vs.toArray 0)) s1.heap.objs.size vs out.toArray).get? b = some u
  rw [sortedHeap_old (Nat.ne_of_lt lt) (by rw [size_push']; exact Nat.lt_succ_of_lt lt)]
  exact Heap.get?_push_of_some _ q
end
def unI : Key → Int
  | .inl i => i
  | .inr _ => 0
def unS : Key → Str
  | .inr x => x
  | .inl _ => Str.empty
theorem ints_shape {vs : List Value} {ks : List Key} (hk : ∀ k ∈ ks, ∃ n, k = .inl n) (p : (vs.map kM).Perm ks) (h : ∀ v ∈ vs, keyIs (kM v) v = true) : ∀ v ∈ vs, ∃ i t, v = Value.int i t := fun v hv => by
  obtain ⟨n, e⟩ := hk _ (p.mem_iff.mp (List.mem_map_of_mem hv))
  have q := h v hv
  rw [e] at q
  obtain ⟨t, e2⟩ := Value.isInt_shape q
  exact ⟨n, t, e2⟩
theorem strs_shape {vs : List Value} {ks : List Key} (hk : ∀ k ∈ ks, ∃ x, k = .inr x) (p : (vs.map kM).Perm ks) (h : ∀ v ∈ vs, keyIs (kM v) v = true) : ∀ v ∈ vs, ∃ x t, v = Value.str x t := fun v hv => by
  obtain ⟨n, e⟩ := hk _ (p.mem_iff.mp (List.mem_map_of_mem hv))
  have q := h v hv
  rw [e] at q
  obtain ⟨t, e2⟩ := Value.isStrOf_shape q
  exact ⟨n, t, e2⟩
theorem ints_kM : ∀ {vs : List Value} {ns : List Int}, IntsAre vs ns → vs.map kM = ns.map Sum.inl
  | _, _, .nil => rfl
  | _, _, .cons n t r => congrArg (_ :: ·) (ints_kM r)
theorem strs_kM : ∀ {vs : List Value} {ns : List Str}, StrsAre vs ns → vs.map kM = ns.map Sum.inr
  | _, _, .nil => rfl
  | _, _, .cons n t r => congrArg (_ :: ·) (strs_kM r)
theorem strs_of_shape : ∀ {vs : List Value}, (∀ v ∈ vs, ∃ x t, v = Value.str x t) → ∃ ss, StrsAre vs ss
  | [], _ => ⟨[], .nil⟩
  | v :: vs, h => by
    obtain ⟨x, t, rfl⟩ := h v List.mem_cons_self
    obtain ⟨ss, hs⟩ := strs_of_shape fun u hu => h u (List.mem_cons_of_mem _ hu)
    exact ⟨x :: ss, .cons x t hs⟩
theorem sorter_int {P : Program} {w : World} {ks : List Key} (hk : ∀ k ∈ ks, ∃ n, k = .inl n) : Sorter P w (fun out => ∃ ns, IntsAre out ns ∧ ns.Pairwise (· ≤ ·)) ks := by
  intro A E z L vs R p hv ho hz h
  have hI := SrtO.ints_iv (ints_shape hk p hv)
  refine SrtO.list_sort_ord SrtO.swo_int ho hz (fun h2 => SrtO.ints_sortable hI h2) fun out h1 h2 => ?_
  obtain ⟨k1, _, k3⟩ := SrtO.ints_out hI h1 h2
  exact h out ⟨_, k1, k3⟩ h2.perm
theorem perm_snd {xs : Array Keyed} {vs : List Value} (hp : xs.Perm (pairsOf vs)) : (xs.map (·.2)).toList.Perm vs := by
  have q := (Array.perm_iff_toList_perm.mp hp).map (·.2)
  rw [pairsOf_toList] at q
  rw [Array.toList_map]
  refine q.trans ?_
  have : ∀ l : List Value, (l.zip l).map (·.2) = l := fun l => by
    induction l with
    | nil => rfl
    | cons x l ih => exact congrArg (x :: ·) ih
  rw [this]
theorem sorter_str {P : Program} {w : World} {ks : List Key} (hk : ∀ k ∈ ks, ∃ n, k = .inr n) : Sorter P w (fun out => ∃ ss, StrsAre out ss ∧ sortedS ss = true) ks := by
  intro A E z L vs R p hv ho hz h
  obtain ⟨ss, hS⟩ := strs_of_shape (strs_shape hk p hv)
  refine list_sort_treeKAny strKind_oneLt ho hS.keysOf (fun v₁ v₂ rest e => keyKind_strs (by rw [← e]; exact hS)) hz fun st' hp hs => ?_
  obtain ⟨ys, g1, g2, g3⟩ := sorted_out_str hS hp hs
  have := h ((arrOf st').map (·.2)).toList ⟨ys, g1, g3⟩ (perm_snd hp)
  rw [Array.toArray_toList] at this
  exact this
/-- sorted(a set of ints) -/
def rSortedKI (P : Program) (w : World) : List V → Hp → VK → Prop := fun vs H Q => ∃ (a : Addr) (ks : List Key), vs = [V.ref a] ∧ H a = some (SetLO P w a ks) ∧ (∀ k ∈ ks, ∃ n, k = .inl n) ∧
  ∀ (ns : List Int) p, ns.Pairwise (· < ·) → (∀ n, n ∈ ns ↔ (.inl n : Key) ∈ ks) → ns.length = ks.length → H p = none → Q (.ref p) (upd H p (.lst (ns.map V.int)))
/-- sorted(a set of texts) -/
def rSortedKS (P : Program) (w : World) : List V → Hp → VK → Prop := fun vs H Q => ∃ (a : Addr) (ks : List Key), vs = [V.ref a] ∧ H a = some (SetLO P w a ks) ∧ (∀ k ∈ ks, ∃ n, k = .inr n) ∧
  ∀ (ns : List Str) p, sortedS ns = true → ns.Nodup → (∀ n, n ∈ ns ↔ (.inr n : Key) ∈ ks) → ns.length = ks.length → H p = none → Q (.ref p) (upd H p (.lst (ns.map V.str)))
theorem nd_of_map {α β : Type} {f : α → β} : ∀ {l : List α}, (l.map f).Nodup → l.Nodup
  | [], _ => List.nodup_nil
  | x :: l, h => by
    obtain ⟨h1, h2⟩ := List.nodup_cons.mp h
    exact List.nodup_cons.mpr ⟨fun z => h1 (List.mem_map_of_mem z), nd_of_map h2⟩
theorem mem_inl {ns : List Int} {n : Int} : (Sum.inl n : Key) ∈ ns.map Sum.inl ↔ n ∈ ns :=
  List.mem_map.trans ⟨fun ⟨m, h, e⟩ => Sum.inl.inj e ▸ h, fun h => ⟨n, h, rfl⟩⟩
theorem mem_inr {ns : List Str} {n : Str} : (Sum.inr n : Key) ∈ ns.map Sum.inr ↔ n ∈ ns :=
  List.mem_map.trans ⟨fun ⟨m, h, e⟩ => Sum.inr.inj e ▸ h, fun h => ⟨n, h, rfl⟩⟩
section
variable {X : Cx}
theorem SetL.nd {P : Program} {w : World} {h : Heap} {a : Addr} {ks : List Key} (R : SetL P w h a ks) : ks.Nodup := let ⟨_, _, _, _, _, _, _, _, _, nd, _⟩ := R; nd
theorem cr_sortedKI (hc : X.calm = true) : CallR X (.builtin "sorted") (rSortedKI X.prog X.w) := by
  intro pins s σ H vs us Q I r h
  obtain ⟨a, ks, rfl, ha, hk, q⟩ := h
  obtain ⟨u, rfl, ru⟩ := vals1 r
  cases ru
  have R := setLO_get I ha
  refine sorted_of R (I.ok.hd hc) (sorter_int hk) fun z p out c kp hg ho hp hat ⟨ns, n1, n2⟩ pm _ => ?_
  rw [ints_kM n1] at pm
  have nd : ns.Nodup := nd_of_map (pm.nodup_iff.mpr R.nd)
  have hlen : (ns.map V.int).length ≤ sizeLine := by
    have h1 := pm.length_eq
    have h2 := R.len
    rw [List.length_map] at h1 ⊢
    rw [h1, sizeLine_eq]
    have : scanBound = 4096 := rfl
    omega
  have I2 : Inv X pins σ (upd H p (.lst (ns.map V.int))) z := I.call' (ch := []) ho (Un.laid kp hp (I.hok.fresh hp)) (I.hok.laid kp hp ⟨hlen, out, c, vals_of_ints n1, hat⟩) (by rw [hg]; exact I.bare) (fun _ y => nomatch y)
  refine ⟨.ref p, _, I2, rfl, q ns p (lt_of_le_nodup ns n2 nd) (fun n => ?_) ?_ (I.hok.fresh hp)⟩
  · rw [← pm.mem_iff]
    exact mem_inl.symm
  · have h1 := pm.length_eq
    rw [List.length_map] at h1
    exact h1
theorem cr_sortedKS (hc : X.calm = true) : CallR X (.builtin "sorted") (rSortedKS X.prog X.w) := by
  intro pins s σ H vs us Q I r h
  obtain ⟨a, ks, rfl, ha, hk, q⟩ := h
  obtain ⟨u, rfl, ru⟩ := vals1 r
  cases ru
  have R := setLO_get I ha
  refine sorted_of R (I.ok.hd hc) (sorter_str hk) fun z p out c kp hg ho hp hat ⟨ns, n1, n2⟩ pm _ => ?_
  rw [strs_kM n1] at pm
  have nd : ns.Nodup := nd_of_map (pm.nodup_iff.mpr R.nd)
  have hlen : (ns.map V.str).length ≤ sizeLine := by
    have h1 := pm.length_eq
    have h2 := R.len
    rw [List.length_map] at h1 ⊢
    rw [h1, sizeLine_eq]
    have : scanBound = 4096 := rfl
    omega
  have I2 : Inv X pins σ (upd H p (.lst (ns.map V.str))) z := I.call' (ch := []) ho (Un.laid kp hp (I.hok.fresh hp)) (I.hok.laid kp hp ⟨hlen, out, c, vals_of_strs n1, hat⟩) (by rw [hg]; exact I.bare) (fun _ y => nomatch y)
  refine ⟨.ref p, _, I2, rfl, q ns p n2 nd (fun n => ?_) ?_ (I.hok.fresh hp)⟩
  · rw [← pm.mem_iff]
    exact mem_inr.symm
  · have h1 := pm.length_eq
    rw [List.length_map] at h1
    exact h1
/-- set(xs), xs a list of ints or texts -/
def rSetOfK (K : PySem.W.Frag) (P : Program) (w : World) : List V → Hp → VK → Prop := fun xs H Q => ∃ (l : Addr) (ks : List Key), xs = [V.ref l] ∧ SqL K H l (ks.map kV) ∧ ks.length + 1 < scanBound ∧
  ∀ p js, H p = none → (∀ k, k ∈ js ↔ k ∈ ks) → js.length ≤ ks.length → Q (.ref p) (upd H p (SetLO P w p js))
theorem keys_paired : ∀ {ks : List Key} {us : List Value}, Vals (ks.map kV) us → Paired (fun k v => keyIs k v = true ∧ v.scannable = true) ks us
  | [], _, .nil => .nil
  | k :: ks, _, .cons r t => .cons ⟨by
      cases k with
      | inl i => obtain ⟨t, rfl⟩ := r; exact keyIs_int i t
      | inr x => obtain ⟨t, rfl⟩ := r; exact keyIs_str x t, key_scan r⟩ (keys_paired t)
theorem cr_setOfK (hc : X.calm = true) : CallR X (.type "set") (rSetOfK X.K X.prog X.w) := by
  intro pins s σ H vs us Q I r h
  obtain ⟨l, ks, rfl, hs, room, q⟩ := h
  obtain ⟨u, rfl, ru⟩ := vals1 r
  cases ru
  obtain ⟨its, rv, pl, _⟩ := I.list hs
  refine call_set_keys (E := X.xe) ks (I.ok.hd hc) pl.isList (keys_paired rv) room fun z tk R kp => ?_
  exact ⟨.ref _, _, I.laid (t' := tk) kp (Nat.le_refl _) (setLO_new R), rfl, q _ _ (I.hok.fresh (Nat.le_refl _)) (fun k => by rw [gath_mem, List.mem_reverse]) (by
    have := gath_len (ks := ks.reverse)
    rw [List.length_reverse] at this
    exact this)⟩
end
/-- a set comprehension over a walk -/
theorem scK_it {P : Program} {w : World} {J : It} {n : Nat} {G : Hp → Prop} {Y : Nat → Hp → V → Hp → Prop} (wk : Walk J n G Y) {g : TG} {tt : TT} {te : TE} {vs : List Nat} {σ : L2.St} {H1 : Hp} {D : Addr} {Qd : Hp → Prop} (Pv : Nat → Hp → Prop) (h0 : Pv 0 (upd H1 D (SetLO P w D []))) (hG : ∀ i H, i ≤ n → Pv i H → G H)
    (hs : ∀ i x H H', i < n → Pv i H → Y i H x H' → g x (wipe σ vs) H' fun σ2 H2 => wipe σ2 vs = wipe σ vs ∧ tt σ2 H2 fun b H3 =>
      if b = true then te σ2 H3 fun y H4 => ∃ (k : Key) (ks : List Key), y = kV k ∧ H4 D = some (SetLO P w D ks) ∧ ks.length + 1 < scanBound ∧ Pv (i + 1) (upd H4 D (SetLO P w D (ins k ks))) else Pv (i + 1) H3) (hd : ∀ H, Pv n H → Qd H) :
    ∃ W : Nat → Nat → Hp → Prop, (∃ m, W 0 m (upd H1 D (SetLO P w D []))) ∧ ∀ i m H, W i m H →
      (J.stop i H ∧ Qd H) ∨ (J.go i H ∧ ∃ Nx : Hp → Prop, (∀ H', Nx H' → ∃ m', m' < m ∧ W (i + 1) m' H') ∧ ∀ x H', J.yld i H x H' → g x (wipe σ vs) H' fun σ2 H2 => wipe σ2 vs = wipe σ vs ∧ tt σ2 H2 fun b H3 =>
        if b = true then te σ2 H3 fun y H4 => ∃ (k : Key) (ks : List Key), y = kV k ∧ H4 D = some (SetLO P w D ks) ∧ ks.length + 1 < scanBound ∧ Nx (upd H4 D (SetLO P w D (ins k ks))) else Nx H3) := by
  refine ⟨fun i m H => m = n - i ∧ i ≤ n ∧ Pv i H, ⟨n, rfl, Nat.zero_le _, h0⟩, ?_⟩
  rintro i m H ⟨rfl, hi, p⟩
  by_cases lt : i < n
  · exact .inr ⟨wk.goes i H lt (hG i H hi p), Pv (i + 1), fun H' p' => ⟨n - (i + 1), by omega, rfl, lt, p'⟩, fun x H' y => hs i x H H' lt p (wk.yields i H x H' lt (hG i H hi p) y)⟩
  · obtain rfl : i = n := by omega
    exact .inl ⟨wk.stops H (hG _ H hi p), hd H p⟩
end SetX
/-! W8 -/
set_option Elab.async false
set_option linter.all false
set_option maxRecDepth 100000
set_option maxHeartbeats 4000000
namespace AH
open PySem PySem.Spec PyProof.Rows L2 He
/-- a comprehension without tests whose items become what stands for bs -/
theorem lc_map {β : Type} {Rb : RVT β} (kb : Kp Rb) {J : It} {n : Nat} {G : Hp → Prop} {Y : Nat → Hp → V → Hp → Prop} (wk : Walk J n G Y) {g : TG} {te : TE} {vs : List Nat} {σ : L2.St} {H1 : Hp} {D : Addr} {Qd : Hp → Prop} (bs : List β) (hb : bs.length = n) (hz : n < 10000000)
    (nD : H1 D = none) (hG : ∀ H, Same H1 H → G H)
    (step : ∀ i x b H H' (Q : VK), i < n → bs[i]? = some b → Same H1 H → Y i H x H' → (∀ y H4, Same H' H4 → Same H H4 → Rb H4 y b → Q y H4) → Same H H' ∧ g x (wipe σ vs) H' fun σ2 H2 => wipe σ2 vs = wipe σ vs ∧ te σ2 H2 Q)
    (hd : ∀ H, Same H1 H → LA Rb H D bs → Qd H) :
    ∃ W : Nat → Nat → Hp → Prop, (∃ m, W 0 m (upd H1 D (.lst []))) ∧ ∀ i m H, W i m H →
      (J.stop i H ∧ Qd H) ∨ (J.go i H ∧ ∃ Nx : Hp → Prop, (∀ H', Nx H' → ∃ m', m' < m ∧ W (i + 1) m' H') ∧ ∀ x H', J.yld i H x H' → g x (wipe σ vs) H' fun σ2 H2 => wipe σ2 vs = wipe σ vs ∧ tYes σ2 H2 fun b H3 =>
        if b = true then te σ2 H3 fun y H4 => ∃ acc, H4 D = some (.lst acc) ∧ acc.length < sizeLine ∧ Nx (upd H4 D (.lst (acc ++ [y]))) else Nx H3) := by
  refine ⟨fun i m H => m = n - i ∧ i ≤ n ∧ Same H1 H ∧ LA Rb H D (bs.take i), ⟨n, rfl, Nat.zero_le _, Same.new nD, LA.new kb nD .nil⟩, ?_⟩
  rintro i m H ⟨rfl, hi, s1, ws, hw, hp⟩
  have q := hG H s1
  by_cases lt : i < n
  · refine .inr ⟨wk.goes i H lt q, fun H => Same H1 H ∧ LA Rb H D (bs.take (i + 1)), fun H' p' => ⟨n - (i + 1), by omega, rfl, lt, p'⟩, fun x H' y => ?_⟩
    have hbi : bs[i]? = some bs[i] := List.getElem?_eq_getElem (by omega)
    refine (step i x bs[i] H H' (fun y H4 => ∃ acc, H4 D = some (.lst acc) ∧ acc.length < sizeLine ∧ Same H1 (upd H4 D (.lst (acc ++ [y]))) ∧ LA Rb (upd H4 D (.lst (acc ++ [y]))) D (bs.take (i + 1))) lt hbi s1 (wk.yields i H x H' lt q y) fun y H4 _ s2 r => ?_).2
    have hD4 := s2 _ _ hw
    refine ⟨ws, hD4, ?_, Same.put nD (s1.trans s2), ?_⟩
    · rw [Paired.len hp, List.length_take]
      have : sizeLine = 16777216 := rfl
      omega
    · rw [List.take_add_one, hbi]
      exact LA.put kb hD4 (Paired.app (Paired.kp kb (.of s2) hp) (.cons r .nil))
  · obtain rfl : i = n := by omega
    rw [← hb, List.take_length] at hp
    exact .inl ⟨wk.stops H q, hd H s1 ⟨ws, hw, hp⟩⟩
section
variable {P : Program} {w : World} {K : PySem.W.Frag} {mg : Str → Option Value} {base : Heap}
/-! ### own == -/
def sp_eqA (K : PySem.W.Frag) (v : Bool) : Sp := fun vs H Q _ => ∃ (a b : Addr) (n m : Int), vs = [.ref a, .ref b] ∧ AdrAt K v H a n ∧ AdrAt K v H b m ∧ Q (.bl (decide (n = m))) H
theorem dec_int_eq {n m : Int} : decide (V.int n = V.int m) = decide (n = m) := by
  by_cases e : n = m
  · rw [decide_eq_true e, decide_eq_true (congrArg V.int e)]
  · rw [decide_eq_false e, decide_eq_false (fun h => e (V.int.inj h))]
abbrev N_Address4_eq : List Str := ["self", "other"]
theorem sc_Address4_eq : FnScope N_Address4_eq ["self", "other"] (defScope s_Address4_eq) := ⟨rfl, rfl, rfl, by decide +kernel, rfl, by decide +kernel, by decide +kernel⟩
theorem m_Address4_eq (T : Cxt K mg) : Met P w K mg base 1 (ga K "Address4") "__eq__" (Spn 2 (sp_eqA K (false))) [] := by
  obtain ⟨fd, F⟩ := T.F_Address4_eq
  refine metN F T.c_Address4 T.m_Address4_eq sc_Address4_eq rfl (fun _ _ _ _ _ _ us hl => match us, hl with | [_, _], _ => rfl) (fun cdv A outer s H vs Q E hr h => ?_)
  have nd := sc_Address4_eq.nd
  have hu := hu_of hr
  obtain ⟨a, b, n, m, rfl, ha, hb, q⟩ := h
  obtain ⟨da, ea⟩ := id ha
  obtain ⟨db, eb⟩ := id hb
  refine ⟨_, (pss_cons (ps_if (pt_not (pt_val (pe_callB call_isi (by rfl) T.z_isinstance (by decide +kernel) (pa_cons (pv 1) (pa_cons (pe_glob (v := .ref _) rfl T.g_Address4 rfl) pa_nil))))) (pss_one (ps_ret pe_bl)) pss_nil) (pss_one (ps_ret (pe_cmpR op_eq (pe_fld (pv 0) rfl) (pe_fld (pv 1) rfl) (nomark _))))), ?_⟩
  refine ⟨_, rfl, _, _, _, _, _, rfl, .own _, ty_adr T hb, T.k_Address4_Address4, true, rfl, iteF ?_⟩
  refine ⟨_, rfl, a, _, da, _, _, rfl, ea, T.c_Address4, T.n_Address4_number, adrF_number _, _, rfl, b, _, db, _, _, rfl, eb, T.c_Address4, T.n_Address4_number, adrF_number _, rfl, ?_⟩
  rw [dec_int_eq]
  exact q
abbrev N_Address6_eq : List Str := ["self", "other"]
theorem sc_Address6_eq : FnScope N_Address6_eq ["self", "other"] (defScope s_Address6_eq) := ⟨rfl, rfl, rfl, by decide +kernel, rfl, by decide +kernel, by decide +kernel⟩
theorem m_Address6_eq (T : Cxt K mg) : Met P w K mg base 1 (ga K "Address6") "__eq__" (Spn 2 (sp_eqA K (true))) [] := by
  obtain ⟨fd, F⟩ := T.F_Address6_eq
  refine metN F T.c_Address6 T.m_Address6_eq sc_Address6_eq rfl (fun _ _ _ _ _ _ us hl => match us, hl with | [_, _], _ => rfl) (fun cdv A outer s H vs Q E hr h => ?_)
  have nd := sc_Address6_eq.nd
  have hu := hu_of hr
  obtain ⟨a, b, n, m, rfl, ha, hb, q⟩ := h
  obtain ⟨da, ea⟩ := id ha
  obtain ⟨db, eb⟩ := id hb
  refine ⟨_, (pss_cons (ps_if (pt_not (pt_val (pe_callB call_isi (by rfl) T.z_isinstance (by decide +kernel) (pa_cons (pv 1) (pa_cons (pe_glob (v := .ref _) rfl T.g_Address6 rfl) pa_nil))))) (pss_one (ps_ret pe_bl)) pss_nil) (pss_one (ps_ret (pe_cmpR op_eq (pe_fld (pv 0) rfl) (pe_fld (pv 1) rfl) (nomark _))))), ?_⟩
  refine ⟨_, rfl, _, _, _, _, _, rfl, .own _, ty_adr T hb, T.k_Address6_Address6, true, rfl, iteF ?_⟩
  refine ⟨_, rfl, a, _, da, _, _, rfl, ea, T.c_Address6, T.n_Address6_number, adrF_number _, _, rfl, b, _, db, _, _, rfl, eb, T.c_Address6, T.n_Address6_number, adrF_number _, rfl, ?_⟩
  rw [dec_int_eq]
  exact q
def sp_eqN (K : PySem.W.Frag) (v : Bool) : Sp := fun vs H Q _ => ∃ (a b : Addr) (n m : Int) (k j : Nat), vs = [.ref a, .ref b] ∧ NetAt K v H a n k ∧ NetAt K v H b m j ∧ n = m ∧ k = j ∧ Q (.bl true) H
abbrev N_Network4_eq : List Str := ["self", "other"]
theorem sc_Network4_eq : FnScope N_Network4_eq ["self", "other"] (defScope s_Network4_eq) := ⟨rfl, rfl, rfl, by decide +kernel, rfl, by decide +kernel, by decide +kernel⟩
theorem m_Network4_eq (T : Cxt K mg) : Met P w K mg base 1 (ga K "Network4") "__eq__" (Spn 2 (sp_eqN K (false))) [] := by
  obtain ⟨fd, F⟩ := T.F_Network4_eq
  refine metN F T.c_Network4 T.m_Network4_eq sc_Network4_eq rfl (fun _ _ _ _ _ _ us hl => match us, hl with | [_, _], _ => rfl) (fun cdv A outer s H vs Q E hr h => ?_)
  have nd := sc_Network4_eq.nd
  have hu := hu_of hr
  obtain ⟨a, b, n, m, k, j, rfl, ha, hb, rfl, rfl, q⟩ := h
  obtain ⟨da, pf, pl, pm, ph, pr, na⟩ := id ha
  obtain ⟨db, pf2, pl2, pm2, ph2, pr2, nb⟩ := id hb
  refine ⟨_, (pss_cons (ps_if (pt_not (pt_val (pe_callB call_isi (by rfl) T.z_isinstance (by decide +kernel) (pa_cons (pv 1) (pa_cons (pe_glob (v := .ref _) rfl T.g_Network4 rfl) pa_nil))))) (pss_one (ps_ret pe_bl)) pss_nil) (pss_one (ps_ret (pe_cmpR (op_eqD hr.units) (pe_fld (pv 0) rfl) (pe_fld (pv 1) rfl) (nomark _))))), ?_⟩
  refine ⟨_, rfl, _, _, _, _, _, rfl, .own _, ty_net T hb, T.k_Network4_Network4, true, rfl, iteF ?_⟩
  refine ⟨_, rfl, a, _, da, _, _, rfl, na.ob, T.c_Network4, T.n_Network4_rank, netF_rank _ _ _ _ _ _ _, _, rfl, b, _, db, _, _, rfl, nb.ob, T.c_Network4, T.n_Network4_rank, netF_rank _ _ _ _ _ _ _, ?_⟩
  refine ⟨_, _, .tup (SqT.of na.rank) (.cons (.int _) (.cons (.int _) .nil)), .tup (SqT.of nb.rank) (.cons (.int _) (.cons (.int _) .nil)), rfl, rfl, ?_⟩
  have e : PyData.eqv (PyData.tuple [.int n, .int ((Wd (false) : Int) - (k : Int))]) (PyData.tuple [.int n, .int ((Wd (false) : Int) - (k : Int))]) = true := by
    simp [PyData.eqv, PyData.eqvAll]
  rw [e]
  exact q
abbrev N_Network6_eq : List Str := ["self", "other"]
theorem sc_Network6_eq : FnScope N_Network6_eq ["self", "other"] (defScope s_Network6_eq) := ⟨rfl, rfl, rfl, by decide +kernel, rfl, by decide +kernel, by decide +kernel⟩
theorem m_Network6_eq (T : Cxt K mg) : Met P w K mg base 1 (ga K "Network6") "__eq__" (Spn 2 (sp_eqN K (true))) [] := by
  obtain ⟨fd, F⟩ := T.F_Network6_eq
  refine metN F T.c_Network6 T.m_Network6_eq sc_Network6_eq rfl (fun _ _ _ _ _ _ us hl => match us, hl with | [_, _], _ => rfl) (fun cdv A outer s H vs Q E hr h => ?_)
  have nd := sc_Network6_eq.nd
  have hu := hu_of hr
  obtain ⟨a, b, n, m, k, j, rfl, ha, hb, rfl, rfl, q⟩ := h
  obtain ⟨da, pf, pl, pm, ph, pr, na⟩ := id ha
  obtain ⟨db, pf2, pl2, pm2, ph2, pr2, nb⟩ := id hb
  refine ⟨_, (pss_cons (ps_if (pt_not (pt_val (pe_callB call_isi (by rfl) T.z_isinstance (by decide +kernel) (pa_cons (pv 1) (pa_cons (pe_glob (v := .ref _) rfl T.g_Network6 rfl) pa_nil))))) (pss_one (ps_ret pe_bl)) pss_nil) (pss_one (ps_ret (pe_cmpR (op_eqD hr.units) (pe_fld (pv 0) rfl) (pe_fld (pv 1) rfl) (nomark _))))), ?_⟩
  refine ⟨_, rfl, _, _, _, _, _, rfl, .own _, ty_net T hb, T.k_Network6_Network6, true, rfl, iteF ?_⟩
  refine ⟨_, rfl, a, _, da, _, _, rfl, na.ob, T.c_Network6, T.n_Network6_rank, netF_rank _ _ _ _ _ _ _, _, rfl, b, _, db, _, _, rfl, nb.ob, T.c_Network6, T.n_Network6_rank, netF_rank _ _ _ _ _ _ _, ?_⟩
  refine ⟨_, _, .tup (SqT.of na.rank) (.cons (.int _) (.cons (.int _) .nil)), .tup (SqT.of nb.rank) (.cons (.int _) (.cons (.int _) .nil)), rfl, rfl, ?_⟩
  have e : PyData.eqv (PyData.tuple [.int n, .int ((Wd (true) : Int) - (k : Int))]) (PyData.tuple [.int n, .int ((Wd (true) : Int) - (k : Int))]) = true := by
    simp [PyData.eqv, PyData.eqvAll]
  rw [e]
  exact q
end
end AH
/-! W9 -/
set_option Elab.async false
set_option linter.all false
set_option maxRecDepth 100000
set_option maxHeartbeats 4000000
namespace AH
open PySem PySem.Spec PyProof.Rows L2 He
section
variable {P : Program} {w : World} {K : PySem.W.Frag} {mg : Str → Option Value} {base : Heap}
theorem dec_int_le {n m : Int} : (decide (n ≤ m) = true) = (n ≤ m) := decide_eq_true_eq
def sp_cut : Sp := fun vs H Q _ => ∃ (l : Addr) (rs : List (AN.Row Str)) (lo hi : Int), vs = [.ref l, .int lo, .int hi] ∧ LA RowR H l rs ∧ rs.length ≤ 4096 ∧ ∀ l H', H l = none → Same H H' → LA RowR H' l (AN.cutR rs lo hi) → Q (.ref l) H'
theorem cutR_take {rs : List (AN.Row Str)} {i : Nat} {r : AN.Row Str} {lo hi : Int} (h : rs[i]? = some r) :
    AN.cutR (rs.take (i + 1)) lo hi = AN.cutR (rs.take i) lo hi ++ (if r.1 ≤ hi ∧ lo ≤ r.2.1 then [(if lo > r.1 then lo else r.1, (if hi < r.2.1 then hi else r.2.1), r.2.2)] else []) := by
  rw [List.take_add_one, h]
  unfold AN.cutR
  rw [List.filterMap_append]
  congr 1
  show List.filterMap _ [r] = _
  by_cases c : r.1 ≤ hi ∧ lo ≤ r.2.1
  · rw [if_pos c, List.filterMap_cons, if_pos c] <;> rfl
  · rw [if_neg c, List.filterMap_cons, if_neg c] <;> rfl
theorem cutR_len (rs : List (AN.Row Str)) (lo hi : Int) : (AN.cutR rs lo hi).length ≤ rs.length := List.length_filterMap_le _ _
abbrev N_cut : List Str := ["rows", "low", "high", "found", "begin", "end", "word"]
theorem sc_cut : FnScope N_cut ["rows", "low", "high"] (defScope s_cut) := ⟨rfl, rfl, rfl, by decide +kernel, rfl, by decide +kernel, by decide +kernel⟩
theorem c_cut (T : Cxt K mg) : Cal P w K mg base 1 "cut" (Spn 3 sp_cut) [] := by
  obtain ⟨fd, F⟩ := T.F_cut
  refine calN F T.g_cut sc_cut rfl (fun _ _ _ _ _ _ us hl => match us, hl with | [_, _, _], _ => rfl) (fun cdv A outer s H vs Q E hr h => ?_)
  have nd := sc_cut.nd
  have hu := hu_of hr
  obtain ⟨l, rs, lo, hi, rfl, ⟨us, hl, hp⟩, hlen, q⟩ := h
  refine ⟨_, (pss_cons (ps_set (i := 3) nd rfl (Or.inl rfl) (pe_lst pa_nil)) (pss_cons (ps_for PassesOwn.never rfl (pi_list (pv 0)) (pg_tup rfl (pgs_cons (pg_name (i := 4) nd rfl (Or.inl rfl)) (pgs_cons (pg_name (i := 5) nd rfl (Or.inl rfl)) (pgs_cons (pg_name (i := 6) nd rfl (Or.inl rfl)) pgs_nil)))) (pss_one (ps_if (PW.pt (pw_and (pt_cmpR op_le (pv 4) (pv 2) (nomark _)) (pw_and1 (pt_cmpR op_le (pv 1) (pv 5) (nomark _))))) (pss_one (ps_expr (pe_bm PySem.F.plainAttrs_list PySem.F.slot_list_append PySem.F.type_list_append mt_append (pv 3) (pa_cons (pe_tup (pa_cons (pe_callB (call_max2 rfl) (by rfl) T.z_max (by decide +kernel) (pa_cons (pv 4) (pa_cons (pv 1) pa_nil))) (pa_cons (pe_callB (call_min2 rfl) (by rfl) T.z_min (by decide +kernel) (pa_cons (pv 5) (pa_cons (pv 2) pa_nil))) (pa_cons (pv 6) pa_nil)))) pa_nil)))) pss_nil))) (pss_one (ps_ret (pv 3))))), ?_⟩
  refine ⟨by decide, fun f hf => ?_⟩
  refine ⟨_, rfl, l, rfl, ⟨us, SqL.of (Same.new hf _ _ hl)⟩, ?_⟩
  refine for_list (fun i σ' H' => ∃ a b c : Option V, σ' = [some (.ref l), some (.int lo), some (.int hi), some (.ref f), a, b, c] ∧ Same H H' ∧ LA RowR H' f (AN.cutR (rs.take i) lo hi))
    ⟨none, none, none, rfl, Same.new hf, LA.new TupR.kp hf .nil⟩ (fun i σ' H' _ ⟨_, _, _, _, s1, _⟩ => SqL.of (s1 _ _ hl)) ?_ ?_
  · rintro i x σ' H1 hx ⟨a, b, c, rfl, s1, vs, hv, hvp⟩
    obtain ⟨r, hr, t, rfl, ht⟩ := Paired.at hp hx
    have ec := cutR_take (lo := lo) (hi := hi) hr
    refine ⟨t, _, rfl, SqT.of (s1 _ _ ht), rfl, _, _, rfl, _, _, rfl, _, _, rfl, rfl, ?_⟩
    refine ⟨_, rfl, _, rfl, _, _, rfl, rfl, _, rfl, ?_⟩
    have keep : ¬ (r.1 ≤ hi ∧ lo ≤ r.2.1) → ∃ a b c : Option V, [some (V.ref l), some (V.int lo), some (V.int hi), some (V.ref f), some (V.int r.1), some (V.int r.2.1), some (oV r.2.2)] = [some (.ref l), some (.int lo), some (.int hi), some (.ref f), a, b, c] ∧ Same H H1 ∧ LA RowR H1 f (AN.cutR (rs.take (i + 1)) lo hi) := fun hn =>
      ⟨_, _, _, rfl, s1, by rw [ec, if_neg hn, List.append_nil]; exact ⟨vs, hv, hvp⟩⟩
    refine ite2 (fun c1 => ?_) (fun c1 => ?_)
    · have c1 : r.1 ≤ hi := of_decide_eq_true c1
      refine ⟨_, rfl, _, rfl, _, _, rfl, rfl, _, rfl, ?_⟩
      refine ite2 (fun c2 => ?_) (fun c2 => ?_)
      · have c2 : lo ≤ r.2.1 := of_decide_eq_true c2
        refine ⟨_, rfl, .inl ⟨rfl, _, SqL.of hv⟩, ?_⟩
        refine ⟨_, rfl, _, rfl, _, _, rfl, _, rfl, _, rfl, _, _, rfl, _, rfl, (by show 3 ≤ sizeLine; decide), fun pt npt => ?_⟩
        have s2 := Same.new (o := .tup [.int (if lo > r.1 then lo else r.1), .int (if hi < r.2.1 then hi else r.2.1), oV r.2.2]) npt
        refine ⟨f, vs, _, rfl, rfl, s2 _ _ hv, ?_, _, _, _, rfl, Same.put hf (s1.trans s2), ?_⟩
        · rw [Paired.len hvp]
          have h1 := cutR_len (rs.take i) lo hi
          rw [List.length_take] at h1
          have : sizeLine = 16777216 := rfl
          omega
        · rw [ec, if_pos (show r.1 ≤ hi ∧ lo ≤ r.2.1 from ⟨c1, c2⟩)]
          exact LA.put TupR.kp (s2 _ _ hv) (Paired.app (Paired.kp TupR.kp (.of s2) hvp) (.cons ⟨pt, rfl, upd_same⟩ .nil))
      · have c2 : ¬ lo ≤ r.2.1 := of_decide_eq_false (Bool.eq_false_iff.mpr c2)
        exact keep fun z => c2 z.2
    · have c1 : ¬ r.1 ≤ hi := of_decide_eq_false (Bool.eq_false_iff.mpr c1)
      exact iteF (keep fun z => c1 z.1)
  · rintro σ' H1 ⟨a, b, c, rfl, s1, la⟩
    refine ⟨_, rfl, q f H1 hf s1 ?_⟩
    rw [Paired.len hp, List.take_length] at la
    exact la
/-! ### versions -/
def sp_look_version : Sp := fun vs H Q _ => ∃ v : Bool, vs = [.int (Vn v : Int)] ∧ ∀ H', Same H H' → Q .non H'
abbrev N_look_version : List Str := ["version"]
theorem sc_look_version : FnScope N_look_version ["version"] (defScope s_look_version) := ⟨rfl, rfl, rfl, by decide +kernel, rfl, by decide +kernel, by decide +kernel⟩
theorem c_look_version (T : Cxt K mg) : Cal P w K mg base 2 "look_version" (Spn 1 sp_look_version) [] := by
  obtain ⟨fd, F⟩ := T.F_look_version
  refine calN F T.g_look_version sc_look_version rfl (fun _ _ _ _ _ _ us hl => match us, hl with | [_], _ => rfl) (fun cdv A outer s H vs Q E hr h => ?_)
  have nd := sc_look_version.nd
  have hu := hu_of hr
  obtain ⟨v, rfl, q⟩ := h
  refine ⟨_, (pss_one (ps_if (PW.pt (pw_or (pt_not (pt_val (pe_f (c_is_integer T) hr (by decide) rfl (pa_cons (pv 0) pa_nil)))) (pw_or1 (pt_cmpR op_notIn_seq (pv 0) (pe_tup (pa_cons pe_int (pa_cons pe_int pa_nil))) rfl)))) (pss_one ps_never) pss_nil)), ?_⟩
  refine ⟨_, rfl, rfl, _, rfl, true, rfl, iteF ?_⟩
  refine ⟨_, rfl, (by show 2 ≤ sizeLine; decide), fun t nt => ⟨t, _, rfl, .inr (SqT.of upd_same), rfl, rfl, ?_⟩⟩
  have e : (if true = true then !inV (V.int (Vn v : Int)) [.int 4, .int 6] else inV (V.int (Vn v : Int)) [.int 4, .int 6]) = false := by cases v <;> rfl
  rw [e]
  exact ⟨_, rfl, iteF (q _ (Same.new nt))⟩
def sp_width_of : Sp := fun vs H Q _ => ∃ v : Bool, vs = [.int (Vn v : Int)] ∧ Q (.int (Wd v : Int)) H
abbrev N_width_of : List Str := ["version"]
theorem sc_width_of : FnScope N_width_of ["version"] (defScope s_width_of) := ⟨rfl, rfl, rfl, by decide +kernel, rfl, by decide +kernel, by decide +kernel⟩
theorem c_width_of (T : Cxt K mg) : Cal P w K mg base 1 "width_of" (Spn 1 sp_width_of) [] := by
  obtain ⟨fd, F⟩ := T.F_width_of
  refine calN F T.g_width_of sc_width_of rfl (fun _ _ _ _ _ _ us hl => match us, hl with | [_], _ => rfl) (fun cdv A outer s H vs Q E hr h => ?_)
  have nd := sc_width_of.nd
  have hu := hu_of hr
  obtain ⟨v, rfl, q⟩ := h
  refine ⟨_, (pss_one (ps_ret (pe_ifExp (pt_cmpR op_eq (pv 0) pe_int (nomark _)) (pe_gv rfl (gint T.i_WIDTH4)) (pe_gv rfl (gint T.i_WIDTH6))))), ?_⟩
  cases v with
  | false => exact ⟨_, rfl, rfl, _, rfl, iteT q⟩
  | true => exact ⟨_, rfl, rfl, _, rfl, iteF q⟩
end
end AH
/-! W10 -/
set_option Elab.async false
set_option linter.all false
set_option maxRecDepth 100000
set_option maxHeartbeats 4000000
namespace AH
open PySem PySem.Spec PyProof.Rows L2 He
abbrev runF (t : Addr) : List (Str × V) := putF "ranges" (.ref t) []
theorem runF_ranges (t : Addr) : (runF t).lookup ("ranges" : Str) = some (.ref t) := by kernel_rfl
abbrev nsetF (v : Bool) (t : Addr) (s : Int) : List (Str × V) := putF "size" (.int s) (putF "ranges" (.ref t) (putF "version" (.int (Vn v : Int)) []))
theorem nsetF_ranges (v : Bool) (t : Addr) (s : Int) : (nsetF v t s).lookup ("ranges" : Str) = some (.ref t) := by kernel_rfl
theorem nsetF_version (v : Bool) (t : Addr) (s : Int) : (nsetF v t s).lookup ("version" : Str) = some (.int (Vn v : Int)) := by kernel_rfl
def NsetAt (K : PySem.W.Frag) (v : Bool) (H : Hp) (p t : Addr) (us : List V) : Prop := ∃ dx s, H p = some (.ins (ga K "Netset") dx (nsetF v t s)) ∧ H t = some (.tup us)
/-- an int as itself -/
abbrev IntR : RVT Int := fun _ v n => v = .int n
theorem IntR.kp : Kp IntR := fun _ _ _ _ _ h => h
theorem ints_eq {H : Hp} : ∀ {vs : List V} {ns : List Int}, Paired (IntR H) vs ns → vs = ns.map V.int
  | _, _, .nil => rfl
  | _, _, .cons r t => by rw [List.map_cons, ← ints_eq t, r]
theorem nox_of {X : Cx} {b : List Stmt} {D : Ends} {σ : L2.St} {H : Hp} (h : ∃ t, PSs X.nox b t ∧ t D σ H) : ∃ t, PSs X b t ∧ t D σ H := let ⟨t, a, c⟩ := h; ⟨t, a.nox, c⟩
section
variable {P : Program} {w : World} {K : PySem.W.Frag} {mg : Str → Option Value} {base : Heap}
def sp_runs (K : PySem.W.Frag) : Sp := fun vs H Q _ => ∃ (x dx l : Addr) (us : List V), vs = [.ref x, .ref l] ∧ H x = some (.ins (ga K "Runs") dx []) ∧ H l = some (.lst us) ∧
  ∀ H' t, But x H H' → H' x = some (.ins (ga K "Runs") dx (runF t)) → H' t = some (.tup us) → H t = none → Q .non H'
abbrev N_Runs_init : List Str := ["self", "ranges"]
theorem sc_Runs_init : FnScope N_Runs_init ["self", "ranges"] (defScope s_Runs_init) := ⟨rfl, rfl, rfl, by decide +kernel, rfl, by decide +kernel, by decide +kernel⟩
theorem k_Runs (T : Cxt K mg) : Mak P w K mg base 1 "Runs" (ga K "Runs") (Spn 2 (sp_runs K)) [] := by
  obtain ⟨fd, F⟩ := T.F_Runs_init
  refine makN F T.mk_Runs T.g_Runs sc_Runs_init rfl (fun _ _ _ _ _ _ us hl => match us, hl with | [_, _], _ => rfl) (fun cdv A outer s H vs Q E hr h => ?_)
  have nd := sc_Runs_init.nd
  have hu := hu_of hr
  obtain ⟨x, dx, l, us, rfl, hx, hl, q⟩ := h
  refine ⟨_, (pss_one (ps_fld (pv 0) (pe_callTy call_tuple_of (by rfl) T.z_tuple (by decide +kernel) (pa_cons (pv 1) pa_nil)) rfl)), ?_⟩
  refine ⟨_, rfl, l, us, rfl, .inl ⟨SqL.of hl, fun t nt => ?_⟩⟩
  have tx : t ≠ x := (ne_of_none hx nt).symm
  refine ⟨_, rfl, x, _, dx, _, rfl, Same.new nt _ _ hx, T.c_Runs, T.n_Runs_ranges, (by show 0 < 1000; decide), ?_⟩
  exact q _ t ((But.of (Same.new nt)).trans But.upd) upd_same (by rw [upd_ne tx]; exact upd_same) nt
def sp_runs_of (K : PySem.W.Frag) : Sp := fun vs H Q _ => ∃ (p dx t : Addr) (n : Int), vs = [.ref p, .int n] ∧ H p = some (.ins (ga K "Runs") dx (runF t)) ∧ Q (.ref t) H
abbrev N_runs_of : List Str := ["networks", "version", "one"]
theorem sc_runs_of : FnScope N_runs_of ["networks", "version"] (defScope s_runs_of) := ⟨rfl, rfl, rfl, by decide +kernel, rfl, by decide +kernel, by decide +kernel⟩
theorem c_runs_of (T : Cxt K mg) : Cal P w K mg base 1 "runs_of" (Spn 2 (sp_runs_of K)) [] := by
  obtain ⟨fd, F⟩ := T.F_runs_of
  refine calN F T.g_runs_of sc_runs_of rfl (fun _ _ _ _ _ _ us hl => match us, hl with | [_, _], _ => rfl) (fun cdv A outer s H vs Q E hr h => ?_)
  have nd := sc_runs_of.nd
  have hu := hu_of hr
  obtain ⟨p, dx, t, n, rfl, hp, q⟩ := h
  refine ⟨_, (pss_cons (ps_if (pt_val (pe_callB call_isi (by rfl) T.z_isinstance (by decide +kernel) (pa_cons (pv 0) (pa_cons (pe_glob (v := .ref _) rfl T.g_Runs rfl) pa_nil)))) (pss_one (ps_ret (pe_fld (pv 0) rfl))) pss_nil) pss_never), ?_⟩
  refine ⟨_, rfl, _, _, _, _, _, rfl, .own _, ty_ins hp T.c_Runs T.o_Runs T.r_Runs, T.k_Runs_Runs, true, rfl, iteT ?_⟩
  exact ⟨_, rfl, p, _, dx, _, _, rfl, hp, T.c_Runs, T.n_Runs_ranges, runF_ranges t, q⟩
def sp_nset (K : PySem.W.Frag) : Sp := fun vs H Q _ => ∃ (v : Bool) (x dx p dp t : Addr) (us : List V) (rs : List (Int × Int)), vs = [.ref x, .int (Vn v : Int), .ref p] ∧ H x = some (.ins (ga K "Netset") dx []) ∧ H p = some (.ins (ga K "Runs") dp (runF t)) ∧ H t = some (.tup us) ∧
  Paired (RgR H) us rs ∧ rs.length ≤ 4096 ∧ ∀ H', But x H H' → NsetAt K v H' x t us → Q .non H'
theorem binds_Netset_init (T : Cxt K mg) : ∃ fd, FunD K d_Netset_init.name d_Netset_init.qual d_Netset_init.params d_Netset_init.body d_Netset_init.scope (d_Netset_init.dvs K) (d_Netset_init.kws K) (fAd K d_Netset_init.at_) fd ∧
    ∃ ds, Vals [] ds ∧ L2.Binds K fd ["self", "version", "networks"] ds := by
  obtain ⟨fd, F⟩ := T.F_Netset_init
  refine ⟨fd, F, F.binds1 3 1 (by intro z; cases z) rfl (fun TT kV doc pm an cdv ct us its h1 h2 => ?_)⟩
  match us, its, h1, h2 with
  | [a, b, c], [d], _, _ => exact ⟨_, rfl, rfl⟩
abbrev N_Netset_init : List Str := ["self", "version", "networks", "low", "high"]
theorem sc_Netset_init : FnScope N_Netset_init ["self", "version", "networks"] (defScope s_Netset_init) := ⟨rfl, rfl, rfl, by decide +kernel, rfl, by decide +kernel, by decide +kernel⟩
theorem k_Netset (T : Cxt K mg) : Mak P w K mg base 3 "Netset" (ga K "Netset") (Spn 3 (sp_nset K)) [] := by
  obtain ⟨fd, F, ds, hv, hb⟩ := binds_Netset_init T
  refine makD F T.mk_Netset T.g_Netset sc_Netset_init rfl hb hv (fun cdv A outer s H vs Q E hr h => ?_)
  have nd := sc_Netset_init.nd
  have hu := hu_of hr
  obtain ⟨v, x, dx, p, dp, t, us, rs, rfl, hx, hp, ht, hrs, hlen, q⟩ := h
  refine ⟨_, (pss_cons (ps_expr (pe_f (c_look_version T) hr (by decide) rfl (pa_cons (pv 1) pa_nil))) (pss_cons (ps_fld (pv 0) (pv 1) rfl) (pss_cons (ps_fld (pv 0) (pe_f (c_runs_of T) hr (by decide) rfl (pa_cons (pv 2) (pa_cons (pv 1) pa_nil))) rfl) (pss_one (ps_fld (pv 0) (pe_callB (cr_sum rfl) (by rfl) T.z_sum (by decide +kernel) (pa_cons (pe_lc (own := [("low", 3), ("high", 4)]) (g := gTup K 2 (gCons (gName 3) (gCons (gName 4) gNil))) (tt := tYes) rfl nd (pi_tup (pe_fld (pv 0) rfl)) (blkOk_by (own := [("low", 3), ("high", 4)]) (N := N_Netset_init) (sc := defScope s_Netset_init) (by decide +kernel)) (fun _ _ _ _ _ => (pg_tup rfl (pgs_cons (pg_name (i := 3) nd rfl (Or.inl rfl) (.inr rfl)) (pgs_cons (pg_name (i := 4) nd rfl (Or.inl rfl) (.inr rfl)) pgs_nil)))) (fun _ _ _ _ _ => pts_nil) (fun _ _ _ _ _ => (pe_op op_add (pe_op op_sub (pv 4) (pv 3)) pe_int))) pa_nil)) rfl))))), ?_⟩
  refine ⟨_, rfl, rfl, v, rfl, fun H1 s1 => ?_⟩
  refine ⟨_, rfl, _, rfl, x, _, dx, _, rfl, s1 _ _ hx, T.c_Netset, T.n_Netset_version, (by show 0 < 1000; decide), ?_⟩
  have px : p ≠ x := fun e => by
    subst e
    have z := (HO.ins.inj (Option.some.inj (hx.symm.trans hp))).2.2
    have l1 : (runF t).length = 1 := by kernel_rfl
    rw [← z] at l1
    cases l1
  have tx : t ≠ x := fun e => by subst e; rw [hx] at ht; cases ht
  have B1 : ∀ {o}, But x H (upd H1 x o) := fun {o} => (But.of s1).trans But.upd
  refine ⟨_, rfl, _, rfl, rfl, p, dp, t, _, rfl, B1 _ _ hp px, ?_⟩
  refine ⟨_, rfl, x, _, dx, _, rfl, upd_same, T.c_Netset, T.n_Netset_ranges, Nat.lt_of_le_of_lt (few (Nat.le_refl 0)) (by decide), ?_⟩
  rw [upd_upd]
  generalize hH2 : upd H1 x _ = H2
  have x2 : H2 x = some (.ins (ga K "Netset") dx (putF "ranges" (.ref t) (putF "version" (.int (Vn v : Int)) []))) := by rw [← hH2]; exact upd_same
  have B2 : But x H H2 := by rw [← hH2]; exact B1
  have t2 := B2 _ _ ht tx
  refine ⟨_, rfl, x, _, dx, _, _, rfl, x2, T.c_Netset, T.n_Netset_ranges, (by kernel_rfl : _ = some (V.ref t)), t, rfl, ⟨us, SqT.of t2⟩, fun D nD => ?_⟩
  refine lc_map IntR.kp walk_tup (rs.map fun r => r.2 - r.1 + 1) (by rw [List.length_map, ← Paired.len hrs]) (by rw [Paired.len hrs]; omega) nD (fun H' s => SqT.of (s _ _ t2)) ?_ ?_
  · rintro i y b H3 H4 Q' hi hb s3 ⟨rfl, hy⟩ cont
    obtain ⟨r, hr, tt, rfl, htt⟩ := Paired.at hrs hy
    have ttx : tt ≠ x := fun e => by subst e; rw [hx] at htt; cases htt
    rw [List.getElem?_map, hr] at hb
    cases hb
    refine ⟨Same.refl _, tt, _, rfl, SqT.of (s3 _ _ (B2 _ _ htt ttx)), rfl, _, _, rfl, _, _, rfl, rfl, rfl, ?_⟩
    exact ⟨_, rfl, _, rfl, _, _, rfl, rfl, _, _, rfl, rfl, cont _ _ (Same.refl _) (Same.refl _) rfl⟩
  · rintro H3 s3 ⟨ws, hws, hwp⟩
    rw [ints_eq hwp] at hws
    refine ⟨D, _, rfl, SqL.of hws, ?_⟩
    refine ⟨_, rfl, x, _, dx, _, rfl, s3 _ _ x2, T.c_Netset, T.n_Netset_size, Nat.lt_of_le_of_lt (few (few (Nat.le_refl 0))) (by decide), ?_⟩
    exact q _ (B2.trans ((But.of s3).trans But.upd)) ⟨dx, _, upd_same, by rw [upd_ne tx]; exact s3 _ _ t2⟩
def sp_set_of (K : PySem.W.Frag) : Sp := fun vs H Q _ => ∃ (v : Bool) (l : Addr) (rs : List (Int × Int)), vs = [.ref l, .int (Vn v : Int)] ∧ LA RgR H l rs ∧ rs.length ≤ 4096 ∧
  ∀ p t us H', H p = none → Same H H' → NsetAt K v H' p t us → Paired (RgR H') us rs → Q (.ref p) H'
abbrev N_set_of : List Str := ["ranges", "version"]
theorem sc_set_of : FnScope N_set_of ["ranges", "version"] (defScope s_set_of) := ⟨rfl, rfl, rfl, by decide +kernel, rfl, by decide +kernel, by decide +kernel⟩
theorem c_set_of (T : Cxt K mg) : Cal P w K mg base 5 "set_of" (Spn 2 (sp_set_of K)) [] := by
  obtain ⟨fd, F⟩ := T.F_set_of
  refine calN F T.g_set_of sc_set_of rfl (fun _ _ _ _ _ _ us hl => match us, hl with | [_, _], _ => rfl) (fun cdv A outer s H vs Q E hr h => ?_)
  have nd := sc_set_of.nd
  have hu := hu_of hr
  obtain ⟨v, l, rs, rfl, ⟨us, hl, hp⟩, hlen, q⟩ := h
  refine ⟨_, (pss_one (ps_ret (pe_k (k_Netset T) hr (by decide) rfl (pa_cons (pv 1) (pa_cons (pe_k (k_Runs T) hr (by decide) rfl (pa_cons (pv 0) pa_nil)) pa_nil))))), ?_⟩
  refine ⟨_, rfl, _, rfl, fun p dp np ndp nep => ⟨rfl, p, dp, l, us, rfl, upd_same, (Same.new ndp).trans (Same.new (by rw [upd_ne nep.symm]; exact np)) _ _ hl, fun H1 t b1 hp1 ht1 nt => ⟨rfl, ?_⟩⟩⟩
  have s1 : Same H H1 := But.made np ndp b1
  have hp1' := Paired.kp TupR.kp (.of s1) hp
  intro x dx nx ndx nex
  have s2 : Same H1 (upd (upd H1 dx (.own x)) x (.ins (ga K "Netset") dx [])) := (Same.new ndx).trans (Same.new (by rw [upd_ne nex.symm]; exact nx))
  refine ⟨rfl, v, x, dx, p, dp, t, us, rs, rfl, upd_same, s2 _ _ hp1, s2 _ _ ht1, Paired.kp TupR.kp (.of s2) hp1', hlen, fun H2 b2 ns => ⟨rfl, ?_⟩⟩
  have s3 : Same H1 H2 := But.made nx ndx b2
  exact q x t us H2 (Same.free s1 nx) (s1.trans s3) ns (Paired.kp TupR.kp (.of s3) hp1')
def sp_nets (K : PySem.W.Frag) : Sp := fun vs H Q _ => ∃ (v : Bool) (x t : Addr) (us : List V) (rs : List (Int × Int)), vs = [.ref x] ∧ NsetAt K v H x t us ∧ Paired (RgR H) us rs ∧ rs.length ≤ 4096 ∧ (∀ r ∈ rs, 0 ≤ r.1 ∧ r.2 < AN.P (Wd v)) ∧
  ∀ p ws H', Same H H' → H' p = some (.tup ws) → Paired (NetR K v H') ws (AN.runP (Wd v) rs) → Q (.ref p) H'
abbrev N_nets : List Str := ["self", "width"]
theorem sc_nets : FnScope N_nets ["self"] (defScope s_nets) := ⟨rfl, rfl, rfl, by decide +kernel, rfl, by decide +kernel, by decide +kernel⟩
theorem p_nets (T : Cxt K mg) : ∃ fd, L2.Binds K fd ["self"] [] ∧ FnOk P w K mg base CX0 10 (nets_get K) fd ["self"] (Spn 1 (sp_nets K)) := by
  obtain ⟨fd, F⟩ := T.F_nets
  refine ⟨fd, F.bindsN (fun _ _ _ _ _ _ us hl => match us, hl with | [_], _ => rfl), F.ok sc_nets (fun vs H Q E h => h.1) (fun cdv A outer s H vs Q E hr h => nox_of ?_)⟩
  obtain ⟨_, h⟩ := h
  have nd := sc_nets.nd
  have hu := hu_of hr
  obtain ⟨v, x, t, us, rs, rfl, ⟨dx, sz, hx, ht⟩, hp, hlen, hrs, q⟩ := h
  refine ⟨_, (pss_cons (ps_set (i := 1) nd rfl (Or.inl rfl) (pe_f (c_width_of T) hr (by decide) rfl (pa_cons (pe_fld (pv 0) rfl) pa_nil))) (pss_one (ps_ret (pe_callTy call_tuple_of (by rfl) T.z_tuple (by decide +kernel) (pa_cons (pe_f (c_networks_of T) hr (by decide) rfl (pa_cons (pe_f (c_pieces T) hr (by decide) rfl (pa_cons (pe_fld (pv 0) rfl) (pa_cons (pv 1) pa_nil))) (pa_cons (pv 1) pa_nil))) pa_nil))))), ?_⟩
  refine ⟨_, rfl, x, _, dx, _, _, rfl, hx, T.c_Netset, T.n_Netset_version, nsetF_version v t sz, rfl, v, rfl, ?_⟩
  refine ⟨_, rfl, x, _, dx, _, _, rfl, hx, T.c_Netset, T.n_Netset_ranges, nsetF_ranges v t sz, _, rfl, rfl, Wd v, t, us, rs, rfl, Wd_le v, ht, hp, hlen, hrs, fun l H1 nl s1 la => ?_⟩
  refine ⟨_, rfl, rfl, v, l, _, rfl, la, ?_, ?_, fun l2 H2 nl2 s2 la2 => ?_⟩
  · intro b hb
    obtain ⟨r, hr, hb2⟩ := List.mem_flatMap.mp hb
    exact pcs_nok (hrs r hr).1 (hrs r hr).2 b hb2
  · have h1 := flat_len (Wd_le v) hrs
    omega
  · obtain ⟨ws, hw, hwp⟩ := la2
    refine ⟨l2, ws, rfl, .inl ⟨SqL.of hw, fun p np => ?_⟩⟩
    exact q p ws _ ((s1.trans s2).trans (Same.new np)) upd_same (Paired.kp NetR.kp (.of (Same.new np)) hwp)
end
end AH
/-! W11 -/
set_option Elab.async false
set_option linter.all false
set_option maxRecDepth 100000
set_option maxHeartbeats 4000000
namespace AH
open PySem PySem.Spec PyProof.Rows L2 He
/-! ### words -/
structure WordOk (w : Str) : Prop where
  low : 1 ≤ w.length
  high : w.length ≤ 20
  abc : ∀ c ∈ w.cps.toList, 97 ≤ c ∧ c ≤ 122
theorem letters (c : Nat) (h : 97 ≤ c ∧ c ≤ 122) : c ∈ ("abcdefghijklmnopqrstuvwxyz" : Str).cps.toList := by
  have e : ("abcdefghijklmnopqrstuvwxyz" : Str).cps.toList = (List.range 26).map (97 + ·) := by decide +kernel
  rw [e]
  exact List.mem_map.mpr ⟨c - 97, List.mem_range.mpr (by omega), by omega⟩
abbrev BlR : RVT Bool := fun _ v b => v = .bl b
theorem BlR.kp : Kp BlR := fun _ _ _ _ _ h => h
theorem bls_eq {H : Hp} : ∀ {vs : List V} {ns : List Bool}, Paired (BlR H) vs ns → vs = ns.map V.bl
  | _, _, .nil => rfl
  | _, _, .cons r t => by rw [List.map_cons, ← bls_eq t, r]
section
variable {P : Program} {w : World} {K : PySem.W.Frag} {mg : Str → Option Value} {base : Heap}
def sp_is_word : Sp := fun vs H Q _ => ∃ z : Str, vs = [.str z] ∧ WordOk z ∧ ∀ H', Same H H' → Q (.bl true) H'
abbrev N_is_word : List Str := ["thing", "sign"]
theorem sc_is_word : FnScope N_is_word ["thing"] (defScope s_is_word) := ⟨rfl, rfl, rfl, by decide +kernel, rfl, by decide +kernel, by decide +kernel⟩
theorem c_is_word (T : Cxt K mg) : Cal P w K mg base 1 "is_word" (Spn 1 sp_is_word) [] := by
  obtain ⟨fd, F⟩ := T.F_is_word
  refine calN F T.g_is_word sc_is_word rfl (fun _ _ _ _ _ _ us hl => match us, hl with | [_], _ => rfl) (fun cdv A outer s H vs Q E hr h => ?_)
  have nd := sc_is_word.nd
  have hu := hu_of hr
  obtain ⟨z, rfl, ok, q⟩ := h
  have l20 : z.length ≤ sizeLine := Nat.le_trans ok.high (by decide)
  refine ⟨_, (pss_cons (ps_if (PW.pt (pw_or (pt_not (pt_val (pe_callB call_isi (by rfl) T.z_isinstance (by decide +kernel) (pa_cons (pv 0) (pa_cons (pe_bltn (v := .ty "str") (by rfl) T.z_str (by decide +kernel) rfl) pa_nil))))) (pw_or1 (pt_not (pt_chain op_le op_le pe_int (pe_callB call_len_str (by rfl) T.z_len (by decide +kernel) (pa_cons (pv 0) pa_nil)) (pe_gv rfl (gint T.i_MOST_LETTERS))))))) (pss_one (ps_ret pe_bl)) pss_nil) (pss_one (ps_ret (pe_callB (cr_all rfl) (by rfl) T.z_all (by decide +kernel) (pa_cons (pe_lc (own := [("sign", 1)]) (g := gName 1) (tt := tYes) rfl nd (pi_str (pv 0)) (blkOk_by (own := [("sign", 1)]) (N := N_is_word) (sc := defScope s_is_word) (by decide +kernel)) (fun _ _ _ _ _ => (pg_name (i := 1) nd rfl (Or.inl rfl) (.inr rfl))) (fun _ _ _ _ _ => pts_nil) (fun _ _ _ _ _ => (pe_cmpR op_in_sign (pv 1) (pe_gv rfl (gstr T.t_LETTERS)) rfl))) pa_nil))))), ?_⟩
  refine ⟨_, rfl, _, _, _, _, true, rfl, .ty _, .base (.str _), kit_of (by decide +kernel), true, rfl, iteF ?_⟩
  refine ⟨_, rfl, z, rfl, l20, _, _, rfl, rfl, _, rfl, ?_⟩
  have e1 : decide ((1:Int) ≤ (z.length : Int)) = true := decide_eq_true (by have := ok.low; omega)
  have e2 : decide ((z.length : Int) ≤ 20) = true := decide_eq_true (by have := ok.high; omega)
  rw [e1]
  refine iteT ⟨_, _, rfl, rfl, _, rfl, ?_⟩
  rw [e2]
  refine iteF ?_
  refine ⟨_, rfl, z, rfl, fun D nD => ?_⟩
  refine lc_map BlR.kp walk_str (List.replicate z.cps.size true) (List.length_replicate ..) (Nat.lt_of_le_of_lt (show z.cps.size ≤ 20 from ok.high) (by decide)) nD (fun _ _ => trivial) ?_ ?_
  · rintro i y b H3 H4 Q' hi hb s3 ⟨rfl, c, hc, rfl⟩ cont
    refine ⟨Same.refl _, rfl, ?_⟩
    refine ⟨_, rfl, c, _, rfl, rfl, ?_⟩
    have hm : c ∈ z.cps.toList := by
      have : z.cps.toList[i]? = some c := by rw [Array.getElem?_toList]; exact hc
      exact List.mem_of_getElem? this
    rw [decide_eq_true (letters c (ok.abc c hm))]
    refine cont _ _ (Same.refl _) (Same.refl _) ?_
    rw [List.getElem?_replicate, if_pos hi] at hb
    cases hb
    rfl
  · rintro H3 s3 ⟨ws, hws, hwp⟩
    rw [bls_eq hwp] at hws
    refine ⟨D, _, rfl, SqL.of hws, ?_⟩
    have e : (List.replicate z.cps.size true).all id = true := List.all_eq_true.mpr fun b hb => (List.mem_replicate.mp hb).2
    rw [e]
    exact q H3 s3
end
/-! ### books -/
abbrev keyE (v : Bool) (b : Int × Nat) : List Key := [.inl b.1, .inl ((Wd v : Int) - (b.2 : Int))]
theorem keyE_inj {v : Bool} {b c : Int × Nat} (h : keyE v b = keyE v c) : b = c := by
  obtain ⟨n, k⟩ := b
  obtain ⟨m, j⟩ := c
  have h1 := Sum.inl.inj (List.cons.inj h).1
  have h2 := Sum.inl.inj (List.cons.inj (List.cons.inj h).2).1
  have : k = j := by
    have h3 : (Wd v : Int) - (k : Int) = (Wd v : Int) - (j : Int) := h2
    omega
  have h4 : n = m := h1
  rw [h4, this]
abbrev rowsT (v : Bool) (E : List (AN.Ent Str)) : List (List Key × V) := E.map fun e => (keyE v e.1, V.str e.2)
theorem valT (v : Bool) (b : Int × Nat) : ∀ E : List (AN.Ent Str), valV (rowsT v E) (keyE v b) = (AN.val E b).map V.str
  | [] => rfl
  | e :: E => by
    have ih := valT v b E
    by_cases h : e.1 = b
    · rw [show rowsT v (e :: E) = (keyE v e.1, V.str e.2) :: rowsT v E from rfl, valV_pos (by rw [h])]
      unfold AN.val
      rw [List.find?_cons, decide_eq_true h]
      rfl
    · rw [show rowsT v (e :: E) = (keyE v e.1, V.str e.2) :: rowsT v E from rfl, valV_neg (fun z => h (keyE_inj z)), ih]
      unfold AN.val
      rw [List.find?_cons, decide_eq_false h]
def putE (E : List (AN.Ent Str)) (b : Int × Nat) (w : Str) : List (AN.Ent Str) := if (AN.val E b).isSome then E.map (fun e => if e.1 = b then (e.1, w) else e) else E ++ [(b, w)]
theorem putT (v : Bool) (E : List (AN.Ent Str)) (b : Int × Nat) (w : Str) : putK (rowsT v E) (keyE v b) (.str w) = rowsT v (putE E b w) := by
  have e : ((rowsT v E).any fun kv => decide (kv.1 = keyE v b)) = (AN.val E b).isSome := by
    rw [valV_any, valT, Option.isSome_map]
  unfold putK putE
  rw [e]
  cases (AN.val E b).isSome with
  | true =>
    rw [if_pos rfl, if_pos rfl]
    show (E.map _).map _ = (E.map _).map _
    rw [List.map_map, List.map_map]
    refine List.map_congr_left fun d _ => ?_
    by_cases h : d.1 = b
    · simp only [Function.comp]
      rw [if_pos (by rw [h]), if_pos h]
    · simp only [Function.comp]
      rw [if_neg (fun z => h (keyE_inj z)), if_neg h]
  | false =>
    rw [if_neg (by decide), if_neg (by decide)]
    show _ = (E ++ [_]).map _
    rw [List.map_append]
    rfl
def dropE (E : List (AN.Ent Str)) (b : Int × Nat) : List (AN.Ent Str) := E.filter fun e => decide (e.1 ≠ b)
theorem dropT (v : Bool) (b : Int × Nat) : ∀ E : List (AN.Ent Str), dropK (rowsT v E) (keyE v b) = rowsT v (dropE E b)
  | [] => rfl
  | e :: E => by
    have ih := dropT v b E
    unfold dropK dropE at ih ⊢
    rw [show rowsT v (e :: E) = (keyE v e.1, V.str e.2) :: rowsT v E from rfl, List.filter_cons, List.filter_cons]
    by_cases h : e.1 = b
    · rw [decide_eq_false (show ¬ e.1 ≠ b from fun z => z h), decide_eq_false (show ¬ (keyE v e.1 ≠ keyE v b) from fun z => z (by rw [h]))]
      simpa using ih
    · rw [decide_eq_true (show e.1 ≠ b from h), decide_eq_true (show keyE v e.1 ≠ keyE v b from fun z => h (keyE_inj z))]
      simpa using ih
abbrev bookF (v : Bool) (d : Addr) : List (Str × V) := putF "rows" (.ref d) (putF "width" (.int (Wd v : Int)) (putF "version" (.int (Vn v : Int)) []))
theorem bookF_rows (v : Bool) (d : Addr) : (bookF v d).lookup ("rows" : Str) = some (.ref d) := by kernel_rfl
theorem bookF_width (v : Bool) (d : Addr) : (bookF v d).lookup ("width" : Str) = some (.int (Wd v : Int)) := by kernel_rfl
theorem bookF_version (v : Bool) (d : Addr) : (bookF v d).lookup ("version" : Str) = some (.int (Vn v : Int)) := by kernel_rfl
/-- the book at p, its rows' dict at d -/
structure BookAt (K : PySem.W.Frag) (v : Bool) (H : Hp) (p d : Addr) (E : List (AN.Ent Str)) : Prop where
  ob : ∃ dx, H p = some (.ins (ga K "Book") dx (bookF v d))
  rows : H d = some (.dT (rowsT v E))
theorem BookAt.mono {K : PySem.W.Frag} {v : Bool} {H H' : Hp} {p d : Addr} {E : List (AN.Ent Str)} (s : Same H H') (b : BookAt K v H p d E) : BookAt K v H' p d E := ⟨let ⟨dx, h⟩ := b.ob; ⟨dx, s _ _ h⟩, s _ _ b.rows⟩
end AH
/-! Rt -/
set_option Elab.async false
set_option linter.all false
set_option maxRecDepth 100000
set_option maxHeartbeats 4000000
/-! dicts whose keys are pairs of ints: pop(k), sorted(d) -/
namespace L2
open PySem PySem.Spec PyProof.Rows
section
variable {X : Cx}
/-- d.pop(k), there -/
def rPopT1 : V → List V → Hp → VK → Prop := fun x xs H Q => ∃ (a : Addr) (kvs : List (List Key × V)) (k : List Key) (b : Addr) (v : V), x = .ref a ∧ xs = [.ref b] ∧ H a = some (.dT kvs) ∧ H b = some (.tup (k.map kV)) ∧ valV kvs k = some v ∧ Q v (upd H a (.dT (dropK kvs k)))
theorem mt_popT1 (hu : X.A.units + 1 < cLine) : MtR X "dict.pop" rPopT1 := by
  intro pins s σ H x xs v us Q I rx rxs h
  obtain ⟨a, kvs, k, b, d, rfl, rfl, ha, hb, hv, q⟩ := h
  cases rx
  obtain ⟨u1, rfl, r1⟩ := Vals.one rxs
  cases r1
  obtain ⟨z, hd, ts, rel, dd⟩ := dt_of I.hok ha
  have hz : ts.length ≤ sizeLine := by rw [← Paired.length rel]; exact z
  have r := rel.val k
  rw [hv] at r
  obtain ⟨p, hp, rp⟩ : ∃ p, atKey ts k = some p ∧ RelV d p.2 := by
    cases e : atKey ts k with
    | none =>
      rw [e] at r
      exact (show False from r).elim
    | some p =>
      rw [e] at r
      exact ⟨p, rfl, r⟩
  refine call_pop_heap (hsz := hz) (.inl rfl) (PySem.F.args_dict_pop_2 _ _) (tupleKind_room_in1 hu) (key_of I.hok hb) hd dd hp fun h2 m2 sb => ?_
  obtain ⟨o, es, ep, hq, e2, e3, e4, _, e5⟩ := m2
  exact ⟨d, _, d_write (ob := .dT (dropK kvs k)) I (by rw [ha]; exact True.intro) sb ⟨o, hq⟩ ⟨Nat.le_trans (dropK_le kvs k) z, hd, _, (DX.KT_drop k rel).keeps (fun c ys ec => by rw [upd_ne (ne_of ec ha (fun y => nomatch y))]; exact ec), o, es, ep, hq, e2, e3, e4, e5⟩, rp, q⟩
end
/-- the pair of ints at u -/
def pairAt (H : Hp) : Value → Int × Int
  | .ref b => match H b with
    | some (.tup [.int x, .int y]) => (x, y)
    | _ => (0, 0)
  | _ => (0, 0)
theorem pairAt_ref {H : Hp} {b : Addr} {x y : Int} (h : H b = some (.tup [.int x, .int y])) : pairAt H (.ref b) = (x, y) := by
  show (match H b with
    | some (.tup [.int x, .int y]) => (x, y)
    | _ => (0, 0)) = (x, y)
  rw [h]
section
variable {X : Cx}
theorem isPair_of {pins : List (Addr × Obj)} {σ : L2.St} {H : Hp} {s : Shared} {b : Addr} {x y : Int} (I : Inv X pins σ H s) (h : H b = some (.tup [.int x, .int y])) : Srt.IsPair s.heap (.ref b) x y := by
  obtain ⟨_, its, r, o, ho, hc, n, hd⟩ := I.hok _ _ h
  obtain ⟨u1, u2, rfl, ri, rj⟩ := vals2 r
  obtain ⟨t1, rfl⟩ := ri
  obtain ⟨t2, rfl⟩ := rj
  exact ⟨b, o, t1, t2, n, rfl, ho, hc, hd⟩
/-- sorted(d), its keys pairs of ints, any number of them -/
def rSortedDT : List V → Hp → VK → Prop := fun vs H Q => ∃ (a : Addr) (kvs : List (List Key × V)) (ps : List (Int × Int)), vs = [V.ref a] ∧ H a = some (.dT kvs) ∧ kvs.map (·.1) = ps.map (fun r => [.inl r.1, .inl r.2]) ∧
  ∀ (bs : List Addr) (qs : List (Int × Int)) p, qs.Perm ps → qs.Pairwise (fun x y => SrtO.lexB y x = false) → Paired (fun b r => H b = some (.tup [.int r.1, .int r.2])) bs qs → H p = none → Q (.ref p) (upd H p (.lst (bs.map V.ref)))
theorem keyrefs {H : Hp} : ∀ {kvs : List (List Key × V)} {ks : List (List Key × Addr × Value)} {ps : List (Int × Int)}, KT H kvs ks → kvs.map (·.1) = ps.map (fun r => [.inl r.1, .inl r.2]) →
    Paired (fun b r => H b = some (.tup [.int r.1, .int r.2])) (ks.map fun x => x.2.1) ps
  | [], [], [], .nil, _ => .nil
  | k :: kvs, y :: ks, p :: ps, .cons h t, e => by
    obtain ⟨e1, e2⟩ := List.cons.inj e
    refine .cons ?_ (keyrefs t e2)
    have h2 := h.2.1
    have e3 : k.1 = [.inl p.1, .inl p.2] := e1
    rw [e3] at h2
    exact h2
  | [], [], _ :: _, _, e => nomatch e
  | _ :: _, _ :: _, [], _, e => nomatch e
theorem paired_map {α β : Type} {F : α → β → Prop} {f : α → β} : ∀ {l : List α} {m : List β}, Paired F l m → (∀ a b, F a b → f a = b) → l.map f = m
  | _, _, .nil, _ => rfl
  | _, _, .cons r t, h => by rw [List.map_cons, h _ _ r, paired_map t h]
theorem paired_of_all {α β : Type} {F : α → β → Prop} {f : α → β} : ∀ {l : List α}, (∀ a ∈ l, F a (f a)) → Paired F l (l.map f)
  | [], _ => .nil
  | a :: l, h => .cons (h a List.mem_cons_self) (paired_of_all fun b hb => h b (List.mem_cons_of_mem _ hb))
theorem paired_all {α β : Type} {F : α → β → Prop} : ∀ {l : List α} {m : List β}, Paired F l m → ∀ a ∈ l, ∃ b, F a b
  | _, _, .nil, _, h => nomatch h
  | _, _, .cons r t, a, h => by
    rcases List.mem_cons.mp h with e | h
    · subst e
      exact ⟨_, r⟩
    · exact paired_all t a h
theorem cr_sortedDT (hc : X.calm = true) : CallR X (.builtin "sorted") rSortedDT := by
  intro pins s σ H vs us Q I r h
  obtain ⟨a, kvs, ps, rfl, ha, hk, q⟩ := h
  obtain ⟨u, rfl, ru⟩ := vals1 r
  cases ru
  obtain ⟨z, hs, ks, pr, o, es, ep, ho, hx, hdt, he, hn⟩ := I.hok a _ ha
  have l1 : es.size = ks.length := size_of_entries he
  have l2 : kvs.length = ks.length := Paired.length pr
  have prs := keyrefs pr hk
  generalize hbs : (ks.map fun x => x.2.1) = bs at prs
  have lb : bs.length = ks.length := by rw [← hbs, List.length_map]
  refine Calls.call_function_entry kind_sorted plain_sorted entry_sorted (args_sorted1 _) ?_
  unfold Builtin.«sorted»
  refine wpAny_bind (m := checkCount "sorted" 1 1 _) (wpAny_pure ?_)
  refine wpAny_bind (PySem.W.kdu_collect (A := X.A.in1) (kdl_raw hs hx hdt) (I.ok.hd hc) ho (by omega) fun h' tk acc kp it => ?_)
  have ea : acc.toList = bs.map Value.ref := by
    have hl : acc.toList.length = ks.length := by rw [Array.length_toList, it.1]; exact l1
    rw [← hbs, List.map_map]
    apply List.ext_getElem?
    intro j
    rw [List.getElem?_map]
    cases hj : acc.toList[j]? with
    | none =>
      have h1 := List.getElem?_eq_none_iff.mp hj
      rw [List.getElem?_eq_none (by omega)]
      rfl
    | some v =>
      obtain ⟨en, hen, hv⟩ := it.2 j v (by rw [← Array.getElem?_toList]; exact hj)
      have qe := entry_at he j
      rw [hen] at qe
      cases hb : ks[j]? with
      | none =>
        rw [hb] at qe
        exact nomatch (show some en = none from qe)
      | some b =>
        rw [hb] at qe
        have e2 : en = entryOfKey (tupleKind (mixKind X.prog X.w)) b := Option.some.inj qe
        rw [hv, e2]
        rfl
  rw [ea]
  have hz : (bs.map Value.ref).length ≤ sizeLine := by rw [List.length_map]; omega
  have I1 : Inv X pins σ H { s with heap := h', toks := tk } := I.kept kp
  refine wpAny_bind (wpAny_newList ?_ hz)
  have hoL : (h'.push (seqObj "list" (bs.map Value.ref).toArray 0)).get? h'.objs.size = some (seqObj "list" (bs.map Value.ref).toArray 0) := Heap.get?_push_size _ rfl
  have hp : ∀ v ∈ bs.map Value.ref, Srt.IsPair (h'.push (seqObj "list" (bs.map Value.ref).toArray 0)) v (pairAt H v).1 (pairAt H v).2 := fun v hv => by
    obtain ⟨b, hb, rfl⟩ := List.mem_map.mp hv
    obtain ⟨rr, hr⟩ := paired_all prs b hb
    rw [pairAt_ref hr]
    exact (isPair_of I1 hr).keeps fun c oc e _ => Heap.get?_push_of_some _ e
  show wpAny _ _ _ _ _ { s with heap := h'.push (seqObj "list" (bs.map Value.ref).toArray 0), toks := tk }
  refine wpAny_bind (wpAny_holding (wpAny_call_entry slot_list_sort ⟨_, hoL, rfl⟩ entry_list_sort
    (SrtO.list_sort_ord (s := { s with heap := h'.push (seqObj "list" (bs.map Value.ref).toArray 0), toks := tk }) (SrtO.swo_lex (pairAt H)) hoL hz
      (fun h2 => SrtO.pairs_sortableO (s := { s with heap := h'.push (seqObj "list" (bs.map Value.ref).toArray 0), toks := tk }) (by omega) hp fun oc e => ?_) fun out s1 s2 => ⟨_, rfl, ?_⟩) (args_list_sort _)))
  · have e2 : some oc = some (seqObj "list" (bs.map Value.ref).toArray 0) := e.symm.trans hoL
    cases e2
    intro c
    exact absurd (Value.type.inj c) (by decide)
  obtain ⟨c, hc2⟩ := sortedHeap_at (vs := bs.map Value.ref) (out := out.toArray) hoL
  have refs : ∀ v ∈ out, ∃ b ∈ bs, v = Value.ref b := fun v hv => by
    obtain ⟨b, hb, e⟩ := List.mem_map.mp (s2.perm.mem_iff.mp hv)
    exact ⟨b, hb, e.symm⟩
  -- the addresses in their new order
  have unref : ∀ l : List Value, (∀ v ∈ l, ∃ b ∈ bs, v = Value.ref b) → ∃ cs : List Addr, l = cs.map Value.ref := by
    intro l
    induction l with
    | nil => exact fun _ => ⟨[], rfl⟩
    | cons v l ih =>
      intro h
      obtain ⟨b, _, rfl⟩ := h v List.mem_cons_self
      obtain ⟨cs, rfl⟩ := ih fun u hu => h u (List.mem_cons_of_mem _ hu)
      exact ⟨b :: cs, rfl⟩
  obtain ⟨cs, rfl⟩ := unref out refs
  have mem : ∀ b ∈ cs, b ∈ bs := fun b hb => by
    obtain ⟨b2, h2, e⟩ := refs (.ref b) (List.mem_map_of_mem hb)
    cases e
    exact h2
  have pm : (cs.map fun b => pairAt H (.ref b)).Perm ps := by
    have e1 := s2.perm.map (pairAt H)
    rw [List.map_map, List.map_map] at e1
    refine e1.trans ?_
    rw [show (List.map (pairAt H ∘ Value.ref) bs) = ps from paired_map prs fun b r e => pairAt_ref e]
  have pw : (cs.map fun b => pairAt H (.ref b)).Pairwise (fun x y => SrtO.lexB y x = false) := by
    have := List.pairwise_map.mp (show List.Pairwise (fun v u => SrtO.lexB (pairAt H u) (pairAt H v) = false) (cs.map Value.ref) from s1)
    exact List.pairwise_map.mpr this
  have pd : Paired (fun b r => H b = some (.tup [.int r.1, .int r.2])) cs (cs.map fun b => pairAt H (.ref b)) := paired_of_all fun b hb => by
    obtain ⟨rr, hr⟩ := paired_all prs b (mem b hb)
    rw [pairAt_ref hr]
    exact hr
  have lc : (cs.map V.ref).length ≤ sizeLine := by
    have := s2.perm.length_eq
    rw [List.length_map, List.length_map] at this
    rw [List.length_map, this]
    omega
  refine wpAny_pure ⟨_, rfl, .ref h'.objs.size, upd H h'.objs.size (.lst (cs.map V.ref)), I1.laid (t' := tk) (fun b u e => ?_) (Nat.le_refl _) ⟨lc, cs.map Value.ref, c, vals_refs cs, hc2⟩, rfl, q cs _ _ pm pw pd (I1.hok.fresh (Nat.le_refl _))⟩
  have hb : b < h'.objs.size := Heap.lt_size e
  rw [sortedHeap_old (Nat.ne_of_lt hb) (by rw [size_push']; exact Nat.lt_succ_of_lt hb)]
  exact Heap.get?_push_of_some _ e
end
end L2
/-! Ru -/
set_option Elab.async false
set_option linter.all false
set_option maxRecDepth 100000
set_option maxHeartbeats 4000000
/-! == of two dicts whose keys are tuples and whose values are texts -/
namespace L2
open PySem PySem.Spec PyProof.Rows
section
variable {prog : Program} {w : World} {K : Type} [DecidableEq K] {knd : HeapKind prog w K} {A : Around} {E : Value → Shared → Prop} {s : Shared}
/-- the entry x has its like in ys -/
def likeIn (eqv : Value → Value → Bool) (ys : List (K × Addr × Value)) (x : K × Addr × Value) : Bool := match atKey ys x.1 with
  | none => false
  | some p => eqv x.2.2 p.2
theorem atKey_of {ys : List (K × Addr × Value)} (nd : (ys.map (·.1)).Nodup) {j : Nat} {k : K} {p : Addr × Value} (h : ys[j]? = some (k, p)) : atKey ys k = some p := by
  induction ys generalizing j with
  | nil => cases h
  | cons y ys ih =>
    obtain ⟨n1, n2⟩ := List.nodup_cons.mp nd
    cases j with
    | zero =>
      cases h
      simp [atKey, List.find?_cons]
    | succ j =>
      have ne : ¬ y.1 = k := fun e => n1 (List.mem_map.mpr ⟨(k, p), List.mem_of_getElem? h, e.symm⟩)
      have := ih n2 h
      simpa [atKey, List.find?_cons, ne] using this
theorem atKey_no {ys : List (K × Addr × Value)} {k : K} (h : ∀ (j : Nat) (p : Addr × Value), ys[j]? ≠ some (k, p)) : atKey ys k = none := by
  cases e : atKey ys k with
  | none => rfl
  | some p =>
    exfalso
    unfold atKey at e
    obtain ⟨y, hy, e2⟩ := Option.map_eq_some_iff.mp e
    have hm := List.mem_of_find?_eq_some hy
    have hk : y.1 = k := by simpa using List.find?_some hy
    obtain ⟨j, hj⟩ := List.getElem?_of_mem hm
    refine h j p ?_
    rw [hj, ← hk, ← e2]
theorem samePairsH {nm : String} {a b : Addr} {xs ys : List (K × Addr × Value)} {eqv : Value → Value → Bool} {Q : Bool → Shared → Prop} (hu : knd.room A) (ha : (a == sysModules) = false) (hb : (b == sysModules) = false)
    (da : s.heap.DictOfH knd a xs) (db : s.heap.DictOfH knd b ys) (he : ∀ x ∈ xs, ∀ y ∈ ys, SeqAt.EqAt A s x.2.2 y.2.2 (eqv x.2.2 y.2.2)) (h : Q (xs.length == ys.length && xs.all (likeIn eqv ys)) s) :
    wpAny (model prog w) A (Builtin.Dict.samePairs nm a b) Q E s := by
  obtain ⟨oa, es, ep, hoa, _, hda, hka, hia, _⟩ := da
  obtain ⟨ob, fs, fp, hob, _, hdb, hkb, hib, hnb⟩ := db
  have la : es.size = xs.length := size_of_entries hka
  have lb : fs.size = ys.length := size_of_entries hkb
  unfold Builtin.Dict.samePairs Builtin.Dict.showsAll
  rw [if_neg (show ¬ (a == sysModules) = true by rw [ha]; exact Bool.false_ne_true), if_neg (show ¬ (b == sysModules) = true by rw [hb]; exact Bool.false_ne_true)]
  refine wpAny_bind (wpAny_pure (wpAny_bind (wpAny_pure ?_)))
  refine wpAny_bind (wpAny_dictEntries hoa hda ?_)
  dsimp only
  refine wpAny_bind (wpAny_dictEntries hob hdb ?_)
  by_cases sz : es.size = fs.size
  · rw [if_neg (by rw [sz]; simp)]
    have lxy : (xs.length == ys.length) = true := by rw [← la, ← lb, sz]; exact beq_self_eq_true _
    rw [lxy, Bool.true_and] at h
    refine wpAny_bind (wpAny_dictEpoch hoa hda ?_)
    refine wpAny_bind ?_
    rw [Std.Legacy.Range.forIn_eq_forIn_range']
    simp only [Std.Legacy.Range.size, Nat.sub_zero, Nat.add_sub_cancel, Nat.div_one]
    refine wpAny_forIn_list _
      (fun rest q z => z = s ∧ q = (none, ()) ∧ ∃ i, rest = List.range' i (es.size - i) ∧ i ≤ es.size ∧ (xs.drop i).all (likeIn eqv ys) = xs.all (likeIn eqv ys))
      _ ?_ ?_ _ _ ⟨rfl, rfl, 0, by simp, Nat.zero_le _, rfl⟩
    · rintro x rest q z ⟨rfl, rfl, i, hr, hi, hall⟩
      have lt : i < es.size := by
        rcases Nat.lt_or_ge i es.size with h | h
        · exact h
        · rw [Nat.sub_eq_zero_of_le h] at hr
          cases hr
      have e1 : es.size - i = (es.size - (i + 1)) + 1 := by omega
      rw [e1, List.range'_succ] at hr
      obtain ⟨rfl, hrest⟩ := List.cons.inj hr
      refine wpAny_bind (wpAny_dictEntries hoa hda ?_)
      have ltx : x < xs.length := by rw [← la]; exact lt
      have hx : xs[x]? = some xs[x] := List.getElem?_eq_getElem ltx
      have hm : xs[x] ∈ xs := List.getElem_mem ltx
      have hex : es[x]? = some (entryOfKey knd xs[x]) := by rw [entry_at hka, hx]; rfl
      rw [List.drop_eq_getElem_cons ltx, List.all_cons] at hall
      generalize xs[x] = y at hx hm hex hall
      rw [hex]
      show wpAny _ _ (holding [Value.ref y.2.1, y.2.2] _ >>= _) _ _ _
      refine wpAny_bind (wpAny_holding (wpAny_bind (wpAny_dictFind_heap hu (hia y hm) hob hdb hkb hib hnb (fun no => ?_) fun j p hj => ?_)))
      · have e2 : likeIn eqv ys y = false := by unfold likeIn; rw [atKey_no no]
        rw [e2, Bool.false_and] at hall
        rw [← hall] at h
        refine wpAny_pure ?_
        show wpAny _ _ (if (!false) = true then _ else _) _ _ _
        rw [if_pos (by decide)]
        exact wpAny_pure (wpAny_pure h)
      · have e2 : likeIn eqv ys y = eqv y.2.2 p.2 := by unfold likeIn; rw [atKey_of hnb hj]
        have hf : fs[j]? = some (entryOfKey knd (y.1, p)) := by rw [entry_at hkb, hj]; rfl
        refine wpAny_bind (wpAny_dictEntries hob hdb ?_)
        rw [hf]
        refine wpAny_holding (he y hm (y.1, p) (List.mem_of_getElem? hj) _ _ _ _ ?_)
        rw [e2] at hall
        cases e3 : eqv y.2.2 p.2 with
        | false =>
          rw [e3, Bool.false_and] at hall
          rw [← hall] at h
          show wpAny _ _ (if (!false) = true then _ else _) _ _ _
          rw [if_pos (by decide)]
          exact wpAny_pure (wpAny_pure h)
        | true =>
          rw [e3, Bool.true_and] at hall
          show wpAny _ _ (if (!true) = true then _ else _) _ _ _
          rw [if_neg (by decide)]
          refine wpAny_bind (wpAny_dictEpoch hoa hda ?_)
          rw [if_neg (by simp)]
          exact wpAny_pure ⟨rfl, rfl, x + 1, hrest, lt, hall⟩
    · rintro q z ⟨rfl, rfl, i, hr, hi, hall⟩
      have hin : i = es.size := by
        rcases Nat.lt_or_ge i es.size with h | h
        · have e : es.size - i = (es.size - (i + 1)) + 1 := by omega
          rw [e, List.range'_succ] at hr
          exact nomatch hr
        · exact Nat.le_antisymm hi h
      rw [hin, la, List.drop_length] at hall
      rw [← hall] at h
      exact wpAny_pure h
  · rw [if_pos (by simpa using sz)]
    have lxy : (xs.length == ys.length) = false := by rw [← la, ← lb]; simpa using sz
    rw [lxy, Bool.false_and] at h
    exact wpAny_bind (wpAny_rule (wpAny_pure h))
end
theorem dec_str2 {x y : Str} : (x == y) = decide (x = y) := by
  rw [Bool.eq_iff_iff]
  simp
def eqS : Value → Value → Bool
  | .str x _, .str y _ => decide (x = y)
  | _, _ => false
/-- d == e: keys tuples, values texts -/
def rEqDT : R2 := fun x y H Q => ∃ (a b : Addr) (ks ls : List (List Key × V)), x = .ref a ∧ y = .ref b ∧ H a = some (.dT ks) ∧ H b = some (.dT ls) ∧ (∀ p ∈ ks, ∃ z, p.2 = .str z) ∧ (∀ p ∈ ls, ∃ z, p.2 = .str z) ∧
  Q (.bl (ks.length == ls.length && ks.all fun p => decide (valV ls p.1 = some p.2))) H
section
variable {X : Cx}
theorem KT.mem {H : Hp} : ∀ {kvs : List (List Key × V)} {xs : List (List Key × Addr × Value)}, KT H kvs xs → ∀ x ∈ xs, ∃ p ∈ kvs, p.1 = x.1 ∧ RelV p.2 x.2.2
  | _, _, .nil, _, h => nomatch h
  | p :: kvs, y :: xs, .cons r t, x, h => by
    rcases List.mem_cons.mp h with e | h
    · subst e
      exact ⟨p, List.mem_cons_self, r.1, r.2.2⟩
    · obtain ⟨q, h1, h2⟩ := KT.mem t x h
      exact ⟨q, List.mem_cons_of_mem _ h1, h2⟩
theorem like_all {H : Hp} {ls : List (List Key × V)} {ys : List (List Key × Addr × Value)} (rb : KT H ls ys) (hl : ∀ p ∈ ls, ∃ z, p.2 = V.str z) : ∀ {ks : List (List Key × V)} {xs : List (List Key × Addr × Value)}, KT H ks xs → (∀ p ∈ ks, ∃ z, p.2 = V.str z) →
    xs.all (likeIn eqS ys) = ks.all fun p => decide (valV ls p.1 = some p.2)
  | _, _, .nil, _ => rfl
  | p :: ks, x :: xs, .cons r t, hk => by
    rw [List.all_cons, List.all_cons, like_all rb hl t fun q hq => hk q (List.mem_cons_of_mem _ hq)]
    congr 1
    obtain ⟨z, hz⟩ := hk p List.mem_cons_self
    have rx := r.2.2
    rw [hz] at rx
    obtain ⟨tk, ex⟩ := rx
    have rv := rb.val x.1
    unfold likeIn
    rw [hz, r.1, ex]
    cases e : atKey ys x.1 with
    | none =>
      rw [e] at rv
      cases e2 : valV ls x.1 with
      | none => exact (decide_eq_false (fun q => nomatch q)).symm
      | some v =>
        rw [e2] at rv
        exact (show False from rv).elim
    | some q =>
      rw [e] at rv
      cases e2 : valV ls x.1 with
      | none =>
        rw [e2] at rv
        exact (show False from rv).elim
      | some v =>
        rw [e2] at rv
        have hv : ∃ z, v = V.str z := by
          unfold valV at e2
          obtain ⟨y, hy, rfl⟩ := Option.map_eq_some_iff.mp e2
          exact hl y (List.mem_of_find?_eq_some hy)
        obtain ⟨z2, rfl⟩ := hv
        obtain ⟨t2, e3⟩ := (show ∃ t, q.2 = Value.str z2 t from rv)
        show eqS (Value.str z tk) q.2 = _
        rw [e3]
        show decide (z = z2) = _
        by_cases ez : z = z2
        · subst ez
          rw [decide_eq_true rfl, decide_eq_true rfl]
        · rw [decide_eq_false ez, decide_eq_false (fun q => ez (V.str.inj (Option.some.inj q)).symm)]
theorem op_eqDT (hu : X.A.units + 1 < cLine) : OpR X (compareOp .Eq) rEqDT := by
  intro pins s σ H x y v u Q I rx ry h
  obtain ⟨a, b, ks, ls, rfl, rfl, ea, eb, ha, hb, q⟩ := h
  cases rx
  cases ry
  obtain ⟨_, ya, xs, ra, da⟩ := dt_of I.hok ea
  obtain ⟨_, yb, ys, rb, db⟩ := dt_of I.hok eb
  show wpAny (model X.prog X.w) X.A (richCompare .Eq (.ref a) (.ref b)) (EP X pins σ Q) X.xe s
  refine wpAny_richCompare_same_room (op := .Eq) da.typeIs db.typeIs PySem.F.slot_dict_eq (wpAny_call_entry PySem.F.slot_dict_eq da.typeIs PySem.F.entry_dict_eq ?_ (PySem.F.args_dict_eq_2 _ _)) (Nat.lt_of_succ_lt hu)
  show wpAny _ _ (Builtin.Dict.dictSlotArgs "__eq__" ⟨[.ref a, .ref b], []⟩ >>= _) _ _ s
  refine wpAny_bind ?_
  unfold Builtin.Dict.dictSlotArgs
  refine wpAny_bind (wpAny_notOrdered_dict da.typeIs ?_)
  show wpAny _ _ (pure (Value.ref a, Value.ref b)) _ _ s
  refine wpAny_pure ?_
  refine wpAny_bind (wpAny_isInstance (T := "dict") db.typeIs PySem.F.sub_dict_dict ?_)
  simp only [Bool.not_true, Bool.false_eq_true, if_false]
  refine wpAny_bind (wpAny_pure (wpAny_bind (wpAny_pure ?_)))
  refine wpAny_bind (samePairsH (eqv := eqS) (tupleKind_room_in1 hu) ya yb da db (fun x hx y hy => ?_) ?_)
  · obtain ⟨p, hp, _, r1⟩ := KT.mem ra x hx
    obtain ⟨p2, hp2, _, r2⟩ := KT.mem rb y hy
    obtain ⟨z, e1⟩ := ha p hp
    obtain ⟨z2, e2⟩ := hb p2 hp2
    rw [e1] at r1
    rw [e2] at r2
    obtain ⟨t1, e3⟩ := r1
    obtain ⟨t2, e4⟩ := r2
    rw [e3, e4]
    show SeqAt.EqAt _ s (.str z t1) (.str z2 t2) (decide (z = z2))
    rw [← show (z == z2) = decide (z = z2) from dec_str2]
    exact SeqAt.EqAt.str_str z t1 z2 t2
  · rw [like_all rb hb ra ha, ← Paired.length ra, ← Paired.length rb]
    refine wpAny_pure ⟨_, rfl, ?_, ?_⟩
    · exact fun x => nomatch x
    · refine ⟨.bl _, H, I, rfl, ?_⟩
      simpa using q
end
end L2
/-! Rv -/
set_option Elab.async false
set_option linter.all false
set_option maxRecDepth 100000
set_option maxHeartbeats 4000000
/-! operators of own classes: ==, != by ==, len, o[i] = v -/
namespace NeX
open PySem PySem.Spec PyProof.Rows Builtin
section
variable {prog : Program} {w : World} {A : Around} {E : Value → Shared → Prop} {s : Shared} {K : PySem.W.Frag} {x y C f : Addr} {ox oy : Obj} {od oe : Option Obj}
theorem entry {Q : PySem.Fin → Shared → Prop} (hu : A.units < cLine) (X : K.In s.heap) (I : PySem.W.InstAt s.heap x ox C od) (hs : PySem.W.findIn K (.ref C) "__eq__" = some (some (.ref f))) (hf : PySem.W.isFn K (.ref f) = true)
    (h : wpAny (model prog w) A (call (.ref f) [.ref x, .ref y]) (fun v z => ∃ b, v = .bool b ∧ Q (.done (.ret (.bool (!b)))) z) E s) : wpAny (model prog w) A (Builtin.«object.__ne__» ⟨[.ref x, .ref y], []⟩) Q E s := by
  unfold Builtin.«object.__ne__»
  obtain ⟨hp, g, d, tk, os⟩ := s
  repeat (first
    | with_reducible refine wpAny_cRoomFor hu ?_
    | (refine wpAny_bind (m := callSpecialIfBound? (.ref x) (Str.ofString "__eq__") [.ref y])
        (PySem.W.ifBound_K X I hs hf (wpAny_mono h (fun r z hr => by
          obtain ⟨b, rfl, hq⟩ := hr
          repeat (first | exact hq | exact wpAny_pure hq | exact wpAny_truthy_bool hq | (refine wpAny_bind (m := truthy (.bool _)) (wpAny_truthy_bool ?_)) | wp_step)) fun _ _ e => e)))
    | wp_step)
theorem ifBound {args : List Value} {M : Model} {Q : Option Value → Shared → Prop} (X : K.In s.heap) (I : PySem.W.InstAt s.heap x ox C od) (hn : PySem.W.findIn K (.ref C) "__ne__" = some (some (.builtin "object.__ne__")))
    (h : wpAny M A (call (.builtin "object.__ne__") (.ref x :: args)) (fun v => Q (some v)) E s) : wpAny M A (callSpecialIfBound? (.ref x) "__ne__" args) Q E s := by
  simp only [callSpecialIfBound?, bindSpecialIfBound?]
  refine wpAny_holding (wpAny_bind (wpAny_bind (wpAny_bind (I.type.here ((PySem.W.looks_findIn X hn).here ?_)))))
  refine wpAny_bind (wpAny_askSetting (wpAny_ite ?_))
  have fin : wpAny M A (call (.builtin "object.__ne__") ([.ref x] ++ args) >>= fun v => pure (some v)) Q E s := wpAny_bind (wpAny_mono h (fun v z k => wpAny_pure k) fun _ _ k => k)
  split
  · exact wpAny_bind (wpAny_of_eq (F.cmp_object.ne.bind _) (wpAny_pure (by exact fin)))
  · exact wpAny_tryCatch (wpAny_bind (wpAny_of_eq (F.cmp_object.ne.bind _) (wpAny_pure (by exact fin))))
theorem rc_ne {Q : Value → Shared → Prop} (hu : A.units + 1 < cLine) (X : K.In s.heap) (I : PySem.W.InstAt s.heap x ox C od) (J : PySem.W.InstAt s.heap y oy C oe) (hm : PySem.W.mroIn K C (.type "object") = some true)
    (hn : PySem.W.findIn K (.ref C) "__ne__" = some (some (.builtin "object.__ne__"))) (hs : PySem.W.findIn K (.ref C) "__eq__" = some (some (.ref f))) (hf : PySem.W.isFn K (.ref f) = true)
    (h : wpAny (model prog w) A.in1 (call (.ref f) [.ref x, .ref y]) (fun v z => ∃ b, v = .bool b ∧ Q (.bool (!b)) z) E s) : wpAny (model prog w) A (richCompare .NotEq (.ref x) (.ref y)) Q E s := by
  have one : wpAny (model prog w) A (tryCompare (.ref x) "__ne__" (.ref y)) (fun r z => ∃ b, r = some (.bool b) ∧ Q (.bool b) z) E s := by
    unfold tryCompare
    refine wpAny_bind (ifBound X I hn (wpAny_call (codeAny_call_builtin F.cmp_object.ne.plain F.cmpEntry_ne
      (PySem.W.check_slot F.cmpKind_ne F.cmpSplit_ne (I.type.andThen (PySem.W.looks_mroIn X hm)) (F.cmpArgs_ne _ _) (entry (A := A.in1) hu X I hs hf (wpAny_mono h (fun v z hv => ?_) fun _ _ e => e))))))
    obtain ⟨b, rfl, hq⟩ := hv
    first
      | exact ⟨b, rfl, wpAny_pure ⟨_, rfl, hq⟩⟩
      | exact ⟨b, rfl, wpAny_pure (wpAny_pure ⟨_, rfl, hq⟩)⟩
      | exact ⟨b, rfl, _, rfl, hq⟩
  unfold richCompare
  simp only [oneThing_ref]
  refine wpAny_holding (wpAny_bind (wpAny_cRoomFor (Nat.lt_of_succ_lt hu) ?_))
  rw [cmpInfo_NotEq]
  dsimp only
  refine wpAny_bind (I.type.here (wpAny_bind (J.type.here ?_)))
  rw [show (Value.ref C != Value.ref C) = false from by simp]
  simp only [Bool.false_eq_true, if_false]
  refine wpAny_bind (wpAny_pure ?_)
  simp only [Bool.false_eq_true, if_false]
  refine wpAny_bind (wpAny_mono one (fun r z k => ?_) fun _ _ e => e)
  obtain ⟨b, rfl, hq⟩ := k
  first | exact wpAny_pure hq | exact wpAny_pure (wpAny_pure hq)
end
end NeX
namespace AH
open PySem PySem.Spec PyProof.Rows L2 He
theorem Met.raw {P : Program} {w : World} {K : PySem.W.Frag} {mg : Str → Option Value} {base : Heap} {k : Nat} {C : Addr} {m : Str} {sp : Sp} {dvs : List V} (c : Met P w K mg base k C m sp dvs) :
    ∃ f, PySem.W.findIn K (.ref C) m = some (some (.ref f)) ∧ PySem.W.isFn K (.ref f) = true ∧ FnR P w K mg base CX0 k f (fun vs H Q E => sp (vs ++ dvs) H Q E) :=
  let ⟨f, _, _, _, me, _, b, d, F⟩ := c.is
  ⟨f, me.at_, me.fn, F.raw b d⟩
section
variable {X : Cx} {k j : Nat} {C : Addr} {sp : Sp} {dvs : List V} {pins : List (Addr × Obj)} {σ : L2.St} {H : Hp} {s : Shared}
theorem inst_at {a dx : Addr} {fs : List (Str × V)} (I : Inv X pins σ H s) (h : H a = some (.ins C dx fs)) : ∃ od, PySem.W.InstAt s.heap a (PySem.W.instObj C dx) C od := by
  obtain ⟨mA, J, _⟩ := ins_get I.hok h
  obtain ⟨od, J, _⟩ := J.look
  exact ⟨_, J⟩
def rOwnE (C : Addr) (sp : Sp) : R2 := fun x y H Q => ∃ a dx fs b dy gs, x = .ref a ∧ y = .ref b ∧ H a = some (.ins C dx fs) ∧ H b = some (.ins C dy gs) ∧ sp [x, y] H Q E0
theorem op_ownE (c : Met X.prog X.w X.K X.mg X.base k C "__eq__" sp []) (hr : Room j X.A) (hk : k ≤ j) : OpR X (compareOp .Eq) (rOwnE C sp) := by
  obtain ⟨f, hs, hf, F⟩ := c.raw
  intro pins s σ H x y v u Q I rx ry h
  obtain ⟨a, dx, fs, b, dy, gs, rfl, rfl, ha, hb, q⟩ := h
  cases rx
  cases ry
  obtain ⟨od, J⟩ := inst_at I ha
  obtain ⟨oe, J2⟩ := inst_at I hb
  obtain ⟨m, hF⟩ := I.fr
  show wpAny (model X.prog X.w) X.A (richCompare .Eq (.ref a) (.ref b)) (EP X pins σ Q) X.xe s
  refine PySem.W.cmp_K (op := .Eq) (tb := .ref C) hr.units0 hF I.ok.mod.kin J J2.type (by simp [PySem.W.notFirst]) hs hf ?_
  refine wpAny_mono (wpAny_call (run_fnR (us := [.ref a, .ref b]) (vs := [.ref a, .ref b]) F (hr.mono hk) pass0 I (.cons rfl (.cons rfl .nil)) q)) (fun v z h2 => ?_) fun _ _ e => e
  obtain ⟨y, H2, I2, r2, q2⟩ := h2
  exact SlX.cmpback r2 ⟨y, H2, I2, r2, q2⟩
def rNeOwn (C : Addr) (sp : Sp) : R2 := fun x y H Q => ∃ a dx fs b dy gs, x = .ref a ∧ y = .ref b ∧ H a = some (.ins C dx fs) ∧ H b = some (.ins C dy gs) ∧ sp [x, y] H (fun z H' => ∃ c, z = .bl c ∧ Q (.bl (!c)) H') E0
theorem op_neOwn (c : Met X.prog X.w X.K X.mg X.base k C "__eq__" sp []) (hr : Room j X.A) (hk : k + 1 ≤ j) (hm : PySem.W.mroIn X.K C (.type "object") = some true) (hn : PySem.W.findIn X.K (.ref C) "__ne__" = some (some (.builtin "object.__ne__"))) :
    OpR X (compareOp .NotEq) (rNeOwn C sp) := by
  obtain ⟨f, hs, hf, F⟩ := c.raw
  intro pins s σ H x y v u Q I rx ry h
  obtain ⟨a, dx, fs, b, dy, gs, rfl, rfl, ha, hb, q⟩ := h
  cases rx
  cases ry
  obtain ⟨od, J⟩ := inst_at I ha
  obtain ⟨oe, J2⟩ := inst_at I hb
  show wpAny (model X.prog X.w) X.A (richCompare .NotEq (.ref a) (.ref b)) (EP X pins σ Q) X.xe s
  refine NeX.rc_ne (hu_of hr) I.kIn J J2 hm hn hs hf ?_
  have hr1 : Room k X.A.in1 := (hr.mono hk).in1
  refine wpAny_mono (wpAny_call (SlX.run_at (us := [.ref a, .ref b]) (ws := [.ref a, .ref b]) F hr1 I.env0.in1 pass0 I (.cons rfl (.cons rfl .nil)) q)) (fun v z h2 => ?_) fun _ _ e => e
  obtain ⟨y, H2, I2, r2, c, rfl, q2⟩ := h2
  cases r2
  exact ⟨c, rfl, .bl (!c), H2, I2, rfl, q2⟩
def rLenOwn (C : Addr) (sp : Sp) : List V → Hp → VK → Prop := fun xs H Q => ∃ a dx fs, xs = [.ref a] ∧ H a = some (.ins C dx fs) ∧ sp [.ref a] H (fun z H' => ∃ n : Int, z = .int n ∧ 0 ≤ n ∧ n < 2 ^ 63 ∧ Q (.int n) H') E0
theorem call_lenOwn (c : Met X.prog X.w X.K X.mg X.base k C "__len__" sp []) (hr : Room j X.A) (hk : k + 1 ≤ j) : CallR X (.builtin "len") (rLenOwn C sp) := by
  obtain ⟨f, hs, hf, F⟩ := c.raw
  intro pins s σ H xs us Q I r h
  obtain ⟨a, dx, fs, rfl, ha, q⟩ := h
  obtain ⟨u, rfl, ru⟩ := vals1 r
  cases ru
  obtain ⟨od, J⟩ := inst_at I ha
  obtain ⟨m, hF⟩ := I.fr
  refine PySem.W.len_K hF I.ok.mod.kin J hs hf ?_
  have hr1 : Room k X.A.in1 := (hr.mono hk).in1
  refine wpAny_mono (wpAny_call (SlX.run_at (us := [.ref a]) (ws := [.ref a]) F hr1 I.env0.in1 pass0 I (.cons rfl .nil) q)) (fun v z h2 => ?_) fun _ _ e => e
  obtain ⟨y, H2, I2, r2, n, rfl, n0, n1, q2⟩ := h2
  obtain ⟨t, rfl⟩ := r2
  exact ⟨⟨n0, n1⟩, .int n, H2, I2.tok _, ⟨_, rfl⟩, q2⟩
def rSetOwn (C : Addr) (sp : Sp) : TSet := fun o i v H Q => ∃ a dx fs, o = .ref a ∧ H a = some (.ins C dx fs) ∧ sp [o, i, v] H (fun _ H' => Q H') E0
theorem set_own (c : Met X.prog X.w X.K X.mg X.base k C "__setitem__" sp []) (hr : Room j X.A) (hk : k ≤ j) (hq : PySem.W.noSeq X.K C = true) : PSet X (rSetOwn C sp) := by
  obtain ⟨f, hs, hf, F⟩ := c.raw
  intro pins s σ H o i v ov iv u Q I ro ri rv h
  obtain ⟨a, dx, fs, rfl, ha, q⟩ := h
  cases ro
  obtain ⟨od, J⟩ := inst_at I ha
  obtain ⟨m, hF⟩ := I.fr
  refine PySem.W.ksp_setItem hF I.ok.mod.kin J hq hs hf ?_
  refine wpAny_mono (wpAny_call (run_fnR (us := [.ref a, iv, u]) (vs := [.ref a, i, v]) F (hr.mono hk) pass0 I (.cons rfl (.cons ri (.cons rv .nil))) q)) (fun v z h2 => ?_) fun _ _ e => e
  obtain ⟨y, H2, I2, r2, q2⟩ := h2
  exact ⟨H2, I2, q2⟩
end
end AH
/-! W12 -/
set_option Elab.async false
set_option linter.all false
set_option maxRecDepth 100000
set_option maxHeartbeats 4000000
namespace AH
open PySem PySem.Spec PyProof.Rows L2 He
section
variable {X : Cx} {K : PySem.W.Frag}
theorem pe_fldK {e : Expr} {ta : TE} {f : Str} {pos : Pos} (he : PE X e ta) (hb : attributeBase e f X.env (eval e X.env) = eval e X.env) (hK : X.K = K := by rfl) : PE X (.Attribute e f pos) (tFld K ta f) := hK ▸ pe_fld he hb
theorem pe_conK {e : Expr} {ta : TE} {f : Str} {pos : Pos} (he : PE X e ta) (hb : attributeBase e f X.env (eval e X.env) = eval e X.env) (hK : X.K = K := by rfl) : PE X (.Attribute e f pos) (tCon K ta f) := hK ▸ pe_con he hb
theorem ix_tupK (hK : X.K = K := by rfl) : IxR X (rIxT K) := hK ▸ ix_tup
theorem ix_listK (hK : X.K = K := by rfl) : IxR X (rIxL K) := hK ▸ ix_list
theorem op_in_seqK (hK : X.K = K := by rfl) : OpR X (compareOp .In) (rIn K false) := hK ▸ op_in_seq
theorem op_notIn_seqK (hK : X.K = K := by rfl) : OpR X (compareOp .NotIn) (rIn K true) := hK ▸ op_notIn_seq
end
section
variable {P : Program} {w : World} {K : PySem.W.Frag} {mg : Str → Option Value} {base : Heap}
/-- a method with defaults -/
theorem metD {x qual : Str} {params : Arguments} {body : List Stmt} {scope : Scope} {kws : List (Str × V)} {f C : Addr} {fd : FuncData} {N ps : List Str} {k n : Nat} {sp : Sp} {dvs dv : List V} {ds : List Value} (F : FunD K x qual params body scope dv kws f fd) (c : Cls K C) (me : Meth K C x f)
    (S : FnScope N ps scope) (hn : ps.length = n) (hb : L2.Binds K fd ps ds) (hv : Vals dvs ds)
    (hbody : ∀ (cdv : Value) (A : Around) (outer : List Env) (s : Shared) (H : Hp) (vs : List V) (Q : VK) (E : XK), Room k (A.deeper (envOfC qual scope s.heap.objs.size f cdv)) → sp vs H Q E →
      ∃ t, PSs (cxOf CX0 P w K mg base N qual scope f cdv A outer s H E).nox body t ∧ t { nx := fun _ H' => Q .non H', rt := Q } (start N vs) H) : Met P w K mg base (k + 1) C x (Spn n sp) dvs := by
  refine ⟨f, fd, ps, ds, me, c, hb, hv, F.ok S (fun vs H Q E h => h.1.trans hn.symm) (fun cdv A outer s H vs Q E hr h => ?_)⟩
  obtain ⟨t, h1, h2⟩ := hbody cdv A outer s H vs Q E hr h.2
  exact ⟨t, h1.nox, h2⟩
end
section
variable {P : Program} {w : World} {K : PySem.W.Frag} {mg : Str → Option Value} {base : Heap}
def sp_book (K : PySem.W.Frag) : Sp := fun vs H Q _ => ∃ (v : Bool) (x dx : Addr), vs = [.ref x, .int (Vn v : Int)] ∧ H x = some (.ins (ga K "Book") dx []) ∧ ∀ H' d, But x H H' → H d = none → BookAt K v H' x d [] → Q .non H'
abbrev N_Book_init : List Str := ["self", "version"]
theorem sc_Book_init : FnScope N_Book_init ["self", "version"] (defScope s_Book_init) := ⟨rfl, rfl, rfl, by decide +kernel, rfl, by decide +kernel, by decide +kernel⟩
theorem k_Book (T : Cxt K mg) : Mak P w K mg base 3 "Book" (ga K "Book") (Spn 2 (sp_book K)) [] := by
  obtain ⟨fd, F⟩ := T.F_Book_init
  refine makN F T.mk_Book T.g_Book sc_Book_init rfl (fun _ _ _ _ _ _ us hl => match us, hl with | [_, _], _ => rfl) (fun cdv A outer s H vs Q E hr h => ?_)
  have nd := sc_Book_init.nd
  have hu := hu_of hr
  obtain ⟨v, x, dx, rfl, hx, q⟩ := h
  refine ⟨_, (pss_cons (ps_expr (pe_f (c_look_version T) hr (by decide) rfl (pa_cons (pv 1) pa_nil))) (pss_cons (ps_fld (pv 0) (pv 1) rfl) (pss_cons (ps_fld (pv 0) (pe_f (c_width_of T) hr (by decide) rfl (pa_cons (pv 1) pa_nil)) rfl) (pss_one (ps_fld (pv 0) pe_dnewT rfl))))), ?_⟩
  refine ⟨_, rfl, rfl, v, rfl, fun H1 s1 => ?_⟩
  refine ⟨_, rfl, _, rfl, x, _, dx, _, rfl, s1 _ _ hx, T.c_Book, T.n_Book_version, (by show 0 < 1000; decide), ?_⟩
  refine ⟨_, rfl, rfl, v, rfl, ?_⟩
  refine ⟨_, rfl, x, _, dx, _, rfl, upd_same, T.c_Book, T.n_Book_width, Nat.lt_of_le_of_lt (few (Nat.le_refl 0)) (by decide), ?_⟩
  rw [upd_upd]
  generalize hH2 : upd H1 x _ = H2
  have x2 : H2 x = some (.ins (ga K "Book") dx (putF "width" (.int (Wd v : Int)) (putF "version" (.int (Vn v : Int)) []))) := by rw [← hH2]; exact upd_same
  have B2 : But x H H2 := by rw [← hH2]; exact (But.of s1).trans But.upd
  intro d nd
  have dx' : d ≠ x := (ne_of_none x2 nd).symm
  refine ⟨_, rfl, x, _, dx, _, rfl, Same.new nd _ _ x2, T.c_Book, T.n_Book_rows, Nat.lt_of_le_of_lt (few (few (Nat.le_refl 0))) (by decide), ?_⟩
  refine q _ d (B2.trans ((But.of (Same.new nd)).trans But.upd)) ?_ ⟨⟨dx, upd_same⟩, by rw [upd_ne dx']; exact upd_same⟩
  cases e : H d with
  | none => rfl
  | some o => exact absurd (B2 _ _ e dx') (by rw [nd]; intro z; cases z)
theorem eq_int_refl (i : Int) : decide (V.int i = V.int i) = true := decide_eq_true rfl
def sp_is_own (K : PySem.W.Frag) : Sp := fun vs H Q _ => ∃ (v : Bool) (p d a : Addr) (E : List (AN.Ent Str)) (n : Int) (k : Nat), vs = [.ref p, .ref a] ∧ BookAt K v H p d E ∧ NetAt K v H a n k ∧ ∀ H', Same H H' → Q (.bl true) H'
abbrev N_Book_is_own : List Str := ["self", "thing"]
theorem sc_Book_is_own : FnScope N_Book_is_own ["self", "thing"] (defScope s_Book_is_own) := ⟨rfl, rfl, rfl, by decide +kernel, rfl, by decide +kernel, by decide +kernel⟩
theorem m_Book_is_own (T : Cxt K mg) : Met P w K mg base 1 (ga K "Book") "is_own" (Spn 2 (sp_is_own K)) [] := by
  obtain ⟨fd, F⟩ := T.F_Book_is_own
  refine metN F T.c_Book T.m_Book_is_own sc_Book_is_own rfl (fun _ _ _ _ _ _ us hl => match us, hl with | [_, _], _ => rfl) (fun cdv A outer s H vs Q E hr h => ?_)
  have nd := sc_Book_is_own.nd
  have hu := hu_of hr
  obtain ⟨v, p, d, a, E, n, k, rfl, bk, net, q⟩ := h
  obtain ⟨tV, cV⟩ := v_nC T v
  refine ⟨_, (pss_one (ps_ret (pe_and (pe_callB call_isiT (by rfl) T.z_isinstance (by decide +kernel) (pa_cons (pv 1) (pa_cons (pe_tup (pa_cons (pe_glob (v := .ref _) rfl T.g_Network4 rfl) (pa_cons (pe_glob (v := .ref _) rfl T.g_Network6 rfl) pa_nil))) pa_nil))) (pe_one (pe_cmpR op_eq (pe_con (pv 1) rfl) (pe_fld (pv 0) rfl) (nomark _)))))), ?_⟩
  refine ⟨_, rfl, (by show 2 ≤ sizeLine; decide), fun t1 n1 => ⟨_, t1, _, _, _, true, rfl, upd_same, .cons (.own _) (.cons (.own _) .nil), ty_net T (net.mono (Same.new n1)), kit_n T v, true, rfl, iteT ?_⟩⟩
  have s1 : Same H _ := Same.new (o := .tup [.ref (ga K "Network4"), .ref (ga K "Network6")]) n1
  obtain ⟨da, pf, pl, pm, ph, pr, na⟩ := net.mono s1
  obtain ⟨db, ob⟩ := (bk.mono s1).ob
  refine ⟨_, rfl, a, _, da, _, _, _, rfl, na.ob, c_nC T v, cV, (netF_no _ _ _ _ _ _ _).1, ?_⟩
  refine ⟨_, rfl, p, _, db, _, _, rfl, ob, T.c_Book, T.n_Book_version, bookF_version v d, rfl, ?_⟩
  rw [eq_int_refl]
  exact q _ s1
def sp_blook (K : PySem.W.Frag) : Sp := fun vs H Q _ => ∃ (v : Bool) (p d a : Addr) (E : List (AN.Ent Str)) (n : Int), vs = [.ref p, .ref a] ∧ BookAt K v H p d E ∧ AdrAt K v H a n ∧ ∀ H', Same H H' → Q .non H'
abbrev N_Book_look_address : List Str := ["self", "thing"]
theorem sc_Book_look_address : FnScope N_Book_look_address ["self", "thing"] (defScope s_Book_look_address) := ⟨rfl, rfl, rfl, by decide +kernel, rfl, by decide +kernel, by decide +kernel⟩
theorem m_Book_look_address (T : Cxt K mg) : Met P w K mg base 1 (ga K "Book") "look_address" (Spn 2 (sp_blook K)) [] := by
  obtain ⟨fd, F⟩ := T.F_Book_look_address
  refine metN F T.c_Book T.m_Book_look_address sc_Book_look_address rfl (fun _ _ _ _ _ _ us hl => match us, hl with | [_, _], _ => rfl) (fun cdv A outer s H vs Q E hr h => ?_)
  have nd := sc_Book_look_address.nd
  have hu := hu_of hr
  obtain ⟨v, p, d, a, E, n, rfl, bk, adr, q⟩ := h
  obtain ⟨tV, cV⟩ := v_aC T v
  refine ⟨_, (pss_one (ps_if (PW.pt (pw_or (pt_not (pt_val (pe_callB call_isiT (by rfl) T.z_isinstance (by decide +kernel) (pa_cons (pv 1) (pa_cons (pe_tup (pa_cons (pe_glob (v := .ref _) rfl T.g_Address4 rfl) (pa_cons (pe_glob (v := .ref _) rfl T.g_Address6 rfl) pa_nil))) pa_nil))))) (pw_or1 (pt_cmpR op_ne (pe_con (pv 1) rfl) (pe_fld (pv 0) rfl) (nomark _))))) (pss_one ps_never) pss_nil)), ?_⟩
  refine ⟨_, rfl, (by show 2 ≤ sizeLine; decide), fun t1 n1 => ⟨_, t1, _, _, _, true, rfl, upd_same, .cons (.own _) (.cons (.own _) .nil), ty_adr T (adr.mono (Same.new n1)), kit_a T v, true, rfl, iteF ?_⟩⟩
  have s1 : Same H _ := Same.new (o := .tup [.ref (ga K "Address4"), .ref (ga K "Address6")]) n1
  obtain ⟨da, na⟩ := adr.mono s1
  obtain ⟨db, ob⟩ := (bk.mono s1).ob
  refine ⟨_, rfl, a, _, da, _, _, _, rfl, na, c_aC T v, cV, (adrF_no _).1, ?_⟩
  refine ⟨_, rfl, p, _, db, _, _, rfl, ob, T.c_Book, T.n_Book_version, bookF_version v d, rfl, _, rfl, iteNS rfl ?_⟩
  exact q _ s1
/-- the numbers of a network, read off it -/
theorem net_first {v : Bool} {H : Hp} {a : Addr} {n : Int} {k : Nat} (net : NetAt K v H a n k) : ∃ dx pf pl pm ph pr df, H a = some (.ins (nC K v) dx (netF pf pl pm ph pr (Wd v) k)) ∧ H pf = some (.ins (aC K v) df (adrF n)) :=
  let ⟨dx, pf, pl, pm, ph, pr, h⟩ := net; let ⟨df, hf⟩ := h.first; ⟨dx, pf, pl, pm, ph, pr, df, h.ob, hf⟩
def sp_setitem (K : PySem.W.Frag) : Sp := fun vs H Q _ => ∃ (v : Bool) (p d a : Addr) (E : List (AN.Ent Str)) (n : Int) (k : Nat) (z : Str), vs = [.ref p, .ref a, .str z] ∧ BookAt K v H p d E ∧ NetAt K v H a n k ∧ WordOk z ∧ E.length ≤ 4096 ∧
  ∀ H', But d H H' → BookAt K v H' p d (putE E (n, k) z) → Q .non H'
abbrev N_Book_setitem : List Str := ["self", "network", "word"]
theorem sc_Book_setitem : FnScope N_Book_setitem ["self", "network", "word"] (defScope s_Book_setitem) := ⟨rfl, rfl, rfl, by decide +kernel, rfl, by decide +kernel, by decide +kernel⟩
theorem m_Book_setitem (T : Cxt K mg) : Met P w K mg base 3 (ga K "Book") "__setitem__" (Spn 3 (sp_setitem K)) [] := by
  obtain ⟨fd, F⟩ := T.F_Book_setitem
  refine metN F T.c_Book T.m_Book_setitem sc_Book_setitem rfl (fun _ _ _ _ _ _ us hl => match us, hl with | [_, _, _], _ => rfl) (fun cdv A outer s H vs Q E hr h => ?_)
  have nd := sc_Book_setitem.nd
  have hu := hu_of hr
  obtain ⟨v, p, d, a, E, n, k, z, rfl, bk, net, ok, hlen, q⟩ := h
  refine ⟨_, (pss_cons (ps_if (pt_not (pt_val (pe_m (m_Book_is_own T) hr (by decide) (pv 0) (pa_cons (pv 1) pa_nil)))) (pss_one ps_never) pss_nil) (pss_cons (ps_if (pt_not (pt_val (pe_f (c_is_word T) hr (by decide) rfl (pa_cons (pv 2) pa_nil)))) (pss_one ps_never) pss_nil) (pss_one (ps_dput hu (pe_fld (pv 0) rfl) (pe_tup (pa_cons (pe_fld (pe_fld (pv 1) rfl) rfl) (pa_cons (pe_fld (pv 1) rfl) pa_nil))) (pv 2) rfl)))), ?_⟩
  obtain ⟨db, ob⟩ := bk.ob
  refine ⟨_, rfl, p, db, _, rfl, ob, (by kernel_rfl), _, rfl, rfl, v, p, d, a, E, n, k, rfl, bk, net, fun H1 s1 => ⟨true, rfl, iteF ?_⟩⟩
  refine ⟨_, rfl, rfl, z, rfl, ok, fun H2 s2 => ⟨true, rfl, iteF ?_⟩⟩
  have s3 := s1.trans s2
  obtain ⟨dx, pf, pl, pm, ph, pr, df, hn, hf⟩ := net_first (net.mono s3)
  have b3 := bk.mono s3
  obtain ⟨db3, ob3⟩ := b3.ob
  refine ⟨_, rfl, _, rfl, p, _, db3, _, _, rfl, ob3, T.c_Book, T.n_Book_rows, bookF_rows v d, ?_⟩
  refine ⟨_, rfl, a, _, dx, _, _, rfl, hn, c_nC T v, no_first T v, netF_first _ _ _ _ _ _ _, pf, _, df, _, _, rfl, hf, c_aC T v, no_number T v, adrF_number _, ?_⟩
  refine ⟨_, rfl, a, _, dx, _, _, rfl, hn, c_nC T v, no_prefix T v, netF_prefix _ _ _ _ _ _ _, (by show 2 ≤ sizeLine; decide), fun t nt => ?_⟩
  have s4 := s3.trans (Same.new (o := .tup [.int n, .int ((Wd v : Int) - (k : Int))]) nt)
  have b4 := bk.mono s4
  refine ⟨d, _, rfl, DPut.t (k := keyE v (n, k)) b4.rows upd_same ?_, ?_⟩
  · rw [List.length_map]
    exact Nat.lt_of_le_of_lt hlen (by decide)
  · rw [putT]
    have dp : p ≠ d := fun e => by
      obtain ⟨dy, oy⟩ := b4.ob
      rw [e, b4.rows] at oy
      cases oy
    refine q _ ((But.of s4).trans But.upd) ⟨?_, upd_same⟩
    obtain ⟨dy, oy⟩ := b4.ob
    exact ⟨dy, by rw [upd_ne dp]; exact oy⟩
def sp_forget (K : PySem.W.Frag) : Sp := fun vs H Q _ => ∃ (v : Bool) (p d a : Addr) (E : List (AN.Ent Str)) (n : Int) (k : Nat) (z : Str), vs = [.ref p, .ref a] ∧ BookAt K v H p d E ∧ NetAt K v H a n k ∧ AN.val E (n, k) = some z ∧ E.length ≤ 4096 ∧
  ∀ H', But d H H' → BookAt K v H' p d (dropE E (n, k)) → Q (.str z) H'
abbrev N_Book_forget : List Str := ["self", "network"]
theorem sc_Book_forget : FnScope N_Book_forget ["self", "network"] (defScope s_Book_forget) := ⟨rfl, rfl, rfl, by decide +kernel, rfl, by decide +kernel, by decide +kernel⟩
theorem m_Book_forget (T : Cxt K mg) : Met P w K mg base 3 (ga K "Book") "forget" (Spn 2 (sp_forget K)) [] := by
  obtain ⟨fd, F⟩ := T.F_Book_forget
  refine metN F T.c_Book T.m_Book_forget sc_Book_forget rfl (fun _ _ _ _ _ _ us hl => match us, hl with | [_, _], _ => rfl) (fun cdv A outer s H vs Q E hr h => ?_)
  have nd := sc_Book_forget.nd
  have hu := hu_of hr
  obtain ⟨v, p, d, a, E, n, k, z, rfl, bk, net, hz, hlen, q⟩ := h
  refine ⟨_, (pss_cons (ps_if (pt_not (pt_val (pe_m (m_Book_is_own T) hr (by decide) (pv 0) (pa_cons (pv 1) pa_nil)))) (pss_one ps_never) pss_nil) (pss_cons (ps_if (pt_cmp (pc_dnotin hu (pe_tup (pa_cons (pe_fld (pe_fld (pv 1) rfl) rfl) (pa_cons (pe_fld (pv 1) rfl) pa_nil))) (pe_fld (pv 0) rfl))) (pss_one ps_never) pss_nil) (pss_one (ps_ret (pe_bm PySem.F.plainAttrs_dict PySem.F.slot_dict_pop PySem.F.type_dict_pop (mt_popT1 hu) (pe_fld (pv 0) rfl) (pa_cons (pe_tup (pa_cons (pe_fld (pe_fld (pv 1) rfl) rfl) (pa_cons (pe_fld (pv 1) rfl) pa_nil))) pa_nil)))))), ?_⟩
  obtain ⟨db, ob⟩ := bk.ob
  refine ⟨_, rfl, p, db, _, rfl, ob, (by kernel_rfl), _, rfl, rfl, v, p, d, a, E, n, k, rfl, bk, net, fun H1 s1 => ⟨true, rfl, iteF ?_⟩⟩
  obtain ⟨dx, pf, pl, pm, ph, pr, df, hn, hf⟩ := net_first (net.mono s1)
  refine ⟨_, rfl, a, _, dx, _, _, rfl, hn, c_nC T v, no_first T v, netF_first _ _ _ _ _ _ _, pf, _, df, _, _, rfl, hf, c_aC T v, no_number T v, adrF_number _, ?_⟩
  refine ⟨_, rfl, a, _, dx, _, _, rfl, hn, c_nC T v, no_prefix T v, netF_prefix _ _ _ _ _ _ _, (by show 2 ≤ sizeLine; decide), fun t nt => ?_⟩
  have s2 := s1.trans (Same.new (o := .tup [.int n, .int ((Wd v : Int) - (k : Int))]) nt)
  have b2 := bk.mono s2
  obtain ⟨db2, ob2⟩ := b2.ob
  have vt : valV (rowsT v E) (keyE v (n, k)) = some (.str z) := by rw [valT, hz]; rfl
  refine ⟨_, rfl, p, _, db2, _, _, rfl, ob2, T.c_Book, T.n_Book_rows, bookF_rows v d, d, _, rfl, DGet.t (k := keyE v (n, k)) b2.rows upd_same, ?_⟩
  rw [vt]
  refine ⟨_, rfl, iteF ?_⟩
  refine ⟨_, rfl, p, _, db2, _, _, rfl, ob2, T.c_Book, T.n_Book_rows, bookF_rows v d, .inr (.inr (.inl ⟨rfl, .inr ⟨_, b2.rows⟩⟩)), ?_⟩
  obtain ⟨dx, pf, pl, pm, ph, pr, df, hn, hf⟩ := net_first (net.mono s2)
  refine ⟨_, rfl, a, _, dx, _, _, rfl, hn, c_nC T v, no_first T v, netF_first _ _ _ _ _ _ _, pf, _, df, _, _, rfl, hf, c_aC T v, no_number T v, adrF_number _, ?_⟩
  refine ⟨_, rfl, a, _, dx, _, _, rfl, hn, c_nC T v, no_prefix T v, netF_prefix _ _ _ _ _ _ _, (by show 2 ≤ sizeLine; decide), fun t2 nt2 => ?_⟩
  have s3 := s2.trans (Same.new (o := .tup [.int n, .int ((Wd v : Int) - (k : Int))]) nt2)
  have b3 := bk.mono s3
  refine ⟨d, _, keyE v (n, k), t2, _, rfl, rfl, b3.rows, upd_same, vt, ?_⟩
  rw [dropT]
  have dp : p ≠ d := fun e => by
    obtain ⟨dy, oy⟩ := b3.ob
    rw [e, b3.rows] at oy
    cases oy
  refine q _ ((But.of s3).trans But.upd) ⟨?_, upd_same⟩
  obtain ⟨dy, oy⟩ := b3.ob
  exact ⟨dy, by rw [upd_ne dp]; exact oy⟩
def sp_blen (K : PySem.W.Frag) : Sp := fun vs H Q _ => ∃ (v : Bool) (p d : Addr) (E : List (AN.Ent Str)), vs = [.ref p] ∧ BookAt K v H p d E ∧ Q (.int (E.length : Int)) H
abbrev N_Book_len : List Str := ["self"]
theorem sc_Book_len : FnScope N_Book_len ["self"] (defScope s_Book_len) := ⟨rfl, rfl, rfl, by decide +kernel, rfl, by decide +kernel, by decide +kernel⟩
theorem m_Book_len (T : Cxt K mg) : Met P w K mg base 1 (ga K "Book") "__len__" (Spn 1 (sp_blen K)) [] := by
  obtain ⟨fd, F⟩ := T.F_Book_len
  refine metN F T.c_Book T.m_Book_len sc_Book_len rfl (fun _ _ _ _ _ _ us hl => match us, hl with | [_], _ => rfl) (fun cdv A outer s H vs Q E hr h => ?_)
  have nd := sc_Book_len.nd
  have hu := hu_of hr
  obtain ⟨v, p, d, E, rfl, bk, q⟩ := h
  refine ⟨_, (pss_one (ps_ret (pe_callB call_len_dT (by rfl) T.z_len (by decide +kernel) (pa_cons (pe_fld (pv 0) rfl) pa_nil)))), ?_⟩
  obtain ⟨db, ob⟩ := bk.ob
  refine ⟨_, rfl, p, _, db, _, _, rfl, ob, T.c_Book, T.n_Book_rows, bookF_rows v d, ?_⟩
  refine ⟨d, _, rfl, bk.rows, ?_⟩
  rw [List.length_map]
  exact q
end
end AH
/-! W13 -/
set_option Elab.async false
set_option linter.all false
set_option maxRecDepth 100000
set_option maxHeartbeats 4000000
namespace AH
open PySem PySem.Spec PyProof.Rows L2 He
/-- the two tables hold the same -/
def sameE (E E2 : List (AN.Ent Str)) : Bool := E.length == E2.length && E.all fun e => decide (AN.val E2 e.1 = some e.2)
theorem sameT (v : Bool) (E E2 : List (AN.Ent Str)) : ((rowsT v E).length == (rowsT v E2).length && (rowsT v E).all fun p => decide (valV (rowsT v E2) p.1 = some p.2)) = sameE E E2 := by
  unfold sameE
  rw [List.length_map, List.length_map, List.all_map]
  congr 1
  refine congrArg (fun f => List.all E f) (funext fun e => ?_)
  show decide (valV (rowsT v E2) (keyE v e.1) = some (.str e.2)) = _
  rw [valT]
  cases AN.val E2 e.1 with
  | none => rfl
  | some w =>
    show decide (some (V.str w) = some (V.str e.2)) = decide (some w = some e.2)
    by_cases h : w = e.2
    · rw [h, decide_eq_true rfl, decide_eq_true rfl]
    · rw [decide_eq_false (fun z => h (V.str.inj (Option.some.inj z))), decide_eq_false (fun z => h (Option.some.inj z))]
section
variable {P : Program} {w : World} {K : PySem.W.Frag} {mg : Str → Option Value} {base : Heap}
def sp_beq (K : PySem.W.Frag) : Sp := fun vs H Q _ => ∃ (v : Bool) (p d p2 d2 : Addr) (E E2 : List (AN.Ent Str)), vs = [.ref p, .ref p2] ∧ BookAt K v H p d E ∧ BookAt K v H p2 d2 E2 ∧ Q (.bl (sameE E E2)) H
abbrev N_Book_eq : List Str := ["self", "other"]
theorem sc_Book_eq : FnScope N_Book_eq ["self", "other"] (defScope s_Book_eq) := ⟨rfl, rfl, rfl, by decide +kernel, rfl, by decide +kernel, by decide +kernel⟩
theorem m_Book_eq (T : Cxt K mg) : Met P w K mg base 1 (ga K "Book") "__eq__" (Spn 2 (sp_beq K)) [] := by
  obtain ⟨fd, F⟩ := T.F_Book_eq
  refine metN F T.c_Book T.m_Book_eq sc_Book_eq rfl (fun _ _ _ _ _ _ us hl => match us, hl with | [_, _], _ => rfl) (fun cdv A outer s H vs Q E hr h => ?_)
  have nd := sc_Book_eq.nd
  have hu := hu_of hr
  obtain ⟨v, p, d, p2, d2, E, E2, rfl, bk, bk2, q⟩ := h
  refine ⟨_, (pss_one (ps_ret (pe_and (pe_callB call_isi (by rfl) T.z_isinstance (by decide +kernel) (pa_cons (pv 1) (pa_cons (pe_glob (v := .ref _) rfl T.g_Book rfl) pa_nil))) (pe_and (pe_cmpR op_eq (pe_fld (pv 0) rfl) (pe_fld (pv 1) rfl) (nomark _)) (pe_one (pe_cmpR (op_eqDT hu) (pe_fld (pv 0) rfl) (pe_fld (pv 1) rfl) (nomark _))))))), ?_⟩
  obtain ⟨db, ob⟩ := bk.ob
  obtain ⟨db2, ob2⟩ := bk2.ob
  refine ⟨_, rfl, _, _, _, _, true, rfl, .own _, ty_ins ob2 T.c_Book T.o_Book T.r_Book, T.k_Book_Book, true, rfl, iteT ?_⟩
  refine ⟨_, rfl, p, _, db, _, _, rfl, ob, T.c_Book, T.n_Book_version, bookF_version v d, _, rfl, p2, _, db2, _, _, rfl, ob2, T.c_Book, T.n_Book_version, bookF_version v d2, rfl, ?_⟩
  rw [eq_int_refl]
  refine ⟨true, rfl, iteT ?_⟩
  refine ⟨_, rfl, p, _, db, _, _, rfl, ob, T.c_Book, T.n_Book_rows, bookF_rows v d, _, rfl, p2, _, db2, _, _, rfl, ob2, T.c_Book, T.n_Book_rows, bookF_rows v d2, ?_⟩
  refine ⟨d, d2, _, _, rfl, rfl, bk.rows, bk2.rows, ?_, ?_, ?_⟩
  · intro r hr
    obtain ⟨e, _, rfl⟩ := List.mem_map.mp hr
    exact ⟨_, rfl⟩
  · intro r hr
    obtain ⟨e, _, rfl⟩ := List.mem_map.mp hr
    exact ⟨_, rfl⟩
  · rw [sameT]
    exact q
/-- (network, word) -/
abbrev EnR (K : PySem.W.Frag) (v : Bool) : RVT (AN.Ent Str) := fun H x e => ∃ t p, x = .ref t ∧ H t = some (.tup [.ref p, .str e.2]) ∧ NetAt K v H p e.1.1 e.1.2
theorem EnR.kp {K : PySem.W.Frag} {v : Bool} : Kp (EnR K v) := fun H H' x b e h => let ⟨t, p, a, c, d⟩ := h; ⟨t, p, a, e _ _ c trivial, d.fx e⟩
/-- all entries are networks -/
def NOkE (v : Bool) (E : List (AN.Ent Str)) : Prop := ∀ e ∈ E, NOk v e.1.1 e.1.2
theorem val_mem {E : List (AN.Ent Str)} {e : AN.Ent Str} (nd : (E.map (·.1)).Nodup) (h : e ∈ E) : AN.val E e.1 = some e.2 := AN.val_of nd h
/-- entries: a rearrangement of the table -/
def sp_entries (K : PySem.W.Frag) : Sp := fun vs H Q _ => ∃ (v : Bool) (p d : Addr) (E : List (AN.Ent Str)), vs = [.ref p] ∧ BookAt K v H p d E ∧ NOkE v E ∧ (E.map (·.1)).Nodup ∧ E.length ≤ 4096 ∧
  ∀ l H' E', H l = none → Same H H' → E'.Perm E → (E'.map fun e => (e.1.1, (Wd v : Int) - (e.1.2 : Int))).Pairwise (fun x y => SrtO.lexB y x = false) → LA (EnR K v) H' l E' → Q (.ref l) H'
theorem ent_perm {W : Int} : ∀ {l : List (AN.Ent Str)} {m : List (Int × Int)}, m.Perm (l.map fun e => (e.1.1, W - (e.1.2 : Int))) → ∃ l' : List (AN.Ent Str), l'.Perm l ∧ l'.map (fun e => (e.1.1, W - (e.1.2 : Int))) = m := by
  intro l m h
  generalize hn : (l.map fun e => (e.1.1, W - (e.1.2 : Int))) = n at h
  induction h generalizing l with
  | nil => exact ⟨l, List.Perm.refl _, hn⟩
  | cons x p ih =>
    cases l with
    | nil => cases hn
    | cons a l =>
      obtain ⟨e1, e2⟩ := List.cons.inj hn
      obtain ⟨l', p', e'⟩ := ih e2
      exact ⟨a :: l', p'.cons a, by cases e1; cases e'; rfl⟩
  | swap x y t =>
    match l, hn with
    | a :: b :: l, hn =>
      obtain ⟨e1, e2⟩ := List.cons.inj hn
      obtain ⟨e3, e4⟩ := List.cons.inj e2
      exact ⟨b :: a :: l, List.Perm.swap _ _ _, by cases e1; cases e3; cases e4; rfl⟩
    | [], hn => cases hn
    | [a], hn => cases hn
  | trans p1 p2 ih1 ih2 =>
    obtain ⟨l2, q2, e2⟩ := ih2 hn
    obtain ⟨l1, q1, e1⟩ := ih1 e2
    exact ⟨l1, q1.trans q2, e1⟩
abbrev N_Book_entries : List Str := ["self", "key"]
theorem sc_Book_entries : FnScope N_Book_entries ["self"] (defScope s_Book_entries) := ⟨rfl, rfl, rfl, by decide +kernel, rfl, by decide +kernel, by decide +kernel⟩
theorem m_Book_entries (T : Cxt K mg) : Met P w K mg base 10 (ga K "Book") "entries" (Spn 1 (sp_entries K)) [] := by
  obtain ⟨fd, F⟩ := T.F_Book_entries
  refine metN F T.c_Book T.m_Book_entries sc_Book_entries rfl (fun _ _ _ _ _ _ us hl => match us, hl with | [_], _ => rfl) (fun cdv A outer s H vs Q E hr h => ?_)
  have nd := sc_Book_entries.nd
  have hu := hu_of hr
  obtain ⟨v, p, d, E, rfl, bk, hok, nd0, hlen, q⟩ := h
  refine ⟨_, (pss_one (ps_ret (pe_lc (own := [("key", 1)]) (g := gName 1) (tt := tYes) rfl nd (pi_list (pe_callB (cr_sortedDT rfl) (by rfl) T.z_sorted (by decide +kernel) (pa_cons (pe_fld (pv 0) rfl) pa_nil))) (blkOk_by (own := [("key", 1)]) (N := N_Book_entries) (sc := defScope s_Book_entries) (by decide +kernel)) (fun _ _ _ _ _ => (pg_name (i := 1) nd rfl (Or.inl rfl) (.inr rfl))) (fun _ _ _ _ _ => pts_nil) (fun _ _ _ _ _ => (pe_tup (pa_cons (pe_f (c_network_of T) hr (by decide) rfl (pa_cons (pe_ix (ix_tupK (K := K)) (pv 1) pe_int (fun _ _ => rfl)) (pa_cons (pe_ix (ix_tupK (K := K)) (pv 1) pe_int (fun _ _ => rfl)) (pa_cons (pe_fldK (K := K) (pv 0) rfl) pa_nil)))) (pa_cons (pe_dget hu (pe_fldK (K := K) (pv 0) rfl) (pv 1) (fun _ _ => rfl)) pa_nil))))))), ?_⟩
  obtain ⟨db, ob⟩ := bk.ob
  refine ⟨_, rfl, p, _, db, _, _, rfl, ob, T.c_Book, T.n_Book_rows, bookF_rows v d, ?_⟩
  refine ⟨d, _, E.map (fun e => (e.1.1, (Wd v : Int) - (e.1.2 : Int))), rfl, bk.rows, by rw [List.map_map, List.map_map]; rfl, fun bs qs l hp hs hb nl => ?_⟩
  have e0 : E.map (fun e => (e.1.1, (Wd v : Int) - (e.1.2 : Int))) = (E.map (·.1)).map fun b => (b.1, (Wd v : Int) - (b.2 : Int)) := by rw [List.map_map]; rfl
  obtain ⟨E', pE, eE⟩ := ent_perm hp
  refine ⟨l, rfl, ⟨_, SqL.of upd_same⟩, fun D nD => ?_⟩
  have s0 : Same H (upd H l (.lst (bs.map V.ref))) := Same.new nl
  have hbl : bs.length = E'.length := by rw [Paired.len hb, ← eE, List.length_map]
  have hE' : E'.length ≤ 4096 := by rw [pE.length_eq]; exact hlen
  refine lc_map (Rb := EnR K v) EnR.kp walk_list E' (by rw [List.length_map, hbl]) (by rw [List.length_map, hbl]; omega) nD (fun H' s => SqL.of (s _ _ upd_same)) ?_ ?_
  · rintro i x e H0 H1 Q' hi he s1 ⟨rfl, hx⟩ cont
    have s01 := s0.trans s1
    rw [List.getElem?_map] at hx
    obtain ⟨b, hbi, rfl⟩ := Option.map_eq_some_iff.mp hx
    obtain ⟨r, hr, hbt⟩ := Paired.at hb hbi
    rw [← eE, List.getElem?_map, he] at hr
    cases hr
    have hbt1 : H1 b = some (.tup [.int e.1.1, .int ((Wd v : Int) - (e.1.2 : Int))]) := s01 _ _ hbt
    have hmem : e ∈ E := pE.mem_iff.mp (List.mem_of_getElem? he)
    have bk1 := bk.mono s01
    obtain ⟨db1, ob1⟩ := bk1.ob
    refine ⟨Same.refl _, rfl, ?_⟩
    refine ⟨_, rfl, b, _, _, _, rfl, rfl, SqT.of hbt1, rfl, ?_⟩
    refine ⟨_, rfl, b, _, _, _, rfl, rfl, SqT.of hbt1, rfl, ?_⟩
    refine ⟨_, rfl, p, _, db1, _, _, rfl, ob1, T.c_Book, T.n_Book_width, bookF_width v d, rfl, v, e.1.1, e.1.2, rfl, hok e hmem, fun pn H3 npn s3 net => ?_⟩
    have bk3 := bk1.mono s3
    obtain ⟨db3, ob3⟩ := bk3.ob
    refine ⟨_, rfl, p, _, db3, _, _, rfl, ob3, T.c_Book, T.n_Book_rows, bookF_rows v d, _, rfl, d, .str e.2, rfl, ?_, (by show 2 ≤ sizeLine; decide), fun t nt => ?_⟩
    · have g := DGet.t (k := keyE v e.1) bk3.rows (s3 _ _ hbt1)
      rw [valT, val_mem nd0 hmem] at g
      exact g
    · have s4 := s3.trans (Same.new (o := .tup [.ref pn, .str e.2]) nt)
      exact cont _ _ s4 s4 ⟨t, pn, rfl, upd_same, net.mono (Same.new nt)⟩
  · intro H1 s1 la
    exact q D H1 E' (Same.free s0 nD) (s0.trans s1) pE (by rw [eE]; exact hs) la
end
end AH
/-! W14 -/
set_option Elab.async false
set_option linter.all false
set_option maxRecDepth 100000
set_option maxHeartbeats 4000000
namespace AH
open PySem PySem.Spec PyProof.Rows L2 He
/-- a comprehension with a test, whose items stand for those of bs that f says -/
theorem lc_filt {β : Type} {Rb : RVT β} (kb : Kp Rb) {J : It} {n : Nat} {G : Hp → Prop} {Y : Nat → Hp → V → Hp → Prop} (wk : Walk J n G Y) {g : TG} {tt : TT} {te : TE} {vs : List Nat} {σ : L2.St} {H1 : Hp} {D : Addr} {Qd : Hp → Prop} (bs : List β) (f : β → Bool) (hb : bs.length = n) (hz : n < 10000000)
    (nD : H1 D = none) (hG : ∀ H, Same H1 H → G H)
    (step : ∀ i x b H H' (QE : VK) (QN : Hp → Prop), i < n → bs[i]? = some b → Same H1 H → Y i H x H' → (∀ y H4, Same H H4 → f b = true → Rb H4 y b → QE y H4) → (∀ H3, Same H H3 → f b = false → QN H3) →
      g x (wipe σ vs) H' fun σ2 H2 => wipe σ2 vs = wipe σ vs ∧ tt σ2 H2 fun c H3 => if c = true then te σ2 H3 QE else QN H3)
    (hd : ∀ H, Same H1 H → LA Rb H D (bs.filter f) → Qd H) :
    ∃ W : Nat → Nat → Hp → Prop, (∃ m, W 0 m (upd H1 D (.lst []))) ∧ ∀ i m H, W i m H →
      (J.stop i H ∧ Qd H) ∨ (J.go i H ∧ ∃ Nx : Hp → Prop, (∀ H', Nx H' → ∃ m', m' < m ∧ W (i + 1) m' H') ∧ ∀ x H', J.yld i H x H' → g x (wipe σ vs) H' fun σ2 H2 => wipe σ2 vs = wipe σ vs ∧ tt σ2 H2 fun b H3 =>
        if b = true then te σ2 H3 fun y H4 => ∃ acc, H4 D = some (.lst acc) ∧ acc.length < sizeLine ∧ Nx (upd H4 D (.lst (acc ++ [y]))) else Nx H3) := by
  refine ⟨fun i m H => m = n - i ∧ i ≤ n ∧ Same H1 H ∧ LA Rb H D ((bs.take i).filter f), ⟨n, rfl, Nat.zero_le _, Same.new nD, LA.new kb nD .nil⟩, ?_⟩
  rintro i m H ⟨rfl, hi, s1, ws, hw, hp⟩
  have q := hG H s1
  by_cases lt : i < n
  · refine .inr ⟨wk.goes i H lt q, fun H => Same H1 H ∧ LA Rb H D ((bs.take (i + 1)).filter f), fun H' p' => ⟨n - (i + 1), by omega, rfl, lt, p'⟩, fun x H' y => ?_⟩
    have hbi : bs[i]? = some bs[i] := List.getElem?_eq_getElem (by omega)
    refine step i x bs[i] H H' _ _ lt hbi s1 (wk.yields i H x H' lt q y) (fun y H4 s2 hf r => ?_) (fun H3 s2 hf => ?_)
    · have hD4 := s2 _ _ hw
      refine ⟨ws, hD4, ?_, Same.put nD (s1.trans s2), ?_⟩
      · have h1 : ((bs.take i).filter f).length ≤ (bs.take i).length := List.length_filter_le _ _
        rw [Paired.len hp]
        rw [List.length_take] at h1
        have : sizeLine = 16777216 := rfl
        omega
      · rw [List.take_add_one, hbi, List.filter_append]
        have e : List.filter f (some bs[i]).toList = [bs[i]] := by
          show List.filter f [bs[i]] = _
          rw [List.filter_cons, if_pos hf]
          rfl
        rw [e]
        exact LA.put kb hD4 (Paired.app (Paired.kp kb (.of s2) hp) (.cons r .nil))
    · refine ⟨s1.trans s2, ws, s2 _ _ hw, ?_⟩
      rw [List.take_add_one, hbi, List.filter_append]
      have e : List.filter f (some bs[i]).toList = [] := by
        show List.filter f [bs[i]] = _
        rw [List.filter_cons, if_neg (by rw [hf]; decide)]
        rfl
      rw [e, List.append_nil]
      exact Paired.kp kb (.of s2) hp
  · obtain rfl : i = n := by omega
    rw [← hb, List.take_length] at hp
    exact .inl ⟨wk.stops H q, hd H s1 ⟨ws, hw, hp⟩⟩
/-- the keys at which a number may be found -/
def keysE (W : Nat) (n : Int) : List (Int × Nat) := (List.range (W + 1)).map fun k => (AN.lowE n k, k)
def hitE (E : List (AN.Ent Str)) (b : Int × Nat) : Bool := (AN.val E b).isSome
theorem look_keys (W : Nat) (E : List (AN.Ent Str)) (n : Int) : AN.look W E n = match (keysE W n).filter (hitE E) with
    | [] => none
    | b :: _ => AN.val E b := by
  unfold AN.look keysE
  generalize List.range (W + 1) = l
  induction l with
  | nil => rfl
  | cons k l ih =>
    rw [List.findSome?_cons, List.map_cons, List.filter_cons]
    cases h : AN.val E (AN.lowE n k, k) with
    | none =>
      rw [if_neg (by unfold hitE; rw [h]; decide)]
      exact ih
    | some w =>
      rw [if_pos (by unfold hitE; rw [h]; rfl)]
      show some w = AN.val E (AN.lowE n k, k)
      exact h.symm
section
variable {P : Program} {w : World} {K : PySem.W.Frag} {mg : Str → Option Value} {base : Heap}
def sp_keys_of (K : PySem.W.Frag) : Sp := fun vs H Q _ => ∃ (v : Bool) (p d : Addr) (E : List (AN.Ent Str)) (n : Int), vs = [.ref p, .int n] ∧ BookAt K v H p d E ∧ 0 ≤ n ∧ n < AN.P 129 ∧
  ∀ l H', H l = none → Same H H' → LA (PkR (Wd v)) H' l ((keysE (Wd v) n).filter (hitE E)) → Q (.ref l) H'
abbrev N_Book_keys_of : List Str := ["self", "number", "found", "prefix", "key"]
theorem sc_Book_keys_of : FnScope N_Book_keys_of ["self", "number"] (defScope s_Book_keys_of) := ⟨rfl, rfl, rfl, by decide +kernel, rfl, by decide +kernel, by decide +kernel⟩
theorem m_Book_keys_of (T : Cxt K mg) : Met P w K mg base 3 (ga K "Book") "keys_of" (Spn 2 (sp_keys_of K)) [] := by
  obtain ⟨fd, F⟩ := T.F_Book_keys_of
  refine metN F T.c_Book T.m_Book_keys_of sc_Book_keys_of rfl (fun _ _ _ _ _ _ us hl => match us, hl with | [_, _], _ => rfl) (fun cdv A outer s H vs Q E hr h => ?_)
  have nd := sc_Book_keys_of.nd
  have hu := hu_of hr
  obtain ⟨v, p, d, E, n, rfl, bk, n0, n1, q⟩ := h
  refine ⟨_, (pss_cons (ps_setLc (i := 2) (own := [("prefix", 3)]) (g := gName 3) (tt := tYes) (by rfl) nd rfl rfl (sw_true rfl rfl rfl (by decide +kernel)) (pi_range3 (by rfl) T.z_range (pa_cons (pe_fld (pv 0) rfl) (pa_cons (pe_un un_neg pe_int) (pa_cons (pe_un un_neg pe_int) pa_nil)))) (blkOk_by (own := [("prefix", 3)]) (N := N_Book_keys_of) (sc := defScope s_Book_keys_of) (by decide +kernel)) (fun _ _ _ _ _ => (pg_name (i := 3) nd rfl (Or.inl rfl) (.inr rfl))) (fun _ _ _ _ _ => pts_nil) (fun _ _ _ _ _ => (pe_tup (pa_cons (pe_f (c_low_end T) hr (by decide) rfl (pa_cons (pv 1) (pa_cons (pv 3) (pa_cons (pe_fldK (K := K) (pv 0) rfl) pa_nil)))) (pa_cons (pv 3) pa_nil))))) (pss_one (ps_ret (pe_lc (own := [("key", 4)]) (g := gName 4) rfl nd (pi_list (pv 2)) (blkOk_by (own := [("key", 4)]) (N := N_Book_keys_of) (sc := defScope s_Book_keys_of) (by decide +kernel)) (fun _ _ _ _ _ => (pg_name (i := 4) nd rfl (Or.inl rfl) (.inr rfl))) (fun _ _ _ _ _ => pts_one (pt_cmp (pc_din hu (pv 4) (pe_fldK (K := K) (pv 0) rfl)))) (fun _ _ _ _ _ => (pv 4)))))), ?_⟩
  obtain ⟨db, ob⟩ := bk.ob
  refine ⟨_, rfl, p, _, db, _, _, rfl, ob, T.c_Book, T.n_Book_width, bookF_width v d, _, rfl, _, rfl, Wd v, -1, -1, _, rfl, RgC.neg (by omega) (by have := Wd_le v; omega) (by decide) (by decide), fun D nD => ?_⟩
  have en : ((Wd v : Int) - -1).toNat = Wd v + 1 := by omega
  rw [en]
  refine lc_map (Rb := PkR (Wd v)) TupR.kp walk_rangeC (keysE (Wd v) n) (by unfold keysE; rw [List.length_map, List.length_range]) (by have := Wd_le v; omega) nD (fun _ _ => trivial) ?_ ?_
  · rintro i x b H0 H1 Q' hi hb s1 ⟨rfl, rfl⟩ cont
    unfold keysE at hb
    rw [List.getElem?_map, List.getElem?_range (by omega)] at hb
    cases hb
    have e1 : (Wd v : Int) + (i : Nat) * -1 = (Wd v : Int) - (i : Int) := by omega
    have bk1 := bk.mono s1
    obtain ⟨db1, ob1⟩ := bk1.ob
    dsimp only
    rw [e1]
    refine ⟨Same.refl _, rfl, ?_⟩
    refine ⟨_, rfl, _, rfl, _, rfl, p, _, db1, _, _, rfl, ob1, T.c_Book, T.n_Book_width, bookF_width v d, rfl, n, Wd v, i, rfl, by omega, Wd_le v, n0, n1, ?_⟩
    refine ⟨_, rfl, (by show 2 ≤ sizeLine; decide), fun t nt => ?_⟩
    exact cont _ _ (Same.new nt) (Same.new nt) ⟨t, rfl, upd_same⟩
  · rintro H1 s1 ⟨ws, hw, hp⟩
    refine ⟨_, rfl, D, rfl, ⟨_, SqL.of hw⟩, fun D2 nD2 => ?_⟩
    refine lc_filt (Rb := PkR (Wd v)) TupR.kp walk_list (keysE (Wd v) n) (hitE E) (Paired.len hp).symm ?_ nD2 (fun H' s => SqL.of (s _ _ hw)) ?_ ?_
    · rw [Paired.len hp]
      unfold keysE
      rw [List.length_map, List.length_range]
      have := Wd_le v
      omega
    · rintro i x b H2 H3 QE QN hi hb s2 ⟨rfl, hx⟩ ce cn
      obtain ⟨b2, hb2, t, rfl, ht⟩ := Paired.at hp hx
      rw [hb] at hb2
      cases hb2
      have bk2 := bk.mono (s1.trans s2)
      obtain ⟨db2, ob2⟩ := bk2.ob
      refine ⟨rfl, _, rfl, _, rfl, p, _, db2, _, _, rfl, ob2, T.c_Book, T.n_Book_rows, bookF_rows v d, d, _, rfl, DGet.t (k := keyE v b) bk2.rows (s2 _ _ ht), ?_⟩
      rw [valT, Option.isSome_map]
      refine ⟨_, rfl, ?_⟩
      refine ite2 (fun c => ?_) (fun c => ?_)
      · exact ⟨_, rfl, ce _ _ (Same.refl _) c ⟨t, rfl, s2 _ _ ht⟩⟩
      · exact cn _ (Same.refl _) (Bool.eq_false_iff.mpr c)
    · intro H2 s2 la
      exact q D2 H2 (Same.free s1 nD2) (s1.trans s2) la
end
end AH
/-! W15 -/
set_option Elab.async false
set_option linter.all false
set_option maxRecDepth 100000
set_option maxHeartbeats 4000000
namespace AH
open PySem PySem.Spec PyProof.Rows L2 He
/-- a set comprehension, by the list of what its items are keys of -/
theorem sc_filt {P : Program} {w : World} {β : Type} {J : It} {n : Nat} {G : Hp → Prop} {Y : Nat → Hp → V → Hp → Prop} (wk : Walk J n G Y) {g : TG} {tt : TT} {te : TE} {vs : List Nat} {σ : L2.St} {H1 : Hp} {D : Addr} {Qd : Hp → Prop} (bs : List β) (f : β → Bool) (key : β → Key) (hb : bs.length = n) (hz : n < 4000)
    (nD : H1 D = none) (hG : ∀ H, Same H1 H → G H)
    (step : ∀ i x b H H' (QE : VK) (QN : Hp → Prop), i < n → bs[i]? = some b → Same H1 H → Y i H x H' → (∀ H4, Same H H4 → f b = true → QE (kV (key b)) H4) → (∀ H3, Same H H3 → f b = false → QN H3) →
      g x (wipe σ vs) H' fun σ2 H2 => wipe σ2 vs = wipe σ vs ∧ tt σ2 H2 fun c H3 => if c = true then te σ2 H3 QE else QN H3)
    (hd : ∀ H ks, Same H1 H → H D = some (SetX.SetLO P w D ks) → (∀ k, k ∈ ks ↔ ∃ b ∈ bs, f b = true ∧ key b = k) → ks.length ≤ n → Qd H) :
    ∃ W : Nat → Nat → Hp → Prop, (∃ m, W 0 m (upd H1 D (SetX.SetLO P w D []))) ∧ ∀ i m H, W i m H →
      (J.stop i H ∧ Qd H) ∨ (J.go i H ∧ ∃ Nx : Hp → Prop, (∀ H', Nx H' → ∃ m', m' < m ∧ W (i + 1) m' H') ∧ ∀ x H', J.yld i H x H' → g x (wipe σ vs) H' fun σ2 H2 => wipe σ2 vs = wipe σ vs ∧ tt σ2 H2 fun b H3 =>
        if b = true then te σ2 H3 fun y H4 => ∃ (k : Key) (ks : List Key), y = kV k ∧ H4 D = some (SetX.SetLO P w D ks) ∧ ks.length + 1 < scanBound ∧ Nx (upd H4 D (SetX.SetLO P w D (SetX.ins k ks))) else Nx H3) := by
  have so : scanBound = 4096 := rfl
  refine SetX.scK_it wk (fun i H => Same H1 H ∧ ∃ ks, H D = some (SetX.SetLO P w D ks) ∧ (∀ k, k ∈ ks ↔ ∃ b ∈ bs.take i, f b = true ∧ key b = k) ∧ ks.length ≤ i) ⟨Same.new nD, [], upd_same, fun k => ⟨fun h => (nomatch h), fun ⟨b, h, _⟩ => (nomatch h)⟩, Nat.le_refl 0⟩ (fun i H _ h => hG H h.1) ?_ ?_
  · rintro i x H H' hi ⟨s1, ks, hD, hk, hl⟩ y
    have hbi : bs[i]? = some bs[i] := List.getElem?_eq_getElem (by omega)
    have et : bs.take (i + 1) = bs.take i ++ [bs[i]] := by rw [List.take_add_one, hbi]; rfl
    refine step i x bs[i] H H' _ _ hi hbi s1 y (fun H4 s2 hf => ?_) (fun H3 s2 hf => ?_)
    · refine ⟨key bs[i], ks, rfl, s2 _ _ hD, by omega, Same.put nD (s1.trans s2), _, upd_same, fun k => ?_, Nat.le_trans SetX.ins_len (Nat.succ_le_succ hl)⟩
      rw [SetX.mem_ins, hk, et]
      constructor
      · rintro (e | ⟨b, h1, h2⟩)
        · exact ⟨bs[i], List.mem_append_right _ (List.mem_singleton.mpr rfl), hf, e.symm⟩
        · exact ⟨b, List.mem_append_left _ h1, h2⟩
      · rintro ⟨b, h1, h2, h3⟩
        rcases List.mem_append.mp h1 with h1 | h1
        · exact .inr ⟨b, h1, h2, h3⟩
        · rw [List.mem_singleton.mp h1] at h3
          exact .inl h3.symm
    · refine ⟨s1.trans s2, ks, s2 _ _ hD, fun k => ?_, Nat.le_succ_of_le hl⟩
      rw [hk, et]
      constructor
      · rintro ⟨b, h1, h2⟩
        exact ⟨b, List.mem_append_left _ h1, h2⟩
      · rintro ⟨b, h1, h2, h3⟩
        rcases List.mem_append.mp h1 with h1 | h1
        · exact ⟨b, h1, h2, h3⟩
        · rw [List.mem_singleton.mp h1, hf] at h2
          cases h2
  · rintro H ⟨s1, ks, hD, hk, hl⟩
    refine hd H ks s1 hD (fun k => ?_) hl
    rw [hk, ← hb, List.take_length]
theorem Same.unlock {H H' : Hp} {d : Addr} {u : HO} {o : Obj} (hd : H d = some u) (s : Same (upd H d (.frz o u)) H') : Same H (upd H' d u) := fun b x h => by
  by_cases e : b = d
  · subst e
    rw [hd] at h
    cases h
    exact upd_same
  · rw [upd_ne e]
    exact s b x (by rw [upd_ne e]; exact h)
section
variable {P : Program} {w : World} {K : PySem.W.Frag} {mg : Str → Option Value} {base : Heap}
def sp_word_of (K : PySem.W.Frag) : Sp := fun vs H Q _ => ∃ (v : Bool) (p d : Addr) (E : List (AN.Ent Str)) (n : Int), vs = [.ref p, .int n] ∧ BookAt K v H p d E ∧ 0 ≤ n ∧ n < AN.P 129 ∧ ∀ H', Same H H' → Q (oV (AN.look (Wd v) E n)) H'
abbrev N_Book_word_of : List Str := ["self", "number", "keys"]
theorem sc_Book_word_of : FnScope N_Book_word_of ["self", "number"] (defScope s_Book_word_of) := ⟨rfl, rfl, rfl, by decide +kernel, rfl, by decide +kernel, by decide +kernel⟩
theorem m_Book_word_of (T : Cxt K mg) : Met P w K mg base 4 (ga K "Book") "word_of" (Spn 2 (sp_word_of K)) [] := by
  obtain ⟨fd, F⟩ := T.F_Book_word_of
  refine metN F T.c_Book T.m_Book_word_of sc_Book_word_of rfl (fun _ _ _ _ _ _ us hl => match us, hl with | [_, _], _ => rfl) (fun cdv A outer s H vs Q E hr h => ?_)
  have nd := sc_Book_word_of.nd
  have hu := hu_of hr
  obtain ⟨v, p, d, E, n, rfl, bk, n0, n1, q⟩ := h
  refine ⟨_, (pss_cons (ps_set (i := 2) nd rfl (Or.inl rfl) (pe_m (m_Book_keys_of T) hr (by decide) (pv 0) (pa_cons (pv 1) pa_nil))) (pss_one (ps_ret (pe_ifExp (pt_cmpR (op_neNil (Nat.lt_of_succ_lt hu)) (pv 2) (pe_lst pa_nil) (nomark _)) (pe_dget hu (pe_fld (pv 0) rfl) (pe_ix ix_list (pv 2) pe_int (fun _ _ => rfl)) (fun _ _ => rfl)) pe_non)))), ?_⟩
  obtain ⟨db, ob⟩ := bk.ob
  refine ⟨_, rfl, p, db, _, rfl, ob, (by kernel_rfl), _, rfl, rfl, v, p, d, E, n, rfl, bk, n0, n1, fun l H1 nl s1 la => ?_⟩
  obtain ⟨ws, hw, hp⟩ := la
  refine ⟨_, rfl, by decide, fun e ne => ⟨l, e, ws, rfl, rfl, SqL.of (Same.new ne _ _ hw), SqL.of upd_same, ?_⟩⟩
  have s2 := s1.trans (Same.new (o := .lst []) ne)
  have hw2 := Same.new (o := .lst []) ne _ _ hw
  have hp2 := Paired.kp TupR.kp (.of (Same.new (o := .lst []) ne)) hp
  have lk := look_keys (Wd v) E n
  have bk2 := bk.mono s2
  obtain ⟨db2, ob2⟩ := bk2.ob
  generalize hL : (keysE (Wd v) n).filter (hitE E) = L at hp2 lk
  cases hp2 with
  | nil =>
    refine ⟨_, rfl, iteF ?_⟩
    have := q _ s2
    have lk2 : AN.look (Wd v) E n = none := lk
    rw [lk2] at this
    exact this
  | @cons x b xs bs r t =>
    refine ⟨_, rfl, iteT ?_⟩
    obtain ⟨tt, rfl, htt⟩ := r
    have hm : b ∈ (keysE (Wd v) n).filter (hitE E) := by rw [hL]; exact List.mem_cons_self
    have hh : hitE E b = true := (List.mem_filter.mp hm).2
    unfold hitE at hh
    obtain ⟨z, hz⟩ := Option.isSome_iff_exists.mp hh
    refine ⟨_, rfl, p, _, db2, _, _, rfl, ob2, T.c_Book, T.n_Book_rows, bookF_rows v d, _, rfl, l, _, 0, .ref tt, rfl, rfl, SqL.of hw2, atI_nat (j := 0) rfl, d, .str z, rfl, ?_, ?_⟩
    · have g := DGet.t (k := keyE v b) bk2.rows htt
      rw [valT, hz] at g
      exact g
    · have := q _ s2
      have lk2 : AN.look (Wd v) E n = some z := lk.trans hz
      rw [lk2] at this
      exact this
def sp_bcall (K : PySem.W.Frag) : Sp := fun vs H Q _ => ∃ (v : Bool) (p d a : Addr) (E : List (AN.Ent Str)) (n : Int), vs = [.ref p, .ref a, .non] ∧ BookAt K v H p d E ∧ AdrAt K v H a n ∧ 0 ≤ n ∧ n < AN.P (Wd v) ∧ ∀ H', Same H H' → Q (oV (AN.look (Wd v) E n)) H'
theorem binds_Book_call (T : Cxt K mg) : ∃ fd, FunD K d_Book_call.name d_Book_call.qual d_Book_call.params d_Book_call.body d_Book_call.scope (d_Book_call.dvs K) (d_Book_call.kws K) (fAd K d_Book_call.at_) fd ∧
    ∃ ds, Vals [] ds ∧ L2.Binds K fd ["self", "address", "word"] ds := by
  obtain ⟨fd, F⟩ := T.F_Book_call
  refine ⟨fd, F, F.binds1 3 1 (by intro z; cases z) rfl (fun TT kV doc pm an cdv ct us its h1 h2 => ?_)⟩
  match us, its, h1, h2 with
  | [a, b, c], [d], _, _ => exact ⟨_, rfl, rfl⟩
theorem oV_non (o : Option Str) : decide (oV o = V.non) = o.isNone := by
  cases o with
  | none => rfl
  | some w => exact decide_eq_false (fun z => nomatch z)
abbrev N_Book_call : List Str := ["self", "address", "word", "found"]
theorem sc_Book_call : FnScope N_Book_call ["self", "address", "word"] (defScope s_Book_call) := ⟨rfl, rfl, rfl, by decide +kernel, rfl, by decide +kernel, by decide +kernel⟩
theorem m_Book_call (T : Cxt K mg) : Met P w K mg base 5 (ga K "Book") "__call__" (Spn 3 (sp_bcall K)) [] := by
  obtain ⟨fd, F, ds, hv, hb⟩ := binds_Book_call T
  refine metD F T.c_Book T.m_Book_call sc_Book_call rfl hb hv (fun cdv A outer s H vs Q E hr h => ?_)
  have nd := sc_Book_call.nd
  have hu := hu_of hr
  obtain ⟨v, p, d, a, E, n, rfl, bk, adr, n0, n1, q⟩ := h
  refine ⟨_, (pss_cons (ps_expr (pe_m (m_Book_look_address T) hr (by decide) (pv 0) (pa_cons (pv 1) pa_nil))) (pss_cons (ps_set (i := 3) nd rfl (Or.inl rfl) (pe_m (m_Book_word_of T) hr (by decide) (pv 0) (pa_cons (pe_fld (pv 1) rfl) pa_nil))) (pss_one (ps_ret (pe_ifExp (pt_cmpR op_isN (pv 3) pe_non (nomark _)) (pv 2) (pv 3)))))), ?_⟩
  obtain ⟨db, ob⟩ := bk.ob
  refine ⟨_, rfl, p, db, _, rfl, ob, (by kernel_rfl), _, rfl, rfl, v, p, d, a, E, n, rfl, bk, adr, fun H1 s1 => ?_⟩
  have bk1 := bk.mono s1
  obtain ⟨db1, ob1⟩ := bk1.ob
  obtain ⟨da, oa⟩ := adr.mono s1
  refine ⟨_, rfl, p, db1, _, rfl, ob1, (by kernel_rfl), _, rfl, a, _, da, _, _, rfl, oa, c_aC T v, no_number T v, adrF_number _, rfl, v, p, d, E, n, rfl, bk1, n0, lt129 n1, fun H2 s2 => ?_⟩
  have r := q H2 (s1.trans s2)
  refine ⟨_, rfl, rfl, ?_⟩
  cases h : AN.look (Wd v) E n with
  | none =>
    rw [h] at r
    exact ⟨_, rfl, iteT ⟨_, rfl, r⟩⟩
  | some z =>
    rw [h] at r
    refine ⟨_, rfl, ?_⟩
    exact iteF ⟨_, rfl, r⟩
def sp_begins (K : PySem.W.Frag) : Sp := fun vs H Q _ => ∃ (v : Bool) (p d : Addr) (E : List (AN.Ent Str)), vs = [.ref p] ∧ BookAt K v H p d E ∧ NOkE v E ∧ E.length ≤ 1000 ∧ ∀ l H' B, H l = none → Same H H' → AN.Beg (Wd v) E B → B.length ≤ 2001 → H' l = some (.lst (B.map V.int)) → Q (.ref l) H'
/-- the numbers that begins gathers -/
def marksE (E : List (AN.Ent Str)) : List Int := 0 :: E.flatMap fun e => [e.1.1, e.1.1 + AN.P e.1.2]
theorem marks_take {E : List (AN.Ent Str)} {i : Nat} {e : AN.Ent Str} (h : E[i]? = some e) : marksE (E.take (i + 1)) = marksE (E.take i) ++ [e.1.1, e.1.1 + AN.P e.1.2] := by
  unfold marksE
  rw [List.take_add_one, h, List.flatMap_append]
  simp
theorem marks_len (E : List (AN.Ent Str)) : (marksE E).length = 2 * E.length + 1 := by
  unfold marksE
  rw [List.length_cons]
  congr 1
  induction E with
  | nil => rfl
  | cons e E ih =>
    rw [List.flatMap_cons, List.length_append, ih, List.length_cons, List.length_cons]
    simp
    omega
theorem mem_marks {E : List (AN.Ent Str)} {x : Int} : x ∈ marksE E ↔ x = 0 ∨ ∃ e ∈ E, x = e.1.1 ∨ x = e.1.1 + AN.P e.1.2 := by
  unfold marksE
  rw [List.mem_cons, List.mem_flatMap]
  refine or_congr Iff.rfl ⟨fun ⟨e, h1, h2⟩ => ⟨e, h1, by simpa using h2⟩, fun ⟨e, h1, h2⟩ => ⟨e, h1, by simpa using h2⟩⟩
abbrev N_Book_begins : List Str := ["self", "found", "number", "prefix"]
theorem sc_Book_begins : FnScope N_Book_begins ["self"] (defScope s_Book_begins) := ⟨rfl, rfl, rfl, by decide +kernel, rfl, by decide +kernel, by decide +kernel⟩
theorem m_Book_begins (T : Cxt K mg) : Met P w K mg base 1 (ga K "Book") "begins" (Spn 1 (sp_begins K)) [] := by
  obtain ⟨fd, F⟩ := T.F_Book_begins
  refine metN F T.c_Book T.m_Book_begins sc_Book_begins rfl (fun _ _ _ _ _ _ us hl => match us, hl with | [_], _ => rfl) (fun cdv A outer s H vs Q E hr h => ?_)
  have nd := sc_Book_begins.nd
  have hu := hu_of hr
  obtain ⟨v, p, d, E, rfl, bk, hok, hlen, q⟩ := h
  refine ⟨_, (pss_cons (ps_set (i := 1) nd rfl (Or.inl rfl) (pe_lst (pa_cons pe_int pa_nil))) (pss_cons (ps_lock (ps_for PassesOwn.never rfl (pi_keys (pe_fld (pv 0) rfl)) (pg_tup rfl (pgs_cons (pg_name (i := 2) nd rfl (Or.inl rfl)) (pgs_cons (pg_name (i := 3) nd rfl (Or.inl rfl)) pgs_nil))) (pss_cons (ps_expr (pe_bm PySem.F.plainAttrs_list PySem.F.slot_list_append PySem.F.type_list_append mt_append (pv 1) (pa_cons (pv 2) pa_nil))) (pss_one (ps_expr (pe_bm PySem.F.plainAttrs_list PySem.F.slot_list_append PySem.F.type_list_append mt_append (pv 1) (pa_cons (pe_op op_add (pv 2) (pe_op op_shlW pe_int (pe_op op_sub (pe_fld (pv 0) rfl) (pv 3)))) pa_nil))))))) (pss_one (ps_ret (pe_callB (SetX.cr_sortedKI rfl) (by rfl) T.z_sorted (by decide +kernel) (pa_cons (SetX.pe_scK (own := [("number", 2)]) (g := gName 2) rfl nd (pi_list (pv 1)) (blkOk_by (own := [("number", 2)]) (N := N_Book_begins) (sc := defScope s_Book_begins) (by decide +kernel)) (fun _ _ _ _ _ => (pg_name (i := 2) nd rfl (Or.inl rfl) (.inr rfl))) (fun _ _ _ _ _ => pts_one (pt_cmpR op_lt (pv 2) (pe_op op_shlW pe_int (pe_fldK (K := K) (pv 0) rfl)) (nomark _))) (fun _ _ _ _ _ => (pv 2))) pa_nil)))))), ?_⟩
  refine ⟨by decide, fun f nf => ?_⟩
  have s0 : Same H _ := Same.new (o := .lst [.int 0]) nf
  have bk0 := bk.mono s0
  obtain ⟨db, ob⟩ := bk0.ob
  have pd : p ≠ d := fun e => by rw [e, bk0.rows] at ob; cases ob
  have fd : f ≠ d := fun e => by subst e; rw [bk.rows] at nf; cases nf
  refine ⟨d, _, bk0.rows, trivial, fun od => ?_⟩
  generalize hG : upd (upd H f (.lst [.int 0])) d (.frz od (.dT (rowsT v E))) = G
  have gp : G p = some (.ins (ga K "Book") db (bookF v d)) := by rw [← hG, upd_ne pd]; exact ob
  have gf : G f = some (.lst [.int 0]) := by rw [← hG, upd_ne fd]; exact upd_same
  have gd : G d = some (.frz od (.dT (rowsT v E))) := by rw [← hG]; exact upd_same
  refine ⟨_, rfl, p, _, db, _, _, rfl, gp, T.c_Book, T.n_Book_rows, bookF_rows v d, d, od, rfl, .inr ⟨_, gd, ?_⟩⟩
  refine for_it walk_keysT (fun i σ' H' => ∃ a b : Option V, σ' = [some (.ref p), some (.ref f), a, b] ∧ But f G H' ∧ H' f = some (.lst ((marksE (E.take i)).map V.int)))
    ⟨none, none, rfl, But.refl, gf⟩ (fun i σ' H' _ ⟨_, _, _, b1, _⟩ => b1 _ _ gd fd.symm) ?_ ?_
  · rintro i x σ' H0 H1 hi ⟨a, b, rfl, b1, hf⟩ ⟨rfl, ky, vl, t, hkv, rfl, ht⟩
    rw [List.getElem?_map] at hkv
    obtain ⟨e, he, e2⟩ := Option.map_eq_some_iff.mp hkv
    cases e2
    have hm : e ∈ E := List.mem_of_getElem? he
    have ok := hok e hm
    have fp : p ≠ f := fun z => by rw [z, gf] at gp; cases gp
    have hle : i < E.length := by rw [List.length_map] at hi; exact hi
    have ml : (marksE (E.take i)).length ≤ 2 * E.length + 1 := by rw [marks_len, List.length_take]; omega
    refine ⟨t, _, rfl, SqT.of ht, rfl, _, _, rfl, _, _, rfl, rfl, ?_⟩
    refine ⟨_, rfl, .inl ⟨rfl, _, SqL.of hf⟩, _, rfl, f, _, _, rfl, rfl, hf, ?_, ?_⟩
    · rw [List.length_map]
      have : sizeLine = 16777216 := rfl
      omega
    refine ⟨_, rfl, .inl ⟨rfl, _, SqL.of upd_same⟩, ?_⟩
    have e32 : (Wd v : Int) - ((Wd v : Int) - (e.1.2 : Int)) = (e.1.2 : Int) := by omega
    have cs : CShl (1 : Int) ((Wd v : Int) - ((Wd v : Int) - (e.1.2 : Int))) := by
      rw [e32]
      exact shl_ok (n := 1) (by decide) (by have := ok.le; have := Wd_le v; omega)
    refine ⟨_, rfl, _, rfl, p, _, db, _, _, rfl, by rw [upd_ne fp]; exact b1 _ _ gp fp, T.c_Book, T.n_Book_width, bookF_width v d, _, rfl, _, _, rfl, rfl, _, _, rfl, rfl, cs, _, _, rfl, rfl, f, _, _, rfl, rfl, upd_same, ?_, _, _, rfl, (b1.trans But.upd).trans But.upd, ?_⟩
    · rw [List.length_append, List.length_map, List.length_singleton]
      have : sizeLine = 16777216 := rfl
      omega
    · rw [upd_same, marks_take he, e32, pow_cast, Int.one_mul, List.map_append, List.append_assoc]
      rfl
  · rintro σ' H1 ⟨a, b, rfl, b1, hf⟩
    rw [List.length_map, List.take_length] at hf
    have h1d := b1 _ _ gd fd.symm
    refine ⟨h1d, ?_⟩
    generalize hH2 : upd H1 d (.dT (rowsT v E)) = H2
    have s2 : Same H H2 := by
      rw [← hH2]
      intro c o hc
      by_cases ec : c = d
      · subst ec
        rw [bk.rows] at hc
        cases hc
        exact upd_same
      · rw [upd_ne ec]
        have cf : c ≠ f := ne_of_none hc nf
        refine b1 c o ?_ cf
        rw [← hG, upd_ne ec, upd_ne cf]
        exact hc
    have f2 : H2 f = some (.lst ((marksE E).map V.int)) := by rw [← hH2, upd_ne fd]; exact hf
    have bk2 := bk.mono s2
    refine ⟨_, rfl, f, rfl, ⟨_, SqL.of f2⟩, fun D nD => ?_⟩
    refine sc_filt walk_list (marksE E) (fun m => decide (m < AN.P (Wd v))) (fun m => .inl m) (List.length_map ..).symm (by rw [List.length_map, marks_len]; omega) nD (fun H' s => SqL.of (s _ _ f2)) ?_ ?_
    · rintro i x m H3 H4 QE QN hi hm s3 ⟨rfl, hx⟩ ce cn
      rw [List.getElem?_map, hm] at hx
      cases hx
      obtain ⟨db3, ob3⟩ := (bk2.mono s3).ob
      have cs : CShl (1 : Int) (Wd v : Int) := shl_ok (n := 1) (by decide) (by have := Wd_le v; omega)
      refine ⟨rfl, _, rfl, _, rfl, p, _, db3, _, _, rfl, ob3, T.c_Book, T.n_Book_width, bookF_width v d, _, _, rfl, rfl, cs, _, _, rfl, rfl, _, rfl, ?_⟩
      have e1 : (1 : Int) * 2 ^ ((Wd v : Int)).toNat = AN.P (Wd v) := by rw [pow_cast, Int.one_mul]
      rw [e1]
      refine ite2 (fun c => ?_) (fun c => ?_)
      · exact ⟨_, rfl, ce _ (Same.refl _) c⟩
      · exact cn _ (Same.refl _) (Bool.eq_false_iff.mpr c)
    · intro H3 ks s3 hD hk hl
      refine ⟨D, ks, rfl, hD, fun k hkk => ?_, fun B l hB1 hB2 hB3 nl => ?_⟩
      · obtain ⟨m, _, _, e⟩ := (hk k).mp hkk
        exact ⟨m, e.symm⟩
      · have s4 : Same H2 (upd H3 l (.lst (B.map V.int))) := s3.trans (Same.new nl)
        refine q l _ B (Same.free (s2.trans s3) nl) (s2.trans s4) ⟨hB1, fun x => ?_⟩ ?_ upd_same
        · rw [hB2, hk]
          constructor
          · rintro ⟨m, h1, h2, h3⟩
            cases Sum.inl.inj h3
            exact ⟨of_decide_eq_true h2, mem_marks.mp h1⟩
          · rintro ⟨h1, h2⟩
            exact ⟨x, mem_marks.mpr h2, decide_eq_true h1, rfl⟩
        · rw [hB3]
          refine Nat.le_trans hl ?_
          rw [List.length_map, marks_len]
          omega
end
end AH
/-! W16 -/
set_option Elab.async false
set_option linter.all false
set_option maxRecDepth 100000
set_option maxHeartbeats 4000000
namespace AH
open PySem PySem.Spec PyProof.Rows L2 He
/-- each begin's end -/
def endsOf (top : Int) (B : List Int) : List Int := (B.drop 1).map (· - 1) ++ [top - 1]
theorem ends_len {top : Int} {B : List Int} (h : B ≠ []) : (endsOf top B).length = B.length := by
  cases B with
  | nil => exact (h rfl).elim
  | cons b B => unfold endsOf; rw [List.length_append, List.length_map]; rfl
theorem rows_at {f : Int → Option Str} {top : Int} : ∀ {B : List Int} {i : Nat} {r : AN.Row Str}, (AN.rowsOf f top B)[i]? = some r → ∃ b e, B[i]? = some b ∧ (endsOf top B)[i]? = some e ∧ r = (b, e, f b)
  | [], i, r, h => nomatch h
  | [b], 0, r, h => by
    cases h
    exact ⟨b, top - 1, rfl, rfl, rfl⟩
  | [b], i + 1, r, h => nomatch h
  | b :: c :: B, 0, r, h => by
    cases h
    exact ⟨b, c - 1, rfl, rfl, rfl⟩
  | b :: c :: B, i + 1, r, h => by
    obtain ⟨b', e, h1, h2, h3⟩ := rows_at (B := c :: B) (i := i) h
    exact ⟨b', e, h1, h2, h3⟩
theorem rows_len {f : Int → Option Str} {top : Int} : ∀ (B : List Int), (AN.rowsOf f top B).length = B.length
  | [] => rfl
  | [b] => rfl
  | b :: c :: B => congrArg (· + 1) (rows_len (c :: B))
theorem tab_nok {v : Bool} {E : List (AN.Ent Str)} (T : AN.Tab (Wd v) E) : NOkE v E := fun e he => let ⟨a, b, c, d⟩ := T.al e he; ⟨a, b, c, d⟩
section
variable {P : Program} {w : World} {K : PySem.W.Frag} {mg : Str → Option Value} {base : Heap}
def sp_answers (K : PySem.W.Frag) : Sp := fun vs H Q _ => ∃ (v : Bool) (p d : Addr) (E : List (AN.Ent Str)), vs = [.ref p] ∧ BookAt K v H p d E ∧ AN.Tab (Wd v) E ∧ E.length ≤ 1000 ∧
  ∀ l H' rs, H l = none → Same H H' → AN.Seg rs 0 (AN.P (Wd v)) → AN.Says rs (AN.look (Wd v) E) → rs.length ≤ 2001 → LA RowR H' l rs → Q (.ref l) H'
theorem cut_one {xs : List V} : cutV xs (some 1) none = xs.drop 1 := by
  unfold cutV
  have e1 : HT.sIx xs.length 0 (some 1) = min 1 xs.length := HT.sIx_nat xs.length 0 1
  rw [HT.sIx_none, e1]
  rcases Nat.lt_or_ge xs.length 1 with c | c
  · have : xs = [] := List.eq_nil_of_length_eq_zero (by omega)
    subst this
    rfl
  · rw [Nat.min_eq_left c, List.take_of_length_le (by rw [List.length_drop]; exact Nat.le_refl _)]
abbrev N_Book_answers : List Str := ["self", "begins", "ends", "number", "begin", "end"]
theorem sc_Book_answers : FnScope N_Book_answers ["self"] (defScope s_Book_answers) := ⟨rfl, rfl, rfl, by decide +kernel, rfl, by decide +kernel, by decide +kernel⟩
theorem m_Book_answers (T : Cxt K mg) : Met P w K mg base 5 (ga K "Book") "answers" (Spn 1 (sp_answers K)) [] := by
  obtain ⟨fd, F⟩ := T.F_Book_answers
  refine metN F T.c_Book T.m_Book_answers sc_Book_answers rfl (fun _ _ _ _ _ _ us hl => match us, hl with | [_], _ => rfl) (fun cdv A outer s H vs Q E hr h => ?_)
  have nd := sc_Book_answers.nd
  have hu := hu_of hr
  obtain ⟨v, p, d, E, rfl, bk, tab, hlen, q⟩ := h
  refine ⟨_, (pss_cons (ps_set (i := 1) nd rfl (Or.inl rfl) (pe_m0 (m_Book_begins T) hr (by decide) (pv 0))) (pss_cons (ps_set (i := 2) nd rfl (Or.inl rfl) (pe_op op_cat (pe_lc (own := [("number", 3)]) (g := gName 3) (tt := tYes) rfl nd (pi_list (pe_slice sl_list (pv 1) (po_some pe_int) po_none)) (blkOk_by (own := [("number", 3)]) (N := N_Book_answers) (sc := defScope s_Book_answers) (by decide +kernel)) (fun _ _ _ _ _ => (pg_name (i := 3) nd rfl (Or.inl rfl) (.inr rfl))) (fun _ _ _ _ _ => pts_nil) (fun _ _ _ _ _ => (pe_op op_sub (pv 3) pe_int))) (pe_lst (pa_cons (pe_op op_sub (pe_op op_shlW pe_int (pe_fld (pv 0) rfl)) pe_int) pa_nil)))) (pss_one (ps_ret (pe_lc (own := [("begin", 4), ("end", 5)]) (g := gTup K 2 (gCons (gName 4) (gCons (gName 5) gNil))) (tt := tYes) rfl nd (pi_zip (by rfl) T.z_zip (pa_cons (pv 1) (pa_cons (pv 2) pa_nil))) (blkOk_by (own := [("begin", 4), ("end", 5)]) (N := N_Book_answers) (sc := defScope s_Book_answers) (by decide +kernel)) (fun _ _ _ _ _ => (pg_tup rfl (pgs_cons (pg_name (i := 4) nd rfl (Or.inl rfl) (.inr rfl)) (pgs_cons (pg_name (i := 5) nd rfl (Or.inl rfl) (.inr rfl)) pgs_nil)))) (fun _ _ _ _ _ => pts_nil) (fun _ _ _ _ _ => (pe_tup (pa_cons (pv 4) (pa_cons (pv 5) (pa_cons (pe_m (m_Book_word_of T) hr (by decide) (pv 0) (pa_cons (pv 4) pa_nil)) pa_nil)))))))))), ?_⟩
  obtain ⟨db, ob⟩ := bk.ob
  refine ⟨_, rfl, p, db, _, rfl, ob, (by kernel_rfl), rfl, v, p, d, E, rfl, bk, tab_nok tab, hlen, fun l H1 B nl s1 beg hB hl => ?_⟩
  refine ⟨_, rfl, _, rfl, l, _, rfl, SqL.of hl, fun c nc => ?_⟩
  have sc : Same H1 _ := Same.new (o := .lst (cutV (B.map V.int) (some 1) none)) nc
  have ec : cutV (B.map V.int) (some 1) none = (B.drop 1).map V.int := by rw [cut_one, List.map_drop]
  refine ⟨c, rfl, ⟨_, SqL.of upd_same⟩, fun D nD => ?_⟩
  refine lc_map (Rb := IntR) IntR.kp walk_list ((B.drop 1).map (· - 1)) (by rw [ec, List.length_map, List.length_map]) (by rw [ec, List.length_map, List.length_drop]; omega) nD (fun H' s => SqL.of (s _ _ upd_same)) ?_ ?_
  · rintro i x b H2 H3 Q' hi hb s2 ⟨rfl, hx⟩ cont
    rw [ec, List.getElem?_map] at hx
    obtain ⟨m, hm, rfl⟩ := Option.map_eq_some_iff.mp hx
    rw [List.getElem?_map, hm] at hb
    cases hb
    exact ⟨Same.refl _, rfl, _, rfl, _, _, rfl, rfl, cont _ _ (Same.refl _) (Same.refl _) rfl⟩
  · rintro H2 s2 ⟨ws, hws, hwp⟩
    rw [ints_eq hwp] at hws
    have s12 := s1.trans (sc.trans s2)
    have bk2 := bk.mono s12
    obtain ⟨db2, ob2⟩ := bk2.ob
    have cs : CShl (1 : Int) (Wd v : Int) := shl_ok (n := 1) (by decide) (by have := Wd_le v; omega)
    refine ⟨_, rfl, p, _, db2, _, _, rfl, ob2, T.c_Book, T.n_Book_width, bookF_width v d, _, _, rfl, rfl, cs, _, _, rfl, rfl, by show 1 ≤ sizeLine; decide, fun m nm => ?_⟩
    have e1 : (1 : Int) * 2 ^ ((Wd v : Int)).toNat - 1 = AN.P (Wd v) - 1 := by rw [pow_cast, Int.one_mul]
    have hws2 := Same.new (o := .lst [.int ((1 : Int) * 2 ^ ((Wd v : Int)).toNat - 1)]) nm _ _ hws
    refine ⟨D, m, _, _, rfl, rfl, hws2, upd_same, ?_, fun en nen => ?_⟩
    · rw [List.length_map, List.length_map, List.length_drop]
      have : sizeLine = 16777216 := rfl
      show _ + 1 ≤ _
      omega
    have sm := s12.trans ((Same.new (o := .lst [.int ((1 : Int) * 2 ^ ((Wd v : Int)).toNat - 1)]) nm).trans (Same.new (o := .lst ((((B.drop 1).map (· - 1)).map V.int) ++ [.int ((1 : Int) * 2 ^ ((Wd v : Int)).toNat - 1)])) nen))
    generalize hG : upd (upd H2 m _) en _ = G at sm
    have gen : G en = some (.lst ((endsOf (AN.P (Wd v)) B).map V.int)) := by
      rw [← hG, upd_same, e1]
      unfold endsOf
      rw [List.map_append]
      rfl
    have gl : G l = some (.lst (B.map V.int)) := by
      have := (sc.trans s2) _ _ hl
      rw [← hG]
      exact Same.new nen _ _ (Same.new nm _ _ this)
    have bkG := bk.mono sm
    obtain ⟨t, hBt⟩ := beg.cons tab
    have Bne : B ≠ [] := by rw [hBt]; intro z; cases z
    obtain ⟨sg, sy⟩ := beg.rows tab
    refine ⟨_, rfl, _, rfl, l, en, _, _, rfl, SqL.of gl, SqL.of gen, fun D2 nD2 => ?_⟩
    refine lc_map (Rb := RowR) TupR.kp (walk_zip rfl) (AN.rowsOf (AN.look (Wd v) E) (AN.P (Wd v)) B) (by rw [rows_len, List.length_map, List.length_map, ends_len Bne, Nat.min_self]) (by rw [List.length_map, List.length_map, ends_len Bne, Nat.min_self]; omega) nD2 (fun H' s => ⟨SqL.of (s _ _ gl), SqL.of (s _ _ gen)⟩) ?_ ?_
    · rintro i x r H3 H4 Q' hi hb s3 ⟨Tt, x1, y1, rfl, nT, rfl, hx, hy⟩ cont
      obtain ⟨b, e, hb1, he1, rfl⟩ := rows_at hb
      have hx : (B.map V.int)[i]? = some x1 := hx
      have hy : ((endsOf (AN.P (Wd v)) B).map V.int)[i]? = some y1 := hy
      rw [List.getElem?_map, hb1] at hx
      rw [List.getElem?_map, he1] at hy
      cases hx
      cases hy
      have sT : Same H3 _ := Same.new (o := .tup [.int b, .int e]) nT
      have bk3 := bkG.mono (s3.trans sT)
      obtain ⟨db3, ob3⟩ := bk3.ob
      have bm : b ∈ B := List.mem_of_getElem? hb1
      have bn := beg.nonneg tab b bm
      refine ⟨sT, Tt, _, rfl, SqT.of upd_same, rfl, _, _, rfl, _, _, rfl, rfl, rfl, ?_⟩
      refine ⟨_, rfl, _, rfl, _, rfl, p, db3, _, rfl, ob3, (by kernel_rfl), _, rfl, rfl, v, p, d, E, b, rfl, bk3, bn.1, lt129 bn.2, fun H5 s5 => ⟨by show 3 ≤ sizeLine; decide, fun t nt => ?_⟩⟩
      have s6 := s5.trans (Same.new (o := .tup [.int b, .int e, oV (AN.look (Wd v) E b)]) nt)
      exact cont _ _ s6 (sT.trans s6) ⟨t, rfl, upd_same⟩
    · intro H3 s3 la
      exact q D2 H3 _ (Same.free sm nD2) (sm.trans s3) sg sy (by rw [rows_len]; exact hB) la
end
end AH
/-! W17 -/
set_option Elab.async false
set_option linter.all false
set_option maxRecDepth 100000
set_option maxHeartbeats 4000000
namespace AH
open PySem PySem.Spec PyProof.Rows L2 He
theorem sel_eq (f : Option Str → Bool) (rs : List (AN.Row Str)) : AN.sel f rs = (rs.filter fun r => f r.2.2).map fun r => (r.1, r.2.1) := rfl
theorem sel_len (f : Option Str → Bool) (rs : List (AN.Row Str)) : (AN.sel f rs).length ≤ rs.length := by
  rw [sel_eq, List.length_map]
  exact List.length_filter_le _ _
theorem oV_notnon (o : Option Str) : (!decide (oV o = V.non)) = o.isSome := by
  rw [oV_non]
  cases o <;> rfl
theorem inV_one (t z : Str) : inV (.str t) [.str z] = decide (t = z) := by
  show (eqV (.str z) (.str t) || false) = _
  rw [Bool.or_false]
  show (z == t) = _
  by_cases h : t = z
  · subst h
    rw [decide_eq_true rfl, beq_self_eq_true]
  · rw [decide_eq_false h]
    exact beq_eq_false_iff_ne.mpr (Ne.symm h)
/-- the ends of a row that stands for b -/
def Row2R : RVT (AN.Row Str) := TupR fun r => [.int r.1, .int r.2.1]
theorem Row2R.kp : Kp Row2R := TupR.kp
theorem row2_map {H : Hp} : ∀ {vs : List V} {rs : List (AN.Row Str)}, Paired (Row2R H) vs rs → Paired (RgR H) vs (rs.map fun r => (r.1, r.2.1))
  | _, _, .nil => .nil
  | _, _, .cons r t => .cons r (row2_map t)
section
variable {P : Program} {w : World} {K : PySem.W.Frag} {mg : Str → Option Value} {base : Heap}
def sp_covered (K : PySem.W.Frag) : Sp := fun vs H Q _ => ∃ (v : Bool) (p d : Addr) (E : List (AN.Ent Str)), vs = [.ref p] ∧ BookAt K v H p d E ∧ AN.Tab (Wd v) E ∧ E.length ≤ 1000 ∧
  ∀ s t us H' rs, Same H H' → AN.Seg rs 0 (AN.P (Wd v)) → AN.Says rs (AN.look (Wd v) E) → rs.length ≤ 2001 → NsetAt K v H' s t us → Paired (RgR H') us (AN.jn (AN.sel Option.isSome rs)) → Q (.ref s) H'
abbrev N_Book_covered : List Str := ["self", "low", "high", "told"]
theorem sc_Book_covered : FnScope N_Book_covered ["self"] (defScope s_Book_covered) := ⟨rfl, rfl, rfl, by decide +kernel, rfl, by decide +kernel, by decide +kernel⟩
theorem m_Book_covered (T : Cxt K mg) : Met P w K mg base 7 (ga K "Book") "covered" (Spn 1 (sp_covered K)) [] := by
  obtain ⟨fd, F⟩ := T.F_Book_covered
  refine metN F T.c_Book T.m_Book_covered sc_Book_covered rfl (fun _ _ _ _ _ _ us hl => match us, hl with | [_], _ => rfl) (fun cdv A outer s H vs Q E hr h => ?_)
  have nd := sc_Book_covered.nd
  have hu := hu_of hr
  obtain ⟨v, p, d, E, rfl, bk, tab, hlen, q⟩ := h
  refine ⟨_, (pss_one (ps_ret (pe_f (c_set_of T) hr (by decide) rfl (pa_cons (pe_f (c_merged T) hr (by decide) rfl (pa_cons (pe_lc (own := [("low", 1), ("high", 2), ("told", 3)]) (g := gTup K 3 (gCons (gName 1) (gCons (gName 2) (gCons (gName 3) gNil)))) rfl nd (pi_list (pe_m0 (m_Book_answers T) hr (by decide) (pv 0))) (blkOk_by (own := [("low", 1), ("high", 2), ("told", 3)]) (N := N_Book_covered) (sc := defScope s_Book_covered) (by decide +kernel)) (fun _ _ _ _ _ => (pg_tup rfl (pgs_cons (pg_name (i := 1) nd rfl (Or.inl rfl) (.inr rfl)) (pgs_cons (pg_name (i := 2) nd rfl (Or.inl rfl) (.inr rfl)) (pgs_cons (pg_name (i := 3) nd rfl (Or.inl rfl) (.inr rfl)) pgs_nil))))) (fun _ _ _ _ _ => pts_one (pt_cmpR op_notN (pv 3) pe_non (nomark _))) (fun _ _ _ _ _ => (pe_tup (pa_cons (pv 1) (pa_cons (pv 2) pa_nil))))) pa_nil)) (pa_cons (pe_fld (pv 0) rfl) pa_nil))))), ?_⟩
  obtain ⟨db, ob⟩ := bk.ob
  refine ⟨_, rfl, p, db, _, rfl, ob, (by kernel_rfl), rfl, v, p, d, E, rfl, bk, tab, hlen, fun l H1 rs nl s1 sg sy hrs ⟨ws, hw, hp⟩ => ?_⟩
  refine ⟨l, rfl, ⟨_, SqL.of hw⟩, fun D nD => ?_⟩
  refine lc_filt (Rb := Row2R) Row2R.kp walk_list rs (fun r => r.2.2.isSome) (Paired.len hp).symm (by rw [Paired.len hp]; omega) nD (fun H' s => SqL.of (s _ _ hw)) ?_ ?_
  · rintro i x b H2 H3 QE QN hi hb s2 ⟨rfl, hx⟩ ce cn
    obtain ⟨b2, hb2, t, rfl, ht⟩ := Paired.at hp hx
    rw [hb] at hb2
    cases hb2
    refine ⟨t, _, rfl, SqT.of (s2 _ _ ht), rfl, _, _, rfl, _, _, rfl, _, _, rfl, rfl, rfl, ?_⟩
    refine ⟨_, rfl, rfl, ?_⟩
    rw [oV_notnon]
    refine ⟨_, rfl, ?_⟩
    refine ite2 (fun c => ?_) (fun c => ?_)
    · refine ⟨_, rfl, _, rfl, by show 2 ≤ sizeLine; decide, fun t2 nt2 => ?_⟩
      exact ce _ _ (Same.new nt2) c ⟨t2, rfl, upd_same⟩
    · exact cn _ (Same.refl _) (Bool.eq_false_iff.mpr c)
  · rintro H2 s2 ⟨us, hu, hup⟩
    have hla : LA RgR H2 D (AN.sel Option.isSome rs) := ⟨us, hu, row2_map hup⟩
    have sl := sel_len Option.isSome rs
    refine ⟨rfl, D, _, rfl, hla, AN.sel_asc sg, by omega, fun m H3 nm s3 lam => ?_⟩
    have bk3 := bk.mono (s1.trans (s2.trans s3))
    obtain ⟨db3, ob3⟩ := bk3.ob
    have jl := AN.jn_len (AN.sel Option.isSome rs)
    refine ⟨_, rfl, p, _, db3, _, _, rfl, ob3, T.c_Book, T.n_Book_version, bookF_version v d, rfl, v, m, _, rfl, lam, by omega, fun sp t us H4 ns s4 nset pr => ?_⟩
    exact q sp t us H4 rs (s1.trans (s2.trans (s3.trans s4))) sg sy hrs nset pr
def isW (z : Str) (o : Option Str) : Bool := decide (o = some z)
def sp_answered (K : PySem.W.Frag) : Sp := fun vs H Q _ => ∃ (v : Bool) (p d : Addr) (E : List (AN.Ent Str)) (z : Str), vs = [.ref p, .str z] ∧ BookAt K v H p d E ∧ AN.Tab (Wd v) E ∧ E.length ≤ 1000 ∧ WordOk z ∧
  ∀ s t us H' rs, Same H H' → AN.Seg rs 0 (AN.P (Wd v)) → AN.Says rs (AN.look (Wd v) E) → rs.length ≤ 2001 → NsetAt K v H' s t us → Paired (RgR H') us (AN.jn (AN.sel (isW z) rs)) → Q (.ref s) H'
abbrev N_Book_answered : List Str := ["self", "word", "some", "found", "low", "high", "told"]
theorem sc_Book_answered : FnScope N_Book_answered ["self", "word"] (defScope s_Book_answered) := ⟨rfl, rfl, rfl, by decide +kernel, rfl, by decide +kernel, by decide +kernel⟩
theorem m_Book_answered (T : Cxt K mg) : Met P w K mg base 7 (ga K "Book") "answered" (Spn 2 (sp_answered K)) [] := by
  obtain ⟨fd, F⟩ := T.F_Book_answered
  refine metN F T.c_Book T.m_Book_answered sc_Book_answered rfl (fun _ _ _ _ _ _ us hl => match us, hl with | [_, _], _ => rfl) (fun cdv A outer s H vs Q E hr h => ?_)
  have nd := sc_Book_answered.nd
  have hu := hu_of hr
  obtain ⟨v, p, d, E, z, rfl, bk, tab, hlen, ok, q⟩ := h
  refine ⟨_, (pss_cons (ps_set (i := 2) nd rfl (Or.inr rfl) (pe_ifExp (pt_val (pe_f (c_is_word T) hr (by decide) rfl (pa_cons (pv 1) pa_nil))) (pe_lst (pa_cons (pv 1) pa_nil)) (pe_lst pa_nil))) (pss_cons (ps_setLc (i := 3) (own := [("low", 4), ("high", 5), ("told", 6)]) (g := gTup K 3 (gCons (gName 4) (gCons (gName 5) (gCons (gName 6) gNil)))) (by rfl) nd rfl rfl (sw_true rfl rfl rfl (by decide +kernel)) (pi_list (pe_m0 (m_Book_answers T) hr (by decide) (pv 0))) (blkOk_by (own := [("low", 4), ("high", 5), ("told", 6)]) (N := N_Book_answered) (sc := defScope s_Book_answered) (by decide +kernel)) (fun _ _ _ _ _ => (pg_tup rfl (pgs_cons (pg_name (i := 4) nd rfl (Or.inl rfl) (.inr rfl)) (pgs_cons (pg_name (i := 5) nd rfl (Or.inl rfl) (.inr rfl)) (pgs_cons (pg_name (i := 6) nd rfl (Or.inl rfl) (.inr rfl)) pgs_nil))))) (fun _ _ _ _ _ => pts_one (PW.pt (pw_and (pt_cmpR op_notN (pv 6) pe_non (nomark _)) (pw_and1 (pt_cmpR (op_in_seqK (K := K)) (pv 6) (pv 2) rfl))))) (fun _ _ _ _ _ => (pe_tup (pa_cons (pv 4) (pa_cons (pv 5) pa_nil))))) (pss_one (ps_ret (pe_f (c_set_of T) hr (by decide) rfl (pa_cons (pe_f (c_merged T) hr (by decide) rfl (pa_cons (pv 3) pa_nil)) (pa_cons (pe_fld (pv 0) rfl) pa_nil))))))), ?_⟩
  refine ⟨_, rfl, rfl, z, rfl, ok, fun H0 s0 => ⟨true, rfl, iteT ?_⟩⟩
  refine ⟨_, rfl, by show 1 ≤ sizeLine; decide, fun sm nsm => ?_⟩
  have s00 := s0.trans (Same.new (o := .lst [.str z]) nsm)
  have bk0 := bk.mono s00
  obtain ⟨db, ob⟩ := bk0.ob
  refine ⟨_, rfl, p, db, _, rfl, ob, (by kernel_rfl), rfl, v, p, d, E, rfl, bk0, tab, hlen, fun l H1 rs nl s1 sg sy hrs ⟨ws, hw, hp⟩ => ?_⟩
  have hsm := s1 _ _ (upd_same (H := H0) (a := sm) (o := .lst [.str z]))
  refine ⟨l, rfl, ⟨_, SqL.of hw⟩, fun D nD => ?_⟩
  refine lc_filt (Rb := Row2R) Row2R.kp walk_list rs (fun r => isW z r.2.2) (Paired.len hp).symm (by rw [Paired.len hp]; omega) nD (fun H' s => SqL.of (s _ _ hw)) ?_ ?_
  · rintro i x b H2 H3 QE QN hi hb s2 ⟨rfl, hx⟩ ce cn
    obtain ⟨b2, hb2, t, rfl, ht⟩ := Paired.at hp hx
    rw [hb] at hb2
    cases hb2
    refine ⟨t, _, rfl, SqT.of (s2 _ _ ht), rfl, _, _, rfl, _, _, rfl, _, _, rfl, rfl, rfl, ?_⟩
    refine ⟨_, rfl, rfl, ?_⟩
    rw [oV_notnon]
    refine ⟨_, rfl, ?_⟩
    have hsm2 := s2 _ _ hsm
    cases hwd : b.2.2 with
    | none =>
      refine iteF ?_
      exact cn _ (Same.refl _) (by show isW z b.2.2 = false; rw [hwd]; rfl)
    | some y =>
      refine iteT ?_
      refine ⟨_, rfl, _, rfl, sm, _, rfl, .inl (SqL.of hsm2), rfl, rfl, ?_⟩
      show ∃ k, V.bl (inV (.str y) [.str z]) = .bl k ∧ _
      rw [inV_one]
      refine ⟨_, rfl, ?_⟩
      have ef : isW z b.2.2 = decide (y = z) := by
        rw [hwd]
        unfold isW
        by_cases c : y = z
        · rw [c, decide_eq_true rfl, decide_eq_true rfl]
        · rw [decide_eq_false c, decide_eq_false (fun e => c (Option.some.inj e))]
      refine ite2 (fun c => ?_) (fun c => ?_)
      · refine ⟨_, rfl, _, rfl, by show 2 ≤ sizeLine; decide, fun t2 nt2 => ?_⟩
        exact ce _ _ (Same.new nt2) (by rw [ef]; exact c) ⟨t2, rfl, upd_same⟩
      · exact cn _ (Same.refl _) (by rw [ef]; exact Bool.eq_false_iff.mpr c)
  · rintro H2 s2 ⟨us, hu, hup⟩
    have hla : LA RgR H2 D (AN.sel (isW z) rs) := ⟨us, hu, row2_map hup⟩
    have sl := sel_len (isW z) rs
    refine ⟨_, rfl, rfl, D, _, rfl, hla, AN.sel_asc sg, by omega, fun m H3 nm s3 lam => ?_⟩
    have bk3 := bk0.mono (s1.trans (s2.trans s3))
    obtain ⟨db3, ob3⟩ := bk3.ob
    have jl := AN.jn_len (AN.sel (isW z) rs)
    refine ⟨_, rfl, p, _, db3, _, _, rfl, ob3, T.c_Book, T.n_Book_version, bookF_version v d, rfl, v, m, _, rfl, lam, by omega, fun sp t us H4 ns s4 nset pr => ?_⟩
    exact q sp t us H4 rs (s00.trans (s1.trans (s2.trans (s3.trans s4)))) sg sy hrs nset pr
end
end AH
/-! W18 -/
set_option Elab.async false
set_option linter.all false
set_option maxRecDepth 100000
set_option maxHeartbeats 4000000
namespace AH
open PySem PySem.Spec PyProof.Rows L2 He
/-- a dict comprehension over a walk -/
theorem dc_it {J : It} {n : Nat} {G : Hp → Prop} {Y : Nat → Hp → V → Hp → Prop} (wk : Walk J n G Y) {g : TG} {tt : TT} {tk tv : TE} {vs : List Nat} {σ : L2.St} {H1 : Hp} {D : Addr} {Qd : Hp → Prop} (Pv : Nat → Hp → Prop) (h0 : Pv 0 (upd H1 D (.dK []))) (hG : ∀ i H, i ≤ n → Pv i H → G H)
    (hs : ∀ i x H H', i < n → Pv i H → Y i H x H' → g x (wipe σ vs) H' fun σ2 H2 => wipe σ2 vs = wipe σ vs ∧ tt σ2 H2 fun b H3 =>
      if b = true then tk σ2 H3 fun y H4 => tv σ2 H4 fun z H5 => ∃ kvs k, y = kV k ∧ H5 D = some (.dK kvs) ∧ kvs.length < sizeLine ∧ Pv (i + 1) (upd H5 D (.dK (putK kvs k z))) else Pv (i + 1) H3) (hd : ∀ H, Pv n H → Qd H) :
    ∃ W : Nat → Nat → Hp → Prop, (∃ m, W 0 m (upd H1 D (.dK []))) ∧ ∀ i m H, W i m H →
      (J.stop i H ∧ Qd H) ∨ (J.go i H ∧ ∃ Nx : Hp → Prop, (∀ H', Nx H' → ∃ m', m' < m ∧ W (i + 1) m' H') ∧ ∀ x H', J.yld i H x H' → g x (wipe σ vs) H' fun σ2 H2 => wipe σ2 vs = wipe σ vs ∧ tt σ2 H2 fun b H3 =>
        if b = true then tk σ2 H3 fun y H4 => tv σ2 H4 fun z H5 => ∃ kvs k, y = kV k ∧ H5 D = some (.dK kvs) ∧ kvs.length < sizeLine ∧ Nx (upd H5 D (.dK (putK kvs k z))) else Nx H3) := by
  refine ⟨fun i m H => m = n - i ∧ i ≤ n ∧ Pv i H, ⟨n, rfl, Nat.zero_le _, h0⟩, ?_⟩
  rintro i m H ⟨rfl, hi, p⟩
  by_cases lt : i < n
  · exact .inr ⟨wk.goes i H lt (hG i H hi p), Pv (i + 1), fun H' p' => ⟨n - (i + 1), by omega, rfl, lt, p'⟩, fun x H' y => hs i x H H' lt p (wk.yields i H x H' lt (hG i H hi p) y)⟩
  · obtain rfl : i = n := by omega
    exact .inl ⟨wk.stops H (hG _ H hi p), hd H p⟩
theorem nodup_sub {α : Type} : ∀ {l m : List α}, l.Nodup → (∀ x ∈ l, x ∈ m) → l.length ≤ m.length
  | [], m, _, _ => Nat.zero_le _
  | x :: l, m, nd, h => by
    obtain ⟨n1, n2⟩ := List.nodup_cons.mp nd
    obtain ⟨a, b, e⟩ := List.append_of_mem (h x List.mem_cons_self)
    subst e
    have : l.length ≤ (a ++ b).length := nodup_sub n2 fun y hy => by
      have := h y (List.mem_cons_of_mem _ hy)
      rcases List.mem_append.mp this with q | q
      · exact List.mem_append_left _ q
      · rcases List.mem_cons.mp q with q | q
        · exact (n1 (q ▸ hy)).elim
        · exact List.mem_append_right _ q
    rw [List.length_append] at this
    rw [List.length_append, List.length_cons, List.length_cons]
    omega
/-! ### the words and how many numbers have them -/
def hasW (rs : List (AN.Row Str)) (z : Str) : Prop := ∃ r ∈ rs, r.2.2 = some z
def totW (rs : List (AN.Row Str)) (z : Str) : Int := AN.tot (AN.sel (isW z) rs)
theorem sel_app (f : Option Str → Bool) (rs ss : List (AN.Row Str)) : AN.sel f (rs ++ ss) = AN.sel f rs ++ AN.sel f ss := by
  rw [sel_eq, sel_eq, sel_eq, List.filter_append, List.map_append]
theorem totW_app (rs : List (AN.Row Str)) (r : AN.Row Str) (z : Str) : totW (rs ++ [r]) z = totW rs z + (if r.2.2 = some z then r.2.1 - r.1 + 1 else 0) := by
  unfold totW
  rw [sel_app, AN.tot_app]
  congr 1
  rw [sel_eq, List.filter_cons]
  by_cases h : r.2.2 = some z
  · rw [if_pos h, if_pos (by show isW z r.2.2 = true; unfold isW; exact decide_eq_true h)]
    exact AN.tot_one (r.1, r.2.1)
  · rw [if_neg h, if_neg (by show ¬ isW z r.2.2 = true; unfold isW; rw [decide_eq_false h]; decide)]
    rfl
theorem totW_zero {rs : List (AN.Row Str)} {z : Str} (h : ¬ hasW rs z) : totW rs z = 0 := by
  unfold totW
  rw [sel_eq, List.filter_eq_nil_iff.mpr]
  · rfl
  · intro r hr e
    exact h ⟨r, hr, of_decide_eq_true e⟩
/-- what counts has gathered -/
structure CntOk (rs : List (AN.Row Str)) (kvs : List (Key × V)) : Prop where
  keys : ∃ ks : List Str, kvs.map (·.1) = ks.map Sum.inr ∧ ks.Nodup ∧ ∀ z ∈ ks, hasW rs z
  yes : ∀ z, hasW rs z → valV kvs (.inr z) = some (.int (totW rs z))
  no : ∀ z, ¬ hasW rs z → valV kvs (.inr z) = none
theorem keys_put {kvs : List (Key × V)} {k : Key} {v : V} : (putK kvs k v).map (·.1) = if (valV kvs k).isSome then kvs.map (·.1) else kvs.map (·.1) ++ [k] := by
  unfold putK
  rw [valV_any]
  cases h : (valV kvs k).isSome with
  | true =>
    rw [if_pos rfl, if_pos rfl, List.map_map]
    refine List.map_congr_left fun e _ => ?_
    show (if e.1 = k then (e.1, v) else e).1 = e.1
    split <;> rfl
  | false =>
    rw [if_neg (by decide), if_neg (by decide), List.map_append]
    rfl
theorem CntOk.nil : CntOk [] [] := ⟨⟨[], rfl, List.nodup_nil, fun z h => nomatch h⟩, fun z ⟨r, h, _⟩ => (nomatch h), fun z _ => rfl⟩
theorem CntOk.skip {rs : List (AN.Row Str)} {kvs : List (Key × V)} {r : AN.Row Str} (c : CntOk rs kvs) (h : r.2.2 = none) : CntOk (rs ++ [r]) kvs := by
  have e : ∀ z, hasW (rs ++ [r]) z ↔ hasW rs z := fun z => by
    constructor
    · rintro ⟨q, hq, e⟩
      rcases List.mem_append.mp hq with hq | hq
      · exact ⟨q, hq, e⟩
      · rw [List.mem_singleton.mp hq, h] at e
        cases e
    · rintro ⟨q, hq, e⟩
      exact ⟨q, List.mem_append_left _ hq, e⟩
  obtain ⟨ks, h1, h2, h3⟩ := c.keys
  refine ⟨⟨ks, h1, h2, fun z hz => (e z).mpr (h3 z hz)⟩, fun z hz => ?_, fun z hz => c.no z fun q => hz ((e z).mpr q)⟩
  rw [c.yes z ((e z).mp hz), totW_app, if_neg (by rw [h]; intro q; cases q), Int.add_zero]
theorem CntOk.get {rs : List (AN.Row Str)} {kvs : List (Key × V)} (c : CntOk rs kvs) (z : Str) : (valV kvs (.inr z)).getD (.int 0) = .int (totW rs z) := by
  by_cases h : hasW rs z
  · rw [c.yes z h]
    rfl
  · rw [c.no z h, totW_zero h]
    rfl
theorem CntOk.put {rs : List (AN.Row Str)} {kvs : List (Key × V)} {r : AN.Row Str} {z : Str} (c : CntOk rs kvs) (h : r.2.2 = some z) : CntOk (rs ++ [r]) (putK kvs (.inr z) (.int (totW rs z + (r.2.1 - r.1 + 1)))) := by
  have e : ∀ y, hasW (rs ++ [r]) y ↔ hasW rs y ∨ y = z := fun y => by
    constructor
    · rintro ⟨q, hq, e⟩
      rcases List.mem_append.mp hq with hq | hq
      · exact .inl ⟨q, hq, e⟩
      · rw [List.mem_singleton.mp hq, h] at e
        exact .inr (Option.some.inj e).symm
    · rintro (⟨q, hq, e⟩ | rfl)
      · exact ⟨q, List.mem_append_left _ hq, e⟩
      · exact ⟨r, List.mem_append_right _ (List.mem_singleton.mpr rfl), h⟩
  have ez : totW (rs ++ [r]) z = totW rs z + (r.2.1 - r.1 + 1) := by rw [totW_app, if_pos h]
  refine ⟨?_, fun y hy => ?_, fun y hy => ?_⟩
  · obtain ⟨ks, h1, h2, h3⟩ := c.keys
    rw [keys_put]
    by_cases hz : hasW rs z
    · rw [c.yes z hz, if_pos (show (some (V.int (totW rs z))).isSome = true from rfl)]
      exact ⟨ks, h1, h2, fun y hy => (e y).mpr (.inl (h3 y hy))⟩
    · rw [c.no z hz, if_neg (show ¬ (none : Option V).isSome = true by decide), h1]
      refine ⟨ks ++ [z], by rw [List.map_append]; rfl, ?_, fun y hy => ?_⟩
      · refine List.nodup_append.mpr ⟨h2, List.nodup_cons.mpr ⟨fun q => (nomatch q), List.nodup_nil⟩, fun a ha b hb q => ?_⟩
        rw [List.mem_singleton.mp hb] at q
        subst q
        exact hz (h3 _ ha)
      · rcases List.mem_append.mp hy with hy | hy
        · exact (e y).mpr (.inl (h3 y hy))
        · exact (e y).mpr (.inr (List.mem_singleton.mp hy))
  · rw [valV_put]
    by_cases q : y = z
    · subst q
      rw [if_pos rfl, ez]
    · rw [if_neg (fun w => q (Sum.inr.inj w))]
      rcases (e y).mp hy with hy | hy
      · rw [c.yes y hy, totW_app, if_neg (by rw [h]; intro w; exact q (Option.some.inj w).symm), Int.add_zero]
      · exact (q hy).elim
  · rw [valV_put]
    have q : ¬ y = z := fun w => hy ((e y).mpr (.inr w))
    rw [if_neg (fun w => q (Sum.inr.inj w))]
    exact c.no y fun w => hy ((e y).mpr (.inl w))
theorem row_word {v : Bool} {E : List (AN.Ent Str)} {rs : List (AN.Row Str)} (T : AN.Tab (Wd v) E) (sg : AN.Seg rs 0 (AN.P (Wd v))) (sy : AN.Says rs (AN.look (Wd v) E)) {z : Str} (h : hasW rs z) : ∃ e ∈ E, e.2 = z := by
  obtain ⟨r, hr, hz⟩ := h
  have h1 := sg.mem r hr
  have h2 := sy r hr r.1 (Int.le_refl _) h1.2.1
  rw [hz] at h2
  obtain ⟨e, he, _, e2, _⟩ := AN.look_some T h2
  exact ⟨e, he, e2⟩
section
variable {P : Program} {w : World} {K : PySem.W.Frag} {mg : Str → Option Value} {base : Heap}
def sp_counts (K : PySem.W.Frag) : Sp := fun vs H Q _ => ∃ (v : Bool) (p d : Addr) (E : List (AN.Ent Str)) (us : List Str), vs = [.ref p] ∧ BookAt K v H p d E ∧ AN.Tab (Wd v) E ∧ E.length ≤ 1000 ∧ us.length < 60 ∧ (∀ e ∈ E, e.2 ∈ us) ∧
  ∀ D H' rs ys, Same H H' → AN.Seg rs 0 (AN.P (Wd v)) → AN.Says rs (AN.look (Wd v) E) → sortedS ys = true → ys.Nodup → (∀ z, z ∈ ys ↔ hasW rs z) → H' D = some (.dK (ys.map fun z => (.inr z, .int (totW rs z)))) → Q (.ref D) H'
abbrev N_Book_counts : List Str := ["self", "found", "low", "high", "word"]
theorem sc_Book_counts : FnScope N_Book_counts ["self"] (defScope s_Book_counts) := ⟨rfl, rfl, rfl, by decide +kernel, rfl, by decide +kernel, by decide +kernel⟩
theorem m_Book_counts (T : Cxt K mg) : Met P w K mg base 6 (ga K "Book") "counts" (Spn 1 (sp_counts K)) [] := by
  obtain ⟨fd, F⟩ := T.F_Book_counts
  refine metN F T.c_Book T.m_Book_counts sc_Book_counts rfl (fun _ _ _ _ _ _ us hl => match us, hl with | [_], _ => rfl) (fun cdv A outer s H vs Q E hr h => ?_)
  have nd := sc_Book_counts.nd
  have hu := hu_of hr
  obtain ⟨v, p, d, E, us, rfl, bk, tab, hlen, hus, hE, q⟩ := h
  refine ⟨_, (pss_cons (ps_set (i := 1) nd rfl (Or.inr rfl) pe_dnewK) (pss_cons (ps_for PassesOwn.never rfl (pi_list (pe_m0 (m_Book_answers T) hr (by decide) (pv 0))) (pg_tup rfl (pgs_cons (pg_name (i := 2) nd rfl (Or.inl rfl)) (pgs_cons (pg_name (i := 3) nd rfl (Or.inl rfl)) (pgs_cons (pg_name (i := 4) nd rfl (Or.inl rfl)) pgs_nil)))) (pss_one (ps_if (pt_cmpR op_notN (pv 4) pe_non (nomark _)) (pss_one (ps_dput hu (pv 1) (pv 4) (pe_op op_add (pe_op op_sub (pe_op op_add (pe_dget2 hu (pv 1) (pv 4) pe_int (by exact ⟨rfl, rfl, rfl, rfl⟩)) (pv 3)) (pv 2)) pe_int) rfl)) pss_nil))) (pss_one (ps_ret (pe_dc (own := [("word", 4)]) (g := gName 4) (tt := tYes) rfl nd (pi_list (pe_callB (call_sortedD rfl) (by rfl) T.z_sorted (by decide +kernel) (pa_cons (pv 1) pa_nil))) (blkOk_by (own := [("word", 4)]) (N := N_Book_counts) (sc := defScope s_Book_counts) (by decide +kernel)) (fun _ _ _ _ _ => (pg_name (i := 4) nd rfl (Or.inl rfl) (.inr rfl))) (fun _ _ _ _ _ => pts_nil) (fun _ _ _ _ _ => (pv 4)) (fun _ _ _ _ _ => (pe_dget hu (pv 1) (pv 4) (fun _ _ => rfl)))))))), ?_⟩
  intro fd nfd
  have s0 : Same H _ := Same.new (o := .dK []) nfd
  have bk0 := bk.mono s0
  obtain ⟨db, ob⟩ := bk0.ob
  refine ⟨_, rfl, p, db, _, rfl, ob, (by kernel_rfl), rfl, v, p, d, E, rfl, bk0, tab, hlen, fun l H1 rs nl s1 sg sy hrs ⟨ws, hw, hp⟩ => ?_⟩
  have hfd := s1 _ _ (upd_same (H := H) (a := fd) (o := .dK []))
  have lfd : l ≠ fd := fun e => by rw [e, hfd] at hw; cases hw
  refine ⟨l, rfl, ⟨_, SqL.of hw⟩, ?_⟩
  have nw : ∀ {ks : List Str} {ss : List (AN.Row Str)}, ks.Nodup → (∀ z ∈ ks, hasW ss z) → (∀ r ∈ ss, r ∈ rs) → ks.length < 60 := fun {ks ss} h1 h2 h3 => Nat.lt_of_le_of_lt (nodup_sub h1 fun z hz => by
    obtain ⟨r, hr, hz2⟩ := h2 z hz
    obtain ⟨e, he, e2⟩ := row_word tab sg sy ⟨r, h3 r hr, hz2⟩
    rw [← e2]
    exact hE e he) hus
  refine for_it walk_list (fun i σ' H' => ∃ a b c : Option V, ∃ kvs, σ' = [some (.ref p), some (.ref fd), a, b, c] ∧ But fd H1 H' ∧ H' fd = some (.dK kvs) ∧ CntOk (rs.take i) kvs)
    ⟨none, none, none, [], rfl, But.refl, hfd, .nil⟩ (fun i σ' H' _ ⟨_, _, _, _, _, b1, _⟩ => SqL.of (b1 _ _ hw lfd)) ?_ ?_
  · rintro i x σ' H2 H3 hi ⟨a, b, c, kvs, rfl, b1, hf, ok⟩ ⟨rfl, hx⟩
    obtain ⟨r, hr, t, rfl, ht⟩ := Paired.at hp hx
    have tfd : t ≠ fd := fun e => by rw [e, hfd] at ht; cases ht
    have et : rs.take (i + 1) = rs.take i ++ [r] := by rw [List.take_add_one, hr]; rfl
    refine ⟨t, _, rfl, SqT.of (b1 _ _ ht tfd), rfl, _, _, rfl, _, _, rfl, _, _, rfl, rfl, ?_⟩
    refine ⟨_, rfl, rfl, ?_⟩
    rw [oV_notnon]
    refine ⟨_, rfl, ?_⟩
    cases hz : r.2.2 with
    | none =>
      refine iteF ⟨_, _, _, kvs, rfl, b1, hf, ?_⟩
      rw [et]
      exact ok.skip hz
    | some z =>
      refine iteT ?_
      obtain ⟨ks, k1, k2, k3⟩ := ok.keys
      have kl : kvs.length < 60 := by
        have := nw k2 k3 fun q hq => List.mem_of_mem_take hq
        have e := congrArg List.length k1
        rw [List.length_map, List.length_map] at e
        omega
      refine ⟨_, rfl, fd, rfl, .inl ⟨_, .inl hf⟩, _, rfl, _, DGet.k (k := .inr z) hf, ?_⟩
      rw [ok.get]
      refine ⟨_, rfl, _, _, rfl, rfl, _, rfl, _, _, rfl, rfl, _, _, rfl, rfl, _, rfl, _, rfl, fd, _, rfl, DPut.k (k := .inr z) hf ?_, ?_⟩
      · have : sizeLine = 16777216 := rfl
        omega
      · refine ⟨_, _, _, _, rfl, b1.trans But.upd, upd_same, ?_⟩
        have e9 : totW (rs.take i) z + r.2.1 - r.1 + 1 = totW (rs.take i) z + (r.2.1 - r.1 + 1) := by omega
        have := ok.put hz
        rw [← e9, ← et] at this
        exact this
  · rintro σ' H2 ⟨a, b, c, kvs, rfl, b1, hf, ok⟩
    rw [Paired.len hp, List.take_length] at ok
    have s2 : Same H H2 := fun x o h => b1 x o ((s0.trans s1) x o h) (ne_of_none h nfd)
    obtain ⟨ks, k1, k2, k3⟩ := ok.keys
    refine ⟨_, rfl, fd, kvs, ks, rfl, .inl hf, k1, Nat.lt_trans (nw k2 k3 fun q hq => hq) (by decide), fun ys m hys hso nm => ?_⟩
    have ynd : ys.Nodup := hys.nodup_iff.mpr k2
    have ymem : ∀ z, z ∈ ys ↔ hasW rs z := fun z => by
      rw [hys.mem_iff]
      refine ⟨k3 z, fun h => ?_⟩
      have h1 := ok.yes z h
      have h2 : (Sum.inr z : Key) ∈ kvs.map (·.1) := by
        unfold valV at h1
        obtain ⟨y, hy, _⟩ := Option.map_eq_some_iff.mp h1
        have e := List.find?_some hy
        have e2 : y.1 = .inr z := of_decide_eq_true e
        rw [← e2]
        exact List.mem_map_of_mem (List.mem_of_find?_eq_some hy)
      rw [k1] at h2
      obtain ⟨y, hy, e⟩ := List.mem_map.mp h2
      exact Sum.inr.inj e ▸ hy
    have ylen : ys.length < 60 := by
      rw [hys.length_eq]
      exact nw k2 k3 fun q hq => hq
    have s3 : Same H2 (upd H2 m (.lst (ys.map V.str))) := Same.new nm
    refine ⟨m, rfl, ⟨_, SqL.of upd_same⟩, fun D nD => ?_⟩
    refine dc_it walk_list (fun i H' => Same (upd H2 m (.lst (ys.map V.str))) H' ∧ H' D = some (.dK ((ys.take i).map fun z => (.inr z, .int (totW rs z))))) ⟨Same.new nD, upd_same⟩ (fun i H' _ h => SqL.of (h.1 _ _ upd_same)) ?_ ?_
    · rintro i x H4 H5 hi ⟨s4, hD⟩ ⟨rfl, hx⟩
      rw [List.getElem?_map] at hx
      obtain ⟨z, hz, rfl⟩ := Option.map_eq_some_iff.mp hx
      have hf4 := s4 _ _ (s3 _ _ hf)
      have hm : hasW rs z := (ymem z).mp (List.mem_of_getElem? hz)
      refine ⟨rfl, lcY ?_⟩
      refine ⟨_, rfl, _, rfl, _, rfl, fd, .int (totW rs z), rfl, ?_, _, .inr z, rfl, hD, ?_, Same.put nD s4, ?_⟩
      · have g := DGet.k (k := .inr z) hf4
        rw [ok.yes z hm] at g
        exact g
      · rw [List.length_map, List.length_take]
        have : sizeLine = 16777216 := rfl
        omega
      · rw [upd_same, List.take_add_one, hz, putK_new]
        · rw [List.map_append]
          rfl
        · cases e : valV ((ys.take i).map fun z => ((Sum.inr z : Key), V.int (totW rs z))) (.inr z) with
          | none => rfl
          | some y =>
            exfalso
            unfold valV at e
            obtain ⟨u, hu, _⟩ := Option.map_eq_some_iff.mp e
            have e1 := List.find?_some hu
            have e2 : u.1 = .inr z := of_decide_eq_true e1
            obtain ⟨y2, hy2, e3⟩ := List.mem_map.mp (List.mem_of_find?_eq_some hu)
            subst e3
            have e4 : y2 = z := Sum.inr.inj e2
            subst e4
            obtain ⟨j, hj⟩ := List.getElem?_of_mem hy2
            have hji : j < i := by
              rcases Nat.lt_or_ge j i with c | c
              · exact c
              · rw [List.getElem?_take_eq_none c] at hj; cases hj
            rw [List.getElem?_take_of_lt hji] at hj
            obtain ⟨j1, j2⟩ := List.getElem?_eq_some_iff.mp hj
            obtain ⟨i1, i2⟩ := List.getElem?_eq_some_iff.mp hz
            exact List.pairwise_iff_getElem.mp ynd j i j1 i1 hji (j2.trans i2.symm)
    · rintro H4 ⟨s4, hD⟩
      rw [List.length_map, List.take_length] at hD
      exact q D H4 rs ys (s2.trans (s3.trans s4)) sg sy hso ynd ymem hD
end
end AH
/-! W19 -/
set_option Elab.async false
set_option linter.all false
set_option maxRecDepth 100000
set_option maxHeartbeats 4000000
namespace AH
open PySem PySem.Spec PyProof.Rows L2 He
theorem pe_orTK {X : Cx} {K : PySem.W.Frag} {a b : Expr} {rest : List Expr} {pos : Pos} {ta tb : TE} (ha : PE X a ta) (hb : PE X (.BoolOp .Or (b :: rest) pos) tb) (hK : X.K = K := by rfl) : PE X (.BoolOp .Or (a :: b :: rest) pos) (tOrT K ta tb) := hK ▸ pe_orT ha hb
/-! ### plans -/
def blkD (w h : Addr) : List (Key × V) := [(.inr "words", .ref w), (.inr "halves", .ref h)]
theorem blk_words (w h : Addr) : valV (blkD w h) (.inr "words") = some (.ref w) := by kernel_rfl
theorem blk_halves (w h : Addr) : valV (blkD w h) (.inr "halves") = some (.ref h) := by kernel_rfl
def BlkAt (H : Hp) : Addr → AN.Pl Str → Prop
  | b, .leaf v => ∃ w h, H b = some (.dK (blkD w h)) ∧ H w = some (.lst [.str v]) ∧ H h = some (.lst [])
  | b, .node ws p q => ∃ w h b1 b2, H b = some (.dK (blkD w h)) ∧ H w = some (.lst (ws.map V.str)) ∧ H h = some (.lst [.ref b1, .ref b2]) ∧ BlkAt H b1 p ∧ BlkAt H b2 q
theorem BlkAt.mono {H H' : Hp} (s : Same H H') : ∀ {p : AN.Pl Str} {b : Addr}, BlkAt H b p → BlkAt H' b p
  | .leaf v, _, ⟨w, h, a1, a2, a3⟩ => ⟨w, h, s _ _ a1, s _ _ a2, s _ _ a3⟩
  | .node ws p q, _, ⟨w, h, b1, b2, a1, a2, a3, a4, a5⟩ => ⟨w, h, b1, b2, s _ _ a1, s _ _ a2, s _ _ a3, a4.mono s, a5.mono s⟩
theorem BlkAt.wordsAt {H : Hp} {p : AN.Pl Str} {b : Addr} (h : BlkAt H b p) : ∃ w hh, H b = some (.dK (blkD w hh)) ∧ H w = some (.lst (p.words.map V.str)) := by
  cases p with
  | leaf v =>
    obtain ⟨w, h, a1, a2, a3⟩ := h
    exact ⟨w, h, a1, a2⟩
  | node ws p q =>
    obtain ⟨w, h, b1, b2, a1, a2, a3, a4, a5⟩ := h
    exact ⟨w, h, a1, a2⟩
def gz (f : Int → Option Str) (x : Int) : Str := (f x).getD ""
theorem row_val {rs : List (AN.Row Str)} {f : Int → Option Str} {a b : Int} (sg : AN.Seg rs a b) (sy : AN.Says rs f) {v : Str} : (∃ r ∈ rs, r.2.2.getD "" = v) ↔ ∃ x, a ≤ x ∧ x < b ∧ gz f x = v := by
  constructor
  · rintro ⟨r, hr, e⟩
    have h1 := sg.mem r hr
    refine ⟨r.1, h1.1, by omega, ?_⟩
    unfold gz
    rw [sy r hr r.1 (Int.le_refl _) h1.2.1]
    exact e
  · rintro ⟨x, h1, h2, e⟩
    obtain ⟨r, hr, h3, h4⟩ := sg.cover x h1 h2
    refine ⟨r, hr, ?_⟩
    rw [← sy r hr x h3 h4]
    exact e
/-- the values of a block's rows, as plan sorts them -/
structure ValsOf (rs : List (AN.Row Str)) (ns : List Str) : Prop where
  nd : ns.Nodup
  mem : ∀ v, v ∈ ns ↔ ∃ r ∈ rs, r.2.2.getD "" = v
theorem len1 {α : Type} {l : List α} (h : l.length = 1) : ∃ v, l = [v] := List.length_eq_one_iff.mp h
theorem vals_leaf {rs : List (AN.Row Str)} {f : Int → Option Str} {low : Int} {k : Nat} {v : Str} (sg : AN.Seg rs low (low + AN.P k)) (sy : AN.Says rs f) (h : ValsOf rs [v]) : AN.PlanOK (gz f) "" low k (.leaf v) :=
  .leaf fun x h1 h2 => List.mem_singleton.mp ((h.mem _).mpr ((row_val sg sy).mpr ⟨x, h1, h2, rfl⟩))
theorem all_len1 {rs : List (AN.Row Str)} {f : Int → Option Str} {a b : Int} {ns : List Str} {v : Str} (hab : a < b) (sg : AN.Seg rs a b) (sy : AN.Says rs f) (h : ValsOf rs ns) (hv : ∀ x, a ≤ x → x < b → gz f x = v) : ns.length = 1 := by
  have h1 : v ∈ ns := (h.mem v).mpr ((row_val sg sy).mpr ⟨a, Int.le_refl _, hab, hv a (Int.le_refl _) hab⟩)
  have h2 : ns.length ≤ [v].length := nodup_sub h.nd fun y hy => by
    obtain ⟨x, x1, x2, x3⟩ := (row_val sg sy).mp ((h.mem y).mp hy)
    rw [← x3, hv x x1 x2]
    exact List.mem_singleton.mpr rfl
  have h3 : 0 < ns.length := List.length_pos_of_mem h1
  have h4 : [v].length = 1 := rfl
  omega
theorem tru_word {K : PySem.W.Frag} {H : Hp} {z : Str} (h : WordOk z) : TruV K (.str z) H true := by
  refine ⟨Nat.le_trans h.high (by decide), ?_⟩
  have := h.low
  exact (bne_iff_ne.mpr (by omega)).symm
/-- a plan's words are few -/
structure PW2 (us : List Str) (p : AN.Pl Str) : Prop where
  nd : p.words.Nodup
  sub : ∀ u ∈ p.words, u ∈ ("" : Str) :: us
theorem PW2.len {us : List Str} {p : AN.Pl Str} (h : PW2 us p) : p.words.length ≤ us.length + 1 := nodup_sub h.nd h.sub
section
variable {P : Program} {w : World} {K : PySem.W.Frag} {mg : Str → Option Value} {base : Heap}
def sp_plan (k : Nat) : Sp := fun vs H Q _ => ∃ (l : Addr) (rs : List (AN.Row Str)) (low : Int) (f : Int → Option Str) (us : List Str), vs = [.ref l, .int low, .int (k : Int)] ∧ LA RowR H l rs ∧ rs.length ≤ 2001 ∧ AN.Seg rs low (low + AN.P k) ∧ AN.Says rs f ∧
  (∀ r ∈ rs, ∀ z, r.2.2 = some z → WordOk z ∧ z ∈ us) ∧ us.length < 60 ∧ ∀ b H' p, Same H H' → AN.PlanOK (gz f) "" low k p → PW2 us p → BlkAt H' b p → Q (.ref b) H'
abbrev N_plan : List Str := ["rows", "low", "bits", "words", "begin", "end", "word", "half", "one", "other", "both", "found"]
theorem sc_plan : FnScope N_plan ["rows", "low", "bits"] (defScope s_plan) := ⟨rfl, rfl, rfl, by decide +kernel, rfl, by decide +kernel, by decide +kernel⟩
theorem c_plan0 (T : Cxt K mg) : Cal P w K mg base 3 "plan" (Spn 3 (sp_plan 0)) [] := by
  obtain ⟨fd, F⟩ := T.F_plan
  refine calN F T.g_plan sc_plan rfl (fun _ _ _ _ _ _ us hl => match us, hl with | [_, _, _], _ => rfl) (fun cdv A outer s H vs Q E hr h => ?_)
  have nd := sc_plan.nd
  have hu := hu_of hr
  obtain ⟨l, rs, low, f, us, rfl, ⟨ws, hw, hp⟩, hlen, sg, sy, hok, hus, q⟩ := h
  refine ⟨_, (pss_cons (ps_set (i := 3) nd rfl (Or.inl rfl) (pe_callB (SetX.cr_sortedKS rfl) (by rfl) T.z_sorted (by decide +kernel) (pa_cons (SetX.pe_scK (own := [("begin", 4), ("end", 5), ("word", 6)]) (g := gTup K 3 (gCons (gName 4) (gCons (gName 5) (gCons (gName 6) gNil)))) (tt := tYes) rfl nd (pi_list (pv 0)) (blkOk_by (own := [("begin", 4), ("end", 5), ("word", 6)]) (N := N_plan) (sc := defScope s_plan) (by decide +kernel)) (fun _ _ _ _ _ => (pg_tup rfl (pgs_cons (pg_name (i := 4) nd rfl (Or.inl rfl) (.inr rfl)) (pgs_cons (pg_name (i := 5) nd rfl (Or.inl rfl) (.inr rfl)) (pgs_cons (pg_name (i := 6) nd rfl (Or.inl rfl) (.inr rfl)) pgs_nil))))) (fun _ _ _ _ _ => pts_nil) (fun _ _ _ _ _ => (pe_orTK (K := K) (pv 6) (pe_one pe_str)))) pa_nil))) (pss_cons (ps_if (pt_cmpR op_eq (pe_callB call_len_seq (by rfl) T.z_len (by decide +kernel) (pa_cons (pv 3) pa_nil)) pe_int (nomark _)) (pss_one (ps_ret (pe_disp (pps_cons pe_str (pv 3) (pps_cons pe_str (pe_lst pa_nil) pps_nil)) (by rfl) (by rfl) (fun z => by cases z) (by decide)))) pss_nil) pss_never)), ?_⟩
  refine ⟨_, rfl, l, rfl, ⟨ws, SqL.of hw⟩, fun D nD => ?_⟩
  refine sc_filt walk_list rs (fun _ => true) (fun r => .inr (r.2.2.getD "")) (Paired.len hp).symm (by rw [Paired.len hp]; omega) nD (fun H' s => SqL.of (s _ _ hw)) ?_ ?_
  · rintro i x r H1 H2 QE QN hi hr2 s1 ⟨rfl, hx⟩ ce cn
    obtain ⟨r2, hr3, t, rfl, ht⟩ := Paired.at hp hx
    rw [hr2] at hr3
    cases hr3
    refine ⟨t, _, rfl, SqT.of (s1 _ _ ht), rfl, _, _, rfl, _, _, rfl, _, _, rfl, rfl, rfl, lcY ?_⟩
    refine ⟨_, rfl, ?_⟩
    have ce := ce _ (Same.refl _) rfl
    cases hz : r.2.2 with
    | none =>
      rw [hz] at ce
      exact ⟨false, rfl, iteF ce⟩
    | some z =>
      rw [hz] at ce
      exact ⟨true, tru_word (hok r (List.mem_of_getElem? hr2) z hz).1, iteT ce⟩
  · intro H1 ks s1 hD hk hl
    refine ⟨D, ks, rfl, hD, fun k hkk => ?_, fun ns m hso hnd hmem hnl nm => ?_⟩
    · obtain ⟨r, _, _, e⟩ := (hk k).mp hkk
      exact ⟨_, e.symm⟩
    have vo : ValsOf rs ns := ⟨hnd, fun v => by
      rw [hmem, hk]
      exact ⟨fun ⟨r, h1, _, h2⟩ => ⟨r, h1, Sum.inr.inj h2⟩, fun ⟨r, h1, h2⟩ => ⟨r, h1, rfl, congrArg Sum.inr h2⟩⟩⟩
    have s2 : Same H (upd H1 m (.lst (ns.map V.str))) := s1.trans (Same.new nm)
    have n1 : ns.length = 1 := all_len1 (v := gz f low) (by have := AN.P_pos 0; omega) sg sy vo fun x h1 h2 => by
      have : AN.P 0 = 1 := AN.P_zero
      have : x = low := by omega
      rw [this]
    refine ⟨_, rfl, m, _, rfl, .inl (SqL.of upd_same), rfl, _, rfl, ?_⟩
    rw [List.length_map, n1]
    refine iteT ?_
    intro b nb
    have s3 := s2.trans (Same.new (o := .dK []) nb)
    refine ⟨_, rfl, by decide, fun h nh => ?_⟩
    have bh : b ≠ h := ne_of_none upd_same nh
    refine ⟨by rw [upd_ne bh]; exact upd_same, [(.inr "words", .ref m), (.inr "halves", .ref h)], rfl, by show 2 ≤ 15; decide, ?_⟩
    obtain ⟨v, rfl⟩ := len1 n1
    have mb : m ≠ b := ne_of_none upd_same nb
    have s4 : Same H (upd (upd (upd (upd H1 m (.lst ([v].map V.str))) b (.dK [])) h (.lst [])) b (.dK (mergeK [] [(.inr "words", .ref m), (.inr "halves", .ref h)]))) := fun c o hc => by
      have cb : c ≠ b := ne_of_none (s2 _ _ hc) nb
      rw [upd_ne cb]
      exact (s3.trans (Same.new nh)) c o hc
    refine q b _ (.leaf v) s4 (vals_leaf sg sy vo) ⟨List.nodup_cons.mpr ⟨fun z => (nomatch z), List.nodup_nil⟩, fun u hu => ?_⟩ ⟨m, h, ?_, ?_, ?_⟩
    · rw [List.mem_singleton.mp hu]
      obtain ⟨r, hr, e⟩ := (vo.mem v).mp (List.mem_singleton.mpr rfl)
      cases hz : r.2.2 with
      | none => rw [hz] at e; rw [← e]; exact List.mem_cons_self
      | some z => rw [hz] at e; rw [← e]; exact List.mem_cons_of_mem _ (hok r hr z hz).2
    · exact upd_same
    · rw [upd_ne mb, upd_ne (ne_of_none (Same.new nb _ _ upd_same) nh)]
      exact Same.new nb _ _ upd_same
    · rw [upd_ne bh.symm]
      exact upd_same
end
end AH
/-! W20 -/
set_option Elab.async false
set_option linter.all false
set_option maxRecDepth 100000
set_option maxHeartbeats 4000000
namespace AH
open PySem PySem.Spec PyProof.Rows L2 He
abbrev StrR : RVT Str := fun _ v z => v = .str z
theorem StrR.kp : Kp StrR := fun _ _ _ _ _ h => h
theorem strs_eq {H : Hp} : ∀ {vs : List V} {ns : List Str}, Paired (StrR H) vs ns → vs = ns.map V.str
  | _, _, .nil => rfl
  | _, _, .cons r t => by rw [List.map_cons, ← strs_eq t, r]
theorem inV_strs (z : Str) (l : List Str) : inV (.str z) (l.map V.str) = decide (z ∈ l) := by
  induction l with
  | nil => exact (decide_eq_false (fun h => (nomatch h))).symm
  | cons y l ih =>
    have e : inV (.str z) ((y :: l).map V.str) = ((y == z) || inV (.str z) (l.map V.str)) := rfl
    rw [e, ih]
    by_cases h : y = z
    · subst h
      rw [beq_self_eq_true, Bool.true_or, decide_eq_true (List.mem_cons_self)]
    · rw [beq_eq_false_iff_ne.mpr h, Bool.false_or]
      by_cases q : z ∈ l
      · rw [decide_eq_true q, decide_eq_true (List.mem_cons_of_mem _ q)]
      · rw [decide_eq_false q, decide_eq_false (fun w => (List.mem_cons.mp w).elim (fun e => h e.symm) q)]
theorem flat_strs (l : List Str) : (l.map V.str).all flatV = true := List.all_eq_true.mpr fun v hv => by
  obtain ⟨z, _, rfl⟩ := List.mem_map.mp hv
  rfl
def bothW (a b : List Str) : List Str := a.filter fun z => decide (z ∈ b)
theorem mem_both {a b : List Str} {z : Str} : z ∈ bothW a b ↔ z ∈ a ∧ z ∈ b := by
  unfold bothW
  rw [List.mem_filter, decide_eq_true_eq]
theorem node_ok {rs : List (AN.Row Str)} {f : Int → Option Str} {low : Int} {k : Nat} {ns ws : List Str} {p q : AN.Pl Str} (sg : AN.Seg rs low (low + AN.P (k + 1))) (sy : AN.Says rs f) (vo : ValsOf rs ns) (hn : ns.length ≠ 1)
    (hp : AN.PlanOK (gz f) "" low k p) (hq : AN.PlanOK (gz f) "" (low + AN.P k) k q) (c0 : ("" : Str) ∈ ns → ws = [("" : Str)]) (c1 : ¬ ("" : Str) ∈ ns → bothW p.words q.words ≠ [] → ws = bothW p.words q.words)
    (c2 : ¬ ("" : Str) ∈ ns → bothW p.words q.words = [] → ∀ v, v ∈ ws ↔ v ∈ p.words ∨ v ∈ q.words) : AN.PlanOK (gz f) "" low (k + 1) (.node ws p q) := by
  have zin : ("" : Str) ∈ ns ↔ ∃ x, low ≤ x ∧ x < low + AN.P (k + 1) ∧ gz f x = "" := (vo.mem _).trans (row_val sg sy)
  refine .node hp hq (fun h => c0 (zin.mpr h)) (fun hz ⟨u, hu⟩ v => ?_) (fun hz hd v => ?_) (fun v hv => ?_)
  · have nz : ¬ ("" : Str) ∈ ns := fun h => by
      obtain ⟨x, h1, h2, h3⟩ := zin.mp h
      exact hz x h1 h2 h3
    have ne : bothW p.words q.words ≠ [] := List.ne_nil_of_mem (mem_both.mpr hu)
    rw [c1 nz ne]
    exact mem_both
  · have nz : ¬ ("" : Str) ∈ ns := fun h => by
      obtain ⟨x, h1, h2, h3⟩ := zin.mp h
      exact hz x h1 h2 h3
    have e : bothW p.words q.words = [] := by
      rcases List.eq_nil_or_concat (bothW p.words q.words) with e | ⟨l, x, e⟩
      · exact e
      · have hm : x ∈ bothW p.words q.words := by rw [e, List.concat_eq_append]; simp
        obtain ⟨h1, h2⟩ := mem_both.mp hm
        exact (hd x h1 h2).elim
    exact c2 nz e v
  · have pp := AN.P_pos (k + 1)
    exact hn (all_len1 (by omega) sg sy vo hv)
theorem mergeBlk (w h : Addr) : mergeK [] [((.inr "words" : Key), V.ref w), (.inr "halves", .ref h)] = blkD w h := by kernel_rfl
section
variable {P : Program} {w : World} {K : PySem.W.Frag} {mg : Str → Option Value} {base : Heap}
theorem c_planS (T : Cxt K mg) {k : Nat} (hk : k + 1 ≤ 128) (ih : Cal P w K mg base (k + 3) "plan" (Spn 3 (sp_plan k)) []) : Cal P w K mg base (k + 3 + 1) "plan" (Spn 3 (sp_plan (k + 1))) [] := by
  obtain ⟨fd, F⟩ := T.F_plan
  refine calN F T.g_plan sc_plan rfl (fun _ _ _ _ _ _ us hl => match us, hl with | [_, _, _], _ => rfl) (fun cdv A outer s H vs Q E hr h => ?_)
  have nd := sc_plan.nd
  have hu := hu_of hr
  obtain ⟨l, rs, low, f, us, rfl, ⟨ws, hw, hp⟩, hlen, sg, sy, hok, hus, q⟩ := h
  have ek : ((k + 1 : Nat) : Int) - 1 = (k : Int) := by omega
  have pk := AN.P_pos k
  have pk1 := AN.P_succ k
  refine ⟨_, (pss_cons (ps_set (i := 3) nd rfl (Or.inl rfl) (pe_callB (SetX.cr_sortedKS rfl) (by rfl) T.z_sorted (by decide +kernel) (pa_cons (SetX.pe_scK (own := [("begin", 4), ("end", 5), ("word", 6)]) (g := gTup K 3 (gCons (gName 4) (gCons (gName 5) (gCons (gName 6) gNil)))) (tt := tYes) rfl nd (pi_list (pv 0)) (blkOk_by (own := [("begin", 4), ("end", 5), ("word", 6)]) (N := N_plan) (sc := defScope s_plan) (by decide +kernel)) (fun _ _ _ _ _ => (pg_tup rfl (pgs_cons (pg_name (i := 4) nd rfl (Or.inl rfl) (.inr rfl)) (pgs_cons (pg_name (i := 5) nd rfl (Or.inl rfl) (.inr rfl)) (pgs_cons (pg_name (i := 6) nd rfl (Or.inl rfl) (.inr rfl)) pgs_nil))))) (fun _ _ _ _ _ => pts_nil) (fun _ _ _ _ _ => (pe_orTK (K := K) (pv 6) (pe_one pe_str)))) pa_nil))) (pss_cons (ps_if (pt_cmpR op_eq (pe_callB call_len_seq (by rfl) T.z_len (by decide +kernel) (pa_cons (pv 3) pa_nil)) pe_int (nomark _)) (pss_one (ps_ret (pe_disp (pps_cons pe_str (pv 3) (pps_cons pe_str (pe_lst pa_nil) pps_nil)) (by rfl) (by rfl) (fun z => by cases z) (by decide)))) pss_nil) (pss_cons (ps_set (i := 7) nd rfl (Or.inl rfl) (pe_op op_shlW pe_int (pe_op op_sub (pv 2) pe_int))) (pss_cons (ps_set (i := 8) nd rfl (Or.inl rfl) (pe_f ih hr (by omega) rfl (pa_cons (pe_f (c_cut T) hr (by omega) rfl (pa_cons (pv 0) (pa_cons (pv 1) (pa_cons (pe_op op_sub (pe_op op_add (pv 1) (pv 7)) pe_int) pa_nil)))) (pa_cons (pv 1) (pa_cons (pe_op op_sub (pv 2) pe_int) pa_nil))))) (pss_cons (ps_set (i := 9) nd rfl (Or.inr rfl) (pe_f ih hr (by omega) rfl (pa_cons (pe_f (c_cut T) hr (by omega) rfl (pa_cons (pv 0) (pa_cons (pe_op op_add (pv 1) (pv 7)) (pa_cons (pe_op op_sub (pe_op op_add (pv 1) (pe_op op_mul pe_int (pv 7))) pe_int) pa_nil)))) (pa_cons (pe_op op_add (pv 1) (pv 7)) (pa_cons (pe_op op_sub (pv 2) pe_int) pa_nil))))) (pss_cons (ps_setLc (i := 10) (own := [("word", 6)]) (g := gName 6) (by rfl) nd rfl rfl (sw_true rfl rfl rfl (by decide +kernel)) (pi_list (pe_dget hu (pv 8) pe_str (fun _ _ => rfl))) (blkOk_by (own := [("word", 6)]) (N := N_plan) (sc := defScope s_plan) (by decide +kernel)) (fun _ _ _ _ _ => (pg_name (i := 6) nd rfl (Or.inl rfl) (.inr rfl))) (fun _ _ _ _ _ => pts_one (pt_cmpR (op_in_seqK (K := K)) (pv 6) (pe_dget hu (pv 9) pe_str (fun _ _ => rfl)) rfl)) (fun _ _ _ _ _ => (pv 6))) (pss_cons (ps_set (i := 11) nd rfl (Or.inl rfl) (pe_ifExp (pt_cmpR (op_neNil (Nat.lt_of_succ_lt hu)) (pv 10) (pe_lst pa_nil) (nomark _)) (pv 10) (pe_callB (SetX.cr_sortedKS rfl) (by rfl) T.z_sorted (by decide +kernel) (pa_cons (SetX.pe_scK (own := [("word", 6)]) (g := gName 6) (tt := tYes) rfl nd (pi_list (pe_op op_cat (pe_dget hu (pv 8) pe_str (fun _ _ => rfl)) (pe_dget hu (pv 9) pe_str (fun _ _ => rfl)))) (blkOk_by (own := [("word", 6)]) (N := N_plan) (sc := defScope s_plan) (by decide +kernel)) (fun _ _ _ _ _ => (pg_name (i := 6) nd rfl (Or.inl rfl) (.inr rfl))) (fun _ _ _ _ _ => pts_nil) (fun _ _ _ _ _ => (pv 6))) pa_nil)))) (pss_cons (ps_if (pt_cmpR op_in_seq pe_str (pv 3) rfl) (pss_one (ps_set (i := 11) nd rfl (Or.inl rfl) (pe_lst (pa_cons pe_str pa_nil)))) pss_nil) (pss_one (ps_ret (pe_disp (pps_cons pe_str (pv 11) (pps_cons pe_str (pe_lst (pa_cons (pv 8) (pa_cons (pv 9) pa_nil))) pps_nil)) (by rfl) (by rfl) (fun z => by cases z) (by decide)))))))))))), ?_⟩
  refine ⟨_, rfl, l, rfl, ⟨ws, SqL.of hw⟩, fun D nD => ?_⟩
  refine sc_filt walk_list rs (fun _ => true) (fun r => .inr (r.2.2.getD "")) (Paired.len hp).symm (by rw [Paired.len hp]; omega) nD (fun H' s => SqL.of (s _ _ hw)) ?_ ?_
  · rintro i x r H1 H2 QE QN hi hr2 s1 ⟨rfl, hx⟩ ce cn
    obtain ⟨r2, hr3, t, rfl, ht⟩ := Paired.at hp hx
    rw [hr2] at hr3
    cases hr3
    refine ⟨t, _, rfl, SqT.of (s1 _ _ ht), rfl, _, _, rfl, _, _, rfl, _, _, rfl, rfl, rfl, lcY ?_⟩
    refine ⟨_, rfl, ?_⟩
    have ce := ce _ (Same.refl _) rfl
    cases hz : r.2.2 with
    | none =>
      rw [hz] at ce
      exact ⟨false, rfl, iteF ce⟩
    | some z =>
      rw [hz] at ce
      exact ⟨true, tru_word (hok r (List.mem_of_getElem? hr2) z hz).1, iteT ce⟩
  · intro H1 ks s1 hD hks hl
    refine ⟨D, ks, rfl, hD, fun k hkk => ?_, fun ns m hso hnd hmem hnl nm => ?_⟩
    · obtain ⟨r, _, _, e⟩ := (hks k).mp hkk
      exact ⟨_, e.symm⟩
    have vo : ValsOf rs ns := ⟨hnd, fun v => by
      rw [hmem, hks]
      exact ⟨fun ⟨r, h1, _, h2⟩ => ⟨r, h1, Sum.inr.inj h2⟩, fun ⟨r, h1, h2⟩ => ⟨r, h1, rfl, congrArg Sum.inr h2⟩⟩⟩
    have s2 : Same H (upd H1 m (.lst (ns.map V.str))) := s1.trans (Same.new nm)
    have wsub : ∀ u, (∃ r ∈ rs, r.2.2.getD "" = u) → u ∈ ("" : Str) :: us := by
      rintro u ⟨r, hr, e⟩
      cases hz : r.2.2 with
      | none => rw [hz] at e; rw [← e]; exact List.mem_cons_self
      | some z => rw [hz] at e; rw [← e]; exact List.mem_cons_of_mem _ (hok r hr z hz).2
    generalize hH2 : upd H1 m (.lst (ns.map V.str)) = H2 at s2
    have hm2 : H2 m = some (.lst (ns.map V.str)) := by rw [← hH2]; exact upd_same
    refine ⟨_, rfl, m, _, rfl, .inl (SqL.of hm2), rfl, _, rfl, ?_⟩
    rw [List.length_map, dec_int_eq]
    refine ite2 (fun c => ?_) (fun c => ?_)
    · have n1 : ns.length = 1 := by have := of_decide_eq_true c; omega
      intro b nb
      have s3 := s2.trans (Same.new (o := .dK []) nb)
      refine ⟨_, rfl, by decide, fun h nh => ?_⟩
      have bh : b ≠ h := ne_of_none upd_same nh
      refine ⟨by rw [upd_ne bh]; exact upd_same, [(.inr "words", .ref m), (.inr "halves", .ref h)], rfl, by show 2 ≤ 15; decide, ?_⟩
      obtain ⟨v, rfl⟩ := len1 n1
      have mb : m ≠ b := ne_of_none hm2 nb
      have s4 : Same H (upd (upd (upd H2 b (.dK [])) h (.lst [])) b (.dK (mergeK [] [(.inr "words", .ref m), (.inr "halves", .ref h)]))) := fun c o hc => by
        have cb : c ≠ b := ne_of_none (s2 _ _ hc) nb
        rw [upd_ne cb]
        exact (s3.trans (Same.new nh)) c o hc
      refine q b _ (.leaf v) s4 (vals_leaf sg sy vo) ⟨List.nodup_cons.mpr ⟨fun z => (nomatch z), List.nodup_nil⟩, fun u hu => ?_⟩ ⟨m, h, ?_, ?_, ?_⟩
      · rw [List.mem_singleton.mp hu]
        exact wsub v ((vo.mem v).mp (List.mem_singleton.mpr rfl))
      · exact upd_same
      · rw [upd_ne mb, upd_ne (ne_of_none (Same.new nb _ _ hm2) nh)]
        exact Same.new nb _ _ hm2
      · rw [upd_ne bh.symm]
        exact upd_same
    · have n1 : ns.length ≠ 1 := fun e => c (decide_eq_true (by omega))
      -- the halves
      have cs : CShl (1 : Int) (((k + 1 : Nat) : Int) - 1) := by
        rw [ek]
        exact shl_ok (n := 1) (by decide) (by omega)
      have e2 : (1 : Int) * 2 ^ (((k + 1 : Nat) : Int) - 1).toNat = AN.P k := by rw [ek, pow_cast, Int.one_mul]
      refine ⟨_, rfl, _, _, rfl, rfl, _, _, rfl, rfl, cs, ?_⟩
      dsimp only
      rw [e2]
      have la2 : LA RowR H2 l rs := LA.mono TupR.kp s2 ⟨ws, hw, hp⟩
      have sg1 := AN.cut_seg sg (low := low) (high := low + AN.P k - 1) (Int.le_refl _) (by omega) (by omega)
      have sg2 := AN.cut_seg sg (low := low + AN.P k) (high := low + 2 * AN.P k - 1) (by omega) (by omega) (by omega)
      rw [show low + AN.P k - 1 + 1 = low + AN.P k by omega] at sg1
      rw [show low + 2 * AN.P k - 1 + 1 = low + AN.P k + AN.P k by omega] at sg2
      have cl1 := cutR_len rs low (low + AN.P k - 1)
      have cl2 := cutR_len rs (low + AN.P k) (low + 2 * AN.P k - 1)
      have cok : ∀ a b, ∀ r ∈ AN.cutR rs a b, ∀ z, r.2.2 = some z → WordOk z ∧ z ∈ us := by
        intro a b r hr z hz
        obtain ⟨r0, h0, h1⟩ := List.mem_filterMap.mp hr
        split at h1
        · cases h1
          exact hok r0 h0 z hz
        · cases h1
      refine ⟨_, rfl, _, rfl, _, rfl, _, rfl, _, _, rfl, rfl, _, _, rfl, rfl, rfl, l, rs, low, low + AN.P k - 1, rfl, la2, by omega, fun l1 H3 nl1 s3 la3 => ?_⟩
      refine ⟨_, rfl, _, rfl, _, _, rfl, rfl, rfl, l1, _, low, f, us, congrArg (fun i => [V.ref l1, .int low, .int i]) ek, la3, by omega, sg1, AN.cut_says sy, cok _ _, hus, fun b1 H4 p s4 pl1 pw1 bk1 => ?_⟩
      have s24 := s3.trans s4
      have la4 := LA.mono TupR.kp s24 la2
      refine ⟨_, rfl, _, rfl, _, rfl, _, _, rfl, rfl, _, rfl, _, rfl, _, _, rfl, rfl, .inl ⟨by decide, by decide⟩, _, _, rfl, rfl, _, _, rfl, rfl, rfl, l, rs, low + AN.P k, low + 2 * AN.P k - 1, rfl, la4, by omega, fun l2 H5 nl2 s5 la5 => ?_⟩
      refine ⟨_, rfl, _, rfl, _, _, rfl, rfl, _, rfl, _, _, rfl, rfl, rfl, l2, _, low + AN.P k, f, us, congrArg (fun i => [V.ref l2, .int (low + AN.P k), .int i]) ek, la5, by omega, sg2, AN.cut_says sy, cok _ _, hus, fun b2 H6 p2 s6 pl2 pw2 bk2 => ?_⟩
      have s46 := s5.trans s6
      have bk1' := bk1.mono s46
      obtain ⟨w1, h1, hb1, hw1⟩ := bk1'.wordsAt
      obtain ⟨w2, h2, hb2, hw2⟩ := bk2.wordsAt
      have hm6 := (s24.trans s46) _ _ hm2
      have g1 : ∀ {H'}, Same H6 H' → DGet H' b1 (.str "words") (some (.ref w1)) := fun {H'} s => by
        have g := DGet.k (k := .inr "words") (s _ _ hb1)
        rw [blk_words] at g
        exact g
      have g2 : ∀ {H'}, Same H6 H' → DGet H' b2 (.str "words") (some (.ref w2)) := fun {H'} s => by
        have g := DGet.k (k := .inr "words") (s _ _ hb2)
        rw [blk_words] at g
        exact g
      -- both
      refine ⟨_, rfl, b1, _, rfl, g1 (Same.refl _), w1, rfl, ⟨_, SqL.of hw1⟩, fun bo nbo => ?_⟩
      refine lc_filt (Rb := StrR) StrR.kp walk_list p.words (fun z => decide (z ∈ p2.words)) (List.length_map ..).symm (by have := pw1.len; rw [List.length_map]; omega) nbo (fun H' s => SqL.of (s _ _ hw1)) ?_ ?_
      · rintro i x z H7 H8 QE QN hi hz s7 ⟨rfl, hx⟩ ce cn
        rw [List.getElem?_map, hz] at hx
        cases hx
        refine ⟨rfl, _, rfl, _, rfl, b2, _, rfl, g2 s7, w2, _, rfl, .inl (SqL.of (s7 _ _ hw2)), rfl, flat_strs _, ?_⟩
        show ∃ k, V.bl (inV (.str z) (p2.words.map V.str)) = .bl k ∧ _
        rw [inV_strs]
        refine ⟨_, rfl, ?_⟩
        refine ite2 (fun c => ?_) (fun c => ?_)
        · exact ⟨_, rfl, ce _ _ (Same.refl _) c rfl⟩
        · exact cn _ (Same.refl _) (Bool.eq_false_iff.mpr c)
      · rintro H7 s7 ⟨vb, hvb, hvp⟩
        rw [strs_eq hvp] at hvb
        have hvb : H7 bo = some (.lst ((bothW p.words p2.words).map V.str)) := hvb
        have s67 := s7
        refine ⟨_, rfl, by decide, fun e ne => ⟨bo, e, _, rfl, rfl, SqL.of (Same.new ne _ _ hvb), SqL.of upd_same, ?_⟩⟩
        have s8 := s7.trans (Same.new (o := .lst []) ne)
        have hvb8 := Same.new (o := .lst []) ne _ _ hvb
        have end2 : ∀ (Hx : Hp) (fw : Addr) (wl : List Str) (Qx : VK), Same H6 Hx → Hx fw = some (.lst (wl.map V.str)) → wl.Nodup → (∀ u ∈ wl, u ∈ ("" : Str) :: us) → (("" : Str) ∈ ns → wl = [("" : Str)]) →
            (¬ ("" : Str) ∈ ns → bothW p.words p2.words ≠ [] → wl = bothW p.words p2.words) → (¬ ("" : Str) ∈ ns → bothW p.words p2.words = [] → ∀ v, v ∈ wl ↔ v ∈ p.words ∨ v ∈ p2.words) →
            ∀ b, Hx b = none → ∀ h, upd Hx b (.dK []) h = none → (upd (upd Hx b (.dK [])) h (.lst [.ref b1, .ref b2])) b = some (.dK []) ∧ Q (.ref b) (upd (upd (upd Hx b (.dK [])) h (.lst [.ref b1, .ref b2])) b (.dK (blkD fw h))) := by
          intro Hx fw wl Qx sx hfw wnd wsb w0 w1' w2' b nb h nh
          have bh : b ≠ h := ne_of_none upd_same nh
          have fb : fw ≠ b := ne_of_none hfw nb
          have fh : fw ≠ h := ne_of_none (Same.new nb _ _ hfw) nh
          refine ⟨by rw [upd_ne bh]; exact upd_same, ?_⟩
          have sxb : Same Hx (upd (upd (upd Hx b (.dK [])) h (.lst [.ref b1, .ref b2])) b (.dK (blkD fw h))) := fun c o hc => by
            have cb : c ≠ b := ne_of_none hc nb
            rw [upd_ne cb]
            exact ((Same.new nb).trans (Same.new nh)) c o hc
          refine q b _ (.node wl p p2) (s2.trans (s24.trans (s46.trans (sx.trans sxb)))) (node_ok sg sy vo n1 pl1 pl2 w0 w1' w2') ⟨wnd, wsb⟩ ⟨fw, h, b1, b2, upd_same, sxb _ _ hfw, ?_, (bk1'.mono sx).mono sxb, (bk2.mono sx).mono sxb⟩
          rw [upd_ne bh.symm]
          exact upd_same
        have bsub : ∀ u ∈ bothW p.words p2.words, u ∈ ("" : Str) :: us := fun u hu => pw1.sub u (mem_both.mp hu).1
        have bnd : (bothW p.words p2.words).Nodup := pw1.nd.sublist List.filter_sublist
        have eb : (!((bothW p.words p2.words).map V.str).isEmpty) = !(bothW p.words p2.words).isEmpty := by cases bothW p.words p2.words <;> rfl
        rw [eb]
        refine ⟨_, rfl, ?_⟩
        have hm8 : ∀ {H'}, Same H6 H' → H' m = some (.lst (ns.map V.str)) := fun {H'} s => s _ _ hm6
        refine ite2 (fun c3 => ?_) (fun c3 => ?_)
        · have bne : bothW p.words p2.words ≠ [] := fun z => by rw [z] at c3; cases c3
          refine ⟨_, rfl, _, rfl, m, _, rfl, .inl (SqL.of (hm8 s8)), rfl, flat_strs _, ?_⟩
          show ∃ k, V.bl (inV (.str "") (ns.map V.str)) = .bl k ∧ _
          rw [inV_strs]
          refine ⟨_, rfl, ?_⟩
          refine ite2 (fun c2 => ?_) (fun c2 => ?_)
          · have c2 : ("" : Str) ∈ ns := of_decide_eq_true c2
            refine ⟨by show 1 ≤ sizeLine; decide, fun f2 nf2 => ?_⟩
            intro b nb
            refine ⟨_, rfl, _, rfl, _, rfl, by show 2 ≤ sizeLine; decide, fun h nh => ?_⟩
            have r := end2 _ f2 [("" : Str)] Q (s8.trans (Same.new nf2)) upd_same (List.nodup_cons.mpr ⟨fun z => (nomatch z), List.nodup_nil⟩) (fun u hu => by rw [List.mem_singleton.mp hu]; exact List.mem_cons_self) (fun _ => rfl) (fun z => (z c2).elim) (fun z => (z c2).elim) b nb h nh
            refine ⟨r.1, [(.inr "words", .ref f2), (.inr "halves", .ref h)], rfl, by show 2 ≤ 15; decide, ?_⟩
            rw [mergeBlk]
            exact r.2
          · have c2 : ¬ ("" : Str) ∈ ns := fun z => c2 (decide_eq_true z)
            intro b nb
            refine ⟨_, rfl, _, rfl, _, rfl, by show 2 ≤ sizeLine; decide, fun h nh => ?_⟩
            have r := end2 _ bo (bothW p.words p2.words) Q s8 hvb8 bnd bsub (fun z => (c2 z).elim) (fun _ _ => rfl) (fun _ z => (bne z).elim) b nb h nh
            refine ⟨r.1, [(.inr "words", .ref bo), (.inr "halves", .ref h)], rfl, by show 2 ≤ 15; decide, ?_⟩
            rw [mergeBlk]
            exact r.2
        · have be : bothW p.words p2.words = [] := by
            cases hb : bothW p.words p2.words with
            | nil => rfl
            | cons x l => rw [hb] at c3; exact (c3 rfl).elim
          refine ⟨_, rfl, b1, _, rfl, g1 s8, _, rfl, b2, _, rfl, g2 s8, w1, w2, _, _, rfl, rfl, s8 _ _ hw1, s8 _ _ hw2, ?_, fun cc ncc => ?_⟩
          · rw [List.length_map, List.length_map]
            have := pw1.len
            have := pw2.len
            have : sizeLine = 16777216 := rfl
            omega
          have scc := s8.trans (Same.new (o := .lst (p.words.map V.str ++ p2.words.map V.str)) ncc)
          rw [← List.map_append] at scc ⊢
          refine ⟨cc, rfl, ⟨_, SqL.of upd_same⟩, fun D2 nD2 => ?_⟩
          refine sc_filt walk_list (p.words ++ p2.words) (fun _ => true) (fun z => .inr z) (List.length_map ..).symm (by have := pw1.len; have := pw2.len; rw [List.length_map, List.length_append]; omega) nD2 (fun H' s => SqL.of (s _ _ upd_same)) ?_ ?_
          · rintro i x z H8 H9 QE QN hi hz s9 ⟨rfl, hx⟩ ce cn
            rw [List.getElem?_map, hz] at hx
            cases hx
            exact ⟨rfl, lcY ⟨_, rfl, ce _ (Same.refl _) rfl⟩⟩
          · intro H9 ks2 s9 hD2 hks2 hl2
            refine ⟨D2, ks2, rfl, hD2, fun k hkk => ?_, fun ns2 m2 hso2 hnd2 hmem2 hnl2 nm2 => ?_⟩
            · obtain ⟨r, _, _, e⟩ := (hks2 k).mp hkk
              exact ⟨_, e.symm⟩
            have um : ∀ v, v ∈ ns2 ↔ v ∈ p.words ∨ v ∈ p2.words := fun v => by
              rw [hmem2, hks2]
              constructor
              · rintro ⟨z, h1, _, h2⟩
                cases Sum.inr.inj h2
                exact List.mem_append.mp h1
              · intro h1
                exact ⟨v, List.mem_append.mpr h1, rfl, rfl⟩
            have usub : ∀ u ∈ ns2, u ∈ ("" : Str) :: us := fun u hu => ((um u).mp hu).elim (pw1.sub u) (pw2.sub u)
            have sA := scc.trans (s9.trans (Same.new (o := .lst (ns2.map V.str)) nm2))
            refine ⟨_, rfl, m, _, rfl, .inl (SqL.of (hm8 sA)), rfl, flat_strs _, ?_⟩
            show ∃ k, V.bl (inV (.str "") (ns.map V.str)) = .bl k ∧ _
            rw [inV_strs]
            refine ⟨_, rfl, ?_⟩
            refine ite2 (fun c2 => ?_) (fun c2 => ?_)
            · have c2 : ("" : Str) ∈ ns := of_decide_eq_true c2
              refine ⟨by show 1 ≤ sizeLine; decide, fun f2 nf2 => ?_⟩
              intro b nb
              refine ⟨_, rfl, _, rfl, _, rfl, by show 2 ≤ sizeLine; decide, fun h nh => ?_⟩
              have r := end2 _ f2 [("" : Str)] Q (sA.trans (Same.new nf2)) upd_same (List.nodup_cons.mpr ⟨fun z => (nomatch z), List.nodup_nil⟩) (fun u hu => by rw [List.mem_singleton.mp hu]; exact List.mem_cons_self) (fun _ => rfl) (fun z => (z c2).elim) (fun z => (z c2).elim) b nb h nh
              refine ⟨r.1, [(.inr "words", .ref f2), (.inr "halves", .ref h)], rfl, by show 2 ≤ 15; decide, ?_⟩
              rw [mergeBlk]
              exact r.2
            · have c2 : ¬ ("" : Str) ∈ ns := fun z => c2 (decide_eq_true z)
              intro b nb
              refine ⟨_, rfl, _, rfl, _, rfl, by show 2 ≤ sizeLine; decide, fun h nh => ?_⟩
              have r := end2 _ m2 ns2 Q sA upd_same hnd2 usub (fun z => (c2 z).elim) (fun _ z => (z be).elim) (fun _ _ => um) b nb h nh
              refine ⟨r.1, [(.inr "words", .ref m2), (.inr "halves", .ref h)], rfl, by show 2 ≤ 15; decide, ?_⟩
              rw [mergeBlk]
              exact r.2
end
end AH
/-! W21 -/
set_option Elab.async false
set_option linter.all false
set_option maxRecDepth 100000
set_option maxHeartbeats 4000000
namespace AH
open PySem PySem.Spec PyProof.Rows L2 He
abbrev EnT (W : Nat) : RVT (AN.Ent Str) := TupR fun e => [.int e.1.1, .int ((W : Int) - (e.1.2 : Int)), .str e.2]
theorem own_cases (ws : List Str) (low : Int) (k : Nat) (h : Str) : (h ∈ ws ∧ AN.own ws low k h = [] ∧ AN.goOn ws h = h) ∨ (h ∉ ws ∧ AN.own ws low k h = [((low, k), AN.goOn ws h)] ∧ AN.goOn ws h = ws.headD h) := by
  by_cases q : h ∈ ws
  · exact .inl ⟨q, AN.own_nil q, AN.goOn_id q⟩
  · refine .inr ⟨q, AN.own_eq q, ?_⟩
    unfold AN.goOn
    rw [if_neg q]
theorem head_at {ws : List Str} (h : ws ≠ []) (d : Str) : atI (ws.map V.str) 0 = some (.str (ws.headD d)) := by
  cases ws with
  | nil => exact (h rfl).elim
  | cons x l => exact atI_nat (j := 0) rfl
section
variable {P : Program} {w : World} {K : PySem.W.Frag} {mg : Str → Option Value} {base : Heap}
theorem eo_args {x : Addr} {lo a a' W : Int} {b b' : Str} (e1 : a = a') (e2 : b = b') : [V.ref x, .int lo, .int a, .int W, .str b] = [V.ref x, .int lo, .int a', .int W, .str b'] := by rw [e1, e2]
theorem c_plan (T : Cxt K mg) : ∀ k, k ≤ 128 → Cal P w K mg base (k + 3) "plan" (Spn 3 (sp_plan k)) []
  | 0, _ => c_plan0 T
  | k + 1, h => c_planS T h (c_plan T k (by omega))
def sp_eo (k : Nat) : Sp := fun vs H Q _ => ∃ (W : Nat) (b : Addr) (low : Int) (h : Str) (p : AN.Pl Str) (g : Int → Str), vs = [.ref b, .int low, .int (k : Int), .int (W : Int), .str h] ∧ BlkAt H b p ∧ AN.PlanOK g "" low k p ∧ (AN.ents p low k h).length ≤ 4096 ∧ k ≤ 128 ∧
  ∀ l H', H l = none → Same H H' → LA (EnT W) H' l (AN.ents p low k h) → Q (.ref l) H'
abbrev N_entries_of : List Str := ["block", "low", "bits", "width", "word", "found", "half"]
theorem sc_entries_of : FnScope N_entries_of ["block", "low", "bits", "width", "word"] (defScope s_entries_of) := ⟨rfl, rfl, rfl, by decide +kernel, rfl, by decide +kernel, by decide +kernel⟩
theorem c_eo0 (T : Cxt K mg) : Cal P w K mg base 1 "entries_of" (Spn 5 (sp_eo 0)) [] := by
  obtain ⟨fd, F⟩ := T.F_entries_of
  refine calN F T.g_entries_of sc_entries_of rfl (fun _ _ _ _ _ _ us hl => match us, hl with | [_, _, _, _, _], _ => rfl) (fun cdv A outer s H vs Q E hr h => ?_)
  have nd := sc_entries_of.nd
  have hu := hu_of hr
  obtain ⟨W, b, low, h, p, g, rfl, bk, ok, hlen, hk, q⟩ := h
  refine ⟨_, (pss_cons (ps_set (i := 5) nd rfl (Or.inl rfl) (pe_lst pa_nil)) (pss_cons (ps_if (pt_cmpR op_notIn_seq (pv 4) (pe_dget hu (pv 0) pe_str (fun _ _ => rfl)) rfl) (pss_cons (ps_set (i := 4) nd rfl (Or.inl rfl) (pe_ix ix_list (pe_dget hu (pv 0) pe_str (fun _ _ => rfl)) pe_int (fun _ _ => rfl))) (pss_one (ps_expr (pe_bm PySem.F.plainAttrs_list PySem.F.slot_list_append PySem.F.type_list_append mt_append (pv 5) (pa_cons (pe_tup (pa_cons (pv 1) (pa_cons (pe_op op_sub (pv 3) (pv 2)) (pa_cons (pv 4) pa_nil)))) pa_nil))))) pss_nil) (pss_cons (ps_if (pt_cmpR (op_neNil (Nat.lt_of_succ_lt hu)) (pe_dget hu (pv 0) pe_str (fun _ _ => rfl)) (pe_lst pa_nil) (nomark _)) (pss_cons (ps_set (i := 6) nd rfl (Or.inl rfl) (pe_op op_shlW pe_int (pe_op op_sub (pv 2) pe_int))) pss_never) pss_nil) (pss_one (ps_ret (pv 5)))))), ?_⟩
  cases ok with
  | @leaf low k v hv =>
    obtain ⟨wa, ha, a1, a2, a3⟩ := bk
    refine ⟨by decide, fun f nf => ?_⟩
    have s1 : Same H _ := Same.new (o := .lst []) nf
    have gw : ∀ {H'}, Same H H' → DGet H' b (.str "words") (some (.ref wa)) := fun {H'} s => by
      have g := DGet.k (k := .inr "words") (s _ _ a1)
      rw [blk_words] at g
      exact g
    have gh : ∀ {H'}, Same H H' → DGet H' b (.str "halves") (some (.ref ha)) := fun {H'} s => by
      have g := DGet.k (k := .inr "halves") (s _ _ a1)
      rw [blk_halves] at g
      exact g
    refine ⟨_, rfl, _, rfl, b, _, rfl, gw s1, wa, [.str v], rfl, .inl (SqL.of (s1 _ _ a2)), rfl, rfl, ?_⟩
    show ∃ k, V.bl (!inV (.str h) ([v].map V.str)) = .bl k ∧ _
    rw [inV_strs]
    refine ⟨_, rfl, ?_⟩
    rcases own_cases [v] low 0 h with ⟨c1, c2, c3⟩ | ⟨c1, c2, c3⟩
    · rw [decide_eq_true c1]
      refine iteF ?_
      refine ⟨_, rfl, b, _, rfl, gh s1, by decide, fun e ne => ⟨ha, e, [], rfl, rfl, SqL.of (Same.new ne _ _ (s1 _ _ a3)), SqL.of upd_same, _, rfl, iteF ?_⟩⟩
      refine ⟨_, rfl, q f _ nf (s1.trans (Same.new ne)) ?_⟩
      show LA (EnT W) _ f (AN.own [v] low 0 h)
      rw [c2]
      exact ⟨[], Same.new ne _ _ upd_same, .nil⟩
    · rw [decide_eq_false c1]
      refine iteT ?_
      refine ⟨_, rfl, b, _, rfl, gw s1, wa, _, 0, _, rfl, rfl, SqL.of (s1 _ _ a2), atI_nat (j := 0) rfl, ?_⟩
      refine ⟨_, rfl, .inl ⟨rfl, _, SqL.of upd_same⟩, ?_⟩
      refine ⟨_, rfl, _, rfl, _, rfl, _, _, rfl, rfl, _, rfl, by show 3 ≤ sizeLine; decide, fun t nt => ?_⟩
      have s2 := s1.trans (Same.new (o := .tup [.int low, .int ((W : Int) - ((0 : Nat) : Int)), .str v]) nt)
      refine ⟨f, [], _, rfl, rfl, Same.new nt _ _ upd_same, by decide, ?_⟩
      have s3 := Same.put nf s2 (o := .lst ([] ++ [.ref t]))
      refine ⟨_, rfl, b, _, rfl, gh s3, by decide, fun e ne => ⟨ha, e, [], rfl, rfl, SqL.of (Same.new ne _ _ (s3 _ _ a3)), SqL.of upd_same, _, rfl, iteF ?_⟩⟩
      refine ⟨_, rfl, q f _ nf (s3.trans (Same.new ne)) ?_⟩
      show LA (EnT W) _ f (AN.own [v] low 0 h)
      rw [c2]
      have ft : f ≠ t := ne_of_none upd_same nt
      refine LA.mono TupR.kp (Same.new ne) ⟨[.ref t], upd_same, .cons ⟨t, rfl, ?_⟩ .nil⟩
      rw [upd_ne ft.symm, upd_same, c3]
      rfl
theorem c_eoS (T : Cxt K mg) {k : Nat} (ih : Cal P w K mg base (k + 1) "entries_of" (Spn 5 (sp_eo k)) []) : Cal P w K mg base (k + 1 + 1) "entries_of" (Spn 5 (sp_eo (k + 1))) [] := by
  obtain ⟨fd, F⟩ := T.F_entries_of
  refine calN F T.g_entries_of sc_entries_of rfl (fun _ _ _ _ _ _ us hl => match us, hl with | [_, _, _, _, _], _ => rfl) (fun cdv A outer s H vs Q E hr h => ?_)
  have nd := sc_entries_of.nd
  have hu := hu_of hr
  obtain ⟨W, b, low, h, p, g, rfl, bk, ok, hlen, hk, q⟩ := h
  have ek : ((k + 1 : Nat) : Int) - 1 = (k : Int) := by omega
  refine ⟨_, (pss_cons (ps_set (i := 5) nd rfl (Or.inl rfl) (pe_lst pa_nil)) (pss_cons (ps_if (pt_cmpR op_notIn_seq (pv 4) (pe_dget hu (pv 0) pe_str (fun _ _ => rfl)) rfl) (pss_cons (ps_set (i := 4) nd rfl (Or.inl rfl) (pe_ix ix_list (pe_dget hu (pv 0) pe_str (fun _ _ => rfl)) pe_int (fun _ _ => rfl))) (pss_one (ps_expr (pe_bm PySem.F.plainAttrs_list PySem.F.slot_list_append PySem.F.type_list_append mt_append (pv 5) (pa_cons (pe_tup (pa_cons (pv 1) (pa_cons (pe_op op_sub (pv 3) (pv 2)) (pa_cons (pv 4) pa_nil)))) pa_nil))))) pss_nil) (pss_cons (ps_if (pt_cmpR (op_neNil (Nat.lt_of_succ_lt hu)) (pe_dget hu (pv 0) pe_str (fun _ _ => rfl)) (pe_lst pa_nil) (nomark _)) (pss_cons (ps_set (i := 6) nd rfl (Or.inl rfl) (pe_op op_shlW pe_int (pe_op op_sub (pv 2) pe_int))) (pss_cons (ps_expr (pe_bm PySem.F.plainAttrs_list PySem.F.slot_list_extend PySem.F.type_list_extend mt_extend (pv 5) (pa_cons (pe_f ih hr (by omega) rfl (pa_cons (pe_ix ix_list (pe_dget hu (pv 0) pe_str (fun _ _ => rfl)) pe_int (fun _ _ => rfl)) (pa_cons (pv 1) (pa_cons (pe_op op_sub (pv 2) pe_int) (pa_cons (pv 3) (pa_cons (pv 4) pa_nil)))))) pa_nil))) (pss_one (ps_expr (pe_bm PySem.F.plainAttrs_list PySem.F.slot_list_extend PySem.F.type_list_extend mt_extend (pv 5) (pa_cons (pe_f ih hr (by omega) rfl (pa_cons (pe_ix ix_list (pe_dget hu (pv 0) pe_str (fun _ _ => rfl)) pe_int (fun _ _ => rfl)) (pa_cons (pe_op op_add (pv 1) (pv 6)) (pa_cons (pe_op op_sub (pv 2) pe_int) (pa_cons (pv 3) (pa_cons (pv 4) pa_nil)))))) pa_nil)))))) pss_nil) (pss_one (ps_ret (pv 5)))))), ?_⟩
  refine ⟨by decide, fun f nf => ?_⟩
  have s1 : Same H _ := Same.new (o := .lst []) nf
  obtain ⟨wa, ha, a1, a2⟩ := bk.wordsAt
  have pne := ok.ne
  have gw : ∀ {H'}, Same H H' → DGet H' b (.str "words") (some (.ref wa)) := fun {H'} s => by
    have g := DGet.k (k := .inr "words") (s _ _ a1)
    rw [blk_words] at g
    exact g
  have gh : ∀ {H'}, Same H H' → DGet H' b (.str "halves") (some (.ref ha)) := fun {H'} s => by
    have g := DGet.k (k := .inr "halves") (s _ _ a1)
    rw [blk_halves] at g
    exact g
  refine ⟨_, rfl, _, rfl, b, _, rfl, gw s1, wa, _, rfl, .inl (SqL.of (s1 _ _ a2)), rfl, flat_strs _, ?_⟩
  show ∃ k, V.bl (!inV (.str h) (p.words.map V.str)) = .bl k ∧ _
  rw [inV_strs]
  refine ⟨_, rfl, ?_⟩
  rcases own_cases p.words low (k + 1) h with ⟨c1, c2, c3⟩ | ⟨c1, c2, c3⟩
  -- the word goes on
  rw [decide_eq_true c1]
  refine iteF ?_
  have hA : h = AN.goOn p.words h := c3.symm
  have hf : (upd H f (.lst [])) f = some (.lst []) := upd_same
  have sx : Same H (upd H f (.lst [])) := s1
  have hv : Paired (EnT W (upd H f (.lst []))) [] (AN.own p.words low (k + 1) h) := by rw [c2]; exact .nil
  generalize upd H f (.lst []) = Hx at hf sx hv ⊢
  obtain ⟨vs, hvs⟩ : ∃ vs : List V, vs = [] := ⟨_, rfl⟩
  rw [← hvs] at hf hv
  rotate_left
  -- an entry of its own
  rw [decide_eq_false c1]
  refine iteT ?_
  refine ⟨_, rfl, b, _, rfl, gw s1, wa, _, 0, _, rfl, rfl, SqL.of (s1 _ _ a2), head_at pne h, ?_⟩
  refine ⟨_, rfl, .inl ⟨rfl, _, SqL.of upd_same⟩, ?_⟩
  refine ⟨_, rfl, _, rfl, _, rfl, _, _, rfl, rfl, _, rfl, by show 3 ≤ sizeLine; decide, fun t nt => ?_⟩
  refine ⟨f, [], _, rfl, rfl, Same.new nt _ _ upd_same, by decide, ?_⟩
  have hA : p.words.headD h = AN.goOn p.words h := c3.symm
  have ft : f ≠ t := ne_of_none upd_same nt
  have sx := Same.put nf (s1.trans (Same.new (o := .tup [.int low, .int ((W : Int) - ((k + 1 : Nat) : Int)), .str (p.words.headD h)]) nt)) (o := .lst ([] ++ [.ref t]))
  have hf : (upd (upd (upd H f (.lst [])) t (.tup [.int low, .int ((W : Int) - ((k + 1 : Nat) : Int)), .str (p.words.headD h)])) f (.lst ([] ++ [.ref t]))) f = some (.lst [.ref t]) := upd_same
  have hv : Paired (EnT W (upd (upd (upd H f (.lst [])) t (.tup [.int low, .int ((W : Int) - ((k + 1 : Nat) : Int)), .str (p.words.headD h)])) f (.lst ([] ++ [.ref t])))) [.ref t] (AN.own p.words low (k + 1) h) := by
    rw [c2]
    refine .cons ⟨t, rfl, ?_⟩ .nil
    rw [upd_ne ft.symm, upd_same, ← hA]
  generalize upd (upd (upd H f (.lst [])) t (.tup [.int low, .int ((W : Int) - ((k + 1 : Nat) : Int)), .str (p.words.headD h)])) f (.lst ([] ++ [.ref t])) = Hx at hf sx hv ⊢
  obtain ⟨vs, hvs⟩ : ∃ vs : List V, vs = [.ref t] := ⟨_, rfl⟩
  rw [← hvs] at hf hv
  all_goals
    clear c1 c2 c3
    cases ok with
    | @leaf low k v hvl =>
      obtain ⟨wa', ha', a1', _, a3⟩ := bk
      rw [a1] at a1'
      have e := (List.cons.inj (List.cons.inj (HO.dK.inj (Option.some.inj a1'))).2).1
      have e2 : ha = ha' := V.ref.inj (congrArg Prod.snd e)
      subst e2
      refine ⟨_, rfl, b, _, rfl, gh sx, by decide, fun e ne => ⟨ha, e, [], rfl, rfl, SqL.of (Same.new ne _ _ (sx _ _ a3)), SqL.of upd_same, _, rfl, iteF ?_⟩⟩
      refine ⟨_, rfl, q f _ nf (sx.trans (Same.new ne)) ?_⟩
      exact ⟨vs, Same.new ne _ _ hf, Paired.kp TupR.kp (.of (Same.new ne)) hv⟩
    | @node low k ws pa pb oa ob h0 h1 h2 hn =>
      obtain ⟨wa', ha', b1, b2, a1', _, a3, k1, k2⟩ := bk
      rw [a1] at a1'
      have e := (List.cons.inj (List.cons.inj (HO.dK.inj (Option.some.inj a1'))).2).1
      have e2 : ha = ha' := V.ref.inj (congrArg Prod.snd e)
      subst e2
      have hA : _ = AN.goOn ws h := hA
      have hl := hlen
      have ee : AN.ents (.node ws pa pb) low (k + 1) h = AN.own ws low (k + 1) h ++ AN.ents pa low k (AN.goOn ws h) ++ AN.ents pb (low + AN.P k) k (AN.goOn ws h) := rfl
      rw [ee, List.length_append, List.length_append] at hl
      refine ⟨_, rfl, b, _, rfl, gh sx, by decide, fun e ne => ⟨ha, e, [.ref b1, .ref b2], rfl, rfl, SqL.of (Same.new ne _ _ (sx _ _ a3)), SqL.of upd_same, _, rfl, iteT ?_⟩⟩
      have s2 := sx.trans (Same.new (o := .lst []) ne)
      have hf2 := Same.new (o := .lst []) ne _ _ hf
      have hv2 := Paired.kp TupR.kp (.of (Same.new (o := .lst []) ne)) hv
      have cs : CShl (1 : Int) (((k + 1 : Nat) : Int) - 1) := by
        rw [ek]
        exact shl_ok (n := 1) (by decide) (by omega)
      have e2 : (1 : Int) * 2 ^ (((k + 1 : Nat) : Int) - 1).toNat = AN.P k := by rw [ek, pow_cast, Int.one_mul]
      refine ⟨_, rfl, _, _, rfl, rfl, _, _, rfl, rfl, cs, ?_⟩
      dsimp only
      rw [e2]
      refine ⟨_, rfl, .inl ⟨rfl, _, SqL.of hf2⟩, ?_⟩
      refine ⟨_, rfl, b, _, rfl, gh s2, ha, _, 0, _, rfl, rfl, SqL.of (s2 _ _ a3), atI_nat (j := 0) rfl, ?_⟩
      refine ⟨_, rfl, _, rfl, _, _, rfl, rfl, _, rfl, _, rfl, rfl, W, b1, low, _, pa, g, eo_args ek hA, k1.mono s2, oa, by omega, by omega, fun l1 H3 nl1 s3 la3 => ?_⟩
      obtain ⟨v1, hl1, hp1⟩ := la3
      refine ⟨f, l1, vs, v1, rfl, rfl, s3 _ _ hf2, hl1, ?_, ?_⟩
      · rw [Paired.len hv2, Paired.len hp1]
        have : sizeLine = 16777216 := rfl
        have : (AN.Pl.node ws pa pb).words = ws := rfl
        rw [this]
        omega
      have s4 : Same H (upd H3 f (.lst (vs ++ v1))) := Same.put nf (s2.trans s3)
      have hv4 : Paired (EnT W (upd H3 f (.lst (vs ++ v1)))) (vs ++ v1) (AN.own ws low (k + 1) h ++ AN.ents pa low k (AN.goOn ws h)) := Paired.kp TupR.kp (Fx.lst (s3 _ _ hf2)) (Paired.app (Paired.kp TupR.kp (.of s3) hv2) hp1)
      refine ⟨_, rfl, .inl ⟨rfl, _, SqL.of upd_same⟩, ?_⟩
      refine ⟨_, rfl, b, _, rfl, gh s4, ha, _, 1, _, rfl, rfl, SqL.of (s4 _ _ a3), atI_nat (j := 1) rfl, ?_⟩
      refine ⟨_, rfl, _, rfl, _, _, rfl, rfl, _, rfl, _, _, rfl, rfl, _, rfl, _, rfl, rfl, W, b2, low + AN.P k, _, pb, g, eo_args ek hA, k2.mono s4, ob, by omega, by omega, fun l2 H5 nl2 s5 la5 => ?_⟩
      obtain ⟨v2, hl2, hp2⟩ := la5
      refine ⟨f, l2, _, v2, rfl, rfl, s5 _ _ upd_same, hl2, ?_, ?_⟩
      · rw [Paired.len hv4, Paired.len hp2, List.length_append]
        have : sizeLine = 16777216 := rfl
        omega
      refine ⟨_, rfl, q f _ nf (Same.put nf (s4.trans s5)) ?_⟩
      rw [ee]
      exact LA.put TupR.kp (s5 _ _ upd_same) (Paired.app (Paired.kp TupR.kp (.of s5) hv4) hp2)
end
end AH
/-! W22 -/
set_option Elab.async false
set_option linter.all false
set_option maxRecDepth 100000
set_option maxHeartbeats 4000000
namespace AH
open PySem PySem.Spec PyProof.Rows L2 He
theorem putE_new {E : List (AN.Ent Str)} {e : AN.Ent Str} (h : e.1 ∉ E.map (·.1)) : putE E e.1 e.2 = E ++ [e] := by
  have hv : AN.val E e.1 = none := by
    cases q : AN.val E e.1 with
    | none => rfl
    | some w => exact (h (List.mem_map.mpr ⟨_, AN.val_some q, rfl⟩)).elim
  unfold putE
  rw [hv, if_neg (show ¬ (none : Option Str).isSome = true by decide)]
theorem made_free {H : Hp} {x dx C d : Addr} (nx : H x = none) (ndx : H dx = none) (nex : dx ≠ x) (h : (upd (upd H dx (.own x)) x (.ins C dx [])) d = none) : H d = none :=
  Same.free ((Same.new (o := .own x) ndx).trans (Same.new (o := .ins C dx []) (by rw [upd_ne nex.symm]; exact nx))) h
/-- the words of a table: fine, and few -/
structure WordsOk (us : List Str) (E : List (AN.Ent Str)) : Prop where
  few : us.length < 60
  ok : ∀ e ∈ E, WordOk e.2 ∧ e.2 ∈ us
theorem word_ne {z : Str} (h : WordOk z) : z ≠ ("" : Str) := by
  intro e
  have := h.low
  rw [e] at this
  exact absurd this (by decide)
section
variable {P : Program} {w : World} {K : PySem.W.Frag} {mg : Str → Option Value} {base : Heap}
theorem c_eo (T : Cxt K mg) : ∀ k, Cal P w K mg base (k + 1) "entries_of" (Spn 5 (sp_eo k)) []
  | 0 => c_eo0 T
  | k + 1 => c_eoS T (c_eo T k)
def sp_fewe : Sp := fun vs H Q _ => ∃ (v : Bool) (l : Addr) (rs : List (AN.Row Str)) (f : Int → Option Str) (us : List Str), vs = [.ref l, .int (Wd v : Int)] ∧ LA RowR H l rs ∧ rs.length ≤ 2001 ∧ AN.Seg rs 0 (AN.P (Wd v)) ∧ AN.Says rs f ∧
  (∀ r ∈ rs, ∀ z, r.2.2 = some z → WordOk z ∧ z ∈ us) ∧ us.length < 60 ∧ (∀ p, AN.PlanOK (gz f) "" 0 (Wd v) p → (AN.ents p 0 (Wd v) "").length ≤ 1000) ∧
  ∀ l' H' p, Same H H' → AN.PlanOK (gz f) "" 0 (Wd v) p → LA (EnT (Wd v)) H' l' (AN.ents p 0 (Wd v) "") → Q (.ref l') H'
abbrev N_fewest_entries : List Str := ["rows", "width"]
theorem sc_fewest_entries : FnScope N_fewest_entries ["rows", "width"] (defScope s_fewest_entries) := ⟨rfl, rfl, rfl, by decide +kernel, rfl, by decide +kernel, by decide +kernel⟩
theorem c_fewest_entries (T : Cxt K mg) : Cal P w K mg base 133 "fewest_entries" (Spn 2 sp_fewe) [] := by
  obtain ⟨fd, F⟩ := T.F_fewest_entries
  refine calN F T.g_fewest_entries sc_fewest_entries rfl (fun _ _ _ _ _ _ us hl => match us, hl with | [_, _], _ => rfl) (fun cdv A outer s H vs Q E hr h => ?_)
  have nd := sc_fewest_entries.nd
  have hu := hu_of hr
  obtain ⟨v, l, rs, f, us, rfl, la, hlen, sg, sy, hok, hus, hle, q⟩ := h
  have wl := Wd_le v
  refine ⟨_, (pss_one (ps_ret (pe_f (c_eo T (Wd v)) hr (by omega) rfl (pa_cons (pe_f (c_plan T (Wd v) wl) hr (by omega) rfl (pa_cons (pv 0) (pa_cons pe_int (pa_cons (pv 1) pa_nil)))) (pa_cons pe_int (pa_cons (pv 1) (pa_cons (pv 1) (pa_cons pe_str pa_nil)))))))), ?_⟩
  have sg0 : AN.Seg rs 0 (0 + AN.P (Wd v)) := by rw [Int.zero_add]; exact sg
  refine ⟨_, rfl, _, rfl, rfl, l, rs, 0, f, us, rfl, la, hlen, sg0, sy, hok, hus, fun b H1 p s1 pl pw bk => ?_⟩
  refine ⟨_, rfl, _, rfl, rfl, Wd v, b, 0, ("" : Str), p, _, rfl, bk, pl, Nat.le_trans (hle p pl) (by decide), wl, fun l2 H2 nl2 s2 la2 => ?_⟩
  exact q l2 H2 p (s1.trans s2) pl la2
def sp_fewest (K : PySem.W.Frag) : Sp := fun vs H Q _ => ∃ (v : Bool) (p d : Addr) (E : List (AN.Ent Str)) (us : List Str), vs = [.ref p] ∧ BookAt K v H p d E ∧ AN.Tab (Wd v) E ∧ E.length ≤ 1000 ∧ WordsOk us E ∧
  ∀ p2 d2 H' pl, Same H H' → AN.PlanOK (gz (AN.look (Wd v) E)) "" 0 (Wd v) pl → BookAt K v H' p2 d2 (AN.ents pl 0 (Wd v) "") → Q (.ref p2) H'
theorem fewest_le {v : Bool} {E : List (AN.Ent Str)} {us : List Str} (tab : AN.Tab (Wd v) E) (hw : WordsOk us E) {pl : AN.Pl Str} (h : AN.PlanOK (gz (AN.look (Wd v) E)) "" 0 (Wd v) pl) : (AN.ents pl 0 (Wd v) "").length ≤ E.length :=
  AN.few_least h tab (fun e he => word_ne (hw.ok e he).1) (fun x _ _ => rfl)
abbrev N_Book_fewest : List Str := ["self", "found", "number", "prefix", "word"]
theorem sc_Book_fewest : FnScope N_Book_fewest ["self"] (defScope s_Book_fewest) := ⟨rfl, rfl, rfl, by decide +kernel, rfl, by decide +kernel, by decide +kernel⟩
theorem m_Book_fewest (T : Cxt K mg) : Met P w K mg base 134 (ga K "Book") "fewest" (Spn 1 (sp_fewest K)) [] := by
  obtain ⟨fd, F⟩ := T.F_Book_fewest
  refine metN F T.c_Book T.m_Book_fewest sc_Book_fewest rfl (fun _ _ _ _ _ _ us hl => match us, hl with | [_], _ => rfl) (fun cdv A outer s H vs Q E hr h => ?_)
  have nd := sc_Book_fewest.nd
  have hu := hu_of hr
  obtain ⟨v, p, d, E, us, rfl, bk, tab, hlen, hw, q⟩ := h
  refine ⟨_, (pss_cons (ps_set (i := 1) nd rfl (Or.inl rfl) (pe_k (k_Book T) hr (by decide) rfl (pa_cons (pe_fld (pv 0) rfl) pa_nil))) (pss_cons (ps_for PassesOwn.never rfl (pi_list (pe_f (c_fewest_entries T) hr (by decide) rfl (pa_cons (pe_m0 (m_Book_answers T) hr (by decide) (pv 0)) (pa_cons (pe_fld (pv 0) rfl) pa_nil)))) (pg_tup rfl (pgs_cons (pg_name (i := 2) nd rfl (Or.inl rfl)) (pgs_cons (pg_name (i := 3) nd rfl (Or.inl rfl)) (pgs_cons (pg_name (i := 4) nd rfl (Or.inl rfl)) pgs_nil)))) (pss_one (ps_dput hu (pe_fld (pv 1) rfl) (pe_tup (pa_cons (pv 2) (pa_cons (pv 3) pa_nil))) (pv 4) rfl))) (pss_one (ps_ret (pv 1))))), ?_⟩
  obtain ⟨db, ob⟩ := bk.ob
  refine ⟨_, rfl, p, _, db, _, _, rfl, ob, T.c_Book, T.n_Book_version, bookF_version v d, fun x dx nx ndx nex => ⟨rfl, v, x, dx, rfl, upd_same, fun H1 d2 b1 nd2 bk1 => ⟨rfl, ?_⟩⟩⟩
  have s1 : Same H H1 := But.made nx ndx b1
  have bkA := bk.mono s1
  obtain ⟨dbA, obA⟩ := bkA.ob
  refine ⟨_, rfl, p, dbA, _, rfl, obA, (by kernel_rfl), rfl, v, p, d, E, rfl, bkA, tab, hlen, fun l H2 rs nl s2 sg sy hrs la => ?_⟩
  have bkB := bkA.mono s2
  obtain ⟨dbB, obB⟩ := bkB.ob
  refine ⟨_, rfl, p, _, dbB, _, _, rfl, obB, T.c_Book, T.n_Book_width, bookF_width v d, rfl, v, l, rs, _, us, rfl, la, hrs, sg, sy, ?_, hw.few, fun pl hpl => Nat.le_trans (fewest_le tab hw hpl) hlen, fun l2 H3 pl s3 hpl ⟨ws, hws, hwp⟩ => ?_⟩
  · intro r hr z hz
    obtain ⟨e, he, e2⟩ := row_word tab sg sy ⟨r, hr, hz⟩
    rw [← e2]
    exact hw.ok e he
  have bk3 := (bk1.mono s2).mono s3
  have etab := AN.ents_tab hpl ""
  have elen := Nat.le_trans (fewest_le tab hw hpl) hlen
  have s03 := s1.trans (s2.trans s3)
  refine ⟨l2, rfl, ⟨_, SqL.of hws⟩, ?_⟩
  have nd2' : H d2 = none := made_free nx ndx nex nd2
  have ld : l2 ≠ d2 := fun e => by rw [e, bk3.rows] at hws; cases hws
  refine for_it walk_list (fun i σ' H' => ∃ a b c : Option V, σ' = [some (.ref p), some (.ref x), a, b, c] ∧ But d2 H3 H' ∧ H' d2 = some (.dT (rowsT v ((AN.ents pl 0 (Wd v) "").take i))))
    ⟨none, none, none, rfl, But.refl, bk3.rows⟩ (fun i σ' H' _ ⟨_, _, _, _, b1, _⟩ => SqL.of (b1 _ _ hws ld)) ?_ ?_
  · rintro i y σ' H4 H5 hi ⟨a, b, c, rfl, b2, hd2⟩ ⟨rfl, hy⟩
    obtain ⟨e, he, t, rfl, ht⟩ := Paired.at hwp hy
    have td : t ≠ d2 := fun z => by rw [z, bk3.rows] at ht; cases ht
    obtain ⟨dx3, ox3⟩ := bk3.ob
    have xd : x ≠ d2 := fun z => by rw [z, bk3.rows] at ox3; cases ox3
    refine ⟨t, _, rfl, SqT.of (b2 _ _ ht td), rfl, _, _, rfl, _, _, rfl, _, _, rfl, rfl, ?_⟩
    refine ⟨_, rfl, _, rfl, x, _, dx3, _, _, rfl, b2 _ _ ox3 xd, T.c_Book, T.n_Book_rows, bookF_rows v d2, _, rfl, _, rfl, by show 2 ≤ sizeLine; decide, fun tk ntk => ?_⟩
    have hd2' := Same.new (o := .tup [.int e.1.1, .int ((Wd v : Int) - (e.1.2 : Int))]) ntk _ _ hd2
    refine ⟨d2, _, rfl, DPut.t (k := keyE v e.1) hd2' upd_same ?_, ?_⟩
    · rw [List.length_map, List.length_take]
      have : sizeLine = 16777216 := rfl
      omega
    · refine ⟨_, _, _, rfl, (b2.trans (But.of (Same.new ntk))).trans But.upd, ?_⟩
      rw [upd_same, putT, putE_new, List.take_add_one, he]
      · rfl
      · intro hm
        have nd0 := etab.nd
        obtain ⟨e2, he2, ek⟩ := List.mem_map.mp hm
        obtain ⟨j, hj⟩ := List.getElem?_of_mem he2
        have hji : j < i := by
          rcases Nat.lt_or_ge j i with c | c
          · exact c
          · rw [List.getElem?_take_eq_none c] at hj; cases hj
        rw [List.getElem?_take_of_lt hji] at hj
        obtain ⟨j1, j2⟩ := List.getElem?_eq_some_iff.mp hj
        obtain ⟨i1, i2⟩ := List.getElem?_eq_some_iff.mp he
        have := List.pairwise_iff_getElem.mp nd0 j i (by rw [List.length_map]; exact j1) (by rw [List.length_map]; exact i1) hji
        rw [List.getElem_map, List.getElem_map, j2, i2] at this
        exact this ek
  · rintro σ' H4 ⟨a, b, c, rfl, b2, hd2⟩
    rw [Paired.len hwp, List.take_length] at hd2
    have s4 : Same H H4 := fun z o hz => b2 z o (s03 z o hz) (ne_of_none hz nd2')
    obtain ⟨dx3, ox3⟩ := bk3.ob
    have xd : x ≠ d2 := fun z => by rw [z, bk3.rows] at ox3; cases ox3
    exact ⟨_, rfl, q x d2 H4 pl s4 hpl ⟨⟨dx3, b2 _ _ ox3 xd⟩, hd2⟩⟩
end
end AH
/-! W23 -/
set_option Elab.async false
set_option linter.all false
set_option maxRecDepth 100000
set_option maxHeartbeats 4000000
namespace AH
open PySem PySem.Spec PyProof.Rows L2 He
theorem oV_inj {a b : Option Str} (h : oV a = oV b) : a = b := by
  cases a with
  | none => cases b with
    | none => rfl
    | some y => cases h
  | some x => cases b with
    | none => cases h
    | some y => cases h; rfl
theorem scal_oV (a b : Option Str) : scal (oV a) (oV b) = true := by cases a <;> cases b <;> rfl
theorem dec_oV (a b : Option Str) : decide (oV a = oV b) = decide (a = b) := by
  by_cases h : a = b
  · rw [decide_eq_true h, decide_eq_true (congrArg oV h)]
  · rw [decide_eq_false h, decide_eq_false (fun e => h (oV_inj e))]
section
variable {P : Program} {w : World} {K : PySem.W.Frag} {mg : Str → Option Value} {base : Heap}
def sp_differs (K : PySem.W.Frag) : Sp := fun vs H Q _ => ∃ (v : Bool) (p d p2 d2 : Addr) (E E2 : List (AN.Ent Str)) (lo : Int), vs = [.ref p, .ref p2] ∧ BookAt K v H p d E ∧ BookAt K v H p2 d2 E2 ∧ AN.Tab (Wd v) E ∧ AN.Tab (Wd v) E2 ∧ E.length ≤ 800 ∧ E2.length ≤ 800 ∧
  0 ≤ lo ∧ lo < AN.P (Wd v) ∧ AN.look (Wd v) E lo ≠ AN.look (Wd v) E2 lo ∧ (∀ m, 0 ≤ m → m < lo → AN.look (Wd v) E m = AN.look (Wd v) E2 m) ∧ ((∃ e ∈ E, e.1.1 = lo) ∨ ∃ e ∈ E2, e.1.1 = lo) ∧
  ∀ a H', Same H H' → AdrAt K v H' a lo → Q (.ref a) H'
abbrev N_Book_differs : List Str := ["self", "other", "number"]
theorem sc_Book_differs : FnScope N_Book_differs ["self", "other"] (defScope s_Book_differs) := ⟨rfl, rfl, rfl, by decide +kernel, rfl, by decide +kernel, by decide +kernel⟩
theorem m_Book_differs (T : Cxt K mg) : Met P w K mg base 7 (ga K "Book") "differs" (Spn 2 (sp_differs K)) [] := by
  obtain ⟨fd, F⟩ := T.F_Book_differs
  refine metN F T.c_Book T.m_Book_differs sc_Book_differs rfl (fun _ _ _ _ _ _ us hl => match us, hl with | [_, _], _ => rfl) (fun cdv A outer s H vs Q E hr h => ?_)
  have nd := sc_Book_differs.nd
  have hu := hu_of hr
  obtain ⟨v, p, d, p2, d2, E, E2, lo, rfl, bk, bk2, tab, tab2, hl1, hl2, l0, l1, ne, eq, hin, q⟩ := h
  refine ⟨_, (pss_cons (ps_if (PW.pt (pw_or (pt_not (pt_val (pe_callB call_isi (by rfl) T.z_isinstance (by decide +kernel) (pa_cons (pv 1) (pa_cons (pe_glob (v := .ref _) rfl T.g_Book rfl) pa_nil))))) (pw_or1 (pt_cmpR op_ne (pe_fld (pv 1) rfl) (pe_fld (pv 0) rfl) (nomark _))))) (pss_one ps_never) pss_nil) (pss_cons (ps_for PassesOwn.never rfl (pi_list (pe_callB (SetX.cr_sortedKI rfl) (by rfl) T.z_sorted (by decide +kernel) (pa_cons (SetX.pe_scK (own := [("number", 2)]) (g := gName 2) (tt := tYes) rfl nd (pi_list (pe_op op_cat (pe_m0 (m_Book_begins T) hr (by decide) (pv 0)) (pe_m0 (m_Book_begins T) hr (by decide) (pv 1)))) (blkOk_by (own := [("number", 2)]) (N := N_Book_differs) (sc := defScope s_Book_differs) (by decide +kernel)) (fun _ _ _ _ _ => (pg_name (i := 2) nd rfl (Or.inl rfl) (.inr rfl))) (fun _ _ _ _ _ => pts_nil) (fun _ _ _ _ _ => (pv 2))) pa_nil))) (pg_name (i := 2) nd rfl (Or.inl rfl)) (pss_one (ps_if (pt_cmpR op_ne (pe_m (m_Book_word_of T) hr (by decide) (pv 0) (pa_cons (pv 2) pa_nil)) (pe_m (m_Book_word_of T) hr (by decide) (pv 1) (pa_cons (pv 2) pa_nil)) (nomark _)) (pss_one (ps_ret (pe_ifExp (pt_cmpR op_eq (pe_fld (pv 0) rfl) pe_int (nomark _)) (pe_k (k_Address4 T) hr (by decide) rfl (pa_cons (pv 2) pa_nil)) (pe_k (k_Address6 T) hr (by decide) rfl (pa_cons (pv 2) pa_nil))))) pss_nil))) (pss_one (ps_ret pe_non)))), ?_⟩
  obtain ⟨db, ob⟩ := bk.ob
  obtain ⟨db2, ob2⟩ := bk2.ob
  refine ⟨_, rfl, _, _, _, _, true, rfl, .own _, ty_ins ob2 T.c_Book T.o_Book T.r_Book, T.k_Book_Book, true, rfl, iteF ?_⟩
  refine ⟨_, rfl, p2, _, db2, _, _, rfl, ob2, T.c_Book, T.n_Book_version, bookF_version v d2, _, rfl, p, _, db, _, _, rfl, ob, T.c_Book, T.n_Book_version, bookF_version v d, rfl, _, rfl, iteNS rfl ?_⟩
  refine ⟨_, rfl, p, db, _, rfl, ob, (by kernel_rfl), rfl, v, p, d, E, rfl, bk, tab_nok tab, by omega, fun la H1 B1 nla s1 beg1 hB1 hla => ?_⟩
  obtain ⟨dbx, obx⟩ := (bk2.mono s1).ob
  refine ⟨_, rfl, p2, dbx, _, rfl, obx, (by kernel_rfl), rfl, v, p2, d2, E2, rfl, bk2.mono s1, tab_nok tab2, by omega, fun lb H2 B2 nlb s2 beg2 hB2 hlb => ?_⟩
  refine ⟨la, lb, _, _, rfl, rfl, s2 _ _ hla, hlb, ?_, fun c nc => ?_⟩
  · rw [List.length_map, List.length_map]
    have : sizeLine = 16777216 := rfl
    omega
  have sc : Same H2 _ := Same.new (o := .lst (B1.map V.int ++ B2.map V.int)) nc
  rw [← List.map_append] at sc ⊢
  have s12 := s1.trans (s2.trans sc)
  have bl1 : B1.length ≤ 1601 := by
    have := nodup_sub (List.Pairwise.imp (fun {a b} h => Int.ne_of_lt h) beg1.pw : B1.Nodup) (m := marksE E) fun x hx => mem_marks.mpr ((beg1.mem x).mp hx).2
    rw [marks_len] at this
    omega
  have bl2 : B2.length ≤ 1601 := by
    have := nodup_sub (List.Pairwise.imp (fun {a b} h => Int.ne_of_lt h) beg2.pw : B2.Nodup) (m := marksE E2) fun x hx => mem_marks.mpr ((beg2.mem x).mp hx).2
    rw [marks_len] at this
    omega
  refine ⟨c, rfl, ⟨_, SqL.of upd_same⟩, fun D nD => ?_⟩
  refine sc_filt walk_list (B1 ++ B2) (fun _ => true) (fun m => .inl m) (List.length_map ..).symm (by rw [List.length_map, List.length_append]; omega) nD (fun H' s => SqL.of (s _ _ upd_same)) ?_ ?_
  · rintro i x z H8 H9 QE QN hi hz s9 ⟨rfl, hx⟩ ce cn
    rw [List.getElem?_map, hz] at hx
    cases hx
    exact ⟨rfl, lcY ⟨_, rfl, ce _ (Same.refl _) rfl⟩⟩
  · intro H3 ks s3 hD hks hl
    refine ⟨D, ks, rfl, hD, fun k hkk => ?_, fun ns m hs hmem hnl nm => ?_⟩
    · obtain ⟨r, _, _, e⟩ := (hks k).mp hkk
      exact ⟨_, e.symm⟩
    have nm2 : ∀ x, x ∈ ns ↔ x ∈ B1 ∨ x ∈ B2 := fun x => by
      rw [hmem, hks]
      constructor
      · rintro ⟨z, h1, _, h2⟩
        cases Sum.inl.inj h2
        exact List.mem_append.mp h1
      · intro h1
        exact ⟨x, List.mem_append.mpr h1, rfl, rfl⟩
    have s4 := s12.trans (s3.trans (Same.new (o := .lst (ns.map V.int)) nm))
    generalize hH4 : upd H3 m (.lst (ns.map V.int)) = H4 at s4
    have hm4 : H4 m = some (.lst (ns.map V.int)) := by rw [← hH4]; exact upd_same
    have lin : lo ∈ ns := by
      rw [nm2]
      rcases hin with ⟨e, he, e1⟩ | ⟨e, he, e1⟩
      · exact .inl ((beg1.mem lo).mpr ⟨l1, .inr ⟨e, he, .inl e1.symm⟩⟩)
      · exact .inr ((beg2.mem lo).mpr ⟨l1, .inr ⟨e, he, .inl e1.symm⟩⟩)
    obtain ⟨i0, hi0⟩ := List.getElem?_of_mem lin
    obtain ⟨i0l, i0e⟩ := List.getElem?_eq_some_iff.mp hi0
    refine ⟨m, rfl, ⟨_, SqL.of hm4⟩, ?_⟩
    refine for_it walk_list (fun i σ' H' => ∃ a : Option V, σ' = [some (.ref p), some (.ref p2), a] ∧ Same H4 H' ∧ i ≤ i0) ⟨none, rfl, Same.refl _, Nat.zero_le _⟩ (fun i σ' H' _ ⟨_, _, s, _⟩ => SqL.of (s _ _ hm4)) ?_ ?_
    · rintro i x σ' H5 H6 hi ⟨a, rfl, s5, hii⟩ ⟨rfl, hx⟩
      rw [List.getElem?_map] at hx
      obtain ⟨z, hz, rfl⟩ := Option.map_eq_some_iff.mp hx
      have zm : z ∈ ns := List.mem_of_getElem? hz
      have zb : 0 ≤ z ∧ z < AN.P (Wd v) := ((nm2 z).mp zm).elim (fun h => beg1.nonneg tab z h) fun h => beg2.nonneg tab2 z h
      have sA := s4.trans s5
      obtain ⟨dy, oy⟩ := (bk.mono sA).ob
      refine ⟨_, rfl, p, dy, _, rfl, oy, (by kernel_rfl), _, rfl, rfl, v, p, d, E, z, rfl, bk.mono sA, zb.1, lt129 zb.2, fun H7 s7 => ?_⟩
      have sB := sA.trans s7
      obtain ⟨dz, oz⟩ := (bk2.mono sB).ob
      refine ⟨_, rfl, p2, dz, _, rfl, oz, (by kernel_rfl), _, rfl, rfl, v, p2, d2, E2, z, rfl, bk2.mono sB, zb.1, lt129 zb.2, fun H8 s8 => ?_⟩
      have sC := sB.trans s8
      refine ⟨scal_oV _ _, _, rfl, ?_⟩
      rw [dec_oV]
      rcases Nat.lt_or_ge i i0 with c1 | c1
      · have zl : z < lo := by
          obtain ⟨j1, j2⟩ := List.getElem?_eq_some_iff.mp hz
          have := List.pairwise_iff_getElem.mp hs i i0 j1 i0l c1
          rw [j2, i0e] at this
          exact this
        rw [decide_eq_true (eq z zb.1 zl)]
        exact iteF ⟨_, rfl, s5.trans (s7.trans s8), c1⟩
      · have ei : i = i0 := by omega
        subst ei
        rw [hi0] at hz
        cases hz
        rw [decide_eq_false ne]
        refine iteT ?_
        obtain ⟨dw, ow⟩ := (bk.mono sC).ob
        refine ⟨_, rfl, p, _, dw, _, _, rfl, ow, T.c_Book, T.n_Book_version, bookF_version v d, ?_⟩
        cases v with
        | false =>
          refine ⟨rfl, _, rfl, iteT ?_⟩
          exact ⟨_, rfl, fun a da na nda nea => ⟨rfl, a, da, lo, rfl, upd_same, zb.1, zb.2, fun H9 b9 a9 => ⟨rfl, q a H9 (sC.trans (But.made na nda b9)) a9⟩⟩⟩
        | true =>
          refine ⟨rfl, _, rfl, iteF ?_⟩
          exact ⟨_, rfl, fun a da na nda nea => ⟨rfl, a, da, lo, rfl, upd_same, zb.1, zb.2, fun H9 b9 a9 => ⟨rfl, q a H9 (sC.trans (But.made na nda b9)) a9⟩⟩⟩
    · rintro σ' H5 ⟨a, rfl, s5, hii⟩
      exfalso
      rw [List.length_map] at hii
      omega
end
end AH
/-! W24 -/
set_option Elab.async false
set_option linter.all false
set_option maxRecDepth 100000
set_option maxHeartbeats 4000000
namespace AH
open PySem PySem.Spec PyProof.Rows L2 He
/-- the well: a list of three ints -/
def WellAt (H : Hp) (l : Addr) : Prop := ∃ a b c : Int, H l = some (.lst [.int a, .int b, .int c])
section
variable {P : Program} {w : World} {K : PySem.W.Frag} {mg : Str → Option Value} {base : Heap}
def sp_well : Sp := fun vs H Q _ => ∃ c : Int, vs = [.int c] ∧ ∀ l H', H l = none → Same H H' → WellAt H' l → Q (.ref l) H'
abbrev N__law_well : List Str := ["_law_cell"]
theorem sc__law_well : FnScope N__law_well ["_law_cell"] (defScope s__law_well) := ⟨rfl, rfl, rfl, by decide +kernel, rfl, by decide +kernel, by decide +kernel⟩
theorem c__law_well (T : Cxt K mg) : Cal P w K mg base 1 "_law_well" (Spn 1 sp_well) [] := by
  obtain ⟨fd, F⟩ := T.F__law_well
  refine calN F T.g__law_well sc__law_well rfl (fun _ _ _ _ _ _ us hl => match us, hl with | [_], _ => rfl) (fun cdv A outer s H vs Q E hr h => ?_)
  have nd := sc__law_well.nd
  have hu := hu_of hr
  obtain ⟨c, rfl, q⟩ := h
  refine ⟨_, (pss_one (ps_ret (pe_lst (pa_cons (pe_op op_mul (pv 0) (pe_callTy call_int1 (by rfl) T.z_int (by decide +kernel) (pa_cons (pe_cmpR op_ge (pv 0) (pe_op op_pow pe_int pe_int) (nomark _)) pa_nil))) (pa_cons (pe_op op_mod (pe_callTy call_int1 (by rfl) T.z_int (by decide +kernel) (pa_cons (pv 0) pa_nil)) pe_int) (pa_cons pe_int pa_nil)))))), ?_⟩
  refine ⟨_, rfl, _, rfl, _, _, rfl, rfl, ⟨by decide, by decide, by decide⟩, _, _, rfl, rfl, .inr ⟨_, rfl, ?_⟩⟩
  refine ⟨_, _, rfl, rfl, .inr ?_, ?_⟩
  · split <;> exact ⟨by decide, by decide⟩
  refine ⟨_, rfl, .inl ⟨_, rfl, _, _, rfl, rfl, (show (0:Int) < 2147483647 by decide), by show 3 ≤ sizeLine; decide, fun l nl => ?_⟩⟩
  exact q l _ nl (Same.new nl) ⟨_, _, _, upd_same⟩
def sp_draw : Sp := fun vs H Q _ => ∃ (l : Addr) (m : Int), vs = [.ref l, .int m] ∧ WellAt H l ∧ 1 ≤ m ∧ m < 1073741824 ∧ ∀ d H', 0 ≤ d → d < m → But l H H' → WellAt H' l → Q (.int d) H'
abbrev N__law_draw : List Str := ["_law_well_here", "_law_many", "_law_digit", "_law_figure"]
theorem sc__law_draw : FnScope N__law_draw ["_law_well_here", "_law_many"] (defScope s__law_draw) := ⟨rfl, rfl, rfl, by decide +kernel, rfl, by decide +kernel, by decide +kernel⟩
theorem c__law_draw (T : Cxt K mg) : Cal P w K mg base 1 "_law_draw" (Spn 2 sp_draw) [] := by
  obtain ⟨fd, F⟩ := T.F__law_draw
  refine calN F T.g__law_draw sc__law_draw rfl (fun _ _ _ _ _ _ us hl => match us, hl with | [_, _], _ => rfl) (fun cdv A outer s H vs Q E hr h => ?_)
  have nd := sc__law_draw.nd
  have hu := hu_of hr
  obtain ⟨l, m, rfl, ⟨a, b, c, hl⟩, m1, m2, q⟩ := h
  refine ⟨_, (pss_cons (ps_if (pt_cmpR op_gt (pe_ix ix_list (pv 0) pe_int (fun _ _ => rfl)) pe_int (nomark _)) (pss_cons (ps_set (i := 2) nd rfl (Or.inl rfl) (pe_op op_mod (pe_callTy call_int1 (by rfl) T.z_int (by decide +kernel) (pa_cons (pe_ix ix_list (pv 0) pe_int (fun _ _ => rfl)) pa_nil)) (pv 1))) (pss_cons (ps_asg (pe_op op_fdiv (pe_ix ix_list (pv 0) pe_int (fun _ _ => rfl)) (pv 1)) (pg_sub (pv 0) pe_int set_list)) (pss_one (ps_ret (pv 2))))) pss_nil) (pss_cons (ps_asg (pe_op op_add (pe_ix ix_list (pv 0) pe_int (fun _ _ => rfl)) pe_int) (pg_sub (pv 0) pe_int set_list)) (pss_cons (ps_set (i := 3) nd rfl (Or.inl rfl) (pe_op op_mod (pe_callTy call_int1 (by rfl) T.z_int (by decide +kernel) (pa_cons (pe_op op_mul (pe_op op_add (pe_op op_add (pe_ix ix_list (pv 0) pe_int (fun _ _ => rfl)) (pe_op op_mul pe_int (pe_ix ix_list (pv 0) pe_int (fun _ _ => rfl)))) pe_int) pe_int) pa_nil)) pe_int)) (pss_cons (ps_set (i := 3) nd rfl (Or.inl rfl) (pe_op op_mod (pe_callTy call_int1 (by rfl) T.z_int (by decide +kernel) (pa_cons (pe_op op_mul (pv 3) (pe_op op_add (pe_op op_fdiv (pv 3) pe_int) pe_int)) pa_nil)) pe_int)) (pss_cons (ps_set (i := 3) nd rfl (Or.inl rfl) (pe_op op_mod (pe_callTy call_int1 (by rfl) T.z_int (by decide +kernel) (pa_cons (pe_op op_mul (pv 3) (pe_op op_add (pe_op op_fdiv (pv 3) pe_int) pe_int)) pa_nil)) pe_int)) (pss_one (ps_ret (pe_op op_mod (pe_callTy call_int1 (by rfl) T.z_int (by decide +kernel) (pa_cons (pe_op op_fdiv (pv 3) pe_int) pa_nil)) (pv 1))))))))), ?_⟩
  have A0 : atI [V.int a, V.int b, V.int c] 0 = some (.int a) := rfl
  have A1 : atI [V.int a, V.int b, V.int c] 1 = some (.int b) := rfl
  have A2 : atI [V.int a, V.int b, V.int c] 2 = some (.int c) := rfl
  refine ⟨_, rfl, l, _, _, _, rfl, rfl, SqL.of hl, A0, _, _, rfl, rfl, _, rfl, ?_⟩
  refine ite2 (fun c1 => ?_) (fun c1 => ?_)
  · refine ⟨_, rfl, l, _, _, _, rfl, rfl, SqL.of hl, A0, .inl ⟨_, rfl, _, rfl, _, _, rfl, rfl, by show 0 < m; omega, ?_⟩⟩
    refine ⟨_, rfl, l, _, _, _, rfl, rfl, SqL.of hl, A0, _, rfl, _, _, rfl, rfl, ⟨by omega, m2⟩, ?_⟩
    refine ⟨_, rfl, l, _, 0, 0, rfl, rfl, hl, rfl, ?_⟩
    exact ⟨_, rfl, q _ _ (Int.emod_nonneg _ (by omega)) (Int.emod_lt_of_pos _ (by omega)) But.upd ⟨_, _, _, upd_same⟩⟩
  · refine ⟨_, rfl, l, _, _, _, rfl, rfl, SqL.of hl, A2, _, _, rfl, rfl, ?_⟩
    refine ⟨_, rfl, l, _, 2, 2, rfl, rfl, hl, rfl, ?_⟩
    have hl2 : (upd H l (.lst (([V.int a, V.int b, V.int c]).set 2 (.int (c + 1))))) l = some (.lst [.int a, .int b, .int (c + 1)]) := upd_same
    generalize hH2 : upd H l (.lst (([V.int a, V.int b, V.int c]).set 2 (.int (c + 1)))) = H2 at hl2
    have b2 : But l H H2 := by rw [← hH2]; exact But.upd
    have B1 : atI [V.int a, V.int b, V.int (c + 1)] 1 = some (.int b) := rfl
    have B2 : atI [V.int a, V.int b, V.int (c + 1)] 2 = some (.int (c + 1)) := rfl
    show tSeq _ _ _ _ H2
    refine ⟨_, rfl, l, _, _, _, rfl, rfl, SqL.of hl2, B1, ?_⟩
    refine ⟨_, rfl, l, _, _, _, rfl, rfl, SqL.of hl2, B2, _, _, rfl, rfl, .inl ⟨by decide, by decide⟩, _, _, rfl, rfl, _, _, rfl, rfl, _, _, rfl, rfl, .inr ⟨by decide, by decide⟩, .inl ⟨_, rfl, _, _, rfl, rfl, (show (0:Int) < 2147483647 by decide), ?_⟩⟩
    generalize (b + 7919 * (c + 1) + 1) * 48271 = f0
    have r1 : 0 ≤ f0 % 2147483647 ∧ f0 % 2147483647 < 2147483647 := ⟨Int.emod_nonneg _ (by decide), Int.emod_lt_of_pos _ (by decide)⟩
    generalize f0 % 2147483647 = f1 at r1 ⊢
    refine ⟨_, rfl, _, rfl, _, _, rfl, rfl, ⟨by decide, by decide⟩, _, _, rfl, rfl, _, _, rfl, rfl, .inl ⟨by omega, by omega⟩, .inl ⟨_, rfl, _, _, rfl, rfl, (show (0:Int) < 2147483629 by decide), ?_⟩⟩
    generalize f1 * (f1 / 1009 + 69621) = f2
    have r2 : 0 ≤ f2 % 2147483629 ∧ f2 % 2147483629 < 2147483629 := ⟨Int.emod_nonneg _ (by decide), Int.emod_lt_of_pos _ (by decide)⟩
    generalize f2 % 2147483629 = f3 at r2 ⊢
    refine ⟨_, rfl, _, rfl, _, _, rfl, rfl, ⟨by decide, by decide⟩, _, _, rfl, rfl, _, _, rfl, rfl, .inl ⟨by omega, by omega⟩, .inl ⟨_, rfl, _, _, rfl, rfl, (show (0:Int) < 2147483587 by decide), ?_⟩⟩
    refine ⟨_, rfl, _, _, rfl, rfl, ⟨by decide, by decide⟩, .inl ⟨_, rfl, _, rfl, _, _, rfl, rfl, by show 0 < m; omega, ?_⟩⟩
    exact q _ _ (Int.emod_nonneg _ (by omega)) (Int.emod_lt_of_pos _ (by omega)) b2 ⟨_, _, _, hl2⟩
end
end AH
/-! W25 -/
set_option Elab.async false
set_option linter.all false
set_option maxRecDepth 100000
set_option maxHeartbeats 4000000
namespace AH
open PySem PySem.Spec PyProof.Rows L2 He
theorem But.put {x f : Addr} {H0 H : Hp} {o : HO} (b : But x H0 H) (n : H0 f = none) : But x H0 (L2.upd H f o) := fun c u h ne => by rw [upd_ne (ne_of_none h n)]; exact b c u h ne
theorem But.free {x f : Addr} {H0 H : Hp} (b : But x H0 H) (hx : H0 x ≠ none) (n : H f = none) (fx : f ≠ x) : H0 f = none := by
  cases e : H0 f with
  | none => rfl
  | some o => have := b f o e fx; rw [n] at this; cases this
theorem WellAt.ne {H : Hp} {l f : Addr} (h : WellAt H l) (n : H f = none) : f ≠ l := fun e => by
  obtain ⟨a, b, c, h⟩ := h
  rw [e, h] at n
  cases n
theorem WellAt.some {H : Hp} {l : Addr} (h : WellAt H l) : H l ≠ none := by
  obtain ⟨a, b, c, h⟩ := h
  rw [h]
  intro z
  cases z
theorem WellAt.same {H H' : Hp} {l : Addr} (h : WellAt H l) (s : Same H H') : WellAt H' l := let ⟨a, b, c, h⟩ := h; ⟨a, b, c, s _ _ h⟩
theorem P32 (v : Bool) : AN.P 32 ≤ AN.P (Wd v) := AN.P_le (by cases v <;> decide)
theorem P32v : AN.P 32 = 4294967296 := by decide
section
variable {P : Program} {w : World} {K : PySem.W.Frag} {mg : Str → Option Value} {base : Heap}
def sp_number : Sp := fun vs H Q _ => ∃ (v : Bool) (l : Addr), vs = [.ref l, .int (Wd v : Int)] ∧ WellAt H l ∧ ∀ n H', 0 ≤ n → n < AN.P (Wd v) → But l H H' → WellAt H' l → Q (.int n) H'
theorem way_cases {d : Int} (h0 : 0 ≤ d) (h1 : d < 5) : d = 0 ∨ d = 1 ∨ d = 2 ∨ d = 3 ∨ d = 4 := by omega
abbrev N__law_number : List Str := ["_law_well_here", "_law_width", "_law_way", "_law_top", "_law_number_here", "_law_k", "_law_group"]
theorem sc__law_number : FnScope N__law_number ["_law_well_here", "_law_width"] (defScope s__law_number) := ⟨rfl, rfl, rfl, by decide +kernel, rfl, by decide +kernel, by decide +kernel⟩
theorem c__law_number (T : Cxt K mg) : Cal P w K mg base 2 "_law_number" (Spn 2 sp_number) [] := by
  obtain ⟨fd, F⟩ := T.F__law_number
  refine calN F T.g__law_number sc__law_number rfl (fun _ _ _ _ _ _ us hl => match us, hl with | [_, _], _ => rfl) (fun cdv A outer s H vs Q E hr h => ?_)
  have nd := sc__law_number.nd
  have hu := hu_of hr
  obtain ⟨v, l, rfl, wl, q⟩ := h
  refine ⟨_, (pss_cons (ps_set (i := 2) nd rfl (Or.inl rfl) (pe_f (c__law_draw T) hr (by decide) rfl (pa_cons (pv 0) (pa_cons pe_int pa_nil)))) (pss_cons (ps_set (i := 3) nd rfl (Or.inl rfl) (pe_op op_sub (pe_op op_shlW pe_int (pv 1)) pe_int)) (pss_cons (ps_if (pt_cmpR op_eq (pv 2) pe_int (nomark _)) (pss_one (ps_ret (pe_f (c__law_draw T) hr (by decide) rfl (pa_cons (pv 0) (pa_cons pe_int pa_nil))))) pss_nil) (pss_cons (ps_if (pt_cmpR op_eq (pv 2) pe_int (nomark _)) (pss_one (ps_ret (pe_op op_sub (pv 3) (pe_f (c__law_draw T) hr (by decide) rfl (pa_cons (pv 0) (pa_cons pe_int pa_nil)))))) pss_nil) (pss_cons (ps_if (pt_cmpR op_eq (pv 2) pe_int (nomark _)) (pss_one (ps_ret (pe_op op_andM (pe_op op_sub (pe_op op_add (pe_op op_shlW pe_int (pe_f (c__law_draw T) hr (by decide) rfl (pa_cons (pv 0) (pa_cons (pv 1) pa_nil)))) (pe_f (c__law_draw T) hr (by decide) rfl (pa_cons (pv 0) (pa_cons pe_int pa_nil)))) pe_int) (pv 3)))) pss_nil) (pss_cons (ps_set (i := 4) nd rfl (Or.inl rfl) pe_int) (pss_cons (ps_for PassesOwn.never rfl (pi_range1 (by rfl) T.z_range (pa_cons (pe_op op_fdiv (pv 1) pe_int) pa_nil)) (pg_name (i := 5) nd rfl (Or.inl rfl)) (pss_cons (ps_set (i := 6) nd rfl (Or.inl rfl) (pe_f (c__law_draw T) hr (by decide) rfl (pa_cons (pv 0) (pa_cons pe_int pa_nil)))) (pss_cons (ps_if (PW.pt (pw_and (pt_cmpR op_eq (pv 2) pe_int (nomark _)) (pw_and1 (pt_cmpR op_gt (pe_f (c__law_draw T) hr (by decide) rfl (pa_cons (pv 0) (pa_cons pe_int pa_nil))) pe_int (nomark _))))) (pss_one (ps_set (i := 6) nd rfl (Or.inl rfl) pe_int)) pss_nil) (pss_one (ps_set (i := 4) nd rfl (Or.inl rfl) (pe_op op_add (pe_op op_mul (pv 4) pe_int) (pv 6))))))) (pss_one (ps_ret (pv 4)))))))))), ?_⟩
  have wd := Wd_le v
  have p32 := P32 v
  have p32v := P32v
  have csW : CShl (1 : Int) (Wd v : Int) := shl_ok (n := 1) (by decide) (by omega)
  refine ⟨_, rfl, rfl, l, 5, rfl, wl, by decide, by decide, fun way H1 w0 w1 b1 wl1 => ?_⟩
  refine ⟨_, rfl, _, _, rfl, rfl, csW, _, _, rfl, rfl, ?_⟩
  have e1 : (1 : Int) * 2 ^ ((Wd v : Int)).toNat - 1 = AN.P (Wd v) - 1 := by rw [pow_cast, Int.one_mul]
  dsimp only
  rw [e1]
  refine ⟨_, rfl, rfl, _, rfl, ?_⟩
  rw [dec_int_eq]
  refine ite2 (fun c => ?_) (fun c => ?_)
  · refine ⟨_, rfl, rfl, l, 16, rfl, wl1, by decide, by decide, fun d H2 d0 d1 b2 wl2 => ?_⟩
    exact q d H2 d0 (by omega) (b1.trans b2) wl2
  refine ⟨_, rfl, rfl, _, rfl, ?_⟩
  rw [dec_int_eq]
  refine ite2 (fun c => ?_) (fun c => ?_)
  · refine ⟨_, rfl, _, rfl, rfl, l, 16, rfl, wl1, by decide, by decide, fun d H2 d0 d1 b2 wl2 => ?_⟩
    exact ⟨_, _, rfl, rfl, q _ H2 (by omega) (by omega) (b1.trans b2) wl2⟩
  refine ⟨_, rfl, rfl, _, rfl, ?_⟩
  rw [dec_int_eq]
  refine ite2 (fun c => ?_) (fun c => ?_)
  · refine ⟨_, rfl, _, rfl, rfl, l, Wd v, rfl, wl1, by cases v <;> decide, by cases v <;> decide, fun d H2 d0 d1 b2 wl2 => ?_⟩
    have csd : CShl (1 : Int) d := by
      obtain ⟨n, rfl⟩ := Int.eq_ofNat_of_zero_le d0
      exact shl_ok (n := 1) (by decide) (by omega)
    refine ⟨_, _, rfl, rfl, csd, _, rfl, rfl, l, 5, rfl, wl2, by decide, by decide, fun d2 H3 d20 d21 b3 wl3 => ?_⟩
    refine ⟨_, _, rfl, rfl, _, _, rfl, rfl, _, rfl, _, Wd v, rfl, by rw [AN.P_pow], ?_⟩
    refine q _ H3 (Int.emod_nonneg _ (by rw [AN.P_pow]; omega)) ?_ (b1.trans (b2.trans b3)) wl3
    have := Int.emod_lt_of_pos (1 * 2 ^ d.toNat + d2 - 2) (show 0 < (2:Int) ^ (Wd v) by rw [AN.P_pow]; omega)
    rw [AN.P_pow] at this ⊢
    exact this
  refine ⟨_, rfl, _, _, rfl, rfl, ⟨by decide, by decide⟩, _, rfl, by omega, by omega, ?_⟩
  refine for_it walk_range (fun i σ' H' => ∃ (n : Int) (a b : Option V), σ' = [some (.ref l), some (.int (Wd v : Int)), some (.int way), some (.int (AN.P (Wd v) - 1)), some (.int n), a, b] ∧ 0 ≤ n ∧ n < AN.P (16 * i) ∧ But l H H' ∧ WellAt H' l)
    ⟨0, none, none, rfl, Int.le_refl _, AN.P_pos _, b1, wl1⟩ (fun _ _ _ _ _ => trivial) ?_ ?_
  · rintro i x σ' H2 H3 hi ⟨n, a, b, rfl, n0, n1, b2, wl2⟩ ⟨rfl, rfl⟩
    refine ⟨_, rfl, rfl, l, 65536, rfl, wl2, by decide, by decide, fun d H4 d0 d1 b4 wl4 => ?_⟩
    have step : ∀ (g : Int) (H' : Hp) (a b : Option V), 0 ≤ g → g < 65536 → But l H H' → WellAt H' l → ∃ (n' : Int) (a' b' : Option V), ([some (.ref l), some (.int (Wd v : Int)), some (.int way), some (.int (AN.P (Wd v) - 1)), some (.int (n * 65536 + g)), a, b] : List (Option V)) = [some (.ref l), some (.int (Wd v : Int)), some (.int way), some (.int (AN.P (Wd v) - 1)), some (.int n'), a', b'] ∧ 0 ≤ n' ∧ n' < AN.P (16 * (i + 1)) ∧ But l H H' ∧ WellAt H' l := fun g H' a b g0 g1 bb ww => by
      refine ⟨_, _, _, rfl, by omega, ?_, bb, ww⟩
      have e : AN.P (16 * (i + 1)) = AN.P (16 * i) * 65536 := by
        rw [show 16 * (i + 1) = 16 * i + 16 by omega, AN.P_add]
        rfl
      rw [e]
      omega
    refine ⟨_, rfl, rfl, _, rfl, ?_⟩
    rw [dec_int_eq]
    refine ite2 (fun c3 => ?_) (fun c3 => ?_)
    · refine ⟨_, rfl, rfl, l, 3, rfl, wl4, by decide, by decide, fun d2 H5 d20 d21 b5 wl5 => ?_⟩
      refine ⟨_, _, rfl, rfl, _, rfl, ?_⟩
      refine ite2 (fun c4 => ?_) (fun c4 => ?_)
      · refine ⟨_, rfl, _, _, rfl, rfl, .inr ⟨by decide, by decide⟩, _, rfl, _, _, rfl, rfl, ?_⟩
        exact step 0 H5 _ _ (by decide) (by decide) (b2.trans (b4.trans b5)) wl5
      · refine ⟨_, rfl, _, _, rfl, rfl, .inr ⟨by decide, by decide⟩, _, rfl, _, _, rfl, rfl, ?_⟩
        exact step d H5 _ _ d0 d1 (b2.trans (b4.trans b5)) wl5
    · refine iteF ?_
      refine ⟨_, rfl, _, _, rfl, rfl, .inr ⟨by decide, by decide⟩, _, rfl, _, _, rfl, rfl, ?_⟩
      exact step d H4 _ _ d0 d1 (b2.trans b4) wl4
  · rintro σ' H2 ⟨n, a, b, rfl, n0, n1, b2, wl2⟩
    refine ⟨_, rfl, q n H2 n0 ?_ b2 wl2⟩
    have e : 16 * ((Wd v : Int) / 16).toNat = Wd v := by cases v <;> rfl
    rw [e] at n1
    exact n1
def sp_laddr (K : PySem.W.Frag) : Sp := fun vs H Q _ => ∃ (v : Bool) (n : Int), vs = [.int n, .int (Wd v : Int)] ∧ 0 ≤ n ∧ n < AN.P (Wd v) ∧ ∀ a H', H a = none → Same H H' → AdrAt K v H' a n → Q (.ref a) H'
abbrev N__law_address : List Str := ["_law_number_here", "_law_width"]
theorem sc__law_address : FnScope N__law_address ["_law_number_here", "_law_width"] (defScope s__law_address) := ⟨rfl, rfl, rfl, by decide +kernel, rfl, by decide +kernel, by decide +kernel⟩
theorem c__law_address (T : Cxt K mg) : Cal P w K mg base 6 "_law_address" (Spn 2 (sp_laddr K)) [] := by
  obtain ⟨fd, F⟩ := T.F__law_address
  refine calN F T.g__law_address sc__law_address rfl (fun _ _ _ _ _ _ us hl => match us, hl with | [_, _], _ => rfl) (fun cdv A outer s H vs Q E hr h => ?_)
  have nd := sc__law_address.nd
  have hu := hu_of hr
  obtain ⟨v, n, rfl, n0, n1, q⟩ := h
  refine ⟨_, (pss_cons (ps_if (pt_cmpR op_eq (pv 1) pe_int (nomark _)) (pss_one (ps_ret (pe_k (k_Address4 T) hr (by decide) rfl (pa_cons (pv 0) pa_nil)))) pss_nil) (pss_one (ps_ret (pe_k (k_Address6 T) hr (by decide) rfl (pa_cons (pv 0) pa_nil))))), ?_⟩
  refine ⟨_, rfl, rfl, _, rfl, ?_⟩
  cases v with
  | false => exact iteT ⟨_, rfl, fun a da na nda nea => ⟨rfl, a, da, n, rfl, upd_same, n0, n1, fun H9 b9 a9 => ⟨rfl, q a H9 na (But.made na nda b9) a9⟩⟩⟩
  | true => exact iteF ⟨_, rfl, fun a da na nda nea => ⟨rfl, a, da, n, rfl, upd_same, n0, n1, fun H9 b9 a9 => ⟨rfl, q a H9 na (But.made na nda b9) a9⟩⟩⟩
end
end AH
/-! W26 -/
set_option Elab.async false
set_option linter.all false
set_option maxRecDepth 100000
set_option maxHeartbeats 4000000
namespace AH
open PySem PySem.Spec PyProof.Rows L2 He
section
variable {P : Program} {w : World} {K : PySem.W.Frag} {mg : Str → Option Value} {base : Heap}
theorem int_snoc (ys : List Int) (z : Int) : (0 :: (ys ++ [z])).map V.int = ((0 :: ys).map V.int) ++ [.int z] := by
  rw [← List.cons_append, List.map_append]
  rfl
/-- rising numbers from 0 below the top -/
structure CutOk (v : Bool) (ns : List Int) : Prop where
  pw : ns.Pairwise (· < ·)
  zero : (0 : Int) ∈ ns
  bd : ∀ x ∈ ns, 0 ≤ x ∧ x < AN.P (Wd v)
  len : ns.length ≤ 12
def sp_cuts : Sp := fun vs H Q _ => ∃ (v : Bool) (l : Addr) (b : Int), vs = [.ref l, .int b, .int (Wd v : Int)] ∧ WellAt H l ∧ 0 ≤ b ∧ ∀ m H' ns, H m = none → But l H H' → WellAt H' l → CutOk v ns → H' m = some (.lst (ns.map V.int)) → Q (.ref m) H'
abbrev N__law_cuts : List Str := ["_law_well_here", "_law_base", "_law_width", "_law_top", "_law_found", "_law_k", "_law_one"]
theorem sc__law_cuts : FnScope N__law_cuts ["_law_well_here", "_law_base", "_law_width"] (defScope s__law_cuts) := ⟨rfl, rfl, rfl, by decide +kernel, rfl, by decide +kernel, by decide +kernel⟩
theorem c__law_cuts (T : Cxt K mg) : Cal P w K mg base 3 "_law_cuts" (Spn 3 sp_cuts) [] := by
  obtain ⟨fd, F⟩ := T.F__law_cuts
  refine calN F T.g__law_cuts sc__law_cuts rfl (fun _ _ _ _ _ _ us hl => match us, hl with | [_, _, _], _ => rfl) (fun cdv A outer s H vs Q E hr h => ?_)
  have nd := sc__law_cuts.nd
  have hu := hu_of hr
  obtain ⟨v, l, b, rfl, wl, b0, q⟩ := h
  refine ⟨_, (pss_cons (ps_set (i := 3) nd rfl (Or.inl rfl) (pe_op op_sub (pe_op op_shlW pe_int (pv 2)) pe_int)) (pss_cons (ps_set (i := 4) nd rfl (Or.inl rfl) (pe_lst (pa_cons pe_int pa_nil))) (pss_cons (ps_for PassesOwn.never rfl (pi_range1 (by rfl) T.z_range (pa_cons (pe_f (c__law_draw T) hr (by decide) rfl (pa_cons (pv 0) (pa_cons pe_int pa_nil))) pa_nil)) (pg_name (i := 5) nd rfl (Or.inl rfl)) (pss_cons (ps_expr (pe_bm PySem.F.plainAttrs_list PySem.F.slot_list_append PySem.F.type_list_append mt_append (pv 4) (pa_cons (pe_op op_andM (pe_op op_add (pv 1) (pe_f (c__law_draw T) hr (by decide) rfl (pa_cons (pv 0) (pa_cons pe_int pa_nil)))) (pv 3)) pa_nil))) (pss_one (ps_if (pt_cmpR op_eq (pe_f (c__law_draw T) hr (by decide) rfl (pa_cons (pv 0) (pa_cons pe_int pa_nil))) pe_int (nomark _)) (pss_one (ps_asg (pe_f (c__law_number T) hr (by decide) rfl (pa_cons (pv 0) (pa_cons (pv 2) pa_nil))) (pg_sub (pv 4) (pe_un un_neg pe_int) set_list))) pss_nil)))) (pss_one (ps_ret (pe_callB (SetX.cr_sortedKI rfl) (by rfl) T.z_sorted (by decide +kernel) (pa_cons (pe_callTy (SetX.cr_setOfK rfl) (by rfl) T.z_set (by decide +kernel) (pa_cons (pe_lc (own := [("_law_one", 6)]) (g := gName 6) (tt := tYes) rfl nd (pi_list (pv 4)) (blkOk_by (own := [("_law_one", 6)]) (N := N__law_cuts) (sc := defScope s__law_cuts) (by decide +kernel)) (fun _ _ _ _ _ => (pg_name (i := 6) nd rfl (Or.inl rfl) (.inr rfl))) (fun _ _ _ _ _ => pts_nil) (fun _ _ _ _ _ => (pe_callTy call_int1 (by rfl) T.z_int (by decide +kernel) (pa_cons (pv 6) pa_nil)))) pa_nil)) pa_nil))))))), ?_⟩
  have wd := Wd_le v
  have p32 := P32 v
  have p32v := P32v
  have csW : CShl (1 : Int) (Wd v : Int) := shl_ok (n := 1) (by decide) (by omega)
  have e1 : (1 : Int) * 2 ^ ((Wd v : Int)).toNat - 1 = AN.P (Wd v) - 1 := by rw [pow_cast, Int.one_mul]
  refine ⟨_, rfl, _, _, rfl, rfl, csW, _, _, rfl, rfl, ?_⟩
  dsimp only
  rw [e1]
  refine ⟨by show 1 ≤ sizeLine; decide, fun f nf => ?_⟩
  have fl := wl.ne nf
  have wl0 : WellAt (upd H f (.lst [.int 0])) l := wl.same (Same.new nf)
  refine ⟨_, rfl, rfl, l, 12, rfl, wl0, by decide, by decide, fun n H1 n0 n1 b1 wl1 => ?_⟩
  have bb1 : But l H H1 := (But.of (Same.new nf)).trans b1
  have hf1 : H1 f = some (.lst [.int 0]) := b1 _ _ upd_same fl
  refine ⟨n, rfl, by omega, by omega, ?_⟩
  refine for_it walk_range (fun i σ' H' => ∃ (a c : Option V) (ys : List Int), σ' = [some (.ref l), some (.int b), some (.int (Wd v : Int)), some (.int (AN.P (Wd v) - 1)), some (.ref f), a, c] ∧ But l H H' ∧ WellAt H' l ∧ H' f = some (.lst ((0 :: ys).map V.int)) ∧ ys.length = i ∧ ∀ y ∈ ys, 0 ≤ y ∧ y < AN.P (Wd v))
    ⟨none, none, [], rfl, bb1, wl1, hf1, rfl, fun y h => (nomatch h)⟩ (fun _ _ _ _ _ => trivial) ?_ ?_
  · rintro i x σ' H2 H3 hi ⟨a, c, ys, rfl, b2, wl2, hf2, yl, yb⟩ ⟨rfl, rfl⟩
    refine ⟨_, rfl, .inl ⟨rfl, _, SqL.of hf2⟩, ?_⟩
    refine ⟨_, rfl, _, rfl, rfl, l, 200, rfl, wl2, by decide, by decide, fun d H4 d0 d1 b4 wl4 => ?_⟩
    have hf4 := b4 _ _ hf2 fl
    refine ⟨_, _, rfl, rfl, _, rfl, _, Wd v, rfl, by rw [AN.P_pow], f, _, _, rfl, rfl, hf4, ?_, ?_⟩
    · rw [List.length_map, List.length_cons, yl]
      have : sizeLine = 16777216 := rfl
      omega
    have pm : ∀ z : Int, 0 ≤ z % 2 ^ (Wd v) ∧ z % 2 ^ (Wd v) < AN.P (Wd v) := fun z => by
      rw [AN.P_pow]
      exact ⟨Int.emod_nonneg _ (by omega), Int.emod_lt_of_pos _ (by omega)⟩
    generalize hz : (b + d) % 2 ^ (Wd v) = z
    have zb : 0 ≤ z ∧ z < AN.P (Wd v) := by rw [← hz]; exact pm _
    have w5 : WellAt (upd H4 f (.lst ((0 :: ys).map V.int ++ [.int z]))) l := by
      obtain ⟨x1, x2, x3, hx⟩ := wl4
      exact ⟨x1, x2, x3, by rw [upd_ne fl.symm]; exact hx⟩
    have bb5 : But l H (upd H4 f (.lst ((0 :: ys).map V.int ++ [.int z]))) := But.put (b2.trans b4) nf
    have ys2 : ∀ y ∈ ys ++ [z], 0 ≤ y ∧ y < AN.P (Wd v) := fun y hy => (List.mem_append.mp hy).elim (yb y) fun h => by rw [List.mem_singleton.mp h]; exact zb
    have hm5 : (upd H4 f (.lst ((0 :: ys).map V.int ++ [.int z]))) f = some (.lst ((0 :: (ys ++ [z])).map V.int)) := by
      rw [upd_same, List.map_cons, List.map_cons, List.map_append]
      rfl
    refine ⟨_, rfl, rfl, l, 4, rfl, w5, by decide, by decide, fun d2 H6 d20 d21 b6 wl6 => ?_⟩
    have hf6 := b6 _ _ hm5 fl
    refine ⟨rfl, _, rfl, ?_⟩
    refine ite2 (fun c4 => ?_) (fun c4 => ?_)
    · refine ⟨_, rfl, _, rfl, rfl, v, l, rfl, wl6, fun nn H7 nn0 nn1 b7 wl7 => ?_⟩
      have hf7 := b7 _ _ hf6 fl
      refine ⟨_, rfl, _, rfl, f, _, _, _, rfl, rfl, hf7, ixN_last (by rw [List.length_map]; exact Nat.zero_lt_succ _), ?_⟩
      refine ⟨_, _, ys ++ [nn], rfl, But.put (bb5.trans (b6.trans b7)) nf, ?_, ?_, by rw [List.length_append, yl]; rfl, fun y hy => (List.mem_append.mp hy).elim (yb y) fun h => by rw [List.mem_singleton.mp h]; exact ⟨nn0, nn1⟩⟩
      · obtain ⟨x1, x2, x3, hx⟩ := wl7
        exact ⟨x1, x2, x3, by rw [upd_ne fl.symm]; exact hx⟩
      · rw [upd_same]
        have e : ((0 :: (ys ++ [z])).map V.int).set (((0 :: (ys ++ [z])).map V.int).length - 1) (.int nn) = (0 :: (ys ++ [nn])).map V.int := by
          rw [int_snoc, set_last, ← int_snoc]
        rw [e]
    · exact ⟨_, _, ys ++ [z], rfl, bb5.trans b6, wl6, hf6, by rw [List.length_append, yl]; rfl, ys2⟩
  · rintro σ' H2 ⟨a, c, ys, rfl, b2, wl2, hf2, yl, yb⟩
    refine ⟨_, rfl, f, rfl, ⟨_, SqL.of hf2⟩, fun D nD => ?_⟩
    refine lc_map (Rb := IntR) IntR.kp walk_list (0 :: ys) (List.length_map ..).symm (by rw [List.length_map, List.length_cons]; omega) nD (fun H' s => SqL.of (s _ _ hf2)) ?_ ?_
    · rintro i x y H3 H4 Q' hi hy s3 ⟨rfl, hx⟩ cont
      rw [List.getElem?_map, hy] at hx
      cases hx
      exact ⟨Same.refl _, rfl, _, rfl, .inl ⟨_, rfl, cont _ _ (Same.refl _) (Same.refl _) rfl⟩⟩
    · rintro H3 s3 ⟨ws, hws, hwp⟩
      rw [ints_eq hwp] at hws
      refine ⟨D, (0 :: ys).map Sum.inl, rfl, ?_, ?_, fun m js nm hjs hjl => ?_⟩
      · rw [List.map_map]
        exact SqL.of hws
      · rw [List.length_map, List.length_cons]
        have : scanBound = 4096 := rfl
        omega
      refine ⟨m, js, rfl, upd_same, fun k hk => ?_, fun ns m2 hs hmem hnl nm2 => ?_⟩
      · obtain ⟨y, _, e⟩ := List.mem_map.mp ((hjs k).mp hk)
        exact ⟨y, e.symm⟩
      have mem : ∀ x, x ∈ ns ↔ x ∈ 0 :: ys := fun x => by
        rw [hmem, hjs]
        exact SetX.mem_inl
      have s5 : Same H2 (upd (upd H3 m (SetX.SetLO P w m js)) m2 (.lst (ns.map V.int))) := s3.trans ((Same.new nm).trans (Same.new nm2))
      have b5 := b2.trans (But.of (x := l) s5)
      have m2l : m2 ≠ l := WellAt.ne (wl2.same (s3.trans (Same.new nm))) nm2
      refine q m2 _ ns ?_ b5 (wl2.same s5) ⟨hs, (mem 0).mpr List.mem_cons_self, fun x hx => ?_, ?_⟩ upd_same
      · exact But.free (b2.trans (But.of (x := l) (s3.trans (Same.new nm)))) wl.some nm2 m2l
      · rcases List.mem_cons.mp ((mem x).mp hx) with e | e
        · rw [e]
          exact ⟨Int.le_refl _, AN.P_pos _⟩
        · exact yb x e
      · rw [hnl]
        rw [List.length_map, List.length_cons] at hjl
        omega
def sp_ones : Sp := fun vs H Q _ => ∃ n : Nat, vs = [.int (n : Int)] ∧ Q (.int (AN.pc n : Int)) H
abbrev N__law_ones : List Str := ["_law_number_here", "_law_found"]
theorem sc__law_ones : FnScope N__law_ones ["_law_number_here"] (defScope s__law_ones) := ⟨rfl, rfl, rfl, by decide +kernel, rfl, by decide +kernel, by decide +kernel⟩
theorem c__law_ones (T : Cxt K mg) : Cal P w K mg base 1 "_law_ones" (Spn 1 sp_ones) [] := by
  obtain ⟨fd, F⟩ := T.F__law_ones
  refine calN F T.g__law_ones sc__law_ones rfl (fun _ _ _ _ _ _ us hl => match us, hl with | [_], _ => rfl) (fun cdv A outer s H vs Q E hr h => ?_)
  have nd := sc__law_ones.nd
  have hu := hu_of hr
  obtain ⟨n, rfl, q⟩ := h
  refine ⟨_, (pss_cons (ps_set (i := 1) nd rfl (Or.inl rfl) pe_int) (pss_cons (ps_while PassesOwn.never (pt_cmpR op_gt (pv 0) pe_int (nomark _)) (pss_cons (ps_set (i := 0) nd rfl (Or.inl rfl) (pe_op op_and (pv 0) (pe_op op_sub (pv 0) pe_int))) (pss_one (ps_set (i := 1) nd rfl (Or.inl rfl) (pe_op op_add (pv 1) pe_int))))) (pss_one (ps_ret (pv 1))))), ?_⟩
  refine ⟨fun μ σ H' => H' = H ∧ ∃ m c : Nat, σ = [some (.int (m : Int)), some (.int (c : Int))] ∧ μ = m ∧ AN.pc n = c + AN.pc m, ⟨n, rfl, n, 0, rfl, rfl, (Nat.zero_add _).symm⟩, ?_⟩
  rintro μ σ H' ⟨rfl, m, c, rfl, rfl, e⟩
  refine ⟨_, rfl, _, _, rfl, rfl, _, rfl, ?_⟩
  refine ite2 (fun c1 => ?_) (fun c1 => ?_)
  · have c1 : (0 : Int) < (μ : Int) := of_decide_eq_true c1
    have mp : 0 < μ := by omega
    have eb : Builtin.bitAnd (μ : Int) ((μ : Int) - 1) = ((μ &&& (μ - 1) : Nat) : Int) := by
      rw [bitAnd_pp (by omega) (by omega), Int.toNat_natCast, show ((μ : Int) - 1).toNat = μ - 1 by omega]
    refine ⟨fun σ' H2 => ∃ μ', μ' < μ ∧ H2 = H' ∧ ∃ m c : Nat, σ' = [some (.int (m : Int)), some (.int (c : Int))] ∧ μ' = m ∧ AN.pc n = c + AN.pc m, fun _ _ z => z, ?_⟩
    refine ⟨_, rfl, _, rfl, _, _, rfl, rfl, _, _, rfl, rfl, _, rfl, _, _, rfl, rfl, _, AN.and_pred_lt mp, rfl, μ &&& (μ - 1), c + 1, ?_, rfl, ?_⟩
    · show [some (V.int (Builtin.bitAnd (μ : Int) ((μ : Int) - 1))), some (V.int ((c : Int) + 1))] = _
      rw [eb]
      rfl
    · rw [e, ← AN.pc_pred mp]
      omega
  · have c1 : ¬ (0 : Int) < (μ : Int) := of_decide_eq_false (Bool.eq_false_iff.mpr c1)
    have m0 : μ = 0 := by omega
    rw [m0, AN.pc_zero, Nat.add_zero] at e
    rw [e] at q
    exact ⟨_, rfl, q⟩
def sp_lpieces : Sp := fun vs H Q _ => ∃ (v : Bool) (lo hi : Int), vs = [.int lo, .int hi] ∧ 0 ≤ lo ∧ lo ≤ hi ∧ hi < AN.P (Wd v) ∧ ∀ n : Nat, (AN.pcs (Wd v) lo hi).length ≤ n → Q (.int (n : Int)) H
abbrev N__law_pieces : List Str := ["_law_low", "_law_high", "_law_bits", "_law_middle"]
theorem sc__law_pieces : FnScope N__law_pieces ["_law_low", "_law_high"] (defScope s__law_pieces) := ⟨rfl, rfl, rfl, by decide +kernel, rfl, by decide +kernel, by decide +kernel⟩
theorem c__law_pieces (T : Cxt K mg) : Cal P w K mg base 2 "_law_pieces" (Spn 2 sp_lpieces) [] := by
  obtain ⟨fd, F⟩ := T.F__law_pieces
  refine calN F T.g__law_pieces sc__law_pieces rfl (fun _ _ _ _ _ _ us hl => match us, hl with | [_, _], _ => rfl) (fun cdv A outer s H vs Q E hr h => ?_)
  have nd := sc__law_pieces.nd
  have hu := hu_of hr
  obtain ⟨v, lo, hi, rfl, h0, h1, h2, q⟩ := h
  refine ⟨_, (pss_cons (ps_set (i := 2) nd rfl (Or.inl rfl) (pe_op op_sub (pe_bits (pe_op op_xor (pv 0) (pe_op op_add (pv 1) pe_int))) pe_int)) (pss_cons (ps_set (i := 3) nd rfl (Or.inl rfl) (pe_op op_shlW (pe_op op_shr (pe_op op_add (pv 1) pe_int) (pv 2)) (pv 2))) (pss_one (ps_ret (pe_op op_add (pe_f (c__law_ones T) hr (by decide) rfl (pa_cons (pe_op op_sub (pv 3) (pv 0)) pa_nil)) (pe_f (c__law_ones T) hr (by decide) rfl (pa_cons (pe_op op_sub (pe_op op_add (pv 1) pe_int) (pv 3)) pa_nil))))))), ?_⟩
  obtain ⟨a, rfl⟩ := Int.eq_ofNat_of_zero_le h0
  obtain ⟨b, rfl⟩ := Int.eq_ofNat_of_zero_le (show 0 ≤ hi by omega)
  have hl : a < b + 1 := by omega
  have hu : b + 1 ≤ 2 ^ (Wd v) := by rw [AN.P_nat] at h2; omega
  obtain ⟨t1, t2⟩ := AN.top_bit hl
  have tl := AN.top_le hl hu
  obtain ⟨c1, c2, c3⟩ := AN.pcs_count tl t1 t2 hl
  have wd := Wd_le v
  have eu : (b : Int) + 1 = ((b + 1 : Nat) : Int) := by omega
  have ex : Builtin.bitXor (a : Int) ((b : Int) + 1) = ((a ^^^ (b + 1) : Nat) : Int) := by
    rw [eu, Bits.bitXor_pp (by omega) (by omega)]
    rfl
  have ne := AN.xor_ne hl
  have eb : (Builtin.Int.intBits (Builtin.bitXor (a : Int) ((b : Int) + 1)) : Int) - 1 = (((a ^^^ (b + 1)).log2 : Nat) : Int) := by
    rw [ex]
    show (((if (((a ^^^ (b + 1) : Nat) : Int) == 0) = true then 0 else ((a ^^^ (b + 1) : Nat) : Int).natAbs.log2 + 1 : Nat)) : Int) - 1 = _
    rw [if_neg (fun h => ne (Int.natCast_eq_zero.mp (eq_of_beq h)))]
    show (((a ^^^ (b + 1)).log2 + 1 : Nat) : Int) - 1 = _
    omega
  refine ⟨_, rfl, _, rfl, _, _, rfl, rfl, _, _, rfl, rfl, _, rfl, _, _, rfl, rfl, ?_⟩
  dsimp only
  rw [eb]
  generalize (a ^^^ (b + 1)).log2 = k at tl c1 c2 c3
  have cs : CShl (((b : Int) + 1) / 2 ^ ((k : Int)).toNat) (k : Int) := by
    rw [pow_cast]
    exact shl_ok (n := 129) (div_lt (by omega) (by have := lt129 h2; have := AN.P_lt (show 128 < 129 by decide); have := AN.P_le (show Wd v ≤ 128 by omega); omega)) (by omega)
  refine ⟨_, rfl, _, _, rfl, rfl, _, rfl, _, _, rfl, rfl, Int.natCast_nonneg k, _, rfl, _, _, rfl, rfl, cs, ?_⟩
  have em : ((b : Int) + 1) / 2 ^ ((k : Int)).toNat * 2 ^ ((k : Int)).toNat = (((b + 1) / 2 ^ k * 2 ^ k : Nat) : Int) := by
    rw [pow_cast, eu, AN.P_nat, Int.natCast_mul, Int.natCast_ediv]
  dsimp only
  rw [em]
  generalize (b + 1) / 2 ^ k * 2 ^ k = M at c1 c2 c3
  refine ⟨_, rfl, _, rfl, _, _, rfl, rfl, rfl, M - a, congrArg (fun i => [V.int i]) (show (M : Int) - (a : Int) = ((M - a : Nat) : Int) by omega), ?_⟩
  refine ⟨_, rfl, _, _, rfl, rfl, _, rfl, _, _, rfl, rfl, rfl, b + 1 - M, congrArg (fun i => [V.int i]) (show (b : Int) + 1 - (M : Int) = ((b + 1 - M : Nat) : Int) by omega), _, _, rfl, rfl, ?_⟩
  have := q (AN.pc (M - a) + AN.pc (b + 1 - M)) (by
    have e9 : (((b + 1 : Nat) : Int) - 1) = (b : Int) := by omega
    rw [e9] at c3
    exact c3)
  rw [Int.natCast_add] at this
  exact this
end
end AH
/-! W27 -/
set_option Elab.async false
set_option linter.all false
set_option maxRecDepth 100000
set_option maxHeartbeats 4000000
namespace AH
open PySem PySem.Spec PyProof.Rows L2 He
/-! ### words drawn -/
def sgn (c : Nat) : Str := ⟨#[c]⟩
open TL in
theorem joinL_nil : ∀ l : List (List Nat), joinL [] l = l.flatten
  | [] => rfl
  | [p] => by show p = [p].flatten; simp
  | p :: q :: r => by
    show p ++ ([] ++ joinL [] (q :: r)) = _
    rw [joinL_nil (q :: r), List.nil_append, List.flatten_cons, List.flatten_cons, List.flatten_cons]
open TL in
theorem join_signs (cs : List Nat) : (Txt.join ("" : Str) (cs.map sgn)).cps.toList = cs := by
  have e1 : tl (Txt.join ("" : Str) (cs.map sgn)) = cs := by
    rw [join_eq, tl_join, show tl ("" : Str) = [] from rfl, joinL_nil, List.map_map]
    induction cs with
    | nil => rfl
    | cons c cs ih => rw [List.map_cons, List.flatten_cons, ih]; rfl
  exact e1
open TL in
theorem word_of_signs {cs : List Nat} (h1 : 1 ≤ cs.length) (h2 : cs.length ≤ 20) (h3 : ∀ c ∈ cs, 97 ≤ c ∧ c ≤ 122) : WordOk (Txt.join ("" : Str) (cs.map sgn)) := by
  have e := join_signs cs
  have l : (Txt.join ("" : Str) (cs.map sgn)).length = cs.length := by
    rw [len_tl]
    exact congrArg List.length e
  exact ⟨by rw [l]; exact h1, by rw [l]; exact h2, by rw [e]; exact h3⟩
theorem abc_at {d : Int} (h0 : 0 ≤ d) (h1 : d < 26) : ∃ c, atI ("abcdefghijklmnopqrstuvwxyz" : Str).cps.toList d = some c ∧ 97 ≤ c ∧ c ≤ 122 := by
  obtain ⟨n, rfl⟩ := Int.eq_ofNat_of_zero_le h0
  have e : ("abcdefghijklmnopqrstuvwxyz" : Str).cps.toList = (List.range 26).map (97 + ·) := by decide +kernel
  refine ⟨97 + n, ?_, by omega, by omega⟩
  rw [e]
  refine atI_nat ?_
  rw [List.getElem?_map, List.getElem?_range (by omega)]
  rfl
structure WrdsOk (ws : List Str) : Prop where
  so : sortedS ws = true
  nd : ws.Nodup
  ne : ws ≠ []
  len : ws.length ≤ 9
  ok : ∀ z ∈ ws, WordOk z
section
variable {P : Program} {w : World} {K : PySem.W.Frag} {mg : Str → Option Value} {base : Heap}
def sp_words : Sp := fun vs H Q _ => ∃ l : Addr, vs = [.ref l] ∧ WellAt H l ∧ ∀ m H' ws, H m = none → But l H H' → WellAt H' l → WrdsOk ws → H' m = some (.lst (ws.map V.str)) → Q (.ref m) H'
theorem three_at {d : Int} (h0 : 0 ≤ d) (h1 : d < 3) : ∃ m : Int, atI [V.int 1, V.int 3, V.int 20] d = some (.int m) ∧ 1 ≤ m ∧ m ≤ 20 := by
  have : d = 0 ∨ d = 1 ∨ d = 2 := by omega
  rcases this with rfl | rfl | rfl
  · exact ⟨1, rfl, by decide, by decide⟩
  · exact ⟨3, rfl, by decide, by decide⟩
  · exact ⟨20, rfl, by decide, by decide⟩
abbrev N__law_words : List Str := ["_law_well_here", "_law_found", "_law_k", "_law_size_here", "_law_letters", "_law_j", "_law_word"]
theorem sc__law_words : FnScope N__law_words ["_law_well_here"] (defScope s__law_words) := ⟨rfl, rfl, rfl, by decide +kernel, rfl, by decide +kernel, by decide +kernel⟩
theorem c__law_words (T : Cxt K mg) : Cal P w K mg base 2 "_law_words" (Spn 1 sp_words) [] := by
  obtain ⟨fd, F⟩ := T.F__law_words
  refine calN F T.g__law_words sc__law_words rfl (fun _ _ _ _ _ _ us hl => match us, hl with | [_], _ => rfl) (fun cdv A outer s H vs Q E hr h => ?_)
  have nd := sc__law_words.nd
  have hu := hu_of hr
  obtain ⟨l, rfl, wl, q⟩ := h
  refine ⟨_, (pss_cons (ps_set (i := 1) nd rfl (Or.inl rfl) (pe_lst pa_nil)) (pss_cons (ps_for PassesOwn.never rfl (pi_range1 (by rfl) T.z_range (pa_cons (pe_op op_add pe_int (pe_f (c__law_draw T) hr (by decide) rfl (pa_cons (pv 0) (pa_cons pe_int pa_nil)))) pa_nil)) (pg_name (i := 2) nd rfl (Or.inl rfl)) (pss_cons (ps_set (i := 3) nd rfl (Or.inl rfl) (pe_op op_add pe_int (pe_f (c__law_draw T) hr (by decide) rfl (pa_cons (pv 0) (pa_cons (pe_ix ix_list (pe_lst (pa_cons pe_int (pa_cons pe_int (pa_cons pe_int pa_nil)))) (pe_f (c__law_draw T) hr (by decide) rfl (pa_cons (pv 0) (pa_cons pe_int pa_nil))) (fun _ _ => rfl)) pa_nil))))) (pss_cons (ps_setLc (i := 4) (own := [("_law_j", 5)]) (g := gName 5) (tt := tYes) (by rfl) nd rfl rfl (sw_true rfl rfl rfl (by decide +kernel)) (pi_range1 (by rfl) T.z_range (pa_cons (pv 3) pa_nil)) (blkOk_by (own := [("_law_j", 5)]) (N := N__law_words) (sc := defScope s__law_words) (by decide +kernel)) (fun _ _ _ _ _ => (pg_name (i := 5) nd rfl (Or.inl rfl) (.inr rfl))) (fun _ _ _ _ _ => pts_nil) (fun _ _ _ _ _ => (pe_ix ix_str pe_str (pe_f (c__law_draw T) hr (by decide) rfl (pa_cons (pv 0) (pa_cons pe_int pa_nil))) (fun _ _ => rfl)))) (pss_one (ps_expr (pe_bm PySem.F.plainAttrs_list PySem.F.slot_list_append PySem.F.type_list_append mt_append (pv 1) (pa_cons (pe_join pe_str (pv 4)) pa_nil))))))) (pss_one (ps_ret (pe_callB (SetX.cr_sortedKS rfl) (by rfl) T.z_sorted (by decide +kernel) (pa_cons (pe_callTy (SetX.cr_setOfK rfl) (by rfl) T.z_set (by decide +kernel) (pa_cons (pe_lc (own := [("_law_word", 6)]) (g := gName 6) (tt := tYes) rfl nd (pi_list (pv 1)) (blkOk_by (own := [("_law_word", 6)]) (N := N__law_words) (sc := defScope s__law_words) (by decide +kernel)) (fun _ _ _ _ _ => (pg_name (i := 6) nd rfl (Or.inl rfl) (.inr rfl))) (fun _ _ _ _ _ => pts_nil) (fun _ _ _ _ _ => (pe_callTy SkE.call_str_str (by rfl) T.z_str (by decide +kernel) (pa_cons (pv 6) pa_nil)))) pa_nil)) pa_nil)))))), ?_⟩
  refine ⟨by decide, fun f nf => ?_⟩
  have fl := wl.ne nf
  have wl0 : WellAt (upd H f (.lst [])) l := wl.same (Same.new nf)
  refine ⟨_, rfl, rfl, l, 9, rfl, wl0, by decide, by decide, fun n H1 n0 n1 b1 wl1 => ?_⟩
  have bb1 : But l H H1 := (But.of (Same.new nf)).trans b1
  have hf1 : H1 f = some (.lst []) := b1 _ _ upd_same fl
  refine ⟨_, _, rfl, rfl, _, rfl, by omega, by omega, ?_⟩
  refine for_it walk_range (fun i σ' H' => ∃ (a b c d : Option V) (ys : List Str), σ' = [some (.ref l), some (.ref f), a, b, c, d, none] ∧ But l H H' ∧ WellAt H' l ∧ H' f = some (.lst (ys.map V.str)) ∧ ys.length = i ∧ ∀ z ∈ ys, WordOk z)
    ⟨none, none, none, none, [], rfl, bb1, wl1, hf1, rfl, fun y h => (nomatch h)⟩ (fun _ _ _ _ _ => trivial) ?_ ?_
  · rintro i x σ' H2 H3 hi ⟨a, b, c, d', ys, rfl, b2, wl2, hf2, yl, yok⟩ ⟨rfl, rfl⟩
    refine ⟨_, rfl, by show 3 ≤ sizeLine; decide, fun t nt => ?_⟩
    have tl3 := wl2.ne nt
    have wl3 : WellAt (upd H3 t (.lst [.int 1, .int 3, .int 20])) l := wl2.same (Same.new nt)
    refine ⟨_, rfl, rfl, l, 3, rfl, wl3, by decide, by decide, fun d H4 d0 d1 b4 wl4 => ?_⟩
    obtain ⟨m, hm, m0, m1⟩ := three_at d0 d1
    refine ⟨t, _, _, _, rfl, rfl, SqL.of (b4 _ _ upd_same tl3), hm, ?_⟩
    refine ⟨rfl, l, m, rfl, wl4, by omega, by omega, fun sz H5 sz0 sz1 b5 wl5 => ?_⟩
    refine ⟨_, _, rfl, rfl, ?_⟩
    have bb5 : But l H H5 := b2.trans ((But.of (Same.new nt)).trans (b4.trans b5))
    have hf5 : H5 f = some (.lst (ys.map V.str)) := b5 _ _ (b4 _ _ (Same.new nt _ _ hf2) fl) fl
    refine ⟨_, rfl, _, rfl, by omega, by omega, fun D nD => ?_⟩
    have Dl := wl5.ne nD
    refine lc_it walk_range (fun i H' => ∃ cs : List Nat, But l H5 H' ∧ WellAt H' l ∧ H' D = some (.lst (cs.map fun c => V.str (sgn c))) ∧ cs.length = i ∧ ∀ c ∈ cs, 97 ≤ c ∧ c ≤ 122) ⟨[], But.of (Same.new nD), wl5.same (Same.new nD), upd_same, rfl, fun c h => (nomatch h)⟩ (fun _ _ _ _ => trivial) ?_ ?_
    · rintro j y H6 H7 hj ⟨cs, b6, wl6, hD, cl, cok⟩ ⟨rfl, rfl⟩
      refine ⟨rfl, lcY ?_⟩
      refine ⟨_, rfl, rfl, l, 26, rfl, wl6, by decide, by decide, fun e H8 e0 e1 b8 wl8 => ?_⟩
      obtain ⟨c, hc, c0, c1⟩ := abc_at e0 e1
      refine ⟨_, e, c, rfl, rfl, by decide +kernel, hc, _, b8 _ _ hD Dl, ?_, cs ++ [c], ?_, ?_, ?_, by rw [List.length_append, cl]; rfl, ?_⟩
      · rw [List.length_map, cl]
        have : sizeLine = 16777216 := rfl
        omega
      · exact But.put (b6.trans b8) nD
      · obtain ⟨x1, x2, x3, hx⟩ := wl8
        exact ⟨x1, x2, x3, by rw [upd_ne Dl.symm]; exact hx⟩
      · rw [upd_same, List.map_append]
        rfl
      · intro z hz
        rcases List.mem_append.mp hz with h | h
        · exact cok z h
        · rw [List.mem_singleton.mp h]
          exact ⟨c0, c1⟩
    · rintro H6 ⟨cs, b6, wl6, hD, cl, cok⟩
      have hf6 := b6 _ _ hf5 fl
      have l1 : 1 ≤ cs.length := by omega
      have l2 : cs.length ≤ 20 := by omega
      have em : cs.map (fun c => V.str (sgn c)) = (cs.map sgn).map V.str := by rw [List.map_map]; rfl
      rw [em] at hD
      refine ⟨_, rfl, .inl ⟨rfl, _, SqL.of hf6⟩, ?_⟩
      have js : ((cs.map sgn).map (·.length)).sum ≤ 20 := by
        have : ∀ l : List Nat, ((l.map sgn).map (·.length)).sum = l.length := fun l => by
          induction l with
          | nil => rfl
          | cons x l ih => rw [List.map_cons, List.map_cons, List.sum_cons, ih, List.length_cons]; show 1 + l.length = _; omega
        rw [this]
        exact l2
      refine ⟨⟨_, rfl⟩, _, rfl, _, D, cs.map sgn, rfl, rfl, .inl (SqL.of hD), ?_, f, _, _, rfl, rfl, hf6, ?_, ?_⟩
      · rw [show ("" : Str).length = 0 from rfl, Nat.mul_zero, Nat.add_zero]
        exact Nat.le_trans js (by decide)
      · rw [List.length_map, yl]
        have : sizeLine = 16777216 := rfl
        omega
      refine ⟨_, _, _, _, ys ++ [Txt.join ("" : Str) (cs.map sgn)], rfl, But.put (bb5.trans b6) nf, ?_, ?_, by rw [List.length_append, yl]; rfl, ?_⟩
      · obtain ⟨x1, x2, x3, hx⟩ := wl6
        exact ⟨x1, x2, x3, by rw [upd_ne fl.symm]; exact hx⟩
      · rw [upd_same, List.map_append]
        rfl
      · intro z hz
        rcases List.mem_append.mp hz with h | h
        · exact yok z h
        · rw [List.mem_singleton.mp h]
          exact word_of_signs l1 l2 cok
  · rintro σ' H2 ⟨a, b, c, d', ys, rfl, b2, wl2, hf2, yl, yok⟩
    refine ⟨_, rfl, f, rfl, ⟨_, SqL.of hf2⟩, fun D nD => ?_⟩
    refine lc_map (Rb := StrR) StrR.kp walk_list ys (List.length_map ..).symm (by rw [List.length_map]; omega) nD (fun H' s => SqL.of (s _ _ hf2)) ?_ ?_
    · rintro i x y H3 H4 Q' hi hy s3 ⟨rfl, hx⟩ cont
      rw [List.getElem?_map, hy] at hx
      cases hx
      exact ⟨Same.refl _, rfl, _, rfl, _, rfl, cont _ _ (Same.refl _) (Same.refl _) rfl⟩
    · rintro H3 s3 ⟨ws, hws, hwp⟩
      rw [strs_eq hwp] at hws
      refine ⟨D, ys.map Sum.inr, rfl, ?_, ?_, fun m js nm hjs hjl => ?_⟩
      · rw [List.map_map]
        exact SqL.of hws
      · rw [List.length_map]
        have : scanBound = 4096 := rfl
        omega
      refine ⟨m, js, rfl, upd_same, fun k hk => ?_, fun ns m2 hs hnd hmem hnl nm2 => ?_⟩
      · obtain ⟨y, _, e⟩ := List.mem_map.mp ((hjs k).mp hk)
        exact ⟨y, e.symm⟩
      have mem : ∀ x, x ∈ ns ↔ x ∈ ys := fun x => by
        rw [hmem, hjs]
        exact SetX.mem_inr
      have s5 : Same H2 (upd (upd H3 m (SetX.SetLO P w m js)) m2 (.lst (ns.map V.str))) := s3.trans ((Same.new nm).trans (Same.new nm2))
      have b5 := b2.trans (But.of (x := l) s5)
      have m2l : m2 ≠ l := WellAt.ne (wl2.same (s3.trans (Same.new nm))) nm2
      refine q m2 _ ns ?_ b5 (wl2.same s5) ⟨hs, hnd, fun e => ?_, ?_, fun z hz => yok z ((mem z).mp hz)⟩ upd_same
      · exact But.free (b2.trans (But.of (x := l) (s3.trans (Same.new nm)))) wl.some nm2 m2l
      · match ys, yl, mem with
        | [], yl, _ => 
          simp only [List.length_nil] at yl
          omega
        | y :: _, _, mem => exact (List.not_mem_nil (e ▸ (mem y).mpr List.mem_cons_self))
      · rw [hnl]
        rw [List.length_map] at hjl
        omega
end
end AH
/-! W28 -/
set_option Elab.async false
set_option linter.all false
set_option maxRecDepth 100000
set_option maxHeartbeats 4000000
namespace AH
open PySem PySem.Spec PyProof.Rows L2 He
/-! ### rows drawn -/
/-- spans alone say whether rows are a segmentation -/
theorem seg_sp {α : Type} : ∀ {rs ss : List (AN.Row α)} {a b : Int}, rs.map (fun r : AN.Row α => (r.1, r.2.1)) = ss.map (fun r : AN.Row α => (r.1, r.2.1)) → AN.Seg rs a b → AN.Seg ss a b
  | [], [], _, _, _, h => h
  | r :: rs, s :: ss, a, b, e, h => by
    obtain ⟨e1, e2⟩ := List.cons.inj e
    obtain ⟨e3, e4⟩ := Prod.mk.inj e1
    obtain ⟨h1, h2, h3⟩ := h
    refine ⟨by rw [← e3]; exact h1, by rw [← e3, ← e4]; exact h2, ?_⟩
    have := seg_sp e2 h3
    rw [e4] at this
    exact this
theorem seg_at {v : Bool} {ns : List Int} (c : CutOk v ns) {rs : List (AN.Row Str)} (hl : rs.length = ns.length) (h : ∀ (i : Nat) (r : AN.Row Str), rs[i]? = some r → ns[i]? = some r.1 ∧ (endsOf (AN.P (Wd v)) ns)[i]? = some r.2.1) : AN.Seg rs 0 (AN.P (Wd v)) := by
  match ns, c with
  | [], c => exact absurd c.zero List.not_mem_nil
  | b :: t, c =>
    have b0 : b = 0 := by
      have h1 := (c.bd b List.mem_cons_self).1
      rcases List.mem_cons.mp c.zero with e | e
      · exact e.symm
      · have := (List.pairwise_cons.mp c.pw).1 0 e
        omega
    have sg := AN.rowsOf_seg (f := fun _ => (none : Option Str)) c.pw (fun x hx => (c.bd x hx).2)
    rw [b0] at sg
    refine seg_sp ?_ sg
    rw [← b0]
    refine List.ext_getElem? fun i => ?_
    rw [List.getElem?_map, List.getElem?_map]
    by_cases lt : i < (b :: t).length
    · have h1 : (AN.rowsOf (fun _ => (none : Option Str)) (AN.P (Wd v)) (b :: t))[i]? = some _ := List.getElem?_eq_getElem (by rw [rows_len]; exact lt)
      have h2 : rs[i]? = some _ := List.getElem?_eq_getElem (by rw [hl]; exact lt)
      obtain ⟨x, y, g1, g2, g3⟩ := rows_at h1
      obtain ⟨g4, g5⟩ := h i _ h2
      rw [h1, h2, g3]
      rw [g1] at g4
      rw [g2] at g5
      cases g4
      cases g5
      rfl
    · rw [List.getElem?_eq_none (by rw [rows_len]; omega), List.getElem?_eq_none (by rw [hl]; omega)]
theorem row_ex {v : Bool} {ns : List Int} (c : CutOk v ns) {i : Nat} (hi : i < ns.length) : ∃ b e, ns[i]? = some b ∧ (endsOf (AN.P (Wd v)) ns)[i]? = some e ∧ 0 ≤ b ∧ b ≤ e ∧ e < AN.P (Wd v) := by
  match ns, c, hi with
  | b :: t, c, hi =>
    have b0 : 0 ≤ b := (c.bd b List.mem_cons_self).1
    have sg := AN.rowsOf_seg (f := fun _ => (none : Option Str)) c.pw (fun x hx => (c.bd x hx).2)
    have h1 : (AN.rowsOf (fun _ => (none : Option Str)) (AN.P (Wd v)) (b :: t))[i]? = some _ := List.getElem?_eq_getElem (by rw [rows_len]; exact hi)
    obtain ⟨x, y, g1, g2, g3⟩ := rows_at h1
    have hm := AN.Seg.mem sg _ (List.mem_of_getElem? h1)
    rw [g3] at hm
    exact ⟨x, y, g1, g2, Int.le_trans b0 hm.1, hm.2.1, hm.2.2⟩
theorem word_at {ws : List Str} {d : Int} (h0 : 0 ≤ d) (h1 : d < 1 + (ws.length : Int)) : ∃ o : Option Str, atI (V.non :: ws.map V.str) d = some (oV o) ∧ ∀ z, o = some z → z ∈ ws := by
  obtain ⟨n, rfl⟩ := Int.eq_ofNat_of_zero_le h0
  match n with
  | 0 => exact ⟨none, atI_nat (j := 0) (show (V.non :: ws.map V.str)[0]? = some (oV none) from rfl), fun z e => by cases e⟩
  | n + 1 =>
    have hn : n < ws.length := by omega
    refine ⟨some ws[n], atI_nat ?_, fun z e => by cases e; exact List.getElem_mem hn⟩
    show (ws.map V.str)[n]? = _
    rw [List.getElem?_map, List.getElem?_eq_getElem hn]
    rfl
structure RsOk (v : Bool) (ws : List Str) (rs : List (AN.Row Str)) : Prop where
  seg : AN.Seg rs 0 (AN.P (Wd v))
  wd : ∀ r ∈ rs, ∀ z, r.2.2 = some z → z ∈ ws
  len : rs.length ≤ 12
  cnt : (AN.allP (Wd v) rs).length ≤ 40
theorem RowR.but {H H' : Hp} {l : Addr} (wl : WellAt H l) (b : But l H H') {x : V} {r : AN.Row Str} (h : RowR H x r) : RowR H' x r := by
  obtain ⟨t, e, ht⟩ := h
  refine ⟨t, e, b _ _ ht fun z => ?_⟩
  obtain ⟨x1, x2, x3, hx⟩ := wl
  rw [z, hx] at ht
  cases ht
section
variable {P : Program} {w : World} {K : PySem.W.Frag} {mg : Str → Option Value} {base : Heap}
def sp_ranges : Sp := fun vs H Q _ => ∃ (v : Bool) (l a : Addr) (b : Int) (ws : List Str), vs = [.ref l, .int b, .ref a, .int (Wd v : Int)] ∧ WellAt H l ∧ 0 ≤ b ∧ WrdsOk ws ∧ H a = some (.lst (ws.map V.str)) ∧
  ∀ m H' rs, H m = none → But l H H' → WellAt H' l → RsOk v ws rs → LA RowR H' m rs → Q (.ref m) H'
abbrev N__law_ranges : List Str := ["_law_well_here", "_law_base", "_law_words_here", "_law_width", "_law_cuts_here", "_law_ends", "_law_one", "_law_found", "_law_room", "_law_k", "_law_word", "_law_many_of"]
theorem sc__law_ranges : FnScope N__law_ranges ["_law_well_here", "_law_base", "_law_words_here", "_law_width"] (defScope s__law_ranges) := ⟨rfl, rfl, rfl, by decide +kernel, rfl, by decide +kernel, by decide +kernel⟩
theorem c__law_ranges (T : Cxt K mg) : Cal P w K mg base 4 "_law_ranges" (Spn 4 sp_ranges) [] := by
  obtain ⟨fd, F⟩ := T.F__law_ranges
  refine calN F T.g__law_ranges sc__law_ranges rfl (fun _ _ _ _ _ _ us hl => match us, hl with | [_, _, _, _], _ => rfl) (fun cdv A outer s H vs Q E hr h => ?_)
  have nd := sc__law_ranges.nd
  have hu := hu_of hr
  obtain ⟨v, l, a, b, ws, rfl, wl, b0, wok, ha, q⟩ := h
  refine ⟨_, (pss_cons (ps_set (i := 4) nd rfl (Or.inl rfl) (pe_f (c__law_cuts T) hr (by decide) rfl (pa_cons (pv 0) (pa_cons (pv 1) (pa_cons (pv 3) pa_nil))))) (pss_cons (ps_set (i := 5) nd rfl (Or.inl rfl) (pe_op op_cat (pe_lc (own := [("_law_one", 6)]) (g := gName 6) (tt := tYes) rfl nd (pi_list (pe_slice sl_list (pv 4) (po_some pe_int) po_none)) (blkOk_by (own := [("_law_one", 6)]) (N := N__law_ranges) (sc := defScope s__law_ranges) (by decide +kernel)) (fun _ _ _ _ _ => (pg_name (i := 6) nd rfl (Or.inl rfl) (.inr rfl))) (fun _ _ _ _ _ => pts_nil) (fun _ _ _ _ _ => (pe_op op_sub (pv 6) pe_int))) (pe_lst (pa_cons (pe_op op_sub (pe_op op_shlW pe_int (pv 3)) pe_int) pa_nil)))) (pss_cons (ps_set (i := 7) nd rfl (Or.inl rfl) (pe_lst pa_nil)) (pss_cons (ps_set (i := 8) nd rfl (Or.inl rfl) pe_int) (pss_cons (ps_for PassesOwn.never rfl (pi_range1 (by rfl) T.z_range (pa_cons (pe_callB call_len_seq (by rfl) T.z_len (by decide +kernel) (pa_cons (pv 4) pa_nil)) pa_nil)) (pg_name (i := 9) nd rfl (Or.inl rfl)) (pss_cons (ps_set (i := 10) nd rfl (Or.inl rfl) (pe_ix ix_list (pe_op op_cat (pe_lst (pa_cons pe_non pa_nil)) (pv 2)) (pe_f (c__law_draw T) hr (by decide) rfl (pa_cons (pv 0) (pa_cons (pe_op op_add pe_int (pe_callB call_len_seq (by rfl) T.z_len (by decide +kernel) (pa_cons (pv 2) pa_nil))) pa_nil))) (fun _ _ => rfl))) (pss_cons (ps_set (i := 11) nd rfl (Or.inl rfl) (pe_f (c__law_pieces T) hr (by decide) rfl (pa_cons (pe_ix ix_list (pv 4) (pv 9) (fun _ _ => rfl)) (pa_cons (pe_ix ix_list (pv 5) (pv 9) (fun _ _ => rfl)) pa_nil)))) (pss_cons (ps_if (pt_cmpR op_gt (pv 11) (pv 8) (nomark _)) (pss_one (ps_set (i := 10) nd rfl (Or.inl rfl) pe_non)) pss_nil) (pss_cons (ps_if (pt_cmpR op_notN (pv 10) pe_non (nomark _)) (pss_one (ps_set (i := 8) nd rfl (Or.inl rfl) (pe_op op_sub (pv 8) (pv 11)))) pss_nil) (pss_one (ps_expr (pe_bm PySem.F.plainAttrs_list PySem.F.slot_list_append PySem.F.type_list_append mt_append (pv 7) (pa_cons (pe_tup (pa_cons (pe_ix ix_list (pv 4) (pv 9) (fun _ _ => rfl)) (pa_cons (pe_ix ix_list (pv 5) (pv 9) (fun _ _ => rfl)) (pa_cons (pv 10) pa_nil)))) pa_nil))))))))) (pss_one (ps_ret (pv 7)))))))), ?_⟩
  have al : a ≠ l := fun e => by
    obtain ⟨x1, x2, x3, hx⟩ := wl
    rw [e, hx] at ha
    match ws, wok.ne, ha with
    | [], n, _ => exact n rfl
    | _ :: _, _, ha => cases ha
  have wd := Wd_le v
  have csW : CShl (1 : Int) (Wd v : Int) := shl_ok (n := 1) (by decide) (by omega)
  have e1 : (1 : Int) * 2 ^ ((Wd v : Int)).toNat - 1 = AN.P (Wd v) - 1 := by rw [pow_cast, Int.one_mul]
  refine ⟨_, rfl, _, rfl, _, rfl, rfl, v, l, b, rfl, wl, b0, fun c H1 ns nc b1 wl1 ck hc => ?_⟩
  have cl : c ≠ l := fun e => by
    rw [e] at nc
    exact wl.some nc
  have nsl := ck.len
  have ha1 := b1 _ _ ha al
  refine ⟨_, rfl, _, rfl, c, _, rfl, SqL.of hc, fun c2 nc2 => ?_⟩
  have sc : Same H1 _ := Same.new (o := .lst (cutV (ns.map V.int) (some 1) none)) nc2
  have ec : cutV (ns.map V.int) (some 1) none = (ns.drop 1).map V.int := by rw [cut_one, List.map_drop]
  refine ⟨c2, rfl, ⟨_, SqL.of upd_same⟩, fun D nD => ?_⟩
  refine lc_map (Rb := IntR) IntR.kp walk_list ((ns.drop 1).map (· - 1)) (by rw [ec, List.length_map, List.length_map]) (by rw [ec, List.length_map, List.length_drop]; omega) nD (fun H' s => SqL.of (s _ _ upd_same)) ?_ ?_
  · rintro i x y H2 H3 Q' hi hb s2 ⟨rfl, hx⟩ cont
    rw [ec, List.getElem?_map] at hx
    obtain ⟨m, hm, rfl⟩ := Option.map_eq_some_iff.mp hx
    rw [List.getElem?_map, hm] at hb
    cases hb
    exact ⟨Same.refl _, rfl, _, rfl, _, _, rfl, rfl, cont _ _ (Same.refl _) (Same.refl _) rfl⟩
  rintro H2 s2 ⟨zs, hzs, hzp⟩
  rw [ints_eq hzp] at hzs
  have s12 : Same H1 H2 := sc.trans s2
  refine ⟨_, rfl, _, _, rfl, rfl, csW, _, _, rfl, rfl, by show 1 ≤ sizeLine; decide, fun m nm => ?_⟩
  dsimp only
  rw [e1]
  have hzs2 := Same.new (o := .lst [.int (AN.P (Wd v) - 1)]) nm _ _ hzs
  refine ⟨D, m, _, _, rfl, rfl, hzs2, upd_same, ?_, fun en nen => ?_⟩
  · rw [List.length_map, List.length_map, List.length_drop]
    have : sizeLine = 16777216 := rfl
    show _ + 1 ≤ _
    omega
  have sm := s12.trans ((Same.new (o := .lst [.int (AN.P (Wd v) - 1)]) nm).trans (Same.new (o := .lst ((((ns.drop 1).map (· - 1)).map V.int) ++ [.int (AN.P (Wd v) - 1)])) nen))
  generalize hG : upd (upd H2 m _) en _ = G at sm ⊢
  have gen : G en = some (.lst ((endsOf (AN.P (Wd v)) ns).map V.int)) := by
    rw [← hG, upd_same]
    unfold endsOf
    rw [List.map_append]
    rfl
  have gc := sm _ _ hc
  have ga := sm _ _ ha1
  have enl : en ≠ l := ((wl1.same s12).same (Same.new (o := .lst [.int (AN.P (Wd v) - 1)]) nm)).ne nen
  have nsne : ns ≠ [] := fun e => by have := ck.zero; rw [e] at this; cases this
  have bG : But l H G := b1.trans (But.of sm)
  have wlG := wl1.same sm
  refine ⟨by show 0 ≤ sizeLine; decide, fun f nf => ?_⟩
  have fl := wlG.ne nf
  have sf : Same G (upd G f (.lst [])) := Same.new nf
  refine ⟨_, rfl, c, _, rfl, .inl (SqL.of (sf _ _ gc)), ?_⟩
  rw [List.length_map]
  refine ⟨_, rfl, by omega, by omega, ?_⟩
  rw [Int.toNat_natCast]
  have cnt0 : (AN.allP (Wd v) ([] : List (AN.Row Str))).length + 40 ≤ 40 := Nat.le_refl _
  refine for_it walk_range (fun i σ' H' => ∃ (x6 x9 x10 x11 : Option V) (rs : List (AN.Row Str)) (room : Nat), σ' = [some (.ref l), some (.int b), some (.ref a), some (.int (Wd v : Int)), some (.ref c), some (.ref en), x6, some (.ref f), some (.int (room : Int)), x9, x10, x11] ∧ But l G H' ∧ WellAt H' l ∧ LA RowR H' f rs ∧ rs.length = i ∧ (∀ (j : Nat) (r : AN.Row Str), rs[j]? = some r → ns[j]? = some r.1 ∧ (endsOf (AN.P (Wd v)) ns)[j]? = some r.2.1 ∧ ∀ z, r.2.2 = some z → z ∈ ws) ∧ (AN.allP (Wd v) rs).length + room ≤ 40)
    ⟨_, none, none, none, [], 40, rfl, But.of sf, wlG.same sf, ⟨[], upd_same, .nil⟩, rfl, fun j r h => (nomatch h), cnt0⟩ (fun _ _ _ _ _ => trivial) ?_ ?_
  · rintro i x σ' H3 H4 hi ⟨x6, x9, x10, x11, rs, room, rfl, b3, wl3, la3, rl, rok, rc⟩ ⟨rfl, rfl⟩
    have gc3 := b3 _ _ gc cl
    have ge3 := b3 _ _ gen enl
    have ga3 := b3 _ _ ga al
    obtain ⟨vs, hvs, hvp⟩ := la3
    refine ⟨by show 1 ≤ sizeLine; decide, fun t nt => ?_⟩
    have tl := wl3.ne nt
    have st : Same H4 (upd H4 t (.lst [V.non])) := Same.new nt
    refine ⟨_, rfl, t, a, _, _, rfl, rfl, upd_same, st _ _ ga3, ?_, fun t2 nt2 => ?_⟩
    · have := wok.len
      rw [List.length_map]
      show 1 + _ ≤ _
      have : sizeLine = 16777216 := rfl
      omega
    have st2 : Same H4 (upd (upd H4 t (.lst [V.non])) t2 (.lst ([V.non] ++ ws.map V.str))) := st.trans (Same.new nt2)
    have t2l := (wl3.same st).ne nt2
    refine ⟨_, rfl, _, rfl, a, _, rfl, .inl (SqL.of (st2 _ _ ga3)), _, _, rfl, rfl, ?_⟩
    rw [List.length_map]
    have wsl := wok.len
    refine ⟨rfl, l, _, rfl, wl3.same st2, by omega, by omega, fun d H5 d0 d1 b5 wl5 => ?_⟩
    obtain ⟨o, ho, how⟩ := word_at d0 d1
    refine ⟨t2, _, _, _, rfl, rfl, SqL.of (b5 _ _ upd_same t2l), ho, ?_⟩
    have b35 : But l H4 H5 := (But.of st2).trans b5
    have bb5 := b3.trans b35
    have gc5 := b35 _ _ gc3 cl
    have ge5 := b35 _ _ ge3 enl
    have hvs5 := b35 _ _ hvs fl
    have hvp5 : Paired (RowR H5) vs rs := Paired.mapP hvp fun a b r => RowR.but wl3 b35 r
    obtain ⟨lo, hi', g1, g2, g3, g4, g5⟩ := row_ex ck hi
    have g1' : atI (ns.map V.int) (0 + (i : Int)) = some (.int lo) := by rw [Int.zero_add]; exact atI_nat (by rw [List.getElem?_map, g1]; rfl)
    have g2' : atI ((endsOf (AN.P (Wd v)) ns).map V.int) (0 + (i : Int)) = some (.int hi') := by rw [Int.zero_add]; exact atI_nat (by rw [List.getElem?_map, g2]; rfl)
    refine ⟨_, rfl, _, rfl, c, _, _, _, rfl, rfl, SqL.of gc5, g1', _, rfl, _, rfl, en, _, _, _, rfl, rfl, SqL.of ge5, g2', rfl, v, lo, hi', rfl, g3, g4, g5, fun many hm => ?_⟩
    have fin : ∀ (w' : Option Str) (room' : Nat) (t3 : Addr), (∀ z, w' = some z → z ∈ ws) → (AN.rowP (Wd v) (lo, hi', w')).length + room' ≤ room → H5 t3 = none →
        But l G (upd (upd H5 t3 (.tup [.int lo, .int hi', oV w'])) f (.lst (vs ++ [.ref t3]))) ∧ WellAt (upd (upd H5 t3 (.tup [.int lo, .int hi', oV w'])) f (.lst (vs ++ [.ref t3]))) l ∧
        LA RowR (upd (upd H5 t3 (.tup [.int lo, .int hi', oV w'])) f (.lst (vs ++ [.ref t3]))) f (rs ++ [(lo, hi', w')]) ∧ (rs ++ [(lo, hi', w')]).length = i + 1 ∧
        (∀ (j : Nat) (r : AN.Row Str), (rs ++ [(lo, hi', w')])[j]? = some r → ns[j]? = some r.1 ∧ (endsOf (AN.P (Wd v)) ns)[j]? = some r.2.1 ∧ ∀ z, r.2.2 = some z → z ∈ ws) ∧ (AN.allP (Wd v) (rs ++ [(lo, hi', w')])).length + room' ≤ 40 := by
      intro w' room' t3 hw hr nt3
      have s3 : Same H5 (upd H5 t3 (.tup [.int lo, .int hi', oV w'])) := Same.new nt3
      refine ⟨But.put (bb5.trans (But.of s3)) nf, ?_, ?_, by rw [List.length_append, rl]; rfl, fun j r hj => ?_, ?_⟩
      · obtain ⟨x1, x2, x3, hx⟩ := wl5.same s3
        exact ⟨x1, x2, x3, by rw [upd_ne fl.symm]; exact hx⟩
      · exact LA.put TupR.kp (s3 _ _ hvs5) (Paired.app (Paired.kp TupR.kp (.of s3) hvp5) (.cons ⟨t3, rfl, upd_same⟩ .nil))
      · rcases Nat.lt_or_ge j rs.length with c | c
        · rw [List.getElem?_append_left c] at hj
          exact rok j r hj
        · have ej : j = i := by
            have := (List.getElem?_eq_some_iff.mp hj).1
            rw [List.length_append, rl] at this
            rw [rl] at c
            have e1 : [(lo, hi', w')].length = 1 := rfl
            omega
          rw [ej, ← rl, List.getElem?_concat_length] at hj
          cases hj
          rw [ej]
          exact ⟨g1, g2, hw⟩
      · have e : AN.allP (Wd v) (rs ++ [(lo, hi', w')]) = AN.allP (Wd v) rs ++ AN.rowP (Wd v) (lo, hi', w') := by
          unfold AN.allP
          rw [List.flatMap_append, List.flatMap_cons, List.flatMap_nil, List.append_nil]
        rw [e, List.length_append]
        omega
    have l5 : vs.length < sizeLine := by
      rw [Paired.len hvp, rl]
      have : sizeLine = 16777216 := rfl
      omega
    refine ⟨_, rfl, _, rfl, _, _, rfl, rfl, _, rfl, ?_⟩
    refine ite2 (fun c1 => ?_) (fun c1 => ?_)
    · refine ⟨_, rfl, rfl, _, rfl, ?_⟩
      refine iteF ?_
      refine ⟨_, rfl, .inl ⟨rfl, _, SqL.of hvs5⟩, _, rfl, _, rfl, c, _, _, _, rfl, rfl, SqL.of gc5, g1', _, rfl, _, rfl, en, _, _, _, rfl, rfl, SqL.of ge5, g2', _, rfl, by show 3 ≤ sizeLine; decide, fun t3 nt3 => ?_⟩
      refine ⟨f, _, _, rfl, rfl, Same.new nt3 _ _ hvs5, l5, ?_⟩
      exact ⟨x6, some (.int (0 + (i : Int))), some (oV none), some (.int (many : Int)), _, room, rfl, fin none room t3 (fun z e => by cases e) (by show 0 + room ≤ room; omega) nt3⟩
    · have c1 : many ≤ room := by
        have := of_decide_eq_false (Bool.eq_false_iff.mpr c1)
        omega
      refine ⟨_, rfl, rfl, _, rfl, ?_⟩
      cases o with
      | none =>
        refine iteF ?_
        refine ⟨_, rfl, .inl ⟨rfl, _, SqL.of hvs5⟩, _, rfl, _, rfl, c, _, _, _, rfl, rfl, SqL.of gc5, g1', _, rfl, _, rfl, en, _, _, _, rfl, rfl, SqL.of ge5, g2', _, rfl, by show 3 ≤ sizeLine; decide, fun t3 nt3 => ?_⟩
        refine ⟨f, _, _, rfl, rfl, Same.new nt3 _ _ hvs5, l5, ?_⟩
        exact ⟨x6, some (.int (0 + (i : Int))), some (oV none), some (.int (many : Int)), _, room, rfl, fin none room t3 (fun z e => by cases e) (by show 0 + room ≤ room; omega) nt3⟩
      | some z =>
        refine iteT ?_
        refine ⟨_, rfl, _, rfl, _, _, rfl, rfl, ?_⟩
        refine ⟨_, rfl, .inl ⟨rfl, _, SqL.of hvs5⟩, _, rfl, _, rfl, c, _, _, _, rfl, rfl, SqL.of gc5, g1', _, rfl, _, rfl, en, _, _, _, rfl, rfl, SqL.of ge5, g2', _, rfl, by show 3 ≤ sizeLine; decide, fun t3 nt3 => ?_⟩
        refine ⟨f, _, _, rfl, rfl, Same.new nt3 _ _ hvs5, l5, ?_⟩
        have er : (room : Int) - (many : Int) = ((room - many : Nat) : Int) := by omega
        refine ⟨x6, some (.int (0 + (i : Int))), some (oV (some z)), some (.int (many : Int)), _, room - many, ?_, fin (some z) (room - many) t3 how ?_ nt3⟩
        · rw [← er]
          rfl
        · have : (AN.rowP (Wd v) (lo, hi', some z)).length = (AN.pcs (Wd v) lo hi').length := List.length_map ..
          omega
  · rintro σ' H3 ⟨x6, x9, x10, x11, rs, room, rfl, b3, wl3, la3, rl, rok, rc⟩
    refine ⟨_, rfl, q f H3 rs ?_ (bG.trans b3) wl3 ⟨seg_at ck rl fun i r h => ⟨(rok i r h).1, (rok i r h).2.1⟩, fun r hr z hz => ?_, by omega, by omega⟩ la3⟩
    · exact But.free bG wl.some nf fl
    · obtain ⟨i, hi⟩ := List.mem_iff_getElem?.mp hr
      exact (rok i r hi).2.2 z hz
end
end AH
/-! W29 -/
set_option Elab.async false
set_option linter.all false
set_option maxRecDepth 100000
set_option maxHeartbeats 4000000
namespace AH
open PySem PySem.Spec PyProof.Rows L2 He
/-! ### rows summed, joined, sized -/
def inW (zs : List Str) (o : Option Str) : Bool := match o with
  | none => false
  | some z => decide (z ∈ zs)
theorem inV_o (zs : List Str) : ∀ o : Option Str, inV (oV o) (zs.map V.str) = inW zs o
  | some z => inV_strs z zs
  | none => by
    induction zs with
    | nil => rfl
    | cons y l ih =>
      have e : inV (oV none) ((y :: l).map V.str) = (false || inV (oV none) (l.map V.str)) := rfl
      rw [e, ih]
      rfl
theorem flat_o : ∀ o : Option Str, flatV (oV o) = true
  | none => rfl
  | some _ => rfl
theorem sel_take {p : Option Str → Bool} {rs : List (AN.Row Str)} {i : Nat} {r : AN.Row Str} (h : rs[i]? = some r) :
    AN.sel p (rs.take (i + 1)) = AN.sel p (rs.take i) ++ (if p r.2.2 = true then [(r.1, r.2.1)] else []) := by
  unfold AN.sel
  rw [List.take_add_one, h, List.filter_append, List.map_append]
  congr 1
  show List.map _ (List.filter _ [r]) = _
  rw [List.filter_cons]
  by_cases c : p r.2.2 = true
  · rw [if_pos c, if_pos c]
    rfl
  · rw [if_neg c, if_neg c]
    rfl
section
variable {P : Program} {w : World} {K : PySem.W.Frag} {mg : Str → Option Value} {base : Heap}
def sp_summed (K : PySem.W.Frag) : Sp := fun vs H Q _ => ∃ (v : Bool) (t : Addr) (lo hi : Int) (x : V), vs = [.ref t, .int (Wd v : Int)] ∧ H t = some (.tup [.int lo, .int hi, x]) ∧ 0 ≤ lo ∧ lo ≤ hi ∧ hi < AN.P (Wd v) ∧
  ∀ l H', H l = none → Same H H' → LA (NetR K v) H' l (AN.pcs (Wd v) lo hi) → Q (.ref l) H'
abbrev N__law_summed : List Str := ["_law_row", "_law_width"]
theorem sc__law_summed : FnScope N__law_summed ["_law_row", "_law_width"] (defScope s__law_summed) := ⟨rfl, rfl, rfl, by decide +kernel, rfl, by decide +kernel, by decide +kernel⟩
theorem c__law_summed (T : Cxt K mg) : Cal P w K mg base 11 "_law_summed" (Spn 2 (sp_summed K)) [] := by
  obtain ⟨fd, F⟩ := T.F__law_summed
  refine calN F T.g__law_summed sc__law_summed rfl (fun _ _ _ _ _ _ us hl => match us, hl with | [_, _], _ => rfl) (fun cdv A outer s H vs Q E hr h => ?_)
  have nd := sc__law_summed.nd
  have hu := hu_of hr
  obtain ⟨v, t, lo, hi, x, rfl, ht, h0, h1, h2, q⟩ := h
  refine ⟨_, (pss_one (ps_ret (pe_f (c_summarize T) hr (by decide) rfl (pa_cons (pe_f (c__law_address T) hr (by decide) rfl (pa_cons (pe_ix ix_tup (pv 0) pe_int (fun _ _ => rfl)) (pa_cons (pv 1) pa_nil))) (pa_cons (pe_f (c__law_address T) hr (by decide) rfl (pa_cons (pe_ix ix_tup (pv 0) pe_int (fun _ _ => rfl)) (pa_cons (pv 1) pa_nil))) pa_nil))))), ?_⟩
  refine ⟨_, rfl, t, _, _, _, rfl, rfl, SqT.of ht, rfl, _, rfl, rfl, v, lo, rfl, h0, by omega, fun a H1 na s1 ad => ?_⟩
  refine ⟨_, rfl, t, _, _, _, rfl, rfl, SqT.of (s1 _ _ ht), rfl, _, rfl, rfl, v, hi, rfl, by omega, h2, fun b H2 nb s2 bd => ?_⟩
  exact ⟨rfl, v, a, b, lo, hi, rfl, ad.mono s2, bd, h0, h1, h2, fun l H3 nl s3 la => q l H3 (Same.free (s1.trans s2) nl) (s1.trans (s2.trans s3)) la⟩
def sp_joined : Sp := fun vs H Q _ => ∃ (l a : Addr) (rs : List (AN.Row Str)) (zs : List Str), vs = [.ref l, .ref a] ∧ LA RowR H l rs ∧ rs.length ≤ 4096 ∧ H a = some (.lst (zs.map V.str)) ∧
  ∀ t H' us, H t = none → Same H H' → H' t = some (.tup us) → Paired (RgR H') us (AN.jn (AN.sel (inW zs) rs)) → Q (.ref t) H'
abbrev N__law_joined : List Str := ["_law_ranges_here", "_law_words_here", "_law_found", "_law_low", "_law_high", "_law_word"]
theorem sc__law_joined : FnScope N__law_joined ["_law_ranges_here", "_law_words_here"] (defScope s__law_joined) := ⟨rfl, rfl, rfl, by decide +kernel, rfl, by decide +kernel, by decide +kernel⟩
theorem c__law_joined (T : Cxt K mg) : Cal P w K mg base 1 "_law_joined" (Spn 2 sp_joined) [] := by
  obtain ⟨fd, F⟩ := T.F__law_joined
  refine calN F T.g__law_joined sc__law_joined rfl (fun _ _ _ _ _ _ us hl => match us, hl with | [_, _], _ => rfl) (fun cdv A outer s H vs Q E hr h => ?_)
  have nd := sc__law_joined.nd
  have hu := hu_of hr
  obtain ⟨l, a, rs, zs, rfl, ⟨us, hl, hp⟩, hlen, ha, q⟩ := h
  refine ⟨_, (pss_cons (ps_set (i := 2) nd rfl (Or.inl rfl) (pe_lst pa_nil)) (pss_cons (ps_for PassesOwn.never rfl (pi_list (pv 0)) (pg_tup rfl (pgs_cons (pg_name (i := 3) nd rfl (Or.inl rfl)) (pgs_cons (pg_name (i := 4) nd rfl (Or.inl rfl)) (pgs_cons (pg_name (i := 5) nd rfl (Or.inl rfl)) pgs_nil)))) (pss_one (ps_if (pt_cmpR op_in_seq (pv 5) (pv 1) rfl) (pss_one (ps_if (PW.pt (pw_and (pt_cmpR (op_neNil (Nat.lt_of_succ_lt hu)) (pv 2) (pe_lst pa_nil) (nomark _)) (pw_and1 (pt_cmpR op_eq (pe_op op_add (pe_ix ix_tup (pe_ix ix_list (pv 2) (pe_un un_neg pe_int) (fun _ _ => rfl)) pe_int (fun _ _ => rfl)) pe_int) (pv 3) (nomark _))))) (pss_one (ps_asg (pe_tup (pa_cons (pe_ix ix_tup (pe_ix ix_list (pv 2) (pe_un un_neg pe_int) (fun _ _ => rfl)) pe_int (fun _ _ => rfl)) (pa_cons (pv 4) pa_nil))) (pg_sub (pv 2) (pe_un un_neg pe_int) set_list))) (pss_one (ps_expr (pe_bm PySem.F.plainAttrs_list PySem.F.slot_list_append PySem.F.type_list_append mt_append (pv 2) (pa_cons (pe_tup (pa_cons (pv 3) (pa_cons (pv 4) pa_nil))) pa_nil)))))) pss_nil))) (pss_one (ps_ret (pe_callTy call_tuple_of (by rfl) T.z_tuple (by decide +kernel) (pa_cons (pv 2) pa_nil)))))), ?_⟩
  refine ⟨by decide, fun f hf => ?_⟩
  have s0 : Same H (upd H f (.lst [])) := Same.new hf
  refine ⟨_, rfl, l, rfl, ⟨_, SqL.of (s0 _ _ hl)⟩, ?_⟩
  refine for_list (fun i σ' H' => ∃ x y z : Option V, σ' = [some (.ref l), some (.ref a), some (.ref f), x, y, z] ∧ Same H H' ∧ LA RgR H' f (AN.jn (AN.sel (inW zs) (rs.take i))))
    ⟨none, none, none, rfl, s0, [], upd_same, .nil⟩ (fun i σ' H' _ ⟨_, _, _, _, h, _⟩ => SqL.of (h _ _ hl)) ?_ ?_
  · rintro i x σ' H1 hx ⟨x1, x2, x3, rfl, s1, vs, hv, hvp⟩
    obtain ⟨r, hr, t, rfl, ht⟩ := Paired.at hp hx
    have ht1 := s1 _ _ ht
    have es := sel_take (p := inW zs) hr
    have jl : (AN.jn (AN.sel (inW zs) (rs.take i))).length ≤ 4096 := by
      have h1 := AN.jn_len (AN.sel (inW zs) (rs.take i))
      have h2 := sel_len (inW zs) (rs.take i)
      rw [List.length_take] at h2
      omega
    refine ⟨t, _, rfl, SqT.of ht1, rfl, _, _, rfl, _, _, rfl, _, _, rfl, rfl, ?_⟩
    refine ⟨_, rfl, _, rfl, a, _, rfl, .inl (SqL.of (s1 _ _ ha)), flat_o _, flat_strs _, ?_⟩
    show ∃ k, V.bl (inV (oV r.2.2) (zs.map V.str)) = .bl k ∧ _
    rw [inV_o]
    refine ⟨_, rfl, ?_⟩
    refine ite2 (fun c => ?_) (fun c => ?_)
    · rw [if_pos c] at es
      have ej : AN.jn (AN.sel (inW zs) (rs.take (i + 1))) = AN.jstep (AN.jn (AN.sel (inW zs) (rs.take i))) (r.1, r.2.1) := by rw [es, AN.jn_app]
      generalize AN.jn (AN.sel (inW zs) (rs.take i)) = J at hvp jl ej
      refine ⟨_, rfl, (by decide), fun e0 he0 => ⟨f, e0, vs, rfl, rfl, SqL.of (Same.new he0 _ _ hv), SqL.of upd_same, _, rfl, ?_⟩⟩
      generalize hG : upd H1 e0 (.lst []) = G
      have sG : Same H1 G := by rw [← hG]; exact Same.new he0
      have hvG := sG _ _ hv
      have hvpG : Paired (RgR G) vs J := Paired.kp TupR.kp (.of sG) hvp
      have add : (AN.jn (AN.sel (inW zs) (rs.take (i + 1))) = J ++ [(r.1, r.2.1)]) → ∀ pt, G pt = none → ∃ l' xs' y', V.ref f = .ref l' ∧ [V.ref pt] = [y'] ∧ (upd G pt (.tup [.int r.1, .int r.2.1])) l' = some (.lst xs') ∧ xs'.length < sizeLine ∧
          ∃ x y z : Option V, [some (V.ref l), some (V.ref a), some (V.ref f), some (V.int r.1), some (V.int r.2.1), some (oV r.2.2)] = [some (.ref l), some (.ref a), some (.ref f), x, y, z] ∧ Same H (upd (upd G pt (.tup [.int r.1, .int r.2.1])) l' (.lst (xs' ++ [y']))) ∧ LA RgR (upd (upd G pt (.tup [.int r.1, .int r.2.1])) l' (.lst (xs' ++ [y']))) f (AN.jn (AN.sel (inW zs) (rs.take (i + 1)))) := by
        intro ej2 pt npt
        have s2 : Same G (upd G pt (.tup [.int r.1, .int r.2.1])) := Same.new npt
        refine ⟨f, vs, _, rfl, rfl, s2 _ _ hvG, ?_, _, _, _, rfl, Same.put hf (s1.trans (sG.trans s2)), ?_⟩
        · rw [Paired.len hvpG]
          exact Nat.lt_of_le_of_lt jl (by decide)
        · rw [ej2]
          exact LA.put TupR.kp (s2 _ _ hvG) (Paired.app (Paired.kp TupR.kp (.of s2) hvpG) (.cons ⟨pt, rfl, upd_same⟩ .nil))
      rcases List.eq_nil_or_concat J with en | ⟨jl0, jt, en⟩
      · rw [en] at hvpG ej
        cases hvpG
        refine iteF (iteF ?_)
        refine ⟨_, rfl, .inl ⟨rfl, _, SqL.of hvG⟩, ?_⟩
        refine ⟨_, rfl, _, rfl, (by show 2 ≤ sizeLine; decide), fun pt npt => ?_⟩
        exact add (by rw [ej, en]; rfl) pt npt
      · rw [List.concat_eq_append] at en
        have hne : vs ≠ [] := by
          intro z
          subst z
          have := Paired.len hvp
          rw [en] at this
          simp at this
        have eb : (!vs.isEmpty) = true := by
          cases vs with
          | nil => exact (hne rfl).elim
          | cons _ _ => rfl
        rw [eb]
        refine iteT ?_
        have hlast : J.getLast? = some jt := by rw [en, List.getLast?_concat]
        obtain ⟨vt, hvt, tt, rfl, htt⟩ : ∃ vt, vs.getLast? = some vt ∧ RgR G vt jt := by
          have e2 : J[J.length - 1]? = some jt := by rw [← List.getLast?_eq_getElem?]; exact hlast
          obtain ⟨vt, h1, h2⟩ := Paired.at' hvpG e2
          rw [← Paired.len hvpG, ← List.getLast?_eq_getElem?] at h1
          exact ⟨vt, h1, h2⟩
        have L1 : atI vs (-1) = some (.ref tt) := atI_neg hvt
        have A1 : atI [V.int jt.1, V.int jt.2] 1 = some (.int jt.2) := rfl
        have A0 : atI [V.int jt.1, V.int jt.2] 0 = some (.int jt.1) := rfl
        refine ⟨_, rfl, _, rfl, f, vs, _, _, rfl, rfl, SqL.of hvG, L1, tt, _, _, _, rfl, rfl, SqT.of htt, A1, _, _, rfl, rfl, _, rfl, rfl, _, rfl, ?_⟩
        rw [dec_int_eq]
        refine ite2 (fun c => ?_) (fun c => ?_)
        · have e1 : jt.2 + 1 = r.1 := of_decide_eq_true c
          refine ⟨_, rfl, _, rfl, f, vs, _, _, rfl, rfl, SqL.of hvG, L1, tt, _, _, _, rfl, rfl, SqT.of htt, A0, ?_⟩
          refine ⟨_, rfl, (by show 2 ≤ sizeLine; decide), fun pt npt => ?_⟩
          have s2 : Same G (upd G pt (.tup [.int jt.1, .int r.2.1])) := Same.new npt
          have hl0 : 0 < vs.length := by
            cases vs with
            | nil => exact (hne rfl).elim
            | cons _ _ => exact Nat.zero_lt_succ _
          refine ⟨_, rfl, _, rfl, f, vs, _, _, rfl, rfl, s2 _ _ hvG, ixN_last hl0, _, _, _, rfl, Same.put hf (s1.trans (sG.trans s2)), ?_⟩
          have ej2 : AN.jn (AN.sel (inW zs) (rs.take (i + 1))) = J.set (vs.length - 1) (jt.1, r.2.1) := by
            rw [ej, en, AN.jstep_app, if_pos e1, Paired.len hvpG, en, set_last]
          rw [ej2]
          exact LA.put TupR.kp (s2 _ _ hvG) (Paired.set (F := RgR (upd G pt (.tup [.int jt.1, .int r.2.1]))) ⟨pt, rfl, upd_same⟩ _ (Paired.kp TupR.kp (.of s2) hvpG))
        · have c : ¬ jt.2 + 1 = r.1 := of_decide_eq_false (Bool.eq_false_iff.mpr c)
          refine ⟨_, rfl, .inl ⟨rfl, _, SqL.of hvG⟩, ?_⟩
          refine ⟨_, rfl, _, rfl, (by show 2 ≤ sizeLine; decide), fun pt npt => ?_⟩
          exact add (by rw [ej, en, AN.jstep_app, if_neg c]) pt npt
    · rw [if_neg c, List.append_nil] at es
      exact ⟨_, _, _, rfl, s1, by rw [es]; exact ⟨vs, hv, hvp⟩⟩
  · rintro σ' H1 ⟨x1, x2, x3, rfl, s1, vs, hv, hvp⟩
    rw [Paired.len hp, List.take_length] at hvp
    refine ⟨_, rfl, f, vs, rfl, .inl ⟨SqL.of hv, fun t nt => ?_⟩⟩
    exact q t _ vs (Same.free s1 nt) (s1.trans (Same.new nt)) upd_same (Paired.kp TupR.kp (.of (Same.new nt)) hvp)
def sp_size : Sp := fun vs H Q _ => ∃ (t : Addr) (us : List V) (l : List (Int × Int)), vs = [.ref t] ∧ H t = some (.tup us) ∧ Paired (RgR H) us l ∧ l.length ≤ 4096 ∧ ∀ H', Same H H' → Q (.int (AN.tot l)) H'
abbrev N__law_size : List Str := ["_law_runs", "_law_low", "_law_high"]
theorem sc__law_size : FnScope N__law_size ["_law_runs"] (defScope s__law_size) := ⟨rfl, rfl, rfl, by decide +kernel, rfl, by decide +kernel, by decide +kernel⟩
theorem c__law_size (T : Cxt K mg) : Cal P w K mg base 1 "_law_size" (Spn 1 sp_size) [] := by
  obtain ⟨fd, F⟩ := T.F__law_size
  refine calN F T.g__law_size sc__law_size rfl (fun _ _ _ _ _ _ us hl => match us, hl with | [_], _ => rfl) (fun cdv A outer s H vs Q E hr h => ?_)
  have nd := sc__law_size.nd
  have hu := hu_of hr
  obtain ⟨t, us, l, rfl, ht, hp, hlen, q⟩ := h
  refine ⟨_, (pss_one (ps_ret (pe_callB (cr_sum rfl) (by rfl) T.z_sum (by decide +kernel) (pa_cons (pe_lc (own := [("_law_low", 1), ("_law_high", 2)]) (g := gTup K 2 (gCons (gName 1) (gCons (gName 2) gNil))) (tt := tYes) rfl nd (pi_tup (pv 0)) (blkOk_by (own := [("_law_low", 1), ("_law_high", 2)]) (N := N__law_size) (sc := defScope s__law_size) (by decide +kernel)) (fun _ _ _ _ _ => (pg_tup rfl (pgs_cons (pg_name (i := 1) nd rfl (Or.inl rfl) (.inr rfl)) (pgs_cons (pg_name (i := 2) nd rfl (Or.inl rfl) (.inr rfl)) pgs_nil)))) (fun _ _ _ _ _ => pts_nil) (fun _ _ _ _ _ => (pe_op op_add (pe_op op_sub (pv 2) (pv 1)) pe_int))) pa_nil)))), ?_⟩
  refine ⟨_, rfl, t, rfl, ⟨_, SqT.of ht⟩, fun D nD => ?_⟩
  refine lc_map (Rb := IntR) IntR.kp walk_tup (l.map fun r => r.2 - r.1 + 1) (by rw [List.length_map]; exact (Paired.len hp).symm) (by rw [Paired.len hp]; omega) nD (fun H' s => SqT.of (s _ _ ht)) ?_ ?_
  · rintro i x b H2 H3 Q' hi hb s2 ⟨rfl, hx⟩ cont
    obtain ⟨r, hr, t2, rfl, ht2⟩ := Paired.at hp hx
    rw [List.getElem?_map, hr] at hb
    cases hb
    exact ⟨Same.refl _, t2, _, rfl, SqT.of (s2 _ _ ht2), rfl, _, _, rfl, _, _, rfl, rfl, rfl, _, rfl, _, rfl, _, _, rfl, rfl, _, _, rfl, rfl, cont _ _ (Same.refl _) (Same.refl _) rfl⟩
  · rintro H2 s2 ⟨ws, hws, hwp⟩
    rw [ints_eq hwp] at hws
    exact ⟨D, _, rfl, SqL.of hws, q H2 s2⟩
end
end AH
/-! W30 -/
set_option Elab.async false
set_option linter.all false
set_option maxRecDepth 100000
set_option maxHeartbeats 4000000
namespace AH
open PySem PySem.Spec PyProof.Rows L2 He
/-! ### the book of rows -/
theorem Fx.butL {x : Addr} {H H' : Hp} {xs : List V} (h : H x = some (.lst xs)) (b : But x H H') : Fx H H' := fun c u e f => b c u e fun z => by
  subst z
  rw [h] at e
  cases e
  exact f
theorem Fx.butD {x : Addr} {H H' : Hp} {xs : List (List Key × V)} (h : H x = some (.dT xs)) (b : But x H H') : Fx H H' := fun c u e f => b c u e fun z => by
  subst z
  rw [h] at e
  cases e
  exact f
theorem Fx.well {H H' : Hp} {l : Addr} (wl : WellAt H l) (b : But l H H') : Fx H H' := let ⟨_, _, _, h⟩ := wl; Fx.butL h b
theorem BookAt.butL {K : PySem.W.Frag} {v : Bool} {H H' : Hp} {p d y : Addr} {E : List (AN.Ent Str)} {xs : List V} (h : H y = some (.lst xs)) (b : But y H H') (k : BookAt K v H p d E) : BookAt K v H' p d E := by
  obtain ⟨⟨dx, ox⟩, hd⟩ := k
  exact ⟨⟨dx, b _ _ ox fun z => by rw [z, h] at ox; cases ox⟩, b _ _ hd fun z => by rw [z, h] at hd; cases hd⟩
theorem BookAt.well {K : PySem.W.Frag} {v : Bool} {H H' : Hp} {p d l : Addr} {E : List (AN.Ent Str)} (wl : WellAt H l) (b : But l H H') (k : BookAt K v H p d E) : BookAt K v H' p d E := let ⟨_, _, _, h⟩ := wl; k.butL h b
theorem seq_nat {k n : Nat} (h : k < n) : seqIndex? (k : Int) n = some k := by
  unfold seqIndex?
  have h1 : ¬ ((k : Int) < 0) := by omega
  simp only [if_neg h1]
  rw [if_pos (by simp only [Bool.and_eq_true, decide_eq_true_eq]; omega), Int.toNat_natCast]
structure RwOk (v : Bool) (rs : List (AN.Row Str)) : Prop where
  seg : AN.Seg rs 0 (AN.P (Wd v))
  ok : ∀ r ∈ rs, ∀ z, r.2.2 = some z → WordOk z
  len : rs.length ≤ 100
  cnt : (AN.allP (Wd v) rs).length ≤ 700
theorem allP_snoc {W : Nat} {rs : List (AN.Row Str)} {i : Nat} {r : AN.Row Str} (h : rs[i]? = some r) : AN.allP W (rs.take (i + 1)) = AN.allP W (rs.take i) ++ AN.rowP W r := by
  unfold AN.allP
  rw [List.take_add_one, h, List.flatMap_append]
  congr 1
  show List.flatMap _ [r] = _
  rw [List.flatMap_cons, List.flatMap_nil, List.append_nil]
theorem allP_take {W : Nat} (rs : List (AN.Row Str)) (i : Nat) : (AN.allP W (rs.take i)).length ≤ (AN.allP W rs).length := by
  have e : AN.allP W rs = AN.allP W (rs.take i) ++ AN.allP W (rs.drop i) := by
    unfold AN.allP
    rw [← List.flatMap_append, List.take_append_drop]
  rw [e, List.length_append]
  omega
theorem Paired.erase {α β : Type} {F : α → β → Prop} : ∀ {l : List α} {m : List β} (k : Nat), Paired F l m → Paired F (l.eraseIdx k) (m.eraseIdx k)
  | _, _, _, .nil => .nil
  | _, _, 0, .cons _ t => t
  | _, _, k + 1, .cons r t => .cons r (Paired.erase k t)
theorem perm_erase {α : Type} : ∀ {l : List α} {k : Nat} {a : α}, l[k]? = some a → (a :: l.eraseIdx k).Perm l
  | b :: l, 0, a, h => by cases h; exact List.Perm.refl _
  | b :: l, k + 1, a, h => by
    have ih := perm_erase (l := l) (k := k) (a := a) h
    exact (List.Perm.swap b a _).trans (ih.cons b)
section
variable {P : Program} {w : World} {K : PySem.W.Frag} {mg : Str → Option Value} {base : Heap}
def sp_lbook (K : PySem.W.Frag) : Sp := fun vs H Q _ => ∃ (v : Bool) (l rg : Addr) (rs : List (AN.Row Str)), vs = [.ref l, .ref rg, .int (Wd v : Int)] ∧ WellAt H l ∧ LA RowR H rg rs ∧ RwOk v rs ∧
  ∀ t p d H' E, H p = none → H d = none → But l H H' → WellAt H' l → BookAt K v H' p d E → E.Perm (AN.allP (Wd v) rs) → H' t = some (.tup [.ref p, .int ((AN.allP (Wd v) rs).length : Int)]) → Q (.ref t) H'
abbrev N__law_book : List Str := ["_law_well_here", "_law_ranges_here", "_law_width", "_law_book_here", "_law_left", "_law_row", "_law_network", "_law_many", "_law_word"]
theorem sc__law_book : FnScope N__law_book ["_law_well_here", "_law_ranges_here", "_law_width"] (defScope s__law_book) := ⟨rfl, rfl, rfl, by decide +kernel, rfl, by decide +kernel, by decide +kernel⟩
theorem c__law_book (T : Cxt K mg) : Cal P w K mg base 12 "_law_book" (Spn 3 (sp_lbook K)) [] := by
  obtain ⟨fd, F⟩ := T.F__law_book
  refine calN F T.g__law_book sc__law_book rfl (fun _ _ _ _ _ _ us hl => match us, hl with | [_, _, _], _ => rfl) (fun cdv A outer s H vs Q E hr h => ?_)
  have nd := sc__law_book.nd
  have hu := hu_of hr
  obtain ⟨v, l, rg, rs, rfl, wl, ⟨us, hrg, hrp⟩, rok, q⟩ := h
  refine ⟨_, (pss_cons (ps_set (i := 3) nd rfl (Or.inl rfl) (pe_k (k_Book T) hr (by decide) rfl (pa_cons (pe_ix ix_list (pe_lst (pa_cons pe_int (pa_cons pe_int pa_nil))) (pe_callTy call_int1 (by rfl) T.z_int (by decide +kernel) (pa_cons (pe_cmpR op_eq (pv 2) pe_int (nomark _)) pa_nil)) (fun _ _ => rfl)) pa_nil))) (pss_cons (ps_set (i := 4) nd rfl (Or.inl rfl) (pe_lst pa_nil)) (pss_cons (ps_for PassesOwn.never rfl (pi_list (pv 1)) (pg_name (i := 5) nd rfl (Or.inr rfl)) (pss_one (ps_if (pt_cmpR op_notN (pe_ix ix_tup (pv 5) pe_int (fun _ _ => rfl)) pe_non (nomark _)) (pss_one (ps_set (i := 4) nd rfl (Or.inl rfl) (pe_op op_cat (pv 4) (pe_lc (own := [("_law_network", 6)]) (g := gName 6) (tt := tYes) rfl nd (pi_list (pe_f (c__law_summed T) hr (by decide) rfl (pa_cons (pv 5) (pa_cons (pv 2) pa_nil)))) (blkOk_by (own := [("_law_network", 6)]) (N := N__law_book) (sc := defScope s__law_book) (by decide +kernel)) (fun _ _ _ _ _ => (pg_name (i := 6) nd rfl (Or.inl rfl) (.inr rfl))) (fun _ _ _ _ _ => pts_nil) (fun _ _ _ _ _ => (pe_tup (pa_cons (pv 6) (pa_cons (pe_ix (ix_tupK (K := K)) (pv 5) pe_int (fun _ _ => rfl)) pa_nil)))))))) pss_nil))) (pss_cons (ps_set (i := 7) nd rfl (Or.inl rfl) (pe_callB call_len_seq (by rfl) T.z_len (by decide +kernel) (pa_cons (pv 4) pa_nil))) (pss_cons (ps_while PassesOwn.never (pt_cmpR (op_neNil (Nat.lt_of_succ_lt hu)) (pv 4) (pe_lst pa_nil) (nomark _)) (pss_cons (ps_asg (pe_bm PySem.F.plainAttrs_list PySem.F.slot_list_pop PySem.F.type_list_pop mt_popAt (pv 4) (pa_cons (pe_f (c__law_draw T) hr (by decide) rfl (pa_cons (pv 0) (pa_cons (pe_callB call_len_seq (by rfl) T.z_len (by decide +kernel) (pa_cons (pv 4) pa_nil)) pa_nil))) pa_nil)) (pg_tup rfl (pgs_cons (pg_name (i := 6) nd rfl (Or.inl rfl)) (pgs_cons (pg_name (i := 8) nd rfl (Or.inl rfl)) pgs_nil)))) (pss_one (ps_asg (pv 8) (pg_sub (pv 3) (pv 6) (set_own (m_Book_setitem T) hr (by decide) T.seq_Book)))))) (pss_one (ps_ret (pe_tup (pa_cons (pv 3) (pa_cons (pv 7) pa_nil)))))))))), ?_⟩
  refine ⟨by show 2 ≤ sizeLine; decide, fun t nt => ?_⟩
  have hat : atI [V.int 4, V.int 6] (if decide ((Wd v : Int) = 128) = true then 1 else 0) = some (.int (Vn v : Int)) := by cases v <;> rfl
  refine ⟨_, rfl, rfl, .inr ⟨_, rfl, ?_⟩⟩
  rw [dec_int_eq]
  refine ⟨t, _, _, _, rfl, rfl, SqL.of upd_same, hat, fun x dx nx ndx nex => ⟨rfl, v, x, dx, rfl, upd_same, fun H1 d b1 nd2 bk1 => ⟨rfl, ?_⟩⟩⟩
  have st : Same H (upd H t (.lst [.int 4, .int 6])) := Same.new nt
  have s1 : Same H H1 := st.trans (But.made nx ndx b1)
  have nx0 : H x = none := Same.free st nx
  have nd0 : H d = none := Same.free st (made_free nx ndx nex nd2)
  have wl1 := wl.same s1
  have tab := AN.allP_tab rok.seg
  refine ⟨by show 0 ≤ sizeLine; decide, fun f nf => ?_⟩
  have sf : Same H1 (upd H1 f (.lst [])) := Same.new nf
  refine ⟨_, rfl, rg, rfl, ⟨_, SqL.of (sf _ _ (s1 _ _ hrg))⟩, ?_⟩
  refine for_list (fun i σ' H' => ∃ (f : Addr) (x5 x6 x7 x8 : Option V), σ' = [some (.ref l), some (.ref rg), some (.int (Wd v : Int)), some (.ref x), some (.ref f), x5, x6, x7, x8] ∧ Same H1 H' ∧ H1 f = none ∧ LA (EnR K v) H' f (AN.allP (Wd v) (rs.take i)))
    ⟨f, none, none, none, none, rfl, sf, nf, ⟨[], upd_same, .nil⟩⟩ (fun i σ' H' _ ⟨_, _, _, _, _, _, h, _⟩ => SqL.of (h _ _ (s1 _ _ hrg))) ?_ ?_
  · rintro i y σ' H2 hy ⟨f, x5, x6, x7, x8, rfl, s2, nf, vs, hvs, hvp⟩
    obtain ⟨r, hr, t2, rfl, ht2⟩ := Paired.at hrp hy
    have s12 := s1.trans s2
    have rm := rok.seg.mem r (List.mem_of_getElem? hr)
    have es := allP_snoc (W := Wd v) hr
    have alen := allP_take (W := Wd v) rs (i + 1)
    have rc := rok.cnt
    refine ⟨_, rfl, t2, _, _, _, rfl, rfl, SqT.of (s12 _ _ ht2), rfl, rfl, ?_⟩
    rw [oV_notnon]
    refine ⟨_, rfl, ?_⟩
    cases hz : r.2.2 with
    | none =>
      refine iteF ?_
      have er : AN.rowP (Wd v) r = [] := by unfold AN.rowP; rw [hz]
      rw [er, List.append_nil] at es
      exact ⟨f, _, _, _, _, rfl, s2, nf, by rw [es]; exact ⟨vs, hvs, hvp⟩⟩
    | some z =>
      refine iteT ?_
      have er : AN.rowP (Wd v) r = (AN.pcs (Wd v) r.1 r.2.1).map fun b => (b, z) := by unfold AN.rowP; rw [hz]
      have hl : (AN.allP (Wd v) (rs.take i)).length + (AN.pcs (Wd v) r.1 r.2.1).length ≤ 700 := by
        rw [es, List.length_append, er, List.length_map] at alen
        omega
      refine ⟨_, rfl, _, rfl, _, rfl, rfl, v, t2, r.1, r.2.1, _, rfl, s12 _ _ ht2, rm.1, rm.2.1, rm.2.2, fun nl H3 nnl s3 ⟨ws, hws, hwp⟩ => ?_⟩
      refine ⟨nl, rfl, ⟨_, SqL.of hws⟩, fun D nD => ?_⟩
      refine lc_map (Rb := EnR K v) EnR.kp walk_list (AN.rowP (Wd v) r) (by rw [er, List.length_map]; exact (Paired.len hwp).symm) (by rw [Paired.len hwp]; omega) nD (fun H' s => SqL.of (s _ _ hws)) ?_ ?_
      · rintro j y b H4 H5 Q' hj hb s4 ⟨rfl, hx⟩ cont
        obtain ⟨c, hc, pn, rfl, net⟩ := Paired.at hwp hx
        rw [er, List.getElem?_map, hc] at hb
        cases hb
        refine ⟨Same.refl _, rfl, _, rfl, _, rfl, t2, _, _, _, rfl, rfl, SqT.of (s4 _ _ (s3 _ _ (s12 _ _ ht2))), rfl, by show 2 ≤ sizeLine; decide, fun t3 nt3 => ?_⟩
        have s5 := Same.new (o := .tup [.ref pn, oV r.2.2]) nt3
        exact cont _ _ s5 s5 ⟨t3, pn, rfl, by rw [hz]; exact upd_same, (net.mono s4).mono s5⟩
      · rintro H4 s4 ⟨ws2, hws2, hwp2⟩
        have hvs4 := s4 _ _ (s3 _ _ hvs)
        refine ⟨f, D, _, _, rfl, rfl, hvs4, hws2, ?_, fun g ng => ?_⟩
        · rw [Paired.len hvp, Paired.len hwp2, er, List.length_map]
          have : sizeLine = 16777216 := rfl
          omega
        have s24 := s3.trans s4
        have s5 := s2.trans (s24.trans (Same.new (o := .lst (vs ++ ws2)) ng))
        refine ⟨g, _, _, _, _, rfl, s5, Same.free (s2.trans s24) ng, ?_⟩
        rw [es]
        exact LA.new EnR.kp ng (Paired.app (Paired.kp EnR.kp (.of s24) hvp) hwp2)
  · rintro σ' H2 ⟨f, x5, x6, x7, x8, rfl, s2, nf, vs, hvs, hvp⟩
    rw [Paired.len hrp, List.take_length] at hvp
    have hlen := Paired.len hvp
    refine ⟨_, rfl, f, _, rfl, .inl (SqL.of hvs), ?_⟩
    rw [hlen]
    have s12 := s1.trans s2
    have fl : f ≠ l := wl1.ne nf
    refine ⟨fun μ σ' H' => ∃ (x5 x6 x8 : Option V) (E rest : List (AN.Ent Str)), σ' = [some (.ref l), some (.ref rg), some (.int (Wd v : Int)), some (.ref x), some (.ref f), x5, x6, some (.int ((AN.allP (Wd v) rs).length : Int)), x8] ∧
      But l H H' ∧ WellAt H' l ∧ BookAt K v H' x d E ∧ LA (EnR K v) H' f rest ∧ (E ++ rest).Perm (AN.allP (Wd v) rs) ∧ rest.length = μ, ⟨_, _, _, _, [], AN.allP (Wd v) rs, rfl, But.of s12, wl1.same s2, bk1.mono s2, ⟨vs, hvs, hvp⟩, List.Perm.refl _, rfl⟩, ?_⟩
    rintro μ σ' H3 ⟨x5, x6, x8, E, rest, rfl, b3, wl3, bk3, ⟨us3, hus3, hup3⟩, pm, hμ⟩
    refine ⟨_, rfl, (by decide), fun e0 he0 => ⟨f, e0, us3, rfl, rfl, SqL.of (Same.new he0 _ _ hus3), SqL.of upd_same, _, rfl, ?_⟩⟩
    generalize hG : upd H3 e0 (.lst []) = G
    have sG : Same H3 G := by rw [← hG]; exact Same.new he0
    have s3 := sG
    have husG := sG _ _ hus3
    have hupG : Paired (EnR K v G) us3 rest := Paired.kp EnR.kp (.of sG) hup3
    have ul := Paired.len hup3
    refine ite2 (fun c => ?_) (fun c => ?_)
    · have c0 : 0 < us3.length := by
        cases us3 with
        | nil => cases c
        | cons _ _ => exact Nat.zero_lt_succ _
      have c1 : us3.length ≤ 700 := by
        have h1 := pm.length_eq
        have h2 := rok.cnt
        rw [List.length_append] at h1
        omega
      refine ⟨fun σ' H' => ∃ μ', μ' < μ ∧ ∃ (x5 x6 x8 : Option V) (E rest : List (AN.Ent Str)), σ' = [some (.ref l), some (.ref rg), some (.int (Wd v : Int)), some (.ref x), some (.ref f), x5, x6, some (.int ((AN.allP (Wd v) rs).length : Int)), x8] ∧
        But l H H' ∧ WellAt H' l ∧ BookAt K v H' x d E ∧ LA (EnR K v) H' f rest ∧ (E ++ rest).Perm (AN.allP (Wd v) rs) ∧ rest.length = μ', fun _ _ z => z, ?_⟩
      refine ⟨_, rfl, .inl ⟨rfl, _, SqL.of husG⟩, _, rfl, _, rfl, f, _, rfl, .inl (SqL.of husG), rfl, l, _, rfl, wl3.same sG, by omega, by omega, fun j H5 j0 j1 b5 wl5 => ?_⟩
      obtain ⟨k, rfl⟩ := Int.eq_ofNat_of_zero_le j0
      have hk : k < us3.length := by omega
      have hy : us3[k]? = some us3[k] := List.getElem?_eq_getElem hk
      have hus5 := b5 _ _ husG fl
      have fx5 : Fx G H5 := Fx.well (wl3.same sG) b5
      obtain ⟨e, he, t3, a, hyr, ht3, net3⟩ := Paired.at (Paired.kp EnR.kp fx5 hupG) hy
      refine ⟨f, us3, _, k, _, rfl, rfl, hus5, by omega, by omega, seq_nat hk, hy, ?_⟩
      rw [hyr]
      have fx6 : Fx H5 (upd H5 f (.lst (us3.eraseIdx k))) := Fx.lst hus5
      refine ⟨t3, _, rfl, SqT.of (fx6 _ _ ht3 trivial), rfl, _, _, rfl, _, _, rfl, rfl, ?_⟩
      have bk5 : BookAt K v H5 x d E := BookAt.well (wl3.same sG) b5 (bk3.mono sG)
      have bk6 : BookAt K v (upd H5 f (.lst (us3.eraseIdx k))) x d E := BookAt.butL hus5 But.upd bk5
      obtain ⟨dx6, ox6⟩ := bk6.ob
      refine ⟨_, rfl, _, rfl, _, rfl, x, dx6, _, rfl, ox6, rfl, v, x, d, a, E, e.1.1, e.1.2, e.2, rfl, bk6, net3.fx fx6, ?_, ?_, fun H7 b7 bk7 => ?_⟩
      · have hm : e ∈ AN.allP (Wd v) rs := pm.mem_iff.mp (List.mem_append.mpr (.inr (List.mem_of_getElem? he)))
        obtain ⟨r, hr, _, hz⟩ := AN.mem_allP.mp hm
        exact rok.ok r hr _ hz
      · have h1 := pm.length_eq
        have h2 := rok.cnt
        rw [List.length_append] at h1
        omega
      have fd : f ≠ d := fun z => by
        have h1 : (upd H5 f (.lst (us3.eraseIdx k))) f = _ := upd_same
        rw [z] at h1
        have h2 := bk6.rows
        rw [z, h1] at h2
        cases h2
      have ld : l ≠ d := fun z => wl.some (by rw [z]; exact nd0)
      have b6 : But l H (upd H5 f (.lst (us3.eraseIdx k))) := But.put ((b3.trans (But.of sG)).trans b5) (Same.free s1 nf)
      refine ⟨(rest.eraseIdx k).length, ?_, _, _, _, _, rest.eraseIdx k, rfl, fun c o hc ne => b7 _ _ (b6 c o hc ne) (ne_of_none hc nd0), ?_, bk7, ⟨_, b7 _ _ upd_same fd, ?_⟩, ?_, rfl⟩
      · have h1 := perm_erase he
        have h2 := h1.length_eq
        rw [List.length_cons] at h2
        omega
      · obtain ⟨x1, x2, x3, hx⟩ := wl5
        exact ⟨x1, x2, x3, b7 _ _ (by rw [upd_ne fl.symm]; exact hx) ld⟩
      · exact Paired.erase k (Paired.kp EnR.kp ((fx5.trans fx6).trans (Fx.butD bk6.rows b7)) hupG)
      · have hn : e.1 ∉ E.map (·.1) := fun hm => by
          have nd1 := (pm.map (·.1)).nodup_iff.mpr tab.nd
          rw [List.map_append] at nd1
          exact (List.nodup_append.mp nd1).2.2 _ hm _ (List.mem_map_of_mem (List.mem_of_getElem? he)) rfl
        have e1 : putE E (e.1.1, e.1.2) e.2 = E ++ [e] := putE_new hn
        rw [e1, List.append_assoc]
        exact ((perm_erase he).append_left E).trans pm
    · have u0 : us3 = [] := by
        cases us3 with
        | nil => rfl
        | cons _ _ => exact (c rfl).elim
      have r0 : rest = [] := by
        rw [u0] at ul
        exact List.eq_nil_of_length_eq_zero ul.symm
      rw [r0, List.append_nil] at pm
      refine ⟨_, rfl, _, rfl, by show 2 ≤ sizeLine; decide, fun t4 nt4 => ?_⟩
      have s4 := sG.trans (Same.new (o := .tup [.ref x, .int ((AN.allP (Wd v) rs).length : Int)]) nt4)
      exact q t4 x d _ E nx0 nd0 (b3.trans (But.of s4)) (wl3.same s4) (bk3.mono s4) pm upd_same
end
end AH
/-! W31 -/
set_option Elab.async false
set_option linter.all false
set_option maxRecDepth 100000
set_option maxHeartbeats 4000000
namespace AH
open PySem PySem.Spec PyProof.Rows L2 He
/-! ### points -/
section
variable {P : Program} {w : World} {K : PySem.W.Frag} {mg : Str → Option Value} {base : Heap}
theorem book_call (T : Cxt K mg) : ∃ g, StX.CallO K (ga K "Book") g ∧ FnR P w K mg base CX0 5 g (fun vs H Q E => Spn 3 (sp_bcall K) (vs ++ []) H Q E) := by
  obtain ⟨f, hs, hf, F⟩ := (m_Book_call (P := P) (w := w) (base := base) T).raw
  have e := hs.symm.trans T.m_Book_call.at_
  injection e with e
  injection e with e
  injection e with e
  exact ⟨f, ⟨hs, hf, by rw [e]; exact T.call_Book⟩, F⟩
def sp_points (K : PySem.W.Frag) : Sp := fun vs H Q _ => ∃ (v : Bool) (p d rg : Addr) (E : List (AN.Ent Str)) (rs : List (AN.Row Str)), vs = [.ref p, .ref rg, .int (Wd v : Int)] ∧ BookAt K v H p d E ∧ LA RowR H rg rs ∧ AN.Seg rs 0 (AN.P (Wd v)) ∧ AN.Says rs (AN.look (Wd v) E) ∧
  ∀ H', Same H H' → Q (.bl true) H'
abbrev N__law_points_right : List Str := ["_law_book_here", "_law_ranges_here", "_law_width", "_law_low", "_law_high", "_law_word", "_law_number_here"]
theorem sc__law_points_right : FnScope N__law_points_right ["_law_book_here", "_law_ranges_here", "_law_width"] (defScope s__law_points_right) := ⟨rfl, rfl, rfl, by decide +kernel, rfl, by decide +kernel, by decide +kernel⟩
theorem c__law_points_right (T : Cxt K mg) : Cal P w K mg base 7 "_law_points_right" (Spn 3 (sp_points K)) [] := by
  obtain ⟨fd, F⟩ := T.F__law_points_right
  refine calN F T.g__law_points_right sc__law_points_right rfl (fun _ _ _ _ _ _ us hl => match us, hl with | [_, _, _], _ => rfl) (fun cdv A outer s H vs Q E hr h => ?_)
  have nd := sc__law_points_right.nd
  have hu := hu_of hr
  obtain ⟨v, p, d, rg, E, rs, rfl, bk, ⟨us, hrg, hrp⟩, sg, sy, q⟩ := h
  obtain ⟨g, gc, gf⟩ := book_call (P := P) (w := w) (base := base) T
  refine ⟨_, (pss_cons (ps_for PassesOwn.never rfl (pi_list (pv 1)) (pg_tup rfl (pgs_cons (pg_name (i := 3) nd rfl (Or.inl rfl)) (pgs_cons (pg_name (i := 4) nd rfl (Or.inl rfl)) (pgs_cons (pg_name (i := 5) nd rfl (Or.inl rfl)) pgs_nil)))) (pss_one (ps_for PassesOwn.never rfl (pi_list (pe_lst (pa_cons (pv 3) (pa_cons (pv 4) (pa_cons (pe_op op_add (pv 3) (pe_op op_fdiv (pe_op op_sub (pv 4) (pv 3)) pe_int)) pa_nil))))) (pg_name (i := 6) nd rfl (Or.inl rfl)) (pss_one (ps_if (pt_cmpR op_ne (StX.pe_callO (pv 0) gc gf (hr.mono (by decide)) pass0 (pa_cons (pe_f (c__law_address T) hr (by decide) rfl (pa_cons (pv 6) (pa_cons (pv 2) pa_nil))) (pa_cons pe_non pa_nil))) (pv 5) (nomark _)) (pss_one (ps_ret pe_bl)) pss_nil))))) (pss_one (ps_ret pe_bl))), ?_⟩
  refine ⟨_, rfl, rg, rfl, ⟨_, SqL.of hrg⟩, ?_⟩
  refine for_list (fun i σ' H' => ∃ x3 x4 x5 x6 : Option V, σ' = [some (.ref p), some (.ref rg), some (.int (Wd v : Int)), x3, x4, x5, x6] ∧ Same H H')
    ⟨none, none, none, none, rfl, Same.refl _⟩ (fun i σ' H' _ ⟨_, _, _, _, _, h⟩ => SqL.of (h _ _ hrg)) ?_ ?_
  · rintro i y σ' H1 hy ⟨x3, x4, x5, x6, rfl, s1⟩
    obtain ⟨r, hr, t2, rfl, ht2⟩ := Paired.at hrp hy
    have rm := sg.mem r (List.mem_of_getElem? hr)
    have syr := sy r (List.mem_of_getElem? hr)
    refine ⟨t2, _, rfl, SqT.of (s1 _ _ ht2), rfl, _, _, rfl, _, _, rfl, _, _, rfl, rfl, ?_⟩
    refine ⟨_, rfl, _, rfl, _, rfl, _, rfl, _, rfl, _, _, rfl, rfl, _, _, rfl, rfl, ⟨by decide, by decide⟩, _, _, rfl, rfl, by show 3 ≤ sizeLine; decide, fun m nm => ?_⟩
    have sm := Same.new (o := .lst ([r.1, r.2.1, r.1 + (r.2.1 - r.1) / 2].map V.int)) nm
    refine ⟨m, rfl, ⟨_, SqL.of upd_same⟩, ?_⟩
    refine for_list (fun j σ' H' => ∃ x6 : Option V, σ' = [some (.ref p), some (.ref rg), some (.int (Wd v : Int)), some (.int r.1), some (.int r.2.1), some (oV r.2.2), x6] ∧ Same (upd H1 m (.lst ([r.1, r.2.1, r.1 + (r.2.1 - r.1) / 2].map V.int))) H')
      ⟨x6, rfl, Same.refl _⟩ (fun i σ' H' _ ⟨_, _, h⟩ => SqL.of (h _ _ upd_same)) ?_ ?_
    · rintro j y σ' H2 hy ⟨x6, rfl, s2⟩
      obtain ⟨n, hn, rfl⟩ : ∃ n, (r.1 ≤ n ∧ n ≤ r.2.1) ∧ y = .int n := by
        have hm := List.mem_of_getElem? hy
        rcases List.mem_cons.mp hm with e | hm
        · exact ⟨_, ⟨Int.le_refl _, rm.2.1⟩, e⟩
        rcases List.mem_cons.mp hm with e | hm
        · exact ⟨_, ⟨rm.2.1, Int.le_refl _⟩, e⟩
        · exact ⟨_, by omega, List.mem_singleton.mp hm⟩
      have s12 := s1.trans (sm.trans s2)
      refine ⟨_, rfl, p, rfl, _, rfl, _, rfl, rfl, v, n, rfl, by omega, by omega, fun a H3 na s3 ad => ?_⟩
      have bk3 := bk.mono (s12.trans s3)
      obtain ⟨dx3, ox3⟩ := bk3.ob
      refine ⟨.inr ⟨_, _, ox3⟩, rfl, v, p, d, a, E, n, rfl, bk3, ad, by omega, by omega, fun H4 s4 => ?_⟩
      refine ⟨_, rfl, scal_oV _ _, _, rfl, ?_⟩
      rw [syr n hn.1 hn.2]
      exact iteNS rfl ⟨_, rfl, s2.trans (s3.trans s4)⟩
    · rintro σ' H2 ⟨x6, rfl, s2⟩
      exact ⟨_, _, _, _, rfl, s1.trans (sm.trans s2)⟩
  · rintro σ' H1 ⟨x3, x4, x5, x6, rfl, s1⟩
    exact q H1 s1
end
end AH
/-! W32 -/
set_option Elab.async false
set_option linter.all false
set_option maxRecDepth 100000
set_option maxHeartbeats 4000000
namespace AH
open PySem PySem.Spec PyProof.Rows L2 He
/-! ### sorted words are told by their members -/
theorem sortS_pw : ∀ {p : Str} {l : List Str}, risingS p l = true → (p :: l).Pairwise (fun a b => a.cps.toList ≤ b.cps.toList)
  | p, [], _ => List.pairwise_singleton _ _
  | p, x :: r, h => by
    obtain ⟨h1, h2⟩ := Bool.and_eq_true_iff.mp (show (!ltCps x.cps.toList p.cps.toList && risingS x r) = true from h)
    have ih := sortS_pw h2
    rw [ltCps_eq] at h1
    have le : p.cps.toList ≤ x.cps.toList := by
      intro z
      rw [decide_eq_true z] at h1
      cases h1
    refine List.pairwise_cons.mpr ⟨fun y hy => ?_, ih⟩
    rcases List.mem_cons.mp hy with e | hy
    · rw [e]
      exact le
    · exact List.le_trans le ((List.pairwise_cons.mp ih).1 y hy)
theorem sortS_le {l : List Str} (h : sortedS l = true) : l.Pairwise (fun a b => a.cps.toList ≤ b.cps.toList) := by
  cases l with
  | nil => exact List.Pairwise.nil
  | cons p l => exact sortS_pw h
theorem str_anti {a b : Str} (h1 : a.cps.toList ≤ b.cps.toList) (h2 : b.cps.toList ≤ a.cps.toList) : a = b := by
  have e := List.le_antisymm h1 h2
  cases a
  cases b
  exact congrArg Str.mk (Array.toList_inj.mp e)
theorem sort_uniq : ∀ {l m : List Str}, l.Pairwise (fun a b => a.cps.toList ≤ b.cps.toList) → m.Pairwise (fun a b => a.cps.toList ≤ b.cps.toList) → l.Nodup → m.Nodup → (∀ x, x ∈ l ↔ x ∈ m) → l = m
  | [], [], _, _, _, _, _ => rfl
  | [], b :: m, _, _, _, _, h => absurd ((h b).mpr List.mem_cons_self) List.not_mem_nil
  | a :: l, [], _, _, _, _, h => absurd ((h a).mp List.mem_cons_self) List.not_mem_nil
  | a :: l, b :: m, p1, p2, n1, n2, h => by
    obtain ⟨a1, a2⟩ := List.pairwise_cons.mp p1
    obtain ⟨b1, b2⟩ := List.pairwise_cons.mp p2
    obtain ⟨c1, c2⟩ := List.nodup_cons.mp n1
    obtain ⟨d1, d2⟩ := List.nodup_cons.mp n2
    have e : a = b := by
      rcases List.mem_cons.mp ((h a).mp List.mem_cons_self) with e | ha
      · exact e
      rcases List.mem_cons.mp ((h b).mpr List.mem_cons_self) with e | hb
      · exact e.symm
      exact str_anti (a1 b hb) (b1 a ha)
    subst e
    rw [sort_uniq a2 b2 c2 d2 fun x => ?_]
    constructor
    · intro hx
      rcases List.mem_cons.mp ((h x).mp (List.mem_cons_of_mem _ hx)) with e | hm
      · rw [e] at hx
        exact (c1 hx).elim
      · exact hm
    · intro hx
      rcases List.mem_cons.mp ((h x).mpr (List.mem_cons_of_mem _ hx)) with e | hm
      · rw [e] at hx
        exact (d1 hx).elim
      · exact hm
/-! ### data of the same shape -/
theorem eqvAll_map {α : Type} (f : α → PyData) : ∀ {l : List α}, (∀ x ∈ l, PyData.eqv (f x) (f x) = true) → PyData.eqvAll (l.map f) (l.map f) = true
  | [], _ => by simp only [List.map_nil, PyData.eqvAll]
  | x :: l, h => by
    simp only [List.map_cons, PyData.eqvAll]
    rw [h x List.mem_cons_self, eqvAll_map f fun y hy => h y (List.mem_cons_of_mem _ hy)]
    rfl
theorem layAll_map {α : Type} (f : α → PyData) : ∀ {l : List α}, (∀ x ∈ l, PyData.canLay0 (f x) = true) → PyData.canLayAll0 (l.map f) = true
  | [], _ => by simp only [List.map_nil, PyData.canLayAll0]
  | x :: l, h => by
    simp only [List.map_cons, PyData.canLayAll0]
    rw [h x List.mem_cons_self, layAll_map f fun y hy => h y (List.mem_cons_of_mem _ hy)]
    rfl
theorem depthAll_map {α : Type} (f : α → PyData) {m : Nat} : ∀ {l : List α}, (∀ x ∈ l, PyData.depth (f x) ≤ m) → PyData.depthAll (l.map f) ≤ m
  | [], _ => by simp only [List.map_nil, PyData.depthAll]; exact Nat.zero_le _
  | x :: l, h => by
    simp only [List.map_cons, PyData.depthAll]
    have h1 := h x List.mem_cons_self
    have h2 := depthAll_map f (l := l) fun y hy => h y (List.mem_cons_of_mem _ hy)
    omega
theorem Dp_map {α : Type} {R : RVT α} {f : α → PyData} {K : PySem.W.Frag} {H : Hp} (h : ∀ v x, R H v x → Dp K H v (f x)) : ∀ {vs : List V} {l : List α}, Paired (R H) vs l → DpAll K H vs (l.map f)
  | _, _, .nil => .nil
  | _, _, .cons r t => .cons (h _ _ r) (Dp_map h t)
def rgD (r : Int × Int) : PyData := .tuple [.int r.1, .int r.2]
theorem rgD_eqv (r : Int × Int) : PyData.eqv (rgD r) (rgD r) = true := by simp [rgD, PyData.eqv, PyData.eqvAll]
theorem rgD_lay (r : Int × Int) : PyData.canLay0 (rgD r) = true := by simp [rgD, PyData.canLay0, PyData.canLayAll0]
theorem rgD_depth (r : Int × Int) : PyData.depth (rgD r) ≤ 1 := by simp [rgD, PyData.depth, PyData.depthAll]
theorem rgD_dp {K : PySem.W.Frag} {H : Hp} (v : V) (r : Int × Int) (h : RgR H v r) : Dp K H v (rgD r) := by
  obtain ⟨t, rfl, ht⟩ := h
  exact .tup (SqT.of ht) (.cons (.int _) (.cons (.int _) .nil))
def cwD (r : Str × Int) : PyData := .tuple [.str r.1, .int r.2]
abbrev CwR : RVT (Str × Int) := TupR fun r => [.str r.1, .int r.2]
theorem cwD_eqv (r : Str × Int) : PyData.eqv (cwD r) (cwD r) = true := by simp [cwD, PyData.eqv, PyData.eqvAll]
theorem cwD_lay {r : Str × Int} (h : PyData.strOk r.1 = true) : PyData.canLay0 (cwD r) = true := by simp [cwD, PyData.canLay0, PyData.canLayAll0, h]
theorem cwD_depth (r : Str × Int) : PyData.depth (cwD r) ≤ 1 := by simp [cwD, PyData.depth, PyData.depthAll]
theorem cwD_dp {K : PySem.W.Frag} {H : Hp} (v : V) (r : Str × Int) (h : CwR H v r) : Dp K H v (cwD r) := by
  obtain ⟨t, rfl, ht⟩ := h
  exact .tup (SqT.of ht) (.cons (.str _) (.cons (.int _) .nil))
theorem shaped_tup {α : Type} (f : α → PyData) {l : List α} (h1 : ∀ x ∈ l, PyData.canLay0 (f x) = true) (h2 : ∀ x ∈ l, PyData.depth (f x) ≤ 1) : SeqAt.shaped (.tuple (l.map f)) = true := by
  show (PyData.canLay0 (.tuple (l.map f)) && decide (PyData.depth (.tuple (l.map f)) ≤ 64)) = true
  rw [Bool.and_eq_true]
  refine ⟨by simp only [PyData.canLay0]; exact layAll_map f h1, decide_eq_true ?_⟩
  simp only [PyData.depth]
  have := depthAll_map f h2
  omega
theorem shaped_lst {α : Type} (f : α → PyData) {l : List α} (h1 : ∀ x ∈ l, PyData.canLay0 (f x) = true) (h2 : ∀ x ∈ l, PyData.depth (f x) ≤ 1) : SeqAt.shaped (.list (l.map f)) = true := by
  show (PyData.canLay0 (.list (l.map f)) && decide (PyData.depth (.list (l.map f)) ≤ 64)) = true
  rw [Bool.and_eq_true]
  refine ⟨by simp only [PyData.canLay0]; exact layAll_map f h1, decide_eq_true ?_⟩
  simp only [PyData.depth]
  have := depthAll_map f h2
  omega
/-- two tuples of the same pairs -/
theorem ne_rgs {K : PySem.W.Frag} {H : Hp} {t u : Addr} {us ws : List V} {l : List (Int × Int)} {Q : VK} (h1 : H t = some (.tup us)) (p1 : Paired (RgR H) us l) (h2 : H u = some (.tup ws)) (p2 : Paired (RgR H) ws l) (q : Q (.bl false) H) : rNeD K (.ref t) (.ref u) H Q := by
  refine ⟨.tuple (l.map rgD), .tuple (l.map rgD), .tup (SqT.of h1) (Dp_map rgD_dp p1), .tup (SqT.of h2) (Dp_map rgD_dp p2), shaped_tup _ (fun x _ => rgD_lay x) (fun x _ => rgD_depth x), shaped_tup _ (fun x _ => rgD_lay x) (fun x _ => rgD_depth x), ?_⟩
  have e : PyData.eqv (.tuple (l.map rgD)) (.tuple (l.map rgD)) = true := by
    simp only [PyData.eqv]
    exact eqvAll_map _ fun x _ => rgD_eqv x
  rw [e]
  exact q
theorem eq_cws {K : PySem.W.Frag} {H : Hp} {t u : Addr} {us ws : List V} {l : List (Str × Int)} {Q : VK} (ok : ∀ x ∈ l, WordOk x.1) (h1 : H t = some (.lst us)) (p1 : Paired (CwR H) us l) (h2 : H u = some (.lst ws)) (p2 : Paired (CwR H) ws l) (q : Q (.bl true) H) : rEqD K (.ref t) (.ref u) H Q := by
  have so : ∀ x ∈ l, PyData.strOk x.1 = true := fun x hx => by
    obtain ⟨_, _, h⟩ := ok x hx
    show x.1.cps.all (· < 0x110000) = true
    rw [← Array.all_toList, List.all_eq_true]
    intro c hc
    have := h c hc
    exact decide_eq_true (by omega)
  refine ⟨.list (l.map cwD), .list (l.map cwD), .lst (SqL.of h1) (Dp_map cwD_dp p1), .lst (SqL.of h2) (Dp_map cwD_dp p2), shaped_lst _ (fun x hx => cwD_lay (so x hx)) (fun x _ => cwD_depth x), shaped_lst _ (fun x hx => cwD_lay (so x hx)) (fun x _ => cwD_depth x), ?_⟩
  have e : PyData.eqv (.list (l.map cwD)) (.list (l.map cwD)) = true := by
    simp only [PyData.eqv]
    exact eqvAll_map _ fun x _ => cwD_eqv x
  rw [e]
  exact q
end AH
/-! W33 -/
set_option Elab.async false
set_option linter.all false
set_option maxRecDepth 100000
set_option maxHeartbeats 4000000
namespace AH
open PySem PySem.Spec PyProof.Rows L2 He
/-! ### sets and sums -/
theorem WellAt.neS {H : Hp} {l a : Addr} {ws : List Str} (wl : WellAt H l) (ha : H a = Option.some (HO.lst (ws.map V.str))) : a ≠ l := fun e => by
  obtain ⟨x1, x2, x3, hx⟩ := wl
  rw [e, hx] at ha
  match ws, ha with
  | [], ha => cases ha
  | _ :: _, ha => cases ha
theorem WellAt.neR {H : Hp} {l a : Addr} {rs : List (AN.Row Str)} (wl : WellAt H l) (ha : LA RowR H a rs) : a ≠ l := fun e => by
  obtain ⟨x1, x2, x3, hx⟩ := wl
  obtain ⟨vs, h, p⟩ := ha
  rw [e, hx] at h
  cases h
  cases p with
  | cons r _ => obtain ⟨t, e, _⟩ := r; cases e
theorem LA.but {H H' : Hp} {l a : Addr} {rs : List (AN.Row Str)} (wl : WellAt H l) (b : But l H H') (h : LA RowR H a rs) : LA RowR H' a rs := by
  have ne := wl.neR h
  obtain ⟨vs, h1, p⟩ := h
  exact ⟨vs, b _ _ h1 ne, Paired.kp TupR.kp (Fx.well wl b) p⟩
theorem inW_one (z : Str) (o : Option Str) : inW [z] o = isW z o := by
  cases o with
  | none => exact (decide_eq_false (fun e => nomatch e)).symm
  | some y =>
    show decide (y ∈ [z]) = decide (some y = some z)
    by_cases h : y = z
    · rw [decide_eq_true (List.mem_singleton.mpr h), decide_eq_true (congrArg some h)]
    · rw [decide_eq_false (fun e => h (List.mem_singleton.mp e)), decide_eq_false (fun e => h (Option.some.inj e))]
theorem totW_pos {rs : List (AN.Row Str)} {a b : Int} (h : AN.Seg rs a b) (z : Str) : 0 < totW rs z ↔ hasW rs z := by
  have mm : ∀ r ∈ AN.sel (isW z) rs, r.1 ≤ r.2 := by
    intro r hr
    obtain ⟨x, hx, rfl⟩ := List.mem_map.mp hr
    exact (h.mem x (List.mem_filter.mp hx).1).2.1
  obtain ⟨t0, t1⟩ := AN.tot_pos mm
  constructor
  · intro hp
    match e : AN.sel (isW z) rs with
    | [] => 
      unfold totW at hp
      rw [e] at hp
      exact absurd hp (by decide)
    | r :: _ =>
      have hr : r ∈ AN.sel (isW z) rs := by rw [e]; exact List.mem_cons_self
      obtain ⟨x, hx, _⟩ := List.mem_map.mp hr
      obtain ⟨h1, h2⟩ := List.mem_filter.mp hx
      exact ⟨x, h1, of_decide_eq_true h2⟩
  · rintro ⟨r, hr, hz⟩
    refine t1 fun e => ?_
    have : (r.1, r.2.1) ∈ AN.sel (isW z) rs := List.mem_map.mpr ⟨r, List.mem_filter.mpr ⟨hr, decide_eq_true hz⟩, rfl⟩
    rw [e] at this
    cases this
theorem items_cw {H : Hp} {f : Str → Int} : ∀ {ts : List Addr} {ys : List Str}, Paired (fun (t : Addr) (q : Key × V) => H t = some (.tup [kV q.1, q.2])) ts (ys.map fun z => ((.inr z, .int (f z)) : Key × V)) → Paired (CwR H) (ts.map V.ref) (ys.map fun z => (z, f z))
  | [], [], _ => .nil
  | [], _ :: _, h => nomatch h
  | _ :: _, [], h => nomatch h
  | t :: ts, y :: ys, h => by
    cases h with
    | cons r q => exact .cons ⟨t, rfl, r⟩ (items_cw q)
theorem pos_words {ws ys : List Str} {rs : List (AN.Row Str)} {a b : Int} (sg : AN.Seg rs a b) (w1 : sortedS ws = true) (w2 : ws.Nodup) (y1 : sortedS ys = true) (y2 : ys.Nodup) (hm : ∀ z, z ∈ ys ↔ hasW rs z) (hs : ∀ z, hasW rs z → z ∈ ws) : ws.filter (fun z => decide (0 < totW rs z)) = ys := by
  refine sort_uniq ((sortS_le w1).sublist List.filter_sublist) (sortS_le y1) (w2.sublist List.filter_sublist) y2 fun x => ?_
  rw [List.mem_filter, hm, decide_eq_true_iff, totW_pos sg]
  exact ⟨fun h => h.2, fun h => ⟨hs x h, h⟩⟩
section
variable {P : Program} {w : World} {K : PySem.W.Frag} {mg : Str → Option Value} {base : Heap}
def sp_sets (K : PySem.W.Frag) : Sp := fun vs H Q _ => ∃ (v : Bool) (l p d rg a : Addr) (E : List (AN.Ent Str)) (rs : List (AN.Row Str)) (ws : List Str), vs = [.ref l, .ref p, .ref rg, .ref a] ∧ WellAt H l ∧ BookAt K v H p d E ∧ AN.Tab (Wd v) E ∧ E.length ≤ 1000 ∧
  LA RowR H rg rs ∧ rs.length ≤ 100 ∧ AN.Seg rs 0 (AN.P (Wd v)) ∧ AN.Says rs (AN.look (Wd v) E) ∧ H a = some (.lst (ws.map V.str)) ∧ WrdsOk ws ∧ (∀ e ∈ E, e.2 ∈ ws) ∧
  ∀ H', But l H H' → WellAt H' l → Q (.bl true) H'
abbrev N__law_sets_right : List Str := ["_law_well_here", "_law_book_here", "_law_ranges_here", "_law_words_here", "_law_k", "_law_word", "_law_due", "_law_row"]
theorem sc__law_sets_right : FnScope N__law_sets_right ["_law_well_here", "_law_book_here", "_law_ranges_here", "_law_words_here"] (defScope s__law_sets_right) := ⟨rfl, rfl, rfl, by decide +kernel, rfl, by decide +kernel, by decide +kernel⟩
theorem c__law_sets_right (T : Cxt K mg) : Cal P w K mg base 8 "_law_sets_right" (Spn 4 (sp_sets K)) [] := by
  obtain ⟨fd, F⟩ := T.F__law_sets_right
  refine calN F T.g__law_sets_right sc__law_sets_right rfl (fun _ _ _ _ _ _ us hl => match us, hl with | [_, _, _, _], _ => rfl) (fun cdv A outer s H vs Q E hr h => ?_)
  have nd := sc__law_sets_right.nd
  have hu := hu_of hr
  obtain ⟨v, l, p, d, rg, a, E, rs, ws, rfl, wl, bk, tab, hlen, hrg, rsl, sg, sy, ha, wok, hE, q⟩ := h
  refine ⟨_, (pss_cons (ps_for PassesOwn.never rfl (pi_range1 (by rfl) T.z_range (pa_cons pe_int pa_nil)) (pg_name (i := 4) nd rfl (Or.inl rfl)) (pss_cons (ps_set (i := 5) nd rfl (Or.inl rfl) (pe_ix ix_list (pv 3) (pe_f (c__law_draw T) hr (by decide) rfl (pa_cons (pv 0) (pa_cons (pe_callB call_len_seq (by rfl) T.z_len (by decide +kernel) (pa_cons (pv 3) pa_nil)) pa_nil))) (fun _ _ => rfl))) (pss_one (ps_if (pt_cmpR (op_neD hr.units) (pe_fld (pe_m (m_Book_answered T) hr (by decide) (pv 1) (pa_cons (pv 5) pa_nil)) rfl) (pe_f (c__law_joined T) hr (by decide) rfl (pa_cons (pv 2) (pa_cons (pe_lst (pa_cons (pv 5) pa_nil)) pa_nil))) (nomark _)) (pss_one (ps_ret pe_bl)) pss_nil)))) (pss_cons (ps_setLc (i := 6) (own := [("_law_word", 5)]) (g := gName 5) (tt := tYes) (by rfl) nd rfl rfl (sw_true rfl rfl rfl (by decide +kernel)) (pi_list (pv 3)) (blkOk_by (own := [("_law_word", 5)]) (N := N__law_sets_right) (sc := defScope s__law_sets_right) (by decide +kernel)) (fun _ _ _ _ _ => (pg_name (i := 5) nd rfl (Or.inl rfl) (.inr rfl))) (fun _ _ _ _ _ => pts_nil) (fun _ _ _ _ _ => (pe_tup (pa_cons (pv 5) (pa_cons (pe_f (c__law_size T) hr (by decide) rfl (pa_cons (pe_f (c__law_joined T) hr (by decide) rfl (pa_cons (pv 2) (pa_cons (pe_lst (pa_cons (pv 5) pa_nil)) pa_nil))) pa_nil)) pa_nil))))) (pss_one (ps_ret (pe_cmpR (op_eqD hr.units) (LiI.pe_listItems rfl (pe_m0 (m_Book_counts T) hr (by decide) (pv 1)) (by rfl) T.z_list (by decide +kernel)) (pe_lc (own := [("_law_row", 7)]) (g := gName 7) rfl nd (pi_list (pv 6)) (blkOk_by (own := [("_law_row", 7)]) (N := N__law_sets_right) (sc := defScope s__law_sets_right) (by decide +kernel)) (fun _ _ _ _ _ => (pg_name (i := 7) nd rfl (Or.inl rfl) (.inr rfl))) (fun _ _ _ _ _ => pts_one (pt_cmpR op_gt (pe_ix (ix_tupK (K := K)) (pv 7) pe_int (fun _ _ => rfl)) pe_int (nomark _))) (fun _ _ _ _ _ => (pv 7))) (nomark _)))))), ?_⟩
  have al := wl.neS ha
  have rl := wl.neR hrg
  refine ⟨2, rfl, by decide, by decide, ?_⟩
  refine for_it walk_range (fun i σ' H' => ∃ x4 x5 x6 x7 : Option V, σ' = [some (.ref l), some (.ref p), some (.ref rg), some (.ref a), x4, x5, x6, x7] ∧ But l H H' ∧ WellAt H' l)
    ⟨none, none, none, none, rfl, But.refl, wl⟩ (fun _ _ _ _ _ => trivial) ?_ ?_
  · rintro i x σ' H2 H3 hi ⟨x4, x5, x6, x7, rfl, b2, wl2⟩ ⟨rfl, rfl⟩
    have ha2 := b2 _ _ ha al
    have hrg2 := LA.but wl b2 hrg
    have bk2 := bk.well wl b2
    have wsl := wok.len
    have wsp : 0 < ws.length := by
      cases hw : ws with
      | nil => exact (wok.ne hw).elim
      | cons _ _ => exact Nat.zero_lt_succ _
    refine ⟨_, rfl, _, rfl, _, rfl, a, _, rfl, .inl (SqL.of ha2), ?_⟩
    rw [List.length_map]
    refine ⟨rfl, l, _, rfl, wl2, by omega, by omega, fun j H3 j0 j1 b3 wl3 => ?_⟩
    obtain ⟨k, rfl⟩ := Int.eq_ofNat_of_zero_le j0
    have hk : k < ws.length := by omega
    have hat : atI (ws.map V.str) (k : Int) = some (.str ws[k]) := atI_nat (by rw [List.getElem?_map, List.getElem?_eq_getElem hk]; rfl)
    have ha3 := b3 _ _ ha2 al
    have hrg3 := LA.but wl2 b3 hrg2
    have bk3 := bk2.well wl2 b3
    have zm : ws[k] ∈ ws := List.getElem_mem hk
    generalize ws[k] = z at hat zm
    refine ⟨a, _, _, _, rfl, rfl, SqL.of ha3, hat, ?_⟩
    obtain ⟨dx3, ox3⟩ := bk3.ob
    refine ⟨_, rfl, p, dx3, _, rfl, ox3, (by kernel_rfl), _, rfl, rfl, v, p, d, E, z, rfl, bk3, tab, hlen, wok.ok z zm, fun s t us H4 rs' s4 sg' sy' hlen' nset pr => ?_⟩
    obtain ⟨dn, sz, hs4, ht4⟩ := nset
    refine ⟨s, _, dn, _, _, rfl, hs4, T.c_Netset, T.n_Netset_ranges, nsetF_ranges v t sz, _, rfl, _, rfl, by show 1 ≤ sizeLine; decide, fun m nm => ?_⟩
    have sm : Same H4 (upd H4 m (.lst ([z].map V.str))) := Same.new nm
    have hrg4 : LA RowR (upd H4 m (.lst ([z].map V.str))) rg rs := LA.mono TupR.kp (s4.trans sm) hrg3
    refine ⟨rfl, rg, m, rs, [z], rfl, hrg4, by omega, upd_same, fun t2 H5 us2 nt2 s5 ht5 pr5 => ?_⟩
    have e1 : AN.jn (AN.sel (inW [z]) rs) = AN.jn (AN.sel (isW z) rs') := AN.jn_sel sg sy sg' sy' fun x _ _ => inW_one z _
    rw [e1] at pr5
    refine ne_rgs (s5 _ _ (sm _ _ ht4)) (Paired.kp TupR.kp (.of (sm.trans s5)) pr) ht5 pr5 ?_
    refine ⟨_, rfl, iteF ?_⟩
    have s35 := s4.trans (sm.trans s5)
    exact ⟨_, _, _, _, rfl, (b2.trans b3).trans (But.of s35), wl3.same s35⟩
  · rintro σ' H1 ⟨x4, x5, x6, x7, rfl, b1, wl1⟩
    have ha1 := b1 _ _ ha al
    have hrg1 := LA.but wl b1 hrg
    have bk1 := bk.well wl b1
    have wsl := wok.len
    refine ⟨_, rfl, a, rfl, ⟨_, SqL.of ha1⟩, fun D nD => ?_⟩
    refine lc_map (Rb := CwR) TupR.kp walk_list (ws.map fun z => (z, totW rs z)) (by rw [List.length_map, List.length_map]) (by rw [List.length_map]; omega) nD (fun H' s => SqL.of (s _ _ ha1)) ?_ ?_
    · rintro i x b H2 H3 Q' hi hb s2 ⟨rfl, hx⟩ cont
      rw [List.getElem?_map] at hx hb
      obtain ⟨z, hz, rfl⟩ := Option.map_eq_some_iff.mp hx
      rw [hz] at hb
      cases hb
      refine ⟨Same.refl _, rfl, _, rfl, _, rfl, _, rfl, by show 1 ≤ sizeLine; decide, fun m nm => ?_⟩
      have sm : Same H3 (upd H3 m (.lst ([z].map V.str))) := Same.new nm
      refine ⟨rfl, rg, m, rs, [z], rfl, LA.mono TupR.kp (s2.trans sm) hrg1, by omega, upd_same, fun t H4 us nt s4 ht pr => ?_⟩
      have jl := AN.jn_len (AN.sel (inW [z]) rs)
      have sl := sel_len (inW [z]) rs
      refine ⟨rfl, t, us, _, rfl, ht, pr, by omega, fun H5 s5 => ?_⟩
      have e1 : AN.tot (AN.jn (AN.sel (inW [z]) rs)) = totW rs z := by
        rw [(AN.jn_ji (AN.sel_asc sg)).tot]
        exact AN.tot_sel sg sy sg sy fun x _ _ => inW_one z _
      rw [e1]
      refine ⟨by show 2 ≤ sizeLine; decide, fun t5 nt5 => ?_⟩
      have s6 := sm.trans (s4.trans (s5.trans (Same.new (o := .tup [.str z, .int (totW rs z)]) nt5)))
      exact cont _ _ s6 s6 ⟨t5, rfl, upd_same⟩
    · rintro H2 s2 ⟨us, hu, hup⟩
      have bk2 := bk1.mono s2
      obtain ⟨dx2, ox2⟩ := bk2.ob
      refine ⟨_, rfl, p, dx2, _, rfl, ox2, (by kernel_rfl), rfl, v, p, d, E, ws, rfl, bk2, tab, hlen, by omega, hE, fun D2 H3 rs' ys s3 sg' sy' yso ynd ym hD2 => ?_⟩
      refine ⟨D2, _, rfl, hD2, fun H4 pp ts ext npp nts pts hpp prt => ?_⟩
      have s4 : Same H3 H4 := ext
      have s24 := s3.trans s4
      refine ⟨_, rfl, D, rfl, ⟨_, SqL.of (s24 _ _ hu)⟩, fun D3 nD3 => ?_⟩
      refine lc_filt (Rb := CwR) TupR.kp walk_list (ws.map fun z => (z, totW rs z)) (fun r => decide (0 < r.2)) (Paired.len hup).symm (by rw [Paired.len hup, List.length_map]; omega) nD3 (fun H' s => SqL.of (s _ _ (s24 _ _ hu))) ?_ ?_
      · rintro i x b H5 H6 QE QN hi hb s5 ⟨rfl, hx⟩ ce cn
        obtain ⟨b2, hb2, t, rfl, ht⟩ := Paired.at hup hx
        rw [hb] at hb2
        cases hb2
        refine ⟨rfl, _, rfl, t, _, _, _, rfl, rfl, SqT.of (s5 _ _ (s24 _ _ ht)), rfl, _, _, rfl, rfl, _, rfl, ?_⟩
        refine ite2 (fun c => ?_) (fun c => ?_)
        · exact ⟨_, rfl, ce _ _ (Same.refl _) c ⟨t, rfl, s5 _ _ (s24 _ _ ht)⟩⟩
        · exact cn _ (Same.refl _) (Bool.eq_false_iff.mpr c)
      · rintro H5 s5 ⟨us3, hu3, hup3⟩
        have eT : ∀ z, totW rs z = totW rs' z := fun z => AN.tot_sel sg sy sg' sy' fun x _ _ => rfl
        have ew := pos_words sg' wok.so wok.nd yso ynd ym fun z hz => by
          obtain ⟨e, he, rfl⟩ := row_word tab sg' sy' hz
          exact hE e he
        have el : (ws.map fun z => (z, totW rs z)).filter (fun r => decide (0 < r.2)) = ys.map fun z => (z, totW rs' z) := by
          rw [← ew, List.filter_map]
          have : (fun z => (z, totW rs z)) = fun z => (z, totW rs' z) := funext fun z => by rw [eT]
          rw [this]
          rfl
        rw [el] at hup3
        refine eq_cws (l := ys.map fun z => (z, totW rs' z)) ?_ (s5 _ _ hpp) (Paired.kp TupR.kp (.of s5) (items_cw prt)) hu3 hup3 ?_
        · intro x hx
          obtain ⟨z, hz, rfl⟩ := List.mem_map.mp hx
          obtain ⟨e, he, e2⟩ := row_word tab sg' sy' ((ym z).mp hz)
          show WordOk z
          rw [← e2]
          exact wok.ok _ (hE e he)
        · have s25 := s2.trans (s24.trans s5)
          exact q _ (b1.trans (But.of s25)) (wl1.same s25)
end
end AH
/-! W34 -/
set_option Elab.async false
set_option linter.all false
set_option maxRecDepth 100000
set_option maxHeartbeats 4000000
namespace AH
open PySem PySem.Spec PyProof.Rows L2 He
/-! ### entries -/
abbrev OwR : RVT (AN.Row Str) := fun _ v r => v = oV r.2.2
theorem OwR.kp : Kp OwR := fun _ _ _ _ _ h => h
/-- the best of the entries at x -/
def BestR (F : List (AN.Ent Str)) (x : Int) (o : Option (AN.Ent Str)) : Prop := match o with
  | none => ∀ e ∈ F, ¬ AN.Has e x
  | some e => e ∈ F ∧ AN.Has e x ∧ ∀ d ∈ F, AN.Has d x → e.1.2 ≤ d.1.2
def bestN (W : Nat) : Option (AN.Ent Str) → Int
  | none => 0 - 1
  | some e => (W : Int) - (e.1.2 : Int)
theorem best_keep {F : List (AN.Ent Str)} {x : Int} {o : Option (AN.Ent Str)} {e : AN.Ent Str} (h : BestR F x o) (c : AN.Has e x → ∃ e0, o = some e0 ∧ e0.1.2 ≤ e.1.2) : BestR (F ++ [e]) x o := by
  cases o with
  | none =>
    intro d hd hx
    rcases List.mem_append.mp hd with hd | hd
    · exact h d hd hx
    · rw [List.mem_singleton.mp hd] at hx
      obtain ⟨_, e1, _⟩ := c hx
      cases e1
  | some e0 =>
    obtain ⟨h1, h2, h3⟩ := h
    refine ⟨List.mem_append.mpr (.inl h1), h2, fun d hd hx => ?_⟩
    rcases List.mem_append.mp hd with hd | hd
    · exact h3 d hd hx
    · rw [List.mem_singleton.mp hd] at hx ⊢
      obtain ⟨_, e1, e2⟩ := c hx
      cases e1
      exact e2
theorem best_new {F : List (AN.Ent Str)} {x : Int} {o : Option (AN.Ent Str)} {e : AN.Ent Str} (h : BestR F x o) (hx : AN.Has e x) (c : ∀ e0, o = some e0 → e.1.2 ≤ e0.1.2) : BestR (F ++ [e]) x (some e) := by
  refine ⟨List.mem_append.mpr (.inr (List.mem_singleton.mpr rfl)), hx, fun d hd hd2 => ?_⟩
  rcases List.mem_append.mp hd with hd | hd
  · cases o with
    | none => exact (h d hd hd2).elim
    | some e0 =>
      have := c e0 rfl
      have := h.2.2 d hd hd2
      omega
  · rw [List.mem_singleton.mp hd]
    exact Nat.le_refl _
theorem best_look {W : Nat} {F : List (AN.Ent Str)} {x : Int} {o : Option (AN.Ent Str)} (T : AN.Tab W F) (h : BestR F x o) : o.map (·.2) = AN.look W F x := by
  cases o with
  | none => exact (AN.look_none T h).symm
  | some e => exact (AN.look_eq T h.1 h.2.1 h.2.2).symm
section
variable {P : Program} {w : World} {K : PySem.W.Frag} {mg : Str → Option Value} {base : Heap}
def sp_wat : Sp := fun vs H Q _ => ∃ (rg : Addr) (rs : List (AN.Row Str)) (f : Int → Option Str) (b n : Int), vs = [.ref rg, .int n] ∧ LA RowR H rg rs ∧ rs.length ≤ 100 ∧ AN.Seg rs 0 b ∧ AN.Says rs f ∧ 0 ≤ n ∧ n < b ∧ ∀ H', Same H H' → Q (oV (f n)) H'
abbrev N__law_word_at : List Str := ["_law_ranges_here", "_law_number_here", "_law_low", "_law_high", "_law_word"]
theorem sc__law_word_at : FnScope N__law_word_at ["_law_ranges_here", "_law_number_here"] (defScope s__law_word_at) := ⟨rfl, rfl, rfl, by decide +kernel, rfl, by decide +kernel, by decide +kernel⟩
theorem c__law_word_at (T : Cxt K mg) : Cal P w K mg base 1 "_law_word_at" (Spn 2 sp_wat) [] := by
  obtain ⟨fd, F⟩ := T.F__law_word_at
  refine calN F T.g__law_word_at sc__law_word_at rfl (fun _ _ _ _ _ _ us hl => match us, hl with | [_, _], _ => rfl) (fun cdv A outer s H vs Q E hr h => ?_)
  have nd := sc__law_word_at.nd
  have hu := hu_of hr
  obtain ⟨rg, rs, f, b, n, rfl, ⟨us, hrg, hrp⟩, hlen, sg, sy, n0, n1, q⟩ := h
  refine ⟨_, (pss_one (ps_ret (pe_ix ix_list (pe_lc (own := [("_law_low", 2), ("_law_high", 3), ("_law_word", 4)]) (g := gTup K 3 (gCons (gName 2) (gCons (gName 3) (gCons (gName 4) gNil)))) rfl nd (pi_list (pv 0)) (blkOk_by (own := [("_law_low", 2), ("_law_high", 3), ("_law_word", 4)]) (N := N__law_word_at) (sc := defScope s__law_word_at) (by decide +kernel)) (fun _ _ _ _ _ => (pg_tup rfl (pgs_cons (pg_name (i := 2) nd rfl (Or.inl rfl) (.inr rfl)) (pgs_cons (pg_name (i := 3) nd rfl (Or.inl rfl) (.inr rfl)) (pgs_cons (pg_name (i := 4) nd rfl (Or.inl rfl) (.inr rfl)) pgs_nil))))) (fun _ _ _ _ _ => pts_one (pt_chain op_le op_le (pv 2) (pv 1) (pv 3))) (fun _ _ _ _ _ => (pv 4))) pe_int (fun _ _ => rfl)))), ?_⟩
  refine ⟨_, rfl, rg, rfl, ⟨_, SqL.of hrg⟩, fun D nD => ?_⟩
  refine lc_filt (Rb := OwR) OwR.kp walk_list rs (fun r => decide (r.1 ≤ n) && decide (n ≤ r.2.1)) (Paired.len hrp).symm (by rw [Paired.len hrp]; omega) nD (fun H' s => SqL.of (s _ _ hrg)) ?_ ?_
  · rintro i x r H1 H2 QE QN hi hr s1 ⟨rfl, hx⟩ ce cn
    obtain ⟨r2, hr2, t, rfl, ht⟩ := Paired.at hrp hx
    rw [hr] at hr2
    cases hr2
    refine ⟨t, _, rfl, SqT.of (s1 _ _ ht), rfl, _, _, rfl, _, _, rfl, _, _, rfl, rfl, rfl, ?_⟩
    refine ⟨_, rfl, _, rfl, _, _, rfl, rfl, _, rfl, ?_⟩
    by_cases c1 : r.1 ≤ n
    · rw [decide_eq_true c1]
      refine iteT ⟨_, rfl, _, _, rfl, rfl, _, rfl, ?_⟩
      refine ite2 (fun c => ?_) (fun c => ?_)
      · exact ⟨_, rfl, ce _ _ (Same.refl _) (by rw [decide_eq_true c1, c]; rfl) rfl⟩
      · exact cn _ (Same.refl _) (by rw [Bool.eq_false_iff.mpr c, Bool.and_false])
    · rw [decide_eq_false c1]
      exact iteF ⟨_, rfl, iteF (cn _ (Same.refl _) (by rw [decide_eq_false c1]; rfl))⟩
  · rintro H1 s1 ⟨ws, hws, hwp⟩
    obtain ⟨r0, hr0, h1, h2⟩ := sg.cover n n0 n1
    have key : ∀ fl : List (AN.Row Str), rs.filter (fun r => decide (r.1 ≤ n) && decide (n ≤ r.2.1)) = fl → Paired (OwR H1) ws fl → ∃ x t, ws = x :: t ∧ x = oV (f n) := by
      intro fl ew hwp
      cases hwp with
      | nil =>
        have : r0 ∈ rs.filter (fun r => decide (r.1 ≤ n) && decide (n ≤ r.2.1)) := List.mem_filter.mpr ⟨hr0, by rw [decide_eq_true h1, decide_eq_true h2]; rfl⟩
        rw [ew] at this
        cases this
      | @cons x r t tl e _ =>
        have hm : r ∈ rs.filter (fun r => decide (r.1 ≤ n) && decide (n ≤ r.2.1)) := by rw [ew]; exact List.mem_cons_self
        obtain ⟨hm1, hm2⟩ := List.mem_filter.mp hm
        obtain ⟨d1, d2⟩ := Bool.and_eq_true_iff.mp hm2
        have ef := sy r hm1 n (of_decide_eq_true d1) (of_decide_eq_true d2)
        refine ⟨x, _, rfl, ?_⟩
        rw [ef]
        exact e
    obtain ⟨x, t, e1, e2⟩ := key _ rfl hwp
    rw [e1] at hws
    refine ⟨D, _, _, _, rfl, rfl, SqL.of hws, atI_nat (j := 0) (show (x :: t)[0]? = some x from rfl), ?_⟩
    rw [e2]
    exact q H1 s1
def sp_lents (K : PySem.W.Frag) : Sp := fun vs H Q _ => ∃ (v : Bool) (el rg : Addr) (F : List (AN.Ent Str)) (rs : List (AN.Row Str)), vs = [.ref el, .ref rg, .int (Wd v : Int)] ∧ LA (EnR K v) H el F ∧ AN.Tab (Wd v) F ∧ F.length ≤ 1000 ∧ LA RowR H rg rs ∧ rs.length ≤ 100 ∧ AN.Seg rs 0 (AN.P (Wd v)) ∧ AN.Says rs (AN.look (Wd v) F) ∧
  ∀ H', Same H H' → Q (.bl true) H'
abbrev N__law_entries_right : List Str := ["_law_entries", "_law_ranges_here", "_law_width", "_law_marks", "_law_low", "_law_high", "_law_word", "_law_network", "_law_mark", "_law_best"]
theorem sc__law_entries_right : FnScope N__law_entries_right ["_law_entries", "_law_ranges_here", "_law_width"] (defScope s__law_entries_right) := ⟨rfl, rfl, rfl, by decide +kernel, rfl, by decide +kernel, by decide +kernel⟩
theorem c__law_entries_right (T : Cxt K mg) : Cal P w K mg base 2 "_law_entries_right" (Spn 3 (sp_lents K)) [] := by
  obtain ⟨fd, F⟩ := T.F__law_entries_right
  refine calN F T.g__law_entries_right sc__law_entries_right rfl (fun _ _ _ _ _ _ us hl => match us, hl with | [_, _, _], _ => rfl) (fun cdv A outer s H vs Q E hr h => ?_)
  have nd := sc__law_entries_right.nd
  have hu := hu_of hr
  obtain ⟨v, el, rg, F, rs, rfl, ⟨us, hel, hep⟩, tab, hlen, ⟨ws, hrg, hrp⟩, rsl, sg, sy, q⟩ := h
  refine ⟨_, (pss_cons (ps_setLc (i := 3) (own := [("_law_low", 4), ("_law_high", 5), ("_law_word", 6)]) (g := gTup K 3 (gCons (gName 4) (gCons (gName 5) (gCons (gName 6) gNil)))) (tt := tYes) (by rfl) nd rfl rfl (sw_true rfl rfl rfl (by decide +kernel)) (pi_list (pv 1)) (blkOk_by (own := [("_law_low", 4), ("_law_high", 5), ("_law_word", 6)]) (N := N__law_entries_right) (sc := defScope s__law_entries_right) (by decide +kernel)) (fun _ _ _ _ _ => (pg_tup rfl (pgs_cons (pg_name (i := 4) nd rfl (Or.inl rfl) (.inr rfl)) (pgs_cons (pg_name (i := 5) nd rfl (Or.inl rfl) (.inr rfl)) (pgs_cons (pg_name (i := 6) nd rfl (Or.inl rfl) (.inr rfl)) pgs_nil))))) (fun _ _ _ _ _ => pts_nil) (fun _ _ _ _ _ => (pv 4))) (pss_cons (ps_for PassesOwn.never rfl (pi_list (pv 0)) (pg_tup rfl (pgs_cons (pg_name (i := 7) nd rfl (Or.inl rfl)) (pgs_cons (pg_name (i := 6) nd rfl (Or.inl rfl)) pgs_nil))) (pss_one (ps_set (i := 3) nd rfl (Or.inl rfl) (pe_op op_cat (pv 3) (pe_lst (pa_cons (pe_fld (pe_fld (pv 7) rfl) rfl) (pa_cons (pe_op op_add (pe_fld (pe_fld (pv 7) rfl) rfl) pe_int) pa_nil))))))) (pss_cons (ps_for PassesOwn.never rfl (pi_list (pe_callB (SetX.cr_sortedKI rfl) (by rfl) T.z_sorted (by decide +kernel) (pa_cons (pe_callTy (SetX.cr_setOfK rfl) (by rfl) T.z_set (by decide +kernel) (pa_cons (pe_lc (own := [("_law_mark", 8)]) (g := gName 8) rfl nd (pi_list (pv 3)) (blkOk_by (own := [("_law_mark", 8)]) (N := N__law_entries_right) (sc := defScope s__law_entries_right) (by decide +kernel)) (fun _ _ _ _ _ => (pg_name (i := 8) nd rfl (Or.inl rfl) (.inr rfl))) (fun _ _ _ _ _ => pts_one (pt_cmpR op_lt (pv 8) (pe_op op_shlW pe_int (pv 2)) (nomark _))) (fun _ _ _ _ _ => (pe_callTy call_int1 (by rfl) T.z_int (by decide +kernel) (pa_cons (pv 8) pa_nil)))) pa_nil)) pa_nil))) (pg_name (i := 8) nd rfl (Or.inl rfl)) (pss_cons (ps_set (i := 9) nd rfl (Or.inl rfl) (pe_tup (pa_cons (pe_op op_sub pe_int pe_int) (pa_cons pe_non pa_nil)))) (pss_cons (ps_for PassesOwn.never rfl (pi_list (pv 0)) (pg_tup rfl (pgs_cons (pg_name (i := 7) nd rfl (Or.inl rfl)) (pgs_cons (pg_name (i := 6) nd rfl (Or.inl rfl)) pgs_nil))) (pss_one (ps_if (PW.pt (pw_and (pt_chain op_le op_le (pe_fld (pe_fld (pv 7) rfl) rfl) (pv 8) (pe_fld (pe_fld (pv 7) rfl) rfl)) (pw_and1 (pt_cmpR op_gt (pe_fld (pv 7) rfl) (pe_ix ix_tup (pv 9) pe_int (fun _ _ => rfl)) (nomark _))))) (pss_one (ps_set (i := 9) nd rfl (Or.inl rfl) (pe_tup (pa_cons (pe_fld (pv 7) rfl) (pa_cons (pv 6) pa_nil))))) pss_nil))) (pss_one (ps_if (pt_cmpR op_ne (pe_ix ix_tup (pv 9) pe_int (fun _ _ => rfl)) (pe_f (c__law_word_at T) hr (by decide) rfl (pa_cons (pv 1) (pa_cons (pv 8) pa_nil))) (nomark _)) (pss_one (ps_ret pe_bl)) pss_nil))))) (pss_one (ps_ret pe_bl))))), ?_⟩
  have wd := Wd_le v
  have csW : CShl (1 : Int) (Wd v : Int) := shl_ok (n := 1) (by decide) (by omega)
  have e1 : (1 : Int) * 2 ^ ((Wd v : Int)).toNat = AN.P (Wd v) := by rw [pow_cast, Int.one_mul]
  refine ⟨_, rfl, rg, rfl, ⟨_, SqL.of hrg⟩, fun D nD => ?_⟩
  refine lc_map (Rb := IntR) IntR.kp walk_list (rs.map (·.1)) (by rw [List.length_map]; exact (Paired.len hrp).symm) (by rw [Paired.len hrp]; omega) nD (fun H' s => SqL.of (s _ _ hrg)) ?_ ?_
  · rintro i x b H2 H3 Q' hi hb s2 ⟨rfl, hx⟩ cont
    obtain ⟨r, hr, t, rfl, ht⟩ := Paired.at hrp hx
    rw [List.getElem?_map, hr] at hb
    cases hb
    exact ⟨Same.refl _, t, _, rfl, SqT.of (s2 _ _ ht), rfl, _, _, rfl, _, _, rfl, _, _, rfl, rfl, rfl, _, rfl, cont _ _ (Same.refl _) (Same.refl _) rfl⟩
  rintro H1 s1 ⟨zs, hzs, hzp⟩
  rw [ints_eq hzp] at hzs
  refine ⟨_, rfl, el, rfl, ⟨_, SqL.of (s1 _ _ hel)⟩, ?_⟩
  refine for_list (fun i σ' H' => ∃ (m : Addr) (ns : List Int) (x4 x5 x6 x7 x8 x9 : Option V), σ' = [some (.ref el), some (.ref rg), some (.int (Wd v : Int)), some (.ref m), x4, x5, x6, x7, x8, x9] ∧ Same H H' ∧ H' m = some (.lst (ns.map V.int)) ∧ ns.length ≤ 100 + 2 * i ∧ ∀ n ∈ ns, 0 ≤ n)
    ⟨D, rs.map (·.1), _, _, _, _, _, _, rfl, s1, hzs, by rw [List.length_map]; omega, ?_⟩ (fun i σ' H' _ ⟨_, _, _, _, _, _, _, _, _, h, _⟩ => SqL.of (h _ _ hel)) ?_ ?_
  · intro n hn
    obtain ⟨r, hr, rfl⟩ := List.mem_map.mp hn
    exact (sg.mem r hr).1
  · rintro i y σ' H2 hy ⟨m, ns, x4, x5, x6, x7, x8, x9, rfl, s2, hm, nl, nn⟩
    obtain ⟨e, he, t, a, rfl, ht, net⟩ := Paired.at hep hy
    obtain ⟨hi, _⟩ := List.getElem?_eq_some_iff.mp he
    have tal := tab.al e (List.mem_of_getElem? he)
    have net2 := net.mono s2
    obtain ⟨dx, pf, pl, pm, ph, pr, nt⟩ := net2
    obtain ⟨df, hf⟩ := nt.first
    obtain ⟨dl, hl⟩ := nt.last
    refine ⟨t, _, rfl, SqT.of (s2 _ _ ht), rfl, _, _, rfl, _, _, rfl, rfl, ?_⟩
    refine ⟨_, rfl, _, rfl, a, _, dx, _, _, rfl, nt.ob, c_nC T v, no_first T v, netF_first _ _ _ _ _ _ _, pf, _, df, _, _, rfl, hf, c_aC T v, no_number T v, adrF_number _, ?_⟩
    refine ⟨_, rfl, a, _, dx, _, _, rfl, nt.ob, c_nC T v, no_last T v, netF_last _ _ _ _ _ _ _, pl, _, dl, _, _, rfl, hl, c_aC T v, no_number T v, adrF_number _, _, _, rfl, rfl, by show 2 ≤ sizeLine; decide, fun m2 nm2 => ?_⟩
    have sm2 : Same H2 (upd H2 m2 (.lst [.int e.1.1, .int (e.1.1 + AN.P e.1.2 - 1 + 1)])) := Same.new nm2
    refine ⟨m, m2, _, _, rfl, rfl, sm2 _ _ hm, upd_same, ?_, fun m3 nm3 => ?_⟩
    · rw [List.length_map]
      have : sizeLine = 16777216 := rfl
      show _ + 2 ≤ _
      omega
    refine ⟨m3, ns ++ [e.1.1, e.1.1 + AN.P e.1.2 - 1 + 1], _, _, _, _, _, _, rfl, s2.trans (sm2.trans (Same.new nm3)), by rw [upd_same, List.map_append]; rfl, by rw [List.length_append]; show _ + 2 ≤ _; omega, fun n hn => ?_⟩
    rcases List.mem_append.mp hn with h | h
    · exact nn n h
    · have pp := AN.P_pos e.1.2
      have h0 := tal.2.2.1
      rcases List.mem_cons.mp h with h | h
      · rw [h]
        exact h0
      · rw [List.mem_singleton.mp h]
        omega
  · rintro σ' H2 ⟨m, ns, x4, x5, x6, x7, x8, x9, rfl, s2, hm, nl, nn⟩
    rw [Paired.len hep] at nl
    refine ⟨_, rfl, m, rfl, ⟨_, SqL.of hm⟩, fun D2 nD2 => ?_⟩
    refine lc_filt (Rb := IntR) IntR.kp walk_list ns (fun n => decide (n < AN.P (Wd v))) (List.length_map ..).symm (by rw [List.length_map]; omega) nD2 (fun H' s => SqL.of (s _ _ hm)) ?_ ?_
    · rintro i x n H3 H4 QE QN hi hn s3 ⟨rfl, hx⟩ ce cn
      rw [List.getElem?_map, hn] at hx
      cases hx
      refine ⟨rfl, _, rfl, _, rfl, _, _, rfl, rfl, csW, _, _, rfl, rfl, _, rfl, ?_⟩
      dsimp only
      rw [e1]
      refine ite2 (fun c => ?_) (fun c => ?_)
      · exact ⟨_, rfl, .inl ⟨_, rfl, ce _ _ (Same.refl _) c rfl⟩⟩
      · exact cn _ (Same.refl _) (Bool.eq_false_iff.mpr c)
    · rintro H3 s3 ⟨zs2, hzs2, hzp2⟩
      rw [ints_eq hzp2] at hzs2
      have fl := List.length_filter_le (fun n => decide (n < AN.P (Wd v))) ns
      refine ⟨D2, (ns.filter fun n => decide (n < AN.P (Wd v))).map Sum.inl, rfl, ?_, ?_, fun m3 js nm3 hjs hjl => ?_⟩
      · rw [List.map_map]
        exact SqL.of hzs2
      · rw [List.length_map]
        have : scanBound = 4096 := rfl
        omega
      refine ⟨m3, js, rfl, upd_same, fun k hk => ?_, fun ms m4 hs hmem hnl nm4 => ?_⟩
      · obtain ⟨y, _, e⟩ := List.mem_map.mp ((hjs k).mp hk)
        exact ⟨y, e.symm⟩
      have mem : ∀ x ∈ ms, 0 ≤ x ∧ x < AN.P (Wd v) := fun x hx => by
        rw [hmem, hjs] at hx
        obtain ⟨h1, h2⟩ := List.mem_filter.mp (SetX.mem_inl.mp hx)
        exact ⟨nn x h1, of_decide_eq_true h2⟩
      have s5 : Same H2 (upd (upd H3 m3 (SetX.SetLO P w m3 js)) m4 (.lst (ms.map V.int))) := s3.trans ((Same.new nm3).trans (Same.new nm4))
      refine ⟨m4, rfl, ⟨_, SqL.of upd_same⟩, ?_⟩
      generalize hG : upd (upd H3 m3 (SetX.SetLO P w m3 js)) m4 (.lst (ms.map V.int)) = G at s5
      have hm4 : G m4 = some (.lst (ms.map V.int)) := by rw [← hG]; exact upd_same
      have sG := s2.trans s5
      refine for_list (fun i σ' H' => ∃ (x4 x5 x6 x7 x8 x9 : Option V), σ' = [some (.ref el), some (.ref rg), some (.int (Wd v : Int)), some (.ref m), x4, x5, x6, x7, x8, x9] ∧ Same G H')
        ⟨_, _, _, _, _, _, rfl, by rw [← hG]; exact Same.refl _⟩ (fun i σ' H' _ ⟨_, _, _, _, _, _, _, h⟩ => SqL.of (h _ _ hm4)) ?_ ?_
      · rintro i y σ' H4 hy ⟨x4, x5, x6, x7, x8, x9, rfl, s6⟩
        rw [List.getElem?_map] at hy
        obtain ⟨n, hn, rfl⟩ := Option.map_eq_some_iff.mp hy
        obtain ⟨n0, n1⟩ := mem n (List.mem_of_getElem? hn)
        have s04 := sG.trans s6
        refine ⟨_, _, rfl, rfl, by show 2 ≤ sizeLine; decide, fun b nb => ?_⟩
        have sb : Same H4 (upd H4 b (.tup [.int (0 - 1), .non])) := Same.new nb
        refine ⟨_, rfl, el, rfl, ⟨_, SqL.of (sb _ _ (s04 _ _ hel))⟩, ?_⟩
        refine for_list (fun j σ' H' => ∃ (b : Addr) (o : Option (AN.Ent Str)) (x6 x7 : Option V), σ' = [some (.ref el), some (.ref rg), some (.int (Wd v : Int)), some (.ref m), x4, x5, x6, x7, some (.int n), some (.ref b)] ∧ Same H4 H' ∧ H' b = some (.tup [.int (bestN (Wd v) o), oV (o.map (·.2))]) ∧ BestR (F.take j) n o)
          ⟨b, none, _, _, rfl, sb, upd_same, fun e he => (nomatch he)⟩ (fun i σ' H' _ ⟨_, _, _, _, _, h, _⟩ => SqL.of (h _ _ (s04 _ _ hel))) ?_ ?_
        · rintro j y σ' H5 hy ⟨b, o, x6, x7, rfl, s7, hb, br⟩
          obtain ⟨e, he, t, a, rfl, ht, net⟩ := Paired.at hep hy
          have etk : F.take (j + 1) = F.take j ++ [e] := by rw [List.take_add_one, he]; rfl
          have tal := tab.al e (List.mem_of_getElem? he)
          have s05 := s04.trans s7
          obtain ⟨dx, pf, pl, pm, ph, pr, nt⟩ := net.mono s05
          obtain ⟨df, hf⟩ := nt.first
          obtain ⟨dl, hl⟩ := nt.last
          refine ⟨t, _, rfl, SqT.of (s05 _ _ ht), rfl, _, _, rfl, _, _, rfl, rfl, ?_⟩
          refine ⟨_, rfl, a, _, dx, _, _, rfl, nt.ob, c_nC T v, no_first T v, netF_first _ _ _ _ _ _ _, pf, _, df, _, _, rfl, hf, c_aC T v, no_number T v, adrF_number _, ?_⟩
          refine ⟨_, rfl, _, _, rfl, rfl, _, rfl, ?_⟩
          have keep : (AN.Has e n → ∃ e0, o = some e0 ∧ e0.1.2 ≤ e.1.2) → BestR (F.take (j + 1)) n o := fun c => by rw [etk]; exact best_keep br c
          by_cases c1 : e.1.1 ≤ n
          · rw [decide_eq_true c1]
            refine iteT ⟨_, rfl, a, _, dx, _, _, rfl, nt.ob, c_nC T v, no_last T v, netF_last _ _ _ _ _ _ _, pl, _, dl, _, _, rfl, hl, c_aC T v, no_number T v, adrF_number _, ?_⟩
            refine ⟨_, _, rfl, rfl, _, rfl, ?_⟩
            refine ite2 (fun c2 => ?_) (fun c2 => ?_)
            · have c2 : n ≤ e.1.1 + AN.P e.1.2 - 1 := of_decide_eq_true c2
              have hx : AN.Has e n := ⟨c1, by omega⟩
              refine ⟨_, rfl, a, _, dx, _, _, rfl, nt.ob, c_nC T v, no_prefix T v, netF_prefix _ _ _ _ _ _ _, ?_⟩
              refine ⟨_, rfl, b, _, _, _, rfl, rfl, SqT.of hb, rfl, _, _, rfl, rfl, _, rfl, ?_⟩
              refine ite2 (fun c3 => ?_) (fun c3 => ?_)
              · have c3 : bestN (Wd v) o < (Wd v : Int) - (e.1.2 : Int) := of_decide_eq_true c3
                refine ⟨_, rfl, a, _, dx, _, _, rfl, nt.ob, c_nC T v, no_prefix T v, netF_prefix _ _ _ _ _ _ _, _, rfl, by show 2 ≤ sizeLine; decide, fun b2 nb2 => ?_⟩
                refine ⟨b2, some e, _, _, rfl, s7.trans (Same.new nb2), upd_same, ?_⟩
                rw [etk]
                refine best_new br hx fun e0 h0 => ?_
                rw [h0] at c3
                have c3 : (Wd v : Int) - (e0.1.2 : Int) < (Wd v : Int) - (e.1.2 : Int) := c3
                omega
              · have c3 : ¬ bestN (Wd v) o < (Wd v : Int) - (e.1.2 : Int) := of_decide_eq_false (Bool.eq_false_iff.mpr c3)
                refine ⟨b, o, _, _, rfl, s7, hb, keep fun _ => ?_⟩
                cases ho : o with
                | none =>
                  rw [ho] at c3
                  have c3 : ¬ ((0 : Int) - 1 < (Wd v : Int) - (e.1.2 : Int)) := c3
                  have := tal.2.1
                  omega
                | some e0 =>
                  rw [ho] at c3
                  have c3 : ¬ ((Wd v : Int) - (e0.1.2 : Int) < (Wd v : Int) - (e.1.2 : Int)) := c3
                  exact ⟨e0, rfl, by omega⟩
            · have c2 : ¬ n ≤ e.1.1 + AN.P e.1.2 - 1 := of_decide_eq_false (Bool.eq_false_iff.mpr c2)
              exact iteF ⟨b, o, _, _, rfl, s7, hb, keep fun hx => by have := hx.2; omega⟩
          · rw [decide_eq_false c1]
            exact iteF ⟨_, rfl, iteF (iteF ⟨b, o, _, _, rfl, s7, hb, keep fun hx => (c1 hx.1).elim⟩)⟩
        · rintro σ' H5 ⟨b, o, x6, x7, rfl, s7, hb, br⟩
          rw [Paired.len hep, List.take_length] at br
          refine ⟨_, rfl, b, _, _, _, rfl, rfl, SqT.of hb, rfl, _, rfl, _, rfl, rfl, rg, rs, _, _, n, rfl, LA.mono TupR.kp (s04.trans s7) ⟨_, hrg, hrp⟩, rsl, sg, sy, n0, n1, fun H6 s8 => ⟨scal_oV _ _, _, rfl, ?_⟩⟩
          rw [best_look tab br]
          exact iteNS rfl ⟨_, _, _, _, _, _, rfl, s6.trans (s7.trans s8)⟩
      · rintro σ' H4 ⟨x4, x5, x6, x7, x8, x9, rfl, s6⟩
        exact q H4 (sG.trans s6)
end
end AH
/-! Ma9 -/
set_option linter.all false
namespace AN
/-! ### halves of a table of blocks that lie apart -/
variable {α : Type} [DecidableEq α]
def Dj (d e : Ent α) : Prop := d.1.1 + P d.1.2 ≤ e.1.1 ∨ e.1.1 + P e.1.2 ≤ d.1.1
theorem Dj.symm {d e : Ent α} (h : Dj d e) : Dj e d := Or.symm h
theorem dj_asc {l : List (Ent α)} (h : l.Pairwise fun d e => d.1.1 + P d.1.2 ≤ e.1.1) : l.Pairwise Dj := h.imp .inl
theorem dj_perm {l m : List (Ent α)} (p : l.Perm m) (h : l.Pairwise Dj) : m.Pairwise Dj := (p.pairwise_iff fun q => Dj.symm q).mp h
theorem dj_uni : ∀ {l : List (Ent α)}, l.Pairwise Dj → ∀ {d e : Ent α} {x : Int}, d ∈ l → e ∈ l → Has d x → Has e x → d = e
  | a :: l, h, d, e, x, hd, he, h1, h2 => by
    obtain ⟨p1, p2⟩ := List.pairwise_cons.mp h
    have no : ∀ {u v : Ent α}, Dj u v → Has u x → Has v x → False := fun q g1 g2 => by
      rcases q with q | q
      · have := g1.2; have := g2.1; omega
      · have := g2.2; have := g1.1; omega
    rcases List.mem_cons.mp hd with e1 | hd
    · rcases List.mem_cons.mp he with e2 | he
      · rw [e1, e2]
      · rw [e1] at h1
        exact (no (p1 e he) h1 h2).elim
    · rcases List.mem_cons.mp he with e2 | he
      · rw [e2] at h2
        exact (no (p1 d hd) h2 h1).elim
      · exact dj_uni p2 hd he h1 h2
theorem dj_look {W : Nat} {E : List (Ent α)} (T : Tab W E) (h : E.Pairwise Dj) {e : Ent α} {x : Int} (he : e ∈ E) (hx : Has e x) : look W E x = some e.2 :=
  look_eq T he hx fun d hd h2 => by rw [dj_uni h hd he h2 hx]; exact Nat.le_refl _
def hv (e : Ent α) : List (Ent α) := match e.1.2 with
  | 0 => [e]
  | k + 1 => [((e.1.1, k), e.2), ((e.1.1 + P k, k), e.2)]
theorem hv_zero {e : Ent α} (h : e.1.2 = 0) : hv e = [e] := by unfold hv; rw [h]
theorem hv_succ {e : Ent α} {k : Nat} (h : e.1.2 = k + 1) : hv e = [((e.1.1, k), e.2), ((e.1.1 + P k, k), e.2)] := by unfold hv; rw [h]
theorem hv_in {e : Ent α} (ha : P e.1.2 ∣ e.1.1) : ∀ d ∈ hv e, d.2 = e.2 ∧ P d.1.2 ∣ d.1.1 ∧ d.1.2 ≤ e.1.2 ∧ e.1.1 ≤ d.1.1 ∧ d.1.1 + P d.1.2 ≤ e.1.1 + P e.1.2 := by
  intro d hd
  cases hk : e.1.2 with
  | zero =>
    rw [hv_zero hk, List.mem_singleton] at hd
    rw [hd]
    exact ⟨rfl, ha, by rw [hk]; exact Nat.le_refl _, Int.le_refl _, by rw [hk]; exact Int.le_refl _⟩
  | succ k =>
    rw [hv_succ hk] at hd
    rw [hk] at ha
    have pp := P_pos k
    have ps := P_succ k
    have hd1 : P k ∣ e.1.1 := Int.dvd_trans (P_dvd (Nat.le_succ k)) ha
    rcases List.mem_cons.mp hd with r | hd
    · rw [r]
      exact ⟨rfl, hd1, Nat.le_succ k, Int.le_refl _, by show e.1.1 + P k ≤ _; omega⟩
    · rw [List.mem_singleton.mp hd]
      exact ⟨rfl, Int.dvd_add hd1 (Int.dvd_refl _), Nat.le_succ k, by show e.1.1 ≤ e.1.1 + P k; omega, by show e.1.1 + P k + P k ≤ _; omega⟩
theorem hv_has {e : Ent α} {x : Int} (hx : Has e x) : ∃ d ∈ hv e, Has d x := by
  cases hk : e.1.2 with
  | zero => exact ⟨e, by rw [hv_zero hk]; exact List.mem_singleton.mpr rfl, hx⟩
  | succ k =>
    have ps := P_succ k
    obtain ⟨h1, h2⟩ := hx
    rw [hk] at h2
    rw [hv_succ hk]
    by_cases c : x < e.1.1 + P k
    · exact ⟨_, List.mem_cons_self, h1, c⟩
    · exact ⟨_, List.mem_cons_of_mem _ (List.mem_singleton.mpr rfl), by show e.1.1 + P k ≤ x; omega, by show x < e.1.1 + P k + P k; omega⟩
theorem hv_dj (e : Ent α) : (hv e).Pairwise Dj := by
  cases hk : e.1.2 with
  | zero => rw [hv_zero hk]; exact List.pairwise_singleton _ _
  | succ k =>
    rw [hv_succ hk]
    refine List.pairwise_cons.mpr ⟨fun d hd => ?_, List.pairwise_singleton _ _⟩
    rw [List.mem_singleton.mp hd]
    exact .inl (Int.le_refl _)
theorem hv_len : ∀ E : List (Ent α), (E.flatMap hv).length ≤ 2 * E.length
  | [] => Nat.le_refl _
  | e :: E => by
    have ih := hv_len E
    have h1 : (hv e).length ≤ 2 := by
      cases hk : e.1.2 with
      | zero => rw [hv_zero hk]; exact Nat.le_succ 1
      | succ k => rw [hv_succ hk]; exact Nat.le_refl 2
    rw [List.flatMap_cons, List.length_append, List.length_cons]
    omega
theorem hvs_dj : ∀ {E : List (Ent α)}, (∀ e ∈ E, P e.1.2 ∣ e.1.1) → E.Pairwise Dj → (E.flatMap hv).Pairwise Dj
  | [], _, _ => List.Pairwise.nil
  | e :: E, ha, h => by
    obtain ⟨p1, p2⟩ := List.pairwise_cons.mp h
    rw [List.flatMap_cons, List.pairwise_append]
    refine ⟨hv_dj e, hvs_dj (fun d hd => ha d (List.mem_cons_of_mem _ hd)) p2, fun d hd c hc => ?_⟩
    obtain ⟨f, hf, hc⟩ := List.mem_flatMap.mp hc
    obtain ⟨_, _, _, a1, a2⟩ := hv_in (ha e List.mem_cons_self) d hd
    obtain ⟨_, _, _, b1, b2⟩ := hv_in (ha f (List.mem_cons_of_mem _ hf)) c hc
    rcases p1 f hf with q | q
    · exact .inl (by omega)
    · exact .inr (by omega)
theorem dj_nd {l : List (Ent α)} (h : l.Pairwise Dj) : (l.map (·.1)).Nodup := by
  unfold List.Nodup
  rw [List.pairwise_map]
  refine h.imp fun {d e} q z => ?_
  have p1 := P_pos d.1.2
  have p2 := P_pos e.1.2
  have z1 : d.1.1 = e.1.1 := congrArg Prod.fst z
  rcases q with q | q <;> omega
theorem hvs_tab {W : Nat} {E : List (Ent α)} (T : Tab W E) (h : E.Pairwise Dj) : Tab W (E.flatMap hv) := by
  refine ⟨dj_nd (hvs_dj (fun e he => (T.al e he).1) h), fun d hd => ?_⟩
  obtain ⟨e, he, hd⟩ := List.mem_flatMap.mp hd
  obtain ⟨a1, a2, a3, a4⟩ := T.al e he
  obtain ⟨_, b1, b2, b3, b4⟩ := hv_in a1 d hd
  exact ⟨b1, Nat.le_trans b2 a2, by omega, by omega⟩
theorem hvs_look {W : Nat} {E : List (Ent α)} (T : Tab W E) (h : E.Pairwise Dj) (x : Int) : look W (E.flatMap hv) x = look W E x := by
  have T2 := hvs_tab T h
  have h2 := hvs_dj (fun e he => (T.al e he).1) h
  by_cases c : ∃ e ∈ E, Has e x
  · obtain ⟨e, he, hx⟩ := c
    obtain ⟨d, hd, hdx⟩ := hv_has hx
    rw [dj_look T h he hx, dj_look T2 h2 (List.mem_flatMap.mpr ⟨e, he, hd⟩) hdx, (hv_in (T.al e he).1 d hd).1]
  · rw [look_none T fun e he hx => c ⟨e, he, hx⟩, look_none T2 fun d hd hx => ?_]
    obtain ⟨e, he, hd⟩ := List.mem_flatMap.mp hd
    obtain ⟨_, _, _, b3, b4⟩ := hv_in (T.al e he).1 d hd
    exact c ⟨e, he, by have := hx.1; omega, by have := hx.2; omega⟩
/-! ### two orders of the same -/
theorem ord_uniq {β : Type} {R : β → β → Prop} : ∀ {l m : List β}, l.Pairwise (fun a b => ¬ R b a) → m.Pairwise R → l.Perm m → l = m
  | [], m, _, _, p => (List.nil_perm.mp p).symm
  | a :: l, [], _, _, p => absurd p.length_eq (by simp)
  | a :: l, b :: m, h1, h2, p => by
    obtain ⟨p1, p2⟩ := List.pairwise_cons.mp h1
    obtain ⟨q1, q2⟩ := List.pairwise_cons.mp h2
    have e : a = b := by
      rcases List.mem_cons.mp (p.mem_iff.mp (List.mem_cons_self (a := a) (l := l))) with e | ha
      · exact e
      rcases List.mem_cons.mp (p.mem_iff.mpr (List.mem_cons_self (a := b) (l := m))) with e | hb
      · exact e.symm
      exact (p1 b hb (q1 a ha)).elim
    subst e
    rw [ord_uniq p2 q2 ((List.perm_cons a).mp p)]
end AN
/-! W35 -/
set_option Elab.async false
set_option linter.all false
set_option maxRecDepth 100000
set_option maxHeartbeats 4000000
namespace AH
open PySem PySem.Spec PyProof.Rows L2 He
/-! ### the fewest -/
def Rn (K : PySem.W.Frag) (v : Bool) (a b : Addr) (H : Hp) : Prop := ∃ n k, NetAt K v H a n k ∧ NetAt K v H b n k
theorem met_eqG {X : Cx} {v : Bool} (m : Met X.prog X.w X.K X.mg X.base 1 (nC X.K v) "__eq__" (Spn 2 (sp_eqN X.K v)) []) : EqG X 1 (DIns (nC X.K v) (Rn X.K v)) := by
  obtain ⟨f, fd, ps, ds, me, cls, hb, hv, F⟩ := m.is
  cases hv
  refine eqG_ins (E := E0) (F.imp ?_) me.at_ me.fn hb pass0
  rintro vs H Q E ⟨a, b, rfl, ⟨n, k, n1, n2⟩, q⟩
  exact ⟨rfl, a, b, n, n, k, k, rfl, n1, n2, rfl, rfl, q H Ext.rfl'⟩
def Dn (K : PySem.W.Frag) : Eqv := fun x y H => DIns (nC K false) (Rn K false) x y H ∨ DIns (nC K true) (Rn K true) x y H
theorem mon_Rn {K : PySem.W.Frag} {v : Bool} : Mon (DIns (nC K v) (Rn K v)) := mon_ins fun a b H H' e ⟨n, k, n1, n2⟩ => ⟨n, k, n1.mono e, n2.mono e⟩
theorem dn_of {K : PySem.W.Frag} {v : Bool} {H : Hp} {x y : V} {b : Int × Nat} (h1 : NetR K v H x b) (h2 : NetR K v H y b) : Dn K x y H := by
  obtain ⟨p, rfl, n1⟩ := h1
  obtain ⟨q, rfl, n2⟩ := h2
  obtain ⟨dx, _, _, _, _, _, t1⟩ := id n1
  obtain ⟨dy, _, _, _, _, _, t2⟩ := id n2
  cases v with
  | false => exact .inl ⟨p, q, dx, dy, _, _, rfl, rfl, t1.ob, t2.ob, _, _, n1, n2⟩
  | true => exact .inr ⟨p, q, dx, dy, _, _, rfl, rfl, t1.ob, t2.ob, _, _, n1, n2⟩
theorem prs_of {K : PySem.W.Frag} {v : Bool} {H : Hp} : ∀ {xs ys : List V} {bs : List (Int × Nat)}, Paired (NetR K v H) xs bs → Paired (NetR K v H) ys bs → ∀ (i : Nat) x y, xs[i]? = some x → ys[i]? = some y → Dn K x y H
  | _, _, _, h1, h2, i, x, y, e1, e2 => by
    obtain ⟨b, hb, r1⟩ := Paired.at h1 e1
    obtain ⟨c, hc, r2⟩ := Paired.at h2 e2
    rw [hb] at hc
    cases hc
    exact dn_of r1 r2
theorem op_eqNets {X : Cx} (T : Cxt X.K X.mg) (hr : Room 2 X.A) : OpR X (compareOp .Eq) (rEqG (DList (Dn X.K))) :=
  op_eqG (rcG_list (mon_Rn.or mon_Rn) ((met_eqG (v := false) (m_Network4_eq T)).or (met_eqG (v := true) (m_Network6_eq T)))) hr
end AH
/-! W36 -/
set_option Elab.async false
set_option linter.all false
set_option maxRecDepth 100000
set_option maxHeartbeats 4000000
namespace AH
open PySem PySem.Spec PyProof.Rows L2 He
theorem nosome {v : Bool} {us : List Str} {E : List (AN.Ent Str)} (tab : AN.Tab (Wd v) E) (hw : WordsOk us E) (x : Int) : AN.look (Wd v) E x ≠ some ("" : Str) := fun h => by
  obtain ⟨e, he, _, e2, _⟩ := AN.look_some tab h
  exact word_ne (hw.ok e he).1 e2
theorem few_le2 {v : Bool} {us us2 : List Str} {E E2 : List (AN.Ent Str)} (tab : AN.Tab (Wd v) E) (hw : WordsOk us E) (tab2 : AN.Tab (Wd v) E2) (hw2 : WordsOk us2 E2) (he : ∀ x, AN.look (Wd v) E2 x = AN.look (Wd v) E x) {pl pl2 : AN.Pl Str}
    (h : AN.PlanOK (gz (AN.look (Wd v) E)) "" 0 (Wd v) pl) (h2 : AN.PlanOK (gz (AN.look (Wd v) E2)) "" 0 (Wd v) pl2) : (AN.ents pl 0 (Wd v) "").length ≤ (AN.ents pl2 0 (Wd v) "").length :=
  AN.few_least h (AN.ents_tab h2 "") (AN.ents_ne h2 "" fun _ => rfl) fun x h0 h1 => by
    rw [AN.few_look (nosome tab2 hw2) h2 h0 h1, he]
    rfl
theorem words_hv {us : List Str} {E E' : List (AN.Ent Str)} (p : E'.Perm E) (hw : WordsOk us E) : WordsOk us (E'.flatMap AN.hv) := ⟨hw.few, fun d hd => by
  obtain ⟨e, he, hd⟩ := List.mem_flatMap.mp hd
  have h2 : d.2 = e.2 := by
    cases hk : e.1.2 with
    | zero => rw [AN.hv_zero hk, List.mem_singleton] at hd; rw [hd]
    | succ k =>
      rw [AN.hv_succ hk] at hd
      rcases List.mem_cons.mp hd with r | hd
      · rw [r]
      · rw [List.mem_singleton.mp hd]
  rw [h2]
  exact hw.ok e (p.mem_iff.mp he)⟩
abbrev SdR : RVT (AN.Row Str) := fun _ v r => v = .str (r.2.2.getD "")
theorem SdR.kp : Kp SdR := fun _ _ _ _ _ h => h
theorem sds_eq {H : Hp} : ∀ {vs : List V} {rs : List (AN.Row Str)}, Paired (SdR H) vs rs → vs = rs.map fun r => V.str (r.2.2.getD "")
  | _, _, .nil => rfl
  | _, _, .cons r t => by rw [r, sds_eq t]; rfl
theorem lex_bef {W : Int} {F : List (AN.Ent Str)} (h : (F.map fun e => (e.1.1, W - (e.1.2 : Int))).Pairwise (fun x y => SrtO.lexB y x = false)) : F.Pairwise fun a b => ¬ AN.Bef b a := by
  rw [List.pairwise_map] at h
  refine h.imp fun {a b} q c => ?_
  have : SrtO.lexB (b.1.1, W - (b.1.2 : Int)) (a.1.1, W - (a.1.2 : Int)) = true := SrtO.lexB_iff.mpr (c.elim .inl fun ⟨h1, h2⟩ => .inr ⟨h1, by show W - (b.1.2 : Int) < W - (a.1.2 : Int); omega⟩)
  rw [q] at this
  cases this
section
variable {P : Program} {w : World} {K : PySem.W.Frag} {mg : Str → Option Value} {base : Heap}
def sp_halved (K : PySem.W.Frag) : Sp := fun vs H Q _ => ∃ (v : Bool) (p d : Addr) (E : List (AN.Ent Str)) (us : List Str), vs = [.ref p] ∧ BookAt K v H p d E ∧ AN.Tab (Wd v) E ∧ E.Pairwise AN.Dj ∧ E.length ≤ 200 ∧ WordsOk us E ∧
  ∀ (p2 d2 : Addr) (H' : Hp) (E' : List (AN.Ent Str)), Same H H' → E'.Perm E → BookAt K v H' p2 d2 (E'.flatMap AN.hv) → Q (.ref p2) H'
def sp_few (K : PySem.W.Frag) : Sp := fun vs H Q _ => ∃ (v : Bool) (p d rg : Addr) (E : List (AN.Ent Str)) (rs : List (AN.Row Str)) (us : List Str), vs = [.ref p, .ref rg, .int (Wd v : Int)] ∧ BookAt K v H p d E ∧ AN.Tab (Wd v) E ∧ E.Pairwise AN.Dj ∧ E.length ≤ 200 ∧ WordsOk us E ∧
  LA RowR H rg rs ∧ rs.length ≤ 100 ∧ AN.Seg rs 0 (AN.P (Wd v)) ∧ AN.Says rs (AN.look (Wd v) E) ∧ ∀ H', Same H H' → Q (.bl true) H'
abbrev N__law_few_right : List Str := ["_law_book_here", "_law_ranges_here", "_law_width", "_law_few", "_law_entries", "_law_words_here", "_law_row", "_law_covered", "_law_network", "_law_word"]
theorem sc__law_few_right : FnScope N__law_few_right ["_law_book_here", "_law_ranges_here", "_law_width"] (defScope s__law_few_right) := ⟨rfl, rfl, rfl, by decide +kernel, rfl, by decide +kernel, by decide +kernel⟩
theorem c__law_few_right (T : Cxt K mg) (hH : Cal P w K mg base 20 "_law_halved" (Spn 1 (sp_halved K)) []) : Cal P w K mg base 140 "_law_few_right" (Spn 3 (sp_few K)) [] := by
  obtain ⟨fd, F⟩ := T.F__law_few_right
  refine calN F T.g__law_few_right sc__law_few_right rfl (fun _ _ _ _ _ _ us hl => match us, hl with | [_, _, _], _ => rfl) (fun cdv A outer s H vs Q E hr h => ?_)
  have nd := sc__law_few_right.nd
  have hu := hu_of hr
  obtain ⟨pfd, hpb, hpf⟩ := p_nets (P := P) (w := w) (base := base) T
  obtain ⟨v, p, d, rg, E, rs, us, rfl, bk, tab, dj, hlen, hw, ⟨vs, hrg, hrp⟩, rsl, sg, sy, q⟩ := h
  refine ⟨_, (pss_cons (ps_set (i := 3) nd rfl (Or.inl rfl) (pe_m0 (m_Book_fewest T) hr (by decide) (pv 0))) (pss_cons (ps_set (i := 4) nd rfl (Or.inl rfl) (pe_m0 (m_Book_entries T) hr (by decide) (pv 3))) (pss_cons (ps_if (PW.pt (pw_or (pt_cmpR op_ne (pe_callB (call_lenOwn (m_Book_len T) hr (by decide)) (by rfl) T.z_len (by decide +kernel) (pa_cons (pv 3) pa_nil)) (pe_callB call_len_seq (by rfl) T.z_len (by decide +kernel) (pa_cons (pv 4) pa_nil)) (nomark _)) (pw_or (pt_cmpR op_gt (pe_callB (call_lenOwn (m_Book_len T) hr (by decide)) (by rfl) T.z_len (by decide +kernel) (pa_cons (pv 3) pa_nil)) (pe_callB (call_lenOwn (m_Book_len T) hr (by decide)) (by rfl) T.z_len (by decide +kernel) (pa_cons (pv 0) pa_nil)) (nomark _)) (pw_or1 (pt_not (pt_val (pe_f (c__law_entries_right T) hr (by decide) rfl (pa_cons (pv 4) (pa_cons (pv 1) (pa_cons (pv 2) pa_nil)))))))))) (pss_one (ps_ret pe_bl)) pss_nil) (pss_cons (ps_if (pt_cmpR op_ne (pe_callB (call_lenOwn (m_Book_len T) hr (by decide)) (by rfl) T.z_len (by decide +kernel) (pa_cons (pe_m0 (m_Book_fewest T) hr (by decide) (pe_f hH hr (by omega) rfl (pa_cons (pv 0) pa_nil))) pa_nil)) (pe_callB (call_lenOwn (m_Book_len T) hr (by decide)) (by rfl) T.z_len (by decide +kernel) (pa_cons (pv 3) pa_nil)) (nomark _)) (pss_one (ps_ret pe_bl)) pss_nil) (pss_cons (ps_set (i := 5) nd rfl (Or.inl rfl) (pe_callB (SetX.cr_sortedKS rfl) (by rfl) T.z_sorted (by decide +kernel) (pa_cons (pe_callTy (SetX.cr_setOfK rfl) (by rfl) T.z_set (by decide +kernel) (pa_cons (pe_lc (own := [("_law_row", 6)]) (g := gName 6) rfl nd (pi_list (pv 1)) (blkOk_by (own := [("_law_row", 6)]) (N := N__law_few_right) (sc := defScope s__law_few_right) (by decide +kernel)) (fun _ _ _ _ _ => (pg_name (i := 6) nd rfl (Or.inl rfl) (.inr rfl))) (fun _ _ _ _ _ => pts_one (pt_cmpR op_notN (pe_ix (ix_tupK (K := K)) (pv 6) pe_int (fun _ _ => rfl)) pe_non (nomark _))) (fun _ _ _ _ _ => (pe_callTy SkE.call_str_str (by rfl) T.z_str (by decide +kernel) (pa_cons (pe_ix (ix_tupK (K := K)) (pv 6) pe_int (fun _ _ => rfl)) pa_nil)))) pa_nil)) pa_nil))) (pss_cons (ps_if (pt_cmpR op_ne (pe_callB call_len_seq (by rfl) T.z_len (by decide +kernel) (pa_cons (pv 5) pa_nil)) pe_int (nomark _)) (pss_one (ps_ret pe_bl)) pss_nil) (pss_cons (ps_set (i := 7) nd rfl (Or.inl rfl) (pe_m0 (m_Book_covered T) hr (by decide) (pv 0))) (pss_cons (ps_if (pt_cmpR (op_neD hr.units) (pe_fld (pv 7) rfl) (pe_f (c__law_joined T) hr (by decide) rfl (pa_cons (pv 1) (pa_cons (pv 5) pa_nil))) (nomark _)) (pss_one (ps_ret pe_bl)) pss_nil) (pss_one (ps_ret (pe_cmpR (op_eqNets T (hr.mono (by decide))) (pe_lc (own := [("_law_network", 8), ("_law_word", 9)]) (g := gTup K 2 (gCons (gName 8) (gCons (gName 9) gNil))) (tt := tYes) rfl nd (pi_list (pv 4)) (blkOk_by (own := [("_law_network", 8), ("_law_word", 9)]) (N := N__law_few_right) (sc := defScope s__law_few_right) (by decide +kernel)) (fun _ _ _ _ _ => (pg_tup rfl (pgs_cons (pg_name (i := 8) nd rfl (Or.inl rfl) (.inr rfl)) (pgs_cons (pg_name (i := 9) nd rfl (Or.inl rfl) (.inr rfl)) pgs_nil)))) (fun _ _ _ _ _ => pts_nil) (fun _ _ _ _ _ => (pv 8))) (pe_callTy call_list_of (by rfl) T.z_list (by decide +kernel) (pa_cons (pe_prop (pv 7) T.c_Netset T.p_nets hpf (hr.mono (by decide)) hpb .nil pass0 rfl) pa_nil)) (nomark _)))))))))))), ?_⟩
  obtain ⟨db, ob⟩ := bk.ob
  refine ⟨_, rfl, p, db, _, rfl, ob, (by kernel_rfl), rfl, v, p, d, E, us, rfl, bk, tab, by omega, hw, fun p2 d2 H1 pl s1 hpl bk2 => ?_⟩
  have etab := AN.ents_tab hpl ""
  have elen := fewest_le tab hw hpl
  obtain ⟨db2, ob2⟩ := bk2.ob
  refine ⟨_, rfl, p2, db2, _, rfl, ob2, (by kernel_rfl), rfl, v, p2, d2, _, rfl, bk2, tab_nok etab, etab.nd, by omega, fun el H2 F nel s2 pF so laF => ?_⟩
  obtain ⟨fs, hfs, hfp⟩ := laF
  have bk22 := bk2.mono s2
  obtain ⟨db22, ob22⟩ := bk22.ob
  have Fl := pF.length_eq
  have fsl := Paired.len hfp
  have bkb := bk.mono (s1.trans s2)
  obtain ⟨dbb, obb⟩ := bkb.ob
  refine ⟨_, rfl, p2, db22, _, rfl, ob22, rfl, v, p2, d2, _, rfl, bk22, ?_⟩
  have bnd : ∀ n : Nat, n ≤ 5000 → (n : Int) < 2 ^ 63 := fun n hn => by
    have : (2 : Int) ^ 63 = 9223372036854775808 := by decide
    omega
  have nn : ∀ n : Nat, 0 ≤ (n : Int) := fun n => Int.natCast_nonneg n
  refine ⟨_, rfl, nn _, bnd _ (by omega), _, rfl, el, _, rfl, .inl (SqL.of hfs), rfl, _, rfl, ?_⟩
  refine iteNS (congrArg (fun n : Nat => V.int (n : Int)) (by omega)) ?_
  refine ⟨_, rfl, p2, db22, _, rfl, ob22, rfl, v, p2, d2, _, rfl, bk22, _, rfl, nn _, bnd _ (by omega), ?_⟩
  refine ⟨_, rfl, p, dbb, _, rfl, obb, rfl, v, p, d, E, rfl, bkb, _, rfl, nn _, bnd _ (by omega), _, _, rfl, rfl, _, rfl, ?_⟩
  rw [decide_eq_false (show ¬ ((E.length : Int) < ((AN.ents pl 0 (Wd v) "").length : Int)) by omega)]
  have tabF := etab.perm pF.symm
  have lookF : ∀ x, 0 ≤ x → x < AN.P (Wd v) → AN.look (Wd v) F x = AN.look (Wd v) E x := fun x h0 h1 => by
    rw [AN.look_perm tabF.nd pF x]
    exact AN.few_look (nosome tab hw) hpl h0 h1
  have syF : AN.Says rs (AN.look (Wd v) F) := fun r hr x h0 h1 => by
    have rm := sg.mem r hr
    rw [lookF x (by omega) (by omega)]
    exact sy r hr x h0 h1
  have s02 := s1.trans s2
  refine iteF ⟨_, rfl, _, rfl, _, rfl, rfl, v, el, rg, F, rs, rfl, ⟨_, hfs, hfp⟩, tabF, by omega, LA.mono TupR.kp s02 ⟨_, hrg, hrp⟩, rsl, sg, syF, fun H3 s3 => ⟨true, rfl, iteF ?_⟩⟩
  have bk3 := bkb.mono s3
  refine ⟨_, rfl, rfl, v, p, d, E, us, rfl, bk3, tab, dj, by omega, hw, fun p3 d3 H4 E' s4 pE bk4 => ?_⟩
  obtain ⟨db4, ob4⟩ := bk4.ob
  have tab' := tab.perm pE.symm
  have dj' := AN.dj_perm pE.symm dj
  have tabv := AN.hvs_tab tab' dj'
  have hw' := words_hv pE hw
  have lookv : ∀ x, AN.look (Wd v) (E'.flatMap AN.hv) x = AN.look (Wd v) E x := fun x => by
    rw [AN.hvs_look tab' dj' x]
    exact AN.look_perm tab'.nd pE x
  have vlen := AN.hv_len E'
  have El := pE.length_eq
  refine ⟨p3, db4, _, rfl, ob4, (by kernel_rfl), rfl, v, p3, d3, _, us, rfl, bk4, tabv, by omega, hw', fun p4 d4 H5 pl2 s5 hpl2 bk5 => ?_⟩
  obtain ⟨db5, ob5⟩ := bk5.ob
  have s25 := s3.trans (s4.trans s5)
  have bk25 := bk22.mono s25
  obtain ⟨db25, ob25⟩ := bk25.ob
  have l1 := few_le2 tab hw tabv hw' lookv hpl hpl2
  have l2 := few_le2 tabv hw' tab hw (fun x => (lookv x).symm) hpl2 hpl
  refine ⟨p4, db5, _, rfl, ob5, rfl, v, p4, d4, _, rfl, bk5, _, rfl, nn _, bnd _ (by omega), ?_⟩
  refine ⟨_, rfl, p2, db25, _, rfl, ob25, rfl, v, p2, d2, _, rfl, bk25, _, rfl, nn _, bnd _ (by omega), rfl, _, rfl, ?_⟩
  refine iteNS (congrArg (fun n : Nat => V.int (n : Int)) (by omega)) ?_
  have s05 := s02.trans s25
  refine ⟨_, rfl, rg, rfl, ⟨_, SqL.of (s05 _ _ hrg)⟩, fun D nD => ?_⟩
  refine lc_filt (Rb := SdR) SdR.kp walk_list rs (fun r => r.2.2.isSome) (Paired.len hrp).symm (by rw [Paired.len hrp]; omega) nD (fun H' s => SqL.of (s _ _ (s05 _ _ hrg))) ?_ ?_
  · rintro i x r H6 H7 QE QN hi hr2 s6 ⟨rfl, hx⟩ ce cn
    obtain ⟨r2, hr3, t, rfl, ht⟩ := Paired.at hrp hx
    rw [hr2] at hr3
    cases hr3
    refine ⟨rfl, _, rfl, t, _, _, _, rfl, rfl, SqT.of (s6 _ _ (s05 _ _ ht)), rfl, rfl, ?_⟩
    rw [oV_notnon]
    refine ⟨_, rfl, ?_⟩
    refine ite2 (fun c => ?_) (fun c => ?_)
    · cases hz : r.2.2 with
      | none => rw [hz] at c; cases c
      | some z =>
        have := ce (.str z) _ (Same.refl _) (by rw [hz]; rfl) (by show V.str z = .str (r.2.2.getD ""); rw [hz]; rfl)
        exact ⟨_, rfl, t, _, _, _, rfl, rfl, SqT.of (s6 _ _ (s05 _ _ ht)), rfl, z, by rw [hz]; rfl, this⟩
    · exact cn _ (Same.refl _) (Bool.eq_false_iff.mpr c)
  rintro H6 s6 ⟨zs, hzs, hzp⟩
  rw [sds_eq hzp] at hzs
  have fl := List.length_filter_le (fun r : AN.Row Str => r.2.2.isSome) rs
  refine ⟨D, (rs.filter fun r => r.2.2.isSome).map (fun r => Sum.inr (r.2.2.getD "")), rfl, ?_, ?_, fun m js nm hjs hjl => ?_⟩
  · rw [List.map_map]
    exact SqL.of hzs
  · rw [List.length_map]
    have : scanBound = 4096 := rfl
    omega
  refine ⟨m, js, rfl, upd_same, fun k hk => ?_, fun ns m2 hs hnd hmem hnl nm2 => ?_⟩
  · obtain ⟨y, _, e⟩ := List.mem_map.mp ((hjs k).mp hk)
    exact ⟨_, e.symm⟩
  have mem : ∀ z, z ∈ ns ↔ hasW rs z := fun z => by
    rw [hmem, hjs, List.mem_map]
    constructor
    · rintro ⟨r, hr, e⟩
      obtain ⟨h1, h2⟩ := List.mem_filter.mp hr
      refine ⟨r, h1, ?_⟩
      cases hz : r.2.2 with
      | none => rw [hz] at h2; cases h2
      | some y => rw [hz] at e; exact congrArg some (Sum.inr.inj e)
    · rintro ⟨r, hr, e⟩
      exact ⟨r, List.mem_filter.mpr ⟨hr, by rw [e]; rfl⟩, by rw [e]; rfl⟩
  have s7 : Same H5 (upd (upd H6 m (SetX.SetLO P w m js)) m2 (.lst (ns.map V.str))) := s6.trans ((Same.new nm).trans (Same.new nm2))
  refine ⟨_, rfl, m2, _, rfl, .inl (SqL.of upd_same), rfl, _, rfl, ?_⟩
  rw [List.length_map]
  by_cases n1 : ns.length = 1
  · refine iteNS (congrArg (fun n : Nat => V.int (n : Int)) n1) ?_
    have hm2 : (upd (upd H6 m (SetX.SetLO P w m js)) m2 (.lst (ns.map V.str))) m2 = some (.lst (ns.map V.str)) := upd_same
    have s07 := s05.trans s7
    obtain ⟨z, hz1⟩ : ∃ z, ns = [z] := len1 n1
    have gz1 : ∀ x, 0 ≤ x → x < AN.P (Wd v) → AN.look (Wd v) E x = none ∨ AN.look (Wd v) E x = some z := fun x h0 h1 => by
      obtain ⟨r, hr, a1, a2⟩ := sg.cover x h0 h1
      have e := sy r hr x a1 a2
      cases hz : r.2.2 with
      | none => rw [hz] at e; exact .inl e
      | some y =>
        rw [hz] at e
        have : y ∈ ns := (mem y).mpr ⟨r, hr, hz⟩
        rw [hz1, List.mem_singleton] at this
        rw [this] at e
        exact .inr e
    have zne : z ≠ ("" : Str) := by
      obtain ⟨r, hr, hz⟩ := (mem z).mp (by rw [hz1]; exact List.mem_singleton.mpr rfl)
      have rm := sg.mem r hr
      have e := sy r hr r.1 (Int.le_refl _) rm.2.1
      rw [hz] at e
      intro c
      rw [c] at e
      exact nosome tab hw _ e
    have bk7 : BookAt K v (upd (upd H6 m (SetX.SetLO P w m js)) m2 (.lst (ns.map V.str))) p d E := bk.mono s07
    obtain ⟨db7, ob7⟩ := bk7.ob
    have hr7 : LA RowR (upd (upd H6 m (SetX.SetLO P w m js)) m2 (.lst (ns.map V.str))) rg rs := LA.mono TupR.kp s07 ⟨_, hrg, hrp⟩
    refine ⟨_, rfl, p, db7, _, rfl, ob7, (by kernel_rfl), rfl, v, p, d, E, rfl, bk7, tab, by omega, fun sn t us' H8 rs' s8 sg' sy' hlen' nset pr => ?_⟩
    obtain ⟨dn, sz, hs4, ht4⟩ := id nset
    refine ⟨_, rfl, sn, _, dn, _, _, rfl, hs4, T.c_Netset, T.n_Netset_ranges, nsetF_ranges v t sz, _, rfl, _, rfl, rfl, rg, m2, rs, ns, rfl, LA.mono TupR.kp s8 hr7, by omega, s8 _ _ hm2, fun t2 H9 us2 nt2 s9 ht9 pr9 => ?_⟩
    have e1 : AN.jn (AN.sel (inW ns) rs) = AN.jn (AN.sel Option.isSome rs') := AN.jn_sel sg sy sg' sy' fun x h0 h1 => by
      rw [hz1, inW_one]
      rcases gz1 x h0 h1 with e | e
      · rw [e]; exact decide_eq_false (fun c => nomatch c)
      · rw [e]; exact decide_eq_true rfl
    rw [e1] at pr9
    refine ne_rgs (s9 _ _ ht4) (Paired.kp TupR.kp (.of s9) pr) ht9 pr9 ?_
    refine ⟨_, rfl, iteF ?_⟩
    have s79 := s7.trans (s8.trans s9)
    have s29 := s25.trans s79
    have s09 := s05.trans s79
    have hf9 := s29 _ _ hfs
    have hfp9 := Paired.kp EnR.kp (.of s29) hfp
    refine ⟨_, rfl, el, rfl, ⟨_, SqL.of hf9⟩, fun D2 nD2 => ?_⟩
    refine lc_map (Rb := NetR K v) NetR.kp walk_list (F.map (·.1)) (by rw [List.length_map]; exact fsl.symm) (by rw [fsl]; omega) nD2 (fun H' s => SqL.of (s _ _ hf9)) ?_ ?_
    · rintro i x b Ha Hb Q' hi hb sa ⟨rfl, hx⟩ cont
      obtain ⟨e, he, t3, a3, rfl, ht3, net3⟩ := Paired.at hfp9 hx
      rw [List.getElem?_map, he] at hb
      cases hb
      exact ⟨Same.refl _, t3, _, rfl, SqT.of (sa _ _ ht3), rfl, _, _, rfl, _, _, rfl, rfl, rfl, _, rfl, cont _ _ (Same.refl _) (Same.refl _) ⟨a3, rfl, net3.mono sa⟩⟩
    · rintro Ha sa ⟨ws3, hws3, hwp3⟩
      have s8a := s9.trans sa
      have jl := AN.jn_len (AN.sel Option.isSome rs')
      have sl := sel_len Option.isSome rs'
      have ji := AN.jn_ji (AN.sel_asc (p := Option.isSome) sg')
      have jin : ∀ x, AN.InR (AN.jn (AN.sel Option.isSome rs')) x ↔ 0 ≤ x ∧ x < AN.P (Wd v) ∧ gz (AN.look (Wd v) E) x = z := fun x => by
        rw [ji.same, AN.sel_in sg' sy']
        refine and_congr_right fun h0 => and_congr_right fun h1 => ?_
        unfold gz
        rcases gz1 x h0 h1 with e | e
        · rw [e]
          exact ⟨(fun c => by cases c), (fun c => (zne c.symm).elim)⟩
        · rw [e]
          exact ⟨fun _ => rfl, fun _ => rfl⟩
      refine ⟨_, rfl, sn, dn, _, rfl, s8a _ _ hs4, rfl, v, sn, t, us', _, rfl, ⟨dn, sz, s8a _ _ hs4, s8a _ _ ht4⟩, Paired.kp TupR.kp (.of s8a) pr, by omega, ?_, fun pp ws4 Hc sc hpp hwp4 => ?_⟩
      · intro r hr
        have rl := ji.asc.le r hr
        have i1 := (jin r.1).mp ⟨r, hr, Int.le_refl _, rl⟩
        have i2 := (jin r.2).mp ⟨r, hr, rl, Int.le_refl _⟩
        exact ⟨i1.1, i2.2.1⟩
      · refine ⟨pp, ws4, rfl, .inr (SqT.of hpp), fun l2' nl2 => ?_⟩
        have eF : F = AN.ents pl 0 (Wd v) "" := AN.ord_uniq (lex_bef so) (AN.ents_asc hpl "" (Int.dvd_zero _)) pF
        have eN : F.map (·.1) = AN.runP (Wd v) (AN.jn (AN.sel Option.isSome rs')) := by
          rw [eF]
          refine AN.one_nets zne hpl (fun x h0 h1 => ?_) ji.asc jin
          unfold gz
          rcases gz1 x h0 h1 with e | e
          · rw [e]; exact .inl rfl
          · rw [e]; exact .inr rfl
        rw [← eN] at hwp4
        have sl2 : Same Hc (upd Hc l2' (.lst ws4)) := Same.new nl2
        have sca := sc.trans sl2
        refine ⟨⟨D2, l2', _, _, rfl, rfl, sca _ _ hws3, upd_same, ?_, prs_of (Paired.kp NetR.kp (.of sca) hwp3) (Paired.kp NetR.kp (.of sl2) hwp4)⟩, fun H' e => q H' ?_⟩
        · rw [Paired.len hwp3, Paired.len hwp4]
        · exact s09.trans (sa.trans (sca.trans e))
  · have : (!decide (V.int (ns.length : Int) = V.int 1)) = true := by
      rw [dec_int_eq, decide_eq_false (by omega)]
      rfl
    rw [this]
    exact iteT (q _ (s05.trans s7))
end
end AH
/-! W37a -/
set_option Elab.async false
set_option linter.all false
set_option maxRecDepth 100000
set_option maxHeartbeats 4000000
namespace AH
open PySem PySem.Spec PyProof.Rows L2 He
/-! ### one row changed, and back -/
theorem mem_put {E : List (AN.Ent Str)} {b : Int × Nat} {y : Str} {e : AN.Ent Str} : e ∈ putE E b y ↔ e = (b, y) ∨ (e.1 ≠ b ∧ e ∈ E) := by
  unfold putE
  cases hv : AN.val E b with
  | none =>
    rw [if_neg (by decide), List.mem_append, List.mem_singleton]
    constructor
    · rintro (h | h)
      · exact .inr ⟨fun c => AN.val_none hv e.2 (by rw [← c]; exact h), h⟩
      · exact .inl h
    · rintro (h | ⟨_, h⟩)
      · exact .inr h
      · exact .inl h
  | some w =>
    rw [if_pos (show (Option.some w).isSome = true from rfl), List.mem_map]
    constructor
    · rintro ⟨d, hd, rfl⟩
      by_cases c : d.1 = b
      · rw [if_pos c]; exact .inl (by rw [c])
      · rw [if_neg c]; exact .inr ⟨c, hd⟩
    · rintro (h | ⟨h1, h2⟩)
      · exact ⟨(b, w), AN.val_some hv, by rw [if_pos rfl]; exact h.symm⟩
      · exact ⟨e, h2, by rw [if_neg h1]⟩
theorem nd_put {E : List (AN.Ent Str)} {b : Int × Nat} {y : Str} (h : (E.map (·.1)).Nodup) : ((putE E b y).map (·.1)).Nodup := by
  unfold putE
  cases hv : AN.val E b with
  | none =>
    rw [if_neg (by decide), List.map_append, List.nodup_append]
    refine ⟨h, List.nodup_cons.mpr ⟨List.not_mem_nil, List.nodup_nil⟩, fun a ha c hc e => ?_⟩
    obtain ⟨d, hd, rfl⟩ := List.mem_map.mp ha
    have hc := List.mem_singleton.mp hc
    exact AN.val_none hv d.2 (by rw [← show d.1 = b from e.trans hc]; exact hd)
  | some w =>
    rw [if_pos (show (Option.some w).isSome = true from rfl), List.map_map]
    have : ((fun e : AN.Ent Str => e.1) ∘ fun e => if e.1 = b then (e.1, y) else e) = fun e => e.1 := funext fun e => by
      show (if e.1 = b then (e.1, y) else e).1 = e.1
      by_cases c : e.1 = b
      · rw [if_pos c]
      · rw [if_neg c]
    rw [this]
    exact h
theorem len_put {E : List (AN.Ent Str)} {b : Int × Nat} {y : Str} : (putE E b y).length ≤ E.length + 1 := by
  unfold putE
  split
  · rw [List.length_map]; omega
  · rw [List.length_append]; exact Nat.le_refl _
theorem mem_drop {E : List (AN.Ent Str)} {b : Int × Nat} {e : AN.Ent Str} : e ∈ dropE E b ↔ e.1 ≠ b ∧ e ∈ E := by
  unfold dropE
  rw [List.mem_filter, decide_eq_true_iff]
  exact And.comm
theorem nd_drop {E : List (AN.Ent Str)} {b : Int × Nat} (h : (E.map (·.1)).Nodup) : ((dropE E b).map (·.1)).Nodup := h.sublist (List.filter_sublist.map _)
theorem same_perm {E E2 : List (AN.Ent Str)} (n2 : (E2.map (·.1)).Nodup) (p : E.Perm E2) : sameE E E2 = true := by
  unfold sameE
  rw [Bool.and_eq_true, beq_iff_eq, List.all_eq_true]
  exact ⟨p.length_eq, fun e he => decide_eq_true (AN.val_of n2 (p.mem_iff.mp he))⟩
theorem nodup_of_keys {E : List (AN.Ent Str)} (h : (E.map (·.1)).Nodup) : E.Nodup := SetX.nd_of_map h
theorem perm_mem {E E2 : List (AN.Ent Str)} (n1 : (E.map (·.1)).Nodup) (n2 : (E2.map (·.1)).Nodup) (h : ∀ e, e ∈ E ↔ e ∈ E2) : E.Perm E2 :=
  (List.perm_ext_iff_of_nodup (nodup_of_keys n1) (nodup_of_keys n2)).mpr h
/-- changed back, piece by piece: done: the pieces done; w: the word that the row had -/
def Back (w : Option Str) (E2 : List (AN.Ent Str)) (done : List (Int × Nat)) (F : List (AN.Ent Str)) : Prop :=
  (F.map (·.1)).Nodup ∧ F.length ≤ E2.length + done.length ∧ ∀ e, e ∈ F ↔ (e.1 ∈ done ∧ w = some e.2) ∨ (e.1 ∉ done ∧ e ∈ E2)
theorem Back.zero {w : Option Str} {E2 : List (AN.Ent Str)} (h : (E2.map (·.1)).Nodup) : Back w E2 [] E2 :=
  ⟨h, Nat.le_refl _, fun e => ⟨fun q => .inr ⟨List.not_mem_nil, q⟩, fun q => q.elim (fun c => (nomatch c.1)) fun c => c.2⟩⟩
theorem Back.put {y : Str} {E2 F : List (AN.Ent Str)} {done : List (Int × Nat)} {b : Int × Nat} (h : Back (some y) E2 done F) : Back (some y) E2 (done ++ [b]) (putE F b y) := by
  obtain ⟨h1, h2, h3⟩ := h
  refine ⟨nd_put h1, ?_, fun e => ?_⟩
  · have := len_put (E := F) (b := b) (y := y)
    rw [List.length_append]
    show _ ≤ _ + (_ + 1)
    omega
  · rw [mem_put, h3, List.mem_append, List.mem_singleton]
    by_cases c : e.1 = b
    · constructor
      · rintro (q | ⟨q, _⟩)
        · exact .inl ⟨.inr c, by rw [q]⟩
        · exact (q c).elim
      · rintro (⟨_, q⟩ | ⟨q, _⟩)
        · exact .inl (by rw [← c, Option.some.inj q])
        · exact (q (.inr c)).elim
    · constructor
      · rintro (q | ⟨_, q | q⟩)
        · exact (c (by rw [q])).elim
        · exact .inl ⟨.inl q.1, q.2⟩
        · exact .inr ⟨fun z => z.elim q.1 c, q.2⟩
      · rintro (⟨q1 | q1, q2⟩ | ⟨q1, q2⟩)
        · exact .inr ⟨c, .inl ⟨q1, q2⟩⟩
        · exact (c q1).elim
        · exact .inr ⟨c, .inr ⟨fun z => q1 (.inl z), q2⟩⟩
theorem Back.drop {E2 F : List (AN.Ent Str)} {done : List (Int × Nat)} {b : Int × Nat} (h : Back none E2 done F) : Back none E2 (done ++ [b]) (dropE F b) := by
  obtain ⟨h1, h2, h3⟩ := h
  refine ⟨nd_drop h1, ?_, fun e => ?_⟩
  · have := List.length_filter_le (fun e : AN.Ent Str => decide (e.1 ≠ b)) F
    rw [List.length_append]
    show (F.filter _).length ≤ _
    omega
  · rw [mem_drop, h3, List.mem_append, List.mem_singleton]
    constructor
    · rintro ⟨c, ⟨_, q⟩ | ⟨q1, q2⟩⟩
      · cases q
      · exact .inr ⟨fun z => z.elim q1 c, q2⟩
    · rintro (⟨_, q⟩ | ⟨q1, q2⟩)
      · cases q
      · exact ⟨fun z => q1 (.inr z), .inr ⟨fun z => q1 (.inl z), q2⟩⟩
/-- all pieces done: the table is as it was -/
theorem Back.all {W : Nat} {pre post : List (AN.Row Str)} {lo hi : Int} {w o : Option Str} (sg : AN.Seg (pre ++ (lo, hi, w) :: post) 0 (AN.P W)) {E E2 F : List (AN.Ent Str)} (pE : E.Perm (AN.allP W (pre ++ (lo, hi, w) :: post))) (pE2 : E2.Perm (AN.allP W (pre ++ (lo, hi, o) :: post)))
    (h : Back w E2 (AN.pcs W lo hi) F) : F.Perm E := by
  have T := (AN.allP_tab sg).perm pE.symm
  refine perm_mem h.1 T.nd fun e => ?_
  rw [h.2.2, pE.mem_iff, pE2.mem_iff]
  have T1 := AN.allP_tab sg
  have T2 := AN.allP_tab (sg.swap (o := o))
  by_cases c : e.1 ∈ AN.pcs W lo hi
  · have hv := AN.val_row sg (r := (lo, hi, w)) (List.mem_append_right _ List.mem_cons_self) c
    constructor
    · rintro (⟨_, q⟩ | ⟨q, _⟩)
      · rw [show (lo, hi, w).2.2 = some e.2 from q] at hv
        exact AN.val_some hv
      · exact (q c).elim
    · intro q
      have := AN.val_of T1.nd (show (e.1, e.2) ∈ _ from q)
      rw [hv] at this
      exact .inl ⟨c, this⟩
  · have hv := AN.val_swap (o := o) sg c
    constructor
    · rintro (⟨q, _⟩ | ⟨_, q⟩)
      · exact (c q).elim
      · have := AN.val_of T2.nd (show (e.1, e.2) ∈ _ from q)
        rw [hv] at this
        exact AN.val_some this
    · intro q
      have := AN.val_of T1.nd (show (e.1, e.2) ∈ _ from q)
      rw [← hv] at this
      exact .inr ⟨c, AN.val_some this⟩
end AH
/-! W37 -/
set_option Elab.async false
set_option linter.all false
set_option maxRecDepth 100000
set_option maxHeartbeats 4000000
namespace AH
open PySem PySem.Spec PyProof.Rows L2 He
/-! ### one row changed -/
theorem op_neAdr {X : Cx} {j : Nat} (T : Cxt X.K X.mg) (v : Bool) (hr : Room j X.A) (hj : 2 ≤ j) : OpR X (compareOp .NotEq) (rNeOwn (aC X.K v) (Spn 2 (sp_eqA X.K v))) := by
  cases v with
  | false => exact op_neOwn (m_Address4_eq T) hr hj T.r_Address4 T.ne_Address4
  | true => exact op_neOwn (m_Address6_eq T) hr hj T.r_Address6 T.ne_Address6
theorem cut_take {xs : List V} {k : Nat} : cutV xs none (some (k : Int)) = xs.take k := by
  unfold cutV
  have e1 : HT.sIx xs.length xs.length (some (k : Int)) = min k xs.length := HT.sIx_nat xs.length xs.length k
  rw [HT.sIx_none, e1]
  show List.take (min k xs.length - 0) (List.drop 0 xs) = _
  rw [Nat.sub_zero, List.drop_zero, ← List.take_take, List.take_length]
theorem cut_drop {xs : List V} {k : Nat} (h : k ≤ xs.length) : cutV xs (some (k : Int)) none = xs.drop k := by
  unfold cutV
  have e1 : HT.sIx xs.length 0 (some (k : Int)) = min k xs.length := HT.sIx_nat xs.length 0 k
  rw [HT.sIx_none, e1, Nat.min_eq_left h, List.take_of_length_le (by rw [List.length_drop]; exact Nat.le_refl _)]
theorem split_at' {α : Type} : ∀ {l : List α} {k : Nat} {r : α}, l[k]? = some r → l = l.take k ++ r :: l.drop (k + 1)
  | _ :: _, 0, _, h => by cases h; rfl
  | a :: l, k + 1, r, h => by
    have ih := split_at' (l := l) (k := k) (r := r) h
    show a :: l = a :: (l.take k ++ r :: l.drop (k + 1))
    rw [← ih]
theorem allP_mid {W : Nat} (pre post : List (AN.Row Str)) (x : AN.Row Str) : AN.allP W (pre ++ x :: post) = AN.allP W pre ++ (AN.rowP W x ++ AN.allP W post) := by
  unfold AN.allP
  rw [List.flatMap_append, List.flatMap_cons]
theorem rowP_some {W : Nat} {lo hi : Int} {z : Str} : (AN.rowP W (lo, hi, some z)).length = (AN.pcs W lo hi).length := List.length_map ..
theorem rowP_le {W : Nat} {lo hi : Int} (o : Option Str) : (AN.rowP W (lo, hi, o)).length ≤ (AN.pcs W lo hi).length := by
  cases o with
  | none => exact Nat.zero_le _
  | some z => exact Nat.le_of_eq rowP_some
/-- the changed table is another -/
theorem chg_same {W : Nat} {pre post : List (AN.Row Str)} {lo hi : Int} {w o : Option Str} (hl : lo ≤ hi) (sg : AN.Seg (pre ++ (lo, hi, w) :: post) 0 (AN.P W)) (ne : o ≠ w) {E E2 : List (AN.Ent Str)} (pE : E.Perm (AN.allP W (pre ++ (lo, hi, w) :: post))) (pE2 : E2.Perm (AN.allP W (pre ++ (lo, hi, o) :: post))) : sameE E2 E = false := by
  obtain ⟨k, hb⟩ := AN.pcs_first (W := W) hl
  have T1 := AN.allP_tab sg
  have T2 := AN.allP_tab (sg.swap (o := o))
  cases hs : sameE E2 E with
  | false => rfl
  | true =>
    unfold sameE at hs
    obtain ⟨h1, h2⟩ := Bool.and_eq_true_iff.mp hs
    have h1 := eq_of_beq h1
    cases o with
    | some z =>
      have hm : ((lo, k), z) ∈ E2 := pE2.mem_iff.mpr (AN.mem_allP.mpr ⟨(lo, hi, some z), List.mem_append_right _ List.mem_cons_self, hb, rfl⟩)
      have h3 := of_decide_eq_true (List.all_eq_true.mp h2 _ hm)
      have h4 : AN.val E (lo, k) = w := by
        rw [AN.val_perm ((T1.perm pE.symm).nd) pE]
        exact AN.val_row sg (r := (lo, hi, w)) (List.mem_append_right _ List.mem_cons_self) hb
      exact (ne (h3.symm.trans h4)).elim
    | none =>
      cases w with
      | none => exact (ne rfl).elim
      | some y =>
        have l1 := pE.length_eq
        have l2 := pE2.length_eq
        rw [allP_mid, List.length_append, List.length_append] at l1 l2
        have l3 : (AN.rowP W (lo, hi, some y)).length = (AN.pcs W lo hi).length := rowP_some
        have l4 : (AN.rowP W (lo, hi, (none : Option Str))).length = 0 := rfl
        have l5 := List.length_pos_of_mem hb
        omega
abbrev OoR : RVT (Option Str) := fun _ v o => v = oV o
theorem OoR.kp : Kp OoR := fun _ _ _ _ _ h => h
theorem oos_eq {H : Hp} : ∀ {vs : List V} {os : List (Option Str)}, Paired (OoR H) vs os → vs = os.map oV
  | _, _, .nil => rfl
  | _, _, .cons r t => by rw [r, oos_eq t]; rfl
section
variable {P : Program} {w : World} {K : PySem.W.Frag} {mg : Str → Option Value} {base : Heap}
def sp_changed (K : PySem.W.Frag) : Sp := fun vs H Q _ => ∃ (v : Bool) (l p d rg a : Addr) (E : List (AN.Ent Str)) (rs : List (AN.Row Str)) (ws : List Str), vs = [.ref l, .ref p, .ref rg, .ref a, .int (Wd v : Int)] ∧ WellAt H l ∧ BookAt K v H p d E ∧
  E.Perm (AN.allP (Wd v) rs) ∧ LA RowR H rg rs ∧ RsOk v ws rs ∧ H a = some (.lst (ws.map V.str)) ∧ WrdsOk ws ∧ ∀ H', But l H H' → Q (.bl true) H'
abbrev N__law_changed_right : List Str := ["_law_well_here", "_law_book_here", "_law_ranges_here", "_law_words_here", "_law_width", "_law_at", "_law_low", "_law_high", "_law_word", "_law_some", "_law_one", "_law_other", "_law_changed", "_law_second", "_law_network"]
theorem sc__law_changed_right : FnScope N__law_changed_right ["_law_well_here", "_law_book_here", "_law_ranges_here", "_law_words_here", "_law_width"] (defScope s__law_changed_right) := ⟨rfl, rfl, rfl, by decide +kernel, rfl, by decide +kernel, by decide +kernel⟩
theorem c__law_changed_right (T : Cxt K mg) : Cal P w K mg base 14 "_law_changed_right" (Spn 5 (sp_changed K)) [] := by
  obtain ⟨fd, F⟩ := T.F__law_changed_right
  refine calN F T.g__law_changed_right sc__law_changed_right rfl (fun _ _ _ _ _ _ us hl => match us, hl with | [_, _, _, _, _], _ => rfl) (fun cdv A outer s H vs Q E hr h => ?_)
  have nd := sc__law_changed_right.nd
  have hu := hu_of hr
  obtain ⟨v, l, p, d, rg, a, E, rs, ws, rfl, wl, bk, pE, ⟨vs, hrg, hrp⟩, rok, ha, wok, q⟩ := h
  refine ⟨_, (pss_cons (ps_set (i := 5) nd rfl (Or.inl rfl) (pe_f (c__law_draw T) hr (by decide) rfl (pa_cons (pv 0) (pa_cons (pe_callB call_len_seq (by rfl) T.z_len (by decide +kernel) (pa_cons (pv 2) pa_nil)) pa_nil)))) (pss_cons (ps_asg (pe_ix ix_list (pv 2) (pv 5) (fun _ _ => rfl)) (pg_tup rfl (pgs_cons (pg_name (i := 6) nd rfl (Or.inl rfl)) (pgs_cons (pg_name (i := 7) nd rfl (Or.inl rfl)) (pgs_cons (pg_name (i := 8) nd rfl (Or.inr rfl)) pgs_nil))))) (pss_cons (ps_if (pt_cmpR op_gt (pe_f (c__law_pieces T) hr (by decide) rfl (pa_cons (pv 6) (pa_cons (pv 7) pa_nil))) pe_int (nomark _)) (pss_one (ps_ret pe_bl)) pss_nil) (pss_cons (ps_setLc (i := 9) (own := [("_law_one", 10)]) (g := gName 10) (by rfl) nd rfl rfl (sw_true rfl rfl rfl (by decide +kernel)) (pi_list (pe_op op_cat (pv 3) (pe_lst (pa_cons pe_non (pa_cons pe_str pa_nil))))) (blkOk_by (own := [("_law_one", 10)]) (N := N__law_changed_right) (sc := defScope s__law_changed_right) (by decide +kernel)) (fun _ _ _ _ _ => (pg_name (i := 10) nd rfl (Or.inl rfl) (.inr rfl))) (fun _ _ _ _ _ => pts_one (pt_cmpR op_ne (pv 10) (pv 8) (nomark _))) (fun _ _ _ _ _ => (pv 10))) (pss_cons (ps_set (i := 11) nd rfl (Or.inl rfl) (pe_ix ix_list (pv 9) (pe_f (c__law_draw T) hr (by decide) rfl (pa_cons (pv 0) (pa_cons (pe_callB call_len_seq (by rfl) T.z_len (by decide +kernel) (pa_cons (pv 9) pa_nil)) pa_nil))) (fun _ _ => rfl))) (pss_cons (ps_set (i := 12) nd rfl (Or.inl rfl) (pe_op op_cat (pe_op op_cat (pe_slice sl_list (pv 2) po_none (po_some (pv 5))) (pe_lst (pa_cons (pe_tup (pa_cons (pv 6) (pa_cons (pv 7) (pa_cons (pv 11) pa_nil)))) pa_nil))) (pe_slice sl_list (pv 2) (po_some (pe_op op_add (pv 5) pe_int)) po_none))) (pss_cons (ps_set (i := 13) nd rfl (Or.inl rfl) (pe_ix ix_tup (pe_f (c__law_book T) hr (by decide) rfl (pa_cons (pv 0) (pa_cons (pv 12) (pa_cons (pv 4) pa_nil)))) pe_int (fun _ _ => rfl))) (pss_cons (ps_if (PW.pt (pw_or (pt_cmpR (op_neAdr T v hr (by decide)) (pe_m (m_Book_differs T) hr (by decide) (pv 13) (pa_cons (pv 1) pa_nil)) (pe_f (c__law_address T) hr (by decide) rfl (pa_cons (pv 6) (pa_cons (pv 4) pa_nil))) (nomark _)) (pw_or1 (pt_cmpR (op_ownE (m_Book_eq T) hr (by decide)) (pv 13) (pv 1) (nomark _))))) (pss_one (ps_ret pe_bl)) pss_nil) (pss_cons (ps_if (pt_not (pt_val (pe_f (c__law_points_right T) hr (by decide) rfl (pa_cons (pv 13) (pa_cons (pv 12) (pa_cons (pv 4) pa_nil)))))) (pss_one (ps_ret pe_bl)) pss_nil) (pss_cons (ps_for PassesOwn.never rfl (pi_list (pe_f (c__law_summed T) hr (by decide) rfl (pa_cons (pe_ix ix_list (pv 2) (pv 5) (fun _ _ => rfl)) (pa_cons (pv 4) pa_nil)))) (pg_name (i := 14) nd rfl (Or.inl rfl)) (pss_one (ps_if (pt_cmpR op_isN (pv 8) pe_non (nomark _)) (pss_one (ps_expr (pe_m (m_Book_forget T) hr (by decide) (pv 13) (pa_cons (pv 14) pa_nil)))) (pss_one (ps_asg (pv 8) (pg_sub (pv 13) (pv 14) (set_own (m_Book_setitem T) hr (by decide) T.seq_Book))))))) (pss_one (ps_ret (pe_cmpR (op_ownE (m_Book_eq T) hr (by decide)) (pv 13) (pv 1) (nomark _)))))))))))))), ?_⟩
  have tab := (AN.allP_tab rok.seg).perm pE.symm
  have al := wl.neS ha
  have rlen := rok.len
  have hrg1 : LA RowR H rg rs := ⟨vs, hrg, hrp⟩
  have rgl := wl.neR hrg1
  have rpos : 0 < rs.length := by
    cases hr0 : rs with
    | nil =>
      have := rok.seg
      rw [hr0] at this
      have pp := AN.P_pos (Wd v)
      have e : (0 : Int) = AN.P (Wd v) := this
      omega
    | cons _ _ => exact Nat.zero_lt_succ _
  have vl := Paired.len hrp
  refine ⟨_, rfl, _, rfl, rg, _, rfl, .inl (SqL.of hrg), rfl, l, _, rfl, wl, by omega, by omega, fun j H1 j0 j1 b1 wl1 => ?_⟩
  obtain ⟨k, rfl⟩ := Int.eq_ofNat_of_zero_le j0
  have hk : k < rs.length := by omega
  have hrk : rs[k]? = some rs[k] := List.getElem?_eq_getElem hk
  generalize rs[k] = r at hrk
  obtain ⟨x, hx, hrx⟩ := Paired.at' hrp hrk
  have hrgA := b1 _ _ hrg rgl
  have hrpA : Paired (RowR H1) vs rs := Paired.kp TupR.kp (Fx.well wl b1) hrp
  obtain ⟨t, rfl, ht⟩ := RowR.but wl b1 hrx
  refine ⟨_, rfl, _, rfl, rg, _, _, _, rfl, rfl, SqL.of hrgA, atI_nat hx, t, _, rfl, SqT.of ht, rfl, _, _, rfl, _, _, rfl, _, _, rfl, rfl, ?_⟩
  have rm := rok.seg.mem r (List.mem_of_getElem? hrk)
  refine ⟨_, rfl, _, rfl, rfl, v, r.1, r.2.1, rfl, rm.1, rm.2.1, rm.2.2, fun many hm => ⟨_, _, rfl, rfl, _, rfl, ?_⟩⟩
  refine ite2 (fun c => q _ b1) (fun c => ?_)
  have c : many ≤ 90 := by
    have := of_decide_eq_false (Bool.eq_false_iff.mpr c)
    omega
  have haA := b1 _ _ ha al
  refine ⟨_, rfl, by show 2 ≤ sizeLine; decide, fun m nm => ?_⟩
  have sm : Same H1 (upd H1 m (.lst [.non, .str "other"])) := Same.new nm
  refine ⟨a, m, _, _, rfl, rfl, sm _ _ haA, upd_same, ?_, fun m3 nm3 => ?_⟩
  · have := wok.len
    rw [List.length_map]
    have : sizeLine = 16777216 := rfl
    show _ + 2 ≤ _
    omega
  have eo : ws.map V.str ++ [.non, .str "other"] = (ws.map some ++ [none, some ("other" : Str)]).map oV := by rw [List.map_append, List.map_map]; rfl
  have wsl := wok.len
  have sm3 : Same H1 (upd (upd H1 m (.lst [.non, .str "other"])) m3 (.lst (ws.map V.str ++ [.non, .str "other"]))) := sm.trans (Same.new nm3)
  refine ⟨m3, rfl, ⟨_, SqL.of upd_same⟩, fun D nD => ?_⟩
  refine lc_filt (Rb := OoR) OoR.kp walk_list (ws.map some ++ [none, some ("other" : Str)]) (fun o => !decide (o = r.2.2)) (by rw [eo, List.length_map]) (by rw [eo, List.length_map, List.length_append, List.length_map]; show _ + 2 < _; omega) nD (fun H' s => SqL.of (s _ _ upd_same)) ?_ ?_
  · rintro i x o H2 H3 QE QN hi ho s2 ⟨rfl, hx⟩ ce cn
    rw [eo, List.getElem?_map, ho] at hx
    cases hx
    refine ⟨rfl, _, rfl, _, rfl, scal_oV _ _, _, rfl, ?_⟩
    rw [dec_oV]
    refine ite2 (fun c => ?_) (fun c => ?_)
    · exact ⟨_, rfl, ce _ _ (Same.refl _) c rfl⟩
    · exact cn _ (Same.refl _) (Bool.eq_false_iff.mpr c)
  rintro H2 s2 ⟨zs, hzs, hzp⟩
  rw [oos_eq hzp] at hzs
  have s12 := sm3.trans s2
  have wl2 := wl1.same s12
  generalize hop : (ws.map some ++ [none, some ("other" : Str)]).filter (fun o => !decide (o = r.2.2)) = opts at hzs
  have opm : ∀ o, o ∈ opts → o ≠ r.2.2 ∧ ∀ z, o = some z → WordOk z := fun o ho => by
    rw [← hop] at ho
    obtain ⟨h1, h2⟩ := List.mem_filter.mp ho
    refine ⟨fun e => ?_, fun z e => ?_⟩
    · rw [e, decide_eq_true rfl] at h2
      cases h2
    · rcases List.mem_append.mp h1 with h1 | h1
      · obtain ⟨y, hy, rfl⟩ := List.mem_map.mp h1
        cases e
        exact wok.ok _ hy
      · rw [e] at h1
        rcases List.mem_cons.mp h1 with h1 | h1
        · cases h1
        · have := Option.some.inj (List.mem_singleton.mp h1)
          rw [this]
          exact ⟨by decide, by decide, by decide⟩
  have oplen : opts.length ≤ 11 := by
    rw [← hop]
    have := List.length_filter_le (fun o => !decide (o = r.2.2)) (ws.map some ++ [none, some ("other" : Str)])
    rw [List.length_append, List.length_map] at this
    have e2 : [none, some ("other" : Str)].length = 2 := rfl
    omega
  have oppos : 0 < opts.length := by
    rw [← hop]
    refine List.length_pos_iff.mpr fun e => ?_
    have h0 : ∀ o ∈ (ws.map some ++ [none, some ("other" : Str)]), o = r.2.2 := fun o ho => by
      by_cases c : o = r.2.2
      · exact c
      · have : o ∈ (ws.map some ++ [none, some ("other" : Str)]).filter (fun o => !decide (o = r.2.2)) := List.mem_filter.mpr ⟨ho, by rw [decide_eq_false c]; rfl⟩
        rw [e] at this
        cases this
    have h1 := h0 none (List.mem_append_right _ List.mem_cons_self)
    have h2 := h0 (some "other") (List.mem_append_right _ (List.mem_cons_of_mem _ List.mem_cons_self))
    rw [← h1] at h2
    cases h2
  refine ⟨_, rfl, _, rfl, _, rfl, D, _, rfl, .inl (SqL.of hzs), ?_⟩
  rw [List.length_map]
  have Dl : D ≠ l := (wl1.same sm3).ne nD
  refine ⟨rfl, l, _, rfl, wl2, by omega, by omega, fun j2 H3 j20 j21 b3 wl3 => ?_⟩
  obtain ⟨k2, rfl⟩ := Int.eq_ofNat_of_zero_le j20
  have hk2 : k2 < opts.length := by omega
  have hat : atI (opts.map oV) (k2 : Int) = some (oV opts[k2]) := atI_nat (by rw [List.getElem?_map, List.getElem?_eq_getElem hk2]; rfl)
  obtain ⟨one, ook⟩ := opm _ (List.getElem_mem hk2)
  generalize opts[k2] = o at hat one ook
  refine ⟨D, _, _, _, rfl, rfl, SqL.of (b3 _ _ hzs Dl), hat, ?_⟩
  have bb3 : But l H H3 := b1.trans ((But.of s12).trans b3)
  have hrg3 := bb3 _ _ hrg rgl
  have hrp3 : Paired (RowR H3) vs rs := Paired.kp TupR.kp (Fx.well wl bb3) hrp
  have wl3' := wl3
  refine ⟨_, rfl, _, rfl, _, rfl, rg, _, rfl, SqL.of hrg3, fun c1 nc1 => ?_⟩
  have sc1 : Same H3 (upd H3 c1 (.lst (cutV vs none (some (k : Int))))) := Same.new nc1
  refine ⟨_, rfl, _, rfl, _, rfl, by show 3 ≤ sizeLine; decide, fun t3 nt3 => ⟨by show 1 ≤ sizeLine; decide, fun l3 nl3 => ?_⟩⟩
  have st3 := sc1.trans (Same.new (o := .tup [.int r.1, .int r.2.1, oV o]) nt3)
  have sl3 := st3.trans (Same.new (o := .lst [.ref t3]) nl3)
  have hc1 := ((Same.new (o := .tup [.int r.1, .int r.2.1, oV o]) nt3).trans (Same.new (o := .lst [.ref t3]) nl3)) _ _ (upd_same (H := H3) (a := c1) (o := .lst (cutV vs none (some (k : Int)))))
  have ek : cutV vs none (some (k : Int)) = vs.take k := cut_take
  have ed : cutV vs (some ((k : Int) + 1)) none = vs.drop (k + 1) := cut_drop (k := k + 1) (by omega)
  have szl : sizeLine = 16777216 := rfl
  refine ⟨c1, l3, _, _, rfl, rfl, hc1, upd_same, ?_, fun c2 nc2 => ?_⟩
  · rw [ek, List.length_take]
    show _ + 1 ≤ _
    omega
  have sc2 := sl3.trans (Same.new (o := .lst (cutV vs none (some (k : Int)) ++ [.ref t3])) nc2)
  refine ⟨_, rfl, _, rfl, _, _, rfl, rfl, _, rfl, rg, _, rfl, SqL.of (sc2 _ _ hrg3), fun c4 nc4 => ?_⟩
  have sc4 := sc2.trans (Same.new (o := .lst (cutV vs (some ((k : Int) + 1)) none)) nc4)
  refine ⟨c2, c4, _, _, rfl, rfl, Same.new nc4 _ _ upd_same, upd_same, ?_, fun c5 nc5 => ?_⟩
  · rw [ek, ed, List.length_append, List.length_take, List.length_drop]
    show _ + 1 + _ ≤ _
    omega
  have sc5 := sc4.trans (Same.new (o := .lst (cutV vs none (some (k : Int)) ++ [.ref t3] ++ cutV vs (some ((k : Int) + 1)) none)) nc5)
  have ers := split_at' hrk
  have sgr : AN.Seg (rs.take k ++ (r.1, r.2.1, r.2.2) :: rs.drop (k + 1)) 0 (AN.P (Wd v)) := by rw [← ers]; exact rok.seg
  have pEr : E.Perm (AN.allP (Wd v) (rs.take k ++ (r.1, r.2.1, r.2.2) :: rs.drop (k + 1))) := by rw [← ers]; exact pE
  have sg2 := sgr.swap (o := o)
  have cnt1 : (AN.allP (Wd v) (rs.take k)).length + (AN.allP (Wd v) (rs.drop (k + 1))).length ≤ 40 := by
    have h1 := rok.cnt
    rw [ers, allP_mid, List.length_append, List.length_append] at h1
    omega
  have cnt2 : (AN.allP (Wd v) (rs.take k ++ (r.1, r.2.1, o) :: rs.drop (k + 1))).length ≤ 130 := by
    have h1 := rowP_le (W := Wd v) (lo := r.1) (hi := r.2.1) o
    rw [allP_mid, List.length_append, List.length_append]
    omega
  have cntE : E.length ≤ 40 := by rw [pE.length_eq]; exact rok.cnt
  have rw2 : RwOk v (rs.take k ++ (r.1, r.2.1, o) :: rs.drop (k + 1)) := by
    refine ⟨sg2, fun x hx z hz => ?_, ?_, by omega⟩
    · rcases List.mem_append.mp hx with h | h
      · exact wok.ok z (rok.wd x (List.mem_of_mem_take h) z hz)
      · rcases List.mem_cons.mp h with h | h
        · rw [h] at hz
          exact ook z hz
        · exact wok.ok z (rok.wd x (List.mem_of_mem_drop h) z hz)
    · rw [List.length_append, List.length_cons, List.length_take, List.length_drop]
      omega
  have hT5 := ((Same.new (o := .lst [.ref t3]) nl3).trans ((Same.new (o := .lst (cutV vs none (some (k : Int)) ++ [.ref t3])) nc2).trans ((Same.new (o := .lst (cutV vs (some ((k : Int) + 1)) none)) nc4).trans (Same.new (o := .lst (cutV vs none (some (k : Int)) ++ [.ref t3] ++ cutV vs (some ((k : Int) + 1)) none)) nc5)))) _ _ (upd_same (H := upd H3 c1 (.lst (cutV vs none (some (k : Int))))) (a := t3) (o := .tup [.int r.1, .int r.2.1, oV o]))
  have la5 : ∀ HX : Hp, Same H3 HX → HX c5 = some (.lst (cutV vs none (some (k : Int)) ++ [.ref t3] ++ cutV vs (some ((k : Int) + 1)) none)) → HX t3 = some (.tup [.int r.1, .int r.2.1, oV o]) → LA RowR HX c5 (rs.take k ++ (r.1, r.2.1, o) :: rs.drop (k + 1)) := by
    intro HX sX hc ht
    refine ⟨_, hc, ?_⟩
    rw [ek, ed, List.append_assoc]
    exact Paired.app (Paired.kp TupR.kp (.of sX) (Paired.take k hrp3)) (.cons ⟨t3, rfl, ht⟩ (Paired.kp TupR.kp (.of sX) (Paired.drop (k + 1) hrp3)))
  have laX := la5 _ sc5 upd_same hT5
  refine ⟨_, rfl, _, rfl, _, rfl, rfl, v, l, c5, _, rfl, wl3.same sc5, laX, rw2, fun t6 p6 d6 H6 E2 np6 nd6 b6 wl6 bk6 pE2 ht6 => ?_⟩
  have tab2 := (AN.allP_tab sg2).perm pE2.symm
  have cE2 : E2.length ≤ 130 := by rw [pE2.length_eq]; exact cnt2
  have lookE : ∀ x, 0 ≤ x → x < AN.P (Wd v) → AN.look (Wd v) E x = AN.fOf (rs.take k ++ (r.1, r.2.1, r.2.2) :: rs.drop (k + 1)) x := fun x h0 h1 => by
    rw [AN.look_perm tab.nd pEr x]
    exact AN.allP_look sgr h0 h1
  have look2 : ∀ x, 0 ≤ x → x < AN.P (Wd v) → AN.look (Wd v) E2 x = AN.fOf (rs.take k ++ (r.1, r.2.1, o) :: rs.drop (k + 1)) x := fun x h0 h1 => by
    rw [AN.look_perm tab2.nd pE2 x]
    exact AN.allP_look sg2 h0 h1
  have bk3 : BookAt K v H3 p d E := bk.well wl bb3
  have bkE : BookAt K v H6 p d E := (bk3.mono sc5).well (wl3.same sc5) b6
  obtain ⟨db6, ob6⟩ := bk6.ob
  have nlo : AN.look (Wd v) E2 r.1 ≠ AN.look (Wd v) E r.1 := by
    rw [lookE _ rm.1 (by omega), look2 _ rm.1 (by omega), AN.chg_in sgr (Int.le_refl _) rm.2.1, AN.chg_in sg2 (Int.le_refl _) rm.2.1]
    exact one
  have below : ∀ m, 0 ≤ m → m < r.1 → AN.look (Wd v) E2 m = AN.look (Wd v) E m := fun m h0 h1 => by
    rw [lookE _ h0 (by omega), look2 _ h0 (by omega)]
    exact AN.chg_out sgr h0 (by omega) (by omega)
  have hin : (∃ e ∈ E2, e.1.1 = r.1) ∨ ∃ e ∈ E, e.1.1 = r.1 := by
    obtain ⟨kk, hb⟩ := AN.pcs_first (W := Wd v) rm.2.1
    cases ho : o with
    | some z => 
      rw [ho] at pE2
      exact .inl ⟨((r.1, kk), z), pE2.mem_iff.mpr (AN.mem_allP.mpr ⟨(r.1, r.2.1, some z), List.mem_append_right _ List.mem_cons_self, hb, rfl⟩), rfl⟩
    | none =>
      cases hw : r.2.2 with
      | none => rw [ho, hw] at one; exact (one rfl).elim
      | some y =>
        rw [hw] at pEr
        exact .inr ⟨((r.1, kk), y), pEr.mem_iff.mpr (AN.mem_allP.mpr ⟨(r.1, r.2.1, some y), List.mem_append_right _ List.mem_cons_self, hb, rfl⟩), rfl⟩
  refine ⟨t6, _, _, _, rfl, rfl, SqT.of ht6, rfl, ?_⟩
  refine ⟨_, rfl, p6, db6, _, rfl, ob6, (by kernel_rfl), _, rfl, rfl, v, p6, d6, p, d, E2, E, r.1, rfl, bk6, bkE, tab2, tab, by omega, by omega, rm.1, by omega, nlo, below, hin, fun a7 H7 s7 ad7 => ?_⟩
  refine ⟨_, rfl, _, rfl, rfl, v, r.1, rfl, rm.1, by omega, fun a8 H8 na8 s8 ad8 => ?_⟩
  have ad7' := ad7.mono s8
  obtain ⟨dx7, ha7⟩ := id ad7'
  obtain ⟨dx8, ha8⟩ := id ad8
  refine ⟨a7, dx7, _, a8, dx8, _, rfl, rfl, ha7, ha8, rfl, a7, a8, r.1, r.1, rfl, ad7', ad8, ?_⟩
  rw [decide_eq_true (rfl : r.1 = r.1)]
  refine ⟨_, rfl, _, rfl, iteF ?_⟩
  have s68 := s7.trans s8
  have bk68 := bk6.mono s68
  have bkE8 := bkE.mono s68
  obtain ⟨db8, ob8⟩ := bk68.ob
  obtain ⟨dbe8, obe8⟩ := bkE8.ob
  refine ⟨_, rfl, _, rfl, p6, db8, _, p, dbe8, _, rfl, rfl, ob8, obe8, rfl, v, p6, d6, p, d, E2, E, rfl, bk68, bkE8, ?_⟩
  rw [chg_same rm.2.1 sgr one pEr pE2]
  refine ⟨_, rfl, iteF ?_⟩
  have la8 := LA.mono TupR.kp s68 (LA.but (wl3.same sc5) b6 laX)
  have sy2 : AN.Says (rs.take k ++ (r.1, r.2.1, o) :: rs.drop (k + 1)) (AN.look (Wd v) E2) := fun x hx m h0 h1 => by
    have xm := sg2.mem x hx
    rw [look2 m (by omega) (by omega)]
    exact AN.fOf_says sg2 x hx m h0 h1
  refine ⟨_, rfl, _, rfl, _, rfl, rfl, v, p6, d6, c5, E2, _, rfl, bk68, la8, sg2, sy2, fun H9 s9 => ⟨true, rfl, iteF ?_⟩⟩
  have s69 := s68.trans s9
  have bb9 : But l H3 H9 := (But.of sc5).trans (b6.trans (But.of s69))
  have hrg9 := bb9 _ _ hrg3 rgl
  have tl : t ≠ l := fun e => by
    obtain ⟨x1, x2, x3, hx⟩ := wl1
    rw [e, hx] at ht
    cases ht
  have ht9 := bb9 _ _ (b3 _ _ (s12 _ _ ht) tl) tl
  refine ⟨_, rfl, _, rfl, rg, _, _, _, rfl, rfl, SqL.of hrg9, atI_nat hx, _, rfl, rfl, v, t, r.1, r.2.1, _, rfl, ht9, rm.1, rm.2.1, rm.2.2, fun nl H10 nnl s10 ⟨ns, hns, hnp⟩ => ?_⟩
  have bk10 := (bk6.mono s69).mono s10
  have bkE10 := (bkE.mono s69).mono s10
  refine ⟨nl, rfl, ⟨_, SqL.of hns⟩, ?_⟩
  have bkX := bk3.mono sc5
  obtain ⟨dbX, obX⟩ := bkX.ob
  have pd6 : p ≠ d6 := ne_of_none obX nd6
  have dd6 : d ≠ d6 := ne_of_none bkX.rows nd6
  have nd6' : nl ≠ d6 := fun e => by rw [e, bk10.rows] at hns; cases hns
  refine for_it walk_list (fun i σ' H' => ∃ (x10 x14 : Option V) (F : List (AN.Ent Str)), σ' = [some (.ref l), some (.ref p), some (.ref rg), some (.ref a), some (.int (Wd v : Int)), some (.int (k : Int)), some (.int r.1), some (.int r.2.1), some (oV r.2.2), some (.ref D), x10, some (oV o), some (.ref c5), some (.ref p6), x14] ∧
      But d6 H10 H' ∧ BookAt K v H' p6 d6 F ∧ Back r.2.2 E2 ((AN.pcs (Wd v) r.1 r.2.1).take i) F)
    ⟨_, _, E2, rfl, But.refl, bk10, Back.zero tab2.nd⟩ (fun i σ' H' _ ⟨_, _, _, _, b1, _⟩ => SqL.of (b1 _ _ hns nd6')) ?_ ?_
  · rintro i y σ' H11 H12 hi ⟨x10, x14, F, rfl, b11, bk11, bc⟩ ⟨rfl, hy⟩
    obtain ⟨b, hb, pn, rfl, net⟩ := Paired.at hnp hy
    have net11 := net.fx (Fx.butD bk10.rows b11)
    have etk : (AN.pcs (Wd v) r.1 r.2.1).take (i + 1) = (AN.pcs (Wd v) r.1 r.2.1).take i ++ [b] := by rw [List.take_add_one, hb]; rfl
    have Fl : F.length ≤ 4096 := by
      have h1 := bc.2.1
      rw [List.length_take] at h1
      have h2 : (AN.pcs (Wd v) r.1 r.2.1).length ≤ 90 := by omega
      omega
    obtain ⟨db11, ob11⟩ := bk11.ob
    cases hw : r.2.2 with
    | none =>
      rw [hw] at bc
      refine ⟨_, rfl, rfl, _, rfl, iteT ?_⟩
      obtain ⟨z, hz⟩ : ∃ z, o = some z := by
        cases ho : o with
        | none => rw [ho, hw] at one; exact (one rfl).elim
        | some z => exact ⟨z, rfl⟩
      have hbm := List.mem_of_getElem? hb
      have hnt : b ∉ (AN.pcs (Wd v) r.1 r.2.1).take i := fun hc => by
        obtain ⟨j, hj⟩ := List.getElem?_of_mem hc
        have hji : j < i := by
          rcases Nat.lt_or_ge j i with c | c
          · exact c
          · rw [List.getElem?_take_eq_none c] at hj; cases hj
        rw [List.getElem?_take_of_lt hji] at hj
        obtain ⟨j1, j2⟩ := List.getElem?_eq_some_iff.mp hj
        obtain ⟨i1, i2⟩ := List.getElem?_eq_some_iff.mp hb
        have := List.pairwise_iff_getElem.mp (AN.pcs_asc (W := Wd v) (low := r.1) (high := r.2.1)) j i j1 i1 hji
        rw [j2, i2] at this
        have pp := AN.P_pos b.2
        omega
      have hm2 : (b, z) ∈ E2 := pE2.mem_iff.mpr (AN.mem_allP.mpr ⟨(r.1, r.2.1, o), List.mem_append_right _ List.mem_cons_self, hbm, hz⟩)
      have hv : AN.val F (b.1, b.2) = some z := AN.val_of bc.1 ((bc.2.2 _).mpr (.inr ⟨hnt, hm2⟩))
      refine ⟨_, rfl, p6, db11, _, rfl, ob11, (by kernel_rfl), _, rfl, rfl, v, p6, d6, pn, F, b.1, b.2, z, rfl, bk11, net11, hv, Fl, fun H13 b13 bk13 => ?_⟩
      exact ⟨_, _, _, rfl, b11.trans b13, bk13, by rw [etk]; exact bc.drop⟩
    | some y =>
      rw [hw] at bc
      refine ⟨_, rfl, rfl, _, rfl, iteF ?_⟩
      refine ⟨_, rfl, _, rfl, _, rfl, p6, db11, _, rfl, ob11, rfl, v, p6, d6, pn, F, b.1, b.2, y, rfl, bk11, net11, wok.ok y (rok.wd r (List.mem_of_getElem? hrk) y hw), Fl, fun H13 b13 bk13 => ?_⟩
      exact ⟨_, _, _, rfl, b11.trans b13, bk13, by rw [etk]; exact bc.put⟩
  · rintro σ' H11 ⟨x10, x14, F, rfl, b11, bk11, bc⟩
    rw [Paired.len hnp, List.take_length] at bc
    obtain ⟨db11, ob11⟩ := bk11.ob
    obtain ⟨dbe, obe⟩ := bkE10.ob
    have obe11 := b11 _ _ obe pd6
    have bkE11 : BookAt K v H11 p d E := ⟨⟨dbe, obe11⟩, b11 _ _ bkE10.rows dd6⟩
    refine ⟨_, rfl, _, rfl, p6, db11, _, p, dbe, _, rfl, rfl, ob11, obe11, rfl, v, p6, d6, p, d, F, E, rfl, bk11, bkE11, ?_⟩
    rw [same_perm tab.nd (Back.all sgr pEr pE2 bc)]
    exact q _ fun c u hc ne => b11 _ _ (s10 _ _ (bb9 _ _ (bb3 _ _ hc ne) ne)) (ne_of_none (sc5 _ _ (bb3 _ _ hc ne)) nd6)
end
end AH
/-! W38 -/
set_option Elab.async false
set_option linter.all false
set_option maxRecDepth 100000
set_option maxHeartbeats 4000000
namespace AH
open PySem PySem.Spec PyProof.Rows L2 He
/-! ### the law -/
section
open PyProof PyProof.Rows
variable {X : Cx}
/-- list + list, the lists wherever they stand -/
def rCatS (K : PySem.W.Frag) : R2 := fun x y H Q => ∃ l b xs zs, x = .ref l ∧ y = .ref b ∧ SqL K H l xs ∧ SqL K H b zs ∧ xs.length + zs.length ≤ sizeLine ∧ ∀ p, H p = none → Q (.ref p) (upd H p (.lst (xs ++ zs)))
theorem op_catS : OpR X (binaryOp .Add) (rCatS X.K) := by
  intro pins s σ H x y v u Q I rx ry h
  obtain ⟨l, b, xs, zs, rfl, rfl, hH, hB, hz, q⟩ := h
  cases rx
  cases ry
  obtain ⟨its, r, p1, _⟩ := I.list hH
  obtain ⟨its2, r2, p2, _⟩ := I.list hB
  have hl := r.length
  have hl2 := r2.length
  obtain ⟨⟨cls, dd, data, sl⟩, ho, hc, n, hd⟩ := p1.isList
  obtain ⟨⟨cls2, dd2, data2, sl2⟩, ho2, hc2, n2, hd2⟩ := p2.isList
  simp only at hc hd hc2 hd2
  subst hc hd hc2 hd2
  have ea : its.toArray ++ its2.toArray = (its ++ its2).toArray := by simp
  refine concat_meets ⟨_, ho, rfl⟩ ⟨_, ho2, rfl⟩ noFill_list_add seq_list_add PySem.F.slot_list_add PySem.F.entry_list_add (PySem.F.args_list_add_2 _ _) (list_addW l b its.toArray its2.toArray n n2 dd dd2 sl sl2 (by rw [List.size_toArray, List.size_toArray]; omega)) ⟨ho, ho2, ?_⟩
  rw [ea]
  exact ⟨.ref _, _, I.lnew (t' := s.toks) (r.append r2) (by rw [List.length_append]; omega), rfl, q _ I.fresh⟩
end
section
variable {P : Program} {w : World} {K : PySem.W.Frag} {mg : Str → Option Value} {base : Heap}
def sp_law (K : PySem.W.Frag) : Sp := fun vs H Q _ => ∃ (a : Addr) (ns : List Int), vs = [.ref a] ∧ SqL K H a (ns.map V.int) ∧ ns.length < 16777216 ∧ ∀ H', Q (.bl true) H'
abbrev N_law : List Str := ["_law_script", "_law_cell", "_law_well_here", "_law_width", "_law_base", "_law_words_here", "_law_ranges_here", "_law_book_here", "_law_many"]
theorem sc_law : FnScope N_law ["_law_script"] (defScope s_law) := ⟨rfl, rfl, rfl, by decide +kernel, rfl, by decide +kernel, by decide +kernel⟩
theorem ok_law (T : Cxt K mg) (hH : Cal P w K mg base 20 "_law_halved" (Spn 1 (sp_halved K)) []) {fd : FuncData} (F : FunD K d_law.name d_law.qual d_law.params d_law.body d_law.scope (d_law.dvs K) (d_law.kws K) (fAd K d_law.at_) fd) : FnOk P w K mg base CX0 142 (fAd K d_law.at_) fd ["_law_script"] (Spn 1 (sp_law K)) := by
  refine F.ok sc_law (fun vs H Q E h => h.1) (fun cdv A outer s H vs Q E hr h => nox_of ?_)
  obtain ⟨_, h⟩ := h
  have nd := sc_law.nd
  have hu := hu_of hr
  obtain ⟨a, ns, rfl, ha, hl, q⟩ := h
  refine ⟨_, (pss_cons (ps_for PassesOwn.never rfl (pi_list (pe_slice sl_list (pe_op op_catS (pv 0) (pe_lst (pa_cons pe_int pa_nil))) po_none (po_some pe_int))) (pg_name (i := 1) nd rfl (Or.inl rfl)) (pss_cons (ps_set (i := 2) nd rfl (Or.inl rfl) (pe_f (c__law_well T) hr (by decide) rfl (pa_cons (pv 1) pa_nil))) (pss_cons (ps_set (i := 3) nd rfl (Or.inl rfl) (pe_ix ix_list (pe_lst (pa_cons pe_int (pa_cons pe_int pa_nil))) (pe_f (c__law_draw T) hr (by decide) rfl (pa_cons (pv 2) (pa_cons pe_int pa_nil))) (fun _ _ => rfl))) (pss_cons (ps_set (i := 4) nd rfl (Or.inl rfl) (pe_f (c__law_number T) hr (by decide) rfl (pa_cons (pv 2) (pa_cons (pv 3) pa_nil)))) (pss_cons (ps_set (i := 5) nd rfl (Or.inl rfl) (pe_f (c__law_words T) hr (by decide) rfl (pa_cons (pv 2) pa_nil))) (pss_cons (ps_set (i := 6) nd rfl (Or.inl rfl) (pe_f (c__law_ranges T) hr (by decide) rfl (pa_cons (pv 2) (pa_cons (pv 4) (pa_cons (pv 5) (pa_cons (pv 3) pa_nil)))))) (pss_cons (ps_asg (pe_f (c__law_book T) hr (by decide) rfl (pa_cons (pv 2) (pa_cons (pv 6) (pa_cons (pv 3) pa_nil)))) (pg_tup rfl (pgs_cons (pg_name (i := 7) nd rfl (Or.inl rfl)) (pgs_cons (pg_name (i := 8) nd rfl (Or.inl rfl)) pgs_nil)))) (pss_cons (ps_if (PW.pt (pw_or (pt_cmpR op_ne (pe_callB (call_lenOwn (m_Book_len T) hr (by decide)) (by rfl) T.z_len (by decide +kernel) (pa_cons (pv 7) pa_nil)) (pv 8) (nomark _)) (pw_or1 (pt_not (pt_val (pe_f (c__law_points_right T) hr (by decide) rfl (pa_cons (pv 7) (pa_cons (pv 6) (pa_cons (pv 3) pa_nil))))))))) (pss_one (ps_ret pe_bl)) pss_nil) (pss_cons (ps_if (pt_not (pt_val (pe_f (c__law_sets_right T) hr (by decide) rfl (pa_cons (pv 2) (pa_cons (pv 7) (pa_cons (pv 6) (pa_cons (pv 5) pa_nil))))))) (pss_one (ps_ret pe_bl)) pss_nil) (pss_cons (ps_if (pt_not (pt_val (pe_f (c__law_few_right T hH) hr (by omega) rfl (pa_cons (pv 7) (pa_cons (pv 6) (pa_cons (pv 3) pa_nil)))))) (pss_one (ps_ret pe_bl)) pss_nil) (pss_one (ps_if (pt_not (pt_val (pe_f (c__law_changed_right T) hr (by decide) rfl (pa_cons (pv 2) (pa_cons (pv 7) (pa_cons (pv 6) (pa_cons (pv 5) (pa_cons (pv 3) pa_nil)))))))) (pss_one (ps_ret pe_bl)) pss_nil)))))))))))) (pss_one (ps_ret pe_bl))), ?_⟩
  refine ⟨_, rfl, by show 1 ≤ sizeLine; decide, fun m nm => ?_⟩
  have sm : Same H (upd H m (.lst [.int 0])) := Same.new nm
  refine ⟨a, m, _, _, rfl, rfl, SqL.ext ha sm, SqL.of upd_same, ?_, fun c nc => ?_⟩
  · rw [List.length_map]
    have : sizeLine = 16777216 := rfl
    show _ + 1 ≤ _
    omega
  refine ⟨_, rfl, c, _, rfl, SqL.of upd_same, fun e ne => ?_⟩
  have ec : cutV (ns.map V.int ++ [V.int 0]) none (some 1) = (ns.map V.int ++ [V.int 0]).take 1 := cut_take (k := 1)
  refine ⟨e, rfl, ⟨_, SqL.of upd_same⟩, ?_⟩
  obtain ⟨x0, hx0⟩ : ∃ x0 : Int, (ns.map V.int ++ [V.int 0]).take 1 = [.int x0] := by
    cases ns with
    | nil => exact ⟨0, rfl⟩
    | cons z zs => exact ⟨z, rfl⟩
  refine for_list (fun i σ' H' => ∃ x1 x2 x3 x4 x5 x6 x7 x8 : Option V, σ' = [some (.ref a), x1, x2, x3, x4, x5, x6, x7, x8] ∧ H' e = some (.lst (cutV (ns.map V.int ++ [V.int 0]) none (some 1))))
    ⟨none, none, none, none, none, none, none, none, rfl, upd_same⟩ (fun i σ' H' _ ⟨_, _, _, _, _, _, _, _, _, h⟩ => SqL.of h) ?_ ?_
  · rintro i y σ' H1 hy ⟨x1, x2, x3, x4, x5, x6, x7, x8, rfl, he⟩
    rw [ec, hx0] at hy
    have hy := List.mem_singleton.mp (List.mem_of_getElem? hy)
    subst hy
    refine ⟨_, rfl, rfl, x0, rfl, fun l H2 nl s2 wl2 => ?_⟩
    refine ⟨by show 2 ≤ sizeLine; decide, fun t nt => ?_⟩
    have tl := wl2.ne nt
    have el : e ≠ l := ne_of_none he nl
    have st : Same H2 (upd H2 t (.lst [.int 32, .int 128])) := Same.new nt
    refine ⟨_, rfl, rfl, l, 2, rfl, wl2.same st, by decide, by decide, fun d0 H3 d00 d01 b3 wl3 => ?_⟩
    obtain ⟨v, hv⟩ : ∃ v : Bool, atI [V.int 32, V.int 128] d0 = some (.int (Wd v : Int)) := by
      have : d0 = 0 ∨ d0 = 1 := by omega
      rcases this with rfl | rfl
      · exact ⟨false, rfl⟩
      · exact ⟨true, rfl⟩
    refine ⟨t, _, _, _, rfl, rfl, SqL.of (b3 _ _ upd_same tl), hv, ?_⟩
    refine ⟨_, rfl, _, rfl, rfl, v, l, rfl, wl3, fun n H4 n0 n1 b4 wl4 => ?_⟩
    refine ⟨_, rfl, rfl, l, rfl, wl4, fun aw H5 ws naw b5 wl5 wok haw => ?_⟩
    refine ⟨_, rfl, _, rfl, _, rfl, _, rfl, rfl, v, l, aw, n, ws, rfl, wl5, n0, wok, haw, fun rg H6 rs nrg b6 wl6 rok la6 => ?_⟩
    have rw0 : RwOk v rs := ⟨rok.seg, fun r hr z hz => wok.ok z (rok.wd r hr z hz), by have := rok.len; omega, by have := rok.cnt; omega⟩
    refine ⟨_, rfl, _, rfl, _, rfl, rfl, v, l, rg, rs, rfl, wl6, la6, rw0, fun t6 p d H7 E np nd7 b7 wl7 bk7 pE ht6 => ?_⟩
    refine ⟨t6, _, rfl, SqT.of ht6, rfl, _, _, rfl, _, _, rfl, rfl, ?_⟩
    obtain ⟨db7, ob7⟩ := bk7.ob
    have cE : E.length ≤ 40 := by rw [pE.length_eq]; exact rok.cnt
    have bnd : (E.length : Int) < 2 ^ 63 := by
      have : (2 : Int) ^ 63 = 9223372036854775808 := by decide
      omega
    refine ⟨_, rfl, p, db7, _, rfl, ob7, rfl, v, p, d, E, rfl, bk7, _, rfl, Int.natCast_nonneg _, bnd, _, rfl, rfl, _, rfl, ?_⟩
    refine iteNS (congrArg (fun n : Nat => V.int (n : Int)) pE.length_eq) ?_
    have la7 := LA.but wl6 b7 la6
    have tab := (AN.allP_tab rok.seg).perm pE.symm
    have sy : AN.Says rs (AN.look (Wd v) E) := fun r hr x h0 h1 => by
      have rm := rok.seg.mem r hr
      rw [AN.look_perm tab.nd pE x, AN.allP_look rok.seg (by omega) (by omega)]
      exact AN.fOf_says rok.seg r hr x h0 h1
    refine ⟨_, rfl, _, rfl, _, rfl, rfl, v, p, d, rg, E, rs, rfl, bk7, la7, rok.seg, sy, fun H8 s8 => ⟨true, rfl, iteF ?_⟩⟩
    have awl := wl5.neS haw
    have haw8 := s8 _ _ (b7 _ _ (b6 _ _ haw awl) awl)
    have wl8 := wl7.same s8
    have hE : ∀ e ∈ E, e.2 ∈ ws := fun e he => by
      obtain ⟨r, hr, _, hz⟩ := AN.mem_allP.mp (pE.mem_iff.mp he)
      exact rok.wd r hr _ hz
    have la8 := LA.mono TupR.kp s8 la7
    have rlen := rok.len
    refine ⟨_, rfl, _, rfl, _, rfl, _, rfl, rfl, v, l, p, d, rg, aw, E, rs, ws, rfl, wl8, bk7.mono s8, tab, by omega, la8, by omega, rok.seg, sy, haw8, wok, hE, fun H9 b9 wl9 => ⟨true, rfl, iteF ?_⟩⟩
    have bk9 := (bk7.mono s8).well wl8 b9
    have la9 := LA.but wl8 b9 la8
    have dj : E.Pairwise AN.Dj := AN.dj_perm pE.symm (AN.dj_asc (AN.allP_asc rok.seg))
    have hw : WordsOk ws E := ⟨by have := wok.len; omega, fun e he => ⟨wok.ok _ (hE e he), hE e he⟩⟩
    refine ⟨_, rfl, _, rfl, _, rfl, rfl, v, p, d, rg, E, rs, ws, rfl, bk9, tab, dj, by omega, hw, la9, by omega, rok.seg, sy, fun H10 s10 => ⟨true, rfl, iteF ?_⟩⟩
    have haw10 := s10 _ _ (b9 _ _ haw8 awl)
    refine ⟨_, rfl, _, rfl, _, rfl, _, rfl, _, rfl, rfl, v, l, p, d, rg, aw, E, rs, ws, rfl, wl9.same s10, bk9.mono s10, pE, LA.mono TupR.kp s10 la9, rok, haw10, wok, fun H11 b11 => ⟨true, rfl, iteF ?_⟩⟩
    have he11 := b11 _ _ (s10 _ _ (b9 _ _ (s8 _ _ (b7 _ _ (b6 _ _ (b5 _ _ (b4 _ _ (b3 _ _ (st _ _ (s2 _ _ he)) el) el) el) el) el)) el)) el
    exact ⟨_, _, _, _, _, _, _, _, rfl, he11⟩
  · rintro σ' H1 ⟨x1, x2, x3, x4, x5, x6, x7, x8, rfl, he⟩
    exact q H1
end
end AH
/-! Ga -/
set_option Elab.async false
set_option linter.all false
set_option maxRecDepth 100000
set_option maxHeartbeats 1000000
/- A run from a table whose sleeping generators cannot be woken is a run from the true table, and they sleep on. -/
namespace AG
open PySem PyProof.Rows
open Sem (wp)
/-- asleep, but it cannot be woken -/
def pz : GenState → GenState
  | .suspended _ l c p fs cl => .suspended (fun _ => .unsupported "") l c p fs cl
  | x => x
def isS : GenState → Prop
  | .suspended .. => True
  | _ => False
def clean : GenState → Prop
  | .suspended _ _ _ _ fs _ => splitAtGen fs = none
  | _ => True
def EndClean : End → Prop
  | .ret _ => True
  | .susp _ _ _ _ _ _ fs => splitAtGen fs = none
theorem EndClean.gs {e : End} (h : EndClean e) : clean e.genState := by
  cases e with
  | ret _ => trivial
  | susp v g l k c p fs => exact h
theorem pz_seen (x : GenState) : (pz x).seen = x.seen := by cases x <;> rfl
theorem pz_bare (x : GenState) : (pz x).bare = x.bare := by cases x <;> rfl
/-- the true table G and the table N in which those of T cannot be woken -/
structure Pz (T : Nat → Option GenState) (G N : Array GenState) : Prop where
  size : G.size = N.size
  old : ∀ i st, T i = some st → isS st ∧ G[i]? = some st ∧ N[i]? = some (pz st)
  new : ∀ i, T i = none → G[i]? = N[i]? ∧ ∀ x, N[i]? = some x → clean x
theorem Pz.set {T : Nat → Option GenState} {G N : Array GenState} (h : Pz T G N) {i : Nat} {x : GenState} (hT : T i = none) (hx : clean x) : Pz T (G.setIfInBounds i x) (N.setIfInBounds i x) := by
  refine ⟨by simp [h.size], fun j st e => ?_, fun j e => ?_⟩
  · have ne : i ≠ j := fun z => by subst z; rw [hT] at e; cases e
    obtain ⟨a, b, c⟩ := h.old j st e
    exact ⟨a, by rw [Array.getElem?_setIfInBounds_ne ne]; exact b, by rw [Array.getElem?_setIfInBounds_ne ne]; exact c⟩
  · obtain ⟨a, b⟩ := h.new j e
    by_cases z : i = j
    · subst z
      refine ⟨?_, fun y hy => ?_⟩
      · rw [Array.getElem?_setIfInBounds_self, Array.getElem?_setIfInBounds_self, h.size]
      · rw [Array.getElem?_setIfInBounds_self] at hy
        split at hy
        · cases hy; exact hx
        · cases hy
    · rw [Array.getElem?_setIfInBounds_ne z, Array.getElem?_setIfInBounds_ne z]
      exact ⟨a, b⟩
theorem Pz.push {T : Nat → Option GenState} {G N : Array GenState} (h : Pz T G N) {x : GenState} (hx : clean x) : Pz T (G.push x) (N.push x) := by
  refine ⟨by simp [h.size], fun j st e => ?_, fun j e => ?_⟩
  · obtain ⟨a, b, c⟩ := h.old j st e
    have l1 := (Array.getElem?_eq_some_iff.mp b).1
    have l2 := (Array.getElem?_eq_some_iff.mp c).1
    exact ⟨a, by rw [Array.getElem?_push_lt l1, ← Array.getElem?_eq_getElem l1]; exact b, by rw [Array.getElem?_push_lt l2, ← Array.getElem?_eq_getElem l2]; exact c⟩
  · obtain ⟨a, b⟩ := h.new j e
    rw [Array.getElem?_push, Array.getElem?_push, h.size]
    split
    · exact ⟨rfl, fun y hy => by cases hy; exact hx⟩
    · exact ⟨a, b⟩
theorem Pz.get {T : Nat → Option GenState} {G N : Array GenState} (h : Pz T G N) {i : Nat} {x : GenState} (e : N[i]? = some x) : (∃ y, G[i]? = some y ∧ y.seen = x.seen) := by
  cases q : T i with
  | some st =>
    obtain ⟨_, b, c⟩ := h.old i st q
    rw [c] at e; cases e
    exact ⟨st, b, (pz_seen st).symm⟩
  | none => exact ⟨x, (h.new i q).1.trans e, rfl⟩
theorem Pz.plain {T : Nat → Option GenState} {G N : Array GenState} (h : Pz T G N) {i : Nat} {x : GenState} (e : N[i]? = some x) (n : ¬ isS x) : T i = none ∧ G[i]? = some x := by
  cases q : T i with
  | some st =>
    obtain ⟨a, b, c⟩ := h.old i st q
    rw [c] at e; cases e
    cases st <;> first | exact absurd trivial n | exact a.elim
  | none => exact ⟨rfl, (h.new i q).1.trans e⟩
theorem no_uns {M : Model} {Γ : Ctx} {p : Pos} {t : Sem PySem.Fin} {fs : List Frame} {s s' : Shared} {e : End} (h : Runs M Γ p t fs s e s') : ∀ w, t = .unsupported w → False := by
  induction h with
  | segRet _ _ ih _ => exact ih
  | segGen _ _ ih _ => exact ih
  | segSuspOut _ _ ih => exact ih
  | segSuspGen _ _ _ _ ih _ => exact ih
  | _ => intro w e; cases e
theorem runs_pz {M : Model} {T : Nat → Option GenState} {Γ : Ctx} {p : Pos} {t : Sem PySem.Fin} {fs : List Frame} {s s' : Shared} {e : End} (h : Runs M Γ p t fs s e s') : splitAtGen fs = none → ∀ G, Pz T G s.gens →
    EndClean e ∧ ∃ G', Pz T G' s'.gens ∧ Runs M Γ p t fs { s with gens := G } e { s' with gens := G' } := by
  induction h with
  | done => exact fun _ G hG => ⟨trivial, G, hG, .done⟩
  | raise => exact fun _ G hG => ⟨trivial, G, hG, .raise⟩
  | again hq _ ih => intro _ G hG; obtain ⟨a, G', b, c⟩ := ih rfl G hG; exact ⟨a, G', b, .again hq c⟩
  | rule _ ih => intro _ G hG; obtain ⟨a, G', b, c⟩ := ih rfl G hG; exact ⟨a, G', b, .rule c⟩
  | «at» _ ih => intro _ G hG; obtain ⟨a, G', b, c⟩ := ih rfl G hG; exact ⟨a, G', b, .at c⟩
  | load ho _ ih => intro _ G hG; obtain ⟨a, G', b, c⟩ := ih rfl G hG; exact ⟨a, G', b, .load ho c⟩
  | update ho _ ih => intro _ G hG; obtain ⟨a, G', b, c⟩ := ih rfl G hG; exact ⟨a, G', b, .update ho c⟩
  | loadIfAlive _ ih => intro _ G hG; obtain ⟨a, G', b, c⟩ := ih rfl G hG; exact ⟨a, G', b, .loadIfAlive c⟩
  | point _ ih => intro _ G hG; obtain ⟨a, G', b, c⟩ := ih rfl G hG; exact ⟨a, G', b, .point c⟩
  | alloc _ ih => intro _ G hG; obtain ⟨a, G', b, c⟩ := ih rfl G hG; exact ⟨a, G', b, .alloc c⟩
  | fresh _ ih => intro _ G hG; obtain ⟨a, G', b, c⟩ := ih rfl G hG; exact ⟨a, G', b, .fresh c⟩
  | ask _ ih => intro _ G hG; obtain ⟨a, G', b, c⟩ := ih rfl G hG; exact ⟨a, G', b, .ask c⟩
  | choose hn _ ih => intro _ G hG; obtain ⟨a, G', b, c⟩ := ih rfl G hG; exact ⟨a, G', b, .choose hn c⟩
  | os _ ih => intro _ G hG; obtain ⟨a, G', b, c⟩ := ih rfl G hG; exact ⟨a, G', b, .os c⟩
  | handled _ ih => intro _ G hG; obtain ⟨a, G', b, c⟩ := ih rfl G hG; exact ⟨a, G', b, .handled c⟩
  | genState hg _ ih =>
    intro _ G hG
    obtain ⟨a, G', b, c⟩ := ih rfl G hG
    obtain ⟨y, hy, hs⟩ := hG.get hg
    exact ⟨a, G', b, .genState hy (by rw [hs]; exact c)⟩
  | stack _ ih => intro _ G hG; obtain ⟨a, G', b, c⟩ := ih rfl G hG; exact ⟨a, G', b, .stack c⟩
  | thread _ ih => intro _ G hG; obtain ⟨a, G', b, c⟩ := ih rfl G hG; exact ⟨a, G', b, .thread c⟩
  | @newGen Γ p k s e s' c _ ih =>
    intro _ G hG
    obtain ⟨a, G', b, q⟩ := ih rfl _ (hG.push (x := .fresh c) trivial)
    refine ⟨a, G', b, .newGen ?_⟩
    show Runs M Γ p (k G.size) [] _ e _
    rw [hG.size]
    exact q
  | call _ _ ih1 ih2 =>
    intro _ G hG
    obtain ⟨_, G1, b1, c1⟩ := ih1 rfl G hG
    obtain ⟨a, G', b, c⟩ := ih2 rfl G1 b1
    exact ⟨a, G', b, .call c1 c⟩
  | callSusp _ ih =>
    intro _ G hG
    obtain ⟨a, G', b, c⟩ := ih rfl G hG
    refine ⟨?_, G', b, .callSusp c⟩
    show splitAtGen (_ ++ _) = none
    rw [splitAtGen_append_none _ a]
    rfl
  | yield => exact fun _ G hG => ⟨rfl, G, hG, .yield⟩
  | resumeFresh hg _ hq _ ih1 ih2 =>
    intro _ G hG
    obtain ⟨hT, hg'⟩ := hG.plain hg id
    obtain ⟨a1, G1, b1, c1⟩ := ih1 rfl _ (hG.set (x := .running) hT trivial)
    obtain ⟨a, G', b, c⟩ := ih2 rfl _ (b1.set hT a1.gs)
    exact ⟨a, G', b, .resumeFresh hg' c1 hq c⟩
  | @resumeSuspended Γ p g r l k s k₀ l₀ c₀ p₀ fs cl e₁ s₁ e s' hg hr hq _ ih1 ih2 =>
    intro _ G hG
    cases q : T g with
    | some st =>
      obtain ⟨x1, _, x3⟩ := hG.old g st q
      rw [x3] at hg
      cases st with
      | suspended k1 l1 c1 p1 f1 cl1 => cases hg; exact (no_uns hr _ rfl).elim
      | _ => exact x1.elim
    | none =>
      obtain ⟨y1, y2⟩ := hG.new g q
      have hc : splitAtGen fs = none := y2 _ hg
      obtain ⟨a1, G1, b1, c1⟩ := ih1 hc _ (hG.set (x := .running) q trivial)
      obtain ⟨a, G', b, c⟩ := ih2 rfl _ (b1.set q a1.gs)
      exact ⟨a, G', b, .resumeSuspended (y1.trans hg) c1 hq c⟩
  | resumeJustStarted hg hv _ ih =>
    intro _ G hG
    obtain ⟨hT, hg'⟩ := hG.plain hg id
    obtain ⟨a, G', b, c⟩ := ih rfl G hG
    exact ⟨a, G', b, .resumeJustStarted hg' hv c⟩
  | resumeThrowFresh hg _ ih =>
    intro _ G hG
    obtain ⟨hT, hg'⟩ := hG.plain hg id
    obtain ⟨a, G', b, c⟩ := ih rfl _ (hG.set (x := .finished) hT trivial)
    exact ⟨a, G', b, .resumeThrowFresh hg' c⟩
  | resumeRunning hg _ ih =>
    intro _ G hG
    obtain ⟨hT, hg'⟩ := hG.plain hg id
    obtain ⟨a, G', b, c⟩ := ih rfl G hG
    exact ⟨a, G', b, .resumeRunning hg' c⟩
  | resumeFinished hg _ ih =>
    intro _ G hG
    obtain ⟨hT, hg'⟩ := hG.plain hg id
    obtain ⟨a, G', b, c⟩ := ih rfl G hG
    exact ⟨a, G', b, .resumeFinished hg' c⟩
  | segRet _ _ ih1 ih2 =>
    intro hf G hG
    rw [splitAtGen_ret, Option.map_eq_none_iff] at hf
    obtain ⟨_, G1, b1, c1⟩ := ih1 rfl G hG
    obtain ⟨a, G', b, c⟩ := ih2 hf G1 b1
    exact ⟨a, G', b, .segRet c1 c⟩
  | segGen _ _ _ _ => intro hf; cases hf
  | segSuspOut hn _ ih =>
    intro hf G hG
    obtain ⟨a, G', b, c⟩ := ih rfl G hG
    refine ⟨?_, G', b, .segSuspOut hn c⟩
    show splitAtGen (_ ++ _) = none
    rw [splitAtGen_append_none _ a, hn]
    rfl
  | segSuspGen hn _ _ _ _ _ => intro hf; rw [hf] at hn; cases hn
theorem wakes_pz {M : Model} {T : Nat → Option GenState} {Γ : Ctx} {p : Pos} {g : Nat} {r : Resume} {s s' : Shared} {res : GenResult} {G : Array GenState} (h : Wakes M Γ p g r s res s') (hG : Pz T G s.gens) :
    ∃ G', Pz T G' s'.gens ∧ Wakes M Γ p g r { s with gens := G } res { s' with gens := G' } := by
  cases q : s.gens[g]? with
  | none => unfold Wakes at h; rw [q] at h; exact h.elim
  | some x =>
    cases x with
    | fresh c =>
      obtain ⟨hT, hg'⟩ := hG.plain q id
      cases r with
      | send v =>
        by_cases hv : v = .none
        · subst hv
          unfold Wakes at h
          rw [q] at h
          obtain ⟨e₁, s₁, hr, hq, rfl, rfl⟩ := h
          obtain ⟨a1, G1, b1, c1⟩ := runs_pz hr rfl _ (hG.set (x := .running) hT trivial)
          refine ⟨_, b1.set hT a1.gs, ?_⟩
          unfold Wakes
          rw [show ({ s with gens := G } : Shared).gens[g]? = some (.fresh c) from hg']
          exact ⟨e₁, _, c1, hq, rfl, rfl⟩
        · have h2 : res = .justStarted ∧ s' = s := by
            unfold Wakes at h
            rw [q] at h
            cases v <;> first | exact absurd rfl hv | exact h
          obtain ⟨rfl, rfl⟩ := h2
          refine ⟨G, hG, ?_⟩
          unfold Wakes
          rw [show ({ s' with gens := G } : Shared).gens[g]? = some (.fresh c) from hg']
          cases v <;> first | exact absurd rfl hv | exact ⟨rfl, rfl⟩
      | throw x =>
        unfold Wakes at h
        rw [q] at h
        obtain ⟨rfl, rfl⟩ := h
        refine ⟨_, hG.set (x := .finished) hT trivial, ?_⟩
        unfold Wakes
        rw [show ({ s with gens := G } : Shared).gens[g]? = some (.fresh c) from hg']
        exact ⟨rfl, rfl⟩
    | suspended k₀ l₀ c₀ p₀ fs cl =>
      unfold Wakes at h
      rw [q] at h
      obtain ⟨e₁, s₁, hr, hq, rfl, rfl⟩ := h
      cases z : T g with
      | some st =>
        obtain ⟨x1, _, x3⟩ := hG.old g st z
        rw [x3] at q
        cases st with
        | suspended k1 l1 c1 p1 f1 cl1 => cases q; exact (no_uns hr _ rfl).elim
        | _ => exact x1.elim
      | none =>
        obtain ⟨y1, y2⟩ := hG.new g z
        have hc : splitAtGen fs = none := y2 _ q
        obtain ⟨a1, G1, b1, c1⟩ := runs_pz hr hc _ (hG.set (x := .running) z trivial)
        refine ⟨_, b1.set z a1.gs, ?_⟩
        unfold Wakes
        rw [show ({ s with gens := G } : Shared).gens[g]? = some (.suspended k₀ l₀ c₀ p₀ fs cl) from y1.trans q]
        exact ⟨e₁, _, c1, hq, rfl, rfl⟩
    | running =>
      obtain ⟨hT, hg'⟩ := hG.plain q id
      unfold Wakes at h
      rw [q] at h
      obtain ⟨rfl, rfl⟩ := h
      refine ⟨G, hG, ?_⟩
      unfold Wakes
      rw [show ({ s' with gens := G } : Shared).gens[g]? = some .running from hg']
      exact ⟨rfl, rfl⟩
    | finished =>
      obtain ⟨hT, hg'⟩ := hG.plain q id
      unfold Wakes at h
      rw [q] at h
      obtain ⟨rfl, rfl⟩ := h
      refine ⟨G, hG, ?_⟩
      unfold Wakes
      rw [show ({ s' with gens := G } : Shared).gens[g]? = some .finished from hg']
      exact ⟨rfl, rfl⟩
theorem wp_pz {α : Type} (M : Model) (T : Nat → Option GenState) (Γ : Ctx) (t : Sem α) : ∀ (Q : α → Pos → Shared → Prop) (E : Value → Pos → Shared → Prop) (p : Pos) (s : Shared) (G : Array GenState), Pz T G s.gens → wp M Γ t Q E p s →
    wp M Γ t (fun a p' s' => ∃ N, Pz T s'.gens N ∧ Q a p' { s' with gens := N }) (fun e p' s' => ∃ N, Pz T s'.gens N ∧ E e p' { s' with gens := N }) p { s with gens := G } := by
  induction t with
  | pure a => intro Q E p s G hG h; exact ⟨s.gens, hG, h⟩
  | raise e => intro Q E p s G hG h; exact ⟨s.gens, hG, h⟩
  | unsupported _ => intro Q E p s G _ h; exact h
  | finish _ => intro Q E p s G _ h; exact h
  | rule _ k ih => intro Q E p s G hG h; exact ih () Q E p s G hG h
  | «at» p' k ih => intro Q E p s G hG h; exact ih () Q E p' s G hG h
  | load a _ k ih => intro Q E p s G hG h; obtain ⟨o, ho, h⟩ := h; exact ⟨o, ho, ih o Q E p s G hG h⟩
  | update a _ f k ih => intro Q E p s G hG h; exact ⟨h.1, ih () Q E p { s with heap := s.heap.update a f } G hG h.2⟩
  | loadIfAlive a k ih => intro Q E p s G hG h; exact ih _ Q E p s G hG h
  | point _ k ih => intro Q E p s G hG h; exact ih () Q E p s G hG h
  | register _ _ => intro Q E p s G _ h; exact h
  | alloc o k ih => intro Q E p s G hG h; exact ih _ Q E p { s with heap := s.heap.push o } G hG h
  | fresh k ih => intro Q E p s G hG h; exact ih _ Q E p { s with toks := s.toks + 1 } G hG h
  | ask k ih => intro Q E p s G hG h; exact ih _ Q E p s G hG h
  | choose src m k ih => intro Q E p s G hG h; exact ⟨h.1, ih _ Q E p { s with drawn := s.drawn.bump src } G hG h.2⟩
  | os q _ k ih => intro Q E p s G hG h; exact ih _ Q E p { s with os := (Os.step s.os q).1 } G hG h
  | call c hd _ _ k ih =>
    intro Q E p s G hG h
    obtain ⟨r, s', hr, h⟩ := h
    obtain ⟨_, G1, b1, c1⟩ := runs_pz hr rfl G hG
    exact ⟨r, _, c1, ih r Q E p s' G1 b1 h⟩
  | handled own k ih => intro Q E p s G hG h; exact ih _ Q E p s G hG h
  | genState g k ih =>
    intro Q E p s G hG h
    obtain ⟨st, hs, h⟩ := h
    obtain ⟨y, hy, es⟩ := hG.get hs
    exact ⟨y, hy, by rw [es]; exact ih _ Q E p s G hG h⟩
  | newGen c k ih =>
    intro Q E p s G hG h
    have h' := ih _ Q E p { s with gens := s.gens.push (.fresh c) } (G.push (.fresh c)) (hG.push (x := .fresh c) trivial) h
    show wp M Γ (k G.size) _ _ p _
    rw [hG.size]
    exact h'
  | resume g r _ k ih =>
    intro Q E p s G hG h
    obtain ⟨res, s', hw, h⟩ := h
    obtain ⟨G1, b1, c1⟩ := wakes_pz hw hG
    exact ⟨res, _, c1, ih res Q E p s' G1 b1 h⟩
  | yield _ _ _ _ => intro Q E p s G _ h; exact h
  | stack k ih => intro Q E p s G hG h; exact ih _ Q E p s G hG h
  | fork _ _ => intro Q E p s G _ h; exact h
  | thread k ih => intro Q E p s G hG h; exact ih _ Q E p s G hG h
  | await _ _ _ _ _ => intro Q E p s G _ h; exact h
/-- the sleeping ones of a table -/
def slT (G : Array GenState) : Nat → Option GenState := fun i => match G[i]? with
  | some (.suspended k l c p fs cl) => some (.suspended k l c p fs cl)
  | _ => none
theorem pz_of (G : Array GenState) : Pz (slT G) G (G.map pz) := by
  refine ⟨by simp, fun i st e => ?_, fun i e => ?_⟩
  · unfold slT at e
    split at e
    · next k l c p fs cl q => cases e; exact ⟨trivial, q, by simp [q, pz]⟩
    · cases e
  · unfold slT at e
    cases q : G[i]? with
    | none => exact ⟨by simp [q], fun x hx => by simp [q] at hx⟩
    | some y =>
      rw [q] at e
      cases y with
      | suspended k l c p fs cl => cases e
      | fresh c => exact ⟨by simp [q, pz], fun x hx => by simp [q, pz] at hx; subst hx; trivial⟩
      | running => exact ⟨by simp [q, pz], fun x hx => by simp [q, pz] at hx; subst hx; trivial⟩
      | finished => exact ⟨by simp [q, pz], fun x hx => by simp [q, pz] at hx; subst hx; trivial⟩
theorem allBare_pz {G : Array GenState} (h : AllBare G) : AllBare (G.map pz) := fun y hy => by
  obtain ⟨x, hx, rfl⟩ := Array.mem_map.mp hy
  rw [pz_bare]; exact h x hx
theorem Pz.bare {T : Nat → Option GenState} {G N : Array GenState} (h : Pz T G N) (hb : AllBare N) : AllBare G := fun y hy => by
  obtain ⟨i, hi, e⟩ := Array.mem_iff_getElem.mp hy
  have q : G[i]? = some y := by rw [Array.getElem?_eq_getElem hi, e]
  cases z : T i with
  | some st =>
    obtain ⟨_, b, c⟩ := h.old i st z
    rw [q] at b; cases b
    rw [← pz_bare]; exact hb _ (Array.mem_of_getElem? c)
  | none =>
    have q2 := (h.new i z).1.symm.trans q
    exact hb _ (Array.mem_of_getElem? q2)
/-- what is shown from the table whose sleepers cannot be woken holds from the true one, and g sleeps on -/
theorem wpAny_asleep {α : Type} {M : Model} {A : Around} {s : Shared} {t : Sem α} {Q : α → Shared → Prop} {E : Value → Shared → Prop} {g : Nat} {st : GenState} (hg : s.gens[g]? = some st) (hS : isS st)
    (h : wpAny M A t Q E { s with gens := s.gens.map pz }) :
    wpAny M A t (fun a s' => s'.gens[g]? = some st ∧ ∃ N, (AllBare N → AllBare s'.gens) ∧ Q a { s' with gens := N }) (fun e s' => ∃ N, E e { s' with gens := N }) s := by
  intro Γ p hΓ
  have h1 := wp_pz M (slT s.gens) Γ t _ _ p { s with gens := s.gens.map pz } s.gens (pz_of s.gens) (h Γ p hΓ)
  have hT : slT s.gens g = some st := by
    unfold slT
    rw [hg]
    cases st <;> first | rfl | exact hS.elim
  refine Sem.wp_mono M Γ t ?_ ?_ _ _ h1
  · rintro a p' s' ⟨N, b, q⟩
    exact ⟨(b.old g st hT).2.1, N, b.bare, q⟩
  · rintro e p' s' ⟨N, b, q⟩
    exact ⟨N, q⟩
end AG
/-! Gb -/
set_option Elab.async false
set_option linter.all false
set_option maxRecDepth 100000
set_option maxHeartbeats 1000000
/- One stretch of a generator's code, from a waking to the next yield or to the end; Z: how it ends. -/
namespace AG
open PySem PySem.Spec PyProof.Rows GenW
open Sem (wp)
def Str1 (M : Model) (A : Around) (Z : End → Shared → Prop) (c : Code) (t : Sem PySem.Fin) (fs : List Frame) (s : Shared) : Prop :=
  ∀ Γ p, Γ.code = c → Γ.Woken A → ∃ e s', Runs M Γ p t fs s e s' ∧ Z e s'
section
variable {M : Model} {A : Around} {Z : End → Shared → Prop} {c : Code} {fs : List Frame} {s : Shared}
theorem s1_wrap {α : Type} {m : Sem α} {f : α → Sem PySem.Fin} {j : Value → Sem PySem.Fin} {gd lv}
    (h : wpAny M (A.over c fs) m (fun a s' => Str1 M A Z c (f a) fs s') (fun x s' => Str1 M A Z c (j x) fs s') s) : Str1 M A Z c (m.wrap f j gd lv) fs s := fun Γ p hc hΓ => by
  subst hc
  exact runs_wrap_of_wp f j gd lv m (h (Γ.over fs) p (hΓ.over fs)) (fun _ p' _ z => z Γ p' rfl hΓ) fun _ p' _ z => z Γ p' rfl hΓ
theorem s1_bindw {α β : Type} {m : Sem α} {f : α → Sem β} {k : β → Sem PySem.Fin} {j : Value → Sem PySem.Fin} {gd lv}
    (h : wpAny M (A.over c fs) m (fun a s' => Str1 M A Z c ((f a).wrap k j gd lv) fs s') (fun x s' => Str1 M A Z c (j x) fs s') s) : Str1 M A Z c ((m >>= f).wrap k j gd lv) fs s := by
  have e := Sem.bind_eq_wrap' m f
  rw [e, Sem.wrap_wrap]
  exact s1_wrap h
theorem s1_call {c' : Code} {h g l} {k : Result → Sem PySem.Fin} (hc : ∀ p, Str1 M A Z c' (M.den c') (.ret k h g l c p [] :: fs) s) : Str1 M A Z c (.call c' h g l k) fs s := fun Γ p e hΓ => by
  subst e
  obtain ⟨e, s', hr, he⟩ := hc p (Γ.goto c') p rfl (hΓ.goto c')
  exact ⟨e, s', runs_call_seg hr, he⟩
theorem s1_leaf {k h g l c₁ p₁ kp} (r : Result) (hk : Str1 M A Z c₁ (k r) fs s) : Str1 M A Z c (leafOf r) (.ret k h g l c₁ p₁ kp :: fs) s := fun Γ p e hΓ => by
  subst e
  obtain ⟨e, s', hr, he⟩ := hk (Γ.goto c₁) p₁ rfl (hΓ.goto c₁)
  exact ⟨e, s', hr.pop r, he⟩
theorem s1_again {c' : Code} (hq : c'.quiet = true) (hc : Str1 M A Z c' (M.den c') fs s) : Str1 M A Z c (.pure (.again c')) fs s := fun Γ p e hΓ => by
  subst e
  obtain ⟨e, s', hr, he⟩ := hc (Γ.goto c') p rfl (hΓ.goto c')
  exact ⟨e, s', Runs.head (c₁ := c') (fun _ _ x => .again hq x) hr, he⟩
theorem s1_end (r : Result) (h : Z (.ret r) s) : Str1 M A Z c (leafOf r) [] s := fun Γ p _ _ => ⟨.ret r, s, Runs.leaf r, h⟩
theorem s1_yield {v g l} {k : Resume → Sem PySem.Fin} (hfs : splitAtGen fs = none) (h : ∀ p, Z (.susp v g l k c p fs) s) : Str1 M A Z c (.yield v g l k) fs s := fun Γ p e _ => by
  subst e
  exact ⟨_, s, Runs.yield' fs hfs, h p⟩
end
/-- the state gs, woken by a plain next -/
def Woke (M : Model) (A : Around) (Z : End → Shared → Prop) (gs : GenState) (s : Shared) : Prop := match gs with
  | .fresh c => Str1 M A Z c (M.den c) [] s
  | .suspended k _ c _ fs _ => Str1 M A Z c (k (.send .none)) fs s
  | _ => False
theorem wpAny_woken {M : Model} {A : Around} {Z : End → Shared → Prop} {E : Value → Shared → Prop} {s : Shared} {g : Nat} {gs : GenState} {l : List Value} {α : Type} {k : GenResult → Sem α} {Q : α → Shared → Prop} (hg : s.gens[g]? = some gs)
    (hw : Woke M A Z gs (s.setGen g .running)) (hz : ∀ e s1, Z e s1 → e.quiet = true ∧ wpAny M A (k e.result) Q E (s1.setGen g e.genState)) : wpAny M A (.resume g (.send .none) l k) Q E s := by
  intro Γ p hΓ
  rw [Sem.wp_resume]
  have one : ∀ c p', Str1 M A Z c (match gs with | .fresh c => M.den c | .suspended k _ _ _ _ _ => k (.send .none) | _ => .unsupported "") (match gs with | .suspended _ _ _ _ fs _ => fs | _ => []) (s.setGen g .running) →
      ∃ e s1, Runs M (Γ.wake c p) p' (match gs with | .fresh c => M.den c | .suspended k _ _ _ _ _ => k (.send .none) | _ => .unsupported "") (match gs with | .suspended _ _ _ _ fs _ => fs | _ => []) (s.setGen g .running) e s1 ∧
        e.quiet = true ∧ wp M Γ (k e.result) (fun a _ s' => Q a s') (fun e _ s' => E e s') p (s1.setGen g e.genState) := fun c p' h => by
    obtain ⟨e, s1, hr, he⟩ := h (Γ.wake c p) p' rfl (hΓ.wake c p)
    obtain ⟨q1, q2⟩ := hz e s1 he
    exact ⟨e, s1, hr, q1, q2 Γ p hΓ⟩
  cases gs with
  | fresh c =>
    obtain ⟨e, s1, a, b, d⟩ := one c p hw
    exact ⟨_, _, by unfold Wakes; rw [hg]; exact ⟨e, s1, a, b, rfl, rfl⟩, d⟩
  | suspended k₀ l₀ c₀ p₀ fs₀ cl =>
    obtain ⟨e, s1, a, b, d⟩ := one c₀ p₀ hw
    exact ⟨_, _, by unfold Wakes; rw [hg]; exact ⟨e, s1, a, b, rfl, rfl⟩, d⟩
  | running => exact hw.elim
  | finished => exact hw.elim
/-- next of a generator, one stretch of its code told -/
theorem next_woken {P : Program} {w : World} {A : Around} {E : Value → Shared → Prop} {s : Shared} {a : Addr} {g : Nat} {gs : GenState} {Z : End → Shared → Prop} {Q : Option Value → Shared → Prop} (hh : A.handled = none) (hl : s.heap.NoLimit) (hroom : A.depth < recursionLimit)
    (hg : s.heap.IsGen a g) (hgs : s.gens[g]? = some gs) (hw : Woke (model P w) A.in1 Z gs (s.setGen g .running))
    (hz : ∀ e s1, Z e s1 → e.quiet = true ∧ ((∃ v, e.result = .yielded v ∧ Q (some v) (s1.setGen g e.genState)) ∨
      (e.result = .returned .none ∧ ∀ h', (∀ b o, s1.heap.get? b = some o → h'.get? b = some o) → Q none { s1.setGen g e.genState with heap := h' }))) :
    wpAny (model P w) A (pyNext (.ref a)) Q E s := by
  unfold pyNext
  refine wpAny_bind (wpAny_attempt (wpAny_callSpecial?_slot (name := Str.ofString "__next__") hg.typeIs slot_gen_next (wpAny_call_entry slot_gen_next hg.typeIs entry_gen_next ?_ (args_gen_next _))))
  show wpAny (model P w) A.in1 (Builtin.Generator.genWake (.ref a) (.send .none)) _ _ s
  unfold Builtin.Generator.genWake
  refine wpAny_bind (wpAny_holding (wpAny_genNumber hg (wpAny_bind (wpAny_genState hgs ?_))))
  cases gs with
  | running => exact hw.elim
  | finished => exact hw.elim
  | _ =>
    refine wpAny_bind (wpAny_roomToWake hl hroom ?_)
    show wpAny (model P w) A.in1 (.resume g (.send .none) [] _) _ _ s
    refine wpAny_woken hgs hw fun e s1 hZ => ?_
    obtain ⟨q, hv | hv⟩ := hz e s1 hZ
    · obtain ⟨v, e1, hq⟩ := hv
      rw [e1]
      exact ⟨q, wpAny_pure ⟨v, rfl, wpAny_pure hq⟩⟩
    · obtain ⟨e1, hq⟩ := hv
      refine ⟨q, ?_⟩
      rw [e1]
      show wpAny (model P w) A.in1 (newExc (.type "StopIteration") [] >>= _) _ _ _
      refine wpAny_bind ?_
      simp only [newExc, newTuple]
      refine wpAny_bind (wpAny_newObj_type ?_ (by size_fits))
      refine wpAny_bind (m := firstArgMember _ _) (wpAny_of_eq (a := Value.none) (by first | rfl | (simp only [firstArgMember]; rfl)) ?_)
      refine wpAny_newObj_type ?_ (by size_fits)
      simp only [raiseNew]
      refine wpAny_bind (wpAny_bind (wpAny_handled ?_))
      first | rw [show A.in1.handled = none from hh] | rw [hh]
      refine wpAny_throw ?_
      refine wpAny_bind (wpAny_isInstance (T := "StopIteration") (b := true) ⟨_, Heap.get?_push_size _ rfl, rfl⟩ isSubtype_stop ?_)
      exact wpAny_pure (hq _ fun b o hb => Heap.get?_push_of_some _ (Heap.get?_push_of_some _ hb))
end AG
/-! Gc -/
set_option Elab.async false
set_option linter.all false
set_option maxRecDepth 100000
set_option maxHeartbeats 1000000
/- A generator's frame at each waking: a context of its own over its consumer; and back to the consumer. -/
namespace AG
open PySem PySem.Spec PyProof.Rows L2 GenW
def cutH (h : Heap) (n : Nat) : Heap := { h with objs := h.objs.extract 0 n }
theorem cut_size (h : Heap) (n : Nat) : (cutH h n).objs.size = min n h.objs.size := by simp [cutH]
theorem cut_get {h : Heap} {n : Nat} {b : Addr} {o : Obj} : (cutH h n).get? b = some o ↔ (h.get? b = some o ∧ b < n) := by
  rw [Heap.get?_some_iff, Heap.get?_some_iff]
  show (h.objs.extract 0 n)[b]? = some o ∧ _ ↔ _
  rw [Array.getElem?_extract]
  constructor
  · rintro ⟨e, f⟩
    split at e
    · next z =>
      have z2 : b < min n h.objs.size := by simpa using z
      exact ⟨⟨by simpa using e, f⟩, Nat.lt_of_lt_of_le z2 (Nat.min_le_left _ _)⟩
    · cases e
  · rintro ⟨⟨e, f⟩, l⟩
    have l2 := (Array.getElem?_eq_some_iff.mp e).1
    refine ⟨?_, f⟩
    have z2 : b < min n h.objs.size := Nat.lt_min.mpr ⟨l, l2⟩
    rw [if_pos (by simpa using z2)]
    simpa using e
/-- the frame env of a generator, woken over the consumer's context X at (H, s) -/
def gX (X : Cx) (N : List Str) (env : Env) (A : Around) (H : Hp) (s : Shared) : Cx where
  prog := X.prog
  w := X.w
  K := X.K
  mg := X.mg
  base := X.base
  A := A.deeper env
  N := N
  s_0 := { s with heap := cutH s.heap env.locals }
  H_0 := H
  env := env
  outer := X.stack
  stack := env :: X.stack
  ex := []
  fn := fun _ => true
  calm := true
  pn := []
  xe := fun _ _ => False
structure GenvOk (X : Cx) (pins : List (Addr × Obj)) (env : Env) (A : Around) : Prop where
  kind : env.scope.kind = .function
  glob : env.globals = mainGlobals
  blt : env.builtins = builtinsNs
  cells : env.cells = []
  names : ∀ x, ¬ (env.kindOf x = some .cell ∨ env.kindOf x = some .free)
  frame : env.frame = some env.locals
  ltL : X.env.locals < env.locals
  ltC : ∀ x c, X.env.cells.lookup x = some c → c < env.locals
  ltP : ∀ p ∈ X.pn ++ pins, p.1 < env.locals
  hd : A.handled = none
  fr : A.frames = some X.stack
/-- how the frame's slots stand in the heap -/
def SlotsAt (N : List Str) (env : Env) (σ : List (Option V)) (h : Heap) : Prop :=
  σ.length = N.length ∧ ∃ m, h.Ns env.locals m ∧ ∀ (i : Nat) (x : Str) (v : V), N[i]? = some x → σ[i]? = some (some v) → Vis env.scope x → ∃ u, RelV v u ∧ Look env h m x u
theorem SlotsAt.keeps {N : List Str} {env : Env} {σ : List (Option V)} {h h' : Heap} {o : Obj} (hc : env.cells = []) (q : SlotsAt N env σ h) (e : h.get? env.locals = some o) (e' : h'.get? env.locals = some o) : SlotsAt N env σ h' := by
  obtain ⟨hl, m, ⟨o1, es, ep, ho, r⟩, hk⟩ := q
  rw [e] at ho; cases ho
  refine ⟨hl, m, ⟨o, es, ep, e', r⟩, fun i x v a b c => ?_⟩
  obtain ⟨u, r1, l⟩ := hk i x v a b c
  refine ⟨u, r1, ?_⟩
  rcases l with l | ⟨_, c, e, _⟩
  · exact .inl l
  · rw [hc] at e; cases e
section
variable {X : Cx} {pins : List (Addr × Obj)} {env : Env} {A : Around} {σc : List (Option V)} {H : Hp} {s : Shared} {N : List Str}
theorem GenvOk.fsLt (G : GenvOk X pins env A) (I : Inv X pins σc H s) : ∀ b ∈ frs X.stack, b < env.locals := fun b hb => by
  rcases List.mem_cons.mp (I.stkSub b hb) with z | z
  · rw [z]; exact G.ltL
  · obtain ⟨_, o, ho, _⟩ := I.ok.funs.mem z
    have h1 := Heap.lt_size ho
    have h2 := I.ok.above
    have h3 := G.ltL
    exact Nat.lt_trans (Nat.lt_of_lt_of_le h1 h2) h3
theorem cut_frames {h base : Heap} {n : Nat} : ∀ {l : List Env}, h.FunFrames base l → (∀ b ∈ frs l, b < n) → (cutH h n).FunFrames base l
  | [], _, _ => trivial
  | e :: l, hf, hb => by
    obtain ⟨h1, ⟨L, o, h2, h3, h4, h5⟩, h6⟩ := hf
    have hL : L ∈ frs (e :: l) := by unfold frs; rw [List.filterMap_cons, h2]; exact List.mem_cons_self
    refine ⟨h1, ⟨L, o, h2, h3, cut_get.mpr ⟨h4, hb L hL⟩, h5⟩, cut_frames h6 fun b z => hb b ?_⟩
    unfold frs
    rw [List.filterMap_cons, h2]
    exact List.mem_cons_of_mem _ z
theorem GenvOk.base (G : GenvOk X pins env A) (I : Inv X pins σc H s) : X.base.objs.size ≤ env.locals := Nat.le_trans I.ok.bsz (Nat.le_trans I.ok.above (Nat.le_of_lt G.ltL))
theorem GenvOk.wake (G : GenvOk X pins env A) (I : Inv X pins σc H s) (hL : H env.locals = none) {σ : List (Option V)} (hs : SlotsAt N env σ s.heap) {s' : Shared} (e1 : s'.heap = s.heap) (e2 : s'.os = s.os) (e3 : AllBare s'.gens) {pl : List (Addr × Obj)}
    (hp : ∀ p ∈ pl, s.heap.get? p.1 = some p.2 ∧ H p.1 = none ∧ p.1 ≠ env.locals ∧ p.1 ∉ frs X.stack ∧ ∀ v, p.2.data ≠ .cell v) : Inv (gX X N env A H s) pl σ H s' := by
  have no : ∀ b : Addr, b ∉ (gX X N env A H s).ex := fun b z => by cases z
  obtain ⟨hlen, hloc⟩ := hs
  refine ⟨⟨I.ok.mod, G.kind, G.glob, G.blt, ?_, fun x y c z => ?_, fun x z => (G.names x z).elim, fun x c _ z => ?_, fun _ => G.hd, Around.frames_deeper G.fr, .inr ⟨rfl, G.frame⟩, fun b z => (no b z).elim, fun b o q => ?_, ?_, fun b _ _ => no b, fun b z => (no b z).elim, ?_, I.stkFree⟩,
    e2, e3, ?_, ?_, fun x c z => ?_, hL, fun x c z => ?_, fun p hm => ?_, ?_, hlen⟩
  · show (cutH s.heap env.locals).objs.size ≤ env.locals
    rw [cut_size]; omega
  · have z' : env.cells.lookup x = some c := z
    rw [G.cells] at z'; cases z'
  · have z' : env.cells.lookup x = some c := z
    rw [G.cells] at z'; cases z'
  · obtain ⟨a, c⟩ := I.bs b o q
    exact ⟨cut_get.mpr ⟨a, Nat.lt_of_lt_of_le (Heap.lt_size q) (G.base I)⟩, c⟩
  · show X.base.objs.size ≤ (cutH s.heap env.locals).objs.size
    rw [cut_size]
    have h1 := G.base I
    have h2 := Nat.le_trans I.ok.bsz I.sz
    omega
  · exact cut_frames I.stack (G.fsLt I)
  · show Un _ _ H H (cutH s.heap env.locals) s'.heap
    rw [e1]
    exact Un.kept fun b u q => (cut_get.mp q).1
  · show ∃ m, s'.heap.Ns env.locals m ∧ _
    rw [e1]
    exact hloc
  · have z' : env.cells.lookup x = some c := z
    rw [G.cells] at z'; cases z'
  · have z' : env.cells.lookup x = some c := z
    rw [G.cells] at z'; cases z'
  · have hm' : p ∈ pl := hm
    rw [e1]
    exact hp p hm'
  · rw [e1]; exact I.hok
theorem GenvOk.back (G : GenvOk X pins env A) (I : Inv X pins σc H s) {pl : List (Addr × Obj)} {σ : List (Option V)} {H' : Hp} {s' : Shared} (J : Inv (gX X N env A H s) pl σ H' s') : Inv X pins σc H' s' := by
  have hu : Un (frs X.stack) [] H H' (cutH s.heap env.locals) s'.heap := J.base
  have lt : ∀ b o, s.heap.get? b = some o → b ∉ (List.range s.heap.objs.size).filter (fun b => decide (env.locals ≤ b)) → b < env.locals := fun b o q hb => by
    rcases Nat.lt_or_ge b env.locals with z | z
    · exact z
    · exact (hb (List.mem_filter.mpr ⟨List.mem_range.mpr (Heap.lt_size q), decide_eq_true z⟩)).elim
  have nil : ∀ b : Addr, b ∉ ([] : List Addr) := fun b z => by cases z
  refine I.call' (ch := (List.range s.heap.objs.size).filter fun b => decide (env.locals ≤ b)) J.os ⟨fun b o q n hb hx => ?_, fun b o q n hb hx => ?_, fun b o q n hx => ?_, fun b o q hx => ?_, hu.tups, hu.frzs, hu.tbls⟩ J.hok J.bare fun b hb => ?_
  · exact hu.keep b o (cut_get.mpr ⟨q, lt b o q hx⟩) n hb (nil b)
  · exact hu.slot b o (cut_get.mpr ⟨q, lt b o q hx⟩) n hb (nil b)
  · exact hu.free b o (cut_get.mpr ⟨q, lt b o q hx⟩) n (nil b)
  · exact hu.there b o (cut_get.mpr ⟨q, lt b o q hx⟩) (nil b)
  · have hb' : env.locals ≤ b := of_decide_eq_true (List.mem_filter.mp hb).2
    have h1 := G.ltL
    have h2 := I.ok.above
    refine ⟨.inr (Nat.le_trans h2 (Nat.le_trans (Nat.le_of_lt h1) hb')), Nat.ne_of_gt (Nat.lt_of_lt_of_le h1 hb'), fun x c e z => ?_, fun p hp z => ?_⟩
    · have z1 := G.ltC x c e
      rw [z] at z1
      exact absurd (Nat.lt_of_lt_of_le z1 hb') (Nat.lt_irrefl _)
    · have z1 := G.ltP p hp
      rw [z] at z1
      exact absurd (Nat.lt_of_lt_of_le z1 hb') (Nat.lt_irrefl _)
end
/-- another table: the same -/
theorem Inv.tab {X : Cx} {pins : List (Addr × Obj)} {σ : List (Option V)} {H : Hp} {s : Shared} (I : Inv X pins σ H s) {s' : Shared} (e1 : s'.heap = s.heap) (e2 : s'.os = s.os) (e3 : AllBare s'.gens) : Inv X pins σ H s' := by
  obtain ⟨h, g, d, t, o⟩ := s'
  have z1 : h = s.heap := e1
  have z2 : o = s.os := e2
  subst z1 z2
  exact ⟨I.ok, I.os, e3, I.base, I.loc, I.cell, I.free, I.freeC, I.pin, I.hok, I.len⟩
end AG
/-! Gd -/
set_option Elab.async false
set_option linter.all false
set_option maxRecDepth 100000
set_option maxHeartbeats 1000000
/- A generator whose code is a for loop that yields: each waking gives the next item to the consumer's context. -/
namespace AG
open PySem PySem.Spec PyProof.Rows L2 GenW
open Sem (wp)
section
variable {M : Model} {A : Around} {Z : End → Shared → Prop} {c : Code} {fs : List Frame} {s : Shared} {env : Env}
theorem s1_at {pos : Pos} {k : Unit → Sem PySem.Fin} (h : Str1 M A Z c (k ()) fs s) : Str1 M A Z c (.at pos k) fs s :=
  s1_wrap (m := standAt pos) (f := k) (j := .raise) (gd := id) (lv := id) (wpAny_standAt h)
theorem s1_point {l : List Value} {k : Unit → Sem PySem.Fin} (h : Str1 M A Z c (k ()) fs s) : Str1 M A Z c (.point l k) fs s :=
  s1_wrap (m := point) (f := k) (j := .raise) (gd := id) (lv := fun _ => l) (wpAny_point h)
theorem s1_bindw2 {α β γ : Type} {m : Sem α} {f : α → Sem β} {f2 : β → Sem γ} {k : γ → Sem PySem.Fin} {j : Value → Sem PySem.Fin} {gd lv}
    (h : wpAny M (A.over c fs) m (fun a s' => Str1 M A Z c ((f a).wrap (fun b => (f2 b).wrap k j gd lv) j gd lv) fs s') (fun x s' => Str1 M A Z c (j x) fs s') s) : Str1 M A Z c (((m >>= f) >>= f2).wrap k j gd lv) fs s := by
  have e := Sem.bind_eq_wrap' (m >>= f) f2
  rw [e, Sem.wrap_wrap]
  exact s1_bindw h
/-- yield e -/
theorem s1_exprYield {e : Expr} {yp pos : Pos} {k : Flow → Sem PySem.Fin} {j : Value → Sem PySem.Fin} {gd : Bool → Bool} {lv : List Value → List Value} (hfs : splitAtGen fs = none) (hco : env.scope.isCoroutine = false) (hi : interactive env = false)
    (h : wpAny M (A.over c fs) (eval e env) (fun v s' => ∀ (kk : Resume → Sem PySem.Fin) l p, (∀ Z' s'', Str1 M A Z' c (k .next) fs s'' → Str1 M A Z' c (kk (.send .none)) fs s'') → Z (.susp v (gd false) l kk c p fs) s')
      (fun x s' => Str1 M A Z c (j x) fs s') s) : Str1 M A Z c ((exec (.Expr (.Yield (some e) yp) pos) env).wrap k j gd lv) fs s := by
  have hy : ∀ v, yieldOut env v = yieldValue v := fun v => by simp only [yieldOut, hco, Bool.false_eq_true, if_false]
  rw [exec_Expr env _ pos hi rfl]
  show Str1 M A Z c (.at pos fun _ => ((eval e env >>= fun v => (standAt yp >>= fun _ => yieldOut env v)) >>= fun x => dropValue (.Yield (some e) yp) pos x).wrap k j gd lv) fs s
  simp only [hy]
  refine s1_at (s1_bindw2 (wpAny_mono h (fun v s' h' => ?_) fun _ _ x => x))
  refine s1_at (s1_yield hfs fun p => ?_)
  exact h' _ _ p fun Z' s'' z => z
end
/-- the next stretch ends by the end (0), or by the next item of J (m + 1): pl: the objects that it leaves and wants back as they are -/
def Slp (X : Cx) (pins : List (Addr × Obj)) (A : Around) (J : It) (L : Addr) (ga : Addr × Obj) : Nat → Nat → GenState → List (Addr × Obj) → Prop
  | 0, i, gs, pl => ∀ (σ : List (Option V)) (H : Hp) (s : Shared) (g : Nat), Inv X pins σ H s → (∀ p ∈ pl, s.heap.get? p.1 = some p.2 ∧ H p.1 = none) → J.stop i H →
      Woke (model X.prog X.w) A (fun e s' => e.quiet = true ∧ e.result = .returned .none ∧ e.genState = .finished ∧ Inv X pins σ H s') gs (s.setGen g .running)
  | m + 1, i, gs, pl => ∀ (σ : List (Option V)) (H : Hp) (s : Shared) (g : Nat), Inv X pins σ H s → (∀ p ∈ pl, s.heap.get? p.1 = some p.2 ∧ H p.1 = none) → J.go i H →
      Woke (model X.prog X.w) A (fun e s' => e.quiet = true ∧ isS e.genState ∧ ∃ v x H' pl', e.result = .yielded v ∧ RelV x v ∧ J.yld i H x H' ∧ Inv X pins σ H' s' ∧ ga ∈ pl' ∧
        (∀ p ∈ pl', s'.heap.get? p.1 = some p.2 ∧ H' p.1 = none ∧ L ≤ p.1 ∧ ∀ v, p.2.data ≠ .cell v) ∧ Slp X pins A J L ga m (i + 1) e.genState pl') gs (s.setGen g .running)
/-- the same, the stretch that is under way -/
def SlpZ (X : Cx) (pins : List (Addr × Obj)) (A : Around) (J : It) (L : Addr) (ga : Addr × Obj) (σ : List (Option V)) (H : Hp) (i : Nat) : Nat → End → Shared → Prop
  | 0 => fun e s' => e.quiet = true ∧ e.result = .returned .none ∧ e.genState = .finished ∧ Inv X pins σ H s'
  | m + 1 => fun e s' => e.quiet = true ∧ isS e.genState ∧ ∃ v x H' pl', e.result = .yielded v ∧ RelV x v ∧ J.yld i H x H' ∧ Inv X pins σ H' s' ∧ ga ∈ pl' ∧
      (∀ p ∈ pl', s'.heap.get? p.1 = some p.2 ∧ H' p.1 = none ∧ L ≤ p.1 ∧ ∀ v, p.2.data ≠ .cell v) ∧ Slp X pins A J L ga m (i + 1) e.genState pl'
section
variable {X : Cx} {pins : List (Addr × Obj)} {env : Env} {A : Around} {N : List Str} {J : It} {ga : Addr × Obj}
/-- what stands still of such a loop: its frames fs, its iterator at it -/
structure YFor (X : Cx) (pins : List (Addr × Obj)) (env : Env) (A : Around) (N : List Str) (J : It) (ga : Addr × Obj) (tgt e : Expr) (yp pos : Pos) (fs : List Frame) (it : Addr) (fp : List Addr) (tn : Nat → Heap → Prop) (Jr : It) (g' : TG) (te : TE) (n : Nat) (IG : Nat → List (Option V) → Prop) : Prop where
  G : GenvOk X pins env A
  turn : Turn X.prog X.w X.K tgt Jr fp it tn
  fp : ∀ b ∈ fp, env.locals < b ∧ b ≠ ga.1
  gl : env.locals < ga.1
  gc : ∀ v, ga.2.data ≠ .cell v
  pg : ∀ H s, PG (gX X N env A H s) tgt g'
  pe : ∀ H s, PE (gX X N env A H s) e te
  co : env.scope.isCoroutine = false
  split : splitAtGen fs = none
  guard : fs.any Frame.guarded = false
  over : A.over (.forLoop tgt (.ref it) [.Expr (.Yield (some e) yp) pos] [] env) fs = A.deeper env
  step : ∀ i σ H, i < n → IG i σ → J.go i H → Jr.go i H ∧ ∀ y H1, Jr.yld i H y H1 → g' y σ H1 fun σ2 H2 => te σ2 H2 fun x H3 => IG (i + 1) σ2 ∧ J.yld i H x H3
  stop : ∀ σ H, IG n σ → J.stop n H → Jr.stop n H
  fin : ∀ c Z s, Z (.ret (.ok (.ret .none))) s → Str1 (model X.prog X.w) A Z c (.pure (.done .next)) fs s
theorem YFor.run {tgt e : Expr} {yp pos : Pos} {fs : List Frame} {it : Addr} {fp : List Addr} {tn : Nat → Heap → Prop} {Jr : It} {g' : TG} {te : TE} {n : Nat} {IG : Nat → List (Option V) → Prop} (Y : YFor X pins env A N J ga tgt e yp pos fs it fp tn Jr g' te n IG) :
    ∀ (m i : Nat) (σ σc : List (Option V)) (H Hn : Hp) (sc s : Shared), i + m = n → Inv X pins σc H sc → Inv (gX X N env A H sc) [ga] σ Hn s → tn i s.heap → (∀ b ∈ fp, Hn b = none) → env.locals < sc.heap.objs.size →
      (match m with
        | 0 => Jr.stop i Hn ∧ Hn = H
        | _ + 1 => Jr.go i Hn ∧ ∀ y H1, Jr.yld i Hn y H1 → g' y σ H1 fun σ2 H2 => te σ2 H2 fun x H3 => IG (i + 1) σ2 ∧ J.yld i H x H3) →
      Str1 (model X.prog X.w) A (SlpZ X pins A J env.locals ga σc H i m) (.forLoop tgt (.ref it) [.Expr (.Yield (some e) yp) pos] [] env) ((model X.prog X.w).den (.forLoop tgt (.ref it) [.Expr (.Yield (some e) yp) pos] [] env)) fs s := by
  intro m
  induction m with
  | zero =>
    intro i σ σc H Hn sc s hm Ic I ht hf hsz hw
    obtain ⟨hst, hH⟩ := hw
    subst hH
    show Str1 _ A _ _ ((forTurn tgt (.ref it) [.Expr (.Yield (some e) yp) pos] [] env).onRaise (fun x => do noteFrame x env; theTreesLotGoes x)) fs s
    rw [Sem.onRaise_eq_wrap]
    unfold forTurn
    refine s1_bindw (wpAny_standAt ?_)
    refine s1_bindw ?_
    rw [Y.over]
    have fo : ∀ b ∈ fp, FpOk (gX X N env A Hn sc) [ga] Hn b := fun b hb => by
      obtain ⟨h1, h2⟩ := Y.fp b hb
      refine ⟨hf b hb, Nat.ne_of_gt h1, fun z => absurd (Y.G.fsLt Ic b z) (Nat.not_lt_of_lt h1), .inr ?_, fun x c z => ?_, fun p hp => ?_⟩
      · show (cutH sc.heap env.locals).objs.size ≤ b
        rw [cut_size]
        exact Nat.le_trans (Nat.min_le_left _ _) (Nat.le_of_lt h1)
      · have z' : env.cells.lookup x = some c := z
        rw [Y.G.cells] at z'; cases z'
      · have hp' : p ∈ [ga] := hp
        rw [List.mem_singleton.mp hp']
        exact Ne.symm h2
    refine wpAny_onRaise (wpAny_mono (Y.turn.done (gX X N env A Hn sc) rfl rfl rfl rfl i [ga] s σ Hn (fun _ _ => False) I fo ht hst) (fun r s1 hr => ?_) fun _ _ z => z.elim)
    obtain ⟨hr, I1⟩ := hr
    subst hr
    show Str1 _ A _ _ (.pure (.again (.block [] env))) fs s1
    refine s1_again rfl ?_
    refine Y.fin _ _ s1 ⟨rfl, rfl, rfl, ?_⟩
    exact Y.G.back Ic I1
  | succ m ih =>
    intro i σ σc H Hn sc s hm Ic I ht hf hsz hw
    obtain ⟨hgo, hw⟩ := hw
    show Str1 _ A _ _ ((forTurn tgt (.ref it) [.Expr (.Yield (some e) yp) pos] [] env).onRaise (fun x => do noteFrame x env; theTreesLotGoes x)) fs s
    rw [Sem.onRaise_eq_wrap]
    unfold forTurn
    refine s1_bindw (wpAny_standAt ?_)
    refine s1_bindw ?_
    rw [Y.over]
    have stat : ∀ {H' : Hp}, (∀ b ∈ fp, H' b = none) → ∀ b ∈ fp, FpOk (gX X N env A H sc) [ga] H' b := fun {H'} hf b hb => by
      obtain ⟨h1, h2⟩ := Y.fp b hb
      refine ⟨hf b hb, Nat.ne_of_gt h1, fun z => absurd (Y.G.fsLt Ic b z) (Nat.not_lt_of_lt h1), .inr ?_, fun x c z => ?_, fun p hp => ?_⟩
      · show (cutH sc.heap env.locals).objs.size ≤ b
        rw [cut_size]
        exact Nat.le_trans (Nat.min_le_left _ _) (Nat.le_of_lt h1)
      · have z' : env.cells.lookup x = some c := z
        rw [Y.G.cells] at z'; cases z'
      · have hp' : p ∈ [ga] := hp
        rw [List.mem_singleton.mp hp']
        exact Ne.symm h2
    refine wpAny_onRaise (wpAny_mono (Y.turn.item (gX X N env A H sc) rfl rfl rfl rfl i [ga] s σ Hn (fun _ _ => False) I (stat hf) ht hgo) (fun r s1 hr => ?_) fun _ _ z => z.elim)
    obtain ⟨u, hr, h1⟩ := hr
    subst hr
    refine s1_bindw ?_
    rw [Y.over]
    refine wpAny_mono h1 (fun _ s2 h2 => ?_) fun _ _ z => z.elim
    obtain ⟨y, H2, I2, r2, y2, t2, f2⟩ := h2
    have I2' := I2.pinned (stat f2) (Y.turn.obj _ _ t2)
    refine s1_bindw ?_
    rw [Y.over]
    refine wpAny_mono ((Y.pg H sc).run _ s2 σ H2 y u _ I2' r2 (hw y H2 y2)) (fun _ s3 h3 => ?_) fun _ _ z => z.elim
    obtain ⟨σ3, H3, I3, q3⟩ := h3
    have eb := Sem.bind_eq_wrap' (execs [.Expr (.Yield (some e) yp) pos] env) (fun f => (match f with
      | .next | .cont => again (.forLoop tgt (.ref it) [.Expr (.Yield (some e) yp) pos] [] env)
      | .brk => pure (.done .next)
      | .ret v => pure (.done (.ret v)) : Sem PySem.Fin))
    show Str1 _ A _ _ (Sem.wrap _ _ _ _ (execs [.Expr (.Yield (some e) yp) pos] env >>= fun f => (match f with
      | .next | .cont => again (.forLoop tgt (.ref it) [.Expr (.Yield (some e) yp) pos] [] env)
      | .brk => pure (.done .next)
      | .ret v => pure (.done (.ret v)) : Sem PySem.Fin))) fs s3
    rw [eb, Sem.wrap_wrap, execs_cons_wrap]
    refine s1_exprYield Y.split Y.co (by simp [interactive, Y.G.kind]) ?_
    rw [Y.over]
    refine wpAny_mono ((Y.pe H sc).run _ s3 σ3 H3 _ I3 q3) (fun v s4 h4 => ?_) fun _ _ z => z.elim
    obtain ⟨x, H4, I4, r4, ig, q4⟩ := h4
    intro kk l p hk
    have hgd : (!(id (id false) || fs.any Frame.guarded)) = true := by rw [Y.guard]; rfl
    have pin := I4.pin
    refine ⟨hgd, trivial, v, x, H4, (env.locals, (s4.heap.get? env.locals).getD default) :: (ga :: pinsAt fp s2.heap), rfl, r4, q4, Y.G.back Ic I4, by simp, fun p hp => ?_, ?_⟩
    · have other : ∀ p ∈ ga :: pinsAt fp s2.heap, s4.heap.get? p.1 = some p.2 ∧ H4 p.1 = none ∧ env.locals ≤ p.1 ∧ ∀ v, p.2.data ≠ .cell v := fun p hp => by
        obtain ⟨a1, a2, a3, a4, a5⟩ := pin p hp
        refine ⟨a1, a2, ?_, a5⟩
        rcases List.mem_cons.mp hp with z | z
        · rw [z]; exact Nat.le_of_lt Y.gl
        · exact Nat.le_of_lt (Y.fp _ (of_pinsAt z).1).1
      rcases List.mem_cons.mp hp with z | z
      · obtain ⟨mm, ⟨o, es, ep, ho, hd, _⟩, _⟩ := I4.loc
        have ho' : s4.heap.get? env.locals = some o := ho
        rw [z, ho']
        refine ⟨rfl, I4.free, Nat.le_refl _, fun v q => ?_⟩
        have q' : o.data = .cell v := q
        rw [hd] at q'; cases q'
      · exact other p z
    · obtain ⟨mm, ⟨o, es, ep, ho, hd, rr⟩, hl⟩ := I4.loc
      have ho' : s4.heap.get? env.locals = some o := ho
      have sl : SlotsAt N env σ3 s4.heap := ⟨I4.len, mm, ⟨o, es, ep, ho', hd, rr⟩, hl⟩
      rw [ho']
      have wakeI : ∀ (σd : List (Option V)) (Hd : Hp) (sd : Shared) (g : Nat), Inv X pins σd Hd sd → (∀ p ∈ (env.locals, o) :: (ga :: pinsAt fp s2.heap), sd.heap.get? p.1 = some p.2 ∧ Hd p.1 = none) →
          Inv (gX X N env A Hd sd) [ga] σ3 Hd (sd.setGen g .running) ∧ tn (i + 1) (sd.setGen g .running).heap ∧ (∀ b ∈ fp, Hd b = none) ∧ env.locals < sd.heap.objs.size := fun σd Hd sd g Id hp => by
        obtain ⟨z1, z2⟩ := hp (env.locals, o) List.mem_cons_self
        refine ⟨Y.G.wake (s' := sd.setGen g .running) Id z2 (sl.keeps Y.G.cells ho' z1) rfl rfl (allBare_setGen Id.bare rfl) fun p hm => ?_, ?_, fun b hb => ?_, Heap.lt_size z1⟩
        · rw [List.mem_singleton.mp hm]
          obtain ⟨y1, y2⟩ := hp ga (List.mem_cons_of_mem _ List.mem_cons_self)
          exact ⟨y1, y2, Nat.ne_of_gt Y.gl, fun z => absurd (Y.G.fsLt Id _ z) (Nat.not_lt_of_lt Y.gl), Y.gc⟩
        · refine Y.turn.keep _ _ _ t2 fun b hb o' e' => ?_
          exact (hp (b, o') (List.mem_cons_of_mem _ (List.mem_cons_of_mem _ (mem_pinsAt hb e')))).1
        · obtain ⟨o', e', _⟩ := Y.turn.obj _ _ t2 b hb
          exact (hp (b, o') (List.mem_cons_of_mem _ (List.mem_cons_of_mem _ (mem_pinsAt hb e')))).2
      show Slp X pins A J env.locals ga m (i + 1) (.suspended kk l _ p fs _) ((env.locals, o) :: (ga :: pinsAt fp s2.heap))
      cases m with
      | zero =>
        intro σd Hd sd g Id hp hst
        obtain ⟨w1, w2, w3, w4⟩ := wakeI σd Hd sd g Id hp
        have hn : i + 1 = n := hm
        refine hk _ _ (s1_again rfl (ih (i + 1) σ3 σd Hd Hd sd _ (by omega) Id w1 w2 w3 w4 ⟨?_, rfl⟩))
        rw [hn]
        exact Y.stop σ3 Hd (by rw [← hn]; exact ig) (by rw [← hn]; exact hst)
      | succ m =>
        intro σd Hd sd g Id hp hgo2
        obtain ⟨w1, w2, w3, w4⟩ := wakeI σd Hd sd g Id hp
        exact hk _ _ (s1_again rfl (ih (i + 1) σ3 σd Hd Hd sd _ (by omega) Id w1 w2 w3 w4 (Y.step (i + 1) σ3 Hd (by omega) ig hgo2)))
end
end AG
/-! Ge -/
set_option Elab.async false
set_option linter.all false
set_option maxRecDepth 100000
set_option maxHeartbeats 1000000
/- for x in o.gen(k = v): body, where the body runs frames of its own while the generator sleeps. -/
namespace AG
open PySem PySem.Spec PyProof.Rows L2 GenW
abbrev TIG := L2.St → Hp → (It → Nat → Hp → Prop) → Prop
/-- the object of the generator g -/
def IsGO (g : Nat) (o : Obj) : Prop := ∀ (h : Heap) (a : Addr), h.get? a = some o → h.IsGen a g
/-- an expression that makes a generator; it gives n items of J -/
structure PIG (X : Cx) (iter : Expr) (wi : TIG) : Prop where
  run : ∀ (pins : List (Addr × Obj)) (s : Shared) (σ : L2.St) (H : Hp) (R : It → Nat → Hp → Prop), Inv X pins σ H s → wi σ H R →
    wpAny (model X.prog X.w) X.A (eval iter X.env) (fun v s1 => ∃ (ga : Addr × Obj) (g : Nat) (gs : GenState) (J : It) (n : Nat) (H1 : Hp) (pl : List (Addr × Obj)) (L : Addr), v = .ref ga.1 ∧ Inv X pins σ H1 s1 ∧ IsGO g ga.2 ∧ s1.gens[g]? = some gs ∧ X.env.locals < L ∧ ga ∈ pl ∧
      (∀ p ∈ pl, s1.heap.get? p.1 = some p.2 ∧ H1 p.1 = none ∧ L ≤ p.1 ∧ ∀ v, p.2.data ≠ .cell v) ∧ Slp X pins X.A.in1 J L ga n 0 gs pl ∧ R J n H1) X.xe s
def tForG (wi : TIG) (g : TG) (tb : TS) : TS := fun D σ H => wi σ H fun J n H1 => ∃ Pv : Nat → L2.St → Hp → Prop, Pv 0 σ H1 ∧
  (∀ i σ H, i < n → Pv i σ H → J.go i H ∧ ∀ x H', J.yld i H x H' → g x σ H' fun σ2 H2 => tb { D with nx := Pv (i + 1), ct := Pv (i + 1), bk := D.nx } σ2 H2) ∧ ∀ σ H, Pv n σ H → J.stop n H ∧ D.nx σ H
theorem ps_forG {X : Cx} {tg iter : Expr} {body : List Stmt} {wi : TIG} {tgt : TG} {tb : TS} {pos : Pos} {k : Nat} (hp : PassesOwn (model X.prog X.w) X.A X.env X.xe) (hx : ∀ e s, X.xe e s → False) (hc : X.calm = true) (hr : Room k X.A) (hi : PIG X iter wi) (hg : PG X tg tgt) (hb : PSs X body tb)
    (hs : ∀ x, foldedSetIterable iter X.env x = pure x := by intro _; rfl) (ht : ∀ it v, letOwnedTupleGo tg it v = pure () := by intro _ _; rfl) : PS X (.For tg iter body [] pos) (tForG wi tgt tb) := by
  refine ⟨fun pins s σ H D I h => ?_⟩
  refine wpAny_For (thn (hi.run pins s σ H _ I h) fun v s1 h1 => ?_) hs
  obtain ⟨ga, g, gs, J, n, H1, pl, L, rfl, I1, hgo, hgs, hL, hm, hpl, hS, Pv, p0, step, fin⟩ := h1
  refine wpAny_pyIter_gen (hgo _ _ (hpl ga hm).1) ?_
  have nofs : ∀ {σ' : L2.St} {H' : Hp} {s' : Shared}, Inv X pins σ' H' s' → ∀ b, L ≤ b → b ≠ X.env.locals ∧ b ∉ X.fs := fun {σ' H' s'} I' b hb => by
    refine ⟨Nat.ne_of_gt (Nat.lt_of_lt_of_le hL hb), fun z => ?_⟩
    obtain ⟨_, o, ho, _⟩ := I'.ok.funs.mem z
    have h1 := Heap.lt_size ho
    have h2 := I'.ok.above
    exact absurd (Nat.lt_of_lt_of_le h1 (Nat.le_trans h2 (Nat.le_trans (Nat.le_of_lt hL) hb))) (Nat.lt_irrefl _)
  refine codeAny_forLoop_any (fun k s' => ∃ i σ' H' gs pl, i + k = n ∧ Inv X pins σ' H' s' ∧ s'.gens[g]? = some gs ∧ ga ∈ pl ∧ (∀ p ∈ pl, s'.heap.get? p.1 = some p.2 ∧ H' p.1 = none ∧ L ≤ p.1 ∧ ∀ v, p.2.data ≠ .cell v) ∧ Slp X pins X.A.in1 J L ga k i gs pl ∧ Pv i σ' H') ?_ n
    ⟨0, σ, H1, gs, pl, Nat.zero_add n, I1, hgs, hm, hpl, hS, p0⟩
  rintro k s2 ⟨i, σ2, H2, gs2, pl2, hik, I2, hgs2, hm2, hpl2, hS2, pv⟩
  have hgl : g + 1 ≤ s2.gens.size := (Array.getElem?_eq_some_iff.mp hgs2).1
  have pin2 : ∀ p ∈ pl2, s2.heap.get? p.1 = some p.2 ∧ H2 p.1 = none := fun p hp => ⟨(hpl2 p hp).1, (hpl2 p hp).2.1⟩
  cases k with
  | zero =>
    have hin : i = n := by omega
    subst hin
    obtain ⟨q1, q2⟩ := fin σ2 H2 pv
    refine next_woken (I2.ok.hd hc) I2.nolimit hr.depth (hgo _ _ (hpl2 ga hm2).1) hgs2 (hS2 σ2 H2 s2 g I2 pin2 q1) fun e s3 he => ?_
    obtain ⟨e1, e2, e3, I3⟩ := he
    refine ⟨e1, .inr ⟨e2, fun h' hk => ?_⟩⟩
    refine wpAny_execs_nil ⟨σ2, H2, ?_, q2⟩
    exact Inv.tab (I3.kept (t' := s3.toks) hk) rfl rfl (allBare_setGen (s := s3) I3.bare (End.bare_of_quiet e1))
  | succ k =>
    have hlt : i < n := by omega
    obtain ⟨q1, q2⟩ := step i σ2 H2 hlt pv
    refine wpAny_gsz (n := g + 1) hgl (next_woken (I2.ok.hd hc) I2.nolimit hr.depth (hgo _ _ (hpl2 ga hm2).1) hgs2 (hS2 σ2 H2 s2 g I2 pin2 q1) fun e s3 he => ?_)
    obtain ⟨e1, e2, v, x, H3, pl3, ev, rv, y3, I3, hm3, hpl3, hS3⟩ := he
    refine ⟨e1, .inl ⟨v, ev, fun hsz => ?_⟩⟩
    have hsz3 : g < s3.gens.size := by
      have q : (s3.setGen g e.genState).gens.size = s3.gens.size := setGen_size _ _ _
      have hsz' : g + 1 ≤ (s3.setGen g e.genState).gens.size := hsz
      omega
    have hgs3 : (s3.setGen g e.genState).gens[g]? = some e.genState := setGen_at hsz3
    have I4 : Inv X pins σ2 H3 (s3.setGen g e.genState) := Inv.tab I3 rfl rfl (allBare_setGen I3.bare (End.bare_of_quiet e1))
    have I4' : Inv X (pins ++ pl3) σ2 H3 (s3.setGen g e.genState) := I4.pins_of fun p hp => (List.mem_append.mp hp).elim (fun z => I4.pin p (List.mem_append_right _ z)) fun z => by
      obtain ⟨a1, a2, a3, a4⟩ := hpl3 p z
      obtain ⟨b1, b2⟩ := nofs I4 p.1 a3
      exact ⟨a1, a2, b1, b2, a4⟩
    refine wpAny_of_eq (ht _ _) ?_
    refine wpAny_passesOwn hp (wpAny_mono (wpAny_asleep hgs3 e2 (hg.run (pins ++ pl3) { s3.setGen g e.genState with gens := (s3.setGen g e.genState).gens.map pz } σ2 H3 x v _ (Inv.tab I4' rfl rfl (allBare_pz I4'.bare)) rv (q2 x H3 y3))) (fun _ s5 h5 => ?_) fun e' s' z => (hx _ _ z.choose_spec).elim)
    obtain ⟨hgs5, T5, b5, σ5, H5, I5, q5⟩ := h5
    have I5' : Inv X (pins ++ pl3) σ5 H5 s5 := Inv.tab I5 rfl rfl (b5 I5.bare)
    refine wpAny_passesOwn hp (wpAny_mono (wpAny_asleep hgs5 e2 (hb.run (pins ++ pl3) { s5 with gens := s5.gens.map pz } σ5 H5 _ (Inv.tab I5' rfl rfl (allBare_pz I5'.bare)) q5)) (fun f s6 h6 => ?_) fun e' s' z => (hx _ _ z.choose_spec).elim)
    obtain ⟨hgs6, T6, b6, h6⟩ := h6
    have again : ∀ {σ7 : L2.St} {H7 : Hp}, Inv X (pins ++ pl3) σ7 H7 { s6 with gens := T6 } → Pv (i + 1) σ7 H7 → ∃ m, m < k + 1 ∧ ∃ i σ' H' gs pl, i + m = n ∧ Inv X pins σ' H' s6 ∧ s6.gens[g]? = some gs ∧ ga ∈ pl ∧
        (∀ p ∈ pl, s6.heap.get? p.1 = some p.2 ∧ H' p.1 = none ∧ L ≤ p.1 ∧ ∀ v, p.2.data ≠ .cell v) ∧ Slp X pins X.A.in1 J L ga m i gs pl ∧ Pv i σ' H' := fun {σ7 H7} I7 n7 => by
      have I7' : Inv X (pins ++ pl3) σ7 H7 s6 := Inv.tab I7 rfl rfl (b6 I7.bare)
      refine ⟨k, Nat.lt_succ_self k, i + 1, σ7, H7, e.genState, pl3, by omega, I7'.unpinned, hgs6, hm3, fun p hp => ?_, hS3, n7⟩
      obtain ⟨a1, a2, _⟩ := I7'.pin p (List.mem_append_right _ (List.mem_append_right _ hp))
      obtain ⟨_, _, a3, a4⟩ := hpl3 p hp
      exact ⟨a1, a2, a3, a4⟩
    have put : ∀ {σ7 : L2.St} {H7 : Hp}, Inv X (pins ++ pl3) σ7 H7 { s6 with gens := T6 } → Inv X pins σ7 H7 s6 := fun {σ7 H7} I7 => (Inv.tab I7 (s' := s6) rfl rfl (b6 I7.bare)).unpinned
    cases f with
    | next => obtain ⟨σ7, H7, I7, n7⟩ := h6; exact again I7 n7
    | cont => obtain ⟨σ7, H7, I7, n7⟩ := h6; exact again I7 n7
    | brk => obtain ⟨σ7, H7, I7, q7⟩ := h6; exact ⟨σ7, H7, put I7, q7⟩
    | ret u => obtain ⟨x7, σ7, H7, I7, r7, q7⟩ := h6; exact ⟨x7, σ7, H7, put I7, r7, q7⟩
theorem PIG.or {X : Cx} {iter : Expr} {w1 w2 : TIG} (a : PIG X iter w1) (b : PIG X iter w2) : PIG X iter (fun σ H R => w1 σ H R ∨ w2 σ H R) :=
  ⟨fun pins s σ H R I h => h.elim (a.run pins s σ H R I) (b.run pins s σ H R I)⟩
end AG
/-! Gf -/
set_option Elab.async false
set_option linter.all false
set_option maxRecDepth 100000
set_option maxHeartbeats 1000000
/- The first stretch of such a generator (two plain statements, then the loop), and the call that makes it. -/
namespace AG
open PySem PySem.Spec PyProof.Rows L2 GenW
/-- how the loop begins, and how it goes on: H: the heap at the first waking -/
def tFirst (J : It) (n : Nat) (g' : TG) (te : TE) (H : Hp) (σ : L2.St) (H3 : Hp) (Jr : It) : Prop := ∃ IG : Nat → L2.St → Prop,
  (Jr.go 0 H3 ∧ ∀ y H1, Jr.yld 0 H3 y H1 → g' y σ H1 fun σ2 H2 => te σ2 H2 fun x H4 => IG 1 σ2 ∧ J.yld 0 H x H4) ∧
  (∀ i σ H, i < n → IG i σ → J.go i H → Jr.go i H ∧ ∀ y H1, Jr.yld i H y H1 → g' y σ H1 fun σ2 H2 => te σ2 H2 fun x H3 => IG (i + 1) σ2 ∧ J.yld i H x H3) ∧
  ∀ σ H, IG n σ → J.stop n H → Jr.stop n H
theorem gen_first {X : Cx} {pins : List (Addr × Obj)} {env : Env} {A : Around} {N : List Str} {J : It} {ga : Addr × Obj} {st1 st2 : Stmt} {t1 t2 : TS} {tgt iter e : Expr} {yp pos1 pos2 : Pos} {wi : TI} {g' : TG} {te : TE} {n : Nat} {oL : Obj} {σ0 : L2.St}
    (G : GenvOk X pins env A) (hco : env.scope.isCoroutine = false) (gl : env.locals < ga.1) (gc : ∀ v, ga.2.data ≠ .cell v) (h1 : ∀ H s, PS (gX X N env A H s) st1 t1) (h2 : ∀ H s, PS (gX X N env A H s) st2 t2) (hi : ∀ H s, PI (gX X N env A H s) tgt iter wi)
    (hg : ∀ H s, PG (gX X N env A H s) tgt g') (he : ∀ H s, PE (gX X N env A H s) e te) (hs : ∀ x, foldedSetIterable iter env x = pure x) (hsl : ∀ h : Heap, h.get? env.locals = some oL → SlotsAt N env σ0 h)
    (ho : ∀ H, J.go 0 H → t1 { nx := fun σ1 H1 => t2 { nx := fun σ2 H2 => wi σ2 H2 fun Jr H3 => tFirst J (n + 1) g' te H σ2 H3 Jr, rt := fun _ _ => False } σ1 H1, rt := fun _ _ => False } σ0 H) :
    Slp X pins A J env.locals ga (n + 1) 0 (.fresh (.func [st1, st2, .For tgt iter [.Expr (.Yield (some e) yp) pos2] [] pos1] env)) [(env.locals, oL), ga] := by
  intro σd Hd sd g Id hp hgo
  obtain ⟨z1, z2⟩ := hp (env.locals, oL) List.mem_cons_self
  have I0 : Inv (gX X N env A Hd sd) [ga] σ0 Hd (sd.setGen g .running) := G.wake (s' := sd.setGen g .running) Id z2 (hsl _ z1) rfl rfl (allBare_setGen Id.bare rfl) fun p hm => by
    rw [List.mem_singleton.mp hm]
    obtain ⟨y1, y2⟩ := hp ga (List.mem_cons_of_mem _ List.mem_cons_self)
    exact ⟨y1, y2, Nat.ne_of_gt gl, fun z => absurd (G.fsLt Id _ z) (Nat.not_lt_of_lt gl), gc⟩
  have sz : env.locals < sd.heap.objs.size := Heap.lt_size z1
  show Str1 _ A (SlpZ X pins A J env.locals ga σd Hd 0 (n + 1)) _ (.point [] fun _ => ((execs [st1, st2, .For tgt iter [.Expr (.Yield (some e) yp) pos2] [] pos1] env).onRaise (leaving env)) >>= _) [] (sd.setGen g .running)
  refine s1_point ?_
  rw [Sem.onRaise_eq_wrap, Sem.bind_eq_wrap', Sem.wrap_wrap, execs_cons_wrap]
  refine s1_wrap ?_
  rw [over_func]
  refine wpAny_mono ((h1 Hd sd).run [ga] _ σ0 Hd _ I0 (ho Hd hgo)) (fun f s1 q => ?_) fun _ _ z => z.elim
  cases f with
  | brk => obtain ⟨_, _, _, z⟩ := q; exact z.elim
  | cont => obtain ⟨_, _, _, z⟩ := q; exact z.elim
  | ret u => obtain ⟨_, _, _, _, _, z⟩ := q; exact z.elim
  | next =>
    obtain ⟨σ1, H1, I1, q⟩ := q
    show Str1 _ A _ _ ((execs [st2, .For tgt iter [.Expr (.Yield (some e) yp) pos2] [] pos1] env).wrap _ _ _ _) [] s1
    rw [execs_cons_wrap]
    refine s1_wrap ?_
    rw [over_func]
    refine wpAny_mono ((h2 Hd sd).run [ga] _ σ1 H1 _ I1 q) (fun f s2 q => ?_) fun _ _ z => z.elim
    cases f with
    | brk => obtain ⟨_, _, _, z⟩ := q; exact z.elim
    | cont => obtain ⟨_, _, _, z⟩ := q; exact z.elim
    | ret u => obtain ⟨_, _, _, _, _, z⟩ := q; exact z.elim
    | next =>
      obtain ⟨σ2, H2, I2, q⟩ := q
      show Str1 _ A _ _ ((execs [.For tgt iter [.Expr (.Yield (some e) yp) pos2] [] pos1] env).wrap _ _ _ _) [] s2
      rw [execs_cons_wrap, exec_For]
      refine s1_bindw (wpAny_standAt ?_)
      refine s1_bindw ?_
      rw [over_func]
      refine wpAny_mono ((hi Hd sd).run [ga] s2 σ2 H2 _ I2 q) (fun v s3 h3 => ?_) fun _ _ z => z.elim
      refine s1_bindw (wpAny_of_eq (hs _) ?_)
      refine s1_bindw (wpAny_standAt ?_)
      refine s1_bindw (wpAny_holding ?_)
      rw [over_func]
      refine wpAny_mono h3 (fun itv s4 h4 => ?_) fun _ _ z => z.elim
      obtain ⟨it, fp, tn, Jr, H4, rfl, I4, T, t4, f4, IG, q1, q2, q3⟩ := h4
      refine s1_call fun p => ?_
      have T' : Turn X.prog X.w X.K tgt Jr fp it tn := T
      refine YFor.run (n := n + 1) (IG := IG) ⟨G, T', fun b hb => ?_, gl, gc, hg, he, hco, rfl, rfl, (over_loop rfl rfl).trans over_func, q2, q3, fun c Z s hz => s1_leaf (.ok .next) (s1_end (.ok (.ret .none)) hz)⟩ (n + 1) 0 σ2 σd Hd H4 sd s4 (Nat.zero_add _) Id I4 t4 (fun b hb => (f4 b hb).1) sz q1
      obtain ⟨_, a2, _, a4, _, a6⟩ := f4 b hb
      refine ⟨?_, fun z => a6 ga (List.mem_cons_self ..) z.symm⟩
      rcases a4 with z | z
      · cases z
      · have z' : (cutH sd.heap env.locals).objs.size ≤ b := z
        rw [cut_size, Nat.min_eq_left (Nat.le_of_lt sz)] at z'
        exact Nat.lt_of_le_of_ne z' (Ne.symm a2)
/-- what a generator method gives of the arguments vs at H: J, n times -/
abbrev SpJ := List V → Hp → (It → Nat → Hp → Prop) → Prop
def tMethJ (C : Addr) (m : Str) (sp : SpJ) (to te : TE) : TIG := fun σ H R => to σ H fun x H1 => ∃ a dx fs, x = .ref a ∧ H1 a = some (.ins C dx fs) ∧ fs.lookup m = none ∧ te σ H1 fun y H2 => sp [x, y] H2 R
theorem no_cells {names : List (Str × NameKind)} (h : names.all (fun y => y.2 != .cell) = true) : ∀ (n : Nat) (acc : List (Str × Addr)), cellsFrom n names acc = acc := by
  induction names with
  | nil => intro n acc; rfl
  | cons y r ih =>
    intro n acc
    rw [List.all_cons, Bool.and_eq_true] at h
    obtain ⟨h1, h2⟩ := h
    obtain ⟨a, b⟩ := y
    have e : ((b == NameKind.cell) = false) := by
      have z : (b != NameKind.cell) = true := h1
      rw [bne, Bool.not_eq_true'] at z
      exact z
    unfold cellsFrom
    simp only [e, Bool.false_eq_true, if_false]
    exact ih h2 n acc
theorem pig_meth {X : Cx} {k : Nat} {C f : Addr} {fd : FuncData} {m kw x qual : Str} {params : Arguments} {body : List Stmt} {scope : Scope} {kws : List (Str × V)} {N ps : List Str} {sp : SpJ} {o e : Expr} {to te : TE} {apos pos kpos : Pos} {pl : Sem Bool}
    (he : PE X o to) (c : Cls X.K C) (hm : Meth X.K C m f) (F : FunD X.K x qual params body scope [] kws f fd) (S : GScope N ps scope) (hr : Room (k + 2) X.A) (hkw : PE X e te) (hps : ps.length = 2) (hlen : ∀ vs H R, sp vs H R → vs.length = 2) (hkn : kws ≠ [])
    (hb : ∀ (D : Addr) (doc pm : Value) (an : Option Addr) (cdv ct : Value) (u v : Value), bindArgs (PySem.W.fnOf x qual params body scope .none (.ref D) doc pm an cdv ct) ⟨[u], [(kw, v)]⟩ = pure (ps.zip [u, v]))
    (hall : (backToKw pos (keywordEach [⟨some kw, e, kpos⟩] X.env)).all (·.1.isSome) = true) (hks : (backToKw pos (keywordEach [⟨some kw, e, kpos⟩] X.env)).filterMap (·.1) = [kw])
    (hpl : ((backTo pos (starEach [] X.env)).any (·.1) || (backToKw pos (keywordEach [⟨some kw, e, kpos⟩] X.env)).any (·.1.isNone)) = false)
    (hnc : scope.names.all (fun y => y.2 != .cell) = true)
    (hgen : ∀ (pins : List (Addr × Obj)) (cdv : Value) (L : Addr) (vs : List V) (H : Hp) (R : It → Nat → Hp → Prop), GenvOk X pins (envOfC qual scope L f cdv) X.A.in1 → Room k (X.A.in1.deeper (envOfC qual scope L f cdv)) → sp vs H R → ∃ J n, R J n H ∧ ∀ (ga : Addr × Obj) (oL : Obj), L < ga.1 → (∀ v, ga.2.data ≠ .cell v) →
      (∀ h : Heap, h.get? L = some oL → SlotsAt N (envOfC qual scope L f cdv) (start N vs) h) → Slp X pins X.A.in1 J L ga n 0 (.fresh (.func body (envOfC qual scope L f cdv))) [(L, oL), ga])
    (ht : eval (.Call (.Attribute o m apos) [] [⟨some kw, e, kpos⟩] pos) X.env = (do
      let ov ← eval o X.env
      standAt apos.atName
      let (f, first) ← holding [ov] (getMethod ov m pl)
      callWith pos f first (backTo pos (starEach [] X.env)) (backToKw pos (keywordEach [⟨some kw, e, kpos⟩] X.env)))) :
    PIG X (.Call (.Attribute o m apos) [] [⟨some kw, e, kpos⟩] pos) (tMethJ C m sp to te) := by
  refine ⟨fun pins s σ H R I h => ?_⟩
  refine PySem.W.methodCall_KW (pl := pl) (thn (he.run pins s σ H _ I h) fun u s1 ⟨xo, H1, I1, rx, a, dx, fs, ex, ea, l, q⟩ => ?_) ht
  subst ex
  obtain rfl : u = Value.ref a := rx
  refine getmeth_ok I1 ea c hm l ?_
  refine PySem.W.callWith_KW0 (first := [.ref a]) (h₀ := X.base) I.ok.mod.kin hm.kp hall ?_ hpl
  refine thn ((pk_cons (X := X) (nm := some kw) (kpos := kpos) hkw pk_nil).run pos pins s1 σ H1 (fun zs H2 => sp (.ref a :: zs) H2 R) I1 q) fun ws s2 ⟨zs, H2, I2, rz, q2⟩ => ⟨I2.kIn, ?_⟩
  obtain ⟨y, rfl⟩ : ∃ y, zs = [y] := by
    have z := hlen _ _ _ q2
    match zs, z with
    | [y], _ => exact ⟨y, rfl⟩
  obtain ⟨v, rfl⟩ : ∃ v, ws = [v] := by
    have z := rz.length
    match ws, z with
    | [v], _ => exact ⟨v, rfl⟩
  rw [hks]
  obtain ⟨oc, od, dV, kV, doc, pm, an, cdv, ct, osl, rfl, lk, hcd, hD, hK⟩ := F.ex
  obtain rfl : dV = .none := by
    rcases hD with ⟨_, z⟩ | ⟨z, _⟩
    · exact z
    · exact absurd rfl z
  obtain ⟨D, rfl⟩ : ∃ D, kV = .ref D := by
    rcases hK with z | ⟨D, z, _⟩
    · exact absurd z hkn
    · exact ⟨D, z⟩
  have KX := I2.kIn
  have r2 : Vals [V.ref a, y] [Value.ref a, v] := .cons rfl rz
  have hkind : ∀ z ∈ ps.zip [Value.ref a, v], scope.names.lookup z.1 = some .local ∨ (scope.names.lookup z.1 = some .cell ∧ ((cellsFrom (s2.heap.objs.size + 1) scope.names []).lookup z.1).isSome = true) := fun ⟨n, w⟩ hz => by
    rcases S.par n (List.of_mem_zip hz).1 with q | q
    · exact .inl q
    · exact .inr ⟨q, PySem.W.cellsFrom_some _ _ _ (.inl q)⟩
  refine wpAny_call (codeAny_call_generator hr.depth (KX _ _ lk) rfl S.co S.gen rfl (PySem.W.codeRec_of KX hcd) (BindsTo.of_eq (s := s2) (hb D doc pm an cdv ct (.ref a) v) _ _ _ _ ?_))
  refine wpAny_newFunctionEnv_cells S.kind hkind fun env he s3 x => ?_
  subst he
  have kp3 : ∀ b o, s2.heap.get? b = some o → s3.heap.get? b = some o := x.toInCall.keep
  refine ⟨I2.nolimit.keeps kp3, ?_⟩
  obtain ⟨h3, tk, es3, hk3⟩ := x.done
  have os3 : s3.os = s2.os := by rw [es3]
  have gen3 : s3.gens = s2.gens := by rw [es3]
  have lt3 : s2.heap.objs.size < s3.heap.objs.size := x.toInCall.ns.lt
  have I3 := inv_startG (P := X.prog) (w := X.w) (K := X.K) (mg := X.mg) (base := X.base) (A := X.A) (outer := X.stack) (E := fun _ _ _ => False) (vs := [V.ref a, y]) S hr.hd I2.env0 hps.symm r2 x
  obtain ⟨mm, ⟨oL, es, ep, hoL, hdL, rr⟩, hl⟩ := I3.loc
  have hoL' : s3.heap.get? s2.heap.objs.size = some oL := hoL
  have hcells : (envOfC qual scope s2.heap.objs.size f cdv).cells = [] := no_cells hnc _ _
  have sl : SlotsAt N (envOfC qual scope s2.heap.objs.size f cdv) (start N [.ref a, y]) s3.heap := ⟨I3.len, mm, ⟨oL, es, ep, hoL', hdL, rr⟩, hl⟩
  have G : GenvOk X pins (envOfC qual scope s2.heap.objs.size f cdv) X.A.in1 := by
    refine ⟨S.kind, rfl, rfl, hcells, fun z hz => ?_, rfl, I2.lt, fun z c e => ?_, fun p hp => Heap.lt_size (I2.pin p hp).1, hr.hd, I2.ok.frames⟩
    · have hz' : scope.names.lookup z = some .cell ∨ scope.names.lookup z = some .free := hz
      rcases hz' with q | q
      · have q2 := List.all_eq_true.mp hnc _ (PySem.mem_of_lookup q)
        have q3 : (NameKind.cell != NameKind.cell) = true := q2
        exact absurd q3 (by decide)
      · exact absurd rfl (S.nofree _ (PySem.mem_of_lookup q))
    · obtain ⟨v', q⟩ := I2.cell z c e
      exact q.lt
  obtain ⟨J, n, hR, hS⟩ := hgen pins cdv s2.heap.objs.size [.ref a, y] H2 R G ((hr.in1).deeper _) q2
  have main : ∀ (go : Obj) (nm qn : Value) (tk2 : Nat), go.cls = .type "generator" → go.data = .fields #[.int s3.gens.size 0, nm, qn] → go.slots = #[] → (∀ h : Heap, (h.push go).get? h.objs.size = some go) →
      ∃ (ga : Addr × Obj) (g : Nat) (gs : GenState) (J : It) (n : Nat) (H1 : Hp) (pl : List (Addr × Obj)) (L : Addr), Value.ref s3.heap.objs.size = .ref ga.1 ∧
        Inv X pins σ H1 { s3 with gens := s3.gens.push (.fresh (.func body (envOfC qual scope s2.heap.objs.size f cdv))), toks := tk2, heap := s3.heap.push go } ∧ IsGO g ga.2 ∧
        ({ s3 with gens := s3.gens.push (.fresh (.func body (envOfC qual scope s2.heap.objs.size f cdv))), toks := tk2, heap := s3.heap.push go } : Shared).gens[g]? = some gs ∧ X.env.locals < L ∧ ga ∈ pl ∧
        (∀ p ∈ pl, (s3.heap.push go).get? p.1 = some p.2 ∧ H1 p.1 = none ∧ L ≤ p.1 ∧ ∀ v, p.2.data ≠ .cell v) ∧ Slp X pins X.A.in1 J L ga n 0 gs pl ∧ R J n H1 := by
    intro go nm qn tk2 g1 g2 g3 g4
    have gd : ∀ v, go.data ≠ .cell v := fun v q => by rw [g2] at q; cases q
    have kp4 : ∀ b o, s2.heap.get? b = some o → (s3.heap.push go).get? b = some o := fun b o e => Heap.get?_push_of_some _ (kp3 b o e)
    refine ⟨(s3.heap.objs.size, go), s3.gens.size, _, J, n, H2, [(s2.heap.objs.size, oL), (s3.heap.objs.size, go)], s2.heap.objs.size, rfl, ?_, fun h b e => ⟨go, nm, qn, e, g1, g2, g3⟩, Array.getElem?_push_size .., I2.lt, by simp, fun p hp => ?_,
      hS (s3.heap.objs.size, go) oL lt3 gd fun h e => sl.keeps hcells hoL' e, hR⟩
    · exact I2.call' (ch := []) os3 (Un.kept kp4) (I2.hok.kept kp4) (AllBare.push (by rw [gen3]; exact I2.bare) rfl) fun b z => by simp at z
    · rcases List.mem_cons.mp hp with z | z
      · rw [z]
        exact ⟨Heap.get?_push_of_some _ hoL', I2.hok.fresh (Nat.le_refl _), Nat.le_refl _, fun w q => by
          have q' : oL.data = .cell w := q
          rw [hdL] at q'; cases q'⟩
      · rw [List.mem_singleton.mp z]
        exact ⟨g4 _, I2.hok.fresh (Nat.le_of_lt lt3), Nat.le_of_lt lt3, gd⟩
  exact main _ _ _ _ rfl rfl rfl fun h => Heap.get?_push_size _ rfl
end AG
/-! W39a -/
set_option Elab.async false
set_option linter.all false
set_option maxRecDepth 100000
set_option maxHeartbeats 4000000
namespace AH
open PySem PySem.Spec PyProof.Rows L2 He AG
/-- by how much a block is halved -/
def nsub : Nat → Nat
  | 0 => 0
  | _ + 1 => 1
theorem nsub_le (k : Nat) : nsub k ≤ k := by cases k <;> simp [nsub]
theorem nsub_le1 (k : Nat) : nsub k ≤ 1 := by cases k <;> simp [nsub]
/-- the i-th half -/
def sbN (n : Int) (k i : Nat) : Int := n + (i : Int) * AN.P (k - nsub k)
theorem sb_ok {v : Bool} {n : Int} {k i : Nat} (h : NOk v n k) (hi : i < nsub k + 1) : NOk v (sbN n k i) (k - nsub k) := by
  unfold sbN
  cases k with
  | zero =>
    have e : i = 0 := by simp only [nsub] at hi; omega
    subst e
    simpa [nsub] using h
  | succ k =>
    show NOk v (n + (i : Int) * AN.P k) k
    have ps := AN.P_succ k
    have pp := AN.P_pos k
    obtain ⟨h1, h2, h3, h4⟩ := h
    have hi2 : i < 2 := hi
    have d : AN.P k ∣ n := Int.dvd_trans (AN.P_dvd (Nat.le_succ k)) h1
    rcases (show i = 0 ∨ i = 1 by omega) with e | e
    · subst e
      rw [Int.natCast_zero, Int.zero_mul, Int.add_zero]
      exact ⟨d, by omega, h3, by omega⟩
    · subst e
      rw [Int.natCast_one, Int.one_mul]
      exact ⟨Int.dvd_add d (Int.dvd_refl _), by omega, by omega, by omega⟩
theorem hv_sb (e : AN.Ent Str) : AN.hv e = (List.range (nsub e.1.2 + 1)).map fun i => ((sbN e.1.1 e.1.2 i, e.1.2 - nsub e.1.2), e.2) := by
  obtain ⟨⟨n, k⟩, w⟩ := e
  cases k with
  | zero =>
    rw [AN.hv_zero rfl]
    show [((n, 0), w)] = [((n + ((0 : Nat) : Int) * AN.P 0, 0), w)]
    rw [Int.natCast_zero, Int.zero_mul, Int.add_zero]
  | succ k =>
    rw [AN.hv_succ (k := k) rfl]
    show [((n, k), w), ((n + AN.P k, k), w)] = [((n + ((0 : Nat) : Int) * AN.P k, k), w), ((n + ((1 : Nat) : Int) * AN.P k, k), w)]
    rw [Int.natCast_zero, Int.zero_mul, Int.add_zero, Int.natCast_one, Int.one_mul]
/-- the halves of the network at a, one by one -/
def itH (K : PySem.W.Frag) (v : Bool) (a : Addr) (n : Int) (k : Nat) : It :=
  ⟨fun _ H => NetAt K v H a n k, fun i H x H' => ∃ p, x = .ref p ∧ H p = none ∧ Same H H' ∧ NetAt K v H' p (sbN n k i) (k - nsub k), fun _ _ => True⟩
def sp_subnets (K : PySem.W.Frag) (v : Bool) : SpJ := fun vs H R => ∃ (a : Addr) (n : Int) (k : Nat), vs = [.ref a, .int (nsub k : Int)] ∧ NetAt K v H a n k ∧ NOk v n k ∧ R (itH K v a n k) (nsub k + 1) H
abbrev N_Network4_subnets : List Str := ["self", "down", "step", "place"]
theorem sc_Network4_subnets : GScope N_Network4_subnets ["self", "down"] (defScope s_Network4_subnets) := ⟨rfl, rfl, rfl, by decide +kernel, rfl, by decide +kernel, by decide +kernel⟩
theorem pig_subnets4 {X : Cx} (T : Cxt X.K X.mg) {o e : Expr} {to te : TE} {apos pos kpos : Pos} {pl : Sem Bool} (he : PE X o to) (hr : Room 19 X.A) (hkw : PE X e te)
    (hall : (backToKw pos (keywordEach [⟨some "down", e, kpos⟩] X.env)).all (·.1.isSome) = true := by rfl) (hks : (backToKw pos (keywordEach [⟨some "down", e, kpos⟩] X.env)).filterMap (·.1) = [("down" : Str)] := by rfl)
    (hpl : ((backTo pos (starEach [] X.env)).any (·.1) || (backToKw pos (keywordEach [⟨some "down", e, kpos⟩] X.env)).any (·.1.isNone)) = false := by rfl)
    (ht : eval (.Call (.Attribute o "subnets" apos) [] [⟨some "down", e, kpos⟩] pos) X.env = (do
      let ov ← eval o X.env
      standAt apos.atName
      let (f, first) ← holding [ov] (getMethod ov "subnets" pl)
      callWith pos f first (backTo pos (starEach [] X.env)) (backToKw pos (keywordEach [⟨some "down", e, kpos⟩] X.env))) := by rfl) :
    PIG X (.Call (.Attribute o "subnets" apos) [] [⟨some "down", e, kpos⟩] pos) (tMethJ (nC X.K (false)) "subnets" (sp_subnets X.K (false)) to te) := by
  obtain ⟨fd, F⟩ := T.F_Network4_subnets
  refine pig_meth (k := 17) he T.c_Network4 T.m_Network4_subnets F sc_Network4_subnets hr hkw rfl (fun vs H R h => by obtain ⟨a, n, k, rfl, _⟩ := h; rfl) (by intro z; cases z) (fun D doc pm an cdv ct u v => rfl) hall hks hpl (by decide +kernel) ?_ ht
  rintro pins cdv L vs H R G hr' ⟨a, n, k, rfl, net, ok, hR⟩
  refine ⟨_, _, hR, fun gn oL gl gc hsl => ?_⟩
  have nd := sc_Network4_subnets.nd
  have le := ok.le
  have sl := nsub_le k
  have s1 := nsub_le1 k
  refine gen_first (n := nsub k) G rfl gl gc
    (fun H s => ps_expr (pe_f (c_look_change (P := X.prog) (w := X.w) (base := X.base) T) hr' (by decide) rfl (pa_cons (pv 1) (pa_cons (pe_callB (call_min2 rfl) (by rfl) T.z_min (by decide +kernel) (pa_cons (pe_gv rfl (gint T.i_MOST_DOWN)) (pa_cons (pe_op op_sub (pe_gv rfl (gint T.i_WIDTH4)) (pe_fldK (K := X.K) (pv 0) rfl)) pa_nil))) pa_nil))))
    (fun H s => ps_set (i := 2) nd rfl (Or.inl rfl) (pe_op op_shlW pe_int (pe_op op_sub (pe_op op_sub (pe_gv rfl (gint T.i_WIDTH4)) (pe_fldK (K := X.K) (pv 0) rfl)) (pv 1))))
    (fun H s => pi_range1 (by rfl) T.z_range (pa_cons (pe_op op_shlW pe_int (pv 1)) pa_nil))
    (fun H s => pg_name (i := 3) nd rfl (Or.inl rfl))
    (fun H s => pe_k (k_Network4 (P := X.prog) (w := X.w) (base := X.base) T) hr' (by decide) rfl (pa_cons (pe_op op_add (pe_fldK (K := X.K) (pe_fldK (K := X.K) (pv 0) rfl) rfl) (pe_op op_mul (pv 3) (pv 2))) (pa_cons (pe_op op_add (pe_fldK (K := X.K) (pv 0) rfl) (pv 1)) pa_nil)))
    (fun _ => rfl) hsl (fun H0 net0 => ?_)
  have net0 : NetAt X.K (false) H0 a n k := net0
  obtain ⟨dx, pf, pla, pm, ph, pr, df, hn, hf⟩ := net_first net0
  have W32 : (Wd (false) : Int) = (32:Int) := rfl
  have eW : (32:Int) - ((Wd (false) : Int) - (k : Int)) = (k : Int) := by rw [W32]; omega
  have W128 := Wd_le (false)
  refine ⟨_, rfl, _, rfl, a, _, dx, _, _, rfl, hn, c_nC T (false), no_prefix T (false), netF_prefix _ _ _ _ _ _ _, _, _, rfl, rfl, _, _, rfl, ?_⟩
  refine ⟨rfl, (nsub k : Int), _, rfl, by omega, by rw [eW]; split <;> omega, ?_⟩
  have b1 : CShl (1 : Int) ((32:Int) - ((Wd (false) : Int) - (k : Int)) - (nsub k : Int)) := by
    rw [eW, ← Int.ofNat_sub sl]
    exact shl_ok (n := 1) (by decide) (by omega)
  refine ⟨_, rfl, a, _, dx, _, _, rfl, hn, c_nC T (false), no_prefix T (false), netF_prefix _ _ _ _ _ _ _, _, _, rfl, rfl, _, rfl, _, _, rfl, rfl, _, _, rfl, rfl, b1, ?_⟩
  have es : (1 : Int) * 2 ^ ((32:Int) - ((Wd (false) : Int) - (k : Int)) - (nsub k : Int)).toNat = AN.P (k - nsub k) := by
    rw [eW, ← Int.ofNat_sub sl, pow_cast, Int.one_mul]
  dsimp only
  rw [es]
  have b2 : CShl (1 : Int) (nsub k : Int) := shl_ok (n := 1) (by decide) (by omega)
  have e2 : (1 : Int) * 2 ^ ((nsub k : Int)).toNat = ((nsub k + 1 : Nat) : Int) := by
    rw [Int.toNat_natCast, Int.one_mul]
    rcases (show nsub k = 0 ∨ nsub k = 1 by omega) with e | e <;> rw [e] <;> rfl
  refine ⟨_, rfl, _, _, rfl, rfl, b2, _, rfl, ?_⟩
  rw [e2]
  refine ⟨by omega, by omega, ?_⟩
  rw [Int.toNat_natCast]
  have turn : ∀ (i : Nat) (H : Hp), i < nsub k + 1 → NetAt X.K (false) H a n k → ∀ (pl : Option V) (y : V) (H1 : Hp), (Itr 0 (nsub k + 1)).yld i H y H1 →
      gName 3 y [some (.ref a), some (.int (nsub k : Int)), some (.int (AN.P (k - nsub k))), pl] H1 fun σ2 H2 => tMake (ga X.K "Network4") (Spn 4 (sp_net X.K (false))) [V.bl true] E0
        (tCons (tOp (rI0 fun i j => V.int (i + j)) (tFld X.K (tFld X.K (tVar 0) "first") "number") (tOp (rI CMul fun i j => V.int (i * j)) (tVar 3) (tVar 2))) (tCons (tOp (rI0 fun i j => V.int (i + j)) (tFld X.K (tVar 0) "prefix") (tVar 1)) tNil)) σ2 H2 fun x H3 =>
        (∃ pl : Option V, σ2 = [some (.ref a), some (.int (nsub k : Int)), some (.int (AN.P (k - nsub k))), pl]) ∧ (itH X.K (false) a n k).yld i H x H3 := by
    rintro i H1 hi net1 pl y H2 ⟨rfl, rfl⟩
    obtain ⟨dx, pf, pla, pm, ph, pr, df, hn, hf⟩ := net_first net1
    have e1 : n + ((0 : Int) + (i : Int)) * AN.P (k - nsub k) = sbN n k i := by unfold sbN; rw [Int.zero_add]
    have e2 : (Wd (false) : Int) - (k : Int) + (nsub k : Int) = (Wd (false) : Int) - ((k - nsub k : Nat) : Int) := by omega
    refine ⟨_, rfl, a, _, dx, _, _, rfl, hn, c_nC T (false), no_first T (false), netF_first _ _ _ _ _ _ _, pf, _, df, _, _, rfl, hf, c_aC T (false), no_number T (false), adrF_number _, _, rfl, _, rfl, _, _, rfl, rfl, .inl ⟨by omega, by omega⟩, _, _, rfl, rfl, ?_⟩
    refine ⟨_, rfl, a, _, dx, _, _, rfl, hn, c_nC T (false), no_prefix T (false), netF_prefix _ _ _ _ _ _ _, _, rfl, _, _, rfl, rfl, ?_⟩
    refine fun p dp np ndp nep => ⟨rfl, p, dp, sbN n k i, k - nsub k, by rw [← e1, ← e2] <;> rfl, upd_same, sb_ok ok hi, fun H' b' net' => ⟨rfl, ⟨_, rfl⟩, p, rfl, np, But.made np ndp b', net'⟩⟩
  refine ⟨fun _ σ => ∃ pl : Option V, σ = [some (.ref a), some (.int (nsub k : Int)), some (.int (AN.P (k - nsub k))), pl], ⟨by show 0 < nsub k + 1; omega, turn 0 _ (by omega) net0 none⟩, ?_, fun _ _ _ _ => Nat.le_refl _⟩
  rintro i σ H1 hi ⟨pl, rfl⟩ net1
  exact ⟨hi, turn i H1 hi net1 pl⟩
abbrev N_Network6_subnets : List Str := ["self", "down", "step", "place"]
theorem sc_Network6_subnets : GScope N_Network6_subnets ["self", "down"] (defScope s_Network6_subnets) := ⟨rfl, rfl, rfl, by decide +kernel, rfl, by decide +kernel, by decide +kernel⟩
theorem pig_subnets6 {X : Cx} (T : Cxt X.K X.mg) {o e : Expr} {to te : TE} {apos pos kpos : Pos} {pl : Sem Bool} (he : PE X o to) (hr : Room 19 X.A) (hkw : PE X e te)
    (hall : (backToKw pos (keywordEach [⟨some "down", e, kpos⟩] X.env)).all (·.1.isSome) = true := by rfl) (hks : (backToKw pos (keywordEach [⟨some "down", e, kpos⟩] X.env)).filterMap (·.1) = [("down" : Str)] := by rfl)
    (hpl : ((backTo pos (starEach [] X.env)).any (·.1) || (backToKw pos (keywordEach [⟨some "down", e, kpos⟩] X.env)).any (·.1.isNone)) = false := by rfl)
    (ht : eval (.Call (.Attribute o "subnets" apos) [] [⟨some "down", e, kpos⟩] pos) X.env = (do
      let ov ← eval o X.env
      standAt apos.atName
      let (f, first) ← holding [ov] (getMethod ov "subnets" pl)
      callWith pos f first (backTo pos (starEach [] X.env)) (backToKw pos (keywordEach [⟨some "down", e, kpos⟩] X.env))) := by rfl) :
    PIG X (.Call (.Attribute o "subnets" apos) [] [⟨some "down", e, kpos⟩] pos) (tMethJ (nC X.K (true)) "subnets" (sp_subnets X.K (true)) to te) := by
  obtain ⟨fd, F⟩ := T.F_Network6_subnets
  refine pig_meth (k := 17) he T.c_Network6 T.m_Network6_subnets F sc_Network6_subnets hr hkw rfl (fun vs H R h => by obtain ⟨a, n, k, rfl, _⟩ := h; rfl) (by intro z; cases z) (fun D doc pm an cdv ct u v => rfl) hall hks hpl (by decide +kernel) ?_ ht
  rintro pins cdv L vs H R G hr' ⟨a, n, k, rfl, net, ok, hR⟩
  refine ⟨_, _, hR, fun gn oL gl gc hsl => ?_⟩
  have nd := sc_Network6_subnets.nd
  have le := ok.le
  have sl := nsub_le k
  have s1 := nsub_le1 k
  refine gen_first (n := nsub k) G rfl gl gc
    (fun H s => ps_expr (pe_f (c_look_change (P := X.prog) (w := X.w) (base := X.base) T) hr' (by decide) rfl (pa_cons (pv 1) (pa_cons (pe_callB (call_min2 rfl) (by rfl) T.z_min (by decide +kernel) (pa_cons (pe_gv rfl (gint T.i_MOST_DOWN)) (pa_cons (pe_op op_sub (pe_gv rfl (gint T.i_WIDTH6)) (pe_fldK (K := X.K) (pv 0) rfl)) pa_nil))) pa_nil))))
    (fun H s => ps_set (i := 2) nd rfl (Or.inl rfl) (pe_op op_shlW pe_int (pe_op op_sub (pe_op op_sub (pe_gv rfl (gint T.i_WIDTH6)) (pe_fldK (K := X.K) (pv 0) rfl)) (pv 1))))
    (fun H s => pi_range1 (by rfl) T.z_range (pa_cons (pe_op op_shlW pe_int (pv 1)) pa_nil))
    (fun H s => pg_name (i := 3) nd rfl (Or.inl rfl))
    (fun H s => pe_k (k_Network6 (P := X.prog) (w := X.w) (base := X.base) T) hr' (by decide) rfl (pa_cons (pe_op op_add (pe_fldK (K := X.K) (pe_fldK (K := X.K) (pv 0) rfl) rfl) (pe_op op_mul (pv 3) (pv 2))) (pa_cons (pe_op op_add (pe_fldK (K := X.K) (pv 0) rfl) (pv 1)) pa_nil)))
    (fun _ => rfl) hsl (fun H0 net0 => ?_)
  have net0 : NetAt X.K (true) H0 a n k := net0
  obtain ⟨dx, pf, pla, pm, ph, pr, df, hn, hf⟩ := net_first net0
  have W32 : (Wd (true) : Int) = (128:Int) := rfl
  have eW : (128:Int) - ((Wd (true) : Int) - (k : Int)) = (k : Int) := by rw [W32]; omega
  have W128 := Wd_le (true)
  refine ⟨_, rfl, _, rfl, a, _, dx, _, _, rfl, hn, c_nC T (true), no_prefix T (true), netF_prefix _ _ _ _ _ _ _, _, _, rfl, rfl, _, _, rfl, ?_⟩
  refine ⟨rfl, (nsub k : Int), _, rfl, by omega, by rw [eW]; split <;> omega, ?_⟩
  have b1 : CShl (1 : Int) ((128:Int) - ((Wd (true) : Int) - (k : Int)) - (nsub k : Int)) := by
    rw [eW, ← Int.ofNat_sub sl]
    exact shl_ok (n := 1) (by decide) (by omega)
  refine ⟨_, rfl, a, _, dx, _, _, rfl, hn, c_nC T (true), no_prefix T (true), netF_prefix _ _ _ _ _ _ _, _, _, rfl, rfl, _, rfl, _, _, rfl, rfl, _, _, rfl, rfl, b1, ?_⟩
  have es : (1 : Int) * 2 ^ ((128:Int) - ((Wd (true) : Int) - (k : Int)) - (nsub k : Int)).toNat = AN.P (k - nsub k) := by
    rw [eW, ← Int.ofNat_sub sl, pow_cast, Int.one_mul]
  dsimp only
  rw [es]
  have b2 : CShl (1 : Int) (nsub k : Int) := shl_ok (n := 1) (by decide) (by omega)
  have e2 : (1 : Int) * 2 ^ ((nsub k : Int)).toNat = ((nsub k + 1 : Nat) : Int) := by
    rw [Int.toNat_natCast, Int.one_mul]
    rcases (show nsub k = 0 ∨ nsub k = 1 by omega) with e | e <;> rw [e] <;> rfl
  refine ⟨_, rfl, _, _, rfl, rfl, b2, _, rfl, ?_⟩
  rw [e2]
  refine ⟨by omega, by omega, ?_⟩
  rw [Int.toNat_natCast]
  have turn : ∀ (i : Nat) (H : Hp), i < nsub k + 1 → NetAt X.K (true) H a n k → ∀ (pl : Option V) (y : V) (H1 : Hp), (Itr 0 (nsub k + 1)).yld i H y H1 →
      gName 3 y [some (.ref a), some (.int (nsub k : Int)), some (.int (AN.P (k - nsub k))), pl] H1 fun σ2 H2 => tMake (ga X.K "Network6") (Spn 4 (sp_net X.K (true))) [V.bl true] E0
        (tCons (tOp (rI0 fun i j => V.int (i + j)) (tFld X.K (tFld X.K (tVar 0) "first") "number") (tOp (rI CMul fun i j => V.int (i * j)) (tVar 3) (tVar 2))) (tCons (tOp (rI0 fun i j => V.int (i + j)) (tFld X.K (tVar 0) "prefix") (tVar 1)) tNil)) σ2 H2 fun x H3 =>
        (∃ pl : Option V, σ2 = [some (.ref a), some (.int (nsub k : Int)), some (.int (AN.P (k - nsub k))), pl]) ∧ (itH X.K (true) a n k).yld i H x H3 := by
    rintro i H1 hi net1 pl y H2 ⟨rfl, rfl⟩
    obtain ⟨dx, pf, pla, pm, ph, pr, df, hn, hf⟩ := net_first net1
    have e1 : n + ((0 : Int) + (i : Int)) * AN.P (k - nsub k) = sbN n k i := by unfold sbN; rw [Int.zero_add]
    have e2 : (Wd (true) : Int) - (k : Int) + (nsub k : Int) = (Wd (true) : Int) - ((k - nsub k : Nat) : Int) := by omega
    refine ⟨_, rfl, a, _, dx, _, _, rfl, hn, c_nC T (true), no_first T (true), netF_first _ _ _ _ _ _ _, pf, _, df, _, _, rfl, hf, c_aC T (true), no_number T (true), adrF_number _, _, rfl, _, rfl, _, _, rfl, rfl, .inl ⟨by omega, by omega⟩, _, _, rfl, rfl, ?_⟩
    refine ⟨_, rfl, a, _, dx, _, _, rfl, hn, c_nC T (true), no_prefix T (true), netF_prefix _ _ _ _ _ _ _, _, rfl, _, _, rfl, rfl, ?_⟩
    refine fun p dp np ndp nep => ⟨rfl, p, dp, sbN n k i, k - nsub k, by rw [← e1, ← e2] <;> rfl, upd_same, sb_ok ok hi, fun H' b' net' => ⟨rfl, ⟨_, rfl⟩, p, rfl, np, But.made np ndp b', net'⟩⟩
  refine ⟨fun _ σ => ∃ pl : Option V, σ = [some (.ref a), some (.int (nsub k : Int)), some (.int (AN.P (k - nsub k))), pl], ⟨by show 0 < nsub k + 1; omega, turn 0 _ (by omega) net0 none⟩, ?_, fun _ _ _ _ => Nat.le_refl _⟩
  rintro i σ H1 hi ⟨pl, rfl⟩ net1
  exact ⟨hi, turn i H1 hi net1 pl⟩
end AH
/-! W39 -/
set_option Elab.async false
set_option linter.all false
set_option maxRecDepth 100000
set_option maxHeartbeats 4000000
namespace AH
open PySem PySem.Spec PyProof.Rows L2 He AG
theorem pig_subnets {X : Cx} (T : Cxt X.K X.mg) {o e : Expr} {to te : TE} {apos pos kpos : Pos} {pl : Sem Bool} (he : PE X o to) (hr : Room 19 X.A) (hkw : PE X e te)
    (hall : (backToKw pos (keywordEach [⟨some "down", e, kpos⟩] X.env)).all (·.1.isSome) = true := by rfl) (hks : (backToKw pos (keywordEach [⟨some "down", e, kpos⟩] X.env)).filterMap (·.1) = [("down" : Str)] := by rfl)
    (hpl : ((backTo pos (starEach [] X.env)).any (·.1) || (backToKw pos (keywordEach [⟨some "down", e, kpos⟩] X.env)).any (·.1.isNone)) = false := by rfl)
    (ht : eval (.Call (.Attribute o "subnets" apos) [] [⟨some "down", e, kpos⟩] pos) X.env = (do
      let ov ← eval o X.env
      standAt apos.atName
      let (f, first) ← holding [ov] (getMethod ov "subnets" pl)
      callWith pos f first (backTo pos (starEach [] X.env)) (backToKw pos (keywordEach [⟨some "down", e, kpos⟩] X.env))) := by rfl) :
    PIG X (.Call (.Attribute o "subnets" apos) [] [⟨some "down", e, kpos⟩] pos) (fun σ H R => ∃ v, tMethJ (nC X.K v) "subnets" (sp_subnets X.K v) to te σ H R) :=
  ⟨fun pins s σ H R I ⟨v, h⟩ => by
    cases v with
    | false => exact (pig_subnets4 (pl := pl) T he hr hkw hall hks hpl ht).run pins s σ H R I h
    | true => exact (pig_subnets6 (pl := pl) T he hr hkw hall hks hpl ht).run pins s σ H R I h⟩
theorem key_new {A B C : List (AN.Ent Str)} {j : Nat} {d : AN.Ent Str} (h : ((A ++ (B ++ C)).map (·.1)).Nodup) (hd : B[j]? = some d) : d.1 ∉ (A ++ B.take j).map (·.1) := by
  obtain ⟨hj, e⟩ := List.getElem?_eq_some_iff.mp hd
  have eB : B = B.take j ++ (d :: B.drop (j + 1)) := by
    rw [← e, ← List.drop_eq_getElem_cons hj, List.take_append_drop]
  rw [eB, List.append_assoc, ← List.append_assoc, List.map_append] at h
  intro hm
  have h3 := (List.nodup_append.mp h).2.2 d.1 hm d.1 (by simp)
  exact h3 rfl
theorem hv_at {e : AN.Ent Str} {j : Nat} (hj : j < nsub e.1.2 + 1) : (AN.hv e)[j]? = some ((sbN e.1.1 e.1.2 j, e.1.2 - nsub e.1.2), e.2) := by
  rw [hv_sb, List.getElem?_map, List.getElem?_range hj]
  rfl
theorem hv_length (e : AN.Ent Str) : (AN.hv e).length = nsub e.1.2 + 1 := by rw [hv_sb, List.length_map, List.length_range]
theorem down_nsub {W k : Nat} : (if decide ((W : Int) - (k : Int) < (W : Int)) = true then (1 : Int) else 0) = (nsub k : Int) := by
  cases k with
  | zero => simp [nsub]
  | succ k =>
    rw [decide_eq_true (by omega : (W : Int) - ((k + 1 : Nat) : Int) < (W : Int))]
    rfl
section
variable {P : Program} {w : World} {K : PySem.W.Frag} {mg : Str → Option Value} {base : Heap}
abbrev N__law_halved : List Str := ["_law_book_here", "_law_found", "_law_network", "_law_word", "_law_one"]
theorem sc__law_halved : FnScope N__law_halved ["_law_book_here"] (defScope s__law_halved) := ⟨rfl, rfl, rfl, by decide +kernel, rfl, by decide +kernel, by decide +kernel⟩
theorem c__law_halved (T : Cxt K mg) : Cal P w K mg base 20 "_law_halved" (Spn 1 (sp_halved K)) [] := by
  obtain ⟨fd, F⟩ := T.F__law_halved
  refine calN F T.g__law_halved sc__law_halved rfl (fun _ _ _ _ _ _ us hl => match us, hl with | [_], _ => rfl) (fun cdv A outer s H vs Q E hr h => ?_)
  have nd := sc__law_halved.nd
  have hu := hu_of hr
  obtain ⟨v, p, d, E, us, rfl, bk, tab, dj, hlen, hw, q⟩ := h
  refine ⟨_, (pss_cons (ps_set (i := 1) nd rfl (Or.inl rfl) (pe_k (k_Book T) hr (by decide) rfl (pa_cons (pe_fld (pv 0) rfl) pa_nil))) (pss_cons (ps_for PassesOwn.never rfl (pi_list (pe_m0 (m_Book_entries T) hr (by decide) (pv 0))) (pg_tup rfl (pgs_cons (pg_name (i := 2) nd rfl (Or.inl rfl)) (pgs_cons (pg_name (i := 3) nd rfl (Or.inl rfl)) pgs_nil))) (pss_one (ps_forG PassesOwn.never (fun _ _ z => z) rfl hr (pig_subnets T (pv 2) hr (pe_callTy call_int1 (by rfl) T.z_int (by decide +kernel) (pa_cons (pe_cmpR op_lt (pe_fld (pv 2) rfl) (pe_con (pv 2) rfl) (nomark _)) pa_nil))) (pg_name (i := 4) nd rfl (Or.inl rfl)) (pss_one (ps_asg (pv 3) (pg_sub (pv 1) (pv 4) (set_own (m_Book_setitem T) hr (by decide) T.seq_Book))))))) (pss_one (ps_ret (pv 1))))), ?_⟩
  obtain ⟨db, ob⟩ := bk.ob
  refine ⟨_, rfl, p, _, db, _, _, rfl, ob, T.c_Book, T.n_Book_version, bookF_version v d, fun x dx nx ndx nex => ⟨rfl, v, x, dx, rfl, upd_same, fun H1 d1 b1 nd1 bk1 => ⟨rfl, ?_⟩⟩⟩
  have s1 : Same H H1 := But.made nx ndx b1
  have nd0 : H d1 = none := made_free nx ndx nex nd1
  have bkm := bk.mono s1
  obtain ⟨dbm, obm⟩ := bkm.ob
  refine ⟨_, rfl, p, dbm, _, rfl, obm, (by kernel_rfl), rfl, v, p, d, E, rfl, bkm, tab_nok tab, tab.nd, by omega, fun l H2 E' nl s2 pm so la => ?_⟩
  obtain ⟨vs, hvs, hvp⟩ := la
  have bk2 := bk1.mono s2
  have s12 := s1.trans s2
  have tab' := tab.perm pm.symm
  have dj' := AN.dj_perm pm.symm dj
  have ndk := (AN.hvs_tab tab' dj').nd
  have vlen := AN.hv_len E'
  have El := pm.length_eq
  have hw' : ∀ e ∈ E', WordOk e.2 := fun e he => (hw.ok e (pm.mem_iff.mp he)).1
  have ld : l ≠ d1 := fun z => by
    have h1 := bk2.rows
    rw [← z, hvs] at h1
    cases h1
  refine ⟨l, rfl, ⟨_, SqL.of hvs⟩, ?_⟩
  refine for_list (fun i σ' H' => ∃ x2 x3 x4 : Option V, σ' = [some (.ref p), some (.ref x), x2, x3, x4] ∧ But d1 H2 H' ∧ BookAt K v H' x d1 ((E'.take i).flatMap AN.hv)) ⟨none, none, none, rfl, But.refl, bk2⟩
    (fun i σ' H' _ ⟨_, _, _, _, b3, _⟩ => SqL.of (b3 _ _ hvs ld)) ?_ ?_
  · rintro i y σ' H3 hy ⟨x2, x3, x4, rfl, b3, bk3⟩
    obtain ⟨e, he, t, pn, rfl, ht, net⟩ := Paired.at hvp hy
    have fx3 : Fx H2 H3 := Fx.butD bk2.rows b3
    have em : e ∈ E' := List.mem_of_getElem? he
    obtain ⟨al1, al2, al3, al4⟩ := tab'.al e em
    have ok : NOk v e.1.1 e.1.2 := ⟨al1, al2, al3, al4⟩
    have eN : E'.flatMap AN.hv = (E'.take i).flatMap AN.hv ++ (AN.hv e ++ (E'.drop (i + 1)).flatMap AN.hv) := by
      obtain ⟨hi, e0⟩ := List.getElem?_eq_some_iff.mp he
      have h1 : E' = E'.take i ++ (e :: E'.drop (i + 1)) := by rw [← e0, ← List.drop_eq_getElem_cons hi, List.take_append_drop]
      have h2 := congrArg (List.flatMap AN.hv) h1
      rw [List.flatMap_append, List.flatMap_cons] at h2
      exact h2
    refine ⟨t, _, rfl, SqT.of (fx3 _ _ ht trivial), rfl, _, _, rfl, _, _, rfl, rfl, ?_⟩
    have net3 := net.fx fx3
    obtain ⟨dn, pf, pla, pmm, ph, pr, df, hn, hf⟩ := net_first net3
    obtain ⟨tW, cW⟩ := w_nC T v
    refine ⟨v, _, rfl, pn, dn, _, rfl, hn, (netF_no _ _ _ _ _ _ _).2.2, _, rfl, pn, _, dn, _, _, rfl, hn, c_nC T v, no_prefix T v, netF_prefix _ _ _ _ _ _ _, _, rfl, pn, _, dn, _, _, _, rfl, hn, c_nC T v, cW, (netF_no _ _ _ _ _ _ _).2.1, _, _, rfl, rfl, .inr ⟨_, rfl, ?_⟩⟩
    rw [down_nsub]
    refine ⟨pn, e.1.1, e.1.2, rfl, net3, ok, ?_⟩
    refine ⟨fun j σ' H' => ∃ x4 : Option V, σ' = [some (.ref p), some (.ref x), some (.ref pn), some (.str e.2), x4] ∧ But d1 H2 H' ∧ BookAt K v H' x d1 ((E'.take i).flatMap AN.hv ++ (AN.hv e).take j), ⟨_, rfl, b3, by rw [List.take_zero, List.append_nil]; exact bk3⟩, ?_, ?_⟩
    · rintro j σ' H4 hj ⟨x4, rfl, b4, bk4⟩
      have fx4 : Fx H2 H4 := Fx.butD bk2.rows b4
      refine ⟨net.fx fx4, ?_⟩
      rintro y H5 ⟨p2, rfl, np2, s5, net5⟩
      have bk5 := bk4.mono s5
      obtain ⟨dx5, ox5⟩ := bk5.ob
      have hd := hv_at (e := e) hj
      have hnew := key_new (by rw [← eN]; exact ndk) hd
      have blen : ((E'.take i).flatMap AN.hv ++ (AN.hv e).take j).length ≤ 4096 := by
        have h2 := congrArg List.length eN
        rw [List.length_append, List.length_append] at h2
        rw [List.length_append, List.length_take]
        omega
      refine ⟨_, rfl, _, rfl, _, rfl, x, dx5, _, rfl, ox5, rfl, v, x, d1, p2, _, sbN e.1.1 e.1.2 j, e.1.2 - nsub e.1.2, e.2, rfl, bk5, net5, hw' e em, blen, fun H6 b6 bk6 => ?_⟩
      refine ⟨_, rfl, (b4.trans (But.of s5)).trans b6, ?_⟩
      have e1 := putE_new hnew
      rw [List.take_add_one, hd]
      rw [← List.append_assoc]
      have e2 : putE ((E'.take i).flatMap AN.hv ++ (AN.hv e).take j) (sbN e.1.1 e.1.2 j, e.1.2 - nsub e.1.2) e.2 = _ := e1
      rw [e2] at bk6
      exact bk6
    · rintro σ' H4 ⟨x4, rfl, b4, bk4⟩
      refine ⟨trivial, _, _, _, rfl, b4, ?_⟩
      have et : (AN.hv e).take (nsub e.1.2 + 1) = AN.hv e := List.take_of_length_le (by rw [hv_length]; exact Nat.le_refl _)
      rw [et] at bk4
      rw [List.take_add_one, he, List.flatMap_append]
      show BookAt K v H4 x d1 (_ ++ List.flatMap AN.hv [e])
      rw [List.flatMap_cons, List.flatMap_nil, List.append_nil]
      exact bk4
  · rintro σ' H3 ⟨x2, x3, x4, rfl, b3, bk3⟩
    rw [Paired.len hvp, List.take_length] at bk3
    refine ⟨_, rfl, q x d1 H3 E' (fun b o hb => b3 _ _ (s12 _ _ hb) (ne_of_none hb nd0)) pm bk3⟩
end
end AH
/-! Fin -/
set_option Elab.async false
set_option linter.all false
set_option maxRecDepth 100000
set_option maxHeartbeats 0
namespace AH
open PySem PySem.Spec PyProof.Rows L2 He
theorem facts {P : Program} {w : World} {K : PySem.W.Frag} {h : Heap} {mg : Str → Option Value} {f : Addr} (X : K.In h) (G : h.Ns mainGlobals mg) (hfa : mg ("law" : Str) = some (.ref f)) (c : SaysD fa fn K) (e : exB K = true) (en : netsW K = netsV) :
    ∃ fd : FuncData, (∀ (s : Shared) (v : Value), BindsTo s fd ⟨[v], []⟩ [("_law_script", v)]) ∧ ∀ base : Heap, K.In base → base.Ns mainGlobals mg → FnOk P w K mg base CX0 142 f fd ["_law_script"] (Spn 1 (sp_law K)) := by
  have T : Cxt K mg := cxt_of X G c e en
  obtain ⟨fd, F⟩ := T.F_law
  have e1 := hfa.symm.trans T.g_law
  cases e1
  have b := FunD.bindsA (ps := ["_law_script"]) F fun _ _ _ _ _ _ us hl => match us, hl with | [_], _ => rfl
  exact ⟨fd, fun s v => b s [v] rfl, fun base _ _ => ok_law T (c__law_halved T) F⟩
end AH
open PySem PySem.W PySem.Calls PyProof.Rows
theorem PySem.Challenge.cw_addressnets_k76_whole_ranges_with_words_holds : PySem.Challenge.rw_addressnets_k76_whole_ranges_with_words.Holds := by
  w_on; o_law
  refine HandSHeadRun.head_any (r := OpenLaw.row PySem.Challenge.rw_addressnets_k76_whole_ranges_with_words) (q := view (OpenLaw.row PySem.Challenge.rw_addressnets_k76_whole_ranges_with_words).prog [118]) (H := AH.hk) (ob := AH.ob) (M := 20000) (loose := AH.names) (d := HandSHeadRun.topDef (OpenLaw.row PySem.Challenge.rw_addressnets_k76_whole_ranges_with_words).prog 118) (kwd := []) AH.ob_eq
    (by kernel_rfl) (fun s => by kernel_rfl) AH.run (by kernel_rfl) (by kernel_rfl) (by kernel_rfl) (by rfl) (by first | assumption | decide +kernel) (by decide +kernel) ⟨rfl, rfl, rfl, rfl, rfl, by decide +kernel⟩ ?hw ?hc
  case hw => w_witness2
  case hc =>
    refine L2.walk_ofE (l := PySem.Challenge.rw_addressnets_k76_whole_ranges_with_words) (n := 63) (k := 142) (x := "_law_script") (CX := L2.CX0) rfl (by decide) (by kernel_rfl) ⟨rfl, by decide, by decide⟩ ?F (fun _ _ _ _ z => z)
    intro w mg f h Y G hmg0
    obtain ⟨K, KX, c, e, en⟩ := Y
    have hmg : mg ("law" : PySem.Str) = some (.ref f) := by
      have e : (HandSHeadRun.topDef (OpenLaw.row PySem.Challenge.rw_addressnets_k76_whole_ranges_with_words).prog 118).name = ("law" : PySem.Str) := by kernel_rfl
      rw [← e]
      exact hmg0
    obtain ⟨fd, hb, hF⟩ := AH.facts (P := (PySem.Challenge.rw_addressnets_k76_whole_ranges_with_words).prog) (w := w) KX G hmg c e en
    exact ⟨K, fd, AH.Spn 1 (AH.sp_law K), KX, hb, fun H a ns hl _ hS => ⟨rfl, a, ns, rfl, hS, Nat.lt_of_le_of_lt hl (by decide), fun _ => rfl⟩, hF⟩
