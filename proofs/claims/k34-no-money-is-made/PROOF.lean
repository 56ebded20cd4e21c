import PyProof.Rows.All
import Wide.All
import OpenK.AllK
import Wide.FinOn
import HandS.ForMost
import HandS.Walk
import HandS.Deep
import HandS.Defaults
import HandS.MakeKwOnly
import HandS.Property
import HandS.Zip
import HandS.Evl
import HandS.Steps
import HandS.HeadHook4
import HandS.HeadWalk
import HandS.Head0
import HandS.Head1
import HandS.Head2
import HandS.AnyAll
import HandS.EndTab
import KE.DataMinMax
import PyProof.ConsumeS
import PySem.Challenge.RW_turnpike_k34_whole_no_money_is_made
set_option Elab.async false
set_option linter.all false
set_option maxRecDepth 100000
set_option maxHeartbeats 4000000
/-! The text by places. -/
namespace Tk
open PySem L2
def top (i : Nat) : Stmt := PySem.Challenge.pw_turnpike_k34_whole_no_money_is_made.main.body.getD i (.Pass ⟨0, 0, 0, 0⟩)
abbrev s_was_opened : Stmt := top 7
abbrev N_was_opened : List Str := ["lock", "receipts", "height"]
theorem sc_was_opened : FnScope N_was_opened ["lock", "receipts"] (defScope s_was_opened) := ⟨rfl, rfl, rfl, by decide +kernel, rfl, by decide +kernel, by decide +kernel⟩
abbrev s_lock_shares : Stmt := top 8
abbrev N_lock_shares : List Str := ["locks", "receipts", "first", "second", "lock"]
theorem sc_lock_shares : FnScope N_lock_shares ["locks", "receipts"] (defScope s_lock_shares) := ⟨rfl, rfl, rfl, by decide +kernel, rfl, by decide +kernel, by decide +kernel⟩
abbrev s_opening_state : Stmt := top 10
abbrev N_opening_state : List Str := ["opening"]
theorem sc_opening_state : FnScope N_opening_state ["opening"] (defScope s_opening_state) := ⟨rfl, rfl, rfl, by decide +kernel, rfl, by decide +kernel, by decide +kernel⟩
abbrev s_total : Stmt := top 11
abbrev N_total : List Str := ["state"]
theorem sc_total : FnScope N_total ["state"] (defScope s_total) := ⟨rfl, rfl, rfl, by decide +kernel, rfl, by decide +kernel, by decide +kernel⟩
abbrev s_worth : Stmt := top 12
abbrev N_worth : List Str := ["state", "receipts", "shares"]
theorem sc_worth : FnScope N_worth ["state", "receipts"] (defScope s_worth) := ⟨rfl, rfl, rfl, by decide +kernel, rfl, by decide +kernel, by decide +kernel⟩
abbrev s_Vault_init : Stmt := inClass (top 14) 0
abbrev N_Vault_init : List Str := ["self", "opening", "sums", "splices", "least", "published", "since"]
theorem sc_Vault_init : FnScope N_Vault_init ["self", "opening", "sums", "splices", "least", "published", "since"] (defScope s_Vault_init) := ⟨rfl, rfl, rfl, by decide +kernel, rfl, by decide +kernel, by decide +kernel⟩
abbrev s_copy_vault : Stmt := top 15
abbrev N_copy_vault : List Str := ["vault"]
theorem sc_copy_vault : FnScope N_copy_vault ["vault"] (defScope s_copy_vault) := ⟨rfl, rfl, rfl, by decide +kernel, rfl, by decide +kernel, by decide +kernel⟩
abbrev s_ends_of : Stmt := top 16
abbrev N_ends_of : List Str := ["vault"]
theorem sc_ends_of : FnScope N_ends_of ["vault"] (defScope s_ends_of) := ⟨rfl, rfl, rfl, by decide +kernel, rfl, by decide +kernel, by decide +kernel⟩
abbrev s_free_of : Stmt := top 17
abbrev N_free_of : List Str := ["vault", "state", "first_in", "first_out", "second_in", "second_out"]
theorem sc_free_of : FnScope N_free_of ["vault", "state"] (defScope s_free_of) := ⟨rfl, rfl, rfl, by decide +kernel, rfl, by decide +kernel, by decide +kernel⟩
abbrev s_fits : Stmt := top 18
abbrev N_fits : List Str := ["vault", "state", "first", "second"]
theorem sc_fits : FnScope N_fits ["vault", "state"] (defScope s_fits) := ⟨rfl, rfl, rfl, by decide +kernel, rfl, by decide +kernel, by decide +kernel⟩
abbrev s_shares : Stmt := top 19
abbrev N_shares : List Str := ["vault", "receipts", "first_in", "first_out", "_", "first"]
theorem sc_shares : FnScope N_shares ["vault", "receipts"] (defScope s_shares) := ⟨rfl, rfl, rfl, by decide +kernel, rfl, by decide +kernel, by decide +kernel⟩
abbrev s_key_of : Stmt := top 24
abbrev N_key_of : List Str := ["secret"]
theorem sc_key_of : FnScope N_key_of ["secret"] (defScope s_key_of) := ⟨rfl, rfl, rfl, by decide +kernel, rfl, by decide +kernel, by decide +kernel⟩
abbrev s_takes : Stmt := top 27
abbrev N_takes : List Str := ["book", "thing", "act", "_", "payer", "fee", "parts", "first", "second", "taken", "party", "amount"]
theorem sc_takes : FnScope N_takes ["book", "thing"] (defScope s_takes) := ⟨rfl, rfl, rfl, by decide +kernel, rfl, by decide +kernel, by decide +kernel⟩
abbrev s_has_hands : Stmt := top 28
abbrev N_has_hands : List Str := ["hands", "ends"]
theorem sc_has_hands : FnScope N_has_hands ["hands", "ends"] (defScope s_has_hands) := ⟨rfl, rfl, rfl, by decide +kernel, rfl, by decide +kernel, by decide +kernel⟩
abbrev s_open_reasons : Stmt := top 29
abbrev N_open_reasons : List Str := ["book", "opening", "hands", "number", "first", "second", "words"]
theorem sc_open_reasons : FnScope N_open_reasons ["book", "opening", "hands"] (defScope s_open_reasons) := ⟨rfl, rfl, rfl, by decide +kernel, rfl, by decide +kernel, by decide +kernel⟩
abbrev s_sums_with : Stmt := top 30
abbrev N_sums_with : List Str := ["sums", "splice", "k"]
theorem sc_sums_with : FnScope N_sums_with ["sums", "splice"] (defScope s_sums_with) := ⟨rfl, rfl, rfl, by decide +kernel, rfl, by decide +kernel, by decide +kernel⟩
abbrev s_splice_reasons : Stmt := top 31
abbrev N_splice_reasons : List Str := ["book", "vault", "splice", "hands", "words"]
theorem sc_splice_reasons : FnScope N_splice_reasons ["book", "vault", "splice", "hands"] (defScope s_splice_reasons) := ⟨rfl, rfl, rfl, by decide +kernel, rfl, by decide +kernel, by decide +kernel⟩
abbrev s_publish_reasons : Stmt := top 32
abbrev N_publish_reasons : List Str := ["book", "vault", "state", "hands", "words"]
theorem sc_publish_reasons : FnScope N_publish_reasons ["book", "vault", "state", "hands"] (defScope s_publish_reasons) := ⟨rfl, rfl, rfl, by decide +kernel, rfl, by decide +kernel, by decide +kernel⟩
abbrev s_is_decided : Stmt := top 33
abbrev N_is_decided : List Str := ["lock", "book"]
theorem sc_is_decided : FnScope N_is_decided ["lock", "book"] (defScope s_is_decided) := ⟨rfl, rfl, rfl, by decide +kernel, rfl, by decide +kernel, by decide +kernel⟩
abbrev s_settle_reasons : Stmt := top 34
abbrev N_settle_reasons : List Str := ["book", "vault", "words", "lock"]
theorem sc_settle_reasons : FnScope N_settle_reasons ["book", "vault"] (defScope s_settle_reasons) := ⟨rfl, rfl, rfl, by decide +kernel, rfl, by decide +kernel, by decide +kernel⟩
abbrev s_channel_reasons : Stmt := top 35
abbrev N_channel_reasons : List Str := ["book", "act", "hands", "number", "vault"]
theorem sc_channel_reasons : FnScope N_channel_reasons ["book", "act", "hands"] (defScope s_channel_reasons) := ⟨rfl, rfl, rfl, by decide +kernel, rfl, by decide +kernel, by decide +kernel⟩
abbrev s_act_reasons : Stmt := top 36
abbrev N_act_reasons : List Str := ["book", "act", "hands"]
theorem sc_act_reasons : FnScope N_act_reasons ["book", "act", "hands"] (defScope s_act_reasons) := ⟨rfl, rfl, rfl, by decide +kernel, rfl, by decide +kernel, by decide +kernel⟩
abbrev s_reasons : Stmt := top 37
abbrev N_reasons : List Str := ["book", "thing", "act", "hands", "payer", "_", "tag", "words", "taken", "party"]
theorem sc_reasons : FnScope N_reasons ["book", "thing"] (defScope s_reasons) := ⟨rfl, rfl, rfl, by decide +kernel, rfl, by decide +kernel, by decide +kernel⟩
abbrev s_give_both : Stmt := top 39
abbrev N_give_both : List Str := ["book", "ends", "first", "second"]
theorem sc_give_both : FnScope N_give_both ["book", "ends", "first", "second"] (defScope s_give_both) := ⟨rfl, rfl, rfl, by decide +kernel, rfl, by decide +kernel, by decide +kernel⟩
abbrev s_pay_out : Stmt := top 40
abbrev N_pay_out : List Str := ["book", "number", "vault", "first", "second"]
theorem sc_pay_out : FnScope N_pay_out ["book", "number"] (defScope s_pay_out) := ⟨rfl, rfl, rfl, by decide +kernel, rfl, by decide +kernel, by decide +kernel⟩
abbrev s_publish : Stmt := top 41
abbrev N_publish : List Str := ["book", "state", "vault"]
theorem sc_publish : FnScope N_publish ["book", "state"] (defScope s_publish) := ⟨rfl, rfl, rfl, by decide +kernel, rfl, by decide +kernel, by decide +kernel⟩
abbrev s_take_splice : Stmt := top 42
abbrev N_take_splice : List Str := ["book", "splice", "vault"]
theorem sc_take_splice : FnScope N_take_splice ["book", "splice"] (defScope s_take_splice) := ⟨rfl, rfl, rfl, by decide +kernel, rfl, by decide +kernel, by decide +kernel⟩
abbrev s_charge : Stmt := top 43
abbrev N_charge : List Str := ["book", "thing", "taken", "party"]
theorem sc_charge : FnScope N_charge ["book", "thing"] (defScope s_charge) := ⟨rfl, rfl, rfl, by decide +kernel, rfl, by decide +kernel, by decide +kernel⟩
abbrev s_carry_out : Stmt := top 44
abbrev N_carry_out : List Str := ["book", "thing", "act", "_", "payer", "tag"]
theorem sc_carry_out : FnScope N_carry_out ["book", "thing"] (defScope s_carry_out) := ⟨rfl, rfl, rfl, by decide +kernel, rfl, by decide +kernel, by decide +kernel⟩
abbrev s_Book_init : Stmt := inClass (top 46) 0
abbrev N_Book_init : List Str := ["self", "purses", "party", "amount"]
theorem sc_Book_init : FnScope N_Book_init ["self", "purses"] (defScope s_Book_init) := ⟨rfl, rfl, rfl, by decide +kernel, rfl, by decide +kernel, by decide +kernel⟩
abbrev s_Book_purse : Stmt := inClass (top 46) 1
abbrev N_Book_purse : List Str := ["self", "party"]
theorem sc_Book_purse : FnScope N_Book_purse ["self", "party"] (defScope s_Book_purse) := ⟨rfl, rfl, rfl, by decide +kernel, rfl, by decide +kernel, by decide +kernel⟩
abbrev s_Book_give : Stmt := inClass (top 46) 2
abbrev N_Book_give : List Str := ["self", "party", "amount"]
theorem sc_Book_give : FnScope N_Book_give ["self", "party", "amount"] (defScope s_Book_give) := ⟨rfl, rfl, rfl, by decide +kernel, rfl, by decide +kernel, by decide +kernel⟩
abbrev s_Book_sum_of_money : Stmt := inClass (top 46) 3
abbrev N_Book_sum_of_money : List Str := ["self", "held", "party", "number"]
theorem sc_Book_sum_of_money : FnScope N_Book_sum_of_money ["self"] (defScope s_Book_sum_of_money) := ⟨rfl, rfl, rfl, by decide +kernel, rfl, by decide +kernel, by decide +kernel⟩
abbrev s_check_purses : Stmt := top 50
abbrev N_check_purses : List Str := ["purses", "parties", "amounts", "party", "_", "amount"]
theorem sc_check_purses : FnScope N_check_purses ["purses"] (defScope s_check_purses) := ⟨rfl, rfl, rfl, by decide +kernel, rfl, by decide +kernel, by decide +kernel⟩
abbrev s_Ledger_init : Stmt := inClass (top 51) 0
abbrev N_Ledger_init : List Str := ["self", "purses", "room"]
theorem sc_Ledger_init : FnScope N_Ledger_init ["self", "purses", "room"] (defScope s_Ledger_init) := ⟨rfl, rfl, rfl, by decide +kernel, rfl, by decide +kernel, by decide +kernel⟩
abbrev s_Ledger___contains__ : Stmt := inClass (top 51) 1
abbrev N_Ledger___contains__ : List Str := ["self", "number"]
theorem sc_Ledger___contains__ : FnScope N_Ledger___contains__ ["self", "number"] (defScope s_Ledger___contains__) := ⟨rfl, rfl, rfl, by decide +kernel, rfl, by decide +kernel, by decide +kernel⟩
abbrev s_Ledger_height_now : Stmt := inClass (top 51) 2
abbrev N_Ledger_height_now : List Str := ["self"]
theorem sc_Ledger_height_now : FnScope N_Ledger_height_now ["self"] (defScope s_Ledger_height_now) := ⟨rfl, rfl, rfl, by decide +kernel, rfl, by decide +kernel, by decide +kernel⟩
abbrev s_Ledger_burnt_so_far : Stmt := inClass (top 51) 3
abbrev N_Ledger_burnt_so_far : List Str := ["self"]
theorem sc_Ledger_burnt_so_far : FnScope N_Ledger_burnt_so_far ["self"] (defScope s_Ledger_burnt_so_far) := ⟨rfl, rfl, rfl, by decide +kernel, rfl, by decide +kernel, by decide +kernel⟩
abbrev s_Ledger_all_money : Stmt := inClass (top 51) 4
abbrev N_Ledger_all_money : List Str := ["self"]
theorem sc_Ledger_all_money : FnScope N_Ledger_all_money ["self"] (defScope s_Ledger_all_money) := ⟨rfl, rfl, rfl, by decide +kernel, rfl, by decide +kernel, by decide +kernel⟩
abbrev s_Ledger_purse : Stmt := inClass (top 51) 5
abbrev N_Ledger_purse : List Str := ["self", "party"]
theorem sc_Ledger_purse : FnScope N_Ledger_purse ["self", "party"] (defScope s_Ledger_purse) := ⟨rfl, rfl, rfl, by decide +kernel, rfl, by decide +kernel, by decide +kernel⟩
abbrev s_Ledger_channel : Stmt := inClass (top 51) 6
abbrev N_Ledger_channel : List Str := ["self", "number"]
theorem sc_Ledger_channel : FnScope N_Ledger_channel ["self", "number"] (defScope s_Ledger_channel) := ⟨rfl, rfl, rfl, by decide +kernel, rfl, by decide +kernel, by decide +kernel⟩
abbrev s_Ledger_reasons_against : Stmt := inClass (top 51) 7
abbrev N_Ledger_reasons_against : List Str := ["self", "thing"]
theorem sc_Ledger_reasons_against : FnScope N_Ledger_reasons_against ["self", "thing"] (defScope s_Ledger_reasons_against) := ⟨rfl, rfl, rfl, by decide +kernel, rfl, by decide +kernel, by decide +kernel⟩
abbrev s_Ledger_offer : Stmt := inClass (top 51) 8
abbrev N_Ledger_offer : List Str := ["self", "thing"]
theorem sc_Ledger_offer : FnScope N_Ledger_offer ["self", "thing"] (defScope s_Ledger_offer) := ⟨rfl, rfl, rfl, by decide +kernel, rfl, by decide +kernel, by decide +kernel⟩
abbrev s_Ledger_best : Stmt := inClass (top 51) 9
abbrev N_Ledger_best : List Str := ["self", "found", "at", "thing"]
theorem sc_Ledger_best : FnScope N_Ledger_best ["self"] (defScope s_Ledger_best) := ⟨rfl, rfl, rfl, by decide +kernel, rfl, by decide +kernel, by decide +kernel⟩
abbrev s_Ledger_block : Stmt := inClass (top 51) 10
abbrev N_Ledger_block : List Str := ["self", "did", "at", "thing"]
theorem sc_Ledger_block : FnScope N_Ledger_block ["self"] (defScope s_Ledger_block) := ⟨rfl, rfl, rfl, by decide +kernel, rfl, by decide +kernel, by decide +kernel⟩
abbrev s_Ledger_view : Stmt := inClass (top 51) 11
abbrev N_Ledger_view : List Str := ["self"]
theorem sc_Ledger_view : FnScope N_Ledger_view ["self"] (defScope s_Ledger_view) := ⟨rfl, rfl, rfl, by decide +kernel, rfl, by decide +kernel, by decide +kernel⟩
abbrev s_Ledger_view_for : Stmt := inClass (top 51) 12
abbrev N_Ledger_view_for : List Str := ["self", "party", "channels"]
theorem sc_Ledger_view_for : FnScope N_Ledger_view_for ["self", "party", "channels"] (defScope s_Ledger_view_for) := ⟨rfl, rfl, rfl, by decide +kernel, rfl, by decide +kernel, by decide +kernel⟩
abbrev s_law_rows : Stmt := top 53
abbrev N_law_rows : List Str := ["_law_script", "_law_count", "_law_rows_here", "_law_k", "_law_cell"]
theorem sc_law_rows : FnScope N_law_rows ["_law_script", "_law_count"] (defScope s_law_rows) := ⟨rfl, rfl, rfl, by decide +kernel, rfl, by decide +kernel, by decide +kernel⟩
abbrev s_law_key : Stmt := top 54
abbrev N_law_key : List Str := ["_law_secret"]
theorem sc_law_key : FnScope N_law_key ["_law_secret"] (defScope s_law_key) := ⟨rfl, rfl, rfl, by decide +kernel, rfl, by decide +kernel, by decide +kernel⟩
abbrev s_law_locks : Stmt := top 55
abbrev N_law_locks : List Str := ["_law_row", "_law_many", "_law_locks_here", "_law_k", "_law_part"]
theorem sc_law_locks : FnScope N_law_locks ["_law_row", "_law_many"] (defScope s_law_locks) := ⟨rfl, rfl, rfl, by decide +kernel, rfl, by decide +kernel, by decide +kernel⟩
abbrev s_law_state : Stmt := top 56
abbrev N_law_state : List Str := ["_law_row", "_law_channel", "_law_money_here", "_law_locks_here", "_law_first", "_law_second", "_law_lock"]
theorem sc_law_state : FnScope N_law_state ["_law_row", "_law_channel", "_law_money_here"] (defScope s_law_state) := ⟨rfl, rfl, rfl, by decide +kernel, rfl, by decide +kernel, by decide +kernel⟩
abbrev s_law_money : Stmt := top 57
abbrev N_law_money : List Str := ["_law_ledger_here", "_law_channel", "_law_vault"]
theorem sc_law_money : FnScope N_law_money ["_law_ledger_here", "_law_channel"] (defScope s_law_money) := ⟨rfl, rfl, rfl, by decide +kernel, rfl, by decide +kernel, by decide +kernel⟩
abbrev s_law_act : Stmt := top 58
abbrev N_law_act : List Str := ["_law_row", "_law_ledger_here", "_law_kind", "_law_channel", "_law_rest", "_law_state_here", "_law_vault", "_law_index", "_law_great"]
theorem sc_law_act : FnScope N_law_act ["_law_row", "_law_ledger_here"] (defScope s_law_act) := ⟨rfl, rfl, rfl, by decide +kernel, rfl, by decide +kernel, by decide +kernel⟩
abbrev s_law_thing : Stmt := top 59
abbrev N_law_thing : List Str := ["_law_row", "_law_ledger_here", "_law_hands", "_law_rest"]
theorem sc_law_thing : FnScope N_law_thing ["_law_row", "_law_ledger_here"] (defScope s_law_thing) := ⟨rfl, rfl, rfl, by decide +kernel, rfl, by decide +kernel, by decide +kernel⟩
abbrev s_law_ledger : Stmt := top 60
abbrev N_law_ledger : List Str := ["_law_row"]
theorem sc_law_ledger : FnScope N_law_ledger ["_law_row"] (defScope s_law_ledger) := ⟨rfl, rfl, rfl, by decide +kernel, rfl, by decide +kernel, by decide +kernel⟩
abbrev s_law_sound : Stmt := top 61
abbrev N_law_sound : List Str := ["_law_ledger_here", "_law_money_here", "_law_ended", "_law_book", "_law_held", "_law_party", "_law_number", "_law_vault", "_law_sums"]
theorem sc_law_sound : FnScope N_law_sound ["_law_ledger_here", "_law_money_here", "_law_ended"] (defScope s_law_sound) := ⟨rfl, rfl, rfl, by decide +kernel, rfl, by decide +kernel, by decide +kernel⟩
abbrev s_law : Stmt := top 62
abbrev N_law : List Str := ["_law_script", "_law_rows_here", "_law_ledger_here", "_law_money_here", "_law_seen", "_law_ended", "_law_row", "_law_burnt", "_law_thing_here"]
theorem sc_law : FnScope N_law ["_law_script"] (defScope s_law) := ⟨rfl, rfl, rfl, by decide +kernel, rfl, by decide +kernel, by decide +kernel⟩
end Tk
/-! The head: the top run in the kernel, with the facts that the defs' proofs lean on. -/
namespace Tk
open PySem L2
/-- the default of sums: the written tuple of four zeros -/
def sumsAt (K : PySem.W.Frag) : Addr := match K.lookup (He.fAd K ("Vault", some "__init__")) with
  | some ⟨_, _, .func fd, _⟩ => (match fd.kwdefaults with
    | .ref D => (match PySem.W.nsIn K D "sums" with
      | some (some (.ref a)) => a
      | _ => 0)
    | _ => 0)
  | _ => 0
/-- a property's object and its getter -/
def prAd (K : PySem.W.Frag) (m : Str) : Addr := He.ma K (He.ga K "Ledger") m
def gtAd (K : PySem.W.Frag) (m : Str) : Addr := match PySem.W.recIn K (prAd K m) "property" with
  | some (.ref g :: _) => g
  | _ => 0
def propB (K : PySem.W.Frag) (m : Str) : Bool :=
  He.eqO (PySem.W.findIn K (.ref (He.ga K "Ledger")) m) (some (some (.ref (prAd K m)))) && (He.eqO (PySem.W.specialIn K (.ref (prAd K m)) "__get__") (some (some (.builtin "property.__get__"))) &&
  (decide (PySem.W.takesIn K (.ref (prAd K m)) = some true) && (match PySem.W.recIn K (prAd K m) "property" with
    | some (.ref _ :: _) => true
    | _ => false)))
theorem propB_ok {K : PySem.W.Frag} {m : Str} (h : propB K m = true) : PropOf K (He.ga K "Ledger") m (prAd K m) (gtAd K m) := by
  obtain ⟨h1, h⟩ := He.ba h
  obtain ⟨h2, h⟩ := He.ba h
  obtain ⟨h3, h4⟩ := He.ba h
  refine ⟨He.eqO_ok h1, He.eqO_ok h2, of_decide_eq_true h3, ?_⟩
  unfold gtAd
  split at h4
  · rename_i g rest e
    rw [e]
    exact ⟨rest, rfl⟩
  · cases h4
/-- a getter: its name, the rest as of a def -/
def fnG (K : PySem.W.Frag) (m : Str) : He.FnW := match K.lookup (gtAd K m) with
  | some ⟨_, _, .func fd, _⟩ => some (fd.name, fd.qualname, fd.params, fd.body, fd.scope, fd.globals, fd.closure, fd.builtins)
  | _ => none
def okG (K : PySem.W.Frag) (d : He.DefD) : Bool := PySem.W.keepIn K (.ref (gtAd K d.name)) && (match K.lookup (gtAd K d.name) with
  | some ⟨_, _, .func fd, _⟩ => PySem.W.codeIn K fd.code d.qual && (He.dflB K fd.defaults [] && He.kwdB K fd.kwdefaults [])
  | _ => false)
theorem funG {K : PySem.W.Frag} {d : He.DefD} (e : fnG K d.name = d.val) (c : okG K d = true) : ∃ fd, FunD K d.name d.qual d.params d.body d.scope [] [] (gtAd K d.name) fd := by
  obtain ⟨kp, c2⟩ := He.ba c
  unfold fnG at e
  cases q : K.lookup (gtAd K d.name) with
  | none =>
    rw [q] at c2
    cases c2
  | some o =>
    obtain ⟨oc, od, dt, osl⟩ := o
    rw [q] at c2 e
    cases dt with
    | func fd =>
      obtain ⟨n1, n2, n3, n4, n5, n6, n7, n8, n9, n10, n11, n12, n13, n14, n15⟩ := fd
      have e2 : (some (n1, n2, n3, n4, n5, n6, n7, n15) : He.FnW) = some (d.name, d.qual, d.params, .stmts d.body, d.scope, mainGlobals, [], builtinsNs) := e
      simp only [Option.some.injEq, Prod.mk.injEq] at e2
      obtain ⟨h1, h2, h3, h4, h5, h6, h7, h8⟩ := e2
      subst h1 h2 h3 h4 h5 h6 h7 h8
      have c3 : (PySem.W.codeIn K n13 d.qual && (He.dflB K n8 [] && He.kwdB K n9 [])) = true := c2
      obtain ⟨k1, k2⟩ := He.ba c3
      obtain ⟨k3, k4⟩ := He.ba k2
      exact ⟨_, ⟨oc, od, n8, n9, n10, n11, n12, n13, n14, osl, rfl, q, k1, He.dflB_ok k3, He.kwdB_ok k4⟩, kp⟩
    | _ => cases c2
/-- the tuple of four zeros -/
def zerosB (K : PySem.W.Frag) : Bool := match K.lookup (sumsAt K) with
  | some ⟨.type c, _, .seq its _, _⟩ => decide (c = "tuple") && (decide (its.size ≤ sizeLine) && He.relAll [.int 0, .int 0, .int 0, .int 0] its.toList)
  | _ => false
theorem zerosB_ok {K : PySem.W.Frag} (h : zerosB K = true) (H : Hp) : SqT K H (sumsAt K) [.int 0, .int 0, .int 0, .int 0] := by
  unfold zerosB at h
  cases q : K.lookup (sumsAt K) with
  | none =>
    rw [q] at h
    cases h
  | some o =>
    obtain ⟨oc, od, dt, osl⟩ := o
    rw [q] at h
    cases oc with
    | type c =>
      cases dt with
      | seq its n =>
        obtain ⟨h1, h2⟩ := He.ba (show (decide (c = "tuple") && (decide (its.size ≤ sizeLine) && He.relAll [.int 0, .int 0, .int 0, .int 0] its.toList)) = true from h)
        obtain ⟨h3, h4⟩ := He.ba h2
        exact .inr ⟨_, its, n, q, congrArg Value.type (of_decide_eq_true h1), rfl, of_decide_eq_true h3, He.relAll_ok h4⟩
      | _ => cases h
    | _ => cases dt <;> cases h
def d_was_opened : He.DefD := ⟨("was_opened", none), "was_opened", "was_opened", defArgs s_was_opened, defBody s_was_opened, defScope s_was_opened, [], []⟩
def d_lock_shares : He.DefD := ⟨("lock_shares", none), "lock_shares", "lock_shares", defArgs s_lock_shares, defBody s_lock_shares, defScope s_lock_shares, [], []⟩
def d_opening_state : He.DefD := ⟨("opening_state", none), "opening_state", "opening_state", defArgs s_opening_state, defBody s_opening_state, defScope s_opening_state, [], []⟩
def d_total : He.DefD := ⟨("total", none), "total", "total", defArgs s_total, defBody s_total, defScope s_total, [], []⟩
def d_worth : He.DefD := ⟨("worth", none), "worth", "worth", defArgs s_worth, defBody s_worth, defScope s_worth, [], []⟩
def d_Vault_init : He.DefD := ⟨("Vault", some "__init__"), "__init__", "Vault.__init__", defArgs s_Vault_init, defBody s_Vault_init, defScope s_Vault_init, [], [("sums", .adr sumsAt), ("splices", .int 0), ("least", .int 0), ("published", .non), ("since", .non)]⟩
def d_copy_vault : He.DefD := ⟨("copy_vault", none), "copy_vault", "copy_vault", defArgs s_copy_vault, defBody s_copy_vault, defScope s_copy_vault, [], []⟩
def d_ends_of : He.DefD := ⟨("ends_of", none), "ends_of", "ends_of", defArgs s_ends_of, defBody s_ends_of, defScope s_ends_of, [], []⟩
def d_free_of : He.DefD := ⟨("free_of", none), "free_of", "free_of", defArgs s_free_of, defBody s_free_of, defScope s_free_of, [], []⟩
def d_fits : He.DefD := ⟨("fits", none), "fits", "fits", defArgs s_fits, defBody s_fits, defScope s_fits, [], []⟩
def d_shares : He.DefD := ⟨("shares", none), "shares", "shares", defArgs s_shares, defBody s_shares, defScope s_shares, [], []⟩
def d_key_of : He.DefD := ⟨("key_of", none), "key_of", "key_of", defArgs s_key_of, defBody s_key_of, defScope s_key_of, [], []⟩
def d_takes : He.DefD := ⟨("takes", none), "takes", "takes", defArgs s_takes, defBody s_takes, defScope s_takes, [], []⟩
def d_has_hands : He.DefD := ⟨("has_hands", none), "has_hands", "has_hands", defArgs s_has_hands, defBody s_has_hands, defScope s_has_hands, [], []⟩
def d_open_reasons : He.DefD := ⟨("open_reasons", none), "open_reasons", "open_reasons", defArgs s_open_reasons, defBody s_open_reasons, defScope s_open_reasons, [], []⟩
def d_sums_with : He.DefD := ⟨("sums_with", none), "sums_with", "sums_with", defArgs s_sums_with, defBody s_sums_with, defScope s_sums_with, [], []⟩
def d_splice_reasons : He.DefD := ⟨("splice_reasons", none), "splice_reasons", "splice_reasons", defArgs s_splice_reasons, defBody s_splice_reasons, defScope s_splice_reasons, [], []⟩
def d_publish_reasons : He.DefD := ⟨("publish_reasons", none), "publish_reasons", "publish_reasons", defArgs s_publish_reasons, defBody s_publish_reasons, defScope s_publish_reasons, [], []⟩
def d_is_decided : He.DefD := ⟨("is_decided", none), "is_decided", "is_decided", defArgs s_is_decided, defBody s_is_decided, defScope s_is_decided, [], []⟩
def d_settle_reasons : He.DefD := ⟨("settle_reasons", none), "settle_reasons", "settle_reasons", defArgs s_settle_reasons, defBody s_settle_reasons, defScope s_settle_reasons, [], []⟩
def d_channel_reasons : He.DefD := ⟨("channel_reasons", none), "channel_reasons", "channel_reasons", defArgs s_channel_reasons, defBody s_channel_reasons, defScope s_channel_reasons, [], []⟩
def d_act_reasons : He.DefD := ⟨("act_reasons", none), "act_reasons", "act_reasons", defArgs s_act_reasons, defBody s_act_reasons, defScope s_act_reasons, [], []⟩
def d_reasons : He.DefD := ⟨("reasons", none), "reasons", "reasons", defArgs s_reasons, defBody s_reasons, defScope s_reasons, [], []⟩
def d_give_both : He.DefD := ⟨("give_both", none), "give_both", "give_both", defArgs s_give_both, defBody s_give_both, defScope s_give_both, [], []⟩
def d_pay_out : He.DefD := ⟨("pay_out", none), "pay_out", "pay_out", defArgs s_pay_out, defBody s_pay_out, defScope s_pay_out, [], []⟩
def d_publish : He.DefD := ⟨("publish", none), "publish", "publish", defArgs s_publish, defBody s_publish, defScope s_publish, [], []⟩
def d_take_splice : He.DefD := ⟨("take_splice", none), "take_splice", "take_splice", defArgs s_take_splice, defBody s_take_splice, defScope s_take_splice, [], []⟩
def d_charge : He.DefD := ⟨("charge", none), "charge", "charge", defArgs s_charge, defBody s_charge, defScope s_charge, [], []⟩
def d_carry_out : He.DefD := ⟨("carry_out", none), "carry_out", "carry_out", defArgs s_carry_out, defBody s_carry_out, defScope s_carry_out, [], []⟩
def d_Book_init : He.DefD := ⟨("Book", some "__init__"), "__init__", "Book.__init__", defArgs s_Book_init, defBody s_Book_init, defScope s_Book_init, [], []⟩
def d_Book_purse : He.DefD := ⟨("Book", some "purse"), "purse", "Book.purse", defArgs s_Book_purse, defBody s_Book_purse, defScope s_Book_purse, [], []⟩
def d_Book_give : He.DefD := ⟨("Book", some "give"), "give", "Book.give", defArgs s_Book_give, defBody s_Book_give, defScope s_Book_give, [], []⟩
def d_Book_sum_of_money : He.DefD := ⟨("Book", some "sum_of_money"), "sum_of_money", "Book.sum_of_money", defArgs s_Book_sum_of_money, defBody s_Book_sum_of_money, defScope s_Book_sum_of_money, [], []⟩
def d_check_purses : He.DefD := ⟨("check_purses", none), "check_purses", "check_purses", defArgs s_check_purses, defBody s_check_purses, defScope s_check_purses, [], []⟩
def d_Ledger_init : He.DefD := ⟨("Ledger", some "__init__"), "__init__", "Ledger.__init__", defArgs s_Ledger_init, defBody s_Ledger_init, defScope s_Ledger_init, [], []⟩
def d_Ledger_channel : He.DefD := ⟨("Ledger", some "channel"), "channel", "Ledger.channel", defArgs s_Ledger_channel, defBody s_Ledger_channel, defScope s_Ledger_channel, [], []⟩
def d_Ledger_offer : He.DefD := ⟨("Ledger", some "offer"), "offer", "Ledger.offer", defArgs s_Ledger_offer, defBody s_Ledger_offer, defScope s_Ledger_offer, [], []⟩
def d_Ledger_best : He.DefD := ⟨("Ledger", some "best"), "best", "Ledger.best", defArgs s_Ledger_best, defBody s_Ledger_best, defScope s_Ledger_best, [], []⟩
def d_Ledger_block : He.DefD := ⟨("Ledger", some "block"), "block", "Ledger.block", defArgs s_Ledger_block, defBody s_Ledger_block, defScope s_Ledger_block, [], []⟩
def d_law_rows : He.DefD := ⟨("_law_rows", none), "_law_rows", "_law_rows", defArgs s_law_rows, defBody s_law_rows, defScope s_law_rows, [], []⟩
def d_law_key : He.DefD := ⟨("_law_key", none), "_law_key", "_law_key", defArgs s_law_key, defBody s_law_key, defScope s_law_key, [], []⟩
def d_law_locks : He.DefD := ⟨("_law_locks", none), "_law_locks", "_law_locks", defArgs s_law_locks, defBody s_law_locks, defScope s_law_locks, [], []⟩
def d_law_state : He.DefD := ⟨("_law_state", none), "_law_state", "_law_state", defArgs s_law_state, defBody s_law_state, defScope s_law_state, [], []⟩
def d_law_money : He.DefD := ⟨("_law_money", none), "_law_money", "_law_money", defArgs s_law_money, defBody s_law_money, defScope s_law_money, [], []⟩
def d_law_act : He.DefD := ⟨("_law_act", none), "_law_act", "_law_act", defArgs s_law_act, defBody s_law_act, defScope s_law_act, [], []⟩
def d_law_thing : He.DefD := ⟨("_law_thing", none), "_law_thing", "_law_thing", defArgs s_law_thing, defBody s_law_thing, defScope s_law_thing, [], []⟩
def d_law_ledger : He.DefD := ⟨("_law_ledger", none), "_law_ledger", "_law_ledger", defArgs s_law_ledger, defBody s_law_ledger, defScope s_law_ledger, [], []⟩
def d_law_sound : He.DefD := ⟨("_law_sound", none), "_law_sound", "_law_sound", defArgs s_law_sound, defBody s_law_sound, defScope s_law_sound, [], []⟩
def d_law : He.DefD := ⟨("law", none), "law", "law", defArgs s_law, defBody s_law, defScope s_law, [], []⟩
def d_Ledger_height_now : He.DefD := ⟨("height_now", none), "height_now", "Ledger.height_now", defArgs s_Ledger_height_now, defBody s_Ledger_height_now, defScope s_Ledger_height_now, [], []⟩
def d_Ledger_burnt_so_far : He.DefD := ⟨("burnt_so_far", none), "burnt_so_far", "Ledger.burnt_so_far", defArgs s_Ledger_burnt_so_far, defBody s_Ledger_burnt_so_far, defScope s_Ledger_burnt_so_far, [], []⟩
def d_Ledger_all_money : He.DefD := ⟨("all_money", none), "all_money", "Ledger.all_money", defArgs s_Ledger_all_money, defBody s_Ledger_all_money, defScope s_Ledger_all_money, [], []⟩
def fn0 : List He.DefD := [d_was_opened, d_lock_shares, d_opening_state, d_total, d_worth, d_Vault_init, d_copy_vault, d_ends_of, d_free_of, d_fits, d_shares, d_key_of, d_takes, d_has_hands, d_open_reasons, d_sums_with, d_splice_reasons, d_publish_reasons, d_is_decided, d_settle_reasons, d_channel_reasons, d_act_reasons, d_reasons, d_give_both, d_pay_out, d_publish, d_take_splice, d_charge, d_carry_out, d_Book_init]
def fn1 : List He.DefD := [d_Book_purse, d_Book_give, d_Book_sum_of_money, d_check_purses, d_Ledger_init, d_Ledger_channel, d_Ledger_offer, d_Ledger_best, d_Ledger_block, d_law_rows, d_law_key, d_law_locks, d_law_state, d_law_money, d_law_act, d_law_thing, d_law_ledger, d_law_sound, d_law]
def fn : List He.DefD := fn0 ++ fn1
def fa0 : List He.Fa := [.glo "was_opened", .glo "lock_shares", .glo "opening_state", .glo "total", .glo "worth", .glo "copy_vault", .glo "ends_of", .glo "free_of", .glo "fits", .glo "shares", .glo "key_of", .glo "takes", .glo "has_hands", .glo "open_reasons", .glo "sums_with", .glo "splice_reasons", .glo "publish_reasons", .glo "is_decided", .glo "settle_reasons", .glo "channel_reasons", .glo "act_reasons", .glo "reasons", .glo "give_both", .glo "pay_out", .glo "publish", .glo "take_splice", .glo "charge", .glo "carry_out", .meth "Book" "purse", .meth "Book" "give"]
def fa1 : List He.Fa := [.meth "Book" "sum_of_money", .glo "check_purses", .meth "Ledger" "channel", .meth "Ledger" "offer", .meth "Ledger" "best", .meth "Ledger" "block", .glo "_law_rows", .glo "_law_key", .glo "_law_locks", .glo "_law_state", .glo "_law_money", .glo "_law_act", .glo "_law_thing", .glo "_law_ledger", .glo "_law_sound", .glo "law", .glo "Vault", .cls "Vault", .mkr "Vault", .noat "Vault" "opening", .noat "Vault" "money", .noat "Vault" "sums", .noat "Vault" "splices", .noat "Vault" "least", .noat "Vault" "published", .noat "Vault" "since", .glo "Book", .cls "Book", .mkr "Book", .noat "Book" "purses"]
def fa2 : List He.Fa := [.noat "Book" "vaults", .noat "Book" "receipts", .noat "Book" "ended", .noat "Book" "done", .noat "Book" "height", .noat "Book" "burnt", .glo "Ledger", .cls "Ledger", .mkr "Ledger", .noat "Ledger" "book", .noat "Ledger" "room", .noat "Ledger" "waiting", .free "len", .free "sum", .free "max", .free "min", .free "any", .free "all", .free "set", .free "tuple", .free "list", .free "int", .free "range", .free "enumerate", .int "FACTOR" 1103515245, .int "SHIFT" 12345, .int "KEYS" 4294967296, .int "MOST_MONEY" 1000000000000000, .int "MOST_PURSES" 50, .int "MOST_ROOM" 200]
def fa : List He.Fa := fa0 ++ fa1 ++ fa2
def nm0 : List PySem.Str := ["_wall", "TurnpikeError", "OutOfBounds", "InvalidPurses", "TooMuchMoney", "was_opened", "lock_shares", "opening_state", "total", "worth", "Vault", "copy_vault", "ends_of", "free_of", "fits", "shares", "FACTOR", "SHIFT", "KEYS", "key_of", "MOST_MONEY", "takes", "has_hands", "open_reasons", "sums_with", "splice_reasons", "publish_reasons", "is_decided", "settle_reasons", "channel_reasons"]
def nm1 : List PySem.Str := ["act_reasons", "reasons", "give_both", "pay_out", "publish", "take_splice", "charge", "carry_out", "Book", "MOST_PURSES", "MOST_ROOM", "check_purses", "Ledger", "_law_rows", "_law_key", "_law_locks", "_law_state", "_law_money", "_law_act", "_law_thing", "_law_ledger", "_law_sound"]
def names : List PySem.Str := nm0 ++ nm1
def gts : List He.DefD := [d_Ledger_height_now, d_Ledger_burnt_so_far, d_Ledger_all_money]
def ex (K : PySem.W.Frag) : Bool := zerosB K && (gts.all fun d => propB K d.name && okG K d)
abbrev AlP : Type := He.AlX × List He.FnW
def obsP (g : Addr → Option Obj) : AlP := (He.obsX 6 fa fn [] [("total", none)] ex g, gts.map fun d => fnG (He.frT g (He.asD g 6)) d.name)
def valP (w : World) : AlP := (He.valX fn [] w, gts.map He.DefD.val)
structure Says (w : World) (h : Heap) (K : PySem.W.Frag) : Prop where
  x : He.SaysX fa fn [] [("total", none)] ex w h K
  g : gts.map (fun d => fnG K d.name) = gts.map He.DefD.val
def hookP : PySem.W.Hook where
  α := AlP
  obs := fun s => obsP s.heap.get?
  val := fun w => valP w
  says := fun w h => ∃ K : PySem.W.Frag, K.In h ∧ Says w h K
  of := fun _ _ e => ⟨_, He.frT_in, ⟨He.saysX_of (congrArg (fun z : AlP => z.1) e), congrArg (fun z : AlP => z.2) e⟩⟩
  keeps := fun _ _ _ ⟨K, hK, c⟩ k => ⟨K, PySem.W.Frag.In.keeps hK k, ⟨⟨c.x.t, c.x.more, c.x.hd, c.x.out, fun p hp => k _ _ (c.x.empty p hp)⟩, c.g⟩⟩
abbrev R : PySem.W.OpenRow := PySem.W.OpenLaw.row PySem.Challenge.rw_turnpike_k34_whole_no_money_is_made
def ob (s : PySem.W.SharedT) : AlP := obsP (HandSHeadRun.getT s)
theorem ob_eq (s : PySem.W.SharedT) : ob s = hookP.obs s.abs := by
  have e : HandSHeadRun.getT s = s.abs.heap.get? := funext (HandSHeadRun.getT_eq s)
  show obsP _ = obsP _
  rw [e]
theorem run (w : World) : HandSHeadRun.RunEq R (PySem.W.view R.prog [62]) hookP ob 20000 names w := by
  intro os
  kernel_rfl
end Tk
/-! What the defs' proofs lean on, by names; calls in short. -/
namespace Tk
open PySem PySem.Spec PyProof.Rows L2
structure Txt (K : PySem.W.Frag) (mg : Str → Option Value) : Prop where
  g_was_opened : mg "was_opened" = some (.ref (He.ga K "was_opened"))
  g_lock_shares : mg "lock_shares" = some (.ref (He.ga K "lock_shares"))
  g_opening_state : mg "opening_state" = some (.ref (He.ga K "opening_state"))
  g_total : mg "total" = some (.ref (He.ga K "total"))
  g_worth : mg "worth" = some (.ref (He.ga K "worth"))
  g_copy_vault : mg "copy_vault" = some (.ref (He.ga K "copy_vault"))
  g_ends_of : mg "ends_of" = some (.ref (He.ga K "ends_of"))
  g_free_of : mg "free_of" = some (.ref (He.ga K "free_of"))
  g_fits : mg "fits" = some (.ref (He.ga K "fits"))
  g_shares : mg "shares" = some (.ref (He.ga K "shares"))
  g_key_of : mg "key_of" = some (.ref (He.ga K "key_of"))
  g_takes : mg "takes" = some (.ref (He.ga K "takes"))
  g_has_hands : mg "has_hands" = some (.ref (He.ga K "has_hands"))
  g_open_reasons : mg "open_reasons" = some (.ref (He.ga K "open_reasons"))
  g_sums_with : mg "sums_with" = some (.ref (He.ga K "sums_with"))
  g_splice_reasons : mg "splice_reasons" = some (.ref (He.ga K "splice_reasons"))
  g_publish_reasons : mg "publish_reasons" = some (.ref (He.ga K "publish_reasons"))
  g_is_decided : mg "is_decided" = some (.ref (He.ga K "is_decided"))
  g_settle_reasons : mg "settle_reasons" = some (.ref (He.ga K "settle_reasons"))
  g_channel_reasons : mg "channel_reasons" = some (.ref (He.ga K "channel_reasons"))
  g_act_reasons : mg "act_reasons" = some (.ref (He.ga K "act_reasons"))
  g_reasons : mg "reasons" = some (.ref (He.ga K "reasons"))
  g_give_both : mg "give_both" = some (.ref (He.ga K "give_both"))
  g_pay_out : mg "pay_out" = some (.ref (He.ga K "pay_out"))
  g_publish : mg "publish" = some (.ref (He.ga K "publish"))
  g_take_splice : mg "take_splice" = some (.ref (He.ga K "take_splice"))
  g_charge : mg "charge" = some (.ref (He.ga K "charge"))
  g_carry_out : mg "carry_out" = some (.ref (He.ga K "carry_out"))
  m_Book_purse : Meth K (He.ga K "Book") "purse" (He.ma K (He.ga K "Book") "purse")
  m_Book_give : Meth K (He.ga K "Book") "give" (He.ma K (He.ga K "Book") "give")
  m_Book_sum_of_money : Meth K (He.ga K "Book") "sum_of_money" (He.ma K (He.ga K "Book") "sum_of_money")
  g_check_purses : mg "check_purses" = some (.ref (He.ga K "check_purses"))
  m_Ledger_channel : Meth K (He.ga K "Ledger") "channel" (He.ma K (He.ga K "Ledger") "channel")
  m_Ledger_offer : Meth K (He.ga K "Ledger") "offer" (He.ma K (He.ga K "Ledger") "offer")
  m_Ledger_best : Meth K (He.ga K "Ledger") "best" (He.ma K (He.ga K "Ledger") "best")
  m_Ledger_block : Meth K (He.ga K "Ledger") "block" (He.ma K (He.ga K "Ledger") "block")
  g_law_rows : mg "_law_rows" = some (.ref (He.ga K "_law_rows"))
  g_law_key : mg "_law_key" = some (.ref (He.ga K "_law_key"))
  g_law_locks : mg "_law_locks" = some (.ref (He.ga K "_law_locks"))
  g_law_state : mg "_law_state" = some (.ref (He.ga K "_law_state"))
  g_law_money : mg "_law_money" = some (.ref (He.ga K "_law_money"))
  g_law_act : mg "_law_act" = some (.ref (He.ga K "_law_act"))
  g_law_thing : mg "_law_thing" = some (.ref (He.ga K "_law_thing"))
  g_law_ledger : mg "_law_ledger" = some (.ref (He.ga K "_law_ledger"))
  g_law_sound : mg "_law_sound" = some (.ref (He.ga K "_law_sound"))
  g_law : mg "law" = some (.ref (He.ga K "law"))
  mg_Vault : mg "Vault" = some (.ref (He.ga K "Vault"))
  c_Vault : Cls K (He.ga K "Vault")
  mk_Vault : Mk K (He.ga K "Vault") (He.ma K (He.ga K "Vault") "__init__")
  n_Vault_opening : NoAttr K (He.ga K "Vault") "opening"
  n_Vault_money : NoAttr K (He.ga K "Vault") "money"
  n_Vault_sums : NoAttr K (He.ga K "Vault") "sums"
  n_Vault_splices : NoAttr K (He.ga K "Vault") "splices"
  n_Vault_least : NoAttr K (He.ga K "Vault") "least"
  n_Vault_published : NoAttr K (He.ga K "Vault") "published"
  n_Vault_since : NoAttr K (He.ga K "Vault") "since"
  mg_Book : mg "Book" = some (.ref (He.ga K "Book"))
  c_Book : Cls K (He.ga K "Book")
  mk_Book : Mk K (He.ga K "Book") (He.ma K (He.ga K "Book") "__init__")
  n_Book_purses : NoAttr K (He.ga K "Book") "purses"
  n_Book_vaults : NoAttr K (He.ga K "Book") "vaults"
  n_Book_receipts : NoAttr K (He.ga K "Book") "receipts"
  n_Book_ended : NoAttr K (He.ga K "Book") "ended"
  n_Book_done : NoAttr K (He.ga K "Book") "done"
  n_Book_height : NoAttr K (He.ga K "Book") "height"
  n_Book_burnt : NoAttr K (He.ga K "Book") "burnt"
  mg_Ledger : mg "Ledger" = some (.ref (He.ga K "Ledger"))
  c_Ledger : Cls K (He.ga K "Ledger")
  mk_Ledger : Mk K (He.ga K "Ledger") (He.ma K (He.ga K "Ledger") "__init__")
  n_Ledger_book : NoAttr K (He.ga K "Ledger") "book"
  n_Ledger_room : NoAttr K (He.ga K "Ledger") "room"
  n_Ledger_waiting : NoAttr K (He.ga K "Ledger") "waiting"
  z_len : mg "len" = none
  z_sum : mg "sum" = none
  z_max : mg "max" = none
  z_min : mg "min" = none
  z_any : mg "any" = none
  z_all : mg "all" = none
  z_set : mg "set" = none
  z_tuple : mg "tuple" = none
  z_list : mg "list" = none
  z_int : mg "int" = none
  z_range : mg "range" = none
  z_enumerate : mg "enumerate" = none
  i_FACTOR : ∃ t, mg "FACTOR" = some (.int 1103515245 t)
  i_SHIFT : ∃ t, mg "SHIFT" = some (.int 12345 t)
  i_KEYS : ∃ t, mg "KEYS" = some (.int 4294967296 t)
  i_MOST_MONEY : ∃ t, mg "MOST_MONEY" = some (.int 1000000000000000 t)
  i_MOST_PURSES : ∃ t, mg "MOST_PURSES" = some (.int 50 t)
  i_MOST_ROOM : ∃ t, mg "MOST_ROOM" = some (.int 200 t)
  f_was_opened : ∃ fd, FunD K d_was_opened.name d_was_opened.qual d_was_opened.params d_was_opened.body d_was_opened.scope (d_was_opened.dvs K) (d_was_opened.kws K) (He.fAd K d_was_opened.at_) fd
  f_lock_shares : ∃ fd, FunD K d_lock_shares.name d_lock_shares.qual d_lock_shares.params d_lock_shares.body d_lock_shares.scope (d_lock_shares.dvs K) (d_lock_shares.kws K) (He.fAd K d_lock_shares.at_) fd
  f_opening_state : ∃ fd, FunD K d_opening_state.name d_opening_state.qual d_opening_state.params d_opening_state.body d_opening_state.scope (d_opening_state.dvs K) (d_opening_state.kws K) (He.fAd K d_opening_state.at_) fd
  f_total : ∃ fd, FunD K d_total.name d_total.qual d_total.params d_total.body d_total.scope (d_total.dvs K) (d_total.kws K) (He.fAd K d_total.at_) fd
  f_worth : ∃ fd, FunD K d_worth.name d_worth.qual d_worth.params d_worth.body d_worth.scope (d_worth.dvs K) (d_worth.kws K) (He.fAd K d_worth.at_) fd
  f_Vault_init : ∃ fd, FunD K d_Vault_init.name d_Vault_init.qual d_Vault_init.params d_Vault_init.body d_Vault_init.scope (d_Vault_init.dvs K) (d_Vault_init.kws K) (He.fAd K d_Vault_init.at_) fd
  f_copy_vault : ∃ fd, FunD K d_copy_vault.name d_copy_vault.qual d_copy_vault.params d_copy_vault.body d_copy_vault.scope (d_copy_vault.dvs K) (d_copy_vault.kws K) (He.fAd K d_copy_vault.at_) fd
  f_ends_of : ∃ fd, FunD K d_ends_of.name d_ends_of.qual d_ends_of.params d_ends_of.body d_ends_of.scope (d_ends_of.dvs K) (d_ends_of.kws K) (He.fAd K d_ends_of.at_) fd
  f_free_of : ∃ fd, FunD K d_free_of.name d_free_of.qual d_free_of.params d_free_of.body d_free_of.scope (d_free_of.dvs K) (d_free_of.kws K) (He.fAd K d_free_of.at_) fd
  f_fits : ∃ fd, FunD K d_fits.name d_fits.qual d_fits.params d_fits.body d_fits.scope (d_fits.dvs K) (d_fits.kws K) (He.fAd K d_fits.at_) fd
  f_shares : ∃ fd, FunD K d_shares.name d_shares.qual d_shares.params d_shares.body d_shares.scope (d_shares.dvs K) (d_shares.kws K) (He.fAd K d_shares.at_) fd
  f_key_of : ∃ fd, FunD K d_key_of.name d_key_of.qual d_key_of.params d_key_of.body d_key_of.scope (d_key_of.dvs K) (d_key_of.kws K) (He.fAd K d_key_of.at_) fd
  f_takes : ∃ fd, FunD K d_takes.name d_takes.qual d_takes.params d_takes.body d_takes.scope (d_takes.dvs K) (d_takes.kws K) (He.fAd K d_takes.at_) fd
  f_has_hands : ∃ fd, FunD K d_has_hands.name d_has_hands.qual d_has_hands.params d_has_hands.body d_has_hands.scope (d_has_hands.dvs K) (d_has_hands.kws K) (He.fAd K d_has_hands.at_) fd
  f_open_reasons : ∃ fd, FunD K d_open_reasons.name d_open_reasons.qual d_open_reasons.params d_open_reasons.body d_open_reasons.scope (d_open_reasons.dvs K) (d_open_reasons.kws K) (He.fAd K d_open_reasons.at_) fd
  f_sums_with : ∃ fd, FunD K d_sums_with.name d_sums_with.qual d_sums_with.params d_sums_with.body d_sums_with.scope (d_sums_with.dvs K) (d_sums_with.kws K) (He.fAd K d_sums_with.at_) fd
  f_splice_reasons : ∃ fd, FunD K d_splice_reasons.name d_splice_reasons.qual d_splice_reasons.params d_splice_reasons.body d_splice_reasons.scope (d_splice_reasons.dvs K) (d_splice_reasons.kws K) (He.fAd K d_splice_reasons.at_) fd
  f_publish_reasons : ∃ fd, FunD K d_publish_reasons.name d_publish_reasons.qual d_publish_reasons.params d_publish_reasons.body d_publish_reasons.scope (d_publish_reasons.dvs K) (d_publish_reasons.kws K) (He.fAd K d_publish_reasons.at_) fd
  f_is_decided : ∃ fd, FunD K d_is_decided.name d_is_decided.qual d_is_decided.params d_is_decided.body d_is_decided.scope (d_is_decided.dvs K) (d_is_decided.kws K) (He.fAd K d_is_decided.at_) fd
  f_settle_reasons : ∃ fd, FunD K d_settle_reasons.name d_settle_reasons.qual d_settle_reasons.params d_settle_reasons.body d_settle_reasons.scope (d_settle_reasons.dvs K) (d_settle_reasons.kws K) (He.fAd K d_settle_reasons.at_) fd
  f_channel_reasons : ∃ fd, FunD K d_channel_reasons.name d_channel_reasons.qual d_channel_reasons.params d_channel_reasons.body d_channel_reasons.scope (d_channel_reasons.dvs K) (d_channel_reasons.kws K) (He.fAd K d_channel_reasons.at_) fd
  f_act_reasons : ∃ fd, FunD K d_act_reasons.name d_act_reasons.qual d_act_reasons.params d_act_reasons.body d_act_reasons.scope (d_act_reasons.dvs K) (d_act_reasons.kws K) (He.fAd K d_act_reasons.at_) fd
  f_reasons : ∃ fd, FunD K d_reasons.name d_reasons.qual d_reasons.params d_reasons.body d_reasons.scope (d_reasons.dvs K) (d_reasons.kws K) (He.fAd K d_reasons.at_) fd
  f_give_both : ∃ fd, FunD K d_give_both.name d_give_both.qual d_give_both.params d_give_both.body d_give_both.scope (d_give_both.dvs K) (d_give_both.kws K) (He.fAd K d_give_both.at_) fd
  f_pay_out : ∃ fd, FunD K d_pay_out.name d_pay_out.qual d_pay_out.params d_pay_out.body d_pay_out.scope (d_pay_out.dvs K) (d_pay_out.kws K) (He.fAd K d_pay_out.at_) fd
  f_publish : ∃ fd, FunD K d_publish.name d_publish.qual d_publish.params d_publish.body d_publish.scope (d_publish.dvs K) (d_publish.kws K) (He.fAd K d_publish.at_) fd
  f_take_splice : ∃ fd, FunD K d_take_splice.name d_take_splice.qual d_take_splice.params d_take_splice.body d_take_splice.scope (d_take_splice.dvs K) (d_take_splice.kws K) (He.fAd K d_take_splice.at_) fd
  f_charge : ∃ fd, FunD K d_charge.name d_charge.qual d_charge.params d_charge.body d_charge.scope (d_charge.dvs K) (d_charge.kws K) (He.fAd K d_charge.at_) fd
  f_carry_out : ∃ fd, FunD K d_carry_out.name d_carry_out.qual d_carry_out.params d_carry_out.body d_carry_out.scope (d_carry_out.dvs K) (d_carry_out.kws K) (He.fAd K d_carry_out.at_) fd
  f_Book_init : ∃ fd, FunD K d_Book_init.name d_Book_init.qual d_Book_init.params d_Book_init.body d_Book_init.scope (d_Book_init.dvs K) (d_Book_init.kws K) (He.fAd K d_Book_init.at_) fd
  f_Book_purse : ∃ fd, FunD K d_Book_purse.name d_Book_purse.qual d_Book_purse.params d_Book_purse.body d_Book_purse.scope (d_Book_purse.dvs K) (d_Book_purse.kws K) (He.fAd K d_Book_purse.at_) fd
  f_Book_give : ∃ fd, FunD K d_Book_give.name d_Book_give.qual d_Book_give.params d_Book_give.body d_Book_give.scope (d_Book_give.dvs K) (d_Book_give.kws K) (He.fAd K d_Book_give.at_) fd
  f_Book_sum_of_money : ∃ fd, FunD K d_Book_sum_of_money.name d_Book_sum_of_money.qual d_Book_sum_of_money.params d_Book_sum_of_money.body d_Book_sum_of_money.scope (d_Book_sum_of_money.dvs K) (d_Book_sum_of_money.kws K) (He.fAd K d_Book_sum_of_money.at_) fd
  f_check_purses : ∃ fd, FunD K d_check_purses.name d_check_purses.qual d_check_purses.params d_check_purses.body d_check_purses.scope (d_check_purses.dvs K) (d_check_purses.kws K) (He.fAd K d_check_purses.at_) fd
  f_Ledger_init : ∃ fd, FunD K d_Ledger_init.name d_Ledger_init.qual d_Ledger_init.params d_Ledger_init.body d_Ledger_init.scope (d_Ledger_init.dvs K) (d_Ledger_init.kws K) (He.fAd K d_Ledger_init.at_) fd
  f_Ledger_channel : ∃ fd, FunD K d_Ledger_channel.name d_Ledger_channel.qual d_Ledger_channel.params d_Ledger_channel.body d_Ledger_channel.scope (d_Ledger_channel.dvs K) (d_Ledger_channel.kws K) (He.fAd K d_Ledger_channel.at_) fd
  f_Ledger_offer : ∃ fd, FunD K d_Ledger_offer.name d_Ledger_offer.qual d_Ledger_offer.params d_Ledger_offer.body d_Ledger_offer.scope (d_Ledger_offer.dvs K) (d_Ledger_offer.kws K) (He.fAd K d_Ledger_offer.at_) fd
  f_Ledger_best : ∃ fd, FunD K d_Ledger_best.name d_Ledger_best.qual d_Ledger_best.params d_Ledger_best.body d_Ledger_best.scope (d_Ledger_best.dvs K) (d_Ledger_best.kws K) (He.fAd K d_Ledger_best.at_) fd
  f_Ledger_block : ∃ fd, FunD K d_Ledger_block.name d_Ledger_block.qual d_Ledger_block.params d_Ledger_block.body d_Ledger_block.scope (d_Ledger_block.dvs K) (d_Ledger_block.kws K) (He.fAd K d_Ledger_block.at_) fd
  f_law_rows : ∃ fd, FunD K d_law_rows.name d_law_rows.qual d_law_rows.params d_law_rows.body d_law_rows.scope (d_law_rows.dvs K) (d_law_rows.kws K) (He.fAd K d_law_rows.at_) fd
  f_law_key : ∃ fd, FunD K d_law_key.name d_law_key.qual d_law_key.params d_law_key.body d_law_key.scope (d_law_key.dvs K) (d_law_key.kws K) (He.fAd K d_law_key.at_) fd
  f_law_locks : ∃ fd, FunD K d_law_locks.name d_law_locks.qual d_law_locks.params d_law_locks.body d_law_locks.scope (d_law_locks.dvs K) (d_law_locks.kws K) (He.fAd K d_law_locks.at_) fd
  f_law_state : ∃ fd, FunD K d_law_state.name d_law_state.qual d_law_state.params d_law_state.body d_law_state.scope (d_law_state.dvs K) (d_law_state.kws K) (He.fAd K d_law_state.at_) fd
  f_law_money : ∃ fd, FunD K d_law_money.name d_law_money.qual d_law_money.params d_law_money.body d_law_money.scope (d_law_money.dvs K) (d_law_money.kws K) (He.fAd K d_law_money.at_) fd
  f_law_act : ∃ fd, FunD K d_law_act.name d_law_act.qual d_law_act.params d_law_act.body d_law_act.scope (d_law_act.dvs K) (d_law_act.kws K) (He.fAd K d_law_act.at_) fd
  f_law_thing : ∃ fd, FunD K d_law_thing.name d_law_thing.qual d_law_thing.params d_law_thing.body d_law_thing.scope (d_law_thing.dvs K) (d_law_thing.kws K) (He.fAd K d_law_thing.at_) fd
  f_law_ledger : ∃ fd, FunD K d_law_ledger.name d_law_ledger.qual d_law_ledger.params d_law_ledger.body d_law_ledger.scope (d_law_ledger.dvs K) (d_law_ledger.kws K) (He.fAd K d_law_ledger.at_) fd
  f_law_sound : ∃ fd, FunD K d_law_sound.name d_law_sound.qual d_law_sound.params d_law_sound.body d_law_sound.scope (d_law_sound.dvs K) (d_law_sound.kws K) (He.fAd K d_law_sound.at_) fd
  f_law : ∃ fd, FunD K d_law.name d_law.qual d_law.params d_law.body d_law.scope (d_law.dvs K) (d_law.kws K) (He.fAd K d_law.at_) fd
  p_height_now : PropOf K (He.ga K "Ledger") "height_now" (prAd K "height_now") (gtAd K "height_now")
  f_Ledger_height_now : ∃ fd, FunD K d_Ledger_height_now.name d_Ledger_height_now.qual d_Ledger_height_now.params d_Ledger_height_now.body d_Ledger_height_now.scope [] [] (gtAd K d_Ledger_height_now.name) fd
  p_burnt_so_far : PropOf K (He.ga K "Ledger") "burnt_so_far" (prAd K "burnt_so_far") (gtAd K "burnt_so_far")
  f_Ledger_burnt_so_far : ∃ fd, FunD K d_Ledger_burnt_so_far.name d_Ledger_burnt_so_far.qual d_Ledger_burnt_so_far.params d_Ledger_burnt_so_far.body d_Ledger_burnt_so_far.scope [] [] (gtAd K d_Ledger_burnt_so_far.name) fd
  p_all_money : PropOf K (He.ga K "Ledger") "all_money" (prAd K "all_money") (gtAd K "all_money")
  f_Ledger_all_money : ∃ fd, FunD K d_Ledger_all_money.name d_Ledger_all_money.qual d_Ledger_all_money.params d_Ledger_all_money.body d_Ledger_all_money.scope [] [] (gtAd K d_Ledger_all_money.name) fd
  zeros : ∀ H : Hp, SqT K H (sumsAt K) [.int 0, .int 0, .int 0, .int 0]
theorem gts_at {K : PySem.W.Frag} (c : gts.map (fun d => fnG K d.name) = gts.map He.DefD.val) (i : Nat) {d : He.DefD} (h : gts[i]? = some d) : fnG K d.name = d.val := by
  have e : (gts.map fun d => fnG K d.name)[i]? = (gts.map He.DefD.val)[i]? := by rw [c]
  rw [List.getElem?_map, List.getElem?_map, h] at e
  exact Option.some.inj e
theorem txt_of {w : World} {h : Heap} {K : PySem.W.Frag} {mg : Str → Option Value} (X : K.In h) (G : h.Ns mainGlobals mg) (c : Says w h K) : Txt K mg := by
  have e0 : (zerosB K && (gts.all fun d => propB K d.name && okG K d)) = true := c.x.more
  obtain ⟨e1, e2⟩ := He.ba e0
  exact {
    g_was_opened := He.glo_ok X G (c.x.t.d.fact 0 rfl)
    g_lock_shares := He.glo_ok X G (c.x.t.d.fact 1 rfl)
    g_opening_state := He.glo_ok X G (c.x.t.d.fact 2 rfl)
    g_total := He.glo_ok X G (c.x.t.d.fact 3 rfl)
    g_worth := He.glo_ok X G (c.x.t.d.fact 4 rfl)
    g_copy_vault := He.glo_ok X G (c.x.t.d.fact 5 rfl)
    g_ends_of := He.glo_ok X G (c.x.t.d.fact 6 rfl)
    g_free_of := He.glo_ok X G (c.x.t.d.fact 7 rfl)
    g_fits := He.glo_ok X G (c.x.t.d.fact 8 rfl)
    g_shares := He.glo_ok X G (c.x.t.d.fact 9 rfl)
    g_key_of := He.glo_ok X G (c.x.t.d.fact 10 rfl)
    g_takes := He.glo_ok X G (c.x.t.d.fact 11 rfl)
    g_has_hands := He.glo_ok X G (c.x.t.d.fact 12 rfl)
    g_open_reasons := He.glo_ok X G (c.x.t.d.fact 13 rfl)
    g_sums_with := He.glo_ok X G (c.x.t.d.fact 14 rfl)
    g_splice_reasons := He.glo_ok X G (c.x.t.d.fact 15 rfl)
    g_publish_reasons := He.glo_ok X G (c.x.t.d.fact 16 rfl)
    g_is_decided := He.glo_ok X G (c.x.t.d.fact 17 rfl)
    g_settle_reasons := He.glo_ok X G (c.x.t.d.fact 18 rfl)
    g_channel_reasons := He.glo_ok X G (c.x.t.d.fact 19 rfl)
    g_act_reasons := He.glo_ok X G (c.x.t.d.fact 20 rfl)
    g_reasons := He.glo_ok X G (c.x.t.d.fact 21 rfl)
    g_give_both := He.glo_ok X G (c.x.t.d.fact 22 rfl)
    g_pay_out := He.glo_ok X G (c.x.t.d.fact 23 rfl)
    g_publish := He.glo_ok X G (c.x.t.d.fact 24 rfl)
    g_take_splice := He.glo_ok X G (c.x.t.d.fact 25 rfl)
    g_charge := He.glo_ok X G (c.x.t.d.fact 26 rfl)
    g_carry_out := He.glo_ok X G (c.x.t.d.fact 27 rfl)
    m_Book_purse := He.meth_ok (c.x.t.d.fact 28 rfl)
    m_Book_give := He.meth_ok (c.x.t.d.fact 29 rfl)
    m_Book_sum_of_money := He.meth_ok (c.x.t.d.fact 30 rfl)
    g_check_purses := He.glo_ok X G (c.x.t.d.fact 31 rfl)
    m_Ledger_channel := He.meth_ok (c.x.t.d.fact 32 rfl)
    m_Ledger_offer := He.meth_ok (c.x.t.d.fact 33 rfl)
    m_Ledger_best := He.meth_ok (c.x.t.d.fact 34 rfl)
    m_Ledger_block := He.meth_ok (c.x.t.d.fact 35 rfl)
    g_law_rows := He.glo_ok X G (c.x.t.d.fact 36 rfl)
    g_law_key := He.glo_ok X G (c.x.t.d.fact 37 rfl)
    g_law_locks := He.glo_ok X G (c.x.t.d.fact 38 rfl)
    g_law_state := He.glo_ok X G (c.x.t.d.fact 39 rfl)
    g_law_money := He.glo_ok X G (c.x.t.d.fact 40 rfl)
    g_law_act := He.glo_ok X G (c.x.t.d.fact 41 rfl)
    g_law_thing := He.glo_ok X G (c.x.t.d.fact 42 rfl)
    g_law_ledger := He.glo_ok X G (c.x.t.d.fact 43 rfl)
    g_law_sound := He.glo_ok X G (c.x.t.d.fact 44 rfl)
    g_law := He.glo_ok X G (c.x.t.d.fact 45 rfl)
    mg_Vault := He.glo_ok X G (c.x.t.d.fact 46 rfl)
    c_Vault := He.cls_ok (c.x.t.d.fact 47 rfl)
    mk_Vault := He.mkr_ok (c.x.t.d.fact 48 rfl)
    n_Vault_opening := He.noat_ok (c.x.t.d.fact 49 rfl)
    n_Vault_money := He.noat_ok (c.x.t.d.fact 50 rfl)
    n_Vault_sums := He.noat_ok (c.x.t.d.fact 51 rfl)
    n_Vault_splices := He.noat_ok (c.x.t.d.fact 52 rfl)
    n_Vault_least := He.noat_ok (c.x.t.d.fact 53 rfl)
    n_Vault_published := He.noat_ok (c.x.t.d.fact 54 rfl)
    n_Vault_since := He.noat_ok (c.x.t.d.fact 55 rfl)
    mg_Book := He.glo_ok X G (c.x.t.d.fact 56 rfl)
    c_Book := He.cls_ok (c.x.t.d.fact 57 rfl)
    mk_Book := He.mkr_ok (c.x.t.d.fact 58 rfl)
    n_Book_purses := He.noat_ok (c.x.t.d.fact 59 rfl)
    n_Book_vaults := He.noat_ok (c.x.t.d.fact 60 rfl)
    n_Book_receipts := He.noat_ok (c.x.t.d.fact 61 rfl)
    n_Book_ended := He.noat_ok (c.x.t.d.fact 62 rfl)
    n_Book_done := He.noat_ok (c.x.t.d.fact 63 rfl)
    n_Book_height := He.noat_ok (c.x.t.d.fact 64 rfl)
    n_Book_burnt := He.noat_ok (c.x.t.d.fact 65 rfl)
    mg_Ledger := He.glo_ok X G (c.x.t.d.fact 66 rfl)
    c_Ledger := He.cls_ok (c.x.t.d.fact 67 rfl)
    mk_Ledger := He.mkr_ok (c.x.t.d.fact 68 rfl)
    n_Ledger_book := He.noat_ok (c.x.t.d.fact 69 rfl)
    n_Ledger_room := He.noat_ok (c.x.t.d.fact 70 rfl)
    n_Ledger_waiting := He.noat_ok (c.x.t.d.fact 71 rfl)
    z_len := He.free_ok X G (c.x.t.d.fact 72 rfl)
    z_sum := He.free_ok X G (c.x.t.d.fact 73 rfl)
    z_max := He.free_ok X G (c.x.t.d.fact 74 rfl)
    z_min := He.free_ok X G (c.x.t.d.fact 75 rfl)
    z_any := He.free_ok X G (c.x.t.d.fact 76 rfl)
    z_all := He.free_ok X G (c.x.t.d.fact 77 rfl)
    z_set := He.free_ok X G (c.x.t.d.fact 78 rfl)
    z_tuple := He.free_ok X G (c.x.t.d.fact 79 rfl)
    z_list := He.free_ok X G (c.x.t.d.fact 80 rfl)
    z_int := He.free_ok X G (c.x.t.d.fact 81 rfl)
    z_range := He.free_ok X G (c.x.t.d.fact 82 rfl)
    z_enumerate := He.free_ok X G (c.x.t.d.fact 83 rfl)
    i_FACTOR := He.int_ok X G (c.x.t.d.fact 84 rfl)
    i_SHIFT := He.int_ok X G (c.x.t.d.fact 85 rfl)
    i_KEYS := He.int_ok X G (c.x.t.d.fact 86 rfl)
    i_MOST_MONEY := He.int_ok X G (c.x.t.d.fact 87 rfl)
    i_MOST_PURSES := He.int_ok X G (c.x.t.d.fact 88 rfl)
    i_MOST_ROOM := He.int_ok X G (c.x.t.d.fact 89 rfl)
    f_was_opened := c.x.t.d.def_ 0 rfl
    f_lock_shares := c.x.t.d.def_ 1 rfl
    f_opening_state := c.x.t.d.def_ 2 rfl
    f_total := c.x.t.d.def_ 3 rfl
    f_worth := c.x.t.d.def_ 4 rfl
    f_Vault_init := c.x.t.d.def_ 5 rfl
    f_copy_vault := c.x.t.d.def_ 6 rfl
    f_ends_of := c.x.t.d.def_ 7 rfl
    f_free_of := c.x.t.d.def_ 8 rfl
    f_fits := c.x.t.d.def_ 9 rfl
    f_shares := c.x.t.d.def_ 10 rfl
    f_key_of := c.x.t.d.def_ 11 rfl
    f_takes := c.x.t.d.def_ 12 rfl
    f_has_hands := c.x.t.d.def_ 13 rfl
    f_open_reasons := c.x.t.d.def_ 14 rfl
    f_sums_with := c.x.t.d.def_ 15 rfl
    f_splice_reasons := c.x.t.d.def_ 16 rfl
    f_publish_reasons := c.x.t.d.def_ 17 rfl
    f_is_decided := c.x.t.d.def_ 18 rfl
    f_settle_reasons := c.x.t.d.def_ 19 rfl
    f_channel_reasons := c.x.t.d.def_ 20 rfl
    f_act_reasons := c.x.t.d.def_ 21 rfl
    f_reasons := c.x.t.d.def_ 22 rfl
    f_give_both := c.x.t.d.def_ 23 rfl
    f_pay_out := c.x.t.d.def_ 24 rfl
    f_publish := c.x.t.d.def_ 25 rfl
    f_take_splice := c.x.t.d.def_ 26 rfl
    f_charge := c.x.t.d.def_ 27 rfl
    f_carry_out := c.x.t.d.def_ 28 rfl
    f_Book_init := c.x.t.d.def_ 29 rfl
    f_Book_purse := c.x.t.d.def_ 30 rfl
    f_Book_give := c.x.t.d.def_ 31 rfl
    f_Book_sum_of_money := c.x.t.d.def_ 32 rfl
    f_check_purses := c.x.t.d.def_ 33 rfl
    f_Ledger_init := c.x.t.d.def_ 34 rfl
    f_Ledger_channel := c.x.t.d.def_ 35 rfl
    f_Ledger_offer := c.x.t.d.def_ 36 rfl
    f_Ledger_best := c.x.t.d.def_ 37 rfl
    f_Ledger_block := c.x.t.d.def_ 38 rfl
    f_law_rows := c.x.t.d.def_ 39 rfl
    f_law_key := c.x.t.d.def_ 40 rfl
    f_law_locks := c.x.t.d.def_ 41 rfl
    f_law_state := c.x.t.d.def_ 42 rfl
    f_law_money := c.x.t.d.def_ 43 rfl
    f_law_act := c.x.t.d.def_ 44 rfl
    f_law_thing := c.x.t.d.def_ 45 rfl
    f_law_ledger := c.x.t.d.def_ 46 rfl
    f_law_sound := c.x.t.d.def_ 47 rfl
    f_law := c.x.t.d.def_ 48 rfl
    p_height_now := propB_ok (He.ba (List.all_eq_true.mp e2 d_Ledger_height_now (by simp [gts]))).1
    f_Ledger_height_now := funG (gts_at c.g 0 rfl) (He.ba (List.all_eq_true.mp e2 d_Ledger_height_now (by simp [gts]))).2
    p_burnt_so_far := propB_ok (He.ba (List.all_eq_true.mp e2 d_Ledger_burnt_so_far (by simp [gts]))).1
    f_Ledger_burnt_so_far := funG (gts_at c.g 1 rfl) (He.ba (List.all_eq_true.mp e2 d_Ledger_burnt_so_far (by simp [gts]))).2
    p_all_money := propB_ok (He.ba (List.all_eq_true.mp e2 d_Ledger_all_money (by simp [gts]))).1
    f_Ledger_all_money := funG (gts_at c.g 2 rfl) (He.ba (List.all_eq_true.mp e2 d_Ledger_all_money (by simp [gts]))).2
    zeros := fun H => zerosB_ok e1 H
  }

/-! ### calls in short -/
/-- a def of the module: it keeps its promise -/
structure HasF (P : Program) (w : World) (K : PySem.W.Frag) (mg : Str → Option Value) (base : Heap) (x : Str) (k : Nat) (ps : List Str) (sp : Sp) : Prop where
  ok : ∃ fd, FnOk P w K mg base CX0 k (He.ga K x) fd ps sp ∧ Binds K fd ps []
  at_ : mg x = some (.ref (He.ga K x))
  kp : PySem.W.keepIn K (.ref (He.ga K x)) = true
/-- a method of a class of the module -/
structure HasM (P : Program) (w : World) (K : PySem.W.Frag) (mg : Str → Option Value) (base : Heap) (C m : Str) (k : Nat) (ps : List Str) (sp : Sp) : Prop where
  ok : ∃ fd, FnOk P w K mg base CX0 k (He.ma K (He.ga K C) m) fd ps sp ∧ Binds K fd ps []
  cl : Cls K (He.ga K C)
  me : Meth K (He.ga K C) m (He.ma K (He.ga K C) m)
/-- a class that is made by its __init__ -/
structure HasK (P : Program) (w : World) (K : PySem.W.Frag) (mg : Str → Option Value) (base : Heap) (C : Str) (k : Nat) (ps : List Str) (ds : List V) (sp : Sp) : Prop where
  ok : ∃ (fd : FuncData) (us : List Value), FnOk P w K mg base CX0 k (He.ma K (He.ga K C) "__init__") fd ps sp ∧ Binds K fd ps us ∧ Vals ds us
  mkr : Mk K (He.ga K C) (He.ma K (He.ga K C) "__init__")
  at_ : mg C = some (.ref (He.ga K C))
/-- .. with keywords -/
structure HasKw (P : Program) (w : World) (K : PySem.W.Frag) (mg : Str → Option Value) (base : Heap) (C : Str) (k n : Nat) (ps ks : List Str) (gV : List V → List V → List V) (sp : Sp) : Prop where
  ok : ∃ (fd : FuncData) (g : List Value → List Value → List Value), FnOk P w K mg base CX0 k (He.ma K (He.ga K C) "__init__") fd ps sp ∧ KBn K fd ps (n + 1) ks g gV
  mkr : Mk K (He.ga K C) (He.ma K (He.ga K C) "__init__")
  at_ : mg C = some (.ref (He.ga K C))
/-- a property of the class Ledger -/
structure HasP (P : Program) (w : World) (K : PySem.W.Frag) (mg : Str → Option Value) (base : Heap) (m : Str) (k : Nat) (sp : Sp) : Prop where
  ok : ∃ fd, FnOk P w K mg base CX0 k (gtAd K m) fd ["self"] sp ∧ Binds K fd ["self"] []
  cl : Cls K (He.ga K "Ledger")
  pr : PropOf K (He.ga K "Ledger") m (prAd K m) (gtAd K m)
section
variable {X : Cx} {x C m : Str} {k j n : Nat} {ps ks : List Str} {sp : Sp} {e o : Expr} {es : List Expr} {kws : List Keyword} {t tk : TA} {ta : TE} {p pos apos : Pos} {ds : List V} {gV : List V → List V → List V}
theorem pe_f (h : HasF X.prog X.w X.K X.mg X.base x k ps sp) (hr : Room k X.A) (ha : PA X (e :: es) t) (hg : Gl X x := by rfl) (hdb : (x == ("__debug__" : Str)) = false := by decide)
    (he : starEach (e :: es) X.env = (false, eval e X.env) :: starEach es X.env := by rfl) (hpl : (backTo pos (starEach es X.env)).any (·.1) = false := by rfl) : PE X (.Call (.Name x p) (e :: es) [] pos) (tCall sp [] E0 t) := by
  obtain ⟨fd, F, b⟩ := h.ok
  exact pe_call F hr hg h.at_ h.kp b .nil pass0 ha hdb he hpl
theorem pe_mm {pl : Sem Bool} (h : HasM X.prog X.w X.K X.mg X.base C m k ps sp) (ho : PE X o ta) (hr : Room k X.A) (ha : PA X (e :: es) t)
    (hst : starEach (e :: es) X.env = (false, eval e X.env) :: starEach es X.env := by rfl) (hpl : (backTo pos (starEach es X.env)).any (·.1) = false := by rfl)
    (ht : eval (.Call (.Attribute o m apos) (e :: es) [] pos) X.env = (do
      let ov ← eval o X.env
      standAt apos.atName
      let (f, first) ← holding [ov] (getMethod ov m pl)
      callWith pos f first (backTo pos (starEach (e :: es) X.env)) (backToKw pos (keywordEach [] X.env))) := by rfl) :
    PE X (.Call (.Attribute o m apos) (e :: es) [] pos) (tMeth (He.ga X.K C) m sp [] E0 ta t) := by
  obtain ⟨fd, F, b⟩ := h.ok
  exact pe_meth (pl := pl) ho h.cl h.me F hr b .nil pass0 ha hst hpl ht
theorem pe_mm0 {pl : Sem Bool} (h : HasM X.prog X.w X.K X.mg X.base C m k ps sp) (ho : PE X o ta) (hr : Room k X.A)
    (ht : eval (.Call (.Attribute o m apos) [] [] pos) X.env = (do
      let ov ← eval o X.env
      standAt apos.atName
      let (f, first) ← holding [ov] (getMethod ov m pl)
      callWith pos f first (backTo pos (starEach [] X.env)) (backToKw pos (keywordEach [] X.env))) := by rfl) :
    PE X (.Call (.Attribute o m apos) [] [] pos) (tMeth (He.ga X.K C) m sp [] E0 ta tNil) := by
  obtain ⟨fd, F, b⟩ := h.ok
  exact pe_meth0 (pl := pl) ho h.cl h.me F hr b .nil pass0 ht
theorem pe_mk (h : HasK X.prog X.w X.K X.mg X.base C k ps ds sp) (hr : Room (k + 1) X.A) (ha : PA X (e :: es) t) (hg : Gl X C := by rfl) (hdb : (C == ("__debug__" : Str)) = false := by decide)
    (he : starEach (e :: es) X.env = (false, eval e X.env) :: starEach es X.env := by rfl) (hpl : (backTo pos (starEach es X.env)).any (·.1) = false := by rfl) : PE X (.Call (.Name C p) (e :: es) [] pos) (tMake (He.ga X.K C) sp ds E0 t) := by
  obtain ⟨fd, us, F, b, v⟩ := h.ok
  exact pe_make h.mkr F hr hg h.at_ b v pass0 ha hdb he hpl
theorem pe_mkw (h : HasKw X.prog X.w X.K X.mg X.base C k n ps ks gV sp) (hr : Room (k + 1) X.A) (ha : PA X (e :: es) t) (hkw : PK X kws tk) (hg : Gl X C := by rfl)
    (hall : (backToKw pos (keywordEach kws X.env)).all (·.1.isSome) = true := by rfl) (hks : (backToKw pos (keywordEach kws X.env)).filterMap (·.1) = ks := by rfl) (hdb : (C == ("__debug__" : Str)) = false := by decide)
    (he : starEach (e :: es) X.env = (false, eval e X.env) :: starEach es X.env := by rfl) (hpl : ((backTo pos (starEach (e :: es) X.env)).any (·.1) || (backToKw pos (keywordEach kws X.env)).any (·.1.isNone)) = false := by rfl) :
    PE X (.Call (.Name C p) (e :: es) kws pos) (tMakeK (He.ga X.K C) n ks.length sp gV E0 t tk) := by
  obtain ⟨fd, g, F, b⟩ := h.ok
  exact pe_makeK h.mkr F hr hg h.at_ b pass0 ha hkw hall hks hdb he hpl
theorem pe_pp (h : HasP X.prog X.w X.K X.mg X.base m k sp) (hr : Room (k + 1) X.A) (ho : PE X o ta) (hab : attributeBase o m X.env (eval o X.env) = eval o X.env := by rfl) : PE X (.Attribute o m pos) (tProp (He.ga X.K "Ledger") sp [] E0 ta) := by
  obtain ⟨fd, F, b⟩ := h.ok
  exact pe_prop ho h.cl h.pr F hr b .nil pass0 hab
/-- a module's int -/
theorem pe_gi {i : Int} (h : ∃ t, X.mg x = some (.int i t)) (hg : Gl X x := by rfl) (hd : (x == ("__debug__" : Str)) = false := by decide) : PE X (.Name x pos) (tC (.int i)) := by
  obtain ⟨t, e⟩ := h
  exact pe_glob hg e ⟨t, rfl⟩ hd
theorem hu64 {A : Around} {k : Nat} (hr : Room k A) : A.units + 64 < cLine := by have := hr.un; omega
theorem hu65 {A : Around} {k : Nat} (hr : Room k A) : A.units + 65 < cLine := by have := hr.un; omega
end
section
variable {P : Program} {w : World} {K : PySem.W.Frag} {mg : Str → Option Value} {base : Heap}
/-- how a def of the module comes to keep its promise -/
theorem hasF {x qual : Str} {st : Stmt} {k : Nat} {N ps : List Str} {sp : Sp} (F : ∃ fd, FunD K x qual (defArgs st) (defBody st) (defScope st) [] [] (He.ga K x) fd) (m : mg x = some (.ref (He.ga K x))) (S : FnScope N ps (defScope st))
    (hb : ∀ (kV doc pm : Value) (an : Option Addr) (cdv ct : Value) (us : List Value), us.length = ps.length → bindArgs (PySem.W.fnOf x qual (defArgs st) (defBody st) (defScope st) .none kV doc pm an cdv ct) ⟨us, []⟩ = pure (ps.zip us))
    (len : ∀ vs H Q E, sp vs H Q E → vs.length = ps.length)
    (body : ∀ (f : Addr) (cdv : Value) (A : Around) (outer : List Env) (s : Shared) (H : Hp) (vs : List V) (Q : VK) (E : XK), Room k (A.deeper (envOfC qual (defScope st) s.heap.objs.size f cdv)) → sp vs H Q E →
      ∃ t, PSs (cxOf CX0 P w K mg base N qual (defScope st) f cdv A outer s H E).nox (defBody st) t ∧ t { nx := fun _ H' => Q .non H', rt := Q } (start N vs) H) : HasF P w K mg base x (k + 1) ps sp := by
  obtain ⟨fd, F⟩ := F
  refine ⟨⟨fd, F.ok S len fun cdv A outer s H vs Q E hr h => ?_, F.bindsN hb⟩, m, F.kp⟩
  obtain ⟨t, h1, h2⟩ := body _ cdv A outer s H vs Q E hr h
  exact ⟨t, h1.nox, h2⟩
theorem hasM {C x qual : Str} {st : Stmt} {k : Nat} {N ps : List Str} {sp : Sp} (F : ∃ fd, FunD K x qual (defArgs st) (defBody st) (defScope st) [] [] (He.ma K (He.ga K C) x) fd) (c : Cls K (He.ga K C)) (m : Meth K (He.ga K C) x (He.ma K (He.ga K C) x)) (S : FnScope N ps (defScope st))
    (hb : ∀ (kV doc pm : Value) (an : Option Addr) (cdv ct : Value) (us : List Value), us.length = ps.length → bindArgs (PySem.W.fnOf x qual (defArgs st) (defBody st) (defScope st) .none kV doc pm an cdv ct) ⟨us, []⟩ = pure (ps.zip us))
    (len : ∀ vs H Q E, sp vs H Q E → vs.length = ps.length)
    (body : ∀ (f : Addr) (cdv : Value) (A : Around) (outer : List Env) (s : Shared) (H : Hp) (vs : List V) (Q : VK) (E : XK), Room k (A.deeper (envOfC qual (defScope st) s.heap.objs.size f cdv)) → sp vs H Q E →
      ∃ t, PSs (cxOf CX0 P w K mg base N qual (defScope st) f cdv A outer s H E).nox (defBody st) t ∧ t { nx := fun _ H' => Q .non H', rt := Q } (start N vs) H) : HasM P w K mg base C x (k + 1) ps sp := by
  obtain ⟨fd, F⟩ := F
  refine ⟨⟨fd, F.ok S len fun cdv A outer s H vs Q E hr h => ?_, F.bindsN hb⟩, c, m⟩
  obtain ⟨t, h1, h2⟩ := body _ cdv A outer s H vs Q E hr h
  exact ⟨t, h1.nox, h2⟩
theorem hasP {x qual : Str} {st : Stmt} {k : Nat} {N : List Str} {sp : Sp} (F : ∃ fd, FunD K x qual (defArgs st) (defBody st) (defScope st) [] [] (gtAd K x) fd) (c : Cls K (He.ga K "Ledger")) (m : PropOf K (He.ga K "Ledger") x (prAd K x) (gtAd K x)) (S : FnScope N ["self"] (defScope st))
    (hb : ∀ (kV doc pm : Value) (an : Option Addr) (cdv ct : Value) (us : List Value), us.length = 1 → bindArgs (PySem.W.fnOf x qual (defArgs st) (defBody st) (defScope st) .none kV doc pm an cdv ct) ⟨us, []⟩ = pure ((["self"] : List Str).zip us))
    (len : ∀ vs H Q E, sp vs H Q E → vs.length = 1)
    (body : ∀ (f : Addr) (cdv : Value) (A : Around) (outer : List Env) (s : Shared) (H : Hp) (vs : List V) (Q : VK) (E : XK), Room k (A.deeper (envOfC qual (defScope st) s.heap.objs.size f cdv)) → sp vs H Q E →
      ∃ t, PSs (cxOf CX0 P w K mg base N qual (defScope st) f cdv A outer s H E).nox (defBody st) t ∧ t { nx := fun _ H' => Q .non H', rt := Q } (start N vs) H) : HasP P w K mg base x (k + 1) sp := by
  obtain ⟨fd, F⟩ := F
  refine ⟨⟨fd, F.ok S len fun cdv A outer s H vs Q E hr h => ?_, F.bindsN hb⟩, c, m⟩
  obtain ⟨t, h1, h2⟩ := body _ cdv A outer s H vs Q E hr h
  exact ⟨t, h1.nox, h2⟩
end
end Tk
/-! The data: what stands in the heap, and how it is read. -/
namespace Tk
open PySem PySem.Spec PyProof.Rows L2
abbrev Ex := Evl.Ex
/-- a tuple that stays: tracked, or written -/
def Tp (K : PySem.W.Frag) (H : Hp) (a : Addr) (xs : List V) : Prop := H a = some (.tup xs) ∨ ∀ H0 : Hp, SqT K H0 a xs
theorem Tp.t {K : PySem.W.Frag} {H : Hp} {a : Addr} {xs : List V} (h : Tp K H a xs) : SqT K H a xs := h.elim SqT.of fun h => h H
theorem Tp.new {K : PySem.W.Frag} {H : Hp} {a : Addr} {xs : List V} : Tp K (upd H a (.tup xs)) a xs := .inl upd_same
/-- what every def keeps: the tuples -/
def Ty (H H' : Hp) : Prop := ∀ a xs, H a = some (.tup xs) → H' a = some (.tup xs)
theorem Ty.refl {H : Hp} : Ty H H := fun _ _ h => h
theorem Ty.trans {H H1 H2 : Hp} (a : Ty H H1) (b : Ty H1 H2) : Ty H H2 := fun x o h => b x o (a x o h)
theorem ex_ty {H H' : Hp} (e : Ex H H') : Ty H H' := fun a xs h => e a _ h
theorem Ty.upd {H : Hp} {a : Addr} {o u : HO} (h : H a = some o) (n : ∀ xs, o ≠ .tup xs) : Ty H (upd H a u) := fun b xs e => by
  rw [upd_ne fun z => by rw [z, h] at e; exact n xs (Option.some.inj e)]
  exact e
theorem Tp.ty {K : PySem.W.Frag} {H H' : Hp} {a : Addr} {xs : List V} (e : Ty H H') (h : Tp K H a xs) : Tp K H' a xs := h.imp (e a xs) id
theorem Tp.ex {K : PySem.W.Frag} {H H' : Hp} {a : Addr} {xs : List V} (e : Ex H H') (h : Tp K H a xs) : Tp K H' a xs := h.ty (ex_ty e)
/-! ### values without a change of the heap -/
section
variable {K : PySem.W.Frag} {mg : Str → Option Value} {σ : L2.St} {H : Hp} {ta tb te tc : TE} {t u : TT} {p : Addr} {xs : List V} {i j : Int} {v x y : V} {b c : Bool}
theorem v_ix (h : Val ta σ H (.ref p)) (hi : Val tb σ H (.int i)) (ht : Tp K H p xs) (hx : atI xs i = some v) : Val (tOp (rIxT K) ta tb) σ H v :=
  val_op h hi fun Q q => ⟨p, xs, i, v, rfl, rfl, ht.t, hx, q⟩
theorem v_ixL (h : Val ta σ H (.ref p)) (hi : Val tb σ H (.int i)) (ht : H p = some (.lst xs)) (hx : atI xs i = some v) : Val (tOp (rIxL K) ta tb) σ H v :=
  val_op h hi fun Q q => ⟨p, xs, i, v, rfl, rfl, SqL.of ht, hx, q⟩
theorem v_I0 {g : Int → Int → V} (h : Val ta σ H (.int i)) (hi : Val tb σ H (.int j)) : Val (tOp (rI0 g) ta tb) σ H (g i j) := val_op h hi fun Q q => ⟨i, j, rfl, rfl, q⟩
theorem v_I {C : Int → Int → Prop} {g : Int → Int → V} (h : Val ta σ H (.int i)) (hi : Val tb σ H (.int j)) (hc : C i j) : Val (tOp (rI C g) ta tb) σ H (g i j) := val_op h hi fun Q q => ⟨i, j, rfl, rfl, hc, q⟩
theorem v_eq (h : Val ta σ H x) (hi : Val tb σ H y) (hs : scal x y = true) : Val (tOp rEq ta tb) σ H (.bl (decide (x = y))) := val_op h hi fun Q q => ⟨hs, q⟩
theorem v_ne (h : Val ta σ H x) (hi : Val tb σ H y) (hs : scal x y = true) : Val (tOp rNe ta tb) σ H (.bl (!decide (x = y))) := val_op h hi fun Q q => ⟨hs, q⟩
theorem v_isN (h : Val ta σ H x) : Val (tOp (fun x y H Q => y = V.non ∧ Q (V.bl (decide (x = V.non))) H) ta (tC .non)) σ H (.bl (decide (x = .non))) := val_op h val_c fun Q q => ⟨rfl, q⟩
theorem v_notN (h : Val ta σ H x) : Val (tOp (fun x y H Q => y = V.non ∧ Q (V.bl (!decide (x = V.non))) H) ta (tC .non)) σ H (.bl (!decide (x = .non))) := val_op h val_c fun Q q => ⟨rfl, q⟩
theorem v_int1 (h : Val ta σ H (.int i)) : Val (tCB (fun xs H Q => (∃ i, xs = [V.int i] ∧ Q (V.int i) H) ∨ ∃ k, xs = [V.bl k] ∧ Q (V.int (if k then 1 else 0)) H) (tCons ta tNil)) σ H (.int i) := fun Q q => h _ (.inl ⟨i, rfl, q⟩)
theorem v_max2 (h : Val ta σ H (.int i)) (hi : Val tb σ H (.int j)) : Val (tCB (fun xs H Q => ∃ i j, xs = [V.int i, V.int j] ∧ Q (V.int (if j > i then j else i)) H) (tCons ta (tCons tb tNil))) σ H (.int (if j > i then j else i)) := fun Q q => h _ (hi _ ⟨i, j, rfl, q⟩)
theorem v_min2 (h : Val ta σ H (.int i)) (hi : Val tb σ H (.int j)) : Val (tCB (fun xs H Q => ∃ i j, xs = [V.int i, V.int j] ∧ Q (V.int (if j < i then j else i)) H) (tCons ta (tCons tb tNil))) σ H (.int (if j < i then j else i)) := fun Q q => h _ (hi _ ⟨i, j, rfl, q⟩)
theorem v_andV (h1 : Val ta σ H (.bl b)) (h2 : b = true → Val tb σ H (.bl c)) : Val (tAndV ta tb) σ H (.bl (b && c)) := fun Q q => h1 _ ⟨b, rfl, by
  cases b with
  | true => exact h2 rfl _ q
  | false => exact q⟩
theorem v_orV (h1 : Val ta σ H (.bl b)) (h2 : b = false → Val tb σ H (.bl c)) : Val (tOrV ta tb) σ H (.bl (b || c)) := fun Q q => h1 _ ⟨b, rfl, by
  cases b with
  | true => exact q
  | false => exact h2 rfl _ q⟩
theorem v_notV (h1 : Val ta σ H (.bl b)) : Val (tNotV ta) σ H (.bl (!b)) := fun Q q => h1 _ ⟨b, rfl, q⟩
theorem v_if (h : Ans t σ H b) (h1 : b = true → Val ta σ H v) (h2 : b = false → Val tb σ H v) : Val (tIf t ta tb) σ H v := fun Q q => h _ (by
  cases b with
  | true => exact h1 rfl _ q
  | false => exact h2 rfl _ q)
theorem v_len (h : Val ta σ H (.ref p)) (ht : SqL K H p xs ∨ SqT K H p xs) : Val (tCB (fun ys H Q => ∃ p zs, ys = [V.ref p] ∧ (SqL K H p zs ∨ SqT K H p zs) ∧ Q (V.int zs.length) H) (tCons ta tNil)) σ H (.int xs.length) := fun Q q => h _ ⟨p, xs, rfl, ht, q⟩
theorem go {Q : VK} (h : Val te σ H v) (q : Q v H) : te σ H Q := h Q q
theorem goA {Q : Bool → Hp → Prop} (h : Ans t σ H b) (q : Q b H) : t σ H Q := h Q q
theorem v_is (h : Val te σ H x) (e : x = y) : Val te σ H y := e ▸ h
/-! tests -/
theorem a_val (h : Val te σ H (.bl b)) : Ans (tTest te) σ H b := fun Q q => h _ ⟨b, rfl, q⟩
theorem a_B (h : Val te σ H (.bl b)) : Ans (tB te) σ H b := fun Q q => h _ ⟨b, rfl, q⟩
theorem a_or2 (h1 : Ans t σ H b) (h2 : b = false → Ans u σ H c) : Ans (tOr t u) σ H (b || c) := fun Q q => h1 _ (by
  cases b with
  | true => exact q
  | false => exact h2 rfl _ q)
theorem a_and2 (h1 : Ans t σ H b) (h2 : b = true → Ans u σ H c) : Ans (tAnd t u) σ H (b && c) := fun Q q => h1 _ (by
  cases b with
  | true => exact h2 rfl _ q
  | false => exact q)
theorem a_not (h1 : Ans t σ H b) : Ans (tNot t) σ H (!b) := fun Q q => h1 _ q
/-- an if whose answer is open -/
theorem st_if {D : Ends} {ts tw : TS} (h : Ans t σ H b) (h1 : b = true → ts D σ H) (h2 : b = false → tw D σ H) : tIfS t ts tw D σ H := h _ (by
  cases b with
  | true => exact h1 rfl
  | false => exact h2 rfl)
/-- an if whose answer is open and whose test lays new things -/
theorem st_ifN {D : Ends} {ts tw : TS} (h : ∀ Q : Bool → Hp → Prop, (∀ b H', Q b H') → t σ H Q) (h1 : ∀ H', ts D σ H') (h2 : ∀ H', tw D σ H') : tIfS t ts tw D σ H := h _ fun b H' => by
  cases b with
  | true => exact h1 H'
  | false => exact h2 H'
end
section
variable {X : Cx} {K : PySem.W.Frag} {e o : Expr} {es : List Expr} {ta : TE} {t : TA} {f C m : Str} {pos apos : Pos} {k : Nat} {ps : List Str} {sp : Sp}
theorem ix_tupK (h : X.K = K) : IxR X (rIxT K) := h ▸ ix_tup
theorem ix_listK (h : X.K = K) : IxR X (rIxL K) := h ▸ ix_list
theorem pe_fldK (h : X.K = K) (he : PE X e ta) (hb : attributeBase e f X.env (eval e X.env) = eval e X.env) : PE X (.Attribute e f pos) (tFld K ta f) := h ▸ pe_fld he hb
theorem pe_mmK {pl : Sem Bool} (hK : X.K = K) (h : HasM X.prog X.w K X.mg X.base C m k ps sp) (ho : PE X o ta) (hr : Room k X.A) (ha : PA X (e :: es) t)
    (hst : starEach (e :: es) X.env = (false, eval e X.env) :: starEach es X.env := by rfl) (hpl : (backTo pos (starEach es X.env)).any (·.1) = false := by rfl)
    (ht : eval (.Call (.Attribute o m apos) (e :: es) [] pos) X.env = (do
      let ov ← eval o X.env
      standAt apos.atName
      let (f, first) ← holding [ov] (getMethod ov m pl)
      callWith pos f first (backTo pos (starEach (e :: es) X.env)) (backToKw pos (keywordEach [] X.env))) := by rfl) :
    PE X (.Call (.Attribute o m apos) (e :: es) [] pos) (tMeth (He.ga K C) m sp [] E0 ta t) := by
  subst hK
  exact pe_mm (pl := pl) h ho hr ha hst hpl ht
end
/-! ### statements, what follows in its own form -/
section
variable {K : PySem.W.Frag} {σ : L2.St} {H : Hp} {te ta : TE} {t : TT} {u ts tw : TS} {D : Ends} {i j k l m : Nat} {v v1 v2 v3 v4 v5 : V} {a : Addr} {Q : L2.St → Hp → Prop} {b : Bool} {g : TG}
theorem q_asg (h : te σ H fun v H' => u D (σ.set i (some v)) H') : tSeq (tAsg te (gName i)) u D σ H := h
theorem q_asgG (h : te σ H fun v H' => g v σ H' (u D)) : tSeq (tAsg te g) u D σ H := h
theorem s_asg (h : te σ H fun v H' => D.nx (σ.set i (some v)) H') : tAsg te (gName i) D σ H := h
theorem q_drop (h : te σ H fun _ H' => u D σ H') : tSeq (tDrop te) u D σ H := h
theorem s_drop (h : te σ H fun _ H' => D.nx σ H') : tDrop te D σ H := h
theorem s_ret (h : te σ H D.rt) : tRet te D σ H := h
theorem q_if (h : t σ H fun c H1 => if c = true then ts { D with nx := u D } σ H1 else tw { D with nx := u D } σ H1) : tSeq (tIfS t ts tw) u D σ H := h
theorem s_if (h : t σ H fun c H1 => if c = true then ts D σ H1 else tw D σ H1) : tIfS t ts tw D σ H := h
theorem q_set (h : Val te σ H v) (q : u D (σ.set i (some v)) H) : tSeq (tAsg te (gName i)) u D σ H := h _ q
theorem q_ifA (h : Ans t σ H b) (h1 : b = true → ts { D with nx := u D } σ H) (h2 : b = false → tw { D with nx := u D } σ H) : tSeq (tIfS t ts tw) u D σ H := st_if (D := { D with nx := u D }) h h1 h2
theorem q_for {wi : TI} {tb : TS} (h : tFor wi g tb { D with nx := u D } σ H) : tSeq (tFor wi g tb) u D σ H := h
theorem n_next (h : u D σ H) : tNext { D with nx := u D } σ H := h
theorem if_t {A B : Prop} (h : A) : if true = true then A else B := by rw [if_pos rfl]; exact h
theorem if_f {A B : Prop} (h : B) : if false = true then A else B := by rw [if_neg Bool.false_ne_true]; exact h
theorem if_b {A B : Prop} {b : Bool} (h1 : b = true → A) (h2 : b = false → B) : if b = true then A else B := by
  cases b with
  | true => exact if_t (h1 rfl)
  | false => exact if_f (h2 rfl)
theorem g_tup2 (h : SqT K H a [v1, v2]) (q : Q ((σ.set i (some v1)).set j (some v2)) H) : gTup K 2 (gCons (gName i) (gCons (gName j) gNil)) (.ref a) σ H Q :=
  ⟨a, _, rfl, h, rfl, _, _, rfl, _, _, rfl, rfl, q⟩
theorem g_tup3 (h : SqT K H a [v1, v2, v3]) (q : Q (((σ.set i (some v1)).set j (some v2)).set k (some v3)) H) : gTup K 3 (gCons (gName i) (gCons (gName j) (gCons (gName k) gNil))) (.ref a) σ H Q :=
  ⟨a, _, rfl, h, rfl, _, _, rfl, _, _, rfl, _, _, rfl, rfl, q⟩
theorem g_tup4 (h : SqT K H a [v1, v2, v3, v4]) (q : Q ((((σ.set i (some v1)).set j (some v2)).set k (some v3)).set l (some v4)) H) : gTup K 4 (gCons (gName i) (gCons (gName j) (gCons (gName k) (gCons (gName l) gNil)))) (.ref a) σ H Q :=
  ⟨a, _, rfl, h, rfl, _, _, rfl, _, _, rfl, _, _, rfl, _, _, rfl, rfl, q⟩
theorem g_tup5 (h : SqT K H a [v1, v2, v3, v4, v5]) (q : Q (((((σ.set i (some v1)).set j (some v2)).set k (some v3)).set l (some v4)).set m (some v5)) H) : gTup K 5 (gCons (gName i) (gCons (gName j) (gCons (gName k) (gCons (gName l) (gCons (gName m) gNil))))) (.ref a) σ H Q :=
  ⟨a, _, rfl, h, rfl, _, _, rfl, _, _, rfl, _, _, rfl, _, _, rfl, _, _, rfl, rfl, q⟩
/-! arguments -/
def ValA (ta : TA) (σ : L2.St) (H : Hp) (vs : List V) : Prop := ∀ Q : List V → Hp → Prop, Q vs H → ta σ H Q
theorem va_nil : ValA tNil σ H [] := fun _ q => q
theorem va_cons {t : TA} {vs : List V} (h : Val te σ H v) (h2 : ValA t σ H vs) : ValA (tCons te t) σ H (v :: vs) := fun _ q => h _ (h2 _ q)
theorem q_call {t : TA} {vs : List V} {sp : Sp} {E : XK} {R : VK} (h : ValA t σ H vs) (q : sp vs H R E) : tCall sp [] E t σ H R := h _ (by
  show sp (vs ++ []) H R E
  rw [List.append_nil]
  exact q)
theorem q_meth {t : TA} {vs : List V} {sp : Sp} {E : XK} {R : VK} {C dx : Addr} {f : Str} {fs : List (Str × V)} (h1 : Val te σ H (.ref a)) (h2 : H a = some (.ins C dx fs)) (h3 : fs.lookup f = none) (h : ValA t σ H vs) (q : sp (.ref a :: vs) H R E) : tMeth C f sp [] E te t σ H R :=
  h1 _ ⟨a, dx, fs, rfl, h2, h3, h _ (by
    show sp (.ref a :: (vs ++ [])) H R E
    rw [List.append_nil]
    exact q)⟩
theorem q_prop {sp : Sp} {E : XK} {R : VK} {C dx : Addr} {fs : List (Str × V)} (h1 : Val te σ H (.ref a)) (h2 : H a = some (.ins C dx fs)) (q : sp [.ref a] H R E) : tProp C sp [] E te σ H R := h1 _ ⟨a, dx, fs, rfl, h2, q⟩
theorem q_tup {t : TA} {vs : List V} {R : VK} (h : ValA t σ H vs) (hl : vs.length ≤ 1000) (q : ∀ p, H p = none → R (.ref p) (upd H p (.tup vs))) : tTup t σ H R := h _ ⟨Nat.le_trans hl (by decide), q⟩
theorem q_lst {t : TA} {vs : List V} {R : VK} (h : ValA t σ H vs) (hl : vs.length ≤ 1000) (q : ∀ p, H p = none → R (.ref p) (upd H p (.lst vs))) : tLst t σ H R := h _ ⟨Nat.le_trans hl (by decide), q⟩
theorem q_cons {t : TA} {R : List V → Hp → Prop} (h : Val te σ H v) (q : t σ H fun vs H1 => R (v :: vs) H1) : tCons te t σ H R := h _ q
theorem q_consG {t : TA} {R : List V → Hp → Prop} (h : te σ H fun x H1 => t σ H1 fun vs H2 => R (x :: vs) H2) : tCons te t σ H R := h
theorem q_nil {R : List V → Hp → Prop} (q : R [] H) : tNil σ H R := q
theorem q_op {r : R2} {tb : TE} {R : VK} {x y : V} (h : Val te σ H x) (hb : Val tb σ H y) (q : r x y H R) : tOp r te tb σ H R := h _ (hb _ q)
theorem q_opG {r : R2} {tb : TE} {R : VK} (h : te σ H fun x H1 => tb σ H1 fun y H2 => r x y H2 R) : tOp r te tb σ H R := h
theorem q_cb {t : TA} {r : List V → Hp → VK → Prop} {R : VK} (h : t σ H fun vs H1 => r vs H1 R) : tCB r t σ H R := h
theorem q_andV {tb : TE} {R : VK} (h : te σ H fun x H1 => ∃ c, x = .bl c ∧ if c = true then tb σ H1 R else R (.bl false) H1) : tAndV te tb σ H R := h
theorem q_lstG {t : TA} {R : VK} (h : t σ H fun xs H1 => xs.length ≤ sizeLine ∧ ∀ p, H1 p = none → R (.ref p) (upd H1 p (.lst xs))) : tLst t σ H R := h
theorem q_tupG {t : TA} {R : VK} (h : t σ H fun xs H1 => xs.length ≤ sizeLine ∧ ∀ p, H1 p = none → R (.ref p) (upd H1 p (.tup xs))) : tTup t σ H R := h
/-! loops -/
theorem q_forT {tl : TE} {tb : TS} {xs : List V} (hl : Val tl σ H (.ref a)) (Pv : Nat → L2.St → Hp → Prop) (h0 : Pv 0 σ H) (hk : ∀ i σ' H', i ≤ xs.length → Pv i σ' H' → SqT K H' a xs)
    (hs : ∀ i x σ' H', xs[i]? = some x → Pv i σ' H' → tb { D with nx := Pv (i + 1), ct := Pv (i + 1), bk := u D } (σ'.set j (some x)) H') (hd : ∀ σ' H', Pv xs.length σ' H' → u D σ' H') : tSeq (tFor (iTup K tl) (gName j) tb) u D σ H :=
  hl _ ⟨a, rfl, ⟨xs, hk 0 σ H (Nat.zero_le _) h0⟩, for_tup (D := { D with nx := u D }) Pv h0 hk hs hd⟩
theorem q_forL {tl : TE} {tb : TS} {xs : List V} (hl : Val tl σ H (.ref a)) (Pv : Nat → L2.St → Hp → Prop) (h0 : Pv 0 σ H) (hk : ∀ i σ' H', i ≤ xs.length → Pv i σ' H' → SqL K H' a xs)
    (hs : ∀ i x σ' H', xs[i]? = some x → Pv i σ' H' → tb { D with nx := Pv (i + 1), ct := Pv (i + 1), bk := u D } (σ'.set j (some x)) H') (hd : ∀ σ' H', Pv xs.length σ' H' → u D σ' H') : tSeq (tFor (iList K tl) (gName j) tb) u D σ H :=
  hl _ ⟨a, rfl, ⟨xs, hk 0 σ H (Nat.zero_le _) h0⟩, for_list (D := { D with nx := u D }) Pv h0 hk hs hd⟩
theorem q_forR {ta : TA} {tb : TS} {n : Int} (hl : ValA ta σ H [.int n]) (hn : 0 ≤ n ∧ n ≤ 100000) (Pv : Nat → L2.St → Hp → Prop) (h0 : Pv 0 σ H)
    (hs : ∀ (i : Nat) σ' H', (i : Int) < n → Pv i σ' H' → tb { D with nx := Pv (i + 1), ct := Pv (i + 1), bk := u D } (σ'.set j (some (.int (i : Int)))) H') (hd : ∀ σ' H', Pv n.toNat σ' H' → u D σ' H') : tSeq (tFor (iRng1 ta) (gName j) tb) u D σ H :=
  hl _ ⟨n, rfl, by omega, by omega, for_range (D := { D with nx := u D }) (lo := 0) (n := n.toNat) Pv h0 (fun i σ' H' hi p => by
    have e0 : (0 : Int) + (i : Int) = (i : Int) := Int.zero_add _
    show tb { D with nx := Pv (i + 1), ct := Pv (i + 1), bk := u D } (σ'.set j (some (.int ((0 : Int) + (i : Int))))) H'
    rw [e0]
    exact hs i σ' H' (by omega) p) hd⟩
end
/-! ### the objects' attributes -/
def vF (oa sa : Addr) (m sp le : Int) (pv sv : V) : List (Str × V) := [("opening", .ref oa), ("money", .int m), ("sums", .ref sa), ("splices", .int sp), ("least", .int le), ("published", pv), ("since", sv)]
def bF (pd vd rd el dl : Addr) (he bu : Int) : List (Str × V) := [("purses", .ref pd), ("vaults", .ref vd), ("receipts", .ref rd), ("ended", .ref el), ("done", .ref dl), ("height", .int he), ("burnt", .int bu)]
def lF (b : Addr) (r : Int) (w : Addr) : List (Str × V) := [("book", .ref b), ("room", .int r), ("waiting", .ref w)]
section
variable {oa sa pd vd rd el dl b w : Addr} {m sp le he bu r z : Int} {pv sv v : V}
theorem vF_opening : (vF oa sa m sp le pv sv).lookup ("opening" : Str) = some (.ref oa) := by kernel_rfl
theorem vF_money : (vF oa sa m sp le pv sv).lookup ("money" : Str) = some (.int m) := by kernel_rfl
theorem vF_sums : (vF oa sa m sp le pv sv).lookup ("sums" : Str) = some (.ref sa) := by kernel_rfl
theorem vF_splices : (vF oa sa m sp le pv sv).lookup ("splices" : Str) = some (.int sp) := by kernel_rfl
theorem vF_least : (vF oa sa m sp le pv sv).lookup ("least" : Str) = some (.int le) := by kernel_rfl
theorem vF_published : (vF oa sa m sp le pv sv).lookup ("published" : Str) = some pv := by kernel_rfl
theorem vF_since : (vF oa sa m sp le pv sv).lookup ("since" : Str) = some sv := by kernel_rfl
theorem vF_made {oa sa : Addr} : putF "since" sv (putF "published" pv (putF "least" (.int le) (putF "splices" (.int sp) (putF "sums" (.ref sa) (putF "money" (.int m) (putF "opening" (.ref oa) [])))))) = vF oa sa m sp le pv sv := by kernel_rfl
theorem vF_put_money : putF "money" (.int z) (vF oa sa m sp le pv sv) = vF oa sa z sp le pv sv := by kernel_rfl
theorem vF_put_sums {a : Addr} : putF "sums" (.ref a) (vF oa sa m sp le pv sv) = vF oa a m sp le pv sv := by kernel_rfl
theorem vF_put_splices : putF "splices" (.int z) (vF oa sa m sp le pv sv) = vF oa sa m z le pv sv := by kernel_rfl
theorem vF_put_least : putF "least" (.int z) (vF oa sa m sp le pv sv) = vF oa sa m sp z pv sv := by kernel_rfl
theorem vF_put_published : putF "published" v (vF oa sa m sp le pv sv) = vF oa sa m sp le v sv := by kernel_rfl
theorem vF_put_since : putF "since" v (vF oa sa m sp le pv sv) = vF oa sa m sp le pv v := by kernel_rfl
theorem bF_purses : (bF pd vd rd el dl he bu).lookup ("purses" : Str) = some (.ref pd) := by kernel_rfl
theorem bF_vaults : (bF pd vd rd el dl he bu).lookup ("vaults" : Str) = some (.ref vd) := by kernel_rfl
theorem bF_receipts : (bF pd vd rd el dl he bu).lookup ("receipts" : Str) = some (.ref rd) := by kernel_rfl
theorem bF_ended : (bF pd vd rd el dl he bu).lookup ("ended" : Str) = some (.ref el) := by kernel_rfl
theorem bF_done : (bF pd vd rd el dl he bu).lookup ("done" : Str) = some (.ref dl) := by kernel_rfl
theorem bF_height : (bF pd vd rd el dl he bu).lookup ("height" : Str) = some (.int he) := by kernel_rfl
theorem bF_burnt : (bF pd vd rd el dl he bu).lookup ("burnt" : Str) = some (.int bu) := by kernel_rfl
theorem bF_made : putF "burnt" (.int bu) (putF "height" (.int he) (putF "done" (.ref dl) (putF "ended" (.ref el) (putF "receipts" (.ref rd) (putF "vaults" (.ref vd) (putF "purses" (.ref pd) [])))))) = bF pd vd rd el dl he bu := by kernel_rfl
theorem bF_put_height : putF "height" (.int z) (bF pd vd rd el dl he bu) = bF pd vd rd el dl z bu := by kernel_rfl
theorem bF_put_burnt : putF "burnt" (.int z) (bF pd vd rd el dl he bu) = bF pd vd rd el dl he z := by kernel_rfl
theorem bF_no_purse : (bF pd vd rd el dl he bu).lookup ("purse" : Str) = none := by kernel_rfl
theorem bF_no_give : (bF pd vd rd el dl he bu).lookup ("give" : Str) = none := by kernel_rfl
theorem bF_no_sum : (bF pd vd rd el dl he bu).lookup ("sum_of_money" : Str) = none := by kernel_rfl
theorem lF_book : (lF b r w).lookup ("book" : Str) = some (.ref b) := by kernel_rfl
theorem lF_room : (lF b r w).lookup ("room" : Str) = some (.int r) := by kernel_rfl
theorem lF_waiting : (lF b r w).lookup ("waiting" : Str) = some (.ref w) := by kernel_rfl
theorem lF_made : putF "waiting" (.ref w) (putF "room" (.int r) (putF "book" (.ref b) [])) = lF b r w := by kernel_rfl
theorem lF_no_channel : (lF b r w).lookup ("channel" : Str) = none := by kernel_rfl
theorem lF_no_offer : (lF b r w).lookup ("offer" : Str) = none := by kernel_rfl
theorem lF_no_best : (lF b r w).lookup ("best" : Str) = none := by kernel_rfl
theorem lF_no_block : (lF b r w).lookup ("block" : Str) = none := by kernel_rfl
end
/-! ### the data -/
structure Op where
  (ch a b fi si dl un : Int)
def opV (o : Op) : List V := [.int o.ch, .int o.a, .int o.b, .int o.fi, .int o.si, .int o.dl, .int o.un]
structure Su where
  (s0 s1 s2 s3 : Int)
def suV (s : Su) : List V := [.int s.s0, .int s.s1, .int s.s2, .int s.s3]
structure Lk where
  (key amt dl : Int) (ff : Bool)
def lkV (l : Lk) : List V := [.int l.key, .int l.amt, .int l.dl, .bl l.ff]
structure Sd where
  (ch num fst snd : Int) (locks : List Lk) (fin : Bool)
structure Vd where
  (op : Op) (money : Int) (sums : Su) (spl least : Int) (pub : Option Sd) (since : Option Int)
structure Sp8 where
  (ch ix si un i1 o1 i2 o2 : Int)
def spV (s : Sp8) : List V := [.int s.ch, .int s.ix, .int s.si, .int s.un, .int s.i1, .int s.o1, .int s.i2, .int s.o2]
inductive Act where
  | pay (to_ amt : Int) | opn (o : Op) | pub (s : Sd) | set_ (ch : Int) | spl (s : Sp8) | rev (sec : Int)
structure Thing where
  (act : Act) (hands : List Int) (payer fee tag : Int)
/-- a list of locks, item by item -/
def LocksAt (K : PySem.W.Frag) (H : Hp) (as : List Addr) (ls : List Lk) : Prop := as.length = ls.length ∧ ∀ (i : Nat) a l, as[i]? = some a → ls[i]? = some l → Tp K H a (lkV l)
structure StateAt (K : PySem.W.Frag) (H : Hp) (a : Addr) (s : Sd) : Prop where
  at_ : ∃ (la : Addr) (as : List Addr), Tp K H a [.int s.ch, .int s.num, .int s.fst, .int s.snd, .ref la, .bl s.fin] ∧ Tp K H la (as.map V.ref) ∧ LocksAt K H as s.locks
def PubAt (K : PySem.W.Frag) (H : Hp) (v : V) : Option Sd → Prop
  | none => v = .non
  | some s => ∃ a, v = .ref a ∧ StateAt K H a s
def sinV : Option Int → V
  | none => .non
  | some i => .int i
structure VaultAt (K : PySem.W.Frag) (H : Hp) (v : Addr) (d : Vd) : Prop where
  at_ : ∃ (dx oa sa : Addr) (pv : V), H v = some (.ins (He.ga K "Vault") dx (vF oa sa d.money d.spl d.least pv (sinV d.since))) ∧ Tp K H oa (opV d.op) ∧ Tp K H sa (suV d.sums) ∧ PubAt K H pv d.pub
def ActAt (K : PySem.W.Frag) (H : Hp) (a : Addr) : Act → Prop
  | .pay t m => Tp K H a [.str "pay", .int t, .int m]
  | .opn o => ∃ b, Tp K H a [.str "open", .ref b] ∧ Tp K H b (opV o)
  | .pub s => ∃ b, Tp K H a [.str "publish", .ref b] ∧ StateAt K H b s
  | .set_ c => Tp K H a [.str "settle", .int c]
  | .spl s => ∃ b, Tp K H a [.str "splice", .ref b] ∧ Tp K H b (spV s)
  | .rev x => Tp K H a [.str "reveal", .int x]
structure ThingAt (K : PySem.W.Frag) (H : Hp) (a : Addr) (t : Thing) : Prop where
  at_ : ∃ (aa ha : Addr), Tp K H a [.ref aa, .ref ha, .int t.payer, .int t.fee, .int t.tag] ∧ ActAt K H aa t.act ∧ Tp K H ha (t.hands.map V.int)
section
variable {K : PySem.W.Frag} {H H' : Hp} {a : Addr} {v : V}
theorem LocksAt.ty {as : List Addr} {ls : List Lk} (e : Ty H H') (h : LocksAt K H as ls) : LocksAt K H' as ls := ⟨h.1, fun i a l h1 h2 => (h.2 i a l h1 h2).ty e⟩
theorem StateAt.ty {s : Sd} (e : Ty H H') (h : StateAt K H a s) : StateAt K H' a s := by
  obtain ⟨la, as, h1, h2, h3⟩ := h.at_
  exact ⟨la, as, h1.ty e, h2.ty e, h3.ty e⟩
theorem PubAt.ty {s : Option Sd} (e : Ty H H') (h : PubAt K H v s) : PubAt K H' v s := by
  cases s with
  | none => exact h
  | some s =>
    obtain ⟨a, h1, h2⟩ := h
    exact ⟨a, h1, h2.ty e⟩
theorem ActAt.ty {t : Act} (e : Ty H H') (h : ActAt K H a t) : ActAt K H' a t := by
  cases t with
  | pay t m => exact Tp.ty e h
  | opn o =>
    obtain ⟨b, h1, h2⟩ := h
    exact ⟨b, h1.ty e, h2.ty e⟩
  | pub s =>
    obtain ⟨b, h1, h2⟩ := h
    exact ⟨b, h1.ty e, h2.ty e⟩
  | set_ c => exact Tp.ty e h
  | spl s =>
    obtain ⟨b, h1, h2⟩ := h
    exact ⟨b, h1.ty e, h2.ty e⟩
  | rev x => exact Tp.ty e h
theorem ThingAt.ty {t : Thing} (e : Ty H H') (h : ThingAt K H a t) : ThingAt K H' a t := by
  obtain ⟨aa, ha, h1, h2, h3⟩ := h.at_
  exact ⟨aa, ha, h1.ty e, h2.ty e, h3.ty e⟩
/-- a vault stays where its own object and the tuples stay -/
theorem VaultAt.keep {d : Vd} (e : Ty H H') (k : ∀ o, H a = some o → H' a = some o) (h : VaultAt K H a d) : VaultAt K H' a d := by
  obtain ⟨dx, oa, sa, pv, h1, h2, h3, h4⟩ := h.at_
  exact ⟨dx, oa, sa, pv, k _ h1, h2.ty e, h3.ty e, h4.ty e⟩
theorem VaultAt.ex {d : Vd} (e : Ex H H') (h : VaultAt K H a d) : VaultAt K H' a d := h.keep (ex_ty e) fun o => e a o
end
/-! ### attributes read -/
section
variable {K : PySem.W.Frag} {mg : Str → Option Value} {σ : L2.St} {H : Hp} {ta : TE} {p dx oa sa pd vd rd el dl b w : Addr} {m sp le he bu r : Int} {pv sv : V}
theorem f_Vault_opening (T : Txt K mg) (h : Val ta σ H (.ref p)) (ho : H p = some (.ins (He.ga K "Vault") dx (vF oa sa m sp le pv sv))) : Val (tFld K ta ("opening" : Str)) σ H (.ref oa) := val_fld h ho T.c_Vault T.n_Vault_opening vF_opening
theorem f_Vault_money (T : Txt K mg) (h : Val ta σ H (.ref p)) (ho : H p = some (.ins (He.ga K "Vault") dx (vF oa sa m sp le pv sv))) : Val (tFld K ta ("money" : Str)) σ H (.int m) := val_fld h ho T.c_Vault T.n_Vault_money vF_money
theorem f_Vault_sums (T : Txt K mg) (h : Val ta σ H (.ref p)) (ho : H p = some (.ins (He.ga K "Vault") dx (vF oa sa m sp le pv sv))) : Val (tFld K ta ("sums" : Str)) σ H (.ref sa) := val_fld h ho T.c_Vault T.n_Vault_sums vF_sums
theorem f_Vault_splices (T : Txt K mg) (h : Val ta σ H (.ref p)) (ho : H p = some (.ins (He.ga K "Vault") dx (vF oa sa m sp le pv sv))) : Val (tFld K ta ("splices" : Str)) σ H (.int sp) := val_fld h ho T.c_Vault T.n_Vault_splices vF_splices
theorem f_Vault_least (T : Txt K mg) (h : Val ta σ H (.ref p)) (ho : H p = some (.ins (He.ga K "Vault") dx (vF oa sa m sp le pv sv))) : Val (tFld K ta ("least" : Str)) σ H (.int le) := val_fld h ho T.c_Vault T.n_Vault_least vF_least
theorem f_Vault_published (T : Txt K mg) (h : Val ta σ H (.ref p)) (ho : H p = some (.ins (He.ga K "Vault") dx (vF oa sa m sp le pv sv))) : Val (tFld K ta ("published" : Str)) σ H (pv) := val_fld h ho T.c_Vault T.n_Vault_published vF_published
theorem f_Vault_since (T : Txt K mg) (h : Val ta σ H (.ref p)) (ho : H p = some (.ins (He.ga K "Vault") dx (vF oa sa m sp le pv sv))) : Val (tFld K ta ("since" : Str)) σ H (sv) := val_fld h ho T.c_Vault T.n_Vault_since vF_since
theorem f_Book_purses (T : Txt K mg) (h : Val ta σ H (.ref p)) (ho : H p = some (.ins (He.ga K "Book") dx (bF pd vd rd el dl he bu))) : Val (tFld K ta ("purses" : Str)) σ H (.ref pd) := val_fld h ho T.c_Book T.n_Book_purses bF_purses
theorem f_Book_vaults (T : Txt K mg) (h : Val ta σ H (.ref p)) (ho : H p = some (.ins (He.ga K "Book") dx (bF pd vd rd el dl he bu))) : Val (tFld K ta ("vaults" : Str)) σ H (.ref vd) := val_fld h ho T.c_Book T.n_Book_vaults bF_vaults
theorem f_Book_receipts (T : Txt K mg) (h : Val ta σ H (.ref p)) (ho : H p = some (.ins (He.ga K "Book") dx (bF pd vd rd el dl he bu))) : Val (tFld K ta ("receipts" : Str)) σ H (.ref rd) := val_fld h ho T.c_Book T.n_Book_receipts bF_receipts
theorem f_Book_ended (T : Txt K mg) (h : Val ta σ H (.ref p)) (ho : H p = some (.ins (He.ga K "Book") dx (bF pd vd rd el dl he bu))) : Val (tFld K ta ("ended" : Str)) σ H (.ref el) := val_fld h ho T.c_Book T.n_Book_ended bF_ended
theorem f_Book_done (T : Txt K mg) (h : Val ta σ H (.ref p)) (ho : H p = some (.ins (He.ga K "Book") dx (bF pd vd rd el dl he bu))) : Val (tFld K ta ("done" : Str)) σ H (.ref dl) := val_fld h ho T.c_Book T.n_Book_done bF_done
theorem f_Book_height (T : Txt K mg) (h : Val ta σ H (.ref p)) (ho : H p = some (.ins (He.ga K "Book") dx (bF pd vd rd el dl he bu))) : Val (tFld K ta ("height" : Str)) σ H (.int he) := val_fld h ho T.c_Book T.n_Book_height bF_height
theorem f_Book_burnt (T : Txt K mg) (h : Val ta σ H (.ref p)) (ho : H p = some (.ins (He.ga K "Book") dx (bF pd vd rd el dl he bu))) : Val (tFld K ta ("burnt" : Str)) σ H (.int bu) := val_fld h ho T.c_Book T.n_Book_burnt bF_burnt
theorem f_Ledger_book (T : Txt K mg) (h : Val ta σ H (.ref p)) (ho : H p = some (.ins (He.ga K "Ledger") dx (lF b r w))) : Val (tFld K ta ("book" : Str)) σ H (.ref b) := val_fld h ho T.c_Ledger T.n_Ledger_book lF_book
theorem f_Ledger_room (T : Txt K mg) (h : Val ta σ H (.ref p)) (ho : H p = some (.ins (He.ga K "Ledger") dx (lF b r w))) : Val (tFld K ta ("room" : Str)) σ H (.int r) := val_fld h ho T.c_Ledger T.n_Ledger_room lF_room
theorem f_Ledger_waiting (T : Txt K mg) (h : Val ta σ H (.ref p)) (ho : H p = some (.ins (He.ga K "Ledger") dx (lF b r w))) : Val (tFld K ta ("waiting" : Str)) σ H (.ref w) := val_fld h ho T.c_Ledger T.n_Ledger_waiting lF_waiting
end
end Tk
/-! Lists of pairs: a dict with int keys; the plain mathematics of purses and vaults. -/
namespace Tk
open PySem PySem.Spec PyProof.Rows L2
abbrev Pm := List (Int × Int)
section
variable {α : Type}
def getI (l : List (Int × α)) (k : Int) : Option α := (l.find? fun p => decide (p.1 = k)).map (·.2)
def putI (l : List (Int × α)) (k : Int) (v : α) : List (Int × α) := if k ∈ l.map (·.1) then l.map (fun p => if p.1 = k then (p.1, v) else p) else l ++ [(k, v)]
def dropI (l : List (Int × α)) (k : Int) : List (Int × α) := l.filter fun p => decide (p.1 ≠ k)
def keys (l : List (Int × α)) : List Int := l.map (·.1)
def sumBy (g : α → Int) (l : List (Int × α)) : Int := (l.map fun p => g p.2).sum
def dk (g : α → V) (l : List (Int × α)) : List (Key × V) := l.map fun p => (Sum.inl p.1, g p.2)
variable {g : α → V} {m : α → Int} {k j : Int} {v : α}
theorem getI_nil : getI ([] : List (Int × α)) k = none := rfl
theorem getI_pos {p : Int × α} {r : List (Int × α)} (e : p.1 = k) : getI (p :: r) k = some p.2 := by simp [getI, List.find?_cons, e]
theorem getI_neg {p : Int × α} {r : List (Int × α)} (e : ¬ p.1 = k) : getI (p :: r) k = getI r k := by simp [getI, List.find?_cons, e]
theorem getI_mem : ∀ {l : List (Int × α)}, getI l k = some v → (k, v) ∈ l
  | [], h => by cases h
  | p :: r, h => by
    by_cases e : p.1 = k
    · rw [getI_pos e] at h
      have e2 : p.2 = v := Option.some.inj h
      rw [← e, ← e2]
      exact List.mem_cons_self
    · rw [getI_neg e] at h
      exact List.mem_cons_of_mem _ (getI_mem h)
theorem getI_none : ∀ {l : List (Int × α)}, getI l k = none ↔ ¬ k ∈ keys l
  | [] => by simp [getI_nil, keys]
  | p :: r => by
    have ih := getI_none (l := r)
    by_cases e : p.1 = k
    · rw [getI_pos e]
      simp [keys, e]
    · rw [getI_neg e, ih]
      have e' : ¬ k = p.1 := fun z => e z.symm
      simp [keys, e']
theorem getI_some {l : List (Int × α)} : (∃ v, getI l k = some v) ↔ k ∈ keys l := by
  cases h : getI l k with
  | none =>
    have := getI_none.mp h
    simp [this]
  | some v =>
    have h1 : ¬ getI l k = none := by rw [h]; simp
    have h2 := (not_congr getI_none).mp h1
    simp at h2
    simp [h2]
theorem getI_of_mem : ∀ {l : List (Int × α)}, (keys l).Nodup → (k, v) ∈ l → getI l k = some v
  | [], _, h => by cases h
  | p :: r, hn, h => by
    obtain ⟨h1, h2⟩ := List.nodup_cons.mp (show (p.1 :: keys r).Nodup from hn)
    rcases List.mem_cons.mp h with e | h
    · rw [← e]
      exact getI_pos rfl
    · have e : ¬ p.1 = k := fun z => h1 (by rw [z]; exact List.mem_map.mpr ⟨(k, v), h, rfl⟩)
      rw [getI_neg e]
      exact getI_of_mem h2 h
theorem valV_dk : ∀ l : List (Int × α), valV (dk g l) (Sum.inl k : Key) = (getI l k).map g
  | [] => rfl
  | p :: r => by
    have ih := valV_dk r
    show valV ((Sum.inl p.1, g p.2) :: dk g r) (Sum.inl k : Key) = _
    by_cases e : p.1 = k
    · rw [valV_pos (by rw [e]), getI_pos e]
      rfl
    · rw [valV_neg (fun z => e (Sum.inl.inj z)), getI_neg e]
      exact ih
theorem any_dk (l : List (Int × α)) : ((dk g l).any fun kv => decide (kv.1 = (Sum.inl k : Key))) = decide (k ∈ l.map (·.1)) := by
  rw [valV_any, valV_dk]
  cases h : getI l k with
  | none =>
    have h1 : ¬ k ∈ l.map (·.1) := getI_none.mp h
    rw [decide_eq_false h1]
    rfl
  | some v =>
    have h1 : k ∈ l.map (·.1) := getI_some.mp ⟨v, h⟩
    rw [decide_eq_true h1]
    rfl
theorem put_dk (l : List (Int × α)) : putK (dk g l) (Sum.inl k : Key) (g v) = dk g (putI l k v) := by
  unfold putK putI
  rw [any_dk]
  by_cases h : k ∈ l.map (·.1)
  · rw [if_pos h, if_pos (decide_eq_true h)]
    unfold dk
    rw [List.map_map, List.map_map]
    refine List.map_congr_left fun p _ => ?_
    show (if (Sum.inl p.1 : Key) = Sum.inl k then _ else _) = _
    by_cases e : p.1 = k
    · rw [if_pos (by rw [e])]
      show _ = ((Sum.inl (if p.1 = k then (p.1, v) else p).1 : Key), g (if p.1 = k then (p.1, v) else p).2)
      rw [if_pos e]
    · rw [if_neg fun z => e (Sum.inl.inj z)]
      show _ = ((Sum.inl (if p.1 = k then (p.1, v) else p).1 : Key), g (if p.1 = k then (p.1, v) else p).2)
      rw [if_neg e]
  · rw [if_neg h, if_neg (by rw [decide_eq_false h]; simp)]
    unfold dk
    rw [List.map_append]
    rfl
theorem drop_dk (l : List (Int × α)) : dropK (dk g l) (Sum.inl k : Key) = dk g (dropI l k) := by
  unfold dropK dropI dk
  rw [List.filter_map]
  congr 1
  refine List.filter_congr fun p _ => ?_
  show decide ((Sum.inl p.1 : Key) ≠ Sum.inl k) = decide (p.1 ≠ k)
  by_cases e : p.1 = k
  · simp [e]
  · have : ¬ (Sum.inl p.1 : Key) = Sum.inl k := fun z => e (Sum.inl.inj z)
    simp [e, this]
theorem keys_put_in {l : List (Int × α)} (h : k ∈ keys l) : keys (putI l k v) = keys l := by
  unfold putI
  rw [if_pos (show k ∈ l.map (·.1) from h)]
  unfold keys
  rw [List.map_map]
  refine List.map_congr_left fun p _ => ?_
  show (if p.1 = k then (p.1, v) else p).1 = p.1
  split <;> rfl
theorem put_new {l : List (Int × α)} (h : ¬ k ∈ keys l) : putI l k v = l ++ [(k, v)] := by
  unfold putI
  exact if_neg h
theorem mem_put {l : List (Int × α)} {p : Int × α} (h : p ∈ putI l k v) : (p ∈ l ∧ p.1 ≠ k) ∨ p = (k, v) := by
  by_cases hk : k ∈ keys l
  · unfold putI at h
    rw [if_pos (show k ∈ l.map (·.1) from hk)] at h
    obtain ⟨q, hq, e⟩ := List.mem_map.mp h
    by_cases z : q.1 = k
    · rw [if_pos z] at e
      exact .inr (by rw [← e, z])
    · rw [if_neg z] at e
      exact .inl (by rw [← e]; exact ⟨hq, z⟩)
  · rw [put_new hk] at h
    rcases List.mem_append.mp h with h | h
    · exact .inl ⟨h, fun z => hk (by rw [← z]; exact List.mem_map.mpr ⟨p, h, rfl⟩)⟩
    · exact .inr (List.mem_singleton.mp h)
theorem nd_snocI {l : List Int} {a : Int} (h : l.Nodup) (n : ¬ a ∈ l) : (l ++ [a]).Nodup := L2.nd_snoc h n
theorem nd_put {l : List (Int × α)} (h : (keys l).Nodup) : (keys (putI l k v)).Nodup := by
  by_cases hk : k ∈ keys l
  · rw [keys_put_in hk]
    exact h
  · rw [put_new hk]
    unfold keys
    rw [List.map_append]
    exact nd_snocI h hk
theorem len_put (l : List (Int × α)) : (putI l k v).length ≤ l.length + 1 := by
  unfold putI
  split
  · rw [List.length_map]
    omega
  · rw [List.length_append]
    exact Nat.le_refl _
theorem len_put_in {l : List (Int × α)} (h : k ∈ keys l) : (putI l k v).length = l.length := by
  unfold putI
  rw [if_pos (show k ∈ l.map (·.1) from h), List.length_map]
theorem sum_map_ne : ∀ {l : List (Int × α)}, ¬ k ∈ keys l → (l.map fun p => if p.1 = k then (p.1, v) else p) = l
  | [], _ => rfl
  | p :: r, h => by
    have h1 : ¬ p.1 = k := fun z => h (by rw [← z]; exact List.mem_cons_self)
    have h2 : ¬ k ∈ keys r := fun z => h (List.mem_cons_of_mem _ z)
    rw [List.map_cons, if_neg h1, sum_map_ne h2]
theorem sum_cons (p : Int × α) (r : List (Int × α)) : sumBy m (p :: r) = m p.2 + sumBy m r := by
  unfold sumBy
  rw [List.map_cons, List.sum_cons]
theorem sum_app (l r : List (Int × α)) : sumBy m (l ++ r) = sumBy m l + sumBy m r := by
  unfold sumBy
  rw [List.map_append, List.sum_append]
theorem sum_one (p : Int × α) : sumBy m [p] = m p.2 := by
  rw [sum_cons]
  show m p.2 + 0 = m p.2
  omega
/-- what is put in the place of another -/
theorem sum_put : ∀ {l : List (Int × α)}, (keys l).Nodup → sumBy m (putI l k v) = sumBy m l - ((getI l k).map m).getD 0 + m v
  | [], _ => by
    show sumBy m [(k, v)] = sumBy m ([] : List (Int × α)) - 0 + m v
    rw [sum_one]
    show m v = 0 - 0 + m v
    omega
  | p :: r, hn => by
    obtain ⟨h1, h2⟩ := List.nodup_cons.mp (show (p.1 :: keys r).Nodup from hn)
    have ih := sum_put (l := r) h2
    by_cases e : p.1 = k
    · have hk : k ∈ (p :: r).map (·.1) := by rw [← e]; exact List.mem_cons_self
      unfold putI
      rw [if_pos hk, List.map_cons, if_pos e, sum_map_ne (by rw [← e]; exact h1), sum_cons, sum_cons, getI_pos e]
      show m v + sumBy m r = m p.2 + sumBy m r - m p.2 + m v
      omega
    · rw [getI_neg e]
      have q : putI (p :: r) k v = p :: putI r k v := by
        have e' : ¬ k = p.1 := fun z => e z.symm
        unfold putI
        by_cases hk : k ∈ r.map (·.1)
        · rw [if_pos hk, if_pos (by rw [List.map_cons]; exact List.mem_cons_of_mem _ hk), List.map_cons, if_neg e]
        · rw [if_neg hk, if_neg (by rw [List.map_cons]; intro z; rcases List.mem_cons.mp z with z | z; exact e' z; exact hk z)]
          rfl
      rw [q, sum_cons, sum_cons, ih]
      omega
theorem get_put {l : List (Int × α)} : getI (putI l k v) j = if j = k then some v else getI l j := by
  have h := valV_put (dk (fun _ : Unit => V.non) []) (Sum.inl k : Key) (Sum.inl j) V.non
  clear h
  by_cases hk : k ∈ keys l
  · unfold putI
    rw [if_pos (show k ∈ l.map (·.1) from hk)]
    induction l with
    | nil => cases hk
    | cons p r ih =>
      rw [List.map_cons]
      by_cases e : p.1 = k
      · rw [if_pos e]
        by_cases ej : j = k
        · rw [if_pos ej]
          exact getI_pos (by show p.1 = j; rw [e, ej])
        · rw [if_neg ej, getI_neg (by show ¬ p.1 = j; rw [e]; exact fun z => ej z.symm), getI_neg (by rw [e]; exact fun z => ej z.symm)]
          by_cases hr : k ∈ keys r
          · rw [ih hr, if_neg ej]
          · rw [sum_map_ne hr]
      · rw [if_neg e]
        have hr : k ∈ keys r := by
          rcases List.mem_cons.mp (show k ∈ p.1 :: keys r from hk) with z | z
          · exact absurd z.symm e
          · exact z
        by_cases ep : p.1 = j
        · have ej : ¬ j = k := fun z => e (ep.trans z)
          rw [getI_pos ep, if_neg ej, getI_pos ep]
        · rw [getI_neg ep, getI_neg ep]
          exact ih hr
  · rw [put_new hk]
    induction l with
    | nil =>
      by_cases ej : j = k
      · rw [if_pos ej]
        exact getI_pos ej.symm
      · rw [if_neg ej]
        exact getI_neg (fun z => ej z.symm)
    | cons p r ih =>
      have hr : ¬ k ∈ keys r := fun z => hk (List.mem_cons_of_mem _ z)
      have e : ¬ p.1 = k := fun z => hk (by rw [← z]; exact List.mem_cons_self)
      show getI (p :: (r ++ [(k, v)])) j = _
      by_cases ep : p.1 = j
      · have ej : ¬ j = k := fun z => e (ep.trans z)
        rw [getI_pos ep, if_neg ej, getI_pos ep]
      · rw [getI_neg ep, getI_neg ep]
        exact ih hr
theorem mem_drop {l : List (Int × α)} {p : Int × α} : p ∈ dropI l k ↔ p ∈ l ∧ p.1 ≠ k := by
  unfold dropI
  rw [List.mem_filter]
  simp
theorem nd_drop {l : List (Int × α)} (h : (keys l).Nodup) : (keys (dropI l k)).Nodup := by
  unfold keys dropI
  exact List.Nodup.sublist (List.Sublist.map _ List.filter_sublist) h
theorem len_drop (l : List (Int × α)) : (dropI l k).length ≤ l.length := List.length_filter_le _ _
theorem keys_drop {l : List (Int × α)} : ¬ k ∈ keys (dropI l k) := fun h => by
  obtain ⟨p, hp, e⟩ := List.mem_map.mp h
  exact (mem_drop.mp hp).2 e
theorem drop_none : ∀ {l : List (Int × α)}, ¬ k ∈ keys l → dropI l k = l
  | [], _ => rfl
  | p :: r, h => by
    have h1 : ¬ p.1 = k := fun z => h (by rw [← z]; exact List.mem_cons_self)
    have h2 : ¬ k ∈ keys r := fun z => h (List.mem_cons_of_mem _ z)
    unfold dropI
    rw [List.filter_cons, if_pos (by simp [h1])]
    congr 1
    exact drop_none h2
theorem sum_drop : ∀ {l : List (Int × α)}, (keys l).Nodup → getI l k = some v → sumBy m (dropI l k) = sumBy m l - m v
  | [], _, h => by cases h
  | p :: r, hn, h => by
    obtain ⟨h1, h2⟩ := List.nodup_cons.mp (show (p.1 :: keys r).Nodup from hn)
    by_cases e : p.1 = k
    · rw [getI_pos e] at h
      have ev : p.2 = v := Option.some.inj h
      have q : dropI (p :: r) k = r := by
        have z : dropI (p :: r) k = dropI r k := by
          unfold dropI
          rw [List.filter_cons, if_neg (by simp [e])]
        rw [z, drop_none (by rw [← e]; exact h1)]
      rw [q, sum_cons, ev]
      omega
    · rw [getI_neg e] at h
      have q : dropI (p :: r) k = p :: dropI r k := by
        unfold dropI
        rw [List.filter_cons, if_pos (by simp [e])]
      rw [q, sum_cons, sum_cons, sum_drop h2 h]
      omega
theorem len_drop_in : ∀ {l : List (Int × α)}, k ∈ keys l → (dropI l k).length + 1 ≤ l.length
  | [], h => by cases h
  | p :: r, h => by
    by_cases e : p.1 = k
    · have z : dropI (p :: r) k = dropI r k := by
        unfold dropI
        rw [List.filter_cons, if_neg (by simp [e])]
      rw [z, List.length_cons]
      have := len_drop (k := k) r
      omega
    · have hr : k ∈ keys r := by
        rcases List.mem_cons.mp (show k ∈ p.1 :: keys r from h) with z | z
        · exact absurd z.symm e
        · exact z
      have q : dropI (p :: r) k = p :: dropI r k := by
        unfold dropI
        rw [List.filter_cons, if_pos (by simp [e])]
      rw [q, List.length_cons, List.length_cons]
      have := len_drop_in hr
      omega
end
abbrev dkI (l : Pm) : List (Key × V) := dk V.int l
abbrev sumI (l : Pm) : Int := sumBy id l
/-- what is in a purse -/
def purse (l : Pm) (k : Int) : Int := (getI l k).getD 0
theorem dk_len {α : Type} {g : α → V} (l : List (Int × α)) : (dk g l).length = l.length := List.length_map _
end Tk
/-! Locks, states, ends. -/
namespace Tk
open PySem PySem.Spec PyProof.Rows L2
local macro_rules | `(tactic| walk_at "vl") => `(tactic| first
  | ((with_reducible refine' val_var ?a1); (case a1 => rfl))
  | ((with_reducible refine' val_c))
  | ((with_reducible refine' f_Vault_opening ?a1 ?a2 ?a3); (case a1 => assumption); (case a2 => walk_at "vl"); (case a3 => assumption))
  | ((with_reducible refine' f_Vault_money ?a1 ?a2 ?a3); (case a1 => assumption); (case a2 => walk_at "vl"); (case a3 => assumption))
  | ((with_reducible refine' f_Vault_sums ?a1 ?a2 ?a3); (case a1 => assumption); (case a2 => walk_at "vl"); (case a3 => assumption))
  | ((with_reducible refine' f_Vault_splices ?a1 ?a2 ?a3); (case a1 => assumption); (case a2 => walk_at "vl"); (case a3 => assumption))
  | ((with_reducible refine' f_Vault_least ?a1 ?a2 ?a3); (case a1 => assumption); (case a2 => walk_at "vl"); (case a3 => assumption))
  | ((with_reducible refine' f_Vault_published ?a1 ?a2 ?a3); (case a1 => assumption); (case a2 => walk_at "vl"); (case a3 => assumption))
  | ((with_reducible refine' f_Vault_since ?a1 ?a2 ?a3); (case a1 => assumption); (case a2 => walk_at "vl"); (case a3 => assumption))
  | ((with_reducible refine' f_Book_purses ?a1 ?a2 ?a3); (case a1 => assumption); (case a2 => walk_at "vl"); (case a3 => assumption))
  | ((with_reducible refine' f_Book_vaults ?a1 ?a2 ?a3); (case a1 => assumption); (case a2 => walk_at "vl"); (case a3 => assumption))
  | ((with_reducible refine' f_Book_receipts ?a1 ?a2 ?a3); (case a1 => assumption); (case a2 => walk_at "vl"); (case a3 => assumption))
  | ((with_reducible refine' f_Book_ended ?a1 ?a2 ?a3); (case a1 => assumption); (case a2 => walk_at "vl"); (case a3 => assumption))
  | ((with_reducible refine' f_Book_done ?a1 ?a2 ?a3); (case a1 => assumption); (case a2 => walk_at "vl"); (case a3 => assumption))
  | ((with_reducible refine' f_Book_height ?a1 ?a2 ?a3); (case a1 => assumption); (case a2 => walk_at "vl"); (case a3 => assumption))
  | ((with_reducible refine' f_Book_burnt ?a1 ?a2 ?a3); (case a1 => assumption); (case a2 => walk_at "vl"); (case a3 => assumption))
  | ((with_reducible refine' f_Ledger_book ?a1 ?a2 ?a3); (case a1 => assumption); (case a2 => walk_at "vl"); (case a3 => assumption))
  | ((with_reducible refine' f_Ledger_room ?a1 ?a2 ?a3); (case a1 => assumption); (case a2 => walk_at "vl"); (case a3 => assumption))
  | ((with_reducible refine' f_Ledger_waiting ?a1 ?a2 ?a3); (case a1 => assumption); (case a2 => walk_at "vl"); (case a3 => assumption))
  | ((with_reducible refine' v_ix ?a1 ?a2 ?a3 ?a4); (case a1 => walk_at "vl"); (case a2 => walk_at "vl"); (case a3 => assumption); (case a4 => rfl))
  | ((with_reducible refine' v_I0 ?a1 ?a2); (case a1 => walk_at "vl"); (case a2 => walk_at "vl"))
  | ((with_reducible refine' v_isN ?a1); (case a1 => walk_at "vl"))
  | ((with_reducible refine' v_notN ?a1); (case a1 => walk_at "vl"))
  | ((with_reducible refine' v_int1 ?a1); (case a1 => walk_at "vl"))
  | ((with_reducible refine' v_eq ?a1 ?a2 ?a3); (case a1 => walk_at "vl"); (case a2 => walk_at "vl"); (case a3 => rfl))
  | ((with_reducible refine' v_ne ?a1 ?a2 ?a3); (case a1 => walk_at "vl"); (case a2 => walk_at "vl"); (case a3 => rfl))
  | ((with_reducible refine' v_max2 ?a1 ?a2); (case a1 => walk_at "vl"); (case a2 => walk_at "vl"))
  | ((with_reducible refine' v_min2 ?a1 ?a2); (case a1 => walk_at "vl"); (case a2 => walk_at "vl")))
local macro_rules | `(tactic| walk_at "va") => `(tactic| first
  | (with_reducible exact va_nil)
  | ((with_reducible refine' va_cons ?a1 ?a2); (case a1 => walk_at "vl"); (case a2 => walk_at "va")))

theorem flat_ints (l : List Int) : (l.map V.int).all flatV = true := by
  rw [List.all_map]
  exact List.all_eq_true.mpr fun _ _ => rfl
/-! ### the promises -/
def spWasOpened (K : PySem.W.Frag) : Sp := fun vs H Q _ => ∃ (a r : Addr) (l : Lk) (rs : Pm), vs = [.ref a, .ref r] ∧ Tp K H a (lkV l) ∧ H r = some (.dK (dkI rs)) ∧ ∀ b, Q (.bl b) H
def spLockShares (K : PySem.W.Frag) : Sp := fun vs H Q _ => ∃ (a r : Addr) (as : List Addr) (ls : List Lk) (rs : Pm), vs = [.ref a, .ref r] ∧ Tp K H a (as.map V.ref) ∧ LocksAt K H as ls ∧ (∀ l ∈ ls, 0 ≤ l.amt) ∧ H r = some (.dK (dkI rs)) ∧
  ∀ (H' : Hp) (x y : Int) (p : Addr), 0 ≤ x → Ex H H' → H p = none → H' p = some (.tup [.int x, .int y]) → Q (.ref p) H'
def spKeyOf : Sp := fun vs H Q _ => ∃ i : Int, vs = [.int i] ∧ ∀ j, Q (.int j) H
def spHasHands (K : PySem.W.Frag) : Sp := fun vs H Q _ => ∃ (h e : Addr) (hs : List Int) (x y : Int), vs = [.ref h, .ref e] ∧ Tp K H h (hs.map V.int) ∧ Tp K H e [.int x, .int y] ∧ ∀ b, Q (.bl b) H
def spOpeningState (K : PySem.W.Frag) : Sp := fun vs H Q _ => ∃ (a : Addr) (o : Op), vs = [.ref a] ∧ Tp K H a (opV o) ∧
  ∀ (H' : Hp) (p : Addr), Ex H H' → StateAt K H' p ⟨o.ch, 0, o.fi, o.si, [], false⟩ → Q (.ref p) H'
def spEndsOf (K : PySem.W.Frag) : Sp := fun vs H Q _ => ∃ (v : Addr) (d : Vd), vs = [.ref v] ∧ VaultAt K H v d ∧ ∀ (H' : Hp) (p : Addr), Ex H H' → H p = none → H' p = some (.tup [.int d.op.a, .int d.op.b]) → Q (.ref p) H'
def spFreeOf (K : PySem.W.Frag) : Sp := fun vs H Q _ => ∃ (v a : Addr) (d : Vd) (s : Sd), vs = [.ref v, .ref a] ∧ VaultAt K H v d ∧ StateAt K H a s ∧
  ∀ (H' : Hp) (p : Addr), Ex H H' → H p = none → H' p = some (.tup [.int (s.fst + d.sums.s0 - d.sums.s1), .int (s.snd + d.sums.s2 - d.sums.s3)]) → Q (.ref p) H'
def spWorth (K : PySem.W.Frag) : Sp := fun vs H Q _ => ∃ (a r : Addr) (s : Sd) (rs : Pm), vs = [.ref a, .ref r] ∧ StateAt K H a s ∧ (∀ l ∈ s.locks, 0 ≤ l.amt) ∧ H r = some (.dK (dkI rs)) ∧
  ∀ (H' : Hp) (p : Addr) (x y : Int), Ex H H' → s.fst ≤ x → H p = none → H' p = some (.tup [.int x, .int y]) → Q (.ref p) H'
theorem v_in {K : PySem.W.Frag} {σ : L2.St} {H : Hp} {ta tb : TE} {p : Addr} {xs : List V} {x : V} (h : Val ta σ H x) (hi : Val tb σ H (.ref p)) (ht : SqT K H p xs) (f1 : flatV x = true) (f2 : xs.all flatV = true) : Val (tOp (rIn K false) ta tb) σ H (.bl (inV x xs)) :=
  val_op h hi fun Q q => ⟨p, xs, rfl, .inr ht, f1, f2, q⟩
theorem v_inL {K : PySem.W.Frag} {σ : L2.St} {H : Hp} {ta tb : TE} {p : Addr} {xs : List V} {x : V} (h : Val ta σ H x) (hi : Val tb σ H (.ref p)) (ht : SqL K H p xs) (f1 : flatV x = true) (f2 : xs.all flatV = true) : Val (tOp (rIn K false) ta tb) σ H (.bl (inV x xs)) :=
  val_op h hi fun Q q => ⟨p, xs, rfl, .inl ht, f1, f2, q⟩
section
variable {P : Program} {w : World} {K : PySem.W.Frag} {mg : Str → Option Value} {base : Heap}
theorem ok_was_opened (T : Txt K mg) : HasF P w K mg base "was_opened" 1 ["lock", "receipts"] (spWasOpened K) := by
  refine hasF (st := s_was_opened) T.f_was_opened T.g_was_opened sc_was_opened (fun _ _ _ _ _ _ us hl => match us, hl with | [_, _], _ => rfl) (fun vs H Q E h => ?_) (fun f cdv A outer s H vs Q E hr h => ?_)
  · obtain ⟨a, r, l, rs, rfl, _⟩ := h
    rfl
  · obtain ⟨a, r, l, rs, rfl, hl, hd, k⟩ := h
    refine ⟨_, (pss_cons (ps_set (i := 2) sc_was_opened.nd rfl (by first | exact Or.inl rfl | exact Or.inr rfl) (pe_dget1 (hu_of hr) (pv 1) (pe_ix (ix_tupK (K := K) rfl) (pv 0) pe_int (fun _ _ => rfl)) ⟨by rfl, by rfl, by rfl, by rfl⟩))
      (pss_one (ps_ret (pe_and (pe_cmpR op_notN (pv 2) pe_non (nomark _)) (pe_one (pe_cmpR op_le (pv 2) (pe_ix (ix_tupK (K := K) rfl) (pv 0) pe_int (fun _ _ => rfl)) (nomark _))))))), ?_⟩
    refine' q_asg ⟨_, rfl, r, rfl, .inl ⟨_, .inl hd⟩, ?_⟩
    refine' go (by walk_at "vl") ?_
    refine ⟨_, DGet.k (k := Sum.inl l.key) hd, ?_⟩
    rw [valV_dk]
    cases getI rs l.key with
    | none => exact st_ret (v_andV (c := false) (by walk_at "vl") (fun z => by exact absurd z (by decide))) (k _)
    | some i => exact st_ret (v_andV (by walk_at "vl") (fun z => by walk_at "vl")) (k _)
theorem ok_key_of (T : Txt K mg) : HasF P w K mg base "key_of" 1 ["secret"] spKeyOf := by
  refine hasF (st := s_key_of) T.f_key_of T.g_key_of sc_key_of (fun _ _ _ _ _ _ us hl => match us, hl with | [_], _ => rfl) (fun vs H Q E h => ?_) (fun f cdv A outer s H vs Q E hr h => ?_)
  · obtain ⟨i, rfl, _⟩ := h
    rfl
  · obtain ⟨i, rfl, k⟩ := h
    refine ⟨_, (pss_one (ps_ret (pe_op op_mod (pe_op op_add (pe_op op_mul (pv 0) (pe_gi T.i_FACTOR)) (pe_gi T.i_SHIFT)) (pe_gi T.i_KEYS)))), ?_⟩
    exact st_ret (v_I (v_I0 (v_I (val_var rfl) val_c (.inr ⟨by decide, by decide⟩)) val_c) val_c (by decide)) (k _)
theorem ok_has_hands (T : Txt K mg) : HasF P w K mg base "has_hands" 1 ["hands", "ends"] (spHasHands K) := by
  refine hasF (st := s_has_hands) T.f_has_hands T.g_has_hands sc_has_hands (fun _ _ _ _ _ _ us hl => match us, hl with | [_, _], _ => rfl) (fun vs H Q E h => ?_) (fun f cdv A outer s H vs Q E hr h => ?_)
  · obtain ⟨a, e, hs, x, y, rfl, _⟩ := h
    rfl
  · obtain ⟨a, e, hs, x, y, rfl, h1, h2, k⟩ := h
    refine ⟨_, (pss_one (ps_ret (pe_and (pe_cmpR op_in_seq (pe_ix (ix_tupK (K := K) rfl) (pv 1) pe_int (fun _ _ => rfl)) (pv 0) (by rfl)) (pe_one (pe_cmpR op_in_seq (pe_ix (ix_tupK (K := K) rfl) (pv 1) pe_int (fun _ _ => rfl)) (pv 0) (by rfl)))))), ?_⟩
    exact st_ret (v_andV (v_in (by walk_at "vl") (val_var rfl) h1.t rfl (flat_ints hs)) (fun _ => v_in (by walk_at "vl") (val_var rfl) h1.t rfl (flat_ints hs))) (k _)
theorem ok_opening_state (T : Txt K mg) : HasF P w K mg base "opening_state" 1 ["opening"] (spOpeningState K) := by
  refine hasF (st := s_opening_state) T.f_opening_state T.g_opening_state sc_opening_state (fun _ _ _ _ _ _ us hl => match us, hl with | [_], _ => rfl) (fun vs H Q E h => ?_) (fun f cdv A outer s H vs Q E hr h => ?_)
  · obtain ⟨a, o, rfl, _⟩ := h
    rfl
  · obtain ⟨a, o, rfl, h1, k⟩ := h
    refine ⟨_, (pss_one (ps_ret (pe_tup (pa_cons (pe_ix (ix_tupK (K := K) rfl) (pv 0) pe_int (fun _ _ => rfl)) (pa_cons pe_int (pa_cons (pe_ix (ix_tupK (K := K) rfl) (pv 0) pe_int (fun _ _ => rfl)) (pa_cons (pe_ix (ix_tupK (K := K) rfl) (pv 0) pe_int (fun _ _ => rfl)) (pa_cons (pe_tup pa_nil) (pa_cons pe_bl pa_nil))))))))), ?_⟩
    refine s_ret ?_
    refine' q_cons (by walk_at "vl") ?_
    refine' q_cons (by walk_at "vl") ?_
    refine' q_cons (by walk_at "vl") ?_
    refine' q_cons (by walk_at "vl") ?_
    refine q_consG (q_tup va_nil (Nat.zero_le _) fun q hq => ?_)
    refine' q_cons (by walk_at "vl") ?_
    refine ⟨by show 6 ≤ sizeLine; decide, fun p hp => ?_⟩
    have e1 : Ex H (upd H q (.tup [])) := Evl.Ex.new hq
    refine k _ p (e1.trans (Evl.Ex.new hp)) ⟨q, [], .inl upd_same, .inl ?_, rfl, fun i a l h1 _ => by cases h1⟩
    rw [upd_ne (ne_of_none (upd_same) hp)]
    exact upd_same
theorem ok_lock_shares (T : Txt K mg) : HasF P w K mg base "lock_shares" 2 ["locks", "receipts"] (spLockShares K) := by
  have G_was_opened : HasF P w K mg base "was_opened" 1 ["lock", "receipts"] (spWasOpened K) := ok_was_opened T
  refine hasF (st := s_lock_shares) T.f_lock_shares T.g_lock_shares sc_lock_shares (fun _ _ _ _ _ _ us hl => match us, hl with | [_, _], _ => rfl) (fun vs H Q E h => ?_) (fun f cdv A outer s H vs Q E hr h => ?_)
  · obtain ⟨a, r, as, ls, rs, rfl, _⟩ := h
    rfl
  · obtain ⟨a, r, as, ls, rs, rfl, h1, h2, h3, hd, k⟩ := h
    refine ⟨_, (pss_cons (ps_set (i := 2) sc_lock_shares.nd rfl (by first | exact Or.inl rfl | exact Or.inr rfl) pe_int)
      (pss_cons (ps_set (i := 3) sc_lock_shares.nd rfl (by first | exact Or.inl rfl | exact Or.inr rfl) pe_int)
      (pss_cons (ps_for PassesOwn.never rfl (pi_tup (pv 0)) (pg_name (i := 4) sc_lock_shares.nd rfl (by first | exact Or.inl rfl | exact Or.inr rfl)) (pss_one (ps_if (pt_cmpR op_eq (pe_f G_was_opened hr (pa_cons (pv 4) (pa_cons (pv 1) pa_nil))) (pe_ix (ix_tupK (K := K) rfl) (pv 4) pe_int (fun _ _ => rfl)) (nomark _)) (pss_one (ps_aug (i := 3) sc_lock_shares.nd rfl (by first | exact Or.inl rfl | exact Or.inr rfl) (pe_ix (ix_tupK (K := K) rfl) (pv 4) pe_int (fun _ _ => rfl)) ip_add)) (pss_one (ps_aug (i := 2) sc_lock_shares.nd rfl (by first | exact Or.inl rfl | exact Or.inr rfl) (pe_ix (ix_tupK (K := K) rfl) (pv 4) pe_int (fun _ _ => rfl)) ip_add)))))
      (pss_one (ps_ret (pe_tup (pa_cons (pv 2) (pa_cons (pv 3) pa_nil)))))))), ?_⟩
    refine q_set val_c (q_set val_c ?_)
    refine q_forT (xs := as.map V.ref) (val_var rfl) (fun i σ H' => H' = H ∧ ∃ (x y : Int) (v : Option V), σ = [some (.ref a), some (.ref r), some (.int x), some (.int y), v] ∧ 0 ≤ x) ⟨rfl, 0, 0, none, rfl, Int.le_refl 0⟩ (fun i σ H' _ z => by rw [z.1]; exact h1.t) ?_ ?_
    · rintro i z σ H' hi ⟨rfl, x, y, v, rfl, hx⟩
      obtain ⟨b, hb, rfl⟩ : ∃ b, as[i]? = some b ∧ z = V.ref b := by
        rw [List.getElem?_map] at hi
        cases e : as[i]? with
        | none => rw [e] at hi; cases hi
        | some b => rw [e] at hi; exact ⟨b, rfl, (Option.some.inj hi).symm⟩
      obtain ⟨l, hl⟩ : ∃ l, ls[i]? = some l := by
        have := (List.getElem?_eq_some_iff.mp hb).1
        exact ⟨ls[i]'(by rw [← h2.1]; exact this), List.getElem?_eq_getElem _⟩
      have ht := h2.2 i b l hb hl
      have hm := h3 l (List.mem_of_getElem? hl)
      refine s_if ?_
      refine ⟨_, rfl, _, rfl, b, r, l, rs, rfl, ht, hd, fun c => ?_⟩
      refine' go (by walk_at "vl") ?_
      refine ⟨rfl, _, rfl, if_b (fun _ => ?_) (fun _ => ?_)⟩
      · refine ⟨_, rfl, go (by walk_at "vl") ⟨_, _, rfl, rfl, rfl, x, y + l.amt, _, rfl, hx⟩⟩
      · refine ⟨_, rfl, go (by walk_at "vl") ⟨_, _, rfl, rfl, rfl, x + l.amt, y, _, rfl, by omega⟩⟩
    · rintro σ H' ⟨rfl, x, y, v, rfl, hx⟩
      refine' s_ret (q_tup (by walk_at "va") (by show 2 ≤ 1000; decide) fun p hp => k _ x y p hx (Evl.Ex.new hp) hp upd_same)
theorem ok_worth (T : Txt K mg) : HasF P w K mg base "worth" 3 ["state", "receipts"] (spWorth K) := by
  have G_lock_shares : HasF P w K mg base "lock_shares" 2 ["locks", "receipts"] (spLockShares K) := ok_lock_shares T
  refine hasF (st := s_worth) T.f_worth T.g_worth sc_worth (fun _ _ _ _ _ _ us hl => match us, hl with | [_, _], _ => rfl) (fun vs H Q E h => ?_) (fun f cdv A outer s H vs Q E hr h => ?_)
  · obtain ⟨a, r, s, rs, rfl, _⟩ := h
    rfl
  · obtain ⟨a, r, s, rs, rfl, h1, h2, hd, k⟩ := h
    obtain ⟨la, as, t1, t2, t3⟩ := h1.at_
    refine ⟨_, (pss_cons (ps_set (i := 2) sc_worth.nd rfl (by first | exact Or.inl rfl | exact Or.inr rfl) (pe_f G_lock_shares hr (pa_cons (pe_ix (ix_tupK (K := K) rfl) (pv 0) pe_int (fun _ _ => rfl)) (pa_cons (pv 1) pa_nil))))
      (pss_one (ps_ret (pe_tup (pa_cons (pe_op op_add (pe_ix (ix_tupK (K := K) rfl) (pv 0) pe_int (fun _ _ => rfl)) (pe_ix (ix_tupK (K := K) rfl) (pv 2) pe_int (fun _ _ => rfl))) (pa_cons (pe_op op_add (pe_ix (ix_tupK (K := K) rfl) (pv 0) pe_int (fun _ _ => rfl)) (pe_ix (ix_tupK (K := K) rfl) (pv 2) pe_int (fun _ _ => rfl))) pa_nil)))))), ?_⟩
    refine' q_asg (q_call (by walk_at "va") ?_)
    refine ⟨la, r, as, s.locks, rs, rfl, t2, t3, h2, hd, fun H' x y p hx e hp hp' => ?_⟩
    have t1' := t1.ex e
    have tp : Tp K H' p [.int x, .int y] := .inl hp'
    refine' s_ret (q_tup (by walk_at "va") (by show 2 ≤ 1000; decide) fun q hq => k _ q _ _ (e.trans (Evl.Ex.new hq)) (by show s.fst ≤ s.fst + x; omega) (Evl.fresh_back e hq) upd_same)
theorem ok_ends_of (T : Txt K mg) : HasF P w K mg base "ends_of" 1 ["vault"] (spEndsOf K) := by
  refine hasF (st := s_ends_of) T.f_ends_of T.g_ends_of sc_ends_of (fun _ _ _ _ _ _ us hl => match us, hl with | [_], _ => rfl) (fun vs H Q E h => ?_) (fun f cdv A outer s H vs Q E hr h => ?_)
  · obtain ⟨v, d, rfl, _⟩ := h
    rfl
  · obtain ⟨v, d, rfl, h1, k⟩ := h
    obtain ⟨dx, oa, sa, pq, o1, t1, t2, t3⟩ := h1.at_
    refine ⟨_, (pss_one (ps_ret (pe_tup (pa_cons (pe_ix (ix_tupK (K := K) rfl) (pe_fldK (K := K) rfl (pv 0) rfl) pe_int (fun _ _ => rfl)) (pa_cons (pe_ix (ix_tupK (K := K) rfl) (pe_fldK (K := K) rfl (pv 0) rfl) pe_int (fun _ _ => rfl)) pa_nil))))), ?_⟩
    refine' s_ret (q_tup (by walk_at "va") (by show 2 ≤ 1000; decide) fun p hp => k _ p (Evl.Ex.new hp) hp upd_same)
theorem ok_free_of (T : Txt K mg) : HasF P w K mg base "free_of" 1 ["vault", "state"] (spFreeOf K) := by
  refine hasF (st := s_free_of) T.f_free_of T.g_free_of sc_free_of (fun _ _ _ _ _ _ us hl => match us, hl with | [_, _], _ => rfl) (fun vs H Q E h => ?_) (fun f cdv A outer s H vs Q E hr h => ?_)
  · obtain ⟨v, a, d, s, rfl, _⟩ := h
    rfl
  · obtain ⟨v, a, d, s, rfl, h1, h2, k⟩ := h
    obtain ⟨dx, oa, sa, pq, o1, t1, t2, t3⟩ := h1.at_
    obtain ⟨la, as, u1, u2, u3⟩ := h2.at_
    refine ⟨_, (pss_cons (ps_asg (pe_fldK (K := K) rfl (pv 0) rfl) (pg_tup rfl (pgs_cons (pg_name (i := 2) sc_free_of.nd rfl (by first | exact Or.inl rfl | exact Or.inr rfl)) (pgs_cons (pg_name (i := 3) sc_free_of.nd rfl (by first | exact Or.inl rfl | exact Or.inr rfl)) (pgs_cons (pg_name (i := 4) sc_free_of.nd rfl (by first | exact Or.inl rfl | exact Or.inr rfl)) (pgs_cons (pg_name (i := 5) sc_free_of.nd rfl (by first | exact Or.inl rfl | exact Or.inr rfl)) pgs_nil))))))
      (pss_one (ps_ret (pe_tup (pa_cons (pe_op op_sub (pe_op op_add (pe_ix (ix_tupK (K := K) rfl) (pv 1) pe_int (fun _ _ => rfl)) (pv 2)) (pv 3)) (pa_cons (pe_op op_sub (pe_op op_add (pe_ix (ix_tupK (K := K) rfl) (pv 1) pe_int (fun _ _ => rfl)) (pv 4)) (pv 5)) pa_nil)))))), ?_⟩
    refine' q_asgG (go (by walk_at "vl") ?_)
    refine g_tup4 t2.t ?_
    refine' s_ret (q_tup (by walk_at "va") (by show 2 ≤ 1000; decide) fun p hp => k _ p (Evl.Ex.new hp) hp upd_same)
end
end Tk
/-! sum(e for x in a tuple of locks), and max of a tuple of ints: two rules of our own. The table of the code object is known by what is true of it alone, so that the abstract heap does not change. -/
namespace Tk
open PySem PySem.Spec PyProof.Rows L2
/-- a table of code objects, whatever it holds by now -/
def TabIs (P : Addr) : Heap → Prop := fun h => ∃ ps : Array Value, h.get? P = some { cls := .none, data := .fields ps } ∧ TriplesOk ps.toList
def TabH (H : Hp) (P : Addr) : Prop := H P = some (.ext (TabIs P))
section
variable {X : Cx} {pins : List (Addr × Obj)} {σ : L2.St} {H : Hp} {s : Shared}
/-- such a table was written: nothing that the abstract heap says has changed -/
theorem inv_tabIs {P : Addr} {ps : Array Value} {hN : Heap} {gN : Array GenState} {dN : Drawn} {tN : Nat} (I : Inv X pins σ H s) (hP : TabH H P) (keep : ∀ b u, b ≠ P → s.heap.get? b = some u → hN.get? b = some u)
    (now : hN.get? P = some { cls := .none, data := .fields ps }) (ok : TriplesOk ps.toList) (bare : AllBare gN) : Inv X pins σ H { s with heap := hN, gens := gN, drawn := dN, toks := tN } := by
  have free : ∀ b, H b = none → b ≠ P := fun b e z => by
    rw [z] at e
    rw [hP] at e
    cases e
  have other : ∀ b u, H b = some u → (∀ f, u ≠ .ext f) → b ≠ P := fun b u e q z => by
    rw [z] at e
    rw [hP] at e
    exact q _ (Option.some.inj e).symm
  refine I.step (ch := []) (g' := gN) (d' := dN) (fun b hb => by cases hb) (fun b u _ _ _ e n => keep b u (free b n) e) (fun b u _ _ _ e n => ⟨u.slots, keep b u (free b n) e⟩) (fun b u _ _ n => n) (fun b u _ e => ?_)
    (fun _ _ e => e) (fun _ _ _ e => e) (fun b qs e => ⟨#[], by rw [e]; simp⟩) (fun m hn => ?_) (fun b u e => ?_) bare
  · by_cases z : b = P
    · exact ⟨_, by rw [z]; exact now⟩
    · exact ⟨u, keep b u z e⟩
  · obtain ⟨ob, es, ep, ho, rest⟩ := hn
    exact ⟨ob, es, ep, keep _ ob (free _ I.free) ho, rest⟩
  · by_cases z : b = P
    · subst z
      rw [hP] at e
      cases e
      obtain ⟨_, _, st⟩ := I.hok b _ hP
      exact ⟨⟨ps, now, ok⟩, ⟨_, now⟩, st⟩
    · refine (I.hok b u e).stay (fun c v hc q => keep c v ?_ q) (fun _ q => q) fun _ _ q => q
      rcases hc with hc | hc
      · rw [hc]
        exact z
      · exact other c _ hc fun f q => by cases q
/-- the second item of the tuple in the name x -/
theorem elt_snd {prog : Program} {w : World} {cenv : Env} {A : Around} {E : Value → Shared → Prop} {s2 : Shared} {m2 : Str → Option Value} {x : Str} {b : Addr} {its : Array Value} {v : Value} {j : Nat} {p1 p2 p3 : Pos}
    (hk : cenv.scope.kind = .function) (hl : cenv.scope.names.lookup x = some .local) (hn : s2.heap.Ns cenv.locals m2) (hx : m2 x = some (.ref b)) (ht : IsTup s2.heap b its) (h1 : its[1]? = some v) (hz : its.size < 1000) (hd : (x == ("__debug__" : Str)) = false := by decide) :
    wpAny (model prog w) A (eval (.Subscript (.Name x p1) (.Constant (.int 1) j p2) p3) cenv) (fun y s3 => y = v ∧ Keeps s2 s3) E s2 := by
  refine Subscript_ (wpAny_Name (wpAny_loadName_local hk hl hn hx ?_) hd)
  refine wpAny_Constant_int ?_
  have lt : 1 < its.size := (Array.getElem?_eq_some_iff.mp h1).1
  refine subscriptTail_builtinR (x := v) (T := "tuple") (id := "tuple.__getitem__") (IsTup.typeIs (s := { s2 with toks := s2.toks + 1 }) ht) slot_tuple_getitem.lookup (PyProof.Rows.getItem_tuple (j := 1) ht (by decide) (by decide) (seqIndex_of (by decide) (by show (1 : Int) < _; omega)) h1 ⟨rfl, ?_⟩)
  exact ⟨rfl, GxR.keeps_tok _ _⟩
/-- the amount of the i-th lock -/
def amtAt (ls : List Lk) (i : Nat) : Int := ((ls[i]?).map (·.amt)).getD 0
theorem amtAt_in {ls : List Lk} (h : ∀ l ∈ ls, 0 ≤ l.amt ∧ l.amt ≤ 1000) (i : Nat) : 0 ≤ amtAt ls i ∧ amtAt ls i ≤ 1000 := by
  unfold amtAt
  cases e : ls[i]? with
  | none => exact ⟨Int.le_refl 0, by show (0 : Int) ≤ 1000; decide⟩
  | some l => exact h l (List.mem_of_getElem? e)
theorem preSum_in {f : Nat → Int} (h : ∀ i, 0 ≤ f i ∧ f i ≤ 1000) : ∀ n : Nat, 0 ≤ preSum f n ∧ preSum f n ≤ 1000 * (n : Int)
  | 0 => ⟨Int.le_refl 0, by show (0 : Int) ≤ 1000 * ((0 : Nat) : Int); decide⟩
  | n + 1 => by
    have ih := preSum_in h n
    have h1 := h n
    have e : preSum f (n + 1) = preSum f n + f n := rfl
    rw [e]
    omega
/-- sum(x[1] for x in locks), locks a tuple of locks -/
def tSumG (K : PySem.W.Frag) (P : Addr) (te : TE) : TE := fun σ H Q => te σ H fun v H1 => ∃ (yl : Addr) (as : List Addr) (ls : List Lk), v = .ref yl ∧ Tp K H1 yl (as.map V.ref) ∧ LocksAt K H1 as ls ∧
  (∀ l ∈ ls, 0 ≤ l.amt ∧ l.amt ≤ 1000) ∧ ls.length ≤ 100 ∧ TabH H1 P ∧ ∀ i, Q (.int i) H1
theorem q_sumG {K : PySem.W.Frag} {P yl : Addr} {te : TE} {as : List Addr} {ls : List Lk} {Q : VK} (h : Val te σ H (.ref yl)) (h1 : Tp K H yl (as.map V.ref)) (h2 : LocksAt K H as ls) (h3 : ∀ l ∈ ls, 0 ≤ l.amt ∧ l.amt ≤ 1000) (h4 : ls.length ≤ 100) (h5 : TabH H P) (h6 : ∀ i, Q (.int i) H) :
    tSumG K P te σ H Q := h _ ⟨yl, as, ls, rfl, h1, h2, h3, h4, h5, h6⟩
theorem noFree {scope : Scope} {env : Env} (h : ∀ y ∈ scope.names, y.2 ≠ .free) : ∀ y ∈ scope.names, y.2 = .free → ∃ c, env.cells.lookup y.1 = some c := fun y hy e => absurd e (h y hy)
theorem pe_sumG {c P : Addr} {iter : Expr} {x : Str} {px p pos gpos q1 q2 q3 : Pos} {jj : Nat} {scope : Scope} {te : TE} {k : Nat} (hr : Room k X.A) (hg : Gl X "sum") (hm : X.mg "sum" = none) (TB : GxR.TabB X.base X.mg c P) (hcode : X.env.code = .ref c)
    (S : GxR.GenS X.env scope x) (hi : PE X iter te) (hs : ∀ v, genFold iter X.env v = pure v := by intro _; rfl) (hd : (x == ("__debug__" : Str)) = false := by decide)
    (he : starEach [.GeneratorExp (.Subscript (.Name x q1) (.Constant (.int 1) jj q2) q3) [⟨.Name x px, iter, [], 0⟩] scope gpos] X.env = (false, eval (.GeneratorExp (.Subscript (.Name x q1) (.Constant (.int 1) jj q2) q3) [⟨.Name x px, iter, [], 0⟩] scope gpos) X.env) :: starEach [] X.env := by rfl) :
    PE X (.Call (.Name "sum" p) [.GeneratorExp (.Subscript (.Name x q1) (.Constant (.int 1) jj q2) q3) [⟨.Name x px, iter, [], 0⟩] scope gpos] [] pos) (tSumG X.K P te) := by
  refine ⟨fun pins s σ H Q I h => ?_⟩
  refine wpAny_Call_Name_kw (ld_blt I hg hm (by decide +kernel : bootBuiltins "sum" = some (.builtin "sum")) ?_)
  refine PyProof.Rows.callWith_builtin1 ?_ he (by rfl)
  rw [he]
  refine Calls.spliced_cons ?_
  refine wpAny_GeneratorExp_walksQ hr.hd S.co (closure_ok S.free) S.cell S.dot S.loc S.kind (by have := hr.dp; omega) ?_ hs
  -- the walked tuple
  refine thn (hi.run pins s σ H _ I h) fun xv s1 ⟨v, H1, I1, r1, yl, as, ls, ev, tY, tL, amts, few, tab, fin⟩ => ?_
  subst ev
  obtain rfl : xv = Value.ref yl := r1
  obtain ⟨its, rv, tupY, _⟩ := I1.tuple tY.t
  have nIts : its.length = ls.length := by rw [← rv.length, List.length_map, tL.1]
  -- each item is a tuple whose second item is the amount
  have item : ∀ (i : Nat) (u : Value), its.toArray[i]? = some u → ∃ (a : Addr) (l : Lk) (vs : Array Value) (t : Tok), u = .ref a ∧ ls[i]? = some l ∧ IsTup s1.heap a vs ∧ vs[1]? = some (.int l.amt t) ∧ vs.size < 1000 := by
    intro i u hu
    have hu2 : its[i]? = some u := by simpa using hu
    have hi2 := (List.getElem?_eq_some_iff.mp hu2).1
    obtain ⟨l, hl⟩ : ∃ l, ls[i]? = some l := ⟨ls[i]'(by omega), List.getElem?_eq_getElem _⟩
    obtain ⟨a, ha⟩ : ∃ a, as[i]? = some a := ⟨as[i]'(by have := tL.1; omega), List.getElem?_eq_getElem _⟩
    have hv : (as.map V.ref)[i]? = some (V.ref a) := by rw [List.getElem?_map, ha]; rfl
    obtain ⟨u', hu', ru⟩ := rv.get hv
    rw [hu2] at hu'
    cases hu'
    obtain ⟨ws, rw', tupA, _⟩ := I1.tuple (tL.2 i a l ha hl).t
    obtain ⟨z, hz, rz⟩ := rw'.get (show (lkV l)[1]? = some (V.int l.amt) from rfl)
    obtain ⟨t, rfl⟩ := rz
    have ln : ws.length = 4 := by rw [← rw'.length]; rfl
    exact ⟨a, l, ws.toArray, t, ru, hl, tupA, by simpa using hz, by rw [List.size_toArray, ln]; decide⟩
  have tupY' : s1.heap.IsTuple yl its.toArray := tupY
  refine wpAny_pyIter_tuple tupY' ?_
  generalize hob : ({ cls := .type "tuple_iterator", data := .fields #[.ref yl, .int 0 0] } : Obj) = ob
  -- the table
  obtain ⟨⟨ps, tabAt, tabOk⟩, _, _⟩ := I1.hok P _ tab
  have ltP : P < s1.heap.objs.size := Heap.lt_size tabAt
  have tab2 : (s1.heap.push ob).get? P = some { cls := .none, data := .fields ps } := Heap.get?_push_of_some _ tabAt
  have cd : PySem.W.CodeHd (s1.heap.push ob) c P := TB.code.keeps fun b u e => Heap.get?_push_of_some _ (I1.bk b u e)
  have lim : (s1.heap.push ob).NoLimit := I1.nolimit.push ob
  refine ⟨lim, ?_⟩
  have code : wpAny (model X.prog X.w) X.A (genexprCode X.env gpos (X.env.qual ++ "<genexpr>") scope) (fun cv s3 => ∃ (h3 : Heap) (tk : Nat) (qs : Array Value), s3 = { s1 with heap := h3, toks := tk } ∧ Heap.ExtBut P (s1.heap.push ob) h3 ∧
      (s1.heap.push ob).objs.size ≤ h3.objs.size ∧ h3.get? P = some { cls := .none, data := .fields qs } ∧ TriplesOk qs.toList) X.xe { s1 with heap := s1.heap.push ob } := by
    cases hf : codeAmong gpos ps.toList with
    | none =>
      refine wpAny_genexprCodeX hcode (cd.code tab2 tabOk) (cd.tab tab2) hf fun c' h' tk hx ge lt isC _ tab' _ => ?_
      obtain ⟨_, _, _, _, _, _, _, _, _, _, _, _, _, _, _, _, _, _, _, trip, _⟩ := isC
      exact ⟨h', tk, _, rfl, hx, Nat.le_trans ge (Nat.le_of_lt lt), tab'.2, trip⟩
    | some cv => exact wpAny_genexprCode_hit hcode (cd.code tab2 tabOk) hf ⟨s1.heap.push ob, s1.toks, ps, rfl, Heap.ExtBut.refl _ _, Nat.le_refl _, tab2, tabOk⟩
  refine wpAny_mono code (fun cv s3 hq => ?_) fun _ _ z => z
  obtain ⟨h3, tk, qs, rfl, ext3, sz3, tab3, trip3⟩ := hq
  have szP : (s1.heap.push ob).objs.size = s1.heap.objs.size + 1 := Heap.size_push ..
  have old3 : ∀ b u, b ≠ P → s1.heap.get? b = some u → h3.get? b = some u := fun b u hb e => ext3 b u hb (Heap.get?_push_of_some _ e)
  have isTabP : ∀ b u, s1.heap.get? b = some u → u.cls = .type "tuple" → b ≠ P := fun b u e hc z => by
    rw [z] at e
    rw [tabAt] at e
    cases e
    cases hc
  -- the built-ins, then the walk
  obtain ⟨bm, obm, b1, b2, b3, b4, b5, b6, b7, b8⟩ := TB.bm
  refine wpAny_builtinsFor (m := X.mg) (by rw [I1.ok.glob]; exact ((I1.mod.glob.keeps I1.bk).push ob).extBut ext3 TB.gP) b1 b2 (old3 _ _ b4 (I1.bk _ _ b5)) b6 b7 b8 ?_
  have notStat : cStatics ≠ P := fun z => by
    obtain ⟨_, hns, _⟩ := I1.nolimit
    obtain ⟨o', es, ep, ho, hd', _⟩ := hns
    rw [z] at ho
    rw [tabAt] at ho
    cases ho
    cases hd'
  have ltStat : cStatics < s1.heap.objs.size := by
    obtain ⟨_, hns, _⟩ := I1.nolimit
    exact hns.lt
  have ltY : yl < s1.heap.objs.size := by
    obtain ⟨_, e, _⟩ := tupY'
    exact Heap.lt_size e
  have iter3 : h3.IsTupleIter s1.heap.objs.size yl 0 := by
    refine ⟨ob, ext3 _ _ (Nat.ne_of_gt ltP) (Heap.get?_push_size _ (by rw [← hob]; rfl)), by rw [← hob], by rw [← hob]; rfl⟩
  have tup3 : h3.IsTuple yl its.toArray := by
    obtain ⟨oy, e, hc, hdt⟩ := tupY'
    exact ⟨oy, old3 _ _ (isTabP _ _ e hc) e, hc, hdt⟩
  refine ⟨s1.heap.objs.size, [s1.heap.objs.size, yl], [s1.heap.objs.size], its.toArray.size, fun i u => its.toArray[i]? = some u, fun i h => h.IsTupleIter s1.heap.objs.size yl i ∧ h.IsTuple yl its.toArray, fun _ => true, fun i y => ∃ t, y = .int (amtAt ls i) t,
    rfl, fun A' hA => Walks.tuple hA _ _ (Nat.ne_of_lt ltY) _, ⟨iter3, tup3⟩, ?_, lim.extBut ext3 notStat, ?_, ?_, ?_⟩
  · intro b hb
    show b < h3.objs.size
    have le3 : s1.heap.objs.size + 1 ≤ h3.objs.size := by rw [← szP]; exact sz3
    rcases List.mem_cons.mp hb with z | hb
    · rw [z]
      exact le3
    · rw [List.mem_singleton.mp hb]
      exact Nat.lt_of_lt_of_le ltY (Nat.le_of_succ_le le3)
  · intro z
    exact Nat.ne_of_lt ltStat (List.mem_singleton.mp z)
  · intro href hhref
    refine ⟨fun A' E' i u s2 m2 _ _ _ _ _ => ?_, fun A' E' i u s2 m2 hA hu _ hn hx hk => ?_⟩
    · simp only [List.forIn_nil]
      exact wpAny_pure ⟨rfl, GxR.keeps_refl _⟩
    · obtain ⟨a, l, vs, t, rfl, hl, ⟨oa, ea, ca, na, da⟩, h1, hz⟩ := item i u hu
      have ltA : a < s1.heap.objs.size := Heap.lt_size ea
      have eA : s2.heap.get? a = some oa := hk a (List.mem_range.mpr (Nat.lt_of_lt_of_le ltA (Nat.le_trans (Nat.le_succ _) (by rw [← Nat.add_one, ← szP]; exact sz3)))) (fun z => Nat.ne_of_lt ltA (List.mem_singleton.mp z)) oa (hhref _ _ (old3 _ _ (isTabP _ _ ea ca) ea))
      refine wpAny_mono (elt_snd S.kind S.loc hn hx ⟨oa, eA, ca, na, da⟩ h1 hz hd) (fun y s3 q => ⟨⟨t, ?_⟩, q.2⟩) fun _ _ z => z
      rw [q.1]
      unfold amtAt
      rw [hl]
      rfl
  · -- the sum over the generator
    intro g h5 tk5 gs gsb lt5 sz5 keep5 W at0
    simp only [GxR.passing_true, List.length_range] at W
    have nn : its.toArray.size = ls.length := by rw [List.size_toArray, nIts]
    refine Calls.spliced_nil ?_
    have W1 := W.in4_1
    refine call_sum_walkS (W1.self 0 _ _ _ at0 ⟨g, _, _, _, _, _, _, amtAt ls, rfl, W1, at0, fun b hb => ?_, fun i u hu => ?_, fun j hj => ?_, fun s' t' mv => ?_⟩)
    · show b < h5.objs.size
      have lt5' : h3.objs.size < g := lt5
      rw [show h5.objs.size = g + 1 from sz5]
      rcases List.mem_cons.mp hb with z | hb
      · rw [z]
        exact Nat.lt_succ_self g
      · rcases List.mem_cons.mp hb with z | hb
        · rw [z]
          exact Nat.lt_succ_of_lt lt5'
        · exact Nat.lt_succ_of_lt (Nat.lt_trans (List.mem_range.mp hb) lt5')
    · obtain ⟨i', hi', t, e⟩ := hu
      obtain ⟨_, ei⟩ := List.getElem?_eq_some_iff.mp hi'
      rw [List.getElem_range] at ei
      subst ei
      exact ⟨t, e⟩
    · rw [nn] at hj
      have h1 := amtAt_in amts j
      have h2 := preSum_in (amtAt_in amts) (j + 1)
      have h3 : ((j + 1 : Nat) : Int) ≤ 100 := by omega
      unfold InLong
      constructor <;> constructor <;> omega
    · have notW : ∀ b u, s1.heap.get? b = some u → b ∉ h3.objs.size :: [s1.heap.objs.size] := fun b u e hb => by
        have lt := Heap.lt_size e
        have le3 : s1.heap.objs.size + 1 ≤ h3.objs.size := by rw [← szP]; exact sz3
        rcases List.mem_cons.mp hb with z | z
        · rw [z] at lt
          exact absurd (Nat.lt_of_lt_of_le lt (Nat.le_of_succ_le le3)) (Nat.lt_irrefl _)
        · rw [List.mem_singleton.mp z] at lt
          exact Nat.lt_irrefl _ lt
      have J := inv_tabIs (hN := s'.heap) (gN := s'.gens) (dN := s'.drawn) (tN := s'.toks) I1 tab (fun b u hb e => mv.heap b u (notW b u e) (keep5 b u (old3 b u hb e))) (mv.heap P _ (notW P _ tabAt) (keep5 P _ tab3)) trip3 (AllBare.movedS (I1.bare.push gsb) mv)
      rw [GxR.sh_eta s1 s' mv.os] at J
      exact ⟨.int _, H1, J, ⟨_, rfl⟩, fin _⟩
/-- max of a tuple of ints: some int -/
def rMaxT (K : PySem.W.Frag) : List V → Hp → VK → Prop := fun vs H Q => ∃ (a : Addr) (n : Int) (ns : List Int), vs = [V.ref a] ∧ SqT K H a ((n :: ns).map V.int) ∧ ∀ m, Q (.int m) H
theorem dp_ints (K : PySem.W.Frag) (H : Hp) : ∀ ns : List Int, DpAll K H (ns.map V.int) (ns.map PyData.int)
  | [] => .nil
  | n :: r => .cons (.int n) (dp_ints K H r)
theorem depth_ints : ∀ ns : List Int, PyData.depthAll (ns.map PyData.int) = 0
  | [] => rfl
  | n :: r => by
    simp only [List.map_cons, PyData.depthAll, PyData.depth, depth_ints r]
    rfl
theorem cr_maxT {k : Nat} (hc : X.calm = true) (hr : Room k X.A) : CallR X (.builtin "max") (rMaxT X.K) := by
  intro pins s σ H vs us Q I r h
  obtain ⟨a, n, ns, rfl, hs, q⟩ := h
  obtain ⟨its, rv, tup, _⟩ := I.tuple hs
  obtain ⟨as, rd⟩ := Dp.readsAll I ((n :: ns).map PyData.int) _ _ (dp_ints X.K H (n :: ns)) rv
  rw [Vals.ref1 r]
  refine PySem.W.max_tuple_data (I.ok.hd hc) (show s.heap.IsTuple a its.toArray from tup) (x := .int n) (xs := ns.map PyData.int) (by simpa using rd) ?_ (by
    have e : PyData.depthAll (PyData.int n :: ns.map PyData.int) = 0 := depth_ints (n :: ns)
    rw [e]
    have := hr.un
    omega) fun i v h' tk bs hv _ keep => ?_
  · have isI : ∀ d ∈ PyData.int n :: ns.map PyData.int, ∃ z : Int, d = .int z := fun d hd => by
      obtain ⟨z, _, e⟩ := List.mem_map.mp (show d ∈ (n :: ns).map PyData.int from hd)
      exact ⟨z, e.symm⟩
    refine ⟨fun d hd e he => ?_, fun d hd z => ?_⟩
    · obtain ⟨z, rfl⟩ := isI d hd
      obtain ⟨y, rfl⟩ := isI e he
      rfl
    · obtain ⟨y, rfl⟩ := isI d hd
      cases z
  · have hv2 : its[i]? = some v := by simpa using hv
    have hx : ∃ z : Int, ((n :: ns).map V.int)[i]? = some (V.int z) := by
      have lt : i < ((n :: ns).map V.int).length := by
        have := (List.getElem?_eq_some_iff.mp hv2).1
        rw [rv.length]
        exact this
      rw [List.length_map] at lt
      exact ⟨(n :: ns)[i], by rw [List.getElem?_map, List.getElem?_eq_getElem lt]; rfl⟩
    obtain ⟨z, hz⟩ := hx
    obtain ⟨u, hu, ru⟩ := rv.get hz
    rw [hv2] at hu
    cases hu
    exact ⟨.int z, H, I.kept keep, ru, q z⟩
end
end Tk
/-! The money of a state, what fits, what is shared out. -/
namespace Tk
open PySem PySem.Spec PyProof.Rows L2
local macro_rules | `(tactic| walk_at "vl") => `(tactic| first
  | ((with_reducible refine' val_var ?a1); (case a1 => rfl))
  | ((with_reducible refine' val_c))
  | ((with_reducible refine' f_Vault_opening ?a1 ?a2 ?a3); (case a1 => assumption); (case a2 => walk_at "vl"); (case a3 => assumption))
  | ((with_reducible refine' f_Vault_money ?a1 ?a2 ?a3); (case a1 => assumption); (case a2 => walk_at "vl"); (case a3 => assumption))
  | ((with_reducible refine' f_Vault_sums ?a1 ?a2 ?a3); (case a1 => assumption); (case a2 => walk_at "vl"); (case a3 => assumption))
  | ((with_reducible refine' f_Vault_splices ?a1 ?a2 ?a3); (case a1 => assumption); (case a2 => walk_at "vl"); (case a3 => assumption))
  | ((with_reducible refine' f_Vault_least ?a1 ?a2 ?a3); (case a1 => assumption); (case a2 => walk_at "vl"); (case a3 => assumption))
  | ((with_reducible refine' f_Vault_published ?a1 ?a2 ?a3); (case a1 => assumption); (case a2 => walk_at "vl"); (case a3 => assumption))
  | ((with_reducible refine' f_Vault_since ?a1 ?a2 ?a3); (case a1 => assumption); (case a2 => walk_at "vl"); (case a3 => assumption))
  | ((with_reducible refine' f_Book_purses ?a1 ?a2 ?a3); (case a1 => assumption); (case a2 => walk_at "vl"); (case a3 => assumption))
  | ((with_reducible refine' f_Book_vaults ?a1 ?a2 ?a3); (case a1 => assumption); (case a2 => walk_at "vl"); (case a3 => assumption))
  | ((with_reducible refine' f_Book_receipts ?a1 ?a2 ?a3); (case a1 => assumption); (case a2 => walk_at "vl"); (case a3 => assumption))
  | ((with_reducible refine' f_Book_ended ?a1 ?a2 ?a3); (case a1 => assumption); (case a2 => walk_at "vl"); (case a3 => assumption))
  | ((with_reducible refine' f_Book_done ?a1 ?a2 ?a3); (case a1 => assumption); (case a2 => walk_at "vl"); (case a3 => assumption))
  | ((with_reducible refine' f_Book_height ?a1 ?a2 ?a3); (case a1 => assumption); (case a2 => walk_at "vl"); (case a3 => assumption))
  | ((with_reducible refine' f_Book_burnt ?a1 ?a2 ?a3); (case a1 => assumption); (case a2 => walk_at "vl"); (case a3 => assumption))
  | ((with_reducible refine' f_Ledger_book ?a1 ?a2 ?a3); (case a1 => assumption); (case a2 => walk_at "vl"); (case a3 => assumption))
  | ((with_reducible refine' f_Ledger_room ?a1 ?a2 ?a3); (case a1 => assumption); (case a2 => walk_at "vl"); (case a3 => assumption))
  | ((with_reducible refine' f_Ledger_waiting ?a1 ?a2 ?a3); (case a1 => assumption); (case a2 => walk_at "vl"); (case a3 => assumption))
  | ((with_reducible refine' v_ix ?a1 ?a2 ?a3 ?a4); (case a1 => walk_at "vl"); (case a2 => walk_at "vl"); (case a3 => assumption); (case a4 => rfl))
  | ((with_reducible refine' v_I0 ?a1 ?a2); (case a1 => walk_at "vl"); (case a2 => walk_at "vl"))
  | ((with_reducible refine' v_isN ?a1); (case a1 => walk_at "vl"))
  | ((with_reducible refine' v_notN ?a1); (case a1 => walk_at "vl"))
  | ((with_reducible refine' v_int1 ?a1); (case a1 => walk_at "vl"))
  | ((with_reducible refine' v_eq ?a1 ?a2 ?a3); (case a1 => walk_at "vl"); (case a2 => walk_at "vl"); (case a3 => rfl))
  | ((with_reducible refine' v_ne ?a1 ?a2 ?a3); (case a1 => walk_at "vl"); (case a2 => walk_at "vl"); (case a3 => rfl))
  | ((with_reducible refine' v_max2 ?a1 ?a2); (case a1 => walk_at "vl"); (case a2 => walk_at "vl"))
  | ((with_reducible refine' v_min2 ?a1 ?a2); (case a1 => walk_at "vl"); (case a2 => walk_at "vl")))
local macro_rules | `(tactic| walk_at "va") => `(tactic| first
  | (with_reducible exact va_nil)
  | ((with_reducible refine' va_cons ?a1 ?a2); (case a1 => walk_at "vl"); (case a2 => walk_at "va")))

/-- the code object of total, its table -/
def cTot (K : PySem.W.Frag) : Addr := He.codeOf K ("total", none)
def pTot (K : PySem.W.Frag) : Addr := He.tabOf K (cTot K)
abbrev Tb (K : PySem.W.Frag) (mg : Str → Option Value) (base : Heap) : Prop := GxR.TabB base mg (cTot K) (pTot K)
abbrev Tab (K : PySem.W.Frag) (H : Hp) : Prop := TabH H (pTot K)
theorem Tab.ex {K : PySem.W.Frag} {H H' : Hp} (e : Ex H H') (h : Tab K H) : Tab K H' := e _ _ h
/-- a state that the law makes -/
structure StOk (s : Sd) : Prop where
  am : ∀ l ∈ s.locks, 0 ≤ l.amt ∧ l.amt ≤ 1000
  few : s.locks.length ≤ 100
def spTotal (K : PySem.W.Frag) : Sp := fun vs H Q _ => ∃ (a : Addr) (s : Sd), vs = [.ref a] ∧ StateAt K H a s ∧ StOk s ∧ Tab K H ∧ ∀ i, Q (.int i) H
def spFits (K : PySem.W.Frag) : Sp := fun vs H Q _ => ∃ (v a : Addr) (d : Vd) (s : Sd), vs = [.ref v, .ref a] ∧ VaultAt K H v d ∧ StateAt K H a s ∧ StOk s ∧ Tab K H ∧
  ∀ (b : Bool) (H' : Hp), Ex H H' → (b = true → 0 ≤ s.fst + d.sums.s0 - d.sums.s1) → Q (.bl b) H'
def spShares (K : PySem.W.Frag) : Sp := fun vs H Q _ => ∃ (v r : Addr) (d : Vd) (s : Sd) (rs : Pm), vs = [.ref v, .ref r] ∧ VaultAt K H v d ∧ d.pub = some s ∧ StOk s ∧ H r = some (.dK (dkI rs)) ∧
  ∀ (H' : Hp) (p : Addr) (x : Int), Ex H H' → x ≤ d.money → (0 ≤ s.fst + d.sums.s0 - d.sums.s1 → 0 ≤ d.money → 0 ≤ x) → H p = none → H' p = some (.tup [.int x, .int (d.money - x)]) → Q (.ref p) H'
section
variable {P : Program} {w : World} {K : PySem.W.Frag} {mg : Str → Option Value} {base : Heap}
/-- a def whose code object is asked -/
theorem hasFC {x qual : Str} {st : Stmt} {k : Nat} {N ps : List Str} {sp : Sp} (F : ∃ fd, FunD K x qual (defArgs st) (defBody st) (defScope st) [] [] (He.ga K x) fd) (m : mg x = some (.ref (He.ga K x))) (S : FnScope N ps (defScope st))
    (hb : ∀ (kV doc pm : Value) (an : Option Addr) (cdv ct : Value) (us : List Value), us.length = ps.length → bindArgs (PySem.W.fnOf x qual (defArgs st) (defBody st) (defScope st) .none kV doc pm an cdv ct) ⟨us, []⟩ = pure (ps.zip us))
    (len : ∀ vs H Q E, sp vs H Q E → vs.length = ps.length)
    (body : ∀ (f : Addr) (A : Around) (outer : List Env) (s : Shared) (H : Hp) (vs : List V) (Q : VK) (E : XK), Room k (A.deeper (envOfC qual (defScope st) s.heap.objs.size f (.ref (He.codeOf K (x, none))))) → sp vs H Q E →
      ∃ t, PSs (cxOf CX0 P w K mg base N qual (defScope st) f (.ref (He.codeOf K (x, none))) A outer s H E).nox (defBody st) t ∧ t { nx := fun _ H' => Q .non H', rt := Q } (start N vs) H) : HasF P w K mg base x (k + 1) ps sp := by
  obtain ⟨fd, F⟩ := F
  refine ⟨⟨fd, ?_, F.bindsN hb⟩, m, F.kp⟩
  obtain ⟨oc, od, dV, kV, doc, pm, an, cdv, ct, osl, rfl, lk, hcd, _, _⟩ := F.ex
  obtain ⟨c, rfl⟩ := He.codeIn_ref hcd
  have ec : He.codeOf K (x, none) = c := He.codeOf_eq lk rfl
  rw [← ec] at lk hcd
  rw [← ec]
  refine fn_of lk hcd S len fun A outer s H vs Q E hr h => ?_
  obtain ⟨t, h1, h2⟩ := body _ A outer s H vs Q E hr h
  exact ⟨t, h1.nox, h2⟩
theorem ok_total (T : Txt K mg) (TB : Tb K mg base) : HasF P w K mg base "total" 2 ["state"] (spTotal K) := by
  refine hasFC (st := s_total) T.f_total T.g_total sc_total (fun _ _ _ _ _ _ us hl => match us, hl with | [_], _ => rfl) (fun vs H Q E h => ?_) (fun f A outer s H vs Q E hr h => ?_)
  · obtain ⟨a, s, rfl, _⟩ := h
    rfl
  · obtain ⟨a, s, rfl, h1, h2, tb, k⟩ := h
    obtain ⟨la, as, t1, t2, t3⟩ := h1.at_
    refine ⟨_, (pss_one (ps_ret (pe_op op_add (pe_op op_add (pe_ix (ix_tupK (K := K) rfl) (pv 0) pe_int (fun _ _ => rfl)) (pe_ix (ix_tupK (K := K) rfl) (pv 0) pe_int (fun _ _ => rfl))) (pe_sumG hr (by rfl) T.z_sum TB rfl ⟨rfl, rfl, by decide +kernel, by decide +kernel, by decide +kernel, noFree (by decide +kernel)⟩ (pe_ix (ix_tupK (K := K) rfl) (pv 0) pe_int (fun _ _ => rfl)))))), ?_⟩
    refine s_ret ?_
    refine' q_opG (go (by walk_at "vl") ?_)
    refine' q_sumG (by walk_at "vl") t2 t3 h2.am h2.few tb fun i => ⟨_, _, rfl, rfl, k _⟩
theorem ok_fits (T : Txt K mg) (TB : Tb K mg base) : HasF P w K mg base "fits" 3 ["vault", "state"] (spFits K) := by
  have G_total : HasF P w K mg base "total" 2 ["state"] (spTotal K) := ok_total T TB
  have G_free_of : HasF P w K mg base "free_of" 1 ["vault", "state"] (spFreeOf K) := ok_free_of T
  refine hasF (st := s_fits) T.f_fits T.g_fits sc_fits (fun _ _ _ _ _ _ us hl => match us, hl with | [_, _], _ => rfl) (fun vs H Q E h => ?_) (fun f cdv A outer s H vs Q E hr h => ?_)
  · obtain ⟨v, a, d, s, rfl, _⟩ := h
    rfl
  · obtain ⟨v, a, d, s, rfl, h1, h2, h3, tb, k⟩ := h
    refine ⟨_, (pss_cons (ps_asg (pe_f G_free_of (hr.mono (by decide)) (pa_cons (pv 0) (pa_cons (pv 1) pa_nil))) (pg_tup rfl (pgs_cons (pg_name (i := 2) sc_fits.nd rfl (by first | exact Or.inl rfl | exact Or.inr rfl)) (pgs_cons (pg_name (i := 3) sc_fits.nd rfl (by first | exact Or.inl rfl | exact Or.inr rfl)) pgs_nil))))
      (pss_one (ps_ret (pe_and (pe_cmpR op_eq (pe_f G_total hr (pa_cons (pv 1) pa_nil)) (pe_op op_add (pe_ix (ix_tupK (K := K) rfl) (pe_fldK (K := K) rfl (pv 0) rfl) pe_int (fun _ _ => rfl)) (pe_ix (ix_tupK (K := K) rfl) (pe_fldK (K := K) rfl (pv 0) rfl) pe_int (fun _ _ => rfl))) (nomark _)) (pe_and (pe_cmpR op_ge (pv 2) pe_int (nomark _)) (pe_one (pe_cmpR op_ge (pv 3) pe_int (nomark _)))))))), ?_⟩
    refine' q_asgG (q_call (by walk_at "va") ?_)
    refine ⟨v, a, d, s, rfl, h1, h2, fun H' p e _ hp => ?_⟩
    refine g_tup2 (SqT.of hp) ?_
    have h1' := h1.ex e
    have h2' := h2.ty (ex_ty e)
    obtain ⟨dx, oa, sa, pq, o1, t1, t2, t3⟩ := h1'.at_
    refine s_ret (q_andV (q_opG ?_))
    refine' q_call (by walk_at "va") ?_
    refine ⟨a, s, rfl, h2', h3, tb.ex e, fun i => ?_⟩
    refine' go (by walk_at "vl") ?_
    refine ⟨rfl, _, rfl, if_b (fun _ => ?_) (fun _ => k false _ e fun z => by cases z)⟩
    refine' go (v_andV (b := decide (0 ≤ s.fst + d.sums.s0 - d.sums.s1)) (by walk_at "vl") (fun _ => by walk_at "vl")) ?_
    refine k _ _ e fun z => ?_
    rw [Bool.and_eq_true] at z
    exact of_decide_eq_true z.1
theorem ok_shares (T : Txt K mg) : HasF P w K mg base "shares" 4 ["vault", "receipts"] (spShares K) := by
  have G_worth : HasF P w K mg base "worth" 3 ["state", "receipts"] (spWorth K) := ok_worth T
  refine hasF (st := s_shares) T.f_shares T.g_shares sc_shares (fun _ _ _ _ _ _ us hl => match us, hl with | [_, _], _ => rfl) (fun vs H Q E h => ?_) (fun f cdv A outer s H vs Q E hr h => ?_)
  · obtain ⟨v, r, d, s, rs, rfl, _⟩ := h
    rfl
  · obtain ⟨v, r, d, s, rs, rfl, h1, h2, h3, hd, k⟩ := h
    obtain ⟨dx, oa, sa, pq, o1, t1, t2, t3⟩ := h1.at_
    rw [h2] at t3
    obtain ⟨a, rfl, t3⟩ := t3
    refine ⟨_, (pss_cons (ps_asg (pe_fldK (K := K) rfl (pv 0) rfl) (pg_tup rfl (pgs_cons (pg_name (i := 2) sc_shares.nd rfl (by first | exact Or.inl rfl | exact Or.inr rfl)) (pgs_cons (pg_name (i := 3) sc_shares.nd rfl (by first | exact Or.inl rfl | exact Or.inr rfl)) (pgs_cons (pg_name (i := 4) sc_shares.nd rfl (by first | exact Or.inl rfl | exact Or.inr rfl)) (pgs_cons (pg_name (i := 4) sc_shares.nd rfl (by first | exact Or.inl rfl | exact Or.inr rfl)) pgs_nil))))))
      (pss_cons (ps_set (i := 5) sc_shares.nd rfl (by first | exact Or.inl rfl | exact Or.inr rfl) (pe_callB (call_min2 rfl) (by rfl) T.z_min (by decide +kernel) (pa_cons (pe_op op_sub (pe_op op_add (pe_ix (ix_tupK (K := K) rfl) (pe_f G_worth hr (pa_cons (pe_fldK (K := K) rfl (pv 0) rfl) (pa_cons (pv 1) pa_nil))) pe_int (fun _ _ => rfl)) (pv 2)) (pv 3)) (pa_cons (pe_fldK (K := K) rfl (pv 0) rfl) pa_nil))))
      (pss_one (ps_ret (pe_tup (pa_cons (pv 5) (pa_cons (pe_op op_sub (pe_fldK (K := K) rfl (pv 0) rfl) (pv 5)) pa_nil))))))), ?_⟩
    refine' q_asgG (go (by walk_at "vl") ?_)
    refine g_tup4 t2.t ?_
    refine q_asg (q_cb (q_consG (q_opG (q_opG (q_opG ?_)))))
    refine' q_call (by walk_at "va") ?_
    refine ⟨a, r, s, rs, rfl, t3, fun l hl => (h3.am l hl).1, hd, fun H' p x y e hx hp hp' => ?_⟩
    have o1' := e _ _ o1
    refine ⟨p, _, 0, _, rfl, rfl, SqT.of hp', rfl, ?_⟩
    refine' go (by walk_at "vl") ?_
    refine ⟨_, _, rfl, rfl, ?_⟩
    refine' go (by walk_at "vl") ?_
    refine ⟨_, _, rfl, rfl, ?_⟩
    refine' q_cons (by walk_at "vl") ?_
    refine q_nil ⟨_, _, rfl, ?_⟩
    refine' s_ret (q_tup (by walk_at "va") (by show 2 ≤ 1000; decide) fun q hq => ?_)
    refine k _ q _ (e.trans (Evl.Ex.new hq)) ?_ ?_ (Evl.fresh_back e hq) upd_same
    · split <;> omega
    · intro z1 z2
      split <;> omega
end
end Tk
/-! The book in the heap; tests that lay new things; a word more. -/
namespace Tk
open PySem PySem.Spec PyProof.Rows L2
structure Bk where
  purses : Pm
  vaults : List (Int × (Addr × Vd))
  receipts : Pm
  ended : List Int
  done : List (Int × Int)
  height : Int
  burnt : Int
structure Ad where
  (bk pd vd rd el dl : Addr)
def PairsAt (K : PySem.W.Frag) (H : Hp) (as : List Addr) (ps : List (Int × Int)) : Prop := as.length = ps.length ∧ ∀ (i : Nat) a p, as[i]? = some a → ps[i]? = some p → Tp K H a [.int p.1, .int p.2]
def vR (p : Addr × Vd) : V := .ref p.1
structure BookAt (K : PySem.W.Frag) (H : Hp) (A : Ad) (b : Bk) : Prop where
  ob : ∃ dx, H A.bk = some (.ins (He.ga K "Book") dx (bF A.pd A.vd A.rd A.el A.dl b.height b.burnt))
  pu : H A.pd = some (.dK (dkI b.purses))
  va : H A.vd = some (.dK (dk vR b.vaults))
  vs : ∀ p ∈ b.vaults, VaultAt K H p.2.1 p.2.2
  re : H A.rd = some (.dK (dkI b.receipts))
  en : H A.el = some (.lst (b.ended.map V.int))
  dn : ∃ das : List Addr, H A.dl = some (.lst (das.map V.ref)) ∧ PairsAt K H das b.done
  n1 : A.pd ≠ A.vd
  n2 : A.pd ≠ A.rd
  n3 : A.vd ≠ A.rd
  n4 : A.el ≠ A.dl
  nv : (b.vaults.map (·.2.1)).Nodup
section
variable {K : PySem.W.Frag} {H H' H0 : Hp} {A : Ad} {b : Bk}
theorem PairsAt.ty {as : List Addr} {ps : List (Int × Int)} (e : Ty H H') (h : PairsAt K H as ps) : PairsAt K H' as ps := ⟨h.1, fun i a p h1 h2 => (h.2 i a p h1 h2).ty e⟩
theorem BookAt.ex (e : Ex H H') (h : BookAt K H A b) : BookAt K H' A b := by
  obtain ⟨dx, o⟩ := h.ob
  obtain ⟨das, d1, d2⟩ := h.dn
  exact ⟨⟨dx, e _ _ o⟩, e _ _ h.pu, e _ _ h.va, fun p hp => (h.vs p hp).ex e, e _ _ h.re, e _ _ h.en, ⟨das, e _ _ d1, d2.ty (ex_ty e)⟩, h.n1, h.n2, h.n3, h.n4, h.nv⟩
/-- the vault of a number -/
theorem BookAt.vault {n : Int} {a : Addr} {d : Vd} (h : BookAt K H A b) (g : getI b.vaults n = some (a, d)) : VaultAt K H a d := h.vs _ (getI_mem g)
end
theorem PairsAt.snoc {K : PySem.W.Frag} {H : Hp} {as : List Addr} {ps : List (Int × Int)} {a : Addr} {p : Int × Int} (h : PairsAt K H as ps) (t : Tp K H a [.int p.1, .int p.2]) : PairsAt K H (as ++ [a]) (ps ++ [p]) := by
  refine ⟨by rw [List.length_append, List.length_append, h.1]; rfl, fun i b q h1 h2 => ?_⟩
  have hl := h.1
  by_cases hi : i < as.length
  · rw [List.getElem?_append_left hi] at h1
    rw [List.getElem?_append_left (by omega)] at h2
    exact h.2 i b q h1 h2
  · rw [List.getElem?_append_right (by omega)] at h1
    rw [List.getElem?_append_right (by omega)] at h2
    have e1 : i - as.length = 0 := by
      have := (List.getElem?_eq_some_iff.mp h1).1
      simp at this
      omega
    have e2 : i - ps.length = 0 := by omega
    rw [e1] at h1
    rw [e2] at h2
    cases h1
    cases h2
    exact t
/-! ### tests whose answer is told by what it means -/
section
variable {K : PySem.W.Frag} {mg : Str → Option Value} {σ : L2.St} {H H0 : Hp} {ta tb te ty td : TE} {t u : TT} {p a w : Addr} {R S : Bool → Prop} {b : Bool} {D : Ends} {us : TS} {c : Str} {xs : List V} {i : Nat}
def AnsN (t : TT) (σ : L2.St) (H : Hp) (R : Bool → Prop) : Prop := ∀ Q : Bool → Hp → Prop, (∀ b H', Ex H H' → R b → Q b H') → t σ H Q
def ValN (te : TE) (σ : L2.St) (H : Hp) (R : V → Hp → Prop) : Prop := ∀ Q : VK, (∀ v H', Ex H H' → R v H' → Q v H') → te σ H Q
theorem Ans.n (h : Ans t σ H b) : AnsN t σ H (fun c => c = b) := fun Q q => h Q (q b H (Evl.Ex.refl H) rfl)
theorem AnsN.any (h : AnsN t σ H R) : AnsN t σ H (fun _ => True) := fun Q q => h Q fun b H' e _ => q b H' e trivial
theorem AnsN.imp (h : AnsN t σ H R) (hi : ∀ b, R b → S b) : AnsN t σ H S := fun Q q => h Q fun b H' e r => q b H' e (hi b r)
theorem an_not (h : AnsN t σ H R) : AnsN (tNot t) σ H (fun b => R (!b)) := fun Q q => h _ fun b H' e r => q (!b) H' e (by show R (!!b); rw [Bool.not_not]; exact r)
theorem an_B (h : ValN te σ H fun v _ => ∃ b, v = .bl b ∧ R b) : AnsN (tB te) σ H R := fun Q q => h _ fun v H' e ⟨b, hv, r⟩ => ⟨b, hv, q b H' e r⟩
theorem an_and (h1 : AnsN t σ H fun _ => True) (h2 : ∀ H', Ex H H' → AnsN u σ H' fun _ => True) : AnsN (tAnd t u) σ H fun _ => True := fun Q q => h1 _ fun b H' e _ => by
  cases b with
  | true => exact h2 H' e _ fun c H2 e2 _ => q c H2 (e.trans e2) trivial
  | false => exact q false H' e trivial
theorem a_din {α : Type} {g : α → V} {l : List (Int × α)} {k : Int} (h : Val ty σ H (.int k)) (h2 : Val td σ H (.ref a)) (ha : H a = some (.dK (dk g l))) : Ans (tB (tDIn ty td)) σ H (getI l k).isSome := fun Q q =>
  h _ (h2 _ ⟨a, _, rfl, DGet.k (k := Sum.inl k) ha, _, rfl, by
    rw [valV_dk]
    cases e : getI l k with
    | none => rw [e] at q; exact q
    | some v => rw [e] at q; exact q⟩)
theorem a_dnin {α : Type} {g : α → V} {l : List (Int × α)} {k : Int} (h : Val ty σ H (.int k)) (h2 : Val td σ H (.ref a)) (ha : H a = some (.dK (dk g l))) : Ans (tB (tDNotIn ty td)) σ H (!(getI l k).isSome) := fun Q q =>
  h _ (h2 _ ⟨a, _, rfl, DGet.k (k := Sum.inl k) ha, _, rfl, by
    rw [valV_dk]
    cases e : getI l k with
    | none => rw [e] at q; exact q
    | some v => rw [e] at q; exact q⟩)
theorem v_dget {α : Type} {g : α → V} {l : List (Int × α)} {k : Int} {v : α} (h2 : Val td σ H (.ref a)) (h : Val ty σ H (.int k)) (ha : H a = some (.dK (dk g l))) (hv : getI l k = some v) : Val (tDGet td ty) σ H (g v) := fun Q q =>
  h2 _ (h _ ⟨a, _, rfl, (by
    have z := DGet.k (k := Sum.inl k) ha
    rw [valV_dk, hv] at z
    exact z), q⟩)
theorem v_ntest {x : V} (h : Val te σ H x) : Ans (tTest (tOp (fun x y H Q => y = V.non ∧ Q (V.bl (!decide (x = V.non))) H) te (tC .non))) σ H (!decide (x = .non)) := a_val (v_notN h)
theorem v_itest {x : V} (h : Val te σ H x) : Ans (tTest (tOp (fun x y H Q => y = V.non ∧ Q (V.bl (decide (x = V.non))) H) te (tC .non))) σ H (decide (x = .non)) := a_val (v_isN h)
theorem q_dget2 {α : Type} {g : α → V} {l : List (Int × α)} {k : Int} {tx : TE} {z : V} {Q : VK} (h1 : Val td σ H (.ref a)) (h2 : Val ty σ H (.int k)) (h3 : Val tx σ H z) (ha : H a = some (.dK (dk g l))) (q : Q (((getI l k).map g).getD z) H) : tDGet2 td ty tx σ H Q :=
  h1 _ ⟨a, rfl, .inl ⟨_, .inl ha⟩, h2 _ (h3 _ ⟨_, DGet.k (k := Sum.inl k) ha, by rw [valV_dk]; exact q⟩)⟩
theorem q_dput {α : Type} {g : α → V} {l : List (Int × α)} {k : Int} {tv : TE} {x : α} {D : Ends} (hv : Val tv σ H (g x)) (h1 : Val td σ H (.ref a)) (h2 : Val ty σ H (.int k)) (ha : H a = some (.dK (dk g l))) (hl : l.length < 100000) (q : D.nx σ (upd H a (.dK (dk g (putI l k x))))) : sDPut td ty tv D σ H :=
  hv _ (h1 _ (h2 _ ⟨a, _, rfl, DPut.k (k := Sum.inl k) ha (Nat.lt_trans (by rw [dk_len]; exact hl) (by decide)), by rw [put_dk]; exact q⟩))
/-- if test: words.append('..'); what follows -/
theorem q_word (e : Ex H0 H) (h0 : H0 w = none) (hw : H w = some (.lst xs)) (hl : xs.length < 100) (hi : σ[i]? = some (some (.ref w))) (ht : AnsN t σ H R)
    (k : ∀ (ys : List V) (H' : Hp), Ex H0 H' → H' w = some (.lst ys) → ys.length ≤ xs.length + 1 → (ys = [] → xs = [] ∧ R false) → us D σ H') : Evl.tCut (tIfS t (tDrop (tBM K "list" rAppend (tVar i) (tCons (tC (.str c)) tNil))) tNext) us D σ H := by
  refine ⟨fun σ' H' => σ' = σ ∧ ∃ ys : List V, Ex H0 H' ∧ H' w = some (.lst ys) ∧ ys.length ≤ xs.length + 1 ∧ (ys = [] → xs = [] ∧ R false), ?_, ?_⟩
  · refine ht _ fun b H1 e1 r => ?_
    have hw1 := e1 _ _ hw
    cases b with
    | true => exact ⟨_, hi, .inl ⟨rfl, _, SqL.of hw1⟩, w, xs, _, rfl, rfl, hw1, Nat.lt_trans hl (by decide), rfl, xs ++ [.str c], Evl.Ex.mut (e.trans e1) h0, upd_same, by rw [List.length_append]; exact Nat.le_refl _, fun z => absurd z (by simp)⟩
    | false => exact ⟨rfl, xs, e.trans e1, hw1, Nat.le_succ _, fun z => ⟨z, r⟩⟩
  · rintro σ' H' ⟨rfl, ys, h1, h2, h3, h4⟩
    exact k ys H' h1 h2 h3 h4
/-- a test by a call of a def that tells a truth -/
theorem an_call {sp : Sp} {E : XK} {ta : TA} {vs : List V} (h : ValA ta σ H vs) (hs : ∀ Q : VK, (∀ (b : Bool) H', Ex H H' → R b → Q (.bl b) H') → sp vs H Q E) : AnsN (tB (tCall sp [] E ta)) σ H R := fun Q q =>
  q_call h (hs _ fun b H' e r => ⟨b, rfl, q b H' e r⟩)
/-- l.append(v), l.append((v, ..)) -/
theorem q_app {l : Addr} {to tv : TE} {v : V} {Q : VK} (h : Val to σ H (.ref l)) (hl : H l = some (.lst xs)) (hz : xs.length < 100000) (hv : Val tv σ H v) (q : Q .non (upd H l (.lst (xs ++ [v])))) :
    tBM K "list" rAppend to (tCons tv tNil) σ H Q := h _ ⟨.inl ⟨rfl, _, SqL.of hl⟩, hv _ ⟨l, xs, v, rfl, rfl, hl, Nat.lt_trans hz (by decide), q⟩⟩
theorem q_appT {l : Addr} {to : TE} {ta : TA} {vs : List V} {Q : VK} (h : Val to σ H (.ref l)) (hl : H l = some (.lst xs)) (hz : xs.length < 100000) (hv : ValA ta σ H vs) (h1 : vs.length ≤ 1000) (q : ∀ p, H p = none → Q .non (upd (upd H p (.tup vs)) l (.lst (xs ++ [.ref p])))) :
    tBM K "list" rAppend to (tCons (tTup ta) tNil) σ H Q := h _ ⟨.inl ⟨rfl, _, SqL.of hl⟩, q_consG (q_tup hv h1 fun p hp => q_nil ⟨l, xs, .ref p, rfl, rfl, by rw [upd_ne (ne_of_none hl hp)]; exact hl, Nat.lt_trans hz (by decide), q p hp⟩)⟩
/-- a new tuple at the end of a list that is ours -/
theorem ex_appT {l p : Addr} {vs ys : List V} (e : Ex H0 H) (h0 : H0 l = none) (hp : H p = none) : Ex H0 (upd (upd H p (.tup vs)) l (.lst ys)) := Evl.Ex.mut (e.trans (Evl.Ex.new hp)) h0
/-- a loop over a list whose target is a tuple -/
theorem q_forLG {tl : TE} {tb : TS} {g : TG} (hl : Val tl σ H (.ref a)) (Pv : Nat → L2.St → Hp → Prop) (h0 : Pv 0 σ H) (hk : ∀ i σ' H', i ≤ xs.length → Pv i σ' H' → SqL K H' a xs)
    (hs : ∀ i x σ' H', xs[i]? = some x → Pv i σ' H' → g x σ' H' fun σ2 H2 => tb { D with nx := Pv (i + 1), ct := Pv (i + 1), bk := us D } σ2 H2) (hd : ∀ σ' H', Pv xs.length σ' H' → us D σ' H') : tSeq (tFor (iList K tl) g tb) us D σ H :=
  hl _ ⟨a, rfl, ⟨xs, hk 0 σ H (Nat.zero_le _) h0⟩, for_list (D := { D with nx := us D }) Pv h0 hk hs hd⟩
end
end Tk
/-! What a thing takes. -/
namespace Tk
open PySem PySem.Spec PyProof.Rows L2
local macro_rules | `(tactic| walk_at "vl") => `(tactic| first
  | ((with_reducible refine' val_var ?a1); (case a1 => rfl))
  | ((with_reducible refine' val_c))
  | ((with_reducible refine' f_Vault_opening ?a1 ?a2 ?a3); (case a1 => assumption); (case a2 => walk_at "vl"); (case a3 => assumption))
  | ((with_reducible refine' f_Vault_money ?a1 ?a2 ?a3); (case a1 => assumption); (case a2 => walk_at "vl"); (case a3 => assumption))
  | ((with_reducible refine' f_Vault_sums ?a1 ?a2 ?a3); (case a1 => assumption); (case a2 => walk_at "vl"); (case a3 => assumption))
  | ((with_reducible refine' f_Vault_splices ?a1 ?a2 ?a3); (case a1 => assumption); (case a2 => walk_at "vl"); (case a3 => assumption))
  | ((with_reducible refine' f_Vault_least ?a1 ?a2 ?a3); (case a1 => assumption); (case a2 => walk_at "vl"); (case a3 => assumption))
  | ((with_reducible refine' f_Vault_published ?a1 ?a2 ?a3); (case a1 => assumption); (case a2 => walk_at "vl"); (case a3 => assumption))
  | ((with_reducible refine' f_Vault_since ?a1 ?a2 ?a3); (case a1 => assumption); (case a2 => walk_at "vl"); (case a3 => assumption))
  | ((with_reducible refine' f_Book_purses ?a1 ?a2 ?a3); (case a1 => assumption); (case a2 => walk_at "vl"); (case a3 => assumption))
  | ((with_reducible refine' f_Book_vaults ?a1 ?a2 ?a3); (case a1 => assumption); (case a2 => walk_at "vl"); (case a3 => assumption))
  | ((with_reducible refine' f_Book_receipts ?a1 ?a2 ?a3); (case a1 => assumption); (case a2 => walk_at "vl"); (case a3 => assumption))
  | ((with_reducible refine' f_Book_ended ?a1 ?a2 ?a3); (case a1 => assumption); (case a2 => walk_at "vl"); (case a3 => assumption))
  | ((with_reducible refine' f_Book_done ?a1 ?a2 ?a3); (case a1 => assumption); (case a2 => walk_at "vl"); (case a3 => assumption))
  | ((with_reducible refine' f_Book_height ?a1 ?a2 ?a3); (case a1 => assumption); (case a2 => walk_at "vl"); (case a3 => assumption))
  | ((with_reducible refine' f_Book_burnt ?a1 ?a2 ?a3); (case a1 => assumption); (case a2 => walk_at "vl"); (case a3 => assumption))
  | ((with_reducible refine' f_Ledger_book ?a1 ?a2 ?a3); (case a1 => assumption); (case a2 => walk_at "vl"); (case a3 => assumption))
  | ((with_reducible refine' f_Ledger_room ?a1 ?a2 ?a3); (case a1 => assumption); (case a2 => walk_at "vl"); (case a3 => assumption))
  | ((with_reducible refine' f_Ledger_waiting ?a1 ?a2 ?a3); (case a1 => assumption); (case a2 => walk_at "vl"); (case a3 => assumption))
  | ((with_reducible refine' v_ix ?a1 ?a2 ?a3 ?a4); (case a1 => walk_at "vl"); (case a2 => walk_at "vl"); (case a3 => assumption); (case a4 => rfl))
  | ((with_reducible refine' v_I0 ?a1 ?a2); (case a1 => walk_at "vl"); (case a2 => walk_at "vl"))
  | ((with_reducible refine' v_isN ?a1); (case a1 => walk_at "vl"))
  | ((with_reducible refine' v_notN ?a1); (case a1 => walk_at "vl"))
  | ((with_reducible refine' v_int1 ?a1); (case a1 => walk_at "vl"))
  | ((with_reducible refine' v_eq ?a1 ?a2 ?a3); (case a1 => walk_at "vl"); (case a2 => walk_at "vl"); (case a3 => rfl))
  | ((with_reducible refine' v_ne ?a1 ?a2 ?a3); (case a1 => walk_at "vl"); (case a2 => walk_at "vl"); (case a3 => rfl))
  | ((with_reducible refine' v_max2 ?a1 ?a2); (case a1 => walk_at "vl"); (case a2 => walk_at "vl"))
  | ((with_reducible refine' v_min2 ?a1 ?a2); (case a1 => walk_at "vl"); (case a2 => walk_at "vl")))
local macro_rules | `(tactic| walk_at "va") => `(tactic| first
  | (with_reducible exact va_nil)
  | ((with_reducible refine' va_cons ?a1 ?a2); (case a1 => walk_at "vl"); (case a2 => walk_at "va")))

def nameOf : Act → Str
  | .pay _ _ => "pay"
  | .opn _ => "open"
  | .pub _ => "publish"
  | .set_ _ => "settle"
  | .spl _ => "splice"
  | .rev _ => "reveal"
def p1 (t : Thing) : List (Int × Int) := match t.act with
  | .pay _ m => [(t.payer, m)]
  | _ => []
def p2 (t : Thing) : List (Int × Int) := match t.act with
  | .opn o => [(o.a, o.fi), (o.b, o.si)]
  | _ => []
def p3 (vs : List (Int × (Addr × Vd))) (t : Thing) : List (Int × Int) := match t.act with
  | .spl s => (match getI vs s.ch with
    | some (_, d) => [(d.op.a, s.i1), (d.op.b, s.i2)]
    | none => [])
  | _ => []
/-- the parts that a thing takes -/
def parts (vs : List (Int × (Addr × Vd))) (t : Thing) : List (Int × Int) := (((t.payer, t.fee) :: p1 t) ++ p2 t) ++ p3 vs t
def addTo (l : Pm) (p : Int × Int) : Pm := putI l p.1 (purse l p.1 + p.2)
/-- what is taken from whom -/
def taken (ps : List (Int × Int)) : Pm := ps.foldl addTo []
theorem taken_snoc {ps : List (Int × Int)} {i : Nat} {p : Int × Int} (h : ps[i]? = some p) : taken (ps.take (i + 1)) = addTo (taken (ps.take i)) p := by
  have e : ps.take (i + 1) = ps.take i ++ [p] := by
    rw [List.take_add_one, h]
    rfl
  rw [e]
  unfold taken
  rw [List.foldl_append]
  rfl
theorem len_taken : ∀ (ps : List (Int × Int)) (l : Pm), (ps.foldl addTo l).length ≤ l.length + ps.length
  | [], l => Nat.le_refl _
  | p :: r, l => by
    have h1 := len_taken r (addTo l p)
    have h2 : (addTo l p).length ≤ l.length + 1 := len_put l
    rw [List.foldl_cons, List.length_cons]
    omega
theorem len_parts (vs : List (Int × (Addr × Vd))) (t : Thing) : (parts vs t).length ≤ 6 := by
  have h1 : (p1 t).length ≤ 1 := by
    unfold p1
    split <;> simp
  have h2 : (p2 t).length ≤ 2 := by
    unfold p2
    split <;> simp
  have h3 : (p3 vs t).length ≤ 2 := by
    unfold p3
    split
    · split <;> simp
    · simp
  unfold parts
  rw [List.length_append, List.length_append, List.length_cons]
  omega
theorem ActAt.head {K : PySem.W.Frag} {H : Hp} {a : Addr} {t : Act} (h : ActAt K H a t) : ∃ rest, Tp K H a (.str (nameOf t) :: rest) := by
  cases t with
  | pay x m => exact ⟨_, h⟩
  | opn o =>
    obtain ⟨b, h, _⟩ := h
    exact ⟨_, h⟩
  | pub s =>
    obtain ⟨b, h, _⟩ := h
    exact ⟨_, h⟩
  | set_ c => exact ⟨_, h⟩
  | spl s =>
    obtain ⟨b, h, _⟩ := h
    exact ⟨_, h⟩
  | rev x => exact ⟨_, h⟩
/-- act[0] == '..' -/
theorem a_act {K : PySem.W.Frag} {σ : L2.St} {H : Hp} {ta : TE} {a : Addr} {t : Act} {c : Str} {b : Bool} (h : Val ta σ H (.ref a)) (ha : ActAt K H a t) (e : decide (V.str (nameOf t) = V.str c) = b) : Ans (tTest (tOp rEq (tOp (rIxT K) ta (tC (.int 0))) (tC (.str c)))) σ H b := by
  obtain ⟨rest, hr⟩ := ha.head
  rw [← e]
  exact a_val (v_eq (v_ix h val_c hr (at_of (j := 0) rfl rfl)) val_c rfl)
theorem a_no {K : PySem.W.Frag} {σ : L2.St} {H : Hp} {ta : TE} {a : Addr} {t : Act} {c : Str} (h : Val ta σ H (.ref a)) (ha : ActAt K H a t) (e : ¬ V.str (nameOf t) = V.str c) : Ans (tTest (tOp rEq (tOp (rIxT K) ta (tC (.int 0))) (tC (.str c)))) σ H false := a_act h ha (decide_eq_false e)
theorem a_yes {K : PySem.W.Frag} {σ : L2.St} {H : Hp} {ta : TE} {a : Addr} {t : Act} {c : Str} (h : Val ta σ H (.ref a)) (ha : ActAt K H a t) (e : nameOf t = c) : Ans (tTest (tOp rEq (tOp (rIxT K) ta (tC (.int 0))) (tC (.str c)))) σ H true := a_act h ha (decide_eq_true (by rw [e]))
def spPurse (K : PySem.W.Frag) : Sp := fun vs H Q _ => ∃ (A : Ad) (b : Bk) (k : Int), vs = [.ref A.bk, .int k] ∧ BookAt K H A b ∧ Q (.int (purse b.purses k)) H
def spTakes (K : PySem.W.Frag) : Sp := fun vs H Q _ => ∃ (A : Ad) (b : Bk) (ta : Addr) (t : Thing), vs = [.ref A.bk, .ref ta] ∧ BookAt K H A b ∧ ThingAt K H ta t ∧
  ∀ (H' : Hp) (p : Addr), Ex H H' → H p = none → H' p = some (.dK (dkI (taken (parts b.vaults t)))) → Q (.ref p) H'
/-- the word of the three ifs of takes -/
def TkMid (K : PySem.W.Frag) (H : Hp) (pl : Addr) (σ0 : L2.St → Prop) (ps : List (Int × Int)) : L2.St → Hp → Prop := fun σ' H' => σ0 σ' ∧ Ex H H' ∧ ∃ pas : List Addr, H' pl = some (.lst (pas.map V.ref)) ∧ PairsAt K H' pas ps
theorem TkMid.snoc {K : PySem.W.Frag} {H H1 : Hp} {pl p : Addr} {x y : Int} {σ0 : L2.St → Prop} {ps : List (Int × Int)} {pas : List Addr} {σ' : L2.St} (h0 : H pl = none) (s : σ0 σ') (e : Ex H H1) (h : H1 pl = some (.lst (pas.map V.ref))) (q : PairsAt K H1 pas ps) (hp : H1 p = none) :
    TkMid K H pl σ0 (ps ++ [(x, y)]) σ' (upd (upd H1 p (.tup [.int x, .int y])) pl (.lst (pas.map V.ref ++ [.ref p]))) := by
  have t1 : Ty H1 (upd (upd H1 p (.tup [.int x, .int y])) pl (.lst (pas.map V.ref ++ [.ref p]))) := (ex_ty (Evl.Ex.new hp)).trans (Ty.upd (o := .lst (pas.map V.ref)) (by rw [upd_ne (ne_of_none h hp)]; exact h) fun _ z => by cases z)
  refine ⟨s, ex_appT e h0 hp, pas ++ [p], by rw [upd_same, List.map_append]; rfl, (q.ty t1).snoc (.inl ?_)⟩
  rw [upd_ne (ne_of_none h hp).symm]
  exact upd_same
section
variable {P : Program} {w : World} {K : PySem.W.Frag} {mg : Str → Option Value} {base : Heap}
theorem ok_purse (T : Txt K mg) : HasM P w K mg base "Book" "purse" 1 ["self", "party"] (spPurse K) := by
  refine hasM (st := s_Book_purse) T.f_Book_purse T.c_Book T.m_Book_purse sc_Book_purse (fun _ _ _ _ _ _ us hl => match us, hl with | [_, _], _ => rfl) (fun vs H Q E h => ?_) (fun f cdv A outer s H vs Q E hr h => ?_)
  · obtain ⟨A, b, k, rfl, _⟩ := h
    rfl
  · obtain ⟨A, b, k, rfl, B, q⟩ := h
    obtain ⟨dx, o1⟩ := B.ob
    refine ⟨_, (pss_one (ps_ret (pe_dget2 (hu_of hr) (pe_fldK (K := K) rfl (pv 0) rfl) (pv 1) pe_int ⟨by rfl, by rfl, by rfl, by rfl⟩))), ?_⟩
    refine' s_ret (q_dget2 (by walk_at "vl") (val_var rfl) val_c B.pu ?_)
    unfold purse at q
    cases e : getI b.purses k with
    | none =>
      rw [e] at q
      exact q
    | some v =>
      rw [e] at q
      exact q
theorem ok_takes (T : Txt K mg) : HasF P w K mg base "takes" 2 ["book", "thing"] (spTakes K) := by
  have G_ends_of : HasF P w K mg base "ends_of" 1 ["vault"] (spEndsOf K) := ok_ends_of T
  refine hasF (st := s_takes) T.f_takes T.g_takes sc_takes (fun _ _ _ _ _ _ us hl => match us, hl with | [_, _], _ => rfl) (fun vs H Q E h => ?_) (fun f cdv A0 outer s H vs Q E hr h => ?_)
  · obtain ⟨A, b, ta, t, rfl, _⟩ := h
    rfl
  · obtain ⟨A, b, ta, t, rfl, B, hT, k⟩ := h
    obtain ⟨aa, ha, t1, tact, t2⟩ := hT.at_
    refine ⟨_, (pss_cons (ps_asg (pv 1) (pg_tup rfl (pgs_cons (pg_name (i := 2) sc_takes.nd rfl (by first | exact Or.inl rfl | exact Or.inr rfl)) (pgs_cons (pg_name (i := 3) sc_takes.nd rfl (by first | exact Or.inl rfl | exact Or.inr rfl)) (pgs_cons (pg_name (i := 4) sc_takes.nd rfl (by first | exact Or.inl rfl | exact Or.inr rfl)) (pgs_cons (pg_name (i := 5) sc_takes.nd rfl (by first | exact Or.inl rfl | exact Or.inr rfl)) (pgs_cons (pg_name (i := 3) sc_takes.nd rfl (by first | exact Or.inl rfl | exact Or.inr rfl)) pgs_nil)))))))
      (pss_cons (ps_set (i := 6) sc_takes.nd rfl (by first | exact Or.inl rfl | exact Or.inr rfl) (pe_lst (pa_cons (pe_tup (pa_cons (pv 4) (pa_cons (pv 5) pa_nil))) pa_nil)))
      (Evl.pss_cut (ps_if (pt_cmpR op_eq (pe_ix (ix_tupK (K := K) rfl) (pv 2) pe_int (fun _ _ => rfl)) pe_str (nomark _)) (pss_one (ps_expr (pe_bm PySem.F.plainAttrs_list PySem.F.slot_list_append PySem.F.type_list_append mt_append (pv 6) (pa_cons (pe_tup (pa_cons (pv 4) (pa_cons (pe_ix (ix_tupK (K := K) rfl) (pv 2) pe_int (fun _ _ => rfl)) pa_nil))) pa_nil)))) pss_nil)
      (Evl.pss_cut (ps_if (pt_cmpR op_eq (pe_ix (ix_tupK (K := K) rfl) (pv 2) pe_int (fun _ _ => rfl)) pe_str (nomark _)) (pss_cons (ps_expr (pe_bm PySem.F.plainAttrs_list PySem.F.slot_list_append PySem.F.type_list_append mt_append (pv 6) (pa_cons (pe_tup (pa_cons (pe_ix (ix_tupK (K := K) rfl) (pe_ix (ix_tupK (K := K) rfl) (pv 2) pe_int (fun _ _ => rfl)) pe_int (fun _ _ => rfl)) (pa_cons (pe_ix (ix_tupK (K := K) rfl) (pe_ix (ix_tupK (K := K) rfl) (pv 2) pe_int (fun _ _ => rfl)) pe_int (fun _ _ => rfl)) pa_nil))) pa_nil)))
      (pss_one (ps_expr (pe_bm PySem.F.plainAttrs_list PySem.F.slot_list_append PySem.F.type_list_append mt_append (pv 6) (pa_cons (pe_tup (pa_cons (pe_ix (ix_tupK (K := K) rfl) (pe_ix (ix_tupK (K := K) rfl) (pv 2) pe_int (fun _ _ => rfl)) pe_int (fun _ _ => rfl)) (pa_cons (pe_ix (ix_tupK (K := K) rfl) (pe_ix (ix_tupK (K := K) rfl) (pv 2) pe_int (fun _ _ => rfl)) pe_int (fun _ _ => rfl)) pa_nil))) pa_nil))))) pss_nil)
      (Evl.pss_cut (ps_if (PW.pt (pw_and (pt_cmpR op_eq (pe_ix (ix_tupK (K := K) rfl) (pv 2) pe_int (fun _ _ => rfl)) pe_str (nomark _)) (pw_and1 (pt_cmp (pc_din (hu_of hr) (pe_ix (ix_tupK (K := K) rfl) (pe_ix (ix_tupK (K := K) rfl) (pv 2) pe_int (fun _ _ => rfl)) pe_int (fun _ _ => rfl)) (pe_fldK (K := K) rfl (pv 0) rfl)))))) (pss_cons (ps_asg (pe_f G_ends_of hr (pa_cons (pe_dget (hu_of hr) (pe_fldK (K := K) rfl (pv 0) rfl) (pe_ix (ix_tupK (K := K) rfl) (pe_ix (ix_tupK (K := K) rfl) (pv 2) pe_int (fun _ _ => rfl)) pe_int (fun _ _ => rfl)) (fun _ _ => rfl)) pa_nil)) (pg_tup rfl (pgs_cons (pg_name (i := 7) sc_takes.nd rfl (by first | exact Or.inl rfl | exact Or.inr rfl)) (pgs_cons (pg_name (i := 8) sc_takes.nd rfl (by first | exact Or.inl rfl | exact Or.inr rfl)) pgs_nil))))
      (pss_cons (ps_expr (pe_bm PySem.F.plainAttrs_list PySem.F.slot_list_append PySem.F.type_list_append mt_append (pv 6) (pa_cons (pe_tup (pa_cons (pv 7) (pa_cons (pe_ix (ix_tupK (K := K) rfl) (pe_ix (ix_tupK (K := K) rfl) (pv 2) pe_int (fun _ _ => rfl)) pe_int (fun _ _ => rfl)) pa_nil))) pa_nil)))
      (pss_one (ps_expr (pe_bm PySem.F.plainAttrs_list PySem.F.slot_list_append PySem.F.type_list_append mt_append (pv 6) (pa_cons (pe_tup (pa_cons (pv 8) (pa_cons (pe_ix (ix_tupK (K := K) rfl) (pe_ix (ix_tupK (K := K) rfl) (pv 2) pe_int (fun _ _ => rfl)) pe_int (fun _ _ => rfl)) pa_nil))) pa_nil)))))) pss_nil)
      (pss_cons (ps_set (i := 9) sc_takes.nd rfl (by first | exact Or.inl rfl | exact Or.inr rfl) pe_dnewK)
      (pss_cons (ps_for PassesOwn.never rfl (pi_list (pv 6)) (pg_tup rfl (pgs_cons (pg_name (i := 10) sc_takes.nd rfl (by first | exact Or.inl rfl | exact Or.inr rfl)) (pgs_cons (pg_name (i := 11) sc_takes.nd rfl (by first | exact Or.inl rfl | exact Or.inr rfl)) pgs_nil))) (pss_one (ps_dput (hu_of hr) (pv 9) (pv 10) (pe_op op_add (pe_dget2 (hu_of hr) (pv 9) (pv 10) pe_int ⟨by rfl, by rfl, by rfl, by rfl⟩) (pv 11)) rfl)))
      (pss_one (ps_ret (pv 9)))))))))), ?_⟩
    -- act, _, payer, fee, _ = thing; parts = [(payer, fee)]
    refine q_asgG (go (val_var rfl) (g_tup5 t1.t ?_))
    refine q_asg (q_lstG (q_consG ?_))
    refine' q_tup (by walk_at "va") (by show 2 ≤ 1000; decide) fun p0 hp0 => q_nil ⟨by show 1 ≤ sizeLine; decide, fun pl hpl => ?_⟩
    have e1 : Ex H (upd (upd H p0 (.tup [.int t.payer, .int t.fee])) pl (.lst [.ref p0])) := (Evl.Ex.new hp0).trans (Evl.Ex.new hpl)
    have nl : p0 ≠ pl := ne_of_none upd_same hpl
    have h0 : H pl = none := Evl.fresh_back (Evl.Ex.new hp0) hpl
    have m1 : TkMid K H pl (fun σ' => σ' = [some (.ref A.bk), some (.ref ta), some (.ref aa), some (.int t.tag), some (.int t.payer), some (.int t.fee), some (.ref pl), none, none, none, none, none]) [(t.payer, t.fee)] _ (upd (upd H p0 (.tup [.int t.payer, .int t.fee])) pl (.lst [.ref p0])) :=
      ⟨rfl, e1, [p0], upd_same, rfl, fun i a p h1 h2 => by
        cases i with
        | zero =>
          cases h1
          cases h2
          exact .inl (by rw [upd_ne nl]; exact upd_same)
        | succ i => cases h1⟩
    generalize hH1 : upd (upd H p0 (.tup [.int t.payer, .int t.fee])) pl (.lst [.ref p0]) = H1 at m1 ⊢
    clear e1 hH1
    -- if act[0] == 'pay'
    refine ⟨TkMid K H pl (fun σ' => σ' = [some (.ref A.bk), some (.ref ta), some (.ref aa), some (.int t.tag), some (.int t.payer), some (.int t.fee), some (.ref pl), none, none, none, none, none]) ((t.payer, t.fee) :: p1 t), ?_, ?_⟩
    · obtain ⟨es, e1, pas, l1, q1⟩ := m1
      have ta1 := tact.ty (ex_ty e1)
      have ap : p1 t = match t.act with
        | .pay _ m => [(t.payer, m)]
        | _ => [] := rfl
      cases hact : t.act with
      | pay x m =>
        rw [hact] at ta1 ap
        dsimp only at ap
        have ta2 : Tp K H1 aa [.str "pay", .int x, .int m] := ta1
        refine st_yes (a_yes (val_var rfl) ta1 rfl) ?_
        refine s_drop ?_
        refine' q_appT (val_var rfl) l1 (by rw [List.length_map, q1.1]; show 1 < 100000; decide) (by walk_at "va") (by show 2 ≤ 1000; decide) fun p hp => ?_
        rw [ap]
        exact TkMid.snoc h0 es e1 l1 q1 hp
      | opn o => rw [hact] at ta1 ap; dsimp only at ap; exact st_no (a_no (val_var rfl) ta1 (by simp only [nameOf]; decide +kernel)) (by rw [ap]; exact ⟨es, e1, pas, l1, q1⟩)
      | pub o => rw [hact] at ta1 ap; dsimp only at ap; exact st_no (a_no (val_var rfl) ta1 (by simp only [nameOf]; decide +kernel)) (by rw [ap]; exact ⟨es, e1, pas, l1, q1⟩)
      | set_ o => rw [hact] at ta1 ap; dsimp only at ap; exact st_no (a_no (val_var rfl) ta1 (by simp only [nameOf]; decide +kernel)) (by rw [ap]; exact ⟨es, e1, pas, l1, q1⟩)
      | spl o => rw [hact] at ta1 ap; dsimp only at ap; exact st_no (a_no (val_var rfl) ta1 (by simp only [nameOf]; decide +kernel)) (by rw [ap]; exact ⟨es, e1, pas, l1, q1⟩)
      | rev o => rw [hact] at ta1 ap; dsimp only at ap; exact st_no (a_no (val_var rfl) ta1 (by simp only [nameOf]; decide +kernel)) (by rw [ap]; exact ⟨es, e1, pas, l1, q1⟩)
    clear m1
    rintro σ1 H2 ⟨rfl, e1, pas, l1, q1⟩
    -- if act[0] == 'open'
    refine ⟨TkMid K H pl (fun σ' => σ' = [some (.ref A.bk), some (.ref ta), some (.ref aa), some (.int t.tag), some (.int t.payer), some (.int t.fee), some (.ref pl), none, none, none, none, none]) (((t.payer, t.fee) :: p1 t) ++ p2 t), ?_, ?_⟩
    · have ta1 := tact.ty (ex_ty e1)
      have few : (pas.map V.ref).length ≤ 4 := by
        have h1 : (p1 t).length ≤ 1 := by
          unfold p1
          split <;> simp
        rw [List.length_map, q1.1, List.length_cons]
        omega
      have ap : p2 t = match t.act with
        | .opn o => [(o.a, o.fi), (o.b, o.si)]
        | _ => [] := rfl
      cases hact : t.act with
      | opn o =>
        rw [hact] at ta1 ap
        dsimp only at ap
        obtain ⟨oa, ta2, ta3⟩ := id ta1
        refine st_yes (a_yes (val_var rfl) ta1 rfl) ?_
        refine q_drop ?_
        refine' q_appT (val_var rfl) l1 (by omega) (by walk_at "va") (by show 2 ≤ 1000; decide) fun p hp => ?_
        obtain ⟨_, e2, pas2, l2, q2⟩ := TkMid.snoc (x := o.a) (y := o.fi) (σ0 := fun _ => True) (σ' := []) h0 trivial e1 l1 q1 hp
        generalize upd (upd H2 p (.tup [.int o.a, .int o.fi])) pl (.lst (pas.map V.ref ++ [.ref p])) = H3 at e2 l2 q2 ⊢
        have tb1 := tact.ty (ex_ty e2)
        rw [hact] at tb1
        obtain ⟨oa', tb2, tb3⟩ := tb1
        refine s_drop ?_
        refine' q_appT (val_var rfl) l2 (by rw [List.length_map, q2.1, List.length_append, ← q1.1]; rw [List.length_map] at few; show pas.length + 1 < 100000; omega) (by walk_at "va") (by show 2 ≤ 1000; decide) fun p' hp' => ?_
        rw [ap]
        have z := TkMid.snoc (x := o.b) (y := o.si) (σ0 := fun σ' => σ' = [some (.ref A.bk), some (.ref ta), some (.ref aa), some (.int t.tag), some (.int t.payer), some (.int t.fee), some (.ref pl), none, none, none, none, none]) h0 rfl e2 l2 q2 hp'
        rw [List.append_assoc] at z
        exact z
      | pay x m => rw [hact] at ta1 ap; dsimp only at ap; exact st_no (a_no (val_var rfl) ta1 (by simp only [nameOf]; decide +kernel)) (by rw [ap, List.append_nil]; exact ⟨rfl, e1, pas, l1, q1⟩)
      | pub o => rw [hact] at ta1 ap; dsimp only at ap; exact st_no (a_no (val_var rfl) ta1 (by simp only [nameOf]; decide +kernel)) (by rw [ap, List.append_nil]; exact ⟨rfl, e1, pas, l1, q1⟩)
      | set_ o => rw [hact] at ta1 ap; dsimp only at ap; exact st_no (a_no (val_var rfl) ta1 (by simp only [nameOf]; decide +kernel)) (by rw [ap, List.append_nil]; exact ⟨rfl, e1, pas, l1, q1⟩)
      | spl o => rw [hact] at ta1 ap; dsimp only at ap; exact st_no (a_no (val_var rfl) ta1 (by simp only [nameOf]; decide +kernel)) (by rw [ap, List.append_nil]; exact ⟨rfl, e1, pas, l1, q1⟩)
      | rev o => rw [hact] at ta1 ap; dsimp only at ap; exact st_no (a_no (val_var rfl) ta1 (by simp only [nameOf]; decide +kernel)) (by rw [ap, List.append_nil]; exact ⟨rfl, e1, pas, l1, q1⟩)
    clear e1 l1 q1
    rintro σ1 H3 ⟨rfl, e1, pas, l1, q1⟩
    -- if act[0] == 'splice' and act[1][0] in book.vaults
    refine ⟨TkMid K H pl (fun σ' => ∃ x y, σ' = [some (.ref A.bk), some (.ref ta), some (.ref aa), some (.int t.tag), some (.int t.payer), some (.int t.fee), some (.ref pl), x, y, none, none, none]) (parts b.vaults t), ?_, ?_⟩
    · have ta1 := tact.ty (ex_ty e1)
      have B1 := B.ex e1
      obtain ⟨dx, o1⟩ := B1.ob
      have few : (pas.map V.ref).length ≤ 4 := by
        have h1 : (p1 t).length ≤ 1 := by
          unfold p1
          split <;> simp
        have h2 : (p2 t).length ≤ 2 := by
          unfold p2
          split <;> simp
        have h3 := q1.1
        rw [List.length_append, List.length_cons] at h3
        rw [List.length_map]
        omega
      have ap : p3 b.vaults t = match t.act with
        | .spl s => (match getI b.vaults s.ch with
          | some (_, d) => [(d.op.a, s.i1), (d.op.b, s.i2)]
          | none => [])
        | _ => [] := rfl
      have stay : ∀ hz : p3 b.vaults t = [], TkMid K H pl (fun σ' => ∃ x y, σ' = [some (.ref A.bk), some (.ref ta), some (.ref aa), some (.int t.tag), some (.int t.payer), some (.int t.fee), some (.ref pl), x, y, none, none, none]) (parts b.vaults t) [some (.ref A.bk), some (.ref ta), some (.ref aa), some (.int t.tag), some (.int t.payer), some (.int t.fee), some (.ref pl), none, none, none, none, none] H3 := fun hz =>
        ⟨⟨none, none, rfl⟩, e1, pas, l1, by unfold parts; rw [hz, List.append_nil]; exact q1⟩
      cases hact : t.act with
      | spl o =>
        rw [hact] at ta1 ap
        dsimp only at ap
        obtain ⟨oa, ta2, ta3⟩ := id ta1
        have an : Ans (tAnd (tTest (tOp rEq (tOp (rIxT K) (tVar 2) (tC (.int 0))) (tC (.str "splice")))) (tB (tDIn (tOp (rIxT K) (tOp (rIxT K) (tVar 2) (tC (.int 1))) (tC (.int 0))) (tFld K (tVar 0) "vaults")))) [some (.ref A.bk), some (.ref ta), some (.ref aa), some (.int t.tag), some (.int t.payer), some (.int t.fee), some (.ref pl), none, none, none, none, none] H3 ((getI b.vaults o.ch).isSome) :=
          ans_and (a_yes (val_var rfl) ta1 rfl) (by refine' a_din (by walk_at "vl") (by walk_at "vl") B1.va)
        cases hv : getI b.vaults o.ch with
        | none =>
          rw [hv] at an ap
          exact st_no an (stay ap)
        | some v =>
          obtain ⟨va, d⟩ := v
          rw [hv] at an ap
          refine st_yes an ?_
          -- first, second = ends_of(..)
          refine q_asgG ?_
          refine' q_call (va_cons (v_dget (by walk_at "vl") (by walk_at "vl") B1.va hv) va_nil) ?_
          refine ⟨va, d, rfl, B1.vault hv, fun H4 pe e4 _ hpe => ?_⟩
          refine g_tup2 (SqT.of hpe) ?_
          have l4 := e4 _ _ l1
          have e5 := e1.trans e4
          have q4 := q1.ty (ex_ty e4)
          have ta4 := ta2.ex e4
          have ta5 := ta3.ex e4
          refine q_drop ?_
          refine' q_appT (val_var rfl) l4 (by omega) (by walk_at "va") (by show 2 ≤ 1000; decide) fun p hp => ?_
          obtain ⟨_, e2, pas2, l2, q2⟩ := TkMid.snoc (x := d.op.a) (y := o.i1) (σ0 := fun _ => True) (σ' := []) h0 trivial e5 l4 q4 hp
          have nlp : H4 pl = some (.lst (pas.map V.ref)) := l4
          have ty4 : Ty H4 (upd (upd H4 p (.tup [.int d.op.a, .int o.i1])) pl (.lst (pas.map V.ref ++ [.ref p]))) := (ex_ty (Evl.Ex.new hp)).trans (Ty.upd (o := .lst (pas.map V.ref)) (by rw [upd_ne (ne_of_none nlp hp)]; exact nlp) fun _ z => by cases z)
          have ta6 := ta4.ty ty4
          have ta7 := ta5.ty ty4
          generalize upd (upd H4 p (.tup [.int d.op.a, .int o.i1])) pl (.lst (pas.map V.ref ++ [.ref p])) = H5 at e2 l2 q2 ta6 ta7 ⊢
          refine s_drop ?_
          refine' q_appT (val_var rfl) l2 (by rw [List.length_map, q2.1, List.length_append, ← q1.1]; rw [List.length_map] at few; show pas.length + 1 < 100000; omega) (by walk_at "va") (by show 2 ≤ 1000; decide) fun p' hp' => ?_
          have z := TkMid.snoc (x := d.op.b) (y := o.i2) (σ0 := fun σ' => ∃ x y, σ' = [some (.ref A.bk), some (.ref ta), some (.ref aa), some (.int t.tag), some (.int t.payer), some (.int t.fee), some (.ref pl), x, y, none, none, none]) h0 ⟨some (.int d.op.a), some (.int d.op.b), rfl⟩ e2 l2 q2 hp'
          rw [List.append_assoc] at z
          unfold parts
          rw [ap]
          exact z
      | pay x m => rw [hact] at ta1 ap; dsimp only at ap; exact st_no (ans_and0 (a_no (val_var rfl) ta1 (by simp only [nameOf]; decide +kernel))) (stay ap)
      | opn o => rw [hact] at ta1 ap; dsimp only at ap; exact st_no (ans_and0 (a_no (val_var rfl) ta1 (by simp only [nameOf]; decide +kernel))) (stay ap)
      | pub o => rw [hact] at ta1 ap; dsimp only at ap; exact st_no (ans_and0 (a_no (val_var rfl) ta1 (by simp only [nameOf]; decide +kernel))) (stay ap)
      | set_ o => rw [hact] at ta1 ap; dsimp only at ap; exact st_no (ans_and0 (a_no (val_var rfl) ta1 (by simp only [nameOf]; decide +kernel))) (stay ap)
      | rev o => rw [hact] at ta1 ap; dsimp only at ap; exact st_no (ans_and0 (a_no (val_var rfl) ta1 (by simp only [nameOf]; decide +kernel))) (stay ap)
    clear e1 l1 q1
    rintro σ1 H4 ⟨⟨x, y, rfl⟩, e1, pas, l1, q1⟩
    -- taken = {}; for party, amount in parts: ..
    have few : (parts b.vaults t).length ≤ 6 := len_parts b.vaults t
    refine q_asg fun d hd => ?_
    have hd0 : H d = none := Evl.fresh_back e1 hd
    have nd : pl ≠ d := ne_of_none l1 hd
    refine q_forLG (xs := pas.map V.ref) (val_var rfl) (fun j σ' H' => (∃ v1 v2, σ' = [some (.ref A.bk), some (.ref ta), some (.ref aa), some (.int t.tag), some (.int t.payer), some (.int t.fee), some (.ref pl), x, y, some (.ref d), v1, v2]) ∧ Ex H H' ∧ H' pl = some (.lst (pas.map V.ref)) ∧ PairsAt K H' pas (parts b.vaults t) ∧ H' d = some (.dK (dkI (taken ((parts b.vaults t).take j)))))
      ⟨⟨none, none, rfl⟩, e1.trans (Evl.Ex.new hd), by rw [upd_ne nd]; exact l1, q1.ty (ex_ty (Evl.Ex.new hd)), upd_same⟩ (fun j σ' H' _ z => SqL.of z.2.2.1) ?_ ?_
    · rintro j z σ' H' hj ⟨⟨v1, v2, rfl⟩, e2, l2, q2, d2⟩
      obtain ⟨a, ha, rfl⟩ : ∃ a, pas[j]? = some a ∧ z = V.ref a := by
        rw [List.getElem?_map] at hj
        cases e : pas[j]? with
        | none => rw [e] at hj; cases hj
        | some a => rw [e] at hj; exact ⟨a, rfl, (Option.some.inj hj).symm⟩
      obtain ⟨p, hp⟩ : ∃ p, (parts b.vaults t)[j]? = some p := by
        have := (List.getElem?_eq_some_iff.mp ha).1
        exact ⟨(parts b.vaults t)[j]'(by rw [← q2.1]; exact this), List.getElem?_eq_getElem _⟩
      refine g_tup2 (q2.2 j a p ha hp).t ?_
      have ln : (taken ((parts b.vaults t).take j)).length < 100000 := by
        have h1 := len_taken ((parts b.vaults t).take j) []
        have h2 : ((parts b.vaults t).take j).length ≤ (parts b.vaults t).length := by rw [List.length_take]; omega
        unfold taken
        simp only [List.length_nil] at h1
        omega
      refine' q_dput (k := p.1) (g := V.int) (x := purse (taken ((parts b.vaults t).take j)) p.1 + p.2) ?_ (val_var rfl) (val_var rfl) d2 ln ?_
      · intro Q hQ
        refine q_opG (q_dget2 (val_var rfl) (val_var rfl) val_c d2 ?_)
        refine' go (val_var rfl) ?_
        unfold purse at hQ
        cases e : getI (taken ((parts b.vaults t).take j)) p.1 with
        | none =>
          rw [e] at hQ
          exact ⟨_, _, rfl, rfl, hQ⟩
        | some v =>
          rw [e] at hQ
          exact ⟨_, _, rfl, rfl, hQ⟩
      · have nd' : pl ≠ d := nd
        have ty2 : Ty H' (upd H' d (.dK (dkI (putI (taken ((parts b.vaults t).take j)) p.1 (purse (taken ((parts b.vaults t).take j)) p.1 + p.2))))) := Ty.upd d2 fun _ z => by cases z
        refine ⟨⟨_, _, rfl⟩, Evl.Ex.mut e2 hd0, by rw [upd_ne nd']; exact l2, q2.ty ty2, ?_⟩
        rw [taken_snoc hp]
        exact upd_same
    · rintro σ' H' ⟨⟨v1, v2, rfl⟩, e2, l2, q2, d2⟩
      refine s_ret (go (val_var rfl) (k H' d e2 hd0 ?_))
      have en : (pas.map V.ref).length = (parts b.vaults t).length := by rw [List.length_map, q2.1]
      rw [en, List.take_length] at d2
      exact d2
end
end Tk
/-! Comprehensions with one name and no test, by what the list so far is. -/
namespace Tk
open PySem PySem.Spec PyProof.Rows L2
section
variable {K : PySem.W.Frag} {σ : L2.St} {H H0 : Hp} {te td tl : TE} {j : Nat} {Q : VK} {a d : Addr} {xs : List V} (Acc : Nat → List V → Prop)
/-- the word of such a comprehension -/
def LcW (Acc : Nat → List V → Prop) (H : Hp) (D : Addr) (i : Nat) (H' : Hp) : Prop := H D = none ∧ ∃ acc, Ex H H' ∧ H' D = some (.lst acc) ∧ acc.length = i ∧ Acc i acc
theorem LcW.go {Acc : Nat → List V → Prop} {D : Addr} {i n : Nat} {H' : Hp} {σ2 : L2.St} (w : LcW Acc H D i H') (hi : i < n) (hn : n ≤ 100000) (h : ∀ acc, Ex H H' → Acc i acc → ValN te σ2 H' fun y _ => Acc (i + 1) (acc ++ [y])) :
    tYes σ2 H' fun b H3 => if b = true then te σ2 H3 fun y H4 => ∃ acc, H4 D = some (.lst acc) ∧ acc.length < sizeLine ∧ LcW Acc H D (i + 1) (upd H4 D (.lst (acc ++ [y]))) else LcW Acc H D (i + 1) H3 := by
  refine if_t (B := LcW Acc H D (i + 1) H') ?_
  obtain ⟨hD, acc, e, h1, h2, h3⟩ := w
  refine h acc e h3 _ fun y H4 e4 q => ?_
  exact ⟨acc, e4 _ _ h1, Nat.lt_of_lt_of_le (by omega : acc.length < 100000) (by decide), hD, acc ++ [y], Evl.Ex.mut (e.trans e4) hD, upd_same, by rw [List.length_append, h2]; rfl, q⟩
theorem q_lcR {ta : TA} {n : Int} (h : ValA ta σ H [.int n]) (hn : 0 ≤ n ∧ n ≤ 10000) (hw : ∀ x, wipe ((wipe σ [j]).set j (some x)) [j] = wipe σ [j]) (a0 : Acc 0 [])
    (hs : ∀ (i : Nat) H' acc, (i : Int) < n → Ex H H' → Acc i acc → ValN te ((wipe σ [j]).set j (some (.int (i : Int)))) H' fun y _ => Acc (i + 1) (acc ++ [y]))
    (hd : ∀ p H' acc, Ex H H' → H p = none → H' p = some (.lst acc) → acc.length = n.toNat → Acc n.toNat acc → Q (.ref p) H') : tLc (iRng1 ta) (gName j) tYes te [j] σ H Q :=
  h _ ⟨n, rfl, by omega, by omega, fun D hD => lc_range (lo := 0) (n := n.toNat) (LcW Acc H D) ⟨hD, [], Evl.Ex.new hD, upd_same, rfl, a0⟩ (fun i H' hi w => by
    have e0 : V.int ((0 : Int) + (i : Int)) = V.int (i : Int) := by rw [Int.zero_add]
    rw [e0]
    exact ⟨hw _, w.go (n := n.toNat) hi (by omega) fun acc e q => hs i H' acc (by omega) e q⟩) fun H' ⟨hD, acc, e, h1, h2, h3⟩ => hd D H' acc e hD h1 h2 h3⟩
theorem q_lcT (h : Val tl σ H (.ref a)) (ht : Tp K H a xs) (hx : xs.length ≤ 10000) (hw : ∀ x, wipe ((wipe σ [j]).set j (some x)) [j] = wipe σ [j]) (a0 : Acc 0 [])
    (hs : ∀ (i : Nat) x H' acc, xs[i]? = some x → Ex H H' → Acc i acc → ValN te ((wipe σ [j]).set j (some x)) H' fun y _ => Acc (i + 1) (acc ++ [y]))
    (hd : ∀ p H' acc, Ex H H' → H p = none → H' p = some (.lst acc) → acc.length = xs.length → Acc xs.length acc → Q (.ref p) H') : tLc (iTup K tl) (gName j) tYes te [j] σ H Q :=
  h _ ⟨a, rfl, ⟨xs, ht.t⟩, fun D hD => lc_tup (xs := xs) (LcW Acc H D) ⟨hD, [], Evl.Ex.new hD, upd_same, rfl, a0⟩ (fun i H' _ ⟨_, acc, e, _⟩ => (ht.ex e).t) (fun i x H' hi w =>
    ⟨hw _, w.go (n := xs.length) (List.getElem?_eq_some_iff.mp hi).1 (by omega) fun acc e q => hs i x H' acc hi e q⟩) fun H' ⟨hD, acc, e, h1, h2, h3⟩ => hd D H' acc e hD h1 h2 h3⟩
theorem lock_ex {H' : Hp} {u : HO} {od : Obj} (hu : H d = some u) (e : Ex (upd H d (.frz od u)) H') : Ex H (upd H' d u) := fun b o hb => by
  by_cases z : b = d
  · rw [z] at hb ⊢
    rw [hu] at hb
    rw [upd_same]
    exact hb
  · rw [upd_ne z]
    exact e b o (by rw [upd_ne z]; exact hb)
theorem q_lcK {α : Type} {g : α → V} {l : List (Int × α)} (hdd : H d = some (.dK (dk g l))) (h : ∀ od, Val td σ (upd H d (.frz od (.dK (dk g l)))) (.ref d)) (hx : l.length ≤ 10000) (hw : ∀ x, wipe ((wipe σ [j]).set j (some x)) [j] = wipe σ [j]) (a0 : Acc 0 [])
    (hs : ∀ (od : Obj) (i : Nat) p H' acc, l[i]? = some p → Ex (upd H d (.frz od (.dK (dk g l)))) H' → Acc i acc → ValN te ((wipe σ [j]).set j (some (.int p.1))) H' fun y _ => Acc (i + 1) (acc ++ [y]))
    (hd : ∀ p H' acc, Ex H H' → H p = none → H' p = some (.lst acc) → acc.length = l.length → Acc l.length acc → Q (.ref p) H') : tLockE (tLc (iKeys td) (gName j) tYes te [j]) σ H Q := by
  refine ⟨d, _, hdd, trivial, fun od => ?_⟩
  have ld : upd H d (.frz od (.dK (dk g l))) d = some (.frz od (.dK (dk g l))) := upd_same
  refine h od _ ⟨d, od, rfl, .inl ⟨_, ld, fun D hD => ?_⟩⟩
  have nD : D ≠ d := (ne_of_none ld hD).symm
  refine lc_it (J := Itk d od (dk g l)) (n := l.length) (by have w := walk_keys (d := d) (o := od) (kvs := dk g l); rw [dk_len] at w; exact w) (LcW Acc (upd H d (.frz od (.dK (dk g l)))) D) ⟨hD, [], Evl.Ex.new hD, upd_same, rfl, a0⟩
    (fun i H' _ ⟨_, acc, e, _⟩ => e _ _ ld) (fun i x H1 H' hi w y => ?_) fun H' ⟨hD, acc, e, h1, h2, h3⟩ => ⟨e _ _ ld, ?_⟩
  · obtain ⟨rfl, k, v, hk, rfl⟩ := y
    have hk2 : ∃ p, l[i]? = some p ∧ k = Sum.inl p.1 := by
      have z : (l.map fun p => ((Sum.inl p.1 : Key), g p.2))[i]? = some (k, v) := hk
      rw [List.getElem?_map] at z
      cases e : l[i]? with
      | none => rw [e] at z; cases z
      | some p =>
        rw [e] at z
        have z2 := Option.some.inj z
        exact ⟨p, rfl, (congrArg Prod.fst z2).symm⟩
    obtain ⟨p, hp, rfl⟩ := hk2
    exact ⟨hw _, w.go (n := l.length) hi (by omega) fun acc e q => hs od i p H' acc hp e q⟩
  · refine hd D _ acc (lock_ex hdd e) ?_ (by rw [upd_ne nD]; exact h1) h2 h3
    rw [upd_ne nD] at hD
    exact hD
end
section
variable {K : PySem.W.Frag} {σ : L2.St} {H H0 : Hp} {te td ty : TE} {t : TT} {a d : Addr} {Q : VK} {R : Bool → Hp → Prop}
theorem q_callG {sp : Sp} {E : XK} {ta : TA} (h : ta σ H fun vs H1 => sp vs H1 Q E) : tCall sp [] E ta σ H Q := by
  have e : (fun (vs : List V) H1 => sp (vs ++ []) H1 Q E) = fun vs H1 => sp vs H1 Q E := funext fun vs => by rw [List.append_nil]
  show ta σ H fun vs H1 => sp (vs ++ []) H1 Q E
  rw [e]
  exact h
theorem q_notT (h : t σ H fun b H1 => R (!b) H1) : tNot t σ H R := h
theorem q_BT (h : te σ H fun v H1 => ∃ c, v = .bl c ∧ R c H1) : tB te σ H R := h
theorem q_testT (h : te σ H fun v H1 => ∃ c, v = .bl c ∧ R c H1) : tTest te σ H R := h
/-- d[k] of a locked dict -/
theorem v_dgetF {α : Type} {g : α → V} {l : List (Int × α)} {k : Int} {v : α} {od : Obj} (h2 : Val td σ H (.ref a)) (h : Val ty σ H (.int k)) (ha : H a = some (.frz od (.dK (dk g l)))) (hv : getI l k = some v) : Val (tDGet td ty) σ H (g v) := fun Q q =>
  h2 _ (h _ ⟨a, _, rfl, .inl ⟨_, Sum.inl k, .inr ⟨od, ha⟩, rfl, by rw [valV_dk, hv]; rfl⟩, q⟩)
end
end Tk
/-! Reasons against openings and splices. -/
namespace Tk
open PySem PySem.Spec PyProof.Rows L2
local macro_rules | `(tactic| walk_at "vl") => `(tactic| first
  | ((with_reducible refine' val_var ?a1); (case a1 => rfl))
  | ((with_reducible refine' val_c))
  | ((with_reducible refine' f_Vault_opening ?a1 ?a2 ?a3); (case a1 => assumption); (case a2 => walk_at "vl"); (case a3 => assumption))
  | ((with_reducible refine' f_Vault_money ?a1 ?a2 ?a3); (case a1 => assumption); (case a2 => walk_at "vl"); (case a3 => assumption))
  | ((with_reducible refine' f_Vault_sums ?a1 ?a2 ?a3); (case a1 => assumption); (case a2 => walk_at "vl"); (case a3 => assumption))
  | ((with_reducible refine' f_Vault_splices ?a1 ?a2 ?a3); (case a1 => assumption); (case a2 => walk_at "vl"); (case a3 => assumption))
  | ((with_reducible refine' f_Vault_least ?a1 ?a2 ?a3); (case a1 => assumption); (case a2 => walk_at "vl"); (case a3 => assumption))
  | ((with_reducible refine' f_Vault_published ?a1 ?a2 ?a3); (case a1 => assumption); (case a2 => walk_at "vl"); (case a3 => assumption))
  | ((with_reducible refine' f_Vault_since ?a1 ?a2 ?a3); (case a1 => assumption); (case a2 => walk_at "vl"); (case a3 => assumption))
  | ((with_reducible refine' f_Book_purses ?a1 ?a2 ?a3); (case a1 => assumption); (case a2 => walk_at "vl"); (case a3 => assumption))
  | ((with_reducible refine' f_Book_vaults ?a1 ?a2 ?a3); (case a1 => assumption); (case a2 => walk_at "vl"); (case a3 => assumption))
  | ((with_reducible refine' f_Book_receipts ?a1 ?a2 ?a3); (case a1 => assumption); (case a2 => walk_at "vl"); (case a3 => assumption))
  | ((with_reducible refine' f_Book_ended ?a1 ?a2 ?a3); (case a1 => assumption); (case a2 => walk_at "vl"); (case a3 => assumption))
  | ((with_reducible refine' f_Book_done ?a1 ?a2 ?a3); (case a1 => assumption); (case a2 => walk_at "vl"); (case a3 => assumption))
  | ((with_reducible refine' f_Book_height ?a1 ?a2 ?a3); (case a1 => assumption); (case a2 => walk_at "vl"); (case a3 => assumption))
  | ((with_reducible refine' f_Book_burnt ?a1 ?a2 ?a3); (case a1 => assumption); (case a2 => walk_at "vl"); (case a3 => assumption))
  | ((with_reducible refine' f_Ledger_book ?a1 ?a2 ?a3); (case a1 => assumption); (case a2 => walk_at "vl"); (case a3 => assumption))
  | ((with_reducible refine' f_Ledger_room ?a1 ?a2 ?a3); (case a1 => assumption); (case a2 => walk_at "vl"); (case a3 => assumption))
  | ((with_reducible refine' f_Ledger_waiting ?a1 ?a2 ?a3); (case a1 => assumption); (case a2 => walk_at "vl"); (case a3 => assumption))
  | ((with_reducible refine' v_ix ?a1 ?a2 ?a3 ?a4); (case a1 => walk_at "vl"); (case a2 => walk_at "vl"); (case a3 => assumption); (case a4 => rfl))
  | ((with_reducible refine' v_I0 ?a1 ?a2); (case a1 => walk_at "vl"); (case a2 => walk_at "vl"))
  | ((with_reducible refine' v_isN ?a1); (case a1 => walk_at "vl"))
  | ((with_reducible refine' v_notN ?a1); (case a1 => walk_at "vl"))
  | ((with_reducible refine' v_int1 ?a1); (case a1 => walk_at "vl"))
  | ((with_reducible refine' v_eq ?a1 ?a2 ?a3); (case a1 => walk_at "vl"); (case a2 => walk_at "vl"); (case a3 => rfl))
  | ((with_reducible refine' v_ne ?a1 ?a2 ?a3); (case a1 => walk_at "vl"); (case a2 => walk_at "vl"); (case a3 => rfl))
  | ((with_reducible refine' v_max2 ?a1 ?a2); (case a1 => walk_at "vl"); (case a2 => walk_at "vl"))
  | ((with_reducible refine' v_min2 ?a1 ?a2); (case a1 => walk_at "vl"); (case a2 => walk_at "vl")))
local macro_rules | `(tactic| walk_at "va") => `(tactic| first
  | (with_reducible exact va_nil)
  | ((with_reducible refine' va_cons ?a1 ?a2); (case a1 => walk_at "vl"); (case a2 => walk_at "va")))

def suAdd (s : Su) (p : Sp8) : Su := ⟨s.s0 + p.i1, s.s1 + p.o1, s.s2 + p.i2, s.s3 + p.o2⟩
def spSumsWith (K : PySem.W.Frag) : Sp := fun vs H Q _ => ∃ (a c : Addr) (s : Su) (p : Sp8), vs = [.ref a, .ref c] ∧ Tp K H a (suV s) ∧ Tp K H c (spV p) ∧ ∀ (H' : Hp) (q : Addr), Ex H H' → H q = none → H' q = some (.tup (suV (suAdd s p))) → Q (.ref q) H'
/-- a list of words: what it means that it is empty -/
def Words (H : Hp) (Q : VK) (R : Prop) : Prop := ∀ (H' : Hp) (p : Addr) (xs : List V), Ex H H' → H p = none → H' p = some (.lst xs) → xs.length ≤ 20 → (xs = [] → R) → Q (.ref p) H'
def spOpenReasons (K : PySem.W.Frag) : Sp := fun vs H Q _ => ∃ (A : Ad) (b : Bk) (oa ha : Addr) (o : Op) (hs : List Int), vs = [.ref A.bk, .ref oa, .ref ha] ∧ BookAt K H A b ∧ Tp K H oa (opV o) ∧ Tp K H ha (hs.map V.int) ∧
  Words H Q (getI b.vaults o.ch = none ∧ ¬ o.ch ∈ b.ended)
def spSpliceReasons (K : PySem.W.Frag) : Sp := fun vs H Q _ => ∃ (A : Ad) (b : Bk) (v sa ha : Addr) (d : Vd) (s : Sp8) (hs : List Int), vs = [.ref A.bk, .ref v, .ref sa, .ref ha] ∧ BookAt K H A b ∧ VaultAt K H v d ∧ Tp K H sa (spV s) ∧ Tp K H ha (hs.map V.int) ∧
  Words H Q (s.o1 + s.o2 ≤ d.money + s.i1 + s.i2 ∧ d.pub = none)
theorem inV_int (k : Int) : ∀ l : List Int, inV (.int k) (l.map V.int) = decide (k ∈ l)
  | [] => rfl
  | j :: r => by
    have ih := inV_int k r
    have e : inV (.int k) ((j :: r).map V.int) = (eqV (.int j) (.int k) || inV (.int k) (r.map V.int)) := rfl
    rw [e, ih]
    have e2 : eqV (.int j) (.int k) = decide (j = k) := rfl
    rw [e2]
    by_cases h : j = k
    · simp [h]
    · have h' : ¬ k = j := fun z => h z.symm
      simp [h, h']
section
variable {P : Program} {w : World} {K : PySem.W.Frag} {mg : Str → Option Value} {base : Heap}
theorem ok_sums_with (T : Txt K mg) : HasF P w K mg base "sums_with" 1 ["sums", "splice"] (spSumsWith K) := by
  refine hasF (st := s_sums_with) T.f_sums_with T.g_sums_with sc_sums_with (fun _ _ _ _ _ _ us hl => match us, hl with | [_, _], _ => rfl) (fun vs H Q E h => ?_) (fun f cdv A outer s H vs Q E hr h => ?_)
  · obtain ⟨a, c, s, p, rfl, _⟩ := h
    rfl
  · obtain ⟨a, c, s, p, rfl, h1, h2, k⟩ := h
    refine ⟨_, (pss_one (ps_ret (pe_callTy call_tuple_of (by rfl) T.z_tuple (by decide +kernel) (pa_cons (pe_lc (own := [("k", 2)]) (g := gName 2) rfl sc_sums_with.nd (pi_range1 (by rfl) T.z_range (pa_cons pe_int pa_nil)) (blkOk_by (N := N_sums_with) (sc := defScope s_sums_with) (by decide +kernel)) (fun _ _ _ _ _ => (pg_name (i := 2) sc_sums_with.nd rfl (by first | exact Or.inl rfl | exact Or.inr rfl))) (fun _ _ _ _ _ => pts_nil) (fun _ _ _ _ _ => (pe_op op_add (pe_ix (ix_tupK (K := K) rfl) (pv 0) (pv 2) (fun _ _ => rfl)) (pe_ix (ix_tupK (K := K) rfl) (pv 1) (pe_op op_add pe_int (pv 2)) (fun _ _ => rfl))))) pa_nil)))), ?_⟩
    refine s_ret (q_cb (q_consG ?_))
    refine q_lcR (n := 4) (fun i acc => acc = (suV (suAdd s p)).take i) (va_cons val_c va_nil) ⟨by decide, by decide⟩ (fun _ => rfl) rfl (fun i H' acc hi e ha => ?_) (fun q H' acc e hq hq' _ ha => ?_)
    · have h1' := h1.ex e
      have h2' := h2.ex e
      intro Q' hQ
      have hi' : i = 0 ∨ i = 1 ∨ i = 2 ∨ i = 3 := by omega
      rcases hi' with rfl | rfl | rfl | rfl
      · exact go (v_I0 (v_ix (i := 0) (val_var rfl) (val_var rfl) h1' rfl) (v_ix (i := 4 + ((0 : Nat) : Int)) (val_var rfl) (v_I0 val_c (val_var rfl)) h2' rfl)) (hQ _ _ (Evl.Ex.refl _) (by rw [ha]; rfl))
      · exact go (v_I0 (v_ix (i := 1) (val_var rfl) (val_var rfl) h1' rfl) (v_ix (i := 4 + ((1 : Nat) : Int)) (val_var rfl) (v_I0 val_c (val_var rfl)) h2' rfl)) (hQ _ _ (Evl.Ex.refl _) (by rw [ha]; rfl))
      · exact go (v_I0 (v_ix (i := 2) (val_var rfl) (val_var rfl) h1' rfl) (v_ix (i := 4 + ((2 : Nat) : Int)) (val_var rfl) (v_I0 val_c (val_var rfl)) h2' rfl)) (hQ _ _ (Evl.Ex.refl _) (by rw [ha]; rfl))
      · exact go (v_I0 (v_ix (i := 3) (val_var rfl) (val_var rfl) h1' rfl) (v_ix (i := 4 + ((3 : Nat) : Int)) (val_var rfl) (v_I0 val_c (val_var rfl)) h2' rfl)) (hQ _ _ (Evl.Ex.refl _) (by rw [ha]; rfl))
    · have hacc : acc = suV (suAdd s p) := ha
      rw [hacc] at hq'
      refine q_nil ⟨q, _, rfl, .inl ⟨SqL.of hq', fun l hl => ?_⟩⟩
      exact k _ l (e.trans (Evl.Ex.new hl)) (Evl.fresh_back e hl) upd_same
theorem ok_open_reasons (T : Txt K mg) : HasF P w K mg base "open_reasons" 2 ["book", "opening", "hands"] (spOpenReasons K) := by
  have G_has_hands : HasF P w K mg base "has_hands" 1 ["hands", "ends"] (spHasHands K) := ok_has_hands T
  refine hasF (st := s_open_reasons) T.f_open_reasons T.g_open_reasons sc_open_reasons (fun _ _ _ _ _ _ us hl => match us, hl with | [_, _, _], _ => rfl) (fun vs H Q E h => ?_) (fun f cdv A0 outer s H vs Q E hr h => ?_)
  · obtain ⟨A, b, oa, ha, o, hs, rfl, _⟩ := h
    rfl
  · obtain ⟨A, b, oa, ha, o, hs, rfl, B, t1, t2, k⟩ := h
    refine ⟨_, (pss_cons (ps_asg (pe_slice sl_tup (pv 1) po_none (po_some pe_int)) (pg_tup rfl (pgs_cons (pg_name (i := 3) sc_open_reasons.nd rfl (by first | exact Or.inl rfl | exact Or.inr rfl)) (pgs_cons (pg_name (i := 4) sc_open_reasons.nd rfl (by first | exact Or.inl rfl | exact Or.inr rfl)) (pgs_cons (pg_name (i := 5) sc_open_reasons.nd rfl (by first | exact Or.inl rfl | exact Or.inr rfl)) pgs_nil)))))
      (pss_cons (ps_set (i := 6) sc_open_reasons.nd rfl (by first | exact Or.inl rfl | exact Or.inr rfl) (pe_lst pa_nil))
      (Evl.pss_cut (ps_if (pt_cmpR op_eq (pv 4) (pv 5) (nomark _)) (pss_one (ps_expr (pe_bm PySem.F.plainAttrs_list PySem.F.slot_list_append PySem.F.type_list_append mt_append (pv 6) (pa_cons pe_str pa_nil)))) pss_nil)
      (Evl.pss_cut (ps_if (pt_cmpR op_gt (pe_fldK (K := K) rfl (pv 0) rfl) (pe_ix (ix_tupK (K := K) rfl) (pv 1) pe_int (fun _ _ => rfl)) (nomark _)) (pss_one (ps_expr (pe_bm PySem.F.plainAttrs_list PySem.F.slot_list_append PySem.F.type_list_append mt_append (pv 6) (pa_cons pe_str pa_nil)))) pss_nil)
      (Evl.pss_cut (ps_if (pt_not (pt_val (pe_f G_has_hands hr (pa_cons (pv 2) (pa_cons (pe_tup (pa_cons (pv 4) (pa_cons (pv 5) pa_nil))) pa_nil))))) (pss_one (ps_expr (pe_bm PySem.F.plainAttrs_list PySem.F.slot_list_append PySem.F.type_list_append mt_append (pv 6) (pa_cons pe_str pa_nil)))) pss_nil)
      (Evl.pss_cut (ps_if (pt_cmp (pc_din (hu_of hr) (pv 3) (pe_fldK (K := K) rfl (pv 0) rfl))) (pss_one (ps_expr (pe_bm PySem.F.plainAttrs_list PySem.F.slot_list_append PySem.F.type_list_append mt_append (pv 6) (pa_cons pe_str pa_nil)))) pss_nil)
      (Evl.pss_cut (ps_if (pt_cmpR op_in_seq (pv 3) (pe_fldK (K := K) rfl (pv 0) rfl) (by rfl)) (pss_one (ps_expr (pe_bm PySem.F.plainAttrs_list PySem.F.slot_list_append PySem.F.type_list_append mt_append (pv 6) (pa_cons pe_str pa_nil)))) pss_nil)
      (pss_one (ps_ret (pv 6)))))))))), ?_⟩
    -- number, first, second = opening[:3]; words = []
    refine q_asgG ?_
    refine ⟨_, rfl, 3, rfl, oa, opV o, rfl, t1.t, (fun z => absurd (show HT.sIx 7 7 (some 3) = 7 from z.2) (by decide)), fun p3 hp3 => ?_⟩
    refine g_tup3 (v1 := .int o.ch) (v2 := .int o.a) (v3 := .int o.b) (SqT.of upd_same) ?_
    refine q_asg (q_lst va_nil (Nat.zero_le _) fun pw hpw => ?_)
    have e0 : Ex H (upd (upd H p3 (.tup (cutV (opV o) none (some 3)))) pw (.lst [])) := (Evl.Ex.new hp3).trans (Evl.Ex.new hpw)
    have h0 : H pw = none := Evl.fresh_back (Evl.Ex.new hp3) hpw
    have w0 : upd (upd H p3 (.tup (cutV (opV o) none (some 3)))) pw (.lst []) pw = some (.lst []) := upd_same
    generalize upd (upd H p3 (.tup (cutV (opV o) none (some 3)))) pw (.lst []) = H1 at e0 w0 ⊢
    have l0 : ([] : List V).length ≤ 0 := Nat.le_refl _
    -- one party
    refine' q_word e0 h0 w0 (by omega) rfl (Ans.n (a_val (v_eq (x := .int o.a) (y := .int o.b) (val_var rfl) (val_var rfl) rfl))) fun x1 H2 e1 w1 l1 z1 => ?_
    -- late
    have B1 := B.ex e1
    obtain ⟨dx, o1⟩ := B1.ob
    have t1' := t1.ex e1
    refine' q_word e1 h0 w1 (by omega) rfl (Ans.n (a_val (by walk_at "vl"))) fun x2 H3 e2 w2 l2 z2 => ?_
    -- hands
    have t2' := t2.ex e2
    refine' q_word (R := fun _ => True) e2 h0 w2 (by omega) rfl ?_ fun x3 H4 e3 w3 l3 z3 => ?_
    · refine an_not (R := fun _ => True) (an_B fun Q' hQ => ?_)
      refine q_callG (q_cons (v := .ref ha) (val_var rfl) (q_consG ?_))
      refine' q_tup (by walk_at "va") (by show 2 ≤ 1000; decide) fun q hq => q_nil ⟨ha, q, hs, o.a, o.b, rfl, t2'.ex (Evl.Ex.new hq), .inl upd_same, fun b => hQ _ _ (Evl.Ex.new hq) ⟨b, rfl, trivial⟩⟩
    -- stands
    have B3 := B.ex e3
    obtain ⟨dx3, o3⟩ := B3.ob
    refine' q_word e3 h0 w3 (by omega) rfl (Ans.n (a_din (k := o.ch) (val_var rfl) (by walk_at "vl") B3.va)) fun x4 H5 e4 w4 l4 z4 => ?_
    have B4 := B.ex e4
    obtain ⟨dx4, o4⟩ := B4.ob
    refine' q_word e4 h0 w4 (by omega) rfl (Ans.n (a_val (v_inL (x := .int o.ch) (val_var rfl) (by walk_at "vl") (SqL.of B4.en) rfl (flat_ints _)))) fun x5 H6 e5 w5 l5 z5 => ?_
    refine s_ret (go (val_var rfl) (k _ _ _ e5 h0 w5 (by omega) fun z => ?_))
    obtain ⟨y4, r5⟩ := z5 z
    obtain ⟨y3, r4⟩ := z4 y4
    rw [inV_int] at r5
    refine ⟨?_, of_decide_eq_false r5.symm⟩
    cases e : getI b.vaults o.ch with
    | none => rfl
    | some v => rw [e] at r4; cases r4
theorem ok_splice_reasons (T : Txt K mg) : HasF P w K mg base "splice_reasons" 2 ["book", "vault", "splice", "hands"] (spSpliceReasons K) := by
  have G_has_hands : HasF P w K mg base "has_hands" 1 ["hands", "ends"] (spHasHands K) := ok_has_hands T
  have G_ends_of : HasF P w K mg base "ends_of" 1 ["vault"] (spEndsOf K) := ok_ends_of T
  have G_sums_with : HasF P w K mg base "sums_with" 1 ["sums", "splice"] (spSumsWith K) := ok_sums_with T
  refine hasF (st := s_splice_reasons) T.f_splice_reasons T.g_splice_reasons sc_splice_reasons (fun _ _ _ _ _ _ us hl => match us, hl with | [_, _, _, _], _ => rfl) (fun vs H Q E h => ?_) (fun f cdv A0 outer s H vs Q E hr h => ?_)
  · obtain ⟨A, b, v, sa, ha, d, sp, hs, rfl, _⟩ := h
    rfl
  · obtain ⟨A, b, v, sa, ha, d, sp, hs, rfl, B, hV, t1, t2, k⟩ := h
    refine ⟨_, (pss_cons (ps_set (i := 4) sc_splice_reasons.nd rfl (by first | exact Or.inl rfl | exact Or.inr rfl) (pe_lst pa_nil))
      (Evl.pss_cut (ps_if (pt_not (pt_val (pe_f G_has_hands hr (pa_cons (pv 3) (pa_cons (pe_f G_ends_of hr (pa_cons (pv 1) pa_nil)) pa_nil))))) (pss_one (ps_expr (pe_bm PySem.F.plainAttrs_list PySem.F.slot_list_append PySem.F.type_list_append mt_append (pv 4) (pa_cons pe_str pa_nil)))) pss_nil)
      (Evl.pss_cut (ps_if (pt_cmpR op_ne (pe_ix (ix_tupK (K := K) rfl) (pv 2) pe_int (fun _ _ => rfl)) (pe_fldK (K := K) rfl (pv 1) rfl) (nomark _)) (pss_one (ps_expr (pe_bm PySem.F.plainAttrs_list PySem.F.slot_list_append PySem.F.type_list_append mt_append (pv 4) (pa_cons pe_str pa_nil)))) pss_nil)
      (Evl.pss_cut (ps_if (pt_cmpR op_gt (pe_fldK (K := K) rfl (pv 0) rfl) (pe_ix (ix_tupK (K := K) rfl) (pv 2) pe_int (fun _ _ => rfl)) (nomark _)) (pss_one (ps_expr (pe_bm PySem.F.plainAttrs_list PySem.F.slot_list_append PySem.F.type_list_append mt_append (pv 4) (pa_cons pe_str pa_nil)))) pss_nil)
      (Evl.pss_cut (ps_if (pt_cmpR op_gt (pe_op op_add (pe_ix (ix_tupK (K := K) rfl) (pv 2) pe_int (fun _ _ => rfl)) (pe_ix (ix_tupK (K := K) rfl) (pv 2) pe_int (fun _ _ => rfl))) (pe_op op_add (pe_op op_add (pe_fldK (K := K) rfl (pv 1) rfl) (pe_ix (ix_tupK (K := K) rfl) (pv 2) pe_int (fun _ _ => rfl))) (pe_ix (ix_tupK (K := K) rfl) (pv 2) pe_int (fun _ _ => rfl))) (nomark _)) (pss_one (ps_expr (pe_bm PySem.F.plainAttrs_list PySem.F.slot_list_append PySem.F.type_list_append mt_append (pv 4) (pa_cons pe_str pa_nil)))) pss_nil)
      (Evl.pss_cut (ps_if (pt_cmpR op_gt (pe_callB (cr_maxT rfl hr) (by rfl) T.z_max (by decide +kernel) (pa_cons (pe_f G_sums_with hr (pa_cons (pe_fldK (K := K) rfl (pv 1) rfl) (pa_cons (pv 2) pa_nil))) pa_nil)) (pe_gi T.i_MOST_MONEY) (nomark _)) (pss_one (ps_expr (pe_bm PySem.F.plainAttrs_list PySem.F.slot_list_append PySem.F.type_list_append mt_append (pv 4) (pa_cons pe_str pa_nil)))) pss_nil)
      (Evl.pss_cut (ps_if (pt_cmpR op_notN (pe_fldK (K := K) rfl (pv 1) rfl) pe_non (nomark _)) (pss_one (ps_expr (pe_bm PySem.F.plainAttrs_list PySem.F.slot_list_append PySem.F.type_list_append mt_append (pv 4) (pa_cons pe_str pa_nil)))) pss_nil)
      (pss_one (ps_ret (pv 4)))))))))), ?_⟩
    refine q_asg (q_lst va_nil (Nat.zero_le _) fun pw h0 => ?_)
    have e0 : Ex H (upd H pw (.lst [])) := Evl.Ex.new h0
    have w0 : upd H pw (.lst []) pw = some (.lst []) := upd_same
    generalize upd H pw (.lst []) = H1 at e0 w0 ⊢
    have l0 : ([] : List V).length ≤ 0 := Nat.le_refl _
    -- hands
    have t2' := t2.ex e0
    refine' q_word (R := fun _ => True) e0 h0 w0 (by omega) rfl ?_ fun x1 H2 e1 w1 l1 z1 => ?_
    · refine an_not (R := fun _ => True) (an_B fun Q' hQ => ?_)
      refine q_callG (q_cons (v := .ref ha) (val_var rfl) (q_consG ?_))
      refine' q_call (by walk_at "va") ⟨v, d, rfl, hV.ex e0, fun H' q e' _ hq => q_nil ⟨ha, q, hs, d.op.a, d.op.b, rfl, t2'.ex e', .inl hq, fun b => hQ _ _ e' ⟨b, rfl, trivial⟩⟩⟩
    -- index
    have t1' := t1.ex e1
    obtain ⟨dx1, oa1, sa1, pq1, o1, u1, u2, u3⟩ := (hV.ex e1).at_
    refine' q_word e1 h0 w1 (by omega) rfl (Ans.n (a_val (by walk_at "vl"))) fun x2 H3 e2 w2 l2 z2 => ?_
    clear t1' o1 u1 u2 u3
    -- late
    have t1' := t1.ex e2
    obtain ⟨dx2, o1⟩ := (B.ex e2).ob
    refine' q_word e2 h0 w2 (by omega) rfl (Ans.n (a_val (by walk_at "vl"))) fun x3 H4 e3 w3 l3 z3 => ?_
    clear t1' o1
    -- not enough
    have t1' := t1.ex e3
    obtain ⟨dx3, oa3, sa3, pq3, o1, u1, u2, u3⟩ := (hV.ex e3).at_
    refine' q_word (R := fun c => c = decide (d.money + sp.i1 + sp.i2 < sp.o1 + sp.o2)) e3 h0 w3 (by omega) rfl (Ans.n (a_val (by walk_at "vl"))) fun x4 H5 e4 w4 l4 z4 => ?_
    clear t1' o1 u1 u2 u3
    -- too much
    have t1' := t1.ex e4
    obtain ⟨dx4, oa4, sa4, pq4, o1, u1, u2, u3⟩ := (hV.ex e4).at_
    refine' q_word (R := fun _ => True) e4 h0 w4 (by omega) rfl ?_ fun x5 H6 e5 w5 l5 z5 => ?_
    · intro Q' hQ
      refine q_testT (q_opG (q_cb (q_consG ?_)))
      refine' q_call (by walk_at "va") ⟨sa4, sa, d.sums, sp, rfl, u2, t1', fun H' q e' _ hq => q_nil ⟨q, d.sums.s0 + sp.i1, [d.sums.s1 + sp.o1, d.sums.s2 + sp.i2, d.sums.s3 + sp.o2], rfl, SqT.of hq, fun m => ?_⟩⟩
      refine go val_c ?_
      exact ⟨_, _, rfl, rfl, _, rfl, hQ _ _ e' trivial⟩
    clear t1' o1 u1 u2 u3
    -- published
    obtain ⟨dx5, oa5, sa5, pq5, o1, u1, u2, u3⟩ := (hV.ex e5).at_
    refine' q_word (R := fun c => c = !decide (pq5 = V.non)) e5 h0 w5 (by omega) rfl (Ans.n (v_ntest (by walk_at "vl"))) fun x6 H7 e6 w6 l6 z6 => ?_
    refine s_ret (go (val_var rfl) (k _ _ _ e6 h0 w6 (by omega) fun z => ?_))
    obtain ⟨y5, r6⟩ := z6 z
    obtain ⟨y4, r5⟩ := z5 y5
    obtain ⟨y3, r4⟩ := z4 y4
    refine ⟨by have := of_decide_eq_false r4.symm; omega, ?_⟩
    cases hp : d.pub with
    | none => rfl
    | some s' =>
      rw [hp] at u3
      obtain ⟨a, rfl, _⟩ := u3
      cases r6
end
end Tk
/-! Reasons against what is published and settled. -/
namespace Tk
open PySem PySem.Spec PyProof.Rows L2
local macro_rules | `(tactic| walk_at "vl") => `(tactic| first
  | ((with_reducible refine' val_var ?a1); (case a1 => rfl))
  | ((with_reducible refine' val_c))
  | ((with_reducible refine' f_Vault_opening ?a1 ?a2 ?a3); (case a1 => assumption); (case a2 => walk_at "vl"); (case a3 => assumption))
  | ((with_reducible refine' f_Vault_money ?a1 ?a2 ?a3); (case a1 => assumption); (case a2 => walk_at "vl"); (case a3 => assumption))
  | ((with_reducible refine' f_Vault_sums ?a1 ?a2 ?a3); (case a1 => assumption); (case a2 => walk_at "vl"); (case a3 => assumption))
  | ((with_reducible refine' f_Vault_splices ?a1 ?a2 ?a3); (case a1 => assumption); (case a2 => walk_at "vl"); (case a3 => assumption))
  | ((with_reducible refine' f_Vault_least ?a1 ?a2 ?a3); (case a1 => assumption); (case a2 => walk_at "vl"); (case a3 => assumption))
  | ((with_reducible refine' f_Vault_published ?a1 ?a2 ?a3); (case a1 => assumption); (case a2 => walk_at "vl"); (case a3 => assumption))
  | ((with_reducible refine' f_Vault_since ?a1 ?a2 ?a3); (case a1 => assumption); (case a2 => walk_at "vl"); (case a3 => assumption))
  | ((with_reducible refine' f_Book_purses ?a1 ?a2 ?a3); (case a1 => assumption); (case a2 => walk_at "vl"); (case a3 => assumption))
  | ((with_reducible refine' f_Book_vaults ?a1 ?a2 ?a3); (case a1 => assumption); (case a2 => walk_at "vl"); (case a3 => assumption))
  | ((with_reducible refine' f_Book_receipts ?a1 ?a2 ?a3); (case a1 => assumption); (case a2 => walk_at "vl"); (case a3 => assumption))
  | ((with_reducible refine' f_Book_ended ?a1 ?a2 ?a3); (case a1 => assumption); (case a2 => walk_at "vl"); (case a3 => assumption))
  | ((with_reducible refine' f_Book_done ?a1 ?a2 ?a3); (case a1 => assumption); (case a2 => walk_at "vl"); (case a3 => assumption))
  | ((with_reducible refine' f_Book_height ?a1 ?a2 ?a3); (case a1 => assumption); (case a2 => walk_at "vl"); (case a3 => assumption))
  | ((with_reducible refine' f_Book_burnt ?a1 ?a2 ?a3); (case a1 => assumption); (case a2 => walk_at "vl"); (case a3 => assumption))
  | ((with_reducible refine' f_Ledger_book ?a1 ?a2 ?a3); (case a1 => assumption); (case a2 => walk_at "vl"); (case a3 => assumption))
  | ((with_reducible refine' f_Ledger_room ?a1 ?a2 ?a3); (case a1 => assumption); (case a2 => walk_at "vl"); (case a3 => assumption))
  | ((with_reducible refine' f_Ledger_waiting ?a1 ?a2 ?a3); (case a1 => assumption); (case a2 => walk_at "vl"); (case a3 => assumption))
  | ((with_reducible refine' v_ix ?a1 ?a2 ?a3 ?a4); (case a1 => walk_at "vl"); (case a2 => walk_at "vl"); (case a3 => assumption); (case a4 => rfl))
  | ((with_reducible refine' v_I0 ?a1 ?a2); (case a1 => walk_at "vl"); (case a2 => walk_at "vl"))
  | ((with_reducible refine' v_isN ?a1); (case a1 => walk_at "vl"))
  | ((with_reducible refine' v_notN ?a1); (case a1 => walk_at "vl"))
  | ((with_reducible refine' v_int1 ?a1); (case a1 => walk_at "vl"))
  | ((with_reducible refine' v_eq ?a1 ?a2 ?a3); (case a1 => walk_at "vl"); (case a2 => walk_at "vl"); (case a3 => rfl))
  | ((with_reducible refine' v_ne ?a1 ?a2 ?a3); (case a1 => walk_at "vl"); (case a2 => walk_at "vl"); (case a3 => rfl))
  | ((with_reducible refine' v_max2 ?a1 ?a2); (case a1 => walk_at "vl"); (case a2 => walk_at "vl"))
  | ((with_reducible refine' v_min2 ?a1 ?a2); (case a1 => walk_at "vl"); (case a2 => walk_at "vl")))
local macro_rules | `(tactic| walk_at "va") => `(tactic| first
  | (with_reducible exact va_nil)
  | ((with_reducible refine' va_cons ?a1 ?a2); (case a1 => walk_at "vl"); (case a2 => walk_at "va")))

theorem Words.ex {H H1 : Hp} {Q : VK} {R : Prop} (e : Ex H H1) (h : Words H Q R) : Words H1 Q R := fun H' p xs e' hp => h H' p xs (e.trans e') (Evl.fresh_back e hp)
theorem Words.imp {H : Hp} {Q : VK} {R S : Prop} (h : Words H Q R) (i : S → R) : Words H Q S := fun H' p xs e' hp w l r => h H' p xs e' hp w l fun z => i (r z)
/-- what a vault keeps -/
def VOk (d : Vd) : Prop := ∀ p, d.pub = some p → (∃ i, d.since = some i) ∧ StOk p
theorem at_ref {as : List Addr} {i : Nat} {z : V} (h : (as.map V.ref)[i]? = some z) : ∃ a, as[i]? = some a ∧ z = V.ref a := by
  rw [List.getElem?_map] at h
  cases e : as[i]? with
  | none => rw [e] at h; cases h
  | some a => rw [e] at h; exact ⟨a, rfl, (Option.some.inj h).symm⟩
theorem at_lk {K : PySem.W.Frag} {H : Hp} {as : List Addr} {ls : List Lk} {i : Nat} {a : Addr} (h : LocksAt K H as ls) (e : as[i]? = some a) : ∃ l, ls[i]? = some l ∧ Tp K H a (lkV l) := by
  have h1 := (List.getElem?_eq_some_iff.mp e).1
  have h2 : ls[i]? = some (ls[i]'(by rw [← h.1]; exact h1)) := List.getElem?_eq_getElem _
  exact ⟨_, h2, h.2 i a _ e h2⟩
/-! a state as data -/
def lkP (l : Lk) : PyData := .tuple [.int l.key, .int l.amt, .int l.dl, .bool l.ff]
def stP (s : Sd) : PyData := .tuple [.int s.ch, .int s.num, .int s.fst, .int s.snd, .tuple (s.locks.map lkP), .bool s.fin]
theorem dp_locks {K : PySem.W.Frag} {H : Hp} : ∀ {as : List Addr} {ls : List Lk}, LocksAt K H as ls → DpAll K H (as.map V.ref) (ls.map lkP)
  | [], [], _ => .nil
  | [], _ :: _, h => by cases h.1
  | _ :: _, [], h => by cases h.1
  | a :: as, l :: ls, h => by
    refine .cons (.tup (h.2 0 a l rfl rfl).t (.cons (.int _) (.cons (.int _) (.cons (.int _) (.cons (.bl _) .nil))))) (dp_locks ⟨Nat.succ.inj h.1, fun i b m h1 h2 => h.2 (i + 1) b m h1 h2⟩)
theorem dp_state {K : PySem.W.Frag} {H : Hp} {a : Addr} {s : Sd} (h : StateAt K H a s) : Dp K H (.ref a) (stP s) := by
  obtain ⟨la, as, t1, t2, t3⟩ := h.at_
  exact .tup t1.t (.cons (.int _) (.cons (.int _) (.cons (.int _) (.cons (.int _) (.cons (.tup t2.t (dp_locks t3)) (.cons (.bl _) .nil))))))
theorem lay_locks : ∀ ls : List Lk, PyData.canLayAll0 (ls.map lkP) = true
  | [] => rfl
  | l :: r => by
    have ih := lay_locks r
    show (PyData.canLay0 (lkP l) && PyData.canLayAll0 (r.map lkP)) = true
    rw [ih]
    rfl
theorem dep_locks : ∀ ls : List Lk, PyData.depthAll (ls.map lkP) ≤ 1
  | [] => Nat.zero_le _
  | l :: r => by
    have ih := dep_locks r
    show max (PyData.depth (lkP l)) (PyData.depthAll (r.map lkP)) ≤ 1
    have h1 : PyData.depth (lkP l) = 1 := rfl
    rw [h1]
    omega
theorem shaped_state (s : Sd) : SeqAt.shaped (stP s) = true := by
  have h1 : PyData.canLay0 (stP s) = true := by
    show (true && (true && (true && (true && (PyData.canLayAll0 (s.locks.map lkP) && (true && true)))))) = true
    rw [lay_locks]
    rfl
  have h2 : PyData.depth (stP s) ≤ 64 := by
    show max 0 (max 0 (max 0 (max 0 (max (PyData.depthAll (s.locks.map lkP) + 1) (max 0 0))))) + 1 ≤ 64
    have := dep_locks s.locks
    omega
  show (PyData.canLay0 (stP s) && decide (PyData.depth (stP s) ≤ 64)) = true
  rw [h1, decide_eq_true h2]
  rfl
def spPublishReasons (K : PySem.W.Frag) : Sp := fun vs H Q _ => ∃ (A : Ad) (b : Bk) (v sa ha : Addr) (d : Vd) (s : Sd) (hs : List Int), vs = [.ref A.bk, .ref v, .ref sa, .ref ha] ∧ BookAt K H A b ∧ VaultAt K H v d ∧ VOk d ∧ StateAt K H sa s ∧ StOk s ∧ Tab K H ∧ Tp K H ha (hs.map V.int) ∧
  Words H Q (0 ≤ s.fst + d.sums.s0 - d.sums.s1)
def spIsDecided (K : PySem.W.Frag) : Sp := fun vs H Q _ => ∃ (a : Addr) (l : Lk) (A : Ad) (b : Bk), vs = [.ref a, .ref A.bk] ∧ Tp K H a (lkV l) ∧ BookAt K H A b ∧ ∀ b, Q (.bl b) H
def spSettleReasons (K : PySem.W.Frag) : Sp := fun vs H Q _ => ∃ (A : Ad) (b : Bk) (v : Addr) (d : Vd), vs = [.ref A.bk, .ref v] ∧ BookAt K H A b ∧ VaultAt K H v d ∧ VOk d ∧ Words H Q (d.pub ≠ none)
theorem q_orV {σ : L2.St} {H : Hp} {te tb : TE} {R : VK} (h : te σ H fun x H1 => ∃ c, x = .bl c ∧ if c = true then R (.bl true) H1 else tb σ H1 R) : tOrV te tb σ H R := h
section
variable {P : Program} {w : World} {K : PySem.W.Frag} {mg : Str → Option Value} {base : Heap}
theorem ok_is_decided (T : Txt K mg) : HasF P w K mg base "is_decided" 2 ["lock", "book"] (spIsDecided K) := by
  have G_was_opened : HasF P w K mg base "was_opened" 1 ["lock", "receipts"] (spWasOpened K) := ok_was_opened T
  refine hasF (st := s_is_decided) T.f_is_decided T.g_is_decided sc_is_decided (fun _ _ _ _ _ _ us hl => match us, hl with | [_, _], _ => rfl) (fun vs H Q E h => ?_) (fun f cdv A0 outer s H vs Q E hr h => ?_)
  · obtain ⟨a, l, A, b, rfl, _⟩ := h
    rfl
  · obtain ⟨a, l, A, b, rfl, t1, B, k⟩ := h
    obtain ⟨dx, o1⟩ := B.ob
    refine ⟨_, (pss_one (ps_ret (pe_or (pe_f G_was_opened hr (pa_cons (pv 0) (pa_cons (pe_fldK (K := K) rfl (pv 1) rfl) pa_nil))) (pe_one (pe_cmpR op_gt (pe_fldK (K := K) rfl (pv 1) rfl) (pe_ix (ix_tupK (K := K) rfl) (pv 0) pe_int (fun _ _ => rfl)) (nomark _)))))), ?_⟩
    refine s_ret (q_orV ?_)
    refine' q_call (by walk_at "va") ⟨a, A.rd, l, b.receipts, rfl, t1, B.re, fun c => ⟨c, rfl, if_b (fun _ => k true) (fun _ => ?_)⟩⟩
    exact go (by walk_at "vl") (k _)
theorem ok_settle_reasons (T : Txt K mg) : HasF P w K mg base "settle_reasons" 3 ["book", "vault"] (spSettleReasons K) := by
  have G_is_decided : HasF P w K mg base "is_decided" 2 ["lock", "book"] (spIsDecided K) := ok_is_decided T
  refine hasF (st := s_settle_reasons) T.f_settle_reasons T.g_settle_reasons sc_settle_reasons (fun _ _ _ _ _ _ us hl => match us, hl with | [_, _], _ => rfl) (fun vs H Q E h => ?_) (fun f cdv A0 outer s H vs Q E hr h => ?_)
  · obtain ⟨A, b, v, d, rfl, _⟩ := h
    rfl
  · obtain ⟨A, b, v, d, rfl, B, hV, vo, k⟩ := h
    refine ⟨_, (pss_cons (ps_if (pt_cmpR op_isN (pe_fldK (K := K) rfl (pv 1) rfl) pe_non (nomark _)) (pss_one (ps_ret (pe_lst (pa_cons pe_str pa_nil)))) pss_nil)
      (pss_cons (ps_set (i := 2) sc_settle_reasons.nd rfl (by first | exact Or.inl rfl | exact Or.inr rfl) (pe_lst pa_nil))
      (Evl.pss_cut (ps_if (pt_cmpR op_le (pe_fldK (K := K) rfl (pv 0) rfl) (pe_op op_add (pe_fldK (K := K) rfl (pv 1) rfl) (pe_ix (ix_tupK (K := K) rfl) (pe_fldK (K := K) rfl (pv 1) rfl) pe_int (fun _ _ => rfl))) (nomark _)) (pss_one (ps_expr (pe_bm PySem.F.plainAttrs_list PySem.F.slot_list_append PySem.F.type_list_append mt_append (pv 2) (pa_cons pe_str pa_nil)))) pss_nil)
      (Evl.pss_cut (ps_if (pt_not (pt_val (pe_callB (cr_all rfl) (by rfl) T.z_all (by decide +kernel) (pa_cons (pe_lc (own := [("lock", 3)]) (g := gName 3) rfl sc_settle_reasons.nd (pi_tup (pe_ix (ix_tupK (K := K) rfl) (pe_fldK (K := K) rfl (pv 1) rfl) pe_int (fun _ _ => rfl))) (blkOk_by (N := N_settle_reasons) (sc := defScope s_settle_reasons) (by decide +kernel)) (fun _ _ _ _ _ => (pg_name (i := 3) sc_settle_reasons.nd rfl (by first | exact Or.inl rfl | exact Or.inr rfl))) (fun _ _ _ _ _ => pts_nil) (fun _ _ _ _ _ => (pe_f G_is_decided hr (pa_cons (pv 3) (pa_cons (pv 0) pa_nil))))) pa_nil)))) (pss_one (ps_expr (pe_bm PySem.F.plainAttrs_list PySem.F.slot_list_append PySem.F.type_list_append mt_append (pv 2) (pa_cons pe_str pa_nil)))) pss_nil)
      (pss_one (ps_ret (pv 2))))))), ?_⟩
    obtain ⟨dx0, oa0, sa0, pq0, o1, u1, u2, u3⟩ := hV.at_
    cases hp : d.pub with
    | none =>
      rw [hp] at u3
      have u4 : pq0 = V.non := u3
      subst u4
      refine' q_ifA (b := true) (v_itest (x := .non) (by walk_at "vl")) (fun _ => ?_) (fun z => by cases z)
      refine s_ret (q_lst (va_cons val_c va_nil) (by show 1 ≤ 1000; decide) fun p hp' => k _ p _ (Evl.Ex.new hp') hp' upd_same (by show 1 ≤ 20; decide) fun z => by cases z)
    | some st =>
      obtain ⟨⟨i0, hi0⟩, so⟩ := vo st hp
      rw [hp] at u3
      obtain ⟨a, rfl, u4⟩ := u3
      refine' q_ifA (b := false) (v_itest (x := .ref a) (by walk_at "vl")) (fun z => by cases z) (fun _ => n_next ?_)
      refine q_asg (q_lst va_nil (Nat.zero_le _) fun pw h0 => ?_)
      have e0 : Ex H (upd H pw (.lst [])) := Evl.Ex.new h0
      have w0 : upd H pw (.lst []) pw = some (.lst []) := upd_same
      generalize upd H pw (.lst []) = H1 at e0 w0 ⊢
      have l0 : ([] : List V).length ≤ 0 := Nat.le_refl _
      clear o1 u1 u2
      -- runs
      obtain ⟨dx1, oa1, sa1, pq1, o1, u1, u2, u3⟩ := (hV.ex e0).at_
      obtain ⟨dx2, o2⟩ := (B.ex e0).ob
      rw [hi0] at o1
      have o1' : H1 v = some (.ins (He.ga K "Vault") dx1 (vF oa1 sa1 d.money d.spl d.least pq1 (.int i0))) := o1
      refine' q_word e0 h0 w0 (by omega) rfl (Ans.n (a_val (by walk_at "vl"))) fun x1 H2 e1 w1 l1 z1 => ?_
      clear o1 o1' u1 u2 u3 o2
      -- undecided
      obtain ⟨dx1, oa1, sa1, pq1, o1, u1, u2, u3⟩ := (hV.ex e1).at_
      have B1 := B.ex e1
      rw [hp] at u3
      obtain ⟨a1, rfl, u4⟩ := u3
      obtain ⟨la, as, u5, u6, u7⟩ := u4.at_
      refine' q_word (R := fun _ => True) e1 h0 w1 (by omega) rfl ?_ fun x2 H3 e2 w2 l2 z2 => ?_
      · refine an_not (R := fun _ => True) (an_B fun Q' hQ => ?_)
        refine q_cb (q_consG ?_)
        refine' q_lcT (fun i acc => ∃ bs : List Bool, acc = bs.map V.bl) (by walk_at "vl") u6 (by rw [List.length_map, u7.1]; have := so.few; omega) (fun _ => rfl) ⟨[], rfl⟩ (fun i x H' acc hx e' ha => ?_) (fun p H' acc e' hp1 hp2 _ ha => ?_)
        · obtain ⟨b1, hb1, rfl⟩ := at_ref hx
          obtain ⟨l, hl, tl⟩ := at_lk u7 hb1
          obtain ⟨bs, rfl⟩ := ha
          intro Q2 hQ2
          refine q_call (vs := [.ref b1, .ref A.bk]) (va_cons (val_var rfl) (va_cons (val_var rfl) va_nil)) ⟨b1, l, A, b, rfl, tl.ex e', B1.ex e', fun c => hQ2 _ _ (Evl.Ex.refl _) ⟨bs ++ [c], by rw [List.map_append]; rfl⟩⟩
        · obtain ⟨bs, rfl⟩ := ha
          exact q_nil ⟨p, bs, rfl, SqL.of hp2, hQ _ _ e' ⟨_, rfl, trivial⟩⟩
      refine s_ret (go (val_var rfl) (k _ _ _ e2 h0 w2 (by omega) fun _ => by rw [hp]; exact fun z => by cases z))
theorem ok_publish_reasons (T : Txt K mg) (TB : Tb K mg base) : HasF P w K mg base "publish_reasons" 4 ["book", "vault", "state", "hands"] (spPublishReasons K) := by
  have G_has_hands : HasF P w K mg base "has_hands" 1 ["hands", "ends"] (spHasHands K) := ok_has_hands T
  have G_ends_of : HasF P w K mg base "ends_of" 1 ["vault"] (spEndsOf K) := ok_ends_of T
  have G_opening_state : HasF P w K mg base "opening_state" 1 ["opening"] (spOpeningState K) := ok_opening_state T
  have G_fits : HasF P w K mg base "fits" 3 ["vault", "state"] (spFits K) := ok_fits T TB
  refine hasF (st := s_publish_reasons) T.f_publish_reasons T.g_publish_reasons sc_publish_reasons (fun _ _ _ _ _ _ us hl => match us, hl with | [_, _, _, _], _ => rfl) (fun vs H Q E h => ?_) (fun f cdv A0 outer s H vs Q E hr h => ?_)
  · obtain ⟨A, b, v, sa, ha, d, st, hs, rfl, _⟩ := h
    rfl
  · obtain ⟨A, b, v, sa, ha, d, st, hs, rfl, B, hV, vo, hS, so, tab, t2, k⟩ := h
    refine ⟨_, (pss_cons (ps_set (i := 4) sc_publish_reasons.nd rfl (by first | exact Or.inl rfl | exact Or.inr rfl) (pe_lst pa_nil))
      (Evl.pss_cut (ps_if (PW.pt (pw_and (pt_cmpR (op_neD (hu64 hr)) (pv 2) (pe_f G_opening_state (hr.mono (by decide)) (pa_cons (pe_fldK (K := K) rfl (pv 1) rfl) pa_nil)) (nomark _)) (pw_and1 (pt_not (pt_val (pe_f G_has_hands (hr.mono (by decide)) (pa_cons (pv 3) (pa_cons (pe_f G_ends_of (hr.mono (by decide)) (pa_cons (pv 1) pa_nil)) pa_nil)))))))) (pss_one (ps_expr (pe_bm PySem.F.plainAttrs_list PySem.F.slot_list_append PySem.F.type_list_append mt_append (pv 4) (pa_cons pe_str pa_nil)))) pss_nil)
      (Evl.pss_cut (ps_if (pt_cmpR op_lt (pe_ix (ix_tupK (K := K) rfl) (pv 2) pe_int (fun _ _ => rfl)) (pe_fldK (K := K) rfl (pv 1) rfl) (nomark _)) (pss_one (ps_expr (pe_bm PySem.F.plainAttrs_list PySem.F.slot_list_append PySem.F.type_list_append mt_append (pv 4) (pa_cons pe_str pa_nil)))) pss_nil)
      (Evl.pss_cut (ps_if (pt_not (pt_val (pe_f G_fits hr (pa_cons (pv 1) (pa_cons (pv 2) pa_nil))))) (pss_one (ps_expr (pe_bm PySem.F.plainAttrs_list PySem.F.slot_list_append PySem.F.type_list_append mt_append (pv 4) (pa_cons pe_str pa_nil)))) pss_nil)
      (Evl.pss_cut (ps_if (PW.pt (pw_and (pt_val (pe_ix (ix_tupK (K := K) rfl) (pv 2) pe_int (fun _ _ => rfl))) (pw_and1 (pt_cmpR op_gt (pe_callB call_len_seq (by rfl) T.z_len (by decide +kernel) (pa_cons (pe_ix (ix_tupK (K := K) rfl) (pv 2) pe_int (fun _ _ => rfl)) pa_nil)) pe_int (nomark _))))) (pss_one (ps_expr (pe_bm PySem.F.plainAttrs_list PySem.F.slot_list_append PySem.F.type_list_append mt_append (pv 4) (pa_cons pe_str pa_nil)))) pss_nil)
      (pss_cons (ps_if (pt_cmpR op_notN (pe_fldK (K := K) rfl (pv 1) rfl) pe_non (nomark _)) (Evl.pss_cut (ps_if (pt_cmpR op_le (pe_ix (ix_tupK (K := K) rfl) (pv 2) pe_int (fun _ _ => rfl)) (pe_ix (ix_tupK (K := K) rfl) (pe_fldK (K := K) rfl (pv 1) rfl) pe_int (fun _ _ => rfl)) (nomark _)) (pss_one (ps_expr (pe_bm PySem.F.plainAttrs_list PySem.F.slot_list_append PySem.F.type_list_append mt_append (pv 4) (pa_cons pe_str pa_nil)))) pss_nil)
      (Evl.pss_cut (ps_if (pt_cmpR op_gt (pe_fldK (K := K) rfl (pv 0) rfl) (pe_op op_add (pe_fldK (K := K) rfl (pv 1) rfl) (pe_ix (ix_tupK (K := K) rfl) (pe_fldK (K := K) rfl (pv 1) rfl) pe_int (fun _ _ => rfl))) (nomark _)) (pss_one (ps_expr (pe_bm PySem.F.plainAttrs_list PySem.F.slot_list_append PySem.F.type_list_append mt_append (pv 4) (pa_cons pe_str pa_nil)))) pss_nil)
      pss_nil)) pss_nil)
      (pss_one (ps_ret (pv 4))))))))), ?_⟩
    refine q_asg (q_lst va_nil (Nat.zero_le _) fun pw h0 => ?_)
    have e0 : Ex H (upd H pw (.lst [])) := Evl.Ex.new h0
    have w0 : upd H pw (.lst []) pw = some (.lst []) := upd_same
    generalize upd H pw (.lst []) = H1 at e0 w0 ⊢
    have l0 : ([] : List V).length ≤ 0 := Nat.le_refl _
    -- hands
    obtain ⟨dx0, oa0, sa0, pq0, o1, u1, u2, u3⟩ := (hV.ex e0).at_
    refine' q_word (R := fun _ => True) e0 h0 w0 (by omega) rfl ?_ fun x1 H2 e1 w1 l1 z1 => ?_
    · refine an_and (fun Q' hQ => ?_) (fun H2 e2 => ?_)
      · refine q_testT (q_opG (go (val_var rfl) ?_))
        refine' q_call (by walk_at "va") ⟨oa0, d.op, rfl, u1, fun H' p e' hp => ?_⟩
        exact ⟨stP st, _, dp_state (hS.ty (ex_ty (e0.trans e'))), dp_state hp, shaped_state _, shaped_state _, _, rfl, hQ _ _ e' trivial⟩
      · have e3 := e0.trans e2
        have t2' := t2.ex e3
        refine an_not (R := fun _ => True) (an_B fun Q' hQ => ?_)
        refine q_callG (q_cons (v := .ref ha) (val_var rfl) (q_consG ?_))
        refine' q_call (by walk_at "va") ⟨v, d, rfl, hV.ex e3, fun H' q e' _ hq => q_nil ⟨ha, q, hs, d.op.a, d.op.b, rfl, t2'.ex e', .inl hq, fun b => hQ _ _ e' ⟨b, rfl, trivial⟩⟩⟩
    clear o1 u1 u2 u3
    -- below least
    obtain ⟨dx1, oa1, sa1, pq1, o1, u1, u2, u3⟩ := (hV.ex e1).at_
    obtain ⟨la, as, s1, s2, s3⟩ := (hS.ty (ex_ty e1)).at_
    refine' q_word e1 h0 w1 (by omega) rfl (Ans.n (a_val (by walk_at "vl"))) fun x2 H3 e2 w2 l2 z2 => ?_
    clear o1 u1 u2 u3 s1 s2 s3
    -- does not fit
    refine' q_word (R := fun c => c = false → 0 ≤ st.fst + d.sums.s0 - d.sums.s1) e2 h0 w2 (by omega) rfl ?_ fun x3 H4 e3 w3 l3 z3 => ?_
    · refine an_not (R := fun c => c = true → 0 ≤ st.fst + d.sums.s0 - d.sums.s1) (an_B fun Q' hQ => ?_) |>.imp fun c z y => z (by rw [y]; rfl)
      refine' q_call (by walk_at "va") ⟨v, sa, d, st, rfl, hV.ex e2, hS.ty (ex_ty e2), so, tab.ex e2, fun c H' e' z => hQ _ _ e' ⟨c, rfl, z⟩⟩
    -- final with locks
    obtain ⟨la, as, s1, s2, s3⟩ := (hS.ty (ex_ty e3)).at_
    refine' q_word (R := fun _ => True) e3 h0 w3 (by omega) rfl ?_ fun x4 H5 e4 w4 l4 z4 => ?_
    · refine' an_and (AnsN.any (Ans.n (b := st.fin) (a_val (by walk_at "vl")))) (fun H' e' => ?_)
      have s1' := s1.ex e'
      have s2' := s2.ex e'
      exact AnsN.any (Ans.n (a_val (v_I0 (v_len (p := la) (by walk_at "vl") (.inr s2'.t)) val_c)))
    clear s1 s2 s3
    have fin : ∀ (x : List V) (H' : Hp), Ex H H' → H' pw = some (.lst x) → x.length ≤ x4.length + 2 → (x = [] → x4 = []) → Q (.ref pw) H' := fun x H' e' hw hl hx => k _ _ _ e' h0 hw (by omega) fun z => by
      obtain ⟨y3, _⟩ := z4 (hx z)
      obtain ⟨y2, r3⟩ := z3 y3
      exact r3 rfl
    -- published is not None
    obtain ⟨dx1, oa1, sa1, pq1, o1, u1, u2, u3⟩ := (hV.ex e4).at_
    obtain ⟨la, as, s1, s2, s3⟩ := (hS.ty (ex_ty e4)).at_
    cases hp : d.pub with
    | none =>
      rw [hp] at u3
      have u4 : pq1 = V.non := u3
      subst u4
      refine' q_ifA (b := false) (v_ntest (x := .non) (by walk_at "vl")) (fun z => by cases z) (fun _ => n_next ?_)
      exact s_ret (go (val_var rfl) (fin _ _ e4 w4 (by omega) id))
    | some sp =>
      obtain ⟨⟨i0, hi0⟩, _⟩ := vo sp hp
      rw [hp] at u3
      obtain ⟨a1, rfl, u4⟩ := u3
      obtain ⟨la1, as1, p1, p2, p3⟩ := u4.at_
      refine' q_ifA (b := true) (v_ntest (x := .ref a1) (by walk_at "vl")) (fun _ => ?_) (fun z => by cases z)
      refine' q_word e4 h0 w4 (by omega) rfl (Ans.n (a_val (by walk_at "vl"))) fun x5 H6 e5 w5 l5 z5 => ?_
      clear o1 u1 u2 u4 p1 p2 p3 s1 s2 s3
      obtain ⟨dx1, oa1, sa1, pq1, o1, u1, u2, u3⟩ := (hV.ex e5).at_
      obtain ⟨dx2, o2⟩ := (B.ex e5).ob
      rw [hi0] at o1
      have o1' : H6 v = some (.ins (He.ga K "Vault") dx1 (vF oa1 sa1 d.money d.spl d.least pq1 (.int i0))) := o1
      refine' q_word e5 h0 w5 (by omega) rfl (Ans.n (a_val (by walk_at "vl"))) fun x6 H7 e6 w6 l6 z6 => ?_
      refine n_next (s_ret (go (val_var rfl) (fin _ _ e6 w6 (by omega) fun z => (z5 (z6 z).1).1)))
end
end Tk
/-! Reasons against a thing. -/
namespace Tk
open PySem PySem.Spec PyProof.Rows L2
local macro_rules | `(tactic| walk_at "vl") => `(tactic| first
  | ((with_reducible refine' val_var ?a1); (case a1 => rfl))
  | ((with_reducible refine' val_c))
  | ((with_reducible refine' f_Vault_opening ?a1 ?a2 ?a3); (case a1 => assumption); (case a2 => walk_at "vl"); (case a3 => assumption))
  | ((with_reducible refine' f_Vault_money ?a1 ?a2 ?a3); (case a1 => assumption); (case a2 => walk_at "vl"); (case a3 => assumption))
  | ((with_reducible refine' f_Vault_sums ?a1 ?a2 ?a3); (case a1 => assumption); (case a2 => walk_at "vl"); (case a3 => assumption))
  | ((with_reducible refine' f_Vault_splices ?a1 ?a2 ?a3); (case a1 => assumption); (case a2 => walk_at "vl"); (case a3 => assumption))
  | ((with_reducible refine' f_Vault_least ?a1 ?a2 ?a3); (case a1 => assumption); (case a2 => walk_at "vl"); (case a3 => assumption))
  | ((with_reducible refine' f_Vault_published ?a1 ?a2 ?a3); (case a1 => assumption); (case a2 => walk_at "vl"); (case a3 => assumption))
  | ((with_reducible refine' f_Vault_since ?a1 ?a2 ?a3); (case a1 => assumption); (case a2 => walk_at "vl"); (case a3 => assumption))
  | ((with_reducible refine' f_Book_purses ?a1 ?a2 ?a3); (case a1 => assumption); (case a2 => walk_at "vl"); (case a3 => assumption))
  | ((with_reducible refine' f_Book_vaults ?a1 ?a2 ?a3); (case a1 => assumption); (case a2 => walk_at "vl"); (case a3 => assumption))
  | ((with_reducible refine' f_Book_receipts ?a1 ?a2 ?a3); (case a1 => assumption); (case a2 => walk_at "vl"); (case a3 => assumption))
  | ((with_reducible refine' f_Book_ended ?a1 ?a2 ?a3); (case a1 => assumption); (case a2 => walk_at "vl"); (case a3 => assumption))
  | ((with_reducible refine' f_Book_done ?a1 ?a2 ?a3); (case a1 => assumption); (case a2 => walk_at "vl"); (case a3 => assumption))
  | ((with_reducible refine' f_Book_height ?a1 ?a2 ?a3); (case a1 => assumption); (case a2 => walk_at "vl"); (case a3 => assumption))
  | ((with_reducible refine' f_Book_burnt ?a1 ?a2 ?a3); (case a1 => assumption); (case a2 => walk_at "vl"); (case a3 => assumption))
  | ((with_reducible refine' f_Ledger_book ?a1 ?a2 ?a3); (case a1 => assumption); (case a2 => walk_at "vl"); (case a3 => assumption))
  | ((with_reducible refine' f_Ledger_room ?a1 ?a2 ?a3); (case a1 => assumption); (case a2 => walk_at "vl"); (case a3 => assumption))
  | ((with_reducible refine' f_Ledger_waiting ?a1 ?a2 ?a3); (case a1 => assumption); (case a2 => walk_at "vl"); (case a3 => assumption))
  | ((with_reducible refine' v_ix ?a1 ?a2 ?a3 ?a4); (case a1 => walk_at "vl"); (case a2 => walk_at "vl"); (case a3 => assumption); (case a4 => rfl))
  | ((with_reducible refine' v_I0 ?a1 ?a2); (case a1 => walk_at "vl"); (case a2 => walk_at "vl"))
  | ((with_reducible refine' v_isN ?a1); (case a1 => walk_at "vl"))
  | ((with_reducible refine' v_notN ?a1); (case a1 => walk_at "vl"))
  | ((with_reducible refine' v_int1 ?a1); (case a1 => walk_at "vl"))
  | ((with_reducible refine' v_eq ?a1 ?a2 ?a3); (case a1 => walk_at "vl"); (case a2 => walk_at "vl"); (case a3 => rfl))
  | ((with_reducible refine' v_ne ?a1 ?a2 ?a3); (case a1 => walk_at "vl"); (case a2 => walk_at "vl"); (case a3 => rfl))
  | ((with_reducible refine' v_max2 ?a1 ?a2); (case a1 => walk_at "vl"); (case a2 => walk_at "vl"))
  | ((with_reducible refine' v_min2 ?a1 ?a2); (case a1 => walk_at "vl"); (case a2 => walk_at "vl")))
local macro_rules | `(tactic| walk_at "va") => `(tactic| first
  | (with_reducible exact va_nil)
  | ((with_reducible refine' va_cons ?a1 ?a2); (case a1 => walk_at "vl"); (case a2 => walk_at "va")))

/-- what an act must be -/
def ActOk : Act → Prop
  | .pub s => StOk s
  | _ => True
/-- every vault of a book keeps its word -/
def Bg (b : Bk) : Prop := ∀ p ∈ b.vaults, VOk p.2.2
/-- nothing is against an act -/
def ActReady (b : Bk) : Act → Prop
  | .opn o => getI b.vaults o.ch = none ∧ ¬ o.ch ∈ b.ended
  | .pub s => ∃ a d, getI b.vaults s.ch = some (a, d) ∧ 0 ≤ s.fst + d.sums.s0 - d.sums.s1
  | .set_ c => ∃ a d, getI b.vaults c = some (a, d) ∧ d.pub ≠ none
  | .spl s => ∃ a d, getI b.vaults s.ch = some (a, d) ∧ s.o1 + s.o2 ≤ d.money + s.i1 + s.i2 ∧ d.pub = none
  | _ => True
structure Ready (b : Bk) (t : Thing) : Prop where
  new : ¬ (t.payer, t.tag) ∈ b.done
  act : ActReady b t.act
  can : ∀ p ∈ taken (parts b.vaults t), p.2 ≤ purse b.purses p.1
def isCh : Act → Prop
  | .pub _ | .set_ _ | .spl _ => True
  | _ => False
def spChannelReasons (K : PySem.W.Frag) : Sp := fun vs H Q _ => ∃ (A : Ad) (b : Bk) (aa ha : Addr) (t : Act) (hs : List Int), vs = [.ref A.bk, .ref aa, .ref ha] ∧ BookAt K H A b ∧ Bg b ∧ ActAt K H aa t ∧ ActOk t ∧ isCh t ∧ Tab K H ∧ Tp K H ha (hs.map V.int) ∧ Words H Q (ActReady b t)
def spActReasons (K : PySem.W.Frag) : Sp := fun vs H Q _ => ∃ (A : Ad) (b : Bk) (aa ha : Addr) (t : Act) (hs : List Int), vs = [.ref A.bk, .ref aa, .ref ha] ∧ BookAt K H A b ∧ Bg b ∧ ActAt K H aa t ∧ ActOk t ∧ Tab K H ∧ Tp K H ha (hs.map V.int) ∧ Words H Q (ActReady b t)
def Words2 (H : Hp) (Q : VK) (R : Prop) : Prop := ∀ (H' : Hp) (p : Addr) (xs : List V), Ex H H' → H p = none → H' p = some (.lst xs) → xs.length ≤ 40 → (xs = [] → R) → Q (.ref p) H'
def spReasons (K : PySem.W.Frag) : Sp := fun vs H Q _ => ∃ (A : Ad) (b : Bk) (ta : Addr) (t : Thing), vs = [.ref A.bk, .ref ta] ∧ BookAt K H A b ∧ Bg b ∧ ThingAt K H ta t ∧ ActOk t.act ∧ Tab K H ∧ Words2 H Q (Ready b t)
theorem q_andT {t u : TT} {σ : L2.St} {H : Hp} {R : Bool → Hp → Prop} (h : t σ H fun b H1 => if b = true then u σ H1 R else R false H1) : tAnd t u σ H R := h
theorem v_is' {t : TT} {σ : L2.St} {H : Hp} {b c : Bool} (h : Ans t σ H b) (e : b = c) : Ans t σ H c := e ▸ h
theorem v_act {K : PySem.W.Frag} {σ : L2.St} {H : Hp} {ta : TE} {a : Addr} {t : Act} {c : Str} {b : Bool} (h : Val ta σ H (.ref a)) (ha : ActAt K H a t) (e : decide (V.str (nameOf t) = V.str c) = b) : Val (tOp rEq (tOp (rIxT K) ta (tC (.int 0))) (tC (.str c))) σ H (.bl b) := by
  obtain ⟨rest, hr⟩ := ha.head
  rw [← e]
  exact v_eq (v_ix h val_c hr (at_of (j := 0) rfl rfl)) val_c rfl
/-! pairs as data -/
def prP (p : Int × Int) : PyData := .tuple [.int p.1, .int p.2]
theorem dp_pairs {K : PySem.W.Frag} {H : Hp} : ∀ {as : List Addr} {ps : List (Int × Int)}, PairsAt K H as ps → DpAll K H (as.map V.ref) (ps.map prP)
  | [], [], _ => .nil
  | [], _ :: _, h => by cases h.1
  | _ :: _, [], h => by cases h.1
  | a :: as, p :: ps, h => .cons (.tup (h.2 0 a p rfl rfl).t (.cons (.int _) (.cons (.int _) .nil))) (dp_pairs ⟨Nat.succ.inj h.1, fun i b m h1 h2 => h.2 (i + 1) b m h1 h2⟩)
theorem lay_pairs : ∀ ps : List (Int × Int), PyData.canLayAll0 (ps.map prP) = true
  | [] => rfl
  | p :: r => by
    have ih := lay_pairs r
    show (PyData.canLay0 (prP p) && PyData.canLayAll0 (r.map prP)) = true
    rw [ih]
    rfl
theorem dep_pairs : ∀ ps : List (Int × Int), PyData.depthAll (ps.map prP) ≤ 1
  | [] => Nat.zero_le _
  | p :: r => by
    have ih := dep_pairs r
    show max (PyData.depth (prP p)) (PyData.depthAll (r.map prP)) ≤ 1
    have h1 : PyData.depth (prP p) = 1 := rfl
    rw [h1]
    omega
theorem shaped_pairs (ps : List (Int × Int)) : SeqAt.shaped (.list (ps.map prP)) = true := by
  have h1 : PyData.canLay0 (.list (ps.map prP)) = true := lay_pairs ps
  have h2 : PyData.depth (.list (ps.map prP)) ≤ 64 := by
    show PyData.depthAll (ps.map prP) + 1 ≤ 64
    have := dep_pairs ps
    omega
  show (PyData.canLay0 (.list (ps.map prP)) && decide (PyData.depth (.list (ps.map prP)) ≤ 64)) = true
  rw [h1, decide_eq_true h2]
  rfl
theorem any_pairs (x y : Int) : ∀ ps : List (Int × Int), ((ps.map prP).any fun z => PyData.eqv z (prP (x, y))) = decide ((x, y) ∈ ps)
  | [] => rfl
  | p :: r => by
    have ih := any_pairs x y r
    have e : ((p :: r).map prP).any (fun z => PyData.eqv z (prP (x, y))) = (PyData.eqv (prP p) (prP (x, y)) || (r.map prP).any fun z => PyData.eqv z (prP (x, y))) := rfl
    rw [e, ih]
    have e2 : PyData.eqv (prP p) (prP (x, y)) = (decide (p.1 = x) && (decide (p.2 = y) && true)) := rfl
    rw [e2]
    by_cases h : p = (x, y)
    · subst h
      simp
    · have h' : ¬ (x, y) = p := fun z => h z.symm
      have h2 : (decide (p.1 = x) && (decide (p.2 = y) && true)) = false := by
        by_cases a : p.1 = x
        · by_cases b : p.2 = y
          · exact absurd (Prod.ext a b) h
          · simp [b]
        · simp [a]
      rw [h2]
      simp [h']
theorem nd_taken : ∀ (ps : List (Int × Int)) (l : Pm), (keys l).Nodup → (keys (ps.foldl addTo l)).Nodup
  | [], _, h => h
  | p :: r, l, h => nd_taken r (addTo l p) (nd_put h)
section
variable {P : Program} {w : World} {K : PySem.W.Frag} {mg : Str → Option Value} {base : Heap}
theorem ok_channel_reasons (T : Txt K mg) (TB : Tb K mg base) : HasF P w K mg base "channel_reasons" 5 ["book", "act", "hands"] (spChannelReasons K) := by
  have G_publish_reasons : HasF P w K mg base "publish_reasons" 4 ["book", "vault", "state", "hands"] (spPublishReasons K) := ok_publish_reasons T TB
  have G_splice_reasons : HasF P w K mg base "splice_reasons" 2 ["book", "vault", "splice", "hands"] (spSpliceReasons K) := ok_splice_reasons T
  have G_settle_reasons : HasF P w K mg base "settle_reasons" 3 ["book", "vault"] (spSettleReasons K) := ok_settle_reasons T
  refine hasF (st := s_channel_reasons) T.f_channel_reasons T.g_channel_reasons sc_channel_reasons (fun _ _ _ _ _ _ us hl => match us, hl with | [_, _, _], _ => rfl) (fun vs H Q E h => ?_) (fun f cdv A0 outer s H vs Q E hr h => ?_)
  · obtain ⟨A, b, aa, ha, t, hs, rfl, _⟩ := h
    rfl
  · obtain ⟨A, b, aa, ha, t, hs, rfl, B, bg, ta1, ao, ic, tab, t2, k⟩ := h
    obtain ⟨dx, o1⟩ := B.ob
    refine ⟨_, (pss_cons (ps_set (i := 3) sc_channel_reasons.nd rfl (by first | exact Or.inl rfl | exact Or.inr rfl) (pe_ifExp (pt_cmpR op_eq (pe_ix (ix_tupK (K := K) rfl) (pv 1) pe_int (fun _ _ => rfl)) pe_str (nomark _)) (pe_ix (ix_tupK (K := K) rfl) (pv 1) pe_int (fun _ _ => rfl)) (pe_ix (ix_tupK (K := K) rfl) (pe_ix (ix_tupK (K := K) rfl) (pv 1) pe_int (fun _ _ => rfl)) pe_int (fun _ _ => rfl))))
      (pss_cons (ps_if (pt_cmp (pc_dnotin (hu_of hr) (pv 3) (pe_fldK (K := K) rfl (pv 0) rfl))) (pss_one (ps_ret (pe_lst (pa_cons pe_str pa_nil)))) pss_nil)
      (pss_cons (ps_set (i := 4) sc_channel_reasons.nd rfl (by first | exact Or.inl rfl | exact Or.inr rfl) (pe_dget (hu_of hr) (pe_fldK (K := K) rfl (pv 0) rfl) (pv 3) (fun _ _ => rfl)))
      (pss_cons (ps_if (pt_cmpR op_eq (pe_ix (ix_tupK (K := K) rfl) (pv 1) pe_int (fun _ _ => rfl)) pe_str (nomark _)) (pss_one (ps_ret (pe_f G_publish_reasons hr (pa_cons (pv 0) (pa_cons (pv 4) (pa_cons (pe_ix (ix_tupK (K := K) rfl) (pv 1) pe_int (fun _ _ => rfl)) (pa_cons (pv 2) pa_nil))))))) pss_nil)
      (pss_cons (ps_if (pt_cmpR op_eq (pe_ix (ix_tupK (K := K) rfl) (pv 1) pe_int (fun _ _ => rfl)) pe_str (nomark _)) (pss_one (ps_ret (pe_f G_splice_reasons (hr.mono (by decide)) (pa_cons (pv 0) (pa_cons (pv 4) (pa_cons (pe_ix (ix_tupK (K := K) rfl) (pv 1) pe_int (fun _ _ => rfl)) (pa_cons (pv 2) pa_nil))))))) pss_nil)
      (pss_one (ps_ret (pe_f G_settle_reasons (hr.mono (by decide)) (pa_cons (pv 0) (pa_cons (pv 4) pa_nil)))))))))), ?_⟩
    have bad : ∀ σ, tRet (tLst (tCons (tC (.str "no channel")) tNil)) { nx := fun _ H' => Q V.non H', rt := Q } σ H := fun σ => s_ret (q_lst (va_cons val_c va_nil) (by show 1 ≤ 1000; decide) fun p hp' => k _ p _ (Evl.Ex.new hp') hp' upd_same (by show 1 ≤ 20; decide) fun z => by cases z)
    cases t with
    | pay x m => cases ic
    | opn o => cases ic
    | rev o => cases ic
    | pub st =>
      obtain ⟨sa, ta2, hS⟩ := id ta1
      obtain ⟨la, as, s1, s2, s3⟩ := hS.at_
      refine q_set (v := .int st.ch) ?_ ?_
      · refine' v_if (b := false) (a_no (val_var rfl) ta1 (by simp only [nameOf]; decide +kernel)) (fun z => by cases z) (fun _ => by walk_at "vl")
      cases hv : getI b.vaults st.ch with
      | none =>
        refine' q_ifA (b := true) (v_is' (a_dnin (k := st.ch) (val_var rfl) (by walk_at "vl") B.va) (by rw [hv]; rfl)) (fun _ => bad _) (fun z => by cases z)
      | some q =>
        obtain ⟨v, d⟩ := q
        refine' q_ifA (b := false) (v_is' (a_dnin (k := st.ch) (val_var rfl) (by walk_at "vl") B.va) (by rw [hv]; rfl)) (fun z => by cases z) (fun _ => n_next ?_)
        refine' q_set (v := .ref v) (v_dget (g := vR) (v := (v, d)) (by walk_at "vl") (val_var rfl) B.va hv) ?_
        refine' q_ifA (b := true) (a_yes (val_var rfl) ta1 rfl) (fun _ => ?_) (fun z => by cases z)
        refine' s_ret (q_call (by walk_at "va") ⟨A, b, v, sa, ha, d, st, hs, rfl, B, B.vault hv, bg _ (getI_mem hv), hS, ao, tab, t2, k.imp fun z => ⟨v, d, hv, z⟩⟩)
    | set_ c =>
      have ta2 : Tp K H aa [.str "settle", .int c] := ta1
      refine q_set (v := .int c) ?_ ?_
      · refine' v_if (b := true) (a_yes (val_var rfl) ta1 rfl) (fun _ => by walk_at "vl") (fun z => by cases z)
      cases hv : getI b.vaults c with
      | none =>
        refine' q_ifA (b := true) (v_is' (a_dnin (k := c) (val_var rfl) (by walk_at "vl") B.va) (by rw [hv]; rfl)) (fun _ => bad _) (fun z => by cases z)
      | some q =>
        obtain ⟨v, d⟩ := q
        refine' q_ifA (b := false) (v_is' (a_dnin (k := c) (val_var rfl) (by walk_at "vl") B.va) (by rw [hv]; rfl)) (fun z => by cases z) (fun _ => n_next ?_)
        refine' q_set (v := .ref v) (v_dget (g := vR) (v := (v, d)) (by walk_at "vl") (val_var rfl) B.va hv) ?_
        refine' q_ifA (b := false) (a_no (val_var rfl) ta1 (by simp only [nameOf]; decide +kernel)) (fun z => by cases z) (fun _ => n_next ?_)
        refine' q_ifA (b := false) (a_no (val_var rfl) ta1 (by simp only [nameOf]; decide +kernel)) (fun z => by cases z) (fun _ => n_next ?_)
        refine' s_ret (q_call (by walk_at "va") ⟨A, b, v, d, rfl, B, B.vault hv, bg _ (getI_mem hv), k.imp fun z => ⟨v, d, hv, z⟩⟩)
    | spl sp =>
      obtain ⟨sa, ta2, s1⟩ := id ta1
      refine q_set (v := .int sp.ch) ?_ ?_
      · refine' v_if (b := false) (a_no (val_var rfl) ta1 (by simp only [nameOf]; decide +kernel)) (fun z => by cases z) (fun _ => by walk_at "vl")
      cases hv : getI b.vaults sp.ch with
      | none =>
        refine' q_ifA (b := true) (v_is' (a_dnin (k := sp.ch) (val_var rfl) (by walk_at "vl") B.va) (by rw [hv]; rfl)) (fun _ => bad _) (fun z => by cases z)
      | some q =>
        obtain ⟨v, d⟩ := q
        refine' q_ifA (b := false) (v_is' (a_dnin (k := sp.ch) (val_var rfl) (by walk_at "vl") B.va) (by rw [hv]; rfl)) (fun z => by cases z) (fun _ => n_next ?_)
        refine' q_set (v := .ref v) (v_dget (g := vR) (v := (v, d)) (by walk_at "vl") (val_var rfl) B.va hv) ?_
        refine' q_ifA (b := false) (a_no (val_var rfl) ta1 (by simp only [nameOf]; decide +kernel)) (fun z => by cases z) (fun _ => n_next ?_)
        refine' q_ifA (b := true) (a_yes (val_var rfl) ta1 rfl) (fun _ => ?_) (fun z => by cases z)
        refine' s_ret (q_call (by walk_at "va") ⟨A, b, v, sa, ha, d, sp, hs, rfl, B, B.vault hv, s1, t2, k.imp fun z => ⟨v, d, hv, z⟩⟩)
theorem ok_act_reasons (T : Txt K mg) (TB : Tb K mg base) : HasF P w K mg base "act_reasons" 6 ["book", "act", "hands"] (spActReasons K) := by
  have G_open_reasons : HasF P w K mg base "open_reasons" 2 ["book", "opening", "hands"] (spOpenReasons K) := ok_open_reasons T
  have G_channel_reasons : HasF P w K mg base "channel_reasons" 5 ["book", "act", "hands"] (spChannelReasons K) := ok_channel_reasons T TB
  have G_key_of : HasF P w K mg base "key_of" 1 ["secret"] spKeyOf := ok_key_of T
  refine hasF (st := s_act_reasons) T.f_act_reasons T.g_act_reasons sc_act_reasons (fun _ _ _ _ _ _ us hl => match us, hl with | [_, _, _], _ => rfl) (fun vs H Q E h => ?_) (fun f cdv A0 outer s H vs Q E hr h => ?_)
  · obtain ⟨A, b, aa, ha, t, hs, rfl, _⟩ := h
    rfl
  · obtain ⟨A, b, aa, ha, t, hs, rfl, B, bg, ta1, ao, tab, t2, k⟩ := h
    refine ⟨_, (pss_cons (ps_if (pt_cmpR op_eq (pe_ix (ix_tupK (K := K) rfl) (pv 1) pe_int (fun _ _ => rfl)) pe_str (nomark _)) (pss_one (ps_ret (pe_f G_open_reasons (hr.mono (by decide)) (pa_cons (pv 0) (pa_cons (pe_ix (ix_tupK (K := K) rfl) (pv 1) pe_int (fun _ _ => rfl)) (pa_cons (pv 2) pa_nil)))))) pss_nil)
      (pss_cons (ps_if (pt_cmpR op_in_seq (pe_ix (ix_tupK (K := K) rfl) (pv 1) pe_int (fun _ _ => rfl)) (pe_tup (pa_cons pe_str (pa_cons pe_str (pa_cons pe_str pa_nil)))) (by rfl)) (pss_one (ps_ret (pe_f G_channel_reasons hr (pa_cons (pv 0) (pa_cons (pv 1) (pa_cons (pv 2) pa_nil)))))) pss_nil)
      (pss_cons (ps_if (PW.pt (pw_and (pt_cmpR op_eq (pe_ix (ix_tupK (K := K) rfl) (pv 1) pe_int (fun _ _ => rfl)) pe_str (nomark _)) (pw_and1 (pt_cmp (pc_din (hu_of hr) (pe_f G_key_of (hr.mono (by decide)) (pa_cons (pe_ix (ix_tupK (K := K) rfl) (pv 1) pe_int (fun _ _ => rfl)) pa_nil)) (pe_fldK (K := K) rfl (pv 0) rfl)))))) (pss_one (ps_ret (pe_lst (pa_cons pe_str pa_nil)))) pss_nil)
      (pss_one (ps_ret (pe_lst pa_nil)))))), ?_⟩
    -- act[0] in (..)
    have an : ∀ σ, σ = start N_act_reasons [.ref A.bk, .ref aa, .ref ha] → ∀ bb, inV (.str (nameOf t)) [.str "publish", .str "settle", .str "splice"] = bb → AnsN (tTest (tOp (rIn K false) (tOp (rIxT K) (tVar 1) (tC (.int 0))) (tTup (tCons (tC (.str "publish")) (tCons (tC (.str "settle")) (tCons (tC (.str "splice")) tNil)))))) σ H fun c => c = bb := by
      intro σ hσ bb hbb Q' hQ
      subst hσ
      obtain ⟨rest, hr⟩ := ta1.head
      refine q_testT (q_opG (go (v_ix (i := 0) (val_var rfl) val_c hr (at_of (j := 0) rfl rfl)) ?_))
      refine q_tup (va_cons val_c (va_cons val_c (va_cons val_c va_nil))) (by show 3 ≤ 1000; decide) fun p hp => ⟨p, _, rfl, .inr (SqT.of upd_same), rfl, rfl, _, rfl, hQ _ _ (Evl.Ex.new hp) ?_⟩
      rw [if_neg Bool.false_ne_true]
      exact hbb
    cases t with
    | opn o =>
      obtain ⟨oa, ta2, ta3⟩ := id ta1
      refine' q_ifA (b := true) (a_yes (val_var rfl) ta1 rfl) (fun _ => ?_) (fun z => by cases z)
      refine' s_ret (q_call (by walk_at "va") ⟨A, b, oa, ha, o, hs, rfl, B, ta3, t2, k⟩)
    | pub st =>
      refine' q_ifA (b := false) (a_no (val_var rfl) ta1 (by simp only [nameOf]; decide +kernel)) (fun z => by cases z) (fun _ => n_next ?_)
      refine q_if (an _ rfl true (by simp only [nameOf]; decide +kernel) _ fun c H1 e hc => ?_)
      subst hc
      refine if_t ?_
      refine' s_ret (q_call (by walk_at "va") ⟨A, b, aa, ha, .pub st, hs, rfl, B.ex e, bg, ta1.ty (ex_ty e), ao, trivial, tab.ex e, t2.ex e, k.ex e⟩)
    | set_ st =>
      refine' q_ifA (b := false) (a_no (val_var rfl) ta1 (by simp only [nameOf]; decide +kernel)) (fun z => by cases z) (fun _ => n_next ?_)
      refine q_if (an _ rfl true (by simp only [nameOf]; decide +kernel) _ fun c H1 e hc => ?_)
      subst hc
      refine if_t ?_
      refine' s_ret (q_call (by walk_at "va") ⟨A, b, aa, ha, .set_ st, hs, rfl, B.ex e, bg, ta1.ty (ex_ty e), ao, trivial, tab.ex e, t2.ex e, k.ex e⟩)
    | spl st =>
      refine' q_ifA (b := false) (a_no (val_var rfl) ta1 (by simp only [nameOf]; decide +kernel)) (fun z => by cases z) (fun _ => n_next ?_)
      refine q_if (an _ rfl true (by simp only [nameOf]; decide +kernel) _ fun c H1 e hc => ?_)
      subst hc
      refine if_t ?_
      refine' s_ret (q_call (by walk_at "va") ⟨A, b, aa, ha, .spl st, hs, rfl, B.ex e, bg, ta1.ty (ex_ty e), ao, trivial, tab.ex e, t2.ex e, k.ex e⟩)
    | pay x m =>
      refine' q_ifA (b := false) (a_no (val_var rfl) ta1 (by simp only [nameOf]; decide +kernel)) (fun z => by cases z) (fun _ => n_next ?_)
      refine q_if (an _ rfl false (by simp only [nameOf]; decide +kernel) _ fun c H1 e hc => ?_)
      subst hc
      refine if_f (n_next ?_)
      refine' q_ifA (b := false) (ans_and0 (a_no (val_var rfl) (ta1.ty (ex_ty e)) (by simp only [nameOf]; decide +kernel))) (fun z => by cases z) (fun _ => n_next ?_)
      exact s_ret (q_lst va_nil (Nat.zero_le _) fun p hp' => k _ p _ (e.trans (Evl.Ex.new hp')) (Evl.fresh_back e hp') upd_same (by show 0 ≤ 20; decide) fun z => trivial)
    | rev x =>
      refine' q_ifA (b := false) (a_no (val_var rfl) ta1 (by simp only [nameOf]; decide +kernel)) (fun z => by cases z) (fun _ => n_next ?_)
      refine q_if (an _ rfl false (by simp only [nameOf]; decide +kernel) _ fun c H1 e hc => ?_)
      subst hc
      refine if_f (n_next ?_)
      have ta2 : Tp K H1 aa [.str "reveal", .int x] := ta1.ty (ex_ty e)
      have B1 := B.ex e
      obtain ⟨dx, o1⟩ := B1.ob
      refine q_if (q_andT ?_)
      refine' goA (a_yes (t := .rev x) (val_var rfl) (ta1.ty (ex_ty e)) rfl) (if_t (q_BT ?_))
      refine q_call (vs := [.int x]) (by walk_at "va") ⟨x, rfl, fun j => ?_⟩
      refine' go (by walk_at "vl") ⟨A.rd, _, rfl, DGet.k (k := Sum.inl j) B1.re, _, rfl, ?_⟩
      refine if_b (fun _ => ?_) (fun _ => n_next ?_)
      · exact s_ret (q_lst (va_cons val_c va_nil) (by show 1 ≤ 1000; decide) fun p hp' => k _ p _ (e.trans (Evl.Ex.new hp')) (Evl.fresh_back e hp') upd_same (by show 1 ≤ 20; decide) fun z => trivial)
      · exact s_ret (q_lst va_nil (Nat.zero_le _) fun p hp' => k _ p _ (e.trans (Evl.Ex.new hp')) (Evl.fresh_back e hp') upd_same (by show 0 ≤ 20; decide) fun z => trivial)
end
end Tk
/-! reasons. -/
namespace Tk
open PySem PySem.Spec PyProof.Rows L2
local macro_rules | `(tactic| walk_at "vl") => `(tactic| first
  | ((with_reducible refine' val_var ?a1); (case a1 => rfl))
  | ((with_reducible refine' val_c))
  | ((with_reducible refine' f_Vault_opening ?a1 ?a2 ?a3); (case a1 => assumption); (case a2 => walk_at "vl"); (case a3 => assumption))
  | ((with_reducible refine' f_Vault_money ?a1 ?a2 ?a3); (case a1 => assumption); (case a2 => walk_at "vl"); (case a3 => assumption))
  | ((with_reducible refine' f_Vault_sums ?a1 ?a2 ?a3); (case a1 => assumption); (case a2 => walk_at "vl"); (case a3 => assumption))
  | ((with_reducible refine' f_Vault_splices ?a1 ?a2 ?a3); (case a1 => assumption); (case a2 => walk_at "vl"); (case a3 => assumption))
  | ((with_reducible refine' f_Vault_least ?a1 ?a2 ?a3); (case a1 => assumption); (case a2 => walk_at "vl"); (case a3 => assumption))
  | ((with_reducible refine' f_Vault_published ?a1 ?a2 ?a3); (case a1 => assumption); (case a2 => walk_at "vl"); (case a3 => assumption))
  | ((with_reducible refine' f_Vault_since ?a1 ?a2 ?a3); (case a1 => assumption); (case a2 => walk_at "vl"); (case a3 => assumption))
  | ((with_reducible refine' f_Book_purses ?a1 ?a2 ?a3); (case a1 => assumption); (case a2 => walk_at "vl"); (case a3 => assumption))
  | ((with_reducible refine' f_Book_vaults ?a1 ?a2 ?a3); (case a1 => assumption); (case a2 => walk_at "vl"); (case a3 => assumption))
  | ((with_reducible refine' f_Book_receipts ?a1 ?a2 ?a3); (case a1 => assumption); (case a2 => walk_at "vl"); (case a3 => assumption))
  | ((with_reducible refine' f_Book_ended ?a1 ?a2 ?a3); (case a1 => assumption); (case a2 => walk_at "vl"); (case a3 => assumption))
  | ((with_reducible refine' f_Book_done ?a1 ?a2 ?a3); (case a1 => assumption); (case a2 => walk_at "vl"); (case a3 => assumption))
  | ((with_reducible refine' f_Book_height ?a1 ?a2 ?a3); (case a1 => assumption); (case a2 => walk_at "vl"); (case a3 => assumption))
  | ((with_reducible refine' f_Book_burnt ?a1 ?a2 ?a3); (case a1 => assumption); (case a2 => walk_at "vl"); (case a3 => assumption))
  | ((with_reducible refine' f_Ledger_book ?a1 ?a2 ?a3); (case a1 => assumption); (case a2 => walk_at "vl"); (case a3 => assumption))
  | ((with_reducible refine' f_Ledger_room ?a1 ?a2 ?a3); (case a1 => assumption); (case a2 => walk_at "vl"); (case a3 => assumption))
  | ((with_reducible refine' f_Ledger_waiting ?a1 ?a2 ?a3); (case a1 => assumption); (case a2 => walk_at "vl"); (case a3 => assumption))
  | ((with_reducible refine' v_ix ?a1 ?a2 ?a3 ?a4); (case a1 => walk_at "vl"); (case a2 => walk_at "vl"); (case a3 => assumption); (case a4 => rfl))
  | ((with_reducible refine' v_I0 ?a1 ?a2); (case a1 => walk_at "vl"); (case a2 => walk_at "vl"))
  | ((with_reducible refine' v_isN ?a1); (case a1 => walk_at "vl"))
  | ((with_reducible refine' v_notN ?a1); (case a1 => walk_at "vl"))
  | ((with_reducible refine' v_int1 ?a1); (case a1 => walk_at "vl"))
  | ((with_reducible refine' v_eq ?a1 ?a2 ?a3); (case a1 => walk_at "vl"); (case a2 => walk_at "vl"); (case a3 => rfl))
  | ((with_reducible refine' v_ne ?a1 ?a2 ?a3); (case a1 => walk_at "vl"); (case a2 => walk_at "vl"); (case a3 => rfl))
  | ((with_reducible refine' v_max2 ?a1 ?a2); (case a1 => walk_at "vl"); (case a2 => walk_at "vl"))
  | ((with_reducible refine' v_min2 ?a1 ?a2); (case a1 => walk_at "vl"); (case a2 => walk_at "vl")))
local macro_rules | `(tactic| walk_at "va") => `(tactic| first
  | (with_reducible exact va_nil)
  | ((with_reducible refine' va_cons ?a1 ?a2); (case a1 => walk_at "vl"); (case a2 => walk_at "va")))

theorem any_false {l : Pm} {g : Int × Int → Bool} (h : (l.map g).any id = false) : ∀ p ∈ l, g p = false := fun p hp => by
  cases e : g p with
  | false => rfl
  | true =>
    have : (l.map g).any id = true := List.any_eq_true.mpr ⟨true, List.mem_map.mpr ⟨p, hp, e⟩, rfl⟩
    rw [this] at h
    cases h
section
variable {P : Program} {w : World} {K : PySem.W.Frag} {mg : Str → Option Value} {base : Heap}
theorem ok_reasons (T : Txt K mg) (TB : Tb K mg base) : HasF P w K mg base "reasons" 7 ["book", "thing"] (spReasons K) := by
  have G_act_reasons : HasF P w K mg base "act_reasons" 6 ["book", "act", "hands"] (spActReasons K) := ok_act_reasons T TB
  have G_takes : HasF P w K mg base "takes" 2 ["book", "thing"] (spTakes K) := ok_takes T
  have G_Book_purse : HasM P w K mg base "Book" "purse" 1 ["self", "party"] (spPurse K) := ok_purse T
  refine hasF (st := s_reasons) T.f_reasons T.g_reasons sc_reasons (fun _ _ _ _ _ _ us hl => match us, hl with | [_, _], _ => rfl) (fun vs H Q E h => ?_) (fun f cdv A0 outer s H vs Q E hr h => ?_)
  · obtain ⟨A, b, ta, t, rfl, _⟩ := h
    rfl
  · obtain ⟨A, b, ta, t, rfl, B, bg, hT, ao, tab, k⟩ := h
    obtain ⟨aa, ha, t1, tact, t2⟩ := hT.at_
    refine ⟨_, (pss_cons (ps_asg (pv 1) (pg_tup rfl (pgs_cons (pg_name (i := 2) sc_reasons.nd rfl (by first | exact Or.inl rfl | exact Or.inr rfl)) (pgs_cons (pg_name (i := 3) sc_reasons.nd rfl (by first | exact Or.inl rfl | exact Or.inr rfl)) (pgs_cons (pg_name (i := 4) sc_reasons.nd rfl (by first | exact Or.inl rfl | exact Or.inr rfl)) (pgs_cons (pg_name (i := 5) sc_reasons.nd rfl (by first | exact Or.inl rfl | exact Or.inr rfl)) (pgs_cons (pg_name (i := 6) sc_reasons.nd rfl (by first | exact Or.inl rfl | exact Or.inr rfl)) pgs_nil)))))))
      (pss_cons (ps_set (i := 7) sc_reasons.nd rfl (by first | exact Or.inl rfl | exact Or.inr rfl) (pe_lst pa_nil))
      (Evl.pss_cut (ps_if (pt_cmpR (op_inD (hu65 hr)) (pe_tup (pa_cons (pv 4) (pa_cons (pv 6) pa_nil))) (pe_fldK (K := K) rfl (pv 0) rfl) (by rfl)) (pss_one (ps_expr (pe_bm PySem.F.plainAttrs_list PySem.F.slot_list_append PySem.F.type_list_append mt_append (pv 7) (pa_cons pe_str pa_nil)))) pss_nil)
      (pss_cons (ps_expr (pe_bm PySem.F.plainAttrs_list PySem.F.slot_list_extend PySem.F.type_list_extend mt_extend (pv 7) (pa_cons (pe_f G_act_reasons hr (pa_cons (pv 0) (pa_cons (pv 2) (pa_cons (pv 3) pa_nil)))) pa_nil)))
      (pss_cons (ps_set (i := 8) sc_reasons.nd rfl (by first | exact Or.inl rfl | exact Or.inr rfl) (pe_f G_takes (hr.mono (by decide)) (pa_cons (pv 0) (pa_cons (pv 1) pa_nil))))
      (Evl.pss_cut (ps_if (pt_val (pe_callB (cr_any rfl) (by rfl) T.z_any (by decide +kernel) (pa_cons (pe_lock (pe_lc (own := [("party", 9)]) (g := gName 9) rfl sc_reasons.nd (pi_keys (pv 8)) (blkOk_by (N := N_reasons) (sc := defScope s_reasons) (by decide +kernel)) (fun _ _ _ _ _ => (pg_name (i := 9) sc_reasons.nd rfl (by first | exact Or.inl rfl | exact Or.inr rfl))) (fun _ _ _ _ _ => pts_nil) (fun _ _ _ _ _ => (pe_cmpR op_gt (pe_dget (hu_of hr) (pv 8) (pv 9) (fun _ _ => rfl)) (pe_mmK (K := K) rfl G_Book_purse (pv 0) (hr.mono (by decide)) (pa_cons (pv 9) pa_nil)) (nomark _))))) pa_nil))) (pss_one (ps_expr (pe_bm PySem.F.plainAttrs_list PySem.F.slot_list_append PySem.F.type_list_append mt_append (pv 7) (pa_cons pe_str pa_nil)))) pss_nil)
      (pss_one (ps_ret (pv 7))))))))), ?_⟩
    refine q_asgG (go (val_var rfl) (g_tup5 t1.t ?_))
    refine q_asg (q_lst va_nil (Nat.zero_le _) fun pw h0 => ?_)
    have e0 : Ex H (upd H pw (.lst [])) := Evl.Ex.new h0
    have w0 : upd H pw (.lst []) pw = some (.lst []) := upd_same
    generalize upd H pw (.lst []) = H1 at e0 w0 ⊢
    have l0 : ([] : List V).length ≤ 0 := Nat.le_refl _
    -- done
    have B0 := B.ex e0
    obtain ⟨dx0, o1⟩ := B0.ob
    obtain ⟨das, d1, d2⟩ := B0.dn
    refine' q_word (R := fun c => c = decide ((t.payer, t.tag) ∈ b.done)) e0 h0 w0 (by omega) rfl ?_ fun x1 H2 e1 w1 l1 z1 => ?_
    · intro Q' hQ
      refine q_testT (q_opG ?_)
      refine' q_tup (by walk_at "va") (by show 2 ≤ 1000; decide) fun p hp => ?_
      have o1' := (Evl.Ex.new (o := .tup [.int t.payer, .int t.tag]) hp) _ _ o1
      refine' go (by walk_at "vl") ?_
      have en := Evl.Ex.new (o := .tup [.int t.payer, .int t.tag]) hp
      refine ⟨prP (t.payer, t.tag), b.done.map prP, .tup (SqT.of upd_same) (.cons (.int _) (.cons (.int _) .nil)), .lst (SqL.of (en _ _ d1)) (dp_pairs (d2.ty (ex_ty en))), by rfl, shaped_pairs _, _, rfl, hQ _ _ en ?_⟩
      exact any_pairs _ _ _
    clear o1 d1 d2
    -- the act's reasons
    refine q_drop ?_
    refine (val_var (v := .ref pw) rfl) _ ⟨.inl ⟨rfl, _, SqL.of w1⟩, q_consG ?_⟩
    refine' q_call (by walk_at "va") ⟨A, b, aa, ha, t.act, t.hands, rfl, B.ex e1, bg, tact.ty (ex_ty e1), ao, tab.ex e1, t2.ex e1, fun H3 p ys e2 _ hp hl hy => ?_⟩
    have w2 := e2 _ _ w1
    have h3 := e1.trans e2
    refine q_nil ⟨pw, p, x1, ys, rfl, rfl, w2, hp, Nat.le_trans (show x1.length + ys.length ≤ 100 by omega) (by decide), ?_⟩
    have e3 : Ex H (upd H3 pw (.lst (x1 ++ ys))) := Evl.Ex.mut h3 h0
    have w3 : upd H3 pw (.lst (x1 ++ ys)) pw = some (.lst (x1 ++ ys)) := upd_same
    have l3 : (x1 ++ ys).length ≤ 25 := by rw [List.length_append]; omega
    have z3 : x1 ++ ys = [] → ¬ (t.payer, t.tag) ∈ b.done ∧ ActReady b t.act := fun z => by
      obtain ⟨y1, y2⟩ := List.append_eq_nil_iff.mp z
      exact ⟨of_decide_eq_false (z1 y1).2.symm, hy y2⟩
    generalize upd H3 pw (.lst (x1 ++ ys)) = H4 at e3 w3 ⊢
    generalize x1 ++ ys = x3 at w3 l3 z3
    -- what is taken
    refine q_asg (q_call (va_cons (val_var rfl) (va_cons (val_var rfl) va_nil)) ⟨A, b, ta, t, rfl, B.ex e3, hT.ty (ex_ty e3), fun H5 d e5 hd5 hd => ?_⟩)
    have e6 := e3.trans e5
    have hd0 : H d = none := Evl.fresh_back e3 hd5
    have w5 := e5 _ _ w3
    have nd : (keys (taken (parts b.vaults t))).Nodup := nd_taken _ _ (by exact List.nodup_nil)
    have ln : (taken (parts b.vaults t)).length ≤ 6 := by
      have h1 := len_taken (parts b.vaults t) []
      have h2 := len_parts b.vaults t
      unfold taken
      simp only [List.length_nil] at h1
      omega
    refine' q_word (R := fun c => c = false → ∀ p ∈ taken (parts b.vaults t), p.2 ≤ purse b.purses p.1) e6 h0 w5 (by omega) rfl ?_ fun x4 H6 e7 w6 l6 z6 => ?_
    · intro Q' hQ
      refine q_testT (q_cb (q_consG ?_))
      generalize taken (parts b.vaults t) = tk at hd nd ln hQ
      refine' q_lcK (fun i acc => acc = (tk.take i).map fun p => V.bl (decide (purse b.purses p.1 < p.2))) hd (fun od => val_var rfl) (by omega) (fun _ => rfl) rfl (fun od i p H' acc hp e' ha => ?_) (fun q H' acc e' hq1 hq2 _ ha => ?_)
      · have ld : upd H5 d (.frz od (.dK (dkI tk))) d = some (.frz od (.dK (dkI tk))) := upd_same
        have ld' := e' _ _ ld
        have eB : Ex H H' := (Evl.Ex.mut e6 hd0).trans e'
        have hg : getI tk p.1 = some p.2 := getI_of_mem nd (by exact List.mem_of_getElem? hp)
        have BB := B.ex eB
        obtain ⟨dxB, oB⟩ := BB.ob
        intro Q2 hQ2
        refine q_opG (go (v_dgetF (g := V.int) (val_var rfl) (val_var rfl) ld' hg) ?_)
        refine q_meth (val_var rfl) oB bF_no_purse (va_cons (val_var rfl) va_nil) ⟨A, b, p.1, rfl, BB, ?_⟩
        refine ⟨_, _, rfl, rfl, hQ2 _ _ (Evl.Ex.refl _) ?_⟩
        rw [ha, List.take_add_one, hp, List.map_append]
        rfl
      · rw [List.take_length] at ha
        have eb : acc = (tk.map fun p => decide (purse b.purses p.1 < p.2)).map V.bl := by
          rw [ha, List.map_map]
          rfl
        refine q_nil ⟨q, tk.map fun p => decide (purse b.purses p.1 < p.2), rfl, SqL.of (by rw [← eb]; exact hq2), _, rfl, hQ _ _ e' fun z p hp => ?_⟩
        have := of_decide_eq_false (any_false z p hp)
        omega
    refine s_ret (go (val_var rfl) (k _ _ _ e7 h0 w6 (by omega) fun z => ?_))
    obtain ⟨y3, r⟩ := z6 z
    obtain ⟨y1, y2⟩ := z3 y3
    exact ⟨y1, y2, r rfl⟩
end
end Tk
/-! The book changes: what is kept, and how the parts are set. -/
namespace Tk
open PySem PySem.Spec PyProof.Rows L2
local macro_rules | `(tactic| walk_at "vl") => `(tactic| first
  | ((with_reducible refine' val_var ?a1); (case a1 => rfl))
  | ((with_reducible refine' val_c))
  | ((with_reducible refine' f_Vault_opening ?a1 ?a2 ?a3); (case a1 => assumption); (case a2 => walk_at "vl"); (case a3 => assumption))
  | ((with_reducible refine' f_Vault_money ?a1 ?a2 ?a3); (case a1 => assumption); (case a2 => walk_at "vl"); (case a3 => assumption))
  | ((with_reducible refine' f_Vault_sums ?a1 ?a2 ?a3); (case a1 => assumption); (case a2 => walk_at "vl"); (case a3 => assumption))
  | ((with_reducible refine' f_Vault_splices ?a1 ?a2 ?a3); (case a1 => assumption); (case a2 => walk_at "vl"); (case a3 => assumption))
  | ((with_reducible refine' f_Vault_least ?a1 ?a2 ?a3); (case a1 => assumption); (case a2 => walk_at "vl"); (case a3 => assumption))
  | ((with_reducible refine' f_Vault_published ?a1 ?a2 ?a3); (case a1 => assumption); (case a2 => walk_at "vl"); (case a3 => assumption))
  | ((with_reducible refine' f_Vault_since ?a1 ?a2 ?a3); (case a1 => assumption); (case a2 => walk_at "vl"); (case a3 => assumption))
  | ((with_reducible refine' f_Book_purses ?a1 ?a2 ?a3); (case a1 => assumption); (case a2 => walk_at "vl"); (case a3 => assumption))
  | ((with_reducible refine' f_Book_vaults ?a1 ?a2 ?a3); (case a1 => assumption); (case a2 => walk_at "vl"); (case a3 => assumption))
  | ((with_reducible refine' f_Book_receipts ?a1 ?a2 ?a3); (case a1 => assumption); (case a2 => walk_at "vl"); (case a3 => assumption))
  | ((with_reducible refine' f_Book_ended ?a1 ?a2 ?a3); (case a1 => assumption); (case a2 => walk_at "vl"); (case a3 => assumption))
  | ((with_reducible refine' f_Book_done ?a1 ?a2 ?a3); (case a1 => assumption); (case a2 => walk_at "vl"); (case a3 => assumption))
  | ((with_reducible refine' f_Book_height ?a1 ?a2 ?a3); (case a1 => assumption); (case a2 => walk_at "vl"); (case a3 => assumption))
  | ((with_reducible refine' f_Book_burnt ?a1 ?a2 ?a3); (case a1 => assumption); (case a2 => walk_at "vl"); (case a3 => assumption))
  | ((with_reducible refine' f_Ledger_book ?a1 ?a2 ?a3); (case a1 => assumption); (case a2 => walk_at "vl"); (case a3 => assumption))
  | ((with_reducible refine' f_Ledger_room ?a1 ?a2 ?a3); (case a1 => assumption); (case a2 => walk_at "vl"); (case a3 => assumption))
  | ((with_reducible refine' f_Ledger_waiting ?a1 ?a2 ?a3); (case a1 => assumption); (case a2 => walk_at "vl"); (case a3 => assumption))
  | ((with_reducible refine' v_ix ?a1 ?a2 ?a3 ?a4); (case a1 => walk_at "vl"); (case a2 => walk_at "vl"); (case a3 => assumption); (case a4 => rfl))
  | ((with_reducible refine' v_I0 ?a1 ?a2); (case a1 => walk_at "vl"); (case a2 => walk_at "vl"))
  | ((with_reducible refine' v_isN ?a1); (case a1 => walk_at "vl"))
  | ((with_reducible refine' v_notN ?a1); (case a1 => walk_at "vl"))
  | ((with_reducible refine' v_int1 ?a1); (case a1 => walk_at "vl"))
  | ((with_reducible refine' v_eq ?a1 ?a2 ?a3); (case a1 => walk_at "vl"); (case a2 => walk_at "vl"); (case a3 => rfl))
  | ((with_reducible refine' v_ne ?a1 ?a2 ?a3); (case a1 => walk_at "vl"); (case a2 => walk_at "vl"); (case a3 => rfl))
  | ((with_reducible refine' v_max2 ?a1 ?a2); (case a1 => walk_at "vl"); (case a2 => walk_at "vl"))
  | ((with_reducible refine' v_min2 ?a1 ?a2); (case a1 => walk_at "vl"); (case a2 => walk_at "vl")))
local macro_rules | `(tactic| walk_at "va") => `(tactic| first
  | (with_reducible exact va_nil)
  | ((with_reducible refine' va_cons ?a1 ?a2); (case a1 => walk_at "vl"); (case a2 => walk_at "va")))

theorem neH {H : Hp} {a b : Addr} {o u : HO} (h : H a = some o) (h2 : H b = some u) (n : o ≠ u) : a ≠ b := fun z => by
  rw [z, h2] at h
  exact n (Option.some.inj h).symm
/-- an object that has an opening -/
def Vl (o : HO) : Prop := ∃ C dx fs, o = .ins C dx fs ∧ fs.lookup ("opening" : Str) ≠ none
def InBk (A : Ad) (a : Addr) : Prop := a = A.bk ∨ a = A.pd ∨ a = A.vd ∨ a = A.rd ∨ a = A.el ∨ a = A.dl
/-- what a change of the book keeps -/
structure Fm (A : Ad) (H H' : Hp) : Prop where
  ty : Ty H H'
  out : ∀ a o, H a = some o → ¬ InBk A a → ¬ Vl o → H' a = some o
  dom : ∀ a, H' a = none → H a = none
theorem upd_dom {H : Hp} {a c : Addr} {u : HO} (h : upd H a u c = none) : H c = none := by
  by_cases z : c = a
  · rw [z, upd_same] at h
    cases h
  · rw [upd_ne z] at h
    exact h
section
variable {K : PySem.W.Frag} {A : Ad} {H H' H1 : Hp} {b : Bk} {a v d : Addr} {o u : HO}
theorem Fm.refl : Fm A H H := ⟨Ty.refl, fun _ _ h _ _ => h, fun _ h => h⟩
theorem Fm.trans (x : Fm A H H1) (y : Fm A H1 H') : Fm A H H' := ⟨x.ty.trans y.ty, fun a o h n m => y.out a o (x.out a o h n m) n m, fun a h => x.dom a (y.dom a h)⟩
theorem Fm.of (e : Ex H H') : Fm A H H' := ⟨ex_ty e, fun a o h _ _ => e a o h, fun _ h => Evl.fresh_back e h⟩
theorem Fm.bk (ha : InBk A a) (h : H a = some o) (n : ∀ xs, o ≠ .tup xs) : Fm A H (upd H a u) := ⟨Ty.upd h n, fun c p hc nc _ => by
  rw [upd_ne fun z => nc (by rw [z]; exact ha)]
  exact hc, fun _ h => upd_dom h⟩
theorem Fm.vl (h : H a = some o) (n : Vl o) : Fm A H (upd H a u) := ⟨Ty.upd h (fun xs z => by obtain ⟨C, dx, fs, e, _⟩ := n; rw [z] at e; cases e), fun c p hc _ nc => by
  rw [upd_ne fun z => nc (by rw [z, h] at hc; rw [← Option.some.inj hc]; exact n)]
  exact hc, fun _ h => upd_dom h⟩
theorem Fm.mut (x : Fm A H H') (h : H a = none) : Fm A H (upd H' a u) := ⟨fun c xs hc => by rw [upd_ne (ne_of_none hc h)]; exact x.ty c xs hc, fun c p hc nc m => by
  rw [upd_ne (ne_of_none hc h)]
  exact x.out c p hc nc m, fun _ h => x.dom _ (upd_dom h)⟩
theorem vl_vF {C dx oa sa : Addr} {m sp le : Int} {pv sv : V} : Vl (.ins C dx (vF oa sa m sp le pv sv)) := ⟨_, _, _, rfl, by rw [vF_opening]; exact fun z => by cases z⟩
theorem nvl_bF {C dx pd vd rd el dl : Addr} {he bu : Int} : ¬ Vl (.ins C dx (bF pd vd rd el dl he bu)) := fun ⟨_, _, _, e, n⟩ => by
  cases e
  exact n (by kernel_rfl)
theorem nvl_lF {C dx b w : Addr} {r : Int} : ¬ Vl (.ins C dx (lF b r w)) := fun ⟨_, _, _, e, n⟩ => by
  cases e
  exact n (by kernel_rfl)
theorem nvl_lst {xs : List V} : ¬ Vl (.lst xs) := fun ⟨_, _, _, e, _⟩ => by cases e
theorem nvl_ext {f : Heap → Prop} : ¬ Vl (.ext f) := fun ⟨_, _, _, e, _⟩ => by cases e
theorem VaultAt.ne {e : Vd} (h : VaultAt K H v e) (h2 : H a = some o) (n : ¬ Vl o) : v ≠ a := by
  obtain ⟨dx, oa, sa, pv, h1, _⟩ := h.at_
  exact fun z => n (by rw [z, h2] at h1; rw [Option.some.inj h1]; exact vl_vF)
theorem nvl_dK {ks : List (Key × V)} : ¬ Vl (.dK ks) := fun ⟨_, _, _, e, _⟩ => by cases e
/-- a place that is none of the book's -/
theorem BookAt.upd (B : BookAt K H A b) (h : H a = some o) (nt : ∀ xs, o ≠ .tup xs) (nv : ¬ Vl o) (n1 : a ≠ A.bk) (n2 : a ≠ A.pd) (n3 : a ≠ A.vd) (n4 : a ≠ A.rd) (n5 : a ≠ A.el) (n6 : a ≠ A.dl) : BookAt K (upd H a u) A b := by
  obtain ⟨dx, ob⟩ := B.ob
  obtain ⟨das, d1, d2⟩ := B.dn
  have ty : Ty H (L2.upd H a u) := Ty.upd h nt
  have k : ∀ c p, H c = some p → a ≠ c → L2.upd H a u c = some p := fun c p hc n => by rw [upd_ne n.symm]; exact hc
  exact ⟨⟨dx, k _ _ ob n1⟩, k _ _ B.pu n2, k _ _ B.va n3, fun p hp => (B.vs p hp).keep ty fun o2 h2 => k _ _ h2 ((B.vs p hp).ne h nv).symm, k _ _ B.re n4, k _ _ B.en n5, ⟨das, k _ _ d1 n6, d2.ty ty⟩, B.n1, B.n2, B.n3, B.n4, B.nv⟩
theorem BookAt.frz {od : Obj} {w : HO} (B : BookAt K H A b) (h : H a = some (.frz od w)) : BookAt K (L2.upd H a u) A b := by
  obtain ⟨dx, ob⟩ := B.ob
  obtain ⟨das, d1, d2⟩ := B.dn
  exact B.upd h (fun _ z => by cases z) (fun ⟨_, _, _, e, _⟩ => by cases e) (neH h ob fun z => by cases z) (neH h B.pu fun z => by cases z) (neH h B.va fun z => by cases z) (neH h B.re fun z => by cases z) (neH h B.en fun z => by cases z) (neH h d1 fun z => by cases z)
theorem BookAt.setPu (B : BookAt K H A b) (l : Pm) : BookAt K (L2.upd H A.pd (.dK (dkI l))) A { b with purses := l } := by
  obtain ⟨dx, ob⟩ := B.ob
  obtain ⟨das, d1, d2⟩ := B.dn
  have h := B.pu
  have ty : Ty H (L2.upd H A.pd (.dK (dkI l))) := Ty.upd h (fun _ z => by cases z)
  have k : ∀ c p, H c = some p → A.pd ≠ c → L2.upd H A.pd (.dK (dkI l)) c = some p := fun c p hc n => by rw [upd_ne n.symm]; exact hc
  exact ⟨⟨dx, k _ _ ob (neH h ob fun z => by cases z)⟩, upd_same, k _ _ B.va B.n1, fun p hp => (B.vs p hp).keep ty fun o2 h2 => k _ _ h2 ((B.vs p hp).ne h nvl_dK).symm, k _ _ B.re B.n2, k _ _ B.en (neH h B.en fun z => by cases z), ⟨das, k _ _ d1 (neH h d1 fun z => by cases z), d2.ty ty⟩, B.n1, B.n2, B.n3, B.n4, B.nv⟩
theorem BookAt.setVa (B : BookAt K H A b) (l : List (Int × (Addr × Vd))) (nv : (l.map (·.2.1)).Nodup) (vs : ∀ p ∈ l, VaultAt K H p.2.1 p.2.2) : BookAt K (L2.upd H A.vd (.dK (dk vR l))) A { b with vaults := l } := by
  obtain ⟨dx, ob⟩ := B.ob
  obtain ⟨das, d1, d2⟩ := B.dn
  have h := B.va
  have ty : Ty H (L2.upd H A.vd (.dK (dk vR l))) := Ty.upd h (fun _ z => by cases z)
  have k : ∀ c p, H c = some p → A.vd ≠ c → L2.upd H A.vd (.dK (dk vR l)) c = some p := fun c p hc n => by rw [upd_ne n.symm]; exact hc
  exact ⟨⟨dx, k _ _ ob (neH h ob fun z => by cases z)⟩, k _ _ B.pu B.n1.symm, upd_same, fun p hp => (vs p hp).keep ty fun o2 h2 => k _ _ h2 ((vs p hp).ne h nvl_dK).symm, k _ _ B.re B.n3, k _ _ B.en (neH h B.en fun z => by cases z), ⟨das, k _ _ d1 (neH h d1 fun z => by cases z), d2.ty ty⟩, B.n1, B.n2, B.n3, B.n4, nv⟩
theorem BookAt.setRe (B : BookAt K H A b) (l : Pm) : BookAt K (L2.upd H A.rd (.dK (dkI l))) A { b with receipts := l } := by
  obtain ⟨dx, ob⟩ := B.ob
  obtain ⟨das, d1, d2⟩ := B.dn
  have h := B.re
  have ty : Ty H (L2.upd H A.rd (.dK (dkI l))) := Ty.upd h (fun _ z => by cases z)
  have k : ∀ c p, H c = some p → A.rd ≠ c → L2.upd H A.rd (.dK (dkI l)) c = some p := fun c p hc n => by rw [upd_ne n.symm]; exact hc
  exact ⟨⟨dx, k _ _ ob (neH h ob fun z => by cases z)⟩, k _ _ B.pu B.n2.symm, k _ _ B.va B.n3.symm, fun p hp => (B.vs p hp).keep ty fun o2 h2 => k _ _ h2 ((B.vs p hp).ne h nvl_dK).symm, upd_same, k _ _ B.en (neH h B.en fun z => by cases z), ⟨das, k _ _ d1 (neH h d1 fun z => by cases z), d2.ty ty⟩, B.n1, B.n2, B.n3, B.n4, B.nv⟩
theorem BookAt.setEn (B : BookAt K H A b) (l : List Int) : BookAt K (L2.upd H A.el (.lst (l.map V.int))) A { b with ended := l } := by
  obtain ⟨dx, ob⟩ := B.ob
  obtain ⟨das, d1, d2⟩ := B.dn
  have h := B.en
  have ty : Ty H (L2.upd H A.el (.lst (l.map V.int))) := Ty.upd h (fun _ z => by cases z)
  have k : ∀ c p, H c = some p → A.el ≠ c → L2.upd H A.el (.lst (l.map V.int)) c = some p := fun c p hc n => by rw [upd_ne n.symm]; exact hc
  exact ⟨⟨dx, k _ _ ob (neH h ob fun z => by cases z)⟩, k _ _ B.pu (neH h B.pu fun z => by cases z), k _ _ B.va (neH h B.va fun z => by cases z), fun p hp => (B.vs p hp).keep ty fun o2 h2 => k _ _ h2 ((B.vs p hp).ne h nvl_lst).symm, k _ _ B.re (neH h B.re fun z => by cases z), upd_same, ⟨das, k _ _ d1 B.n4, d2.ty ty⟩, B.n1, B.n2, B.n3, B.n4, B.nv⟩
theorem BookAt.addDn (B : BookAt K H A b) {das : List Addr} (d1 : H A.dl = some (.lst (das.map V.ref))) (d2 : PairsAt K H das b.done) {p : Addr} {x y : Int} (hp : Tp K H p [.int x, .int y]) : BookAt K (L2.upd H A.dl (.lst (das.map V.ref ++ [.ref p]))) A { b with done := b.done ++ [(x, y)] } := by
  obtain ⟨dx, ob⟩ := B.ob
  have h := d1
  have ty : Ty H (L2.upd H A.dl (.lst (das.map V.ref ++ [.ref p]))) := Ty.upd h (fun _ z => by cases z)
  have k : ∀ c p', H c = some p' → A.dl ≠ c → L2.upd H A.dl (.lst (das.map V.ref ++ [.ref p])) c = some p' := fun c p' hc n => by rw [upd_ne n.symm]; exact hc
  exact ⟨⟨dx, k _ _ ob (neH h ob fun z => by cases z)⟩, k _ _ B.pu (neH h B.pu fun z => by cases z), k _ _ B.va (neH h B.va fun z => by cases z), fun p hp => (B.vs p hp).keep ty fun o2 h2 => k _ _ h2 ((B.vs p hp).ne h nvl_lst).symm, k _ _ B.re (neH h B.re fun z => by cases z), k _ _ B.en B.n4.symm, ⟨das ++ [p], by rw [List.map_append]; exact upd_same, (d2.snoc (p := (x, y)) hp).ty ty⟩, B.n1, B.n2, B.n3, B.n4, B.nv⟩
theorem BookAt.setOb (B : BookAt K H A b) {dx : Addr} {he bu : Int} (ob : ∃ fs, H A.bk = some (.ins (He.ga K "Book") dx fs)) : BookAt K (L2.upd H A.bk (.ins (He.ga K "Book") dx (bF A.pd A.vd A.rd A.el A.dl he bu))) A { b with height := he, burnt := bu } := by
  obtain ⟨dx0, h⟩ := B.ob
  obtain ⟨das, d1, d2⟩ := B.dn
  have ty : Ty H (L2.upd H A.bk (.ins (He.ga K "Book") dx (bF A.pd A.vd A.rd A.el A.dl he bu))) := Ty.upd h (fun _ z => by cases z)
  have k : ∀ c p, H c = some p → A.bk ≠ c → L2.upd H A.bk (.ins (He.ga K "Book") dx (bF A.pd A.vd A.rd A.el A.dl he bu)) c = some p := fun c p hc n => by rw [upd_ne n.symm]; exact hc
  exact ⟨⟨dx, upd_same⟩, k _ _ B.pu (neH h B.pu fun z => by cases z), k _ _ B.va (neH h B.va fun z => by cases z), fun p hp => (B.vs p hp).keep ty fun o2 h2 => k _ _ h2 ((B.vs p hp).ne h nvl_bF).symm, k _ _ B.re (neH h B.re fun z => by cases z), k _ _ B.en (neH h B.en fun z => by cases z), ⟨das, k _ _ d1 (neH h d1 fun z => by cases z), d2.ty ty⟩, B.n1, B.n2, B.n3, B.n4, B.nv⟩
end
/-! a vault's own attributes -/
theorem dk_put_same {l : List (Int × (Addr × Vd))} {n : Int} {v : Addr} {d d' : Vd} (hn : (keys l).Nodup) (g : getI l n = some (v, d)) : (putI l n (v, d')).map (fun p => (p.1, p.2.1)) = l.map fun p => (p.1, p.2.1) := by
  have hk : n ∈ keys l := getI_some.mp ⟨_, g⟩
  unfold putI
  rw [if_pos (show n ∈ l.map (·.1) from hk), List.map_map]
  refine List.map_congr_left fun p hp => ?_
  show ((if p.1 = n then (p.1, (v, d')) else p).1, (if p.1 = n then (p.1, (v, d')) else p).2.1) = _
  by_cases e : p.1 = n
  · rw [if_pos e]
    have h2 := getI_of_mem hn (show (n, p.2) ∈ l from by rw [← e]; exact hp)
    rw [g] at h2
    have h3 := Option.some.inj h2
    show (p.1, v) = (p.1, p.2.1)
    rw [← h3]
  · rw [if_neg e]
theorem put_put {α : Type} {l : List (Int × α)} {n : Int} {x y : α} : putI (putI l n x) n y = putI l n y := by
  by_cases hk : n ∈ keys l
  · have hk2 : n ∈ keys (putI l n x) := by rw [keys_put_in hk]; exact hk
    have e1 : putI (putI l n x) n y = (putI l n x).map (fun p => if p.1 = n then (p.1, y) else p) := by
      rw [putI.eq_def (putI l n x)]
      exact if_pos hk2
    have e2 : putI l n x = l.map (fun p => if p.1 = n then (p.1, x) else p) := by
      unfold putI
      exact if_pos hk
    have e3 : putI l n y = l.map (fun p => if p.1 = n then (p.1, y) else p) := by
      unfold putI
      exact if_pos hk
    rw [e1, e2, e3, List.map_map]
    refine List.map_congr_left fun p _ => ?_
    show (if (if p.1 = n then (p.1, x) else p).1 = n then ((if p.1 = n then (p.1, x) else p).1, y) else (if p.1 = n then (p.1, x) else p)) = _
    by_cases e : p.1 = n
    · rw [if_pos e, if_pos e, if_pos e]
    · rw [if_neg e, if_neg e]
  · have e2 := put_new (v := x) hk
    rw [e2, put_new (v := y) hk]
    have hk2 : n ∈ (l ++ [(n, x)]).map (·.1) := by simp
    unfold putI
    rw [if_pos hk2, List.map_append, sum_map_ne hk]
    show l ++ [if n = n then (n, y) else (n, x)] = _
    rw [if_pos rfl]
/-- the vault of a number is set -/
def vset (b : Bk) (n : Int) (v : Addr) (d : Vd) : Bk := { b with vaults := putI b.vaults n (v, d) }
theorem vset_vset {b : Bk} {n : Int} {v : Addr} {d d' : Vd} : vset (vset b n v d) n v d' = vset b n v d' := by
  show ({ b with vaults := putI (putI b.vaults n (v, d)) n (v, d') } : Bk) = _
  rw [put_put]
  rfl
theorem get_vset {b : Bk} {n : Int} {v : Addr} {d : Vd} : getI (vset b n v d).vaults n = some (v, d) := by
  show getI (putI b.vaults n (v, d)) n = _
  rw [get_put, if_pos rfl]
section
variable {K : PySem.W.Frag} {A : Ad} {H H' H1 : Hp} {b : Bk} {v : Addr} {d d' : Vd} {n : Int}
theorem BookAt.vset (B : BookAt K H A b) (hn : (keys b.vaults).Nodup) (g : getI b.vaults n = some (v, d)) {dx oa sa : Addr} {pv : V} (t1 : Tp K H oa (opV d'.op)) (t2 : Tp K H sa (suV d'.sums)) (t3 : PubAt K H pv d'.pub) :
    BookAt K (L2.upd H v (.ins (He.ga K "Vault") dx (vF oa sa d'.money d'.spl d'.least pv (sinV d'.since)))) A (Tk.vset b n v d') := by
  obtain ⟨dxb, ob⟩ := B.ob
  obtain ⟨das, d1, d2⟩ := B.dn
  have hV := B.vault g
  obtain ⟨dx0, oa0, sa0, pv0, h, _⟩ := hV.at_
  have ty : Ty H (L2.upd H v (.ins (He.ga K "Vault") dx (vF oa sa d'.money d'.spl d'.least pv (sinV d'.since)))) := Ty.upd h (fun _ z => by cases z)
  have k : ∀ c p, H c = some p → v ≠ c → L2.upd H v (.ins (He.ga K "Vault") dx (vF oa sa d'.money d'.spl d'.least pv (sinV d'.since))) c = some p := fun c p hc n => by rw [upd_ne n.symm]; exact hc
  have em := dk_put_same (d' := d') hn g
  have e1 : dk vR (putI b.vaults n (v, d')) = dk vR b.vaults := by
    have z : ∀ l : List (Int × (Addr × Vd)), dk vR l = (l.map fun p => (p.1, p.2.1)).map fun q => ((Sum.inl q.1 : Key), V.ref q.2) := fun l => by
      rw [List.map_map]
      rfl
    rw [z, z, em]
  have e2 : (putI b.vaults n (v, d')).map (·.2.1) = b.vaults.map (·.2.1) := by
    have z : ∀ l : List (Int × (Addr × Vd)), l.map (·.2.1) = (l.map fun p => (p.1, p.2.1)).map (·.2) := fun l => by
      rw [List.map_map]
      rfl
    rw [z, z, em]
  refine ⟨⟨dxb, k _ _ ob (hV.ne ob nvl_bF)⟩, k _ _ B.pu (hV.ne B.pu nvl_dK), ?_, fun p hp => ?_, k _ _ B.re (hV.ne B.re nvl_dK), k _ _ B.en (hV.ne B.en nvl_lst), ⟨das, k _ _ d1 (hV.ne d1 nvl_lst), d2.ty ty⟩, B.n1, B.n2, B.n3, B.n4, ?_⟩
  · show L2.upd H v _ A.vd = some (.dK (dk vR (putI b.vaults n (v, d'))))
    rw [e1]
    exact k _ _ B.va (hV.ne B.va nvl_dK)
  · rcases mem_put (show p ∈ putI b.vaults n (v, d') from hp) with ⟨hp1, hp2⟩ | rfl
    · refine (B.vs p hp1).keep ty fun o2 h2 => k _ _ h2 fun z => hp2 ?_
      -- two numbers with one vault
      have m1 := getI_mem g
      have key : ∀ l : List (Int × (Addr × Vd)), (l.map (·.2.1)).Nodup → ∀ p ∈ l, ∀ q ∈ l, p.2.1 = q.2.1 → p = q := by
        intro l
        induction l with
        | nil => intro _ p hp; cases hp
        | cons x r ih =>
          intro hl p hp q hq e
          obtain ⟨h1, h2⟩ := List.nodup_cons.mp (show (x.2.1 :: r.map (·.2.1)).Nodup from hl)
          rcases List.mem_cons.mp hp with rfl | hp'
          · rcases List.mem_cons.mp hq with rfl | hq'
            · rfl
            · exact absurd (List.mem_map.mpr ⟨q, hq', e.symm⟩) h1
          · rcases List.mem_cons.mp hq with rfl | hq'
            · exact absurd (List.mem_map.mpr ⟨p, hp', e⟩) h1
            · exact ih h2 p hp' q hq' e
      rw [key _ B.nv p hp1 _ m1 z.symm]
    · exact ⟨dx, oa, sa, pv, upd_same, t1.ty ty, t2.ty ty, t3.ty ty⟩
  · show ((putI b.vaults n (v, d')).map (·.2.1)).Nodup
    rw [e2]
    exact B.nv
end
end Tk
/-! give, give_both, pay_out, publish, take_splice. -/
namespace Tk
open PySem PySem.Spec PyProof.Rows L2
local macro_rules | `(tactic| walk_at "vl") => `(tactic| first
  | ((with_reducible refine' val_var ?a1); (case a1 => rfl))
  | ((with_reducible refine' val_c))
  | ((with_reducible refine' f_Vault_opening ?a1 ?a2 ?a3); (case a1 => assumption); (case a2 => walk_at "vl"); (case a3 => assumption))
  | ((with_reducible refine' f_Vault_money ?a1 ?a2 ?a3); (case a1 => assumption); (case a2 => walk_at "vl"); (case a3 => assumption))
  | ((with_reducible refine' f_Vault_sums ?a1 ?a2 ?a3); (case a1 => assumption); (case a2 => walk_at "vl"); (case a3 => assumption))
  | ((with_reducible refine' f_Vault_splices ?a1 ?a2 ?a3); (case a1 => assumption); (case a2 => walk_at "vl"); (case a3 => assumption))
  | ((with_reducible refine' f_Vault_least ?a1 ?a2 ?a3); (case a1 => assumption); (case a2 => walk_at "vl"); (case a3 => assumption))
  | ((with_reducible refine' f_Vault_published ?a1 ?a2 ?a3); (case a1 => assumption); (case a2 => walk_at "vl"); (case a3 => assumption))
  | ((with_reducible refine' f_Vault_since ?a1 ?a2 ?a3); (case a1 => assumption); (case a2 => walk_at "vl"); (case a3 => assumption))
  | ((with_reducible refine' f_Book_purses ?a1 ?a2 ?a3); (case a1 => assumption); (case a2 => walk_at "vl"); (case a3 => assumption))
  | ((with_reducible refine' f_Book_vaults ?a1 ?a2 ?a3); (case a1 => assumption); (case a2 => walk_at "vl"); (case a3 => assumption))
  | ((with_reducible refine' f_Book_receipts ?a1 ?a2 ?a3); (case a1 => assumption); (case a2 => walk_at "vl"); (case a3 => assumption))
  | ((with_reducible refine' f_Book_ended ?a1 ?a2 ?a3); (case a1 => assumption); (case a2 => walk_at "vl"); (case a3 => assumption))
  | ((with_reducible refine' f_Book_done ?a1 ?a2 ?a3); (case a1 => assumption); (case a2 => walk_at "vl"); (case a3 => assumption))
  | ((with_reducible refine' f_Book_height ?a1 ?a2 ?a3); (case a1 => assumption); (case a2 => walk_at "vl"); (case a3 => assumption))
  | ((with_reducible refine' f_Book_burnt ?a1 ?a2 ?a3); (case a1 => assumption); (case a2 => walk_at "vl"); (case a3 => assumption))
  | ((with_reducible refine' f_Ledger_book ?a1 ?a2 ?a3); (case a1 => assumption); (case a2 => walk_at "vl"); (case a3 => assumption))
  | ((with_reducible refine' f_Ledger_room ?a1 ?a2 ?a3); (case a1 => assumption); (case a2 => walk_at "vl"); (case a3 => assumption))
  | ((with_reducible refine' f_Ledger_waiting ?a1 ?a2 ?a3); (case a1 => assumption); (case a2 => walk_at "vl"); (case a3 => assumption))
  | ((with_reducible refine' v_ix ?a1 ?a2 ?a3 ?a4); (case a1 => walk_at "vl"); (case a2 => walk_at "vl"); (case a3 => assumption); (case a4 => rfl))
  | ((with_reducible refine' v_I0 ?a1 ?a2); (case a1 => walk_at "vl"); (case a2 => walk_at "vl"))
  | ((with_reducible refine' v_isN ?a1); (case a1 => walk_at "vl"))
  | ((with_reducible refine' v_notN ?a1); (case a1 => walk_at "vl"))
  | ((with_reducible refine' v_int1 ?a1); (case a1 => walk_at "vl"))
  | ((with_reducible refine' v_eq ?a1 ?a2 ?a3); (case a1 => walk_at "vl"); (case a2 => walk_at "vl"); (case a3 => rfl))
  | ((with_reducible refine' v_ne ?a1 ?a2 ?a3); (case a1 => walk_at "vl"); (case a2 => walk_at "vl"); (case a3 => rfl))
  | ((with_reducible refine' v_max2 ?a1 ?a2); (case a1 => walk_at "vl"); (case a2 => walk_at "vl"))
  | ((with_reducible refine' v_min2 ?a1 ?a2); (case a1 => walk_at "vl"); (case a2 => walk_at "vl")))
local macro_rules | `(tactic| walk_at "va") => `(tactic| first
  | (with_reducible exact va_nil)
  | ((with_reducible refine' va_cons ?a1 ?a2); (case a1 => walk_at "vl"); (case a2 => walk_at "va")))

theorem put_self {α : Type} {l : List (Int × α)} {n : Int} {v : α} (hn : (keys l).Nodup) (g : getI l n = some v) : putI l n v = l := by
  have hk : n ∈ keys l := getI_some.mp ⟨_, g⟩
  unfold putI
  rw [if_pos (show n ∈ l.map (·.1) from hk)]
  have h : ∀ p ∈ l, (if p.1 = n then (p.1, v) else p) = p := fun p hp => by
    by_cases e : p.1 = n
    · rw [if_pos e]
      have h2 := getI_of_mem hn (show (n, p.2) ∈ l from by rw [← e]; exact hp)
      rw [g] at h2
      rw [Option.some.inj h2]
    · rw [if_neg e]
  rw [List.map_congr_left h, List.map_id']
def giv (b : Bk) (k m : Int) : Bk := { b with purses := putI b.purses k (purse b.purses k + m) }
def payd (b : Bk) (n : Int) (d : Vd) (x : Int) : Bk := giv (giv { b with vaults := dropI b.vaults n, ended := b.ended ++ [n] } d.op.b (d.money - x)) d.op.a x
structure Small (b : Bk) (n : Nat) : Prop where
  pu : b.purses.length ≤ n
  va : b.vaults.length ≤ n
  re : b.receipts.length ≤ n
  en : b.ended.length ≤ n
  dn : b.done.length ≤ n
theorem Small.le {b : Bk} {n m : Nat} (h : Small b n) (e : n ≤ m) : Small b m := ⟨Nat.le_trans h.pu e, Nat.le_trans h.va e, Nat.le_trans h.re e, Nat.le_trans h.en e, Nat.le_trans h.dn e⟩
theorem Small.giv {b : Bk} {n : Nat} {k m : Int} (h : Small b n) : Small (giv b k m) (n + 1) := ⟨Nat.le_trans (len_put b.purses) (Nat.succ_le_succ h.pu), Nat.le_succ_of_le h.va, Nat.le_succ_of_le h.re, Nat.le_succ_of_le h.en, Nat.le_succ_of_le h.dn⟩
def spGive (K : PySem.W.Frag) : Sp := fun vs H Q _ => ∃ (A : Ad) (b : Bk) (k m : Int), vs = [.ref A.bk, .int k, .int m] ∧ BookAt K H A b ∧ Small b 9000 ∧ ∀ H', Fm A H H' → BookAt K H' A (giv b k m) → Q .non H'
def spGiveBoth (K : PySem.W.Frag) : Sp := fun vs H Q _ => ∃ (A : Ad) (b : Bk) (e : Addr) (x y f s : Int), vs = [.ref A.bk, .ref e, .int f, .int s] ∧ BookAt K H A b ∧ Small b 8000 ∧ Tp K H e [.int x, .int y] ∧ ∀ H', Fm A H H' → BookAt K H' A (giv (giv b y s) x f) → Q .non H'
/-- what a vault's owner gets is in its bounds -/
def Share (d : Vd) (s : Sd) (x : Int) : Prop := x ≤ d.money ∧ (0 ≤ s.fst + d.sums.s0 - d.sums.s1 → 0 ≤ d.money → 0 ≤ x)
def spPayOut (K : PySem.W.Frag) : Sp := fun vs H Q _ => ∃ (A : Ad) (b : Bk) (n : Int) (v : Addr) (d : Vd) (s : Sd), vs = [.ref A.bk, .int n] ∧ BookAt K H A b ∧ Small b 7000 ∧ getI b.vaults n = some (v, d) ∧ d.pub = some s ∧ StOk s ∧
  ∀ H' x, Share d s x → Fm A H H' → BookAt K H' A (payd b n d x) → Q .non H'
/-- a vault with a state published -/
def pubd (b : Bk) (d : Vd) (s : Sd) : Vd := { d with pub := some s, since := match d.pub with
  | none => some b.height
  | some _ => d.since }
def Pubd (b : Bk) (s : Sd) (v : Addr) (d : Vd) (b' : Bk) : Prop := (s.fin = false ∧ b' = vset b s.ch v (pubd b d s)) ∨ (s.fin = true ∧ ∃ x, Share (pubd b d s) s x ∧ b' = payd (vset b s.ch v (pubd b d s)) s.ch (pubd b d s) x)
def spPublish (K : PySem.W.Frag) : Sp := fun vs H Q _ => ∃ (A : Ad) (b : Bk) (sa : Addr) (s : Sd) (v : Addr) (d : Vd), vs = [.ref A.bk, .ref sa] ∧ BookAt K H A b ∧ Small b 6000 ∧ StateAt K H sa s ∧ StOk s ∧ (keys b.vaults).Nodup ∧ getI b.vaults s.ch = some (v, d) ∧
  ∀ H' b', Pubd b s v d b' → Fm A H H' → BookAt K H' A b' → Q .non H'
/-- a vault that took a splice -/
def spld (d : Vd) (s : Sp8) : Vd := { d with money := d.money + s.i1 + s.i2 - s.o1 - s.o2, sums := suAdd d.sums s, spl := d.spl + 1, least := if s.si > d.least then s.si else d.least }
def spTakeSplice (K : PySem.W.Frag) : Sp := fun vs H Q _ => ∃ (A : Ad) (b : Bk) (sa : Addr) (s : Sp8) (v : Addr) (d : Vd), vs = [.ref A.bk, .ref sa] ∧ BookAt K H A b ∧ Small b 7000 ∧ Tp K H sa (spV s) ∧ (keys b.vaults).Nodup ∧ getI b.vaults s.ch = some (v, d) ∧
  ∀ H', Fm A H H' → BookAt K H' A (giv (giv (vset b s.ch v (spld d s)) d.op.b s.o2) d.op.a s.o1) → Q .non H'
section
variable {K : PySem.W.Frag} {σ : L2.St} {H : Hp} {ta tv td ty : TE} {D : Ends} {t u : TS}
theorem q_seq (h : t { D with nx := u D } σ H) : tSeq t u D σ H := h
theorem s_fld {y : V} {a C dx : Addr} {fs : List (Str × V)} {f : Str} (hv : Val tv σ H y) (ha : Val ta σ H (.ref a)) (ho : H a = some (.ins C dx fs)) (c : Cls K C) (n : NoAttr K C f) (l : fs.length < 1000) (q : D.nx σ (upd H a (.ins C dx (putF f y fs)))) : sFld K ta tv f D σ H :=
  hv _ (ha _ ⟨a, C, dx, fs, rfl, ho, c, n, l, q⟩)
theorem s_fldG {f : Str} (h : tv σ H fun y H1 => ta σ H1 fun x H2 => ∃ a C dx fs, x = .ref a ∧ H2 a = some (.ins C dx fs) ∧ Cls K C ∧ NoAttr K C f ∧ fs.length < 1000 ∧ D.nx σ (upd H2 a (.ins C dx (putF f y fs)))) : sFld K ta tv f D σ H := h
theorem q_dpop {α : Type} {g : α → V} {l : List (Int × α)} {k : Int} {v : α} {a : Addr} {Q : VK} (h1 : Val td σ H (.ref a)) (h2 : Val ty σ H (.int k)) (ha : H a = some (.dK (dk g l))) (hv : getI l k = some v) (q : Q (g v) (upd H a (.dK (dk g (dropI l k))))) : tDPop1 td ty σ H Q :=
  h1 _ ⟨a, rfl, .inl ⟨_, .inl ha⟩, h2 _ ⟨_, Sum.inl k, g v, ha, rfl, by rw [valV_dk, hv]; rfl, by rw [drop_dk]; exact q⟩⟩
end
theorem pubAt_some {K : PySem.W.Frag} {H : Hp} {v : V} {o : Option Sd} {s : Sd} (h : PubAt K H v o) (e : o = some s) : ∃ a, v = .ref a ∧ StateAt K H a s := by
  rw [e] at h
  exact h
section
variable {P : Program} {w : World} {K : PySem.W.Frag} {mg : Str → Option Value} {base : Heap}
theorem ok_give (T : Txt K mg) : HasM P w K mg base "Book" "give" 2 ["self", "party", "amount"] (spGive K) := by
  have G_Book_purse : HasM P w K mg base "Book" "purse" 1 ["self", "party"] (spPurse K) := ok_purse T
  refine hasM (st := s_Book_give) T.f_Book_give T.c_Book T.m_Book_give sc_Book_give (fun _ _ _ _ _ _ us hl => match us, hl with | [_, _, _], _ => rfl) (fun vs H Q E h => ?_) (fun f cdv A0 outer s H vs Q E hr h => ?_)
  · obtain ⟨A, b, k, m, rfl, _⟩ := h
    rfl
  · obtain ⟨A, b, k, m, rfl, B, sm, q⟩ := h
    obtain ⟨dx, o1⟩ := B.ob
    refine ⟨_, (pss_one (ps_dput (hu_of hr) (pe_fldK (K := K) rfl (pv 0) rfl) (pv 1) (pe_op op_add (pe_mmK (K := K) rfl G_Book_purse (pv 0) hr (pa_cons (pv 1) pa_nil)) (pv 2)) rfl)), ?_⟩
    refine' q_dput (k := k) (x := purse b.purses k + m) (g := V.int) ?_ (by walk_at "vl") (val_var rfl) B.pu (by have := sm.pu; omega) (q _ (Fm.bk (.inr (.inl rfl)) B.pu (fun _ z => by cases z)) (B.setPu _))
    intro Q' hQ
    refine q_opG (q_meth (val_var rfl) o1 bF_no_purse (va_cons (val_var rfl) va_nil) ⟨A, b, k, rfl, B, ?_⟩)
    exact go (val_var rfl) ⟨_, _, rfl, rfl, hQ⟩
theorem ok_give_both (T : Txt K mg) : HasF P w K mg base "give_both" 3 ["book", "ends", "first", "second"] (spGiveBoth K) := by
  have G_Book_give : HasM P w K mg base "Book" "give" 2 ["self", "party", "amount"] (spGive K) := ok_give T
  refine hasF (st := s_give_both) T.f_give_both T.g_give_both sc_give_both (fun _ _ _ _ _ _ us hl => match us, hl with | [_, _, _, _], _ => rfl) (fun vs H Q E h => ?_) (fun f cdv A0 outer s H vs Q E hr h => ?_)
  · obtain ⟨A, b, e, x, y, f, s, rfl, _⟩ := h
    rfl
  · obtain ⟨A, b, e, x, y, f, s, rfl, B, sm, t1, k⟩ := h
    obtain ⟨dx, o1⟩ := B.ob
    refine ⟨_, (pss_cons (ps_expr (pe_mmK (K := K) rfl G_Book_give (pv 0) hr (pa_cons (pe_ix (ix_tupK (K := K) rfl) (pv 1) pe_int (fun _ _ => rfl)) (pa_cons (pv 3) pa_nil))))
      (pss_one (ps_expr (pe_mmK (K := K) rfl G_Book_give (pv 0) hr (pa_cons (pe_ix (ix_tupK (K := K) rfl) (pv 1) pe_int (fun _ _ => rfl)) (pa_cons (pv 2) pa_nil)))))), ?_⟩
    refine q_drop ?_
    refine' q_meth (val_var rfl) o1 bF_no_give (by walk_at "va") ⟨A, b, y, s, rfl, B, sm.le (by decide), fun H1 f1 B1 => ?_⟩
    obtain ⟨dx1, o2⟩ := B1.ob
    have t1' := t1.ty f1.ty
    refine s_drop ?_
    refine' q_meth (val_var rfl) o2 bF_no_give (by walk_at "va") ⟨A, _, x, f, rfl, B1, sm.giv.le (by decide), fun H2 f2 B2 => k _ (f1.trans f2) B2⟩
theorem ok_pay_out (T : Txt K mg) : HasF P w K mg base "pay_out" 5 ["book", "number"] (spPayOut K) := by
  have G_shares : HasF P w K mg base "shares" 4 ["vault", "receipts"] (spShares K) := ok_shares T
  have G_give_both : HasF P w K mg base "give_both" 3 ["book", "ends", "first", "second"] (spGiveBoth K) := ok_give_both T
  have G_ends_of : HasF P w K mg base "ends_of" 1 ["vault"] (spEndsOf K) := ok_ends_of T
  refine hasF (st := s_pay_out) T.f_pay_out T.g_pay_out sc_pay_out (fun _ _ _ _ _ _ us hl => match us, hl with | [_, _], _ => rfl) (fun vs H Q E h => ?_) (fun f cdv A0 outer s H vs Q E hr h => ?_)
  · obtain ⟨A, b, n, v, d, s, rfl, _⟩ := h
    rfl
  · obtain ⟨A, b, n, v, d, s, rfl, B, sm, hv, hp, so, k⟩ := h
    obtain ⟨dx, o1⟩ := B.ob
    refine ⟨_, (pss_cons (ps_set (i := 2) sc_pay_out.nd rfl (by first | exact Or.inl rfl | exact Or.inr rfl) (pe_dpop1 (pe_fldK (K := K) rfl (pv 0) rfl) (pv 1) ⟨by rfl, by rfl, by rfl, by rfl⟩))
      (pss_cons (ps_expr (pe_bm PySem.F.plainAttrs_list PySem.F.slot_list_append PySem.F.type_list_append mt_append (pe_fldK (K := K) rfl (pv 0) rfl) (pa_cons (pv 1) pa_nil)))
      (pss_cons (ps_asg (pe_f G_shares hr (pa_cons (pv 2) (pa_cons (pe_fldK (K := K) rfl (pv 0) rfl) pa_nil))) (pg_tup rfl (pgs_cons (pg_name (i := 3) sc_pay_out.nd rfl (by first | exact Or.inl rfl | exact Or.inr rfl)) (pgs_cons (pg_name (i := 4) sc_pay_out.nd rfl (by first | exact Or.inl rfl | exact Or.inr rfl)) pgs_nil))))
      (pss_one (ps_expr (pe_f G_give_both (hr.mono (by decide)) (pa_cons (pv 0) (pa_cons (pe_f G_ends_of (hr.mono (by decide)) (pa_cons (pv 2) pa_nil)) (pa_cons (pv 3) (pa_cons (pv 4) pa_nil)))))))))), ?_⟩
    refine q_asg ?_
    refine' q_dpop (k := n) (g := vR) (v := (v, d)) (by walk_at "vl") (val_var rfl) B.va hv ?_
    have f1 : Fm A H (upd H A.vd (.dK (dk vR (dropI b.vaults n)))) := Fm.bk (.inr (.inr (.inl rfl))) B.va (fun _ z => by cases z)
    have B1 := B.setVa (dropI b.vaults n) (List.Nodup.sublist (List.Sublist.map _ List.filter_sublist) B.nv) (fun p hp => B.vs p (mem_drop.mp hp).1)
    have V1 : VaultAt K (upd H A.vd (.dK (dk vR (dropI b.vaults n)))) v d := (B.vault hv).keep f1.ty fun o ho => by rw [upd_ne ((B.vault hv).ne B.va nvl_dK)]; exact ho
    generalize upd H A.vd (.dK (dk vR (dropI b.vaults n))) = H1 at f1 B1 V1 ⊢
    obtain ⟨dx1, o2⟩ := B1.ob
    refine q_drop ?_
    refine' q_app (xs := b.ended.map V.int) (by walk_at "vl") B1.en (by rw [List.length_map]; have := sm.en; show b.ended.length < 100000; omega) (val_var (v := .int n) rfl) ?_
    have f2 : Fm A H1 (upd H1 A.el (.lst ((b.ended ++ [n]).map V.int))) := Fm.bk (.inr (.inr (.inr (.inr (.inl rfl))))) B1.en (fun _ z => by cases z)
    have B2 := B1.setEn (b.ended ++ [n])
    have V2 : VaultAt K (upd H1 A.el (.lst ((b.ended ++ [n]).map V.int))) v d := V1.keep f2.ty fun o ho => by rw [upd_ne (V1.ne B1.en nvl_lst)]; exact ho
    have e3 : b.ended.map V.int ++ [V.int n] = (b.ended ++ [n]).map V.int := by rw [List.map_append]; rfl
    rw [e3]
    generalize upd H1 A.el (.lst ((b.ended ++ [n]).map V.int)) = H2 at f2 B2 V2 ⊢
    obtain ⟨dx2, o3⟩ := B2.ob
    refine q_asgG ?_
    refine' q_call (by walk_at "va") ⟨v, A.rd, d, s, b.receipts, rfl, V2, hp, so, B2.re, fun H3 p x e hx1 hx2 hp1 hp2 => ?_⟩
    refine g_tup2 (SqT.of hp2) ?_
    have B3 := B2.ex e
    refine s_drop ?_
    refine q_callG (q_cons (v := .ref A.bk) (val_var rfl) (q_consG ?_))
    refine' q_call (by walk_at "va") ⟨v, d, rfl, V2.ex e, fun H4 q e4 _ hq => ?_⟩
    refine q_cons (v := .int x) (val_var rfl) (q_cons (v := .int (d.money - x)) (val_var rfl) (q_nil ?_))
    refine ⟨A, _, q, d.op.a, d.op.b, x, d.money - x, rfl, B3.ex e4, ⟨?_, ?_, ?_, ?_, ?_⟩, .inl hq, fun H5 f5 B5 => k _ x ⟨hx1, hx2⟩ (f1.trans (f2.trans ((Fm.of (e.trans e4)).trans f5))) B5⟩
    · have := sm.pu; show b.purses.length ≤ 8000; omega
    · have := sm.va; have := len_drop (k := n) b.vaults; show (dropI b.vaults n).length ≤ 8000; omega
    · have := sm.re; show b.receipts.length ≤ 8000; omega
    · have := sm.en; show (b.ended ++ [n]).length ≤ 8000; rw [List.length_append]; show b.ended.length + 1 ≤ 8000; omega
    · have := sm.dn; show b.done.length ≤ 8000; omega
theorem ok_publish (T : Txt K mg) : HasF P w K mg base "publish" 6 ["book", "state"] (spPublish K) := by
  have G_pay_out : HasF P w K mg base "pay_out" 5 ["book", "number"] (spPayOut K) := ok_pay_out T
  refine hasF (st := s_publish) T.f_publish T.g_publish sc_publish (fun _ _ _ _ _ _ us hl => match us, hl with | [_, _], _ => rfl) (fun vs H Q E h => ?_) (fun f cdv A0 outer s H vs Q E hr h => ?_)
  · obtain ⟨A, b, sa, s, v, d, rfl, _⟩ := h
    rfl
  · obtain ⟨A, b, sa, st, v, d, rfl, B, sm, hS, so, hn, hv, k⟩ := h
    refine ⟨_, (pss_cons (ps_set (i := 2) sc_publish.nd rfl (by first | exact Or.inl rfl | exact Or.inr rfl) (pe_dget (hu_of hr) (pe_fldK (K := K) rfl (pv 0) rfl) (pe_ix (ix_tupK (K := K) rfl) (pv 1) pe_int (fun _ _ => rfl)) (fun _ _ => rfl)))
      (pss_cons (ps_if (pt_cmpR op_isN (pe_fldK (K := K) rfl (pv 2) rfl) pe_non (nomark _)) (pss_one (ps_fld (pv 2) (pe_fldK (K := K) rfl (pv 0) rfl) rfl)) pss_nil)
      (pss_cons (ps_fld (pv 2) (pv 1) rfl)
      (pss_one (ps_if (pt_val (pe_ix (ix_tupK (K := K) rfl) (pv 1) pe_int (fun _ _ => rfl))) (pss_one (ps_expr (pe_f G_pay_out hr (pa_cons (pv 0) (pa_cons (pe_ix (ix_tupK (K := K) rfl) (pv 1) pe_int (fun _ _ => rfl)) pa_nil))))) pss_nil))))), ?_⟩
    obtain ⟨dx, o0⟩ := B.ob
    obtain ⟨la, as, s1, s2, s3⟩ := hS.at_
    refine' q_set (v := .ref v) (v_dget (g := vR) (v := (v, d)) (by walk_at "vl") (by walk_at "vl") B.va hv) ?_
    -- vault.since
    have V0 := B.vault hv
    obtain ⟨dxv, oa, sa1, pv, o1, u1, u2, u3⟩ := V0.at_
    have after : ∀ H1, Fm A H H1 → BookAt K H1 A (vset b st.ch v { d with since := (pubd b d st).since }) → tSeq (sFld K (tVar 2) (tVar 1) "published") (tIfS (tTest (tOp (rIxT K) (tVar 1) (tC (.int 5)))) (tDrop (tCall (spPayOut K) [] E0 (tCons (tVar 0) (tCons (tOp (rIxT K) (tVar 1) (tC (.int 0))) tNil)))) tNext) { nx := fun _ H' => Q .non H', rt := Q } ((start N_publish [.ref A.bk, .ref sa]).set 2 (some (.ref v))) H1 := by
      intro H1 f1 B1
      have V1 := B1.vault get_vset
      obtain ⟨dxv, oa, sa1, pv, o1, u1, u2, u3⟩ := V1.at_
      refine q_seq ?_
      refine s_fld (y := .ref sa) (val_var rfl) (val_var rfl) o1 T.c_Vault T.n_Vault_published (by show 7 < 1000; decide) ?_
      rw [vF_put_published]
      have B2 := B1.vset (d' := pubd b d st) (by exact nd_put hn) get_vset (dx := dxv) u1 u2 (pv := .ref sa) ⟨sa, rfl, hS.ty f1.ty⟩
      have f2 : Fm A H1 (upd H1 v (.ins (He.ga K "Vault") dxv (vF oa sa1 d.money d.spl d.least (.ref sa) (sinV (pubd b d st).since)))) := Fm.vl o1 vl_vF
      rw [vset_vset] at B2
      have B3 : BookAt K (upd H1 v (.ins (He.ga K "Vault") dxv (vF oa sa1 d.money d.spl d.least (.ref sa) (sinV (pubd b d st).since)))) A (vset b st.ch v (pubd b d st)) := B2
      have f3 := f1.trans f2
      dsimp only
      clear B2 f2
      generalize upd H1 v (.ins (He.ga K "Vault") dxv (vF oa sa1 d.money d.spl d.least (.ref sa) (sinV (pubd b d st).since))) = H2 at B3 f3 ⊢
      have s1' := s1.ty f3.ty
      refine' st_if (b := st.fin) (a_val (by walk_at "vl")) (fun hf => ?_) (fun hf => k _ _ (.inl ⟨hf, rfl⟩) f3 B3)
      refine s_drop ?_
      refine' q_call (by walk_at "va") ⟨A, _, st.ch, v, pubd b d st, st, rfl, B3, ⟨?_, ?_, ?_, ?_, ?_⟩, get_vset, rfl, so, fun H' x hx f' B' => k _ _ (.inr ⟨hf, x, hx, rfl⟩) (f3.trans f') B'⟩
      · have := sm.pu; show b.purses.length ≤ 7000; omega
      · have := sm.va; have := len_put (k := st.ch) (v := (v, pubd b d st)) b.vaults; show (putI b.vaults st.ch (v, pubd b d st)).length ≤ 7000; omega
      · have := sm.re; show b.receipts.length ≤ 7000; omega
      · have := sm.en; show b.ended.length ≤ 7000; omega
      · have := sm.dn; show b.done.length ≤ 7000; omega
    cases hp : d.pub with
    | none =>
      have u4 : pv = V.non := by rw [hp] at u3; exact u3
      subst u4
      refine' q_ifA (b := true) (v_itest (x := .non) (by walk_at "vl")) (fun _ => ?_) (fun z => by cases z)
      refine' s_fld (y := .int b.height) (by walk_at "vl") (val_var rfl) o1 T.c_Vault T.n_Vault_since (by show 7 < 1000; decide) ?_
      rw [vF_put_since]
      have es : (pubd b d st).since = some b.height := by unfold pubd; rw [hp]
      refine after _ (Fm.vl o1 vl_vF) ?_
      rw [es]
      exact B.vset (d' := { d with since := some b.height }) hn hv u1 u2 u3
    | some s' =>
      obtain ⟨a, rfl, u4⟩ := pubAt_some u3 hp
      refine' q_ifA (b := false) (v_itest (x := .ref a) (by walk_at "vl")) (fun z => by cases z) (fun _ => n_next ?_)
      have es : (pubd b d st).since = d.since := by unfold pubd; rw [hp]
      refine after _ Fm.refl ?_
      rw [es]
      have e1 : vset b st.ch v d = b := by
        show ({ b with vaults := putI b.vaults st.ch (v, d) } : Bk) = b
        rw [put_self hn hv]
      have e2 : ({ d with since := d.since } : Vd) = d := rfl
      rw [e2, e1]
      exact B
end
end Tk
/-! take_splice, charge, a new vault. -/
namespace Tk
open PySem PySem.Spec PyProof.Rows L2
local macro_rules | `(tactic| walk_at "vl") => `(tactic| first
  | ((with_reducible refine' val_var ?a1); (case a1 => rfl))
  | ((with_reducible refine' val_c))
  | ((with_reducible refine' f_Vault_opening ?a1 ?a2 ?a3); (case a1 => assumption); (case a2 => walk_at "vl"); (case a3 => assumption))
  | ((with_reducible refine' f_Vault_money ?a1 ?a2 ?a3); (case a1 => assumption); (case a2 => walk_at "vl"); (case a3 => assumption))
  | ((with_reducible refine' f_Vault_sums ?a1 ?a2 ?a3); (case a1 => assumption); (case a2 => walk_at "vl"); (case a3 => assumption))
  | ((with_reducible refine' f_Vault_splices ?a1 ?a2 ?a3); (case a1 => assumption); (case a2 => walk_at "vl"); (case a3 => assumption))
  | ((with_reducible refine' f_Vault_least ?a1 ?a2 ?a3); (case a1 => assumption); (case a2 => walk_at "vl"); (case a3 => assumption))
  | ((with_reducible refine' f_Vault_published ?a1 ?a2 ?a3); (case a1 => assumption); (case a2 => walk_at "vl"); (case a3 => assumption))
  | ((with_reducible refine' f_Vault_since ?a1 ?a2 ?a3); (case a1 => assumption); (case a2 => walk_at "vl"); (case a3 => assumption))
  | ((with_reducible refine' f_Book_purses ?a1 ?a2 ?a3); (case a1 => assumption); (case a2 => walk_at "vl"); (case a3 => assumption))
  | ((with_reducible refine' f_Book_vaults ?a1 ?a2 ?a3); (case a1 => assumption); (case a2 => walk_at "vl"); (case a3 => assumption))
  | ((with_reducible refine' f_Book_receipts ?a1 ?a2 ?a3); (case a1 => assumption); (case a2 => walk_at "vl"); (case a3 => assumption))
  | ((with_reducible refine' f_Book_ended ?a1 ?a2 ?a3); (case a1 => assumption); (case a2 => walk_at "vl"); (case a3 => assumption))
  | ((with_reducible refine' f_Book_done ?a1 ?a2 ?a3); (case a1 => assumption); (case a2 => walk_at "vl"); (case a3 => assumption))
  | ((with_reducible refine' f_Book_height ?a1 ?a2 ?a3); (case a1 => assumption); (case a2 => walk_at "vl"); (case a3 => assumption))
  | ((with_reducible refine' f_Book_burnt ?a1 ?a2 ?a3); (case a1 => assumption); (case a2 => walk_at "vl"); (case a3 => assumption))
  | ((with_reducible refine' f_Ledger_book ?a1 ?a2 ?a3); (case a1 => assumption); (case a2 => walk_at "vl"); (case a3 => assumption))
  | ((with_reducible refine' f_Ledger_room ?a1 ?a2 ?a3); (case a1 => assumption); (case a2 => walk_at "vl"); (case a3 => assumption))
  | ((with_reducible refine' f_Ledger_waiting ?a1 ?a2 ?a3); (case a1 => assumption); (case a2 => walk_at "vl"); (case a3 => assumption))
  | ((with_reducible refine' v_ix ?a1 ?a2 ?a3 ?a4); (case a1 => walk_at "vl"); (case a2 => walk_at "vl"); (case a3 => assumption); (case a4 => rfl))
  | ((with_reducible refine' v_I0 ?a1 ?a2); (case a1 => walk_at "vl"); (case a2 => walk_at "vl"))
  | ((with_reducible refine' v_isN ?a1); (case a1 => walk_at "vl"))
  | ((with_reducible refine' v_notN ?a1); (case a1 => walk_at "vl"))
  | ((with_reducible refine' v_int1 ?a1); (case a1 => walk_at "vl"))
  | ((with_reducible refine' v_eq ?a1 ?a2 ?a3); (case a1 => walk_at "vl"); (case a2 => walk_at "vl"); (case a3 => rfl))
  | ((with_reducible refine' v_ne ?a1 ?a2 ?a3); (case a1 => walk_at "vl"); (case a2 => walk_at "vl"); (case a3 => rfl))
  | ((with_reducible refine' v_max2 ?a1 ?a2); (case a1 => walk_at "vl"); (case a2 => walk_at "vl"))
  | ((with_reducible refine' v_min2 ?a1 ?a2); (case a1 => walk_at "vl"); (case a2 => walk_at "vl")))
local macro_rules | `(tactic| walk_at "va") => `(tactic| first
  | (with_reducible exact va_nil)
  | ((with_reducible refine' va_cons ?a1 ?a2); (case a1 => walk_at "vl"); (case a2 => walk_at "va")))

theorem upd2 {H : Hp} {a : Addr} {o u : HO} : upd (upd H a o) a u = upd H a u := funext fun b => by
  by_cases h : b = a
  · rw [h, upd_same, upd_same]
  · rw [upd_ne h, upd_ne h, upd_ne h]
def minusTo (l : Pm) (p : Int × Int) : Pm := if (getI l p.1).isSome = true then putI l p.1 (purse l p.1 - p.2) else l
def chargd (b : Bk) (t : Thing) : Bk := { b with purses := (taken (parts b.vaults t)).foldl minusTo b.purses, burnt := b.burnt + t.fee }
def spCharge (K : PySem.W.Frag) : Sp := fun vs H Q _ => ∃ (A : Ad) (b : Bk) (ta : Addr) (t : Thing), vs = [.ref A.bk, .ref ta] ∧ BookAt K H A b ∧ Small b 6000 ∧ ThingAt K H ta t ∧ ∀ H', Fm A H H' → BookAt K H' A (chargd b t) → Q .non H'
theorem len_minus (l : Pm) (p : Int × Int) : (minusTo l p).length = l.length := by
  unfold minusTo
  split
  · rename_i h
    refine len_put_in (getI_some.mp ?_)
    cases e : getI l p.1 with
    | none => rw [e] at h; cases h
    | some v => exact ⟨v, rfl⟩
  · rfl
theorem len_minuses : ∀ (ps l : Pm), (ps.foldl minusTo l).length = l.length
  | [], _ => rfl
  | p :: r, l => by rw [List.foldl_cons, len_minuses r, len_minus]
/-! for k in d, d a dict with int keys -/
section
variable {K : PySem.W.Frag} {σ : L2.St} {H : Hp} {td tv ty : TE} {tb u : TS} {D : Ends} {d : Addr} {j : Nat}
theorem q_forK {α : Type} {g : α → V} {l : List (Int × α)} (hdd : H d = some (.dK (dk g l))) (h : ∀ od, Val td σ (upd H d (.frz od (.dK (dk g l)))) (.ref d)) (Pv : Obj → Nat → L2.St → Hp → Prop) (h0 : ∀ od, Pv od 0 σ (upd H d (.frz od (.dK (dk g l)))))
    (hk : ∀ od i σ' H', Pv od i σ' H' → H' d = some (.frz od (.dK (dk g l))))
    (hs : ∀ od i p σ' H' bk, l[i]? = some p → Pv od i σ' H' → tb { nx := Pv od (i + 1), rt := fun v H' => H' d = some (.frz od (.dK (dk g l))) ∧ D.rt v (upd H' d (.dK (dk g l))), bk := bk, ct := Pv od (i + 1) } (σ'.set j (some (.int p.1))) H')
    (hd : ∀ od σ' H', Pv od l.length σ' H' → u D σ' (upd H' d (.dK (dk g l)))) : tSeq (tLock (tFor (iKeys td) (gName j) tb)) u D σ H := by
  refine ⟨d, _, hdd, trivial, fun od => ?_⟩
  refine h od _ ⟨d, od, rfl, .inl ⟨_, upd_same, ?_⟩⟩
  refine for_it (J := Itk d od (dk g l)) (n := l.length) (by have w := walk_keys (d := d) (o := od) (kvs := dk g l); rw [dk_len] at w; exact w) (Pv od) (h0 od) (fun i σ H _ p => hk od i σ H p) (fun i x σ H H' hi p y => ?_) (fun σ' H' p => ⟨hk od _ _ _ p, hd od σ' H' p⟩)
  obtain ⟨rfl, k, v, hkv, rfl⟩ := y
  have hk2 : ∃ p, l[i]? = some p ∧ k = Sum.inl p.1 := by
    have z : (l.map fun p => ((Sum.inl p.1 : Key), g p.2))[i]? = some (k, v) := hkv
    rw [List.getElem?_map] at z
    cases e : l[i]? with
    | none => rw [e] at z; cases z
    | some p =>
      rw [e] at z
      have z2 := Option.some.inj z
      exact ⟨p, rfl, (congrArg Prod.fst z2).symm⟩
  obtain ⟨p', hp, rfl⟩ := hk2
  exact hs od i p' σ _ _ hp p
theorem q_dputG (h : tv σ H fun z H1 => td σ H1 fun x H2 => ty σ H2 fun y H3 => ∃ a H4, x = .ref a ∧ DPut H3 a y z H4 ∧ D.nx σ H4) : sDPut td ty tv D σ H := h
theorem q_put1 {α : Type} {g : α → V} {l : List (Int × α)} {k : Int} {x : α} {a : Addr} (h1 : Val td σ H (.ref a)) (h2 : Val ty σ H (.int k)) (ha : H a = some (.dK (dk g l))) (hl : l.length < 100000) (q : D.nx σ (upd H a (.dK (dk g (putI l k x))))) :
    td σ H fun x' H2 => ty σ H2 fun y H3 => ∃ a H4, x' = .ref a ∧ DPut H3 a y (g x) H4 ∧ D.nx σ H4 := h1 _ (h2 _ ⟨a, _, rfl, DPut.k (k := Sum.inl k) ha (Nat.lt_trans (by rw [dk_len]; exact hl) (by decide)), by rw [put_dk]; exact q⟩)
theorem q_make {C : Addr} {sp : Sp} {dvs vs : List V} {E : XK} {t : TA} {Q : VK} (h : ValA t σ H vs) (q : ∀ x dx, H x = none → H dx = none → dx ≠ x → sp (.ref x :: (vs ++ dvs)) (upd (upd H dx (.own x)) x (.ins C dx [])) (fun v H2 => v = .non ∧ Q (.ref x) H2) E) : tMake C sp dvs E t σ H Q := h _ q
end
/-! a new vault -/
def vaultPs : List Str := ["self", "opening", "sums", "splices", "least", "published", "since"]
def mon (o : Op) (s : Su) : Int := o.fi + o.si + s.s0 - s.s1 + s.s2 - s.s3
def spVaultInit (K : PySem.W.Frag) : Sp := fun vs H Q _ => ∃ (x dx oa sa : Addr) (o : Op) (s : Su) (spl le : Int) (pv sv : V), vs = [.ref x, .ref oa, .ref sa, .int spl, .int le, pv, sv] ∧ H x = some (.ins (He.ga K "Vault") dx []) ∧ Tp K H oa (opV o) ∧ Tp K H sa (suV s) ∧
  Q .non (upd H x (.ins (He.ga K "Vault") dx (vF oa sa (mon o s) spl le pv sv)))
def zeros : Su := ⟨0, 0, 0, 0⟩
section
variable {P : Program} {w : World} {K : PySem.W.Frag} {mg : Str → Option Value} {base : Heap}
theorem vault_init (T : Txt K mg) {fd : FuncData} (F : FunD K d_Vault_init.name d_Vault_init.qual d_Vault_init.params d_Vault_init.body d_Vault_init.scope [] [("sums", .ref (sumsAt K)), ("splices", .int 0), ("least", .int 0), ("published", .non), ("since", .non)] (He.ma K (He.ga K "Vault") "__init__") fd) :
    FnOk P w K mg base CX0 1 (He.ma K (He.ga K "Vault") "__init__") fd vaultPs (spVaultInit K) := by
  refine F.ok sc_Vault_init (fun vs H Q E h => ?_) (fun cdv A0 outer s H vs Q E hr h => ?_)
  · obtain ⟨x, dx, oa, sa, o, s, spl, le, qv, sv, rfl, _⟩ := h
    rfl
  · obtain ⟨x, dx, oa, sa, o, su, spl, le, qv, sv, rfl, hx, t1, t2, k⟩ := h
    suffices hh : ∃ t, PSs (cxOf CX0 P w K mg base N_Vault_init d_Vault_init.qual (defScope s_Vault_init) (He.ma K (He.ga K "Vault") "__init__") cdv A0 outer s H E).nox (defBody s_Vault_init) t ∧ t { nx := fun _ H' => Q .non H', rt := Q } (start N_Vault_init [.ref x, .ref oa, .ref sa, .int spl, .int le, qv, sv]) H by
      obtain ⟨t, h1, h2⟩ := hh
      exact ⟨t, h1.nox, h2⟩
    refine ⟨_, (pss_cons (ps_fld (pv 0) (pv 1) rfl)
      (pss_cons (ps_fld (pv 0) (pe_op op_sub (pe_op op_add (pe_op op_sub (pe_op op_add (pe_op op_add (pe_ix (ix_tupK (K := K) rfl) (pv 1) pe_int (fun _ _ => rfl)) (pe_ix (ix_tupK (K := K) rfl) (pv 1) pe_int (fun _ _ => rfl))) (pe_ix (ix_tupK (K := K) rfl) (pv 2) pe_int (fun _ _ => rfl))) (pe_ix (ix_tupK (K := K) rfl) (pv 2) pe_int (fun _ _ => rfl))) (pe_ix (ix_tupK (K := K) rfl) (pv 2) pe_int (fun _ _ => rfl))) (pe_ix (ix_tupK (K := K) rfl) (pv 2) pe_int (fun _ _ => rfl))) rfl)
      (pss_cons (ps_fld (pv 0) (pv 2) rfl)
      (pss_cons (ps_fld (pv 0) (pv 3) rfl)
      (pss_cons (ps_fld (pv 0) (pv 4) rfl)
      (pss_cons (ps_fld (pv 0) (pv 5) rfl)
      (pss_one (ps_fld (pv 0) (pv 6) rfl)))))))), ?_⟩
    have ty : ∀ fs, Ty H (upd H x (.ins (He.ga K "Vault") dx fs)) := fun fs => Ty.upd hx (fun _ z => by cases z)
    refine q_seq (s_fld (y := .ref oa) (val_var rfl) (val_var rfl) hx T.c_Vault T.n_Vault_opening (by show 0 < 1000; decide) ?_)
    have a1 := t1.ty (ty (putF "opening" (.ref oa) []))
    have a2 := t2.ty (ty (putF "opening" (.ref oa) []))
    dsimp only
    refine' q_seq (s_fld (y := .int (mon o su)) (by unfold mon; walk_at "vl") (val_var rfl) upd_same T.c_Vault T.n_Vault_money (by show 1 < 1000; decide) ?_)
    refine q_seq (s_fld (y := .ref sa) (val_var rfl) (val_var rfl) upd_same T.c_Vault T.n_Vault_sums (by show 2 < 1000; decide) ?_)
    refine q_seq (s_fld (y := .int spl) (val_var rfl) (val_var rfl) upd_same T.c_Vault T.n_Vault_splices (by show 3 < 1000; decide) ?_)
    refine q_seq (s_fld (y := .int le) (val_var rfl) (val_var rfl) upd_same T.c_Vault T.n_Vault_least (by show 4 < 1000; decide) ?_)
    refine q_seq (s_fld (y := qv) (val_var rfl) (val_var rfl) upd_same T.c_Vault T.n_Vault_published (by show 5 < 1000; decide) ?_)
    refine s_fld (y := sv) (val_var rfl) (val_var rfl) upd_same T.c_Vault T.n_Vault_since (by show 6 < 1000; decide) ?_
    dsimp only
    rw [upd2, upd2, upd2, upd2, upd2, upd2, vF_made]
    exact k
theorem mk_vault (T : Txt K mg) : HasK P w K mg base "Vault" 1 vaultPs [.ref (sumsAt K), .int 0, .int 0, .non, .non] (spVaultInit K) := by
  obtain ⟨fd, F⟩ := T.f_Vault_init
  have F' : FunD K d_Vault_init.name d_Vault_init.qual d_Vault_init.params d_Vault_init.body d_Vault_init.scope [] [("sums", .ref (sumsAt K)), ("splices", .int 0), ("least", .int 0), ("published", .non), ("since", .non)] (He.ma K (He.ga K "Vault") "__init__") fd := F
  obtain ⟨us, h1, h2⟩ := F'.binds0 (ps := vaultPs) 2 (by simp) rfl (fun D doc pm an cdv ct us ks h1 h2 => by
    match us, h1, ks, h2 with
    | [u1, u2], _, [k1, k2, k3, k4, k5], _ =>
      exact ⟨_, _, _, _, _, _, rfl, rfl, _, _, _, _, _, _, rfl, rfl, _, _, _, _, _, _, rfl, rfl, _, _, _, _, _, _, rfl, rfl, _, _, _, _, _, _, rfl, rfl, rfl⟩)
  exact ⟨⟨fd, us, vault_init T F', h2, h1⟩, T.mk_Vault, T.mg_Vault⟩
theorem mk_vaultK (T : Txt K mg) : HasKw P w K mg base "Vault" 1 1 vaultPs ["sums", "splices", "least", "published", "since"] (fun vs zs => vs ++ zs) (spVaultInit K) := by
  obtain ⟨fd, F⟩ := T.f_Vault_init
  have F' : FunD K d_Vault_init.name d_Vault_init.qual d_Vault_init.params d_Vault_init.body d_Vault_init.scope [] [("sums", .ref (sumsAt K)), ("splices", .int 0), ("least", .int 0), ("published", .non), ("since", .non)] (He.ma K (He.ga K "Vault") "__init__") fd := F
  obtain ⟨mv, h3⟩ := F'.kbinds0 (ps := vaultPs) 2 ["sums", "splices", "least", "published", "since"] [] (fun us _ ws => us ++ ws) (by simp) (fun q hq => by cases hq) (fun h1 _ h3 => h1.append h3) (fun D doc pm an cdv ct us mv ws h1 h2 h3 => by
    match us, h1, mv, h2, ws, h3 with
    | [u1, u2], _, [], _, [k1, k2, k3, k4, k5], _ => exact rfl)
  exact ⟨⟨fd, _, vault_init T F', h3⟩, T.mk_Vault, T.mg_Vault⟩
theorem ok_take_splice (T : Txt K mg) : HasF P w K mg base "take_splice" 4 ["book", "splice"] (spTakeSplice K) := by
  have G_sums_with : HasF P w K mg base "sums_with" 1 ["sums", "splice"] (spSumsWith K) := ok_sums_with T
  have G_give_both : HasF P w K mg base "give_both" 3 ["book", "ends", "first", "second"] (spGiveBoth K) := ok_give_both T
  have G_ends_of : HasF P w K mg base "ends_of" 1 ["vault"] (spEndsOf K) := ok_ends_of T
  refine hasF (st := s_take_splice) T.f_take_splice T.g_take_splice sc_take_splice (fun _ _ _ _ _ _ us hl => match us, hl with | [_, _], _ => rfl) (fun vs H Q E h => ?_) (fun f cdv A0 outer s H vs Q E hr h => ?_)
  · obtain ⟨A, b, sa, s, v, d, rfl, _⟩ := h
    rfl
  · obtain ⟨A, b, sa, sp, v, d, rfl, B, sm, t1, hn, hv, k⟩ := h
    refine ⟨_, (pss_cons (ps_set (i := 2) sc_take_splice.nd rfl (by first | exact Or.inl rfl | exact Or.inr rfl) (pe_dget (hu_of hr) (pe_fldK (K := K) rfl (pv 0) rfl) (pe_ix (ix_tupK (K := K) rfl) (pv 1) pe_int (fun _ _ => rfl)) (fun _ _ => rfl)))
      (pss_cons (ps_fld (pv 2) (pe_op op_sub (pe_op op_sub (pe_op op_add (pe_op op_add (pe_fldK (K := K) rfl (pv 2) rfl) (pe_ix (ix_tupK (K := K) rfl) (pv 1) pe_int (fun _ _ => rfl))) (pe_ix (ix_tupK (K := K) rfl) (pv 1) pe_int (fun _ _ => rfl))) (pe_ix (ix_tupK (K := K) rfl) (pv 1) pe_int (fun _ _ => rfl))) (pe_ix (ix_tupK (K := K) rfl) (pv 1) pe_int (fun _ _ => rfl))) rfl)
      (pss_cons (ps_fld (pv 2) (pe_f G_sums_with (hr.mono (by decide)) (pa_cons (pe_fldK (K := K) rfl (pv 2) rfl) (pa_cons (pv 1) pa_nil))) rfl)
      (pss_cons (ps_fld (pv 2) (pe_op op_add (pe_fldK (K := K) rfl (pv 2) rfl) pe_int) rfl)
      (pss_cons (ps_fld (pv 2) (pe_callB (call_max2 rfl) (by rfl) T.z_max (by decide +kernel) (pa_cons (pe_fldK (K := K) rfl (pv 2) rfl) (pa_cons (pe_ix (ix_tupK (K := K) rfl) (pv 1) pe_int (fun _ _ => rfl)) pa_nil))) rfl)
      (pss_one (ps_expr (pe_f G_give_both hr (pa_cons (pv 0) (pa_cons (pe_f G_ends_of (hr.mono (by decide)) (pa_cons (pv 2) pa_nil)) (pa_cons (pe_ix (ix_tupK (K := K) rfl) (pv 1) pe_int (fun _ _ => rfl)) (pa_cons (pe_ix (ix_tupK (K := K) rfl) (pv 1) pe_int (fun _ _ => rfl)) pa_nil)))))))))))), ?_⟩
    obtain ⟨dx, o0⟩ := B.ob
    refine' q_set (v := .ref v) (v_dget (g := vR) (v := (v, d)) (by walk_at "vl") (by walk_at "vl") B.va hv) ?_
    -- vault.money
    obtain ⟨dxv, oa, sa1, pv, o1, u1, u2, u3⟩ := (B.vault hv).at_
    refine' q_seq (s_fld (y := .int (d.money + sp.i1 + sp.i2 - sp.o1 - sp.o2)) (by walk_at "vl") (val_var rfl) o1 T.c_Vault T.n_Vault_money (by show 7 < 1000; decide) ?_)
    rw [vF_put_money]
    have B1 := B.vset (d' := { d with money := d.money + sp.i1 + sp.i2 - sp.o1 - sp.o2 }) hn hv (dx := dxv) u1 u2 u3
    have f1 : Fm A H (upd H v (.ins (He.ga K "Vault") dxv (vF oa sa1 (d.money + sp.i1 + sp.i2 - sp.o1 - sp.o2) d.spl d.least pv (sinV d.since)))) := Fm.vl o1 vl_vF
    dsimp only at B1 ⊢
    generalize upd H v (.ins (He.ga K "Vault") dxv (vF oa sa1 (d.money + sp.i1 + sp.i2 - sp.o1 - sp.o2) d.spl d.least pv (sinV d.since))) = H1 at B1 f1 ⊢
    clear o1 u1 u2 u3 o0
    -- vault.sums
    obtain ⟨dxv, oa, sa1, pv, o1, u1, u2, u3⟩ := (B1.vault get_vset).at_
    have t1' := t1.ty f1.ty
    refine q_seq (s_fldG ?_)
    refine' q_call (by walk_at "va") ⟨sa1, sa, d.sums, sp, rfl, u2, t1', fun H2 q e _ hq => ?_⟩
    refine go (val_var rfl) ⟨v, _, _, _, rfl, e _ _ o1, T.c_Vault, T.n_Vault_sums, by show 7 < 1000; decide, ?_⟩
    rw [vF_put_sums]
    have B2 := (B1.ex e).vset (d' := { d with money := d.money + sp.i1 + sp.i2 - sp.o1 - sp.o2, sums := suAdd d.sums sp }) (by exact nd_put hn) get_vset (dx := dxv) (u1.ex e) (.inl hq) (u3.ty (ex_ty e))
    rw [vset_vset] at B2
    have f2 := (f1.trans (Fm.of e)).trans (Fm.vl (A := A) (u := .ins (He.ga K "Vault") dxv (vF oa q (d.money + sp.i1 + sp.i2 - sp.o1 - sp.o2) d.spl d.least pv (sinV d.since))) (e _ _ o1) vl_vF)
    dsimp only at B2 ⊢
    generalize upd H2 v (.ins (He.ga K "Vault") dxv (vF oa q (d.money + sp.i1 + sp.i2 - sp.o1 - sp.o2) d.spl d.least pv (sinV d.since))) = H3 at B2 f2 ⊢
    clear o1 u1 u2 u3 t1' hq
    -- vault.splices
    obtain ⟨dxv, oa, sa1, pv, o1, u1, u2, u3⟩ := (B2.vault get_vset).at_
    refine' q_seq (s_fld (y := .int (d.spl + 1)) (by walk_at "vl") (val_var rfl) o1 T.c_Vault T.n_Vault_splices (by show 7 < 1000; decide) ?_)
    rw [vF_put_splices]
    have B3 := B2.vset (d' := { d with money := d.money + sp.i1 + sp.i2 - sp.o1 - sp.o2, sums := suAdd d.sums sp, spl := d.spl + 1 }) (by exact nd_put hn) get_vset (dx := dxv) u1 u2 u3
    rw [vset_vset] at B3
    have f3 := f2.trans (Fm.vl (A := A) (u := .ins (He.ga K "Vault") dxv (vF oa sa1 (d.money + sp.i1 + sp.i2 - sp.o1 - sp.o2) (d.spl + 1) d.least pv (sinV d.since))) o1 vl_vF)
    dsimp only at B3 ⊢
    generalize upd H3 v (.ins (He.ga K "Vault") dxv (vF oa sa1 (d.money + sp.i1 + sp.i2 - sp.o1 - sp.o2) (d.spl + 1) d.least pv (sinV d.since))) = H4 at B3 f3 ⊢
    clear o1 u1 u2 u3
    -- vault.least
    obtain ⟨dxv, oa, sa1, pv, o1, u1, u2, u3⟩ := (B3.vault get_vset).at_
    have t1' := t1.ty f3.ty
    refine' q_seq (s_fld (y := .int (if sp.si > d.least then sp.si else d.least)) (by walk_at "vl") (val_var rfl) o1 T.c_Vault T.n_Vault_least (by show 7 < 1000; decide) ?_)
    rw [vF_put_least]
    have B4 := B3.vset (d' := spld d sp) (by exact nd_put hn) get_vset (dx := dxv) u1 u2 u3
    rw [vset_vset] at B4
    have f4 := f3.trans (Fm.vl (A := A) (u := .ins (He.ga K "Vault") dxv (vF oa sa1 (d.money + sp.i1 + sp.i2 - sp.o1 - sp.o2) (d.spl + 1) (if sp.si > d.least then sp.si else d.least) pv (sinV d.since))) o1 vl_vF)
    have B5 : BookAt K (upd H4 v (.ins (He.ga K "Vault") dxv (vF oa sa1 (d.money + sp.i1 + sp.i2 - sp.o1 - sp.o2) (d.spl + 1) (if sp.si > d.least then sp.si else d.least) pv (sinV d.since)))) A (vset b sp.ch v (spld d sp)) := B4
    dsimp only
    clear B4
    generalize upd H4 v (.ins (He.ga K "Vault") dxv (vF oa sa1 (d.money + sp.i1 + sp.i2 - sp.o1 - sp.o2) (d.spl + 1) (if sp.si > d.least then sp.si else d.least) pv (sinV d.since))) = H5 at B5 f4 ⊢
    clear o1 u1 u2 u3 t1'
    -- give_both
    refine s_drop ?_
    refine q_callG (q_cons (v := .ref A.bk) (val_var rfl) (q_consG ?_))
    refine' q_call (by walk_at "va") ⟨v, spld d sp, rfl, B5.vault get_vset, fun H6 q e _ hq => ?_⟩
    have t1' := (t1.ty f4.ty).ex e
    refine' q_cons (by walk_at "vl") ?_
    refine' q_cons (by walk_at "vl") ?_
    refine q_nil ⟨A, _, q, d.op.a, d.op.b, sp.o1, sp.o2, rfl, B5.ex e, ⟨?_, ?_, ?_, ?_, ?_⟩, .inl hq, fun H7 f7 B7 => k _ (f4.trans ((Fm.of e).trans f7)) B7⟩
    · have := sm.pu; show b.purses.length ≤ 8000; omega
    · have := sm.va; have := len_put (k := sp.ch) (v := (v, spld d sp)) b.vaults; show (putI b.vaults sp.ch (v, spld d sp)).length ≤ 8000; omega
    · have := sm.re; show b.receipts.length ≤ 8000; omega
    · have := sm.en; show b.ended.length ≤ 8000; omega
    · have := sm.dn; show b.done.length ≤ 8000; omega
theorem ok_charge (T : Txt K mg) : HasF P w K mg base "charge" 3 ["book", "thing"] (spCharge K) := by
  have G_takes : HasF P w K mg base "takes" 2 ["book", "thing"] (spTakes K) := ok_takes T
  refine hasF (st := s_charge) T.f_charge T.g_charge sc_charge (fun _ _ _ _ _ _ us hl => match us, hl with | [_, _], _ => rfl) (fun vs H Q E h => ?_) (fun f cdv A0 outer s H vs Q E hr h => ?_)
  · obtain ⟨A, b, ta, t, rfl, _⟩ := h
    rfl
  · obtain ⟨A, b, ta, t, rfl, B, sm, hT, k⟩ := h
    refine ⟨_, (pss_cons (ps_set (i := 2) sc_charge.nd rfl (by first | exact Or.inl rfl | exact Or.inr rfl) (pe_f G_takes hr (pa_cons (pv 0) (pa_cons (pv 1) pa_nil))))
      (pss_cons (ps_lock (ps_for PassesOwn.never rfl (pi_keys (pv 2)) (pg_name (i := 3) sc_charge.nd rfl (by first | exact Or.inl rfl | exact Or.inr rfl)) (pss_one (ps_if (pt_cmp (pc_din (hu_of hr) (pv 3) (pe_fldK (K := K) rfl (pv 0) rfl))) (pss_one (ps_dput (hu_of hr) (pe_fldK (K := K) rfl (pv 0) rfl) (pv 3) (pe_op op_sub (pe_dget (hu_of hr) (pe_fldK (K := K) rfl (pv 0) rfl) (pv 3) (fun _ _ => rfl)) (pe_dget (hu_of hr) (pv 2) (pv 3) (fun _ _ => rfl))) rfl)) pss_nil))))
      (pss_one (ps_fld (pv 0) (pe_op op_add (pe_fldK (K := K) rfl (pv 0) rfl) (pe_ix (ix_tupK (K := K) rfl) (pv 1) pe_int (fun _ _ => rfl))) rfl)))), ?_⟩
    refine q_asg (q_call (va_cons (val_var rfl) (va_cons (val_var rfl) va_nil)) ⟨A, b, ta, t, rfl, B, hT, fun H1 d e hd0 hd => ?_⟩)
    have nd : (keys (taken (parts b.vaults t))).Nodup := nd_taken _ _ (by exact List.nodup_nil)
    have B1 := B.ex e
    refine q_forK (g := V.int) (l := taken (parts b.vaults t)) hd (fun od => val_var rfl) (fun od i σ' H' => (∃ v, σ' = [some (.ref A.bk), some (.ref ta), some (.ref d), v]) ∧ H' d = some (.frz od (.dK (dkI (taken (parts b.vaults t))))) ∧ Fm A H H' ∧ BookAt K H' A { b with purses := ((taken (parts b.vaults t)).take i).foldl minusTo b.purses })
      (fun od => ⟨⟨none, rfl⟩, upd_same, (Fm.of e).mut hd0, B.ex (Evl.Ex.mut e hd0)⟩) (fun od i σ' H' z => z.2.1) ?_ ?_
    · rintro od i p σ' H' bk hp ⟨⟨v, rfl⟩, ld, f1, B2⟩
      obtain ⟨dx, o1⟩ := B2.ob
      have et : ((taken (parts b.vaults t)).take (i + 1)).foldl minusTo b.purses = minusTo (((taken (parts b.vaults t)).take i).foldl minusTo b.purses) p := by
        rw [List.take_add_one, hp, List.foldl_append]
        rfl
      have ln := len_minuses ((taken (parts b.vaults t)).take i) b.purses
      have sml := sm.pu
      generalize hl : ((taken (parts b.vaults t)).take i).foldl minusTo b.purses = l at B2 et ln o1
      have hg : getI (taken (parts b.vaults t)) p.1 = some p.2 := getI_of_mem nd (by exact List.mem_of_getElem? hp)
      cases hv : getI l p.1 with
      | none =>
        refine' st_if (b := false) (v_is' (a_din (g := V.int) (k := p.1) (val_var rfl) (by walk_at "vl") B2.pu) (by show (getI l p.1).isSome = false; rw [hv]; rfl)) (fun z => by cases z) (fun _ => ⟨⟨_, rfl⟩, ld, f1, ?_⟩)
        rw [et]
        unfold minusTo
        rw [hv]
        exact B2
      | some x =>
        refine' st_if (b := true) (v_is' (a_din (g := V.int) (k := p.1) (val_var rfl) (by walk_at "vl") B2.pu) (by show (getI l p.1).isSome = true; rw [hv]; rfl)) (fun _ => ?_) (fun z => by cases z)
        have ep : purse l p.1 = x := by unfold purse; rw [hv]; rfl
        refine' q_dput (g := V.int) (k := p.1) (x := purse l p.1 - p.2) ?_ (by walk_at "vl") (val_var rfl) B2.pu (by show l.length < 100000; omega) ?_
        · rw [ep]
          exact v_I0 (v_dget (g := V.int) (by walk_at "vl") (val_var rfl) B2.pu hv) (v_dgetF (g := V.int) (val_var rfl) (val_var rfl) ld hg)
        · refine ⟨⟨_, rfl⟩, by rw [upd_ne (neH ld B2.pu fun z => by cases z)]; exact ld, f1.trans (Fm.bk (.inr (.inl rfl)) B2.pu (fun _ z => by cases z)), ?_⟩
          rw [et]
          unfold minusTo
          rw [hv]
          exact B2.setPu _
    · rintro od σ' H' ⟨⟨v, rfl⟩, ld, f1, B2⟩
      rw [List.take_length] at B2
      have B3 := B2.frz (u := .dK (dkI (taken (parts b.vaults t)))) ld
      have f2 : Fm A H (upd H' d (.dK (dkI (taken (parts b.vaults t))))) := f1.mut hd0
      generalize upd H' d (.dK (dkI (taken (parts b.vaults t)))) = H2 at B3 f2 ⊢
      obtain ⟨dx, o1⟩ := B3.ob
      obtain ⟨aa, ha, t1, _⟩ := (hT.ty f2.ty).at_
      refine' s_fld (y := .int (b.burnt + t.fee)) (by walk_at "vl") (val_var rfl) o1 T.c_Book T.n_Book_burnt (by show 7 < 1000; decide) ?_
      rw [bF_put_burnt]
      exact k _ (f2.trans (Fm.bk (.inl rfl) o1 (fun _ z => by cases z))) (B3.setOb ⟨_, o1⟩)
end
end Tk
/-! carry_out. -/
namespace Tk
open PySem PySem.Spec PyProof.Rows L2
local macro_rules | `(tactic| walk_at "vl") => `(tactic| first
  | ((with_reducible refine' val_var ?a1); (case a1 => rfl))
  | ((with_reducible refine' val_c))
  | ((with_reducible refine' f_Vault_opening ?a1 ?a2 ?a3); (case a1 => assumption); (case a2 => walk_at "vl"); (case a3 => assumption))
  | ((with_reducible refine' f_Vault_money ?a1 ?a2 ?a3); (case a1 => assumption); (case a2 => walk_at "vl"); (case a3 => assumption))
  | ((with_reducible refine' f_Vault_sums ?a1 ?a2 ?a3); (case a1 => assumption); (case a2 => walk_at "vl"); (case a3 => assumption))
  | ((with_reducible refine' f_Vault_splices ?a1 ?a2 ?a3); (case a1 => assumption); (case a2 => walk_at "vl"); (case a3 => assumption))
  | ((with_reducible refine' f_Vault_least ?a1 ?a2 ?a3); (case a1 => assumption); (case a2 => walk_at "vl"); (case a3 => assumption))
  | ((with_reducible refine' f_Vault_published ?a1 ?a2 ?a3); (case a1 => assumption); (case a2 => walk_at "vl"); (case a3 => assumption))
  | ((with_reducible refine' f_Vault_since ?a1 ?a2 ?a3); (case a1 => assumption); (case a2 => walk_at "vl"); (case a3 => assumption))
  | ((with_reducible refine' f_Book_purses ?a1 ?a2 ?a3); (case a1 => assumption); (case a2 => walk_at "vl"); (case a3 => assumption))
  | ((with_reducible refine' f_Book_vaults ?a1 ?a2 ?a3); (case a1 => assumption); (case a2 => walk_at "vl"); (case a3 => assumption))
  | ((with_reducible refine' f_Book_receipts ?a1 ?a2 ?a3); (case a1 => assumption); (case a2 => walk_at "vl"); (case a3 => assumption))
  | ((with_reducible refine' f_Book_ended ?a1 ?a2 ?a3); (case a1 => assumption); (case a2 => walk_at "vl"); (case a3 => assumption))
  | ((with_reducible refine' f_Book_done ?a1 ?a2 ?a3); (case a1 => assumption); (case a2 => walk_at "vl"); (case a3 => assumption))
  | ((with_reducible refine' f_Book_height ?a1 ?a2 ?a3); (case a1 => assumption); (case a2 => walk_at "vl"); (case a3 => assumption))
  | ((with_reducible refine' f_Book_burnt ?a1 ?a2 ?a3); (case a1 => assumption); (case a2 => walk_at "vl"); (case a3 => assumption))
  | ((with_reducible refine' f_Ledger_book ?a1 ?a2 ?a3); (case a1 => assumption); (case a2 => walk_at "vl"); (case a3 => assumption))
  | ((with_reducible refine' f_Ledger_room ?a1 ?a2 ?a3); (case a1 => assumption); (case a2 => walk_at "vl"); (case a3 => assumption))
  | ((with_reducible refine' f_Ledger_waiting ?a1 ?a2 ?a3); (case a1 => assumption); (case a2 => walk_at "vl"); (case a3 => assumption))
  | ((with_reducible refine' v_ix ?a1 ?a2 ?a3 ?a4); (case a1 => walk_at "vl"); (case a2 => walk_at "vl"); (case a3 => assumption); (case a4 => rfl))
  | ((with_reducible refine' v_I0 ?a1 ?a2); (case a1 => walk_at "vl"); (case a2 => walk_at "vl"))
  | ((with_reducible refine' v_isN ?a1); (case a1 => walk_at "vl"))
  | ((with_reducible refine' v_notN ?a1); (case a1 => walk_at "vl"))
  | ((with_reducible refine' v_int1 ?a1); (case a1 => walk_at "vl"))
  | ((with_reducible refine' v_eq ?a1 ?a2 ?a3); (case a1 => walk_at "vl"); (case a2 => walk_at "vl"); (case a3 => rfl))
  | ((with_reducible refine' v_ne ?a1 ?a2 ?a3); (case a1 => walk_at "vl"); (case a2 => walk_at "vl"); (case a3 => rfl))
  | ((with_reducible refine' v_max2 ?a1 ?a2); (case a1 => walk_at "vl"); (case a2 => walk_at "vl"))
  | ((with_reducible refine' v_min2 ?a1 ?a2); (case a1 => walk_at "vl"); (case a2 => walk_at "vl")))
local macro_rules | `(tactic| walk_at "va") => `(tactic| first
  | (with_reducible exact va_nil)
  | ((with_reducible refine' va_cons ?a1 ?a2); (case a1 => walk_at "vl"); (case a2 => walk_at "va")))

def chdn (b : Bk) (t : Thing) : Bk := { chargd b t with done := b.done ++ [(t.payer, t.tag)] }
def newV (o : Op) : Vd := ⟨o, mon o zeros, zeros, 0, 0, none, none⟩
/-- what carrying out does to a book -/
def Stepd (b : Bk) (t : Thing) (b' : Bk) : Prop := match t.act with
  | .pay x m => b' = giv (chdn b t) x m
  | .opn o => ∃ v, b' = { chdn b t with vaults := putI b.vaults o.ch (v, newV o) }
  | .pub s => ∃ v d, getI b.vaults s.ch = some (v, d) ∧ Pubd (chdn b t) s v d b'
  | .set_ c => ∃ v d s x, getI b.vaults c = some (v, d) ∧ d.pub = some s ∧ Share d s x ∧ b' = payd (chdn b t) c d x
  | .spl s => ∃ v d, getI b.vaults s.ch = some (v, d) ∧ b' = giv (giv (vset (chdn b t) s.ch v (spld d s)) d.op.b s.o2) d.op.a s.o1
  | .rev _ => ∃ k, b' = { chdn b t with receipts := putI b.receipts k b.height }
def spCarryOut (K : PySem.W.Frag) : Sp := fun vs H Q _ => ∃ (A : Ad) (b : Bk) (ta : Addr) (t : Thing), vs = [.ref A.bk, .ref ta] ∧ BookAt K H A b ∧ Bg b ∧ Small b 5000 ∧ ThingAt K H ta t ∧ ActOk t.act ∧ (keys b.vaults).Nodup ∧ ActReady b t.act ∧
  ∀ H' b', Stepd b t b' → Fm A H H' → BookAt K H' A b' → Q .non H'
section
variable {P : Program} {w : World} {K : PySem.W.Frag} {mg : Str → Option Value} {base : Heap}
theorem ok_carry_out (T : Txt K mg) : HasF P w K mg base "carry_out" 7 ["book", "thing"] (spCarryOut K) := by
  have G_charge : HasF P w K mg base "charge" 3 ["book", "thing"] (spCharge K) := ok_charge T
  have G_Book_give : HasM P w K mg base "Book" "give" 2 ["self", "party", "amount"] (spGive K) := ok_give T
  have M_Vault : HasK P w K mg base "Vault" 1 vaultPs [.ref (sumsAt K), .int 0, .int 0, .non, .non] (spVaultInit K) := mk_vault T
  have G_publish : HasF P w K mg base "publish" 6 ["book", "state"] (spPublish K) := ok_publish T
  have G_pay_out : HasF P w K mg base "pay_out" 5 ["book", "number"] (spPayOut K) := ok_pay_out T
  have G_take_splice : HasF P w K mg base "take_splice" 4 ["book", "splice"] (spTakeSplice K) := ok_take_splice T
  have G_key_of : HasF P w K mg base "key_of" 1 ["secret"] spKeyOf := ok_key_of T
  refine hasF (st := s_carry_out) T.f_carry_out T.g_carry_out sc_carry_out (fun _ _ _ _ _ _ us hl => match us, hl with | [_, _], _ => rfl) (fun vs H Q E h => ?_) (fun f cdv A0 outer s H vs Q E hr h => ?_)
  · obtain ⟨A, b, ta, t, rfl, _⟩ := h
    rfl
  · obtain ⟨A, b, ta, t, rfl, B, bg, sm, hT, ao, hn, ar, k⟩ := h
    obtain ⟨aa, ha, t1, tact, t2⟩ := hT.at_
    refine ⟨_, (pss_cons (ps_asg (pv 1) (pg_tup rfl (pgs_cons (pg_name (i := 2) sc_carry_out.nd rfl (by first | exact Or.inl rfl | exact Or.inr rfl)) (pgs_cons (pg_name (i := 3) sc_carry_out.nd rfl (by first | exact Or.inl rfl | exact Or.inr rfl)) (pgs_cons (pg_name (i := 4) sc_carry_out.nd rfl (by first | exact Or.inl rfl | exact Or.inr rfl)) (pgs_cons (pg_name (i := 3) sc_carry_out.nd rfl (by first | exact Or.inl rfl | exact Or.inr rfl)) (pgs_cons (pg_name (i := 5) sc_carry_out.nd rfl (by first | exact Or.inl rfl | exact Or.inr rfl)) pgs_nil)))))))
      (pss_cons (ps_expr (pe_f G_charge (hr.mono (by decide)) (pa_cons (pv 0) (pa_cons (pv 1) pa_nil))))
      (pss_cons (ps_expr (pe_bm PySem.F.plainAttrs_list PySem.F.slot_list_append PySem.F.type_list_append mt_append (pe_fldK (K := K) rfl (pv 0) rfl) (pa_cons (pe_tup (pa_cons (pv 4) (pa_cons (pv 5) pa_nil))) pa_nil)))
      (pss_one (ps_if (pt_cmpR op_eq (pe_ix (ix_tupK (K := K) rfl) (pv 2) pe_int (fun _ _ => rfl)) pe_str (nomark _)) (pss_one (ps_expr (pe_mmK (K := K) rfl G_Book_give (pv 0) (hr.mono (by decide)) (pa_cons (pe_ix (ix_tupK (K := K) rfl) (pv 2) pe_int (fun _ _ => rfl)) (pa_cons (pe_ix (ix_tupK (K := K) rfl) (pv 2) pe_int (fun _ _ => rfl)) pa_nil))))) (pss_one (ps_if (pt_cmpR op_eq (pe_ix (ix_tupK (K := K) rfl) (pv 2) pe_int (fun _ _ => rfl)) pe_str (nomark _)) (pss_one (ps_dput (hu_of hr) (pe_fldK (K := K) rfl (pv 0) rfl) (pe_ix (ix_tupK (K := K) rfl) (pe_ix (ix_tupK (K := K) rfl) (pv 2) pe_int (fun _ _ => rfl)) pe_int (fun _ _ => rfl)) (pe_mk M_Vault (hr.mono (by decide)) (pa_cons (pe_ix (ix_tupK (K := K) rfl) (pv 2) pe_int (fun _ _ => rfl)) pa_nil)) rfl)) (pss_one (ps_if (pt_cmpR op_eq (pe_ix (ix_tupK (K := K) rfl) (pv 2) pe_int (fun _ _ => rfl)) pe_str (nomark _)) (pss_one (ps_expr (pe_f G_publish hr (pa_cons (pv 0) (pa_cons (pe_ix (ix_tupK (K := K) rfl) (pv 2) pe_int (fun _ _ => rfl)) pa_nil))))) (pss_one (ps_if (pt_cmpR op_eq (pe_ix (ix_tupK (K := K) rfl) (pv 2) pe_int (fun _ _ => rfl)) pe_str (nomark _)) (pss_one (ps_expr (pe_f G_pay_out (hr.mono (by decide)) (pa_cons (pv 0) (pa_cons (pe_ix (ix_tupK (K := K) rfl) (pv 2) pe_int (fun _ _ => rfl)) pa_nil))))) (pss_one (ps_if (pt_cmpR op_eq (pe_ix (ix_tupK (K := K) rfl) (pv 2) pe_int (fun _ _ => rfl)) pe_str (nomark _)) (pss_one (ps_expr (pe_f G_take_splice (hr.mono (by decide)) (pa_cons (pv 0) (pa_cons (pe_ix (ix_tupK (K := K) rfl) (pv 2) pe_int (fun _ _ => rfl)) pa_nil))))) (pss_one (ps_dput (hu_of hr) (pe_fldK (K := K) rfl (pv 0) rfl) (pe_f G_key_of (hr.mono (by decide)) (pa_cons (pe_ix (ix_tupK (K := K) rfl) (pv 2) pe_int (fun _ _ => rfl)) pa_nil)) (pe_fldK (K := K) rfl (pv 0) rfl) rfl))))))))))))))), ?_⟩
    refine q_asgG (go (val_var rfl) (g_tup5 t1.t ?_))
    refine q_drop (q_call (va_cons (val_var rfl) (va_cons (val_var rfl) va_nil)) ⟨A, b, ta, t, rfl, B, sm.le (by decide), hT, fun H1 f1 B1 => ?_⟩)
    obtain ⟨dx1, o1⟩ := B1.ob
    obtain ⟨das, d1, d2⟩ := B1.dn
    refine q_drop ?_
    refine' q_appT (by walk_at "vl") d1 (by rw [List.length_map, d2.1]; have := sm.dn; show b.done.length < 100000; omega) (by walk_at "va") (by show 2 ≤ 1000; decide) fun p hp => ?_
    have B2 := (B1.ex (Evl.Ex.new (o := .tup [.int t.payer, .int t.tag]) hp)).addDn (das := das) (by rw [upd_ne (ne_of_none d1 hp)]; exact d1) (d2.ty (ex_ty (Evl.Ex.new hp))) (p := p) (x := t.payer) (y := t.tag) (.inl upd_same)
    have f2 : Fm A H (upd (upd H1 p (.tup [.int t.payer, .int t.tag])) A.dl (.lst (das.map V.ref ++ [.ref p]))) := f1.trans ((Fm.of (Evl.Ex.new hp)).trans (Fm.bk (o := .lst (das.map V.ref)) (.inr (.inr (.inr (.inr (.inr rfl))))) (by rw [upd_ne (ne_of_none d1 hp)]; exact d1) (fun _ z => by cases z)))
    have B3 : BookAt K (upd (upd H1 p (.tup [.int t.payer, .int t.tag])) A.dl (.lst (das.map V.ref ++ [.ref p]))) A (chdn b t) := B2
    clear B2
    generalize upd (upd H1 p (.tup [.int t.payer, .int t.tag])) A.dl (.lst (das.map V.ref ++ [.ref p])) = H2 at B3 f2 ⊢
    have sm3 : Small (chdn b t) 5001 := by
      refine ⟨?_, Nat.le_succ_of_le sm.va, Nat.le_succ_of_le sm.re, Nat.le_succ_of_le sm.en, ?_⟩
      · show ((taken (parts b.vaults t)).foldl minusTo b.purses).length ≤ 5001
        rw [len_minuses]
        exact Nat.le_succ_of_le sm.pu
      · show (b.done ++ [(t.payer, t.tag)]).length ≤ 5001
        rw [List.length_append]
        exact Nat.succ_le_succ sm.dn
    have ta1 := tact.ty f2.ty
    obtain ⟨dx, o2⟩ := B3.ob
    clear o1 d1 d2 B1 f1 tact t1
    have k' : ∀ H' b', Stepd b t b' → Fm A H2 H' → BookAt K H' A b' → Q .non H' := fun H' b' h1 h2 h3 => k H' b' h1 (f2.trans h2) h3
    clear k
    unfold Stepd at k'
    cases hact : t.act with
    | pay x m =>
      rw [hact] at ta1 k'
      dsimp only at k'
      have ta2 : Tp K H2 aa [.str "pay", .int x, .int m] := ta1
      refine st_yes (a_yes (val_var rfl) ta1 rfl) ?_
      refine s_drop ?_
      refine' q_meth (val_var rfl) o2 bF_no_give (by walk_at "va") ⟨A, _, x, m, rfl, B3, sm3.le (by decide), fun H3 f3 B4 => k' _ _ rfl f3 B4⟩
    | opn o =>
      rw [hact] at ta1 k' ar
      dsimp only at k'
      obtain ⟨oa, ta2, ta3⟩ := id ta1
      refine st_no (a_no (val_var rfl) ta1 (by simp only [nameOf]; decide +kernel)) ?_
      refine st_yes (a_yes (val_var rfl) ta1 rfl) ?_
      refine q_dputG ?_
      refine' q_make (C := He.ga K "Vault") (by walk_at "va") (fun x dx' hx hdx hne => ?_)
      refine ⟨x, dx', oa, sumsAt K, o, zeros, 0, 0, .non, .non, rfl, upd_same, ?_, .inr T.zeros, rfl, ?_⟩
      · refine Tp.ex ((Evl.Ex.new hdx).trans (Evl.Ex.new ?_)) ta3
        rw [upd_ne hne.symm]
        exact hx
      · have e1 : Ex H2 (upd (upd H2 dx' (.own x)) x (.ins (He.ga K "Vault") dx' [])) := Evl.Ex.mut (Evl.Ex.new hdx) hx
        have e3 : Ex H2 (upd (upd (upd H2 dx' (.own x)) x (.ins (He.ga K "Vault") dx' [])) x (.ins (He.ga K "Vault") dx' (vF oa (sumsAt K) (mon o zeros) 0 0 .non .non))) := Evl.Ex.mut e1 hx
        have VN : VaultAt K (upd (upd (upd H2 dx' (.own x)) x (.ins (He.ga K "Vault") dx' [])) x (.ins (He.ga K "Vault") dx' (vF oa (sumsAt K) (mon o zeros) 0 0 .non .non))) x (newV o) := ⟨dx', oa, sumsAt K, .non, upd_same, ta3.ex e3, .inr T.zeros, rfl⟩
        generalize upd (upd (upd H2 dx' (.own x)) x (.ins (He.ga K "Vault") dx' [])) x (.ins (He.ga K "Vault") dx' (vF oa (sumsAt K) (mon o zeros) 0 0 .non .non)) = H3 at e3 VN ⊢
        have B4 := B3.ex e3
        obtain ⟨dx4, o4⟩ := B4.ob
        have ta4 := ta2.ex e3
        have ta5 := ta3.ex e3
        have hk : ¬ o.ch ∈ keys b.vaults := getI_none.mp ar.1
        have ev : putI b.vaults o.ch (x, newV o) = b.vaults ++ [(o.ch, (x, newV o))] := put_new hk
        have fresh : ¬ x ∈ b.vaults.map (·.2.1) := fun z => by
          obtain ⟨q, hq, e⟩ := List.mem_map.mp z
          obtain ⟨_, _, _, _, hh, _⟩ := (B3.vs q hq).at_
          rw [show q.2.1 = x from e, hx] at hh
          cases hh
        refine' q_put1 (g := vR) (x := (x, newV o)) (k := o.ch) (by walk_at "vl") (by walk_at "vl") B4.va (by have := sm3.va; exact Nat.lt_of_le_of_lt this (by decide)) ?_
        refine k' _ _ ⟨x, rfl⟩ ((Fm.of e3).trans (Fm.bk (.inr (.inr (.inl rfl))) B4.va (fun _ z => by cases z))) ?_
        refine B4.setVa (putI b.vaults o.ch (x, newV o)) ?_ (fun q hq => ?_)
        · rw [ev, List.map_append]
          exact L2.nd_snoc B3.nv fresh
        · rw [ev] at hq
          rcases List.mem_append.mp hq with hq | hq
          · exact B4.vs q hq
          · rw [List.mem_singleton.mp hq]
            exact VN
    | pub st =>
      rw [hact] at ta1 k' ar ao
      dsimp only at k'
      obtain ⟨sa, ta2, ta3⟩ := id ta1
      obtain ⟨v, d, hv, _⟩ := ar
      refine st_no (a_no (val_var rfl) ta1 (by simp only [nameOf]; decide +kernel)) ?_
      refine st_no (a_no (val_var rfl) ta1 (by simp only [nameOf]; decide +kernel)) ?_
      refine st_yes (a_yes (val_var rfl) ta1 rfl) ?_
      refine s_drop ?_
      refine' q_call (by walk_at "va") ⟨A, _, sa, st, v, d, rfl, B3, sm3.le (by decide), ta3, ao, hn, hv, fun H3 b' hb f3 B4 => k' _ _ ⟨v, d, hv, hb⟩ f3 B4⟩
    | set_ c =>
      rw [hact] at ta1 k' ar
      dsimp only at k'
      have ta2 : Tp K H2 aa [.str "settle", .int c] := ta1
      obtain ⟨v, d, hv, hp⟩ := ar
      obtain ⟨st, hst⟩ := Option.ne_none_iff_exists'.mp hp
      refine st_no (a_no (val_var rfl) ta1 (by simp only [nameOf]; decide +kernel)) ?_
      refine st_no (a_no (val_var rfl) ta1 (by simp only [nameOf]; decide +kernel)) ?_
      refine st_no (a_no (val_var rfl) ta1 (by simp only [nameOf]; decide +kernel)) ?_
      refine st_yes (a_yes (val_var rfl) ta1 rfl) ?_
      refine s_drop ?_
      refine' q_call (by walk_at "va") ⟨A, _, c, v, d, st, rfl, B3, sm3.le (by decide), hv, hst, ((bg _ (getI_mem hv)) st hst).2, fun H3 x hx f3 B4 => k' _ _ ⟨v, d, st, x, hv, hst, hx, rfl⟩ f3 B4⟩
    | spl sp =>
      rw [hact] at ta1 k' ar
      dsimp only at k'
      obtain ⟨sa, ta2, ta3⟩ := id ta1
      obtain ⟨v, d, hv, _⟩ := ar
      refine st_no (a_no (val_var rfl) ta1 (by simp only [nameOf]; decide +kernel)) ?_
      refine st_no (a_no (val_var rfl) ta1 (by simp only [nameOf]; decide +kernel)) ?_
      refine st_no (a_no (val_var rfl) ta1 (by simp only [nameOf]; decide +kernel)) ?_
      refine st_no (a_no (val_var rfl) ta1 (by simp only [nameOf]; decide +kernel)) ?_
      refine st_yes (a_yes (val_var rfl) ta1 rfl) ?_
      refine s_drop ?_
      refine' q_call (by walk_at "va") ⟨A, _, sa, sp, v, d, rfl, B3, sm3.le (by decide), ta3, hn, hv, fun H3 f3 B4 => k' _ _ ⟨v, d, hv, rfl⟩ f3 B4⟩
    | rev x =>
      rw [hact] at ta1 k'
      dsimp only at k'
      have ta2 : Tp K H2 aa [.str "reveal", .int x] := ta1
      refine st_no (a_no (val_var rfl) ta1 (by simp only [nameOf]; decide +kernel)) ?_
      refine st_no (a_no (val_var rfl) ta1 (by simp only [nameOf]; decide +kernel)) ?_
      refine st_no (a_no (val_var rfl) ta1 (by simp only [nameOf]; decide +kernel)) ?_
      refine st_no (a_no (val_var rfl) ta1 (by simp only [nameOf]; decide +kernel)) ?_
      refine st_no (a_no (val_var rfl) ta1 (by simp only [nameOf]; decide +kernel)) ?_
      refine q_dputG ?_
      refine' go (v := .int b.height) (by walk_at "vl") ?_
      refine' go (v := .ref A.rd) (by walk_at "vl") ?_
      refine q_call (vs := [.int x]) (by walk_at "va") ⟨x, rfl, fun j => ?_⟩
      refine ⟨A.rd, _, rfl, DPut.k (k := Sum.inl j) B3.re (Nat.lt_trans (by rw [dk_len]; exact Nat.lt_of_le_of_lt sm3.re (by decide : 5001 < 100000)) (by decide)), ?_⟩
      rw [show putK (dkI (chdn b t).receipts) (Sum.inl j : Key) (V.int b.height) = dkI (putI b.receipts j b.height) from put_dk b.receipts]
      exact k' _ _ ⟨j, rfl⟩ (Fm.bk (.inr (.inr (.inr (.inl rfl)))) B3.re (fun _ z => by cases z)) (B3.setRe _)
end
end Tk
/-! The plain law: no money is made. -/
namespace Tk
open PySem PySem.Spec PyProof.Rows L2
structure VGood (d : Vd) : Prop where
  mo : d.money = mon d.op d.sums
  po : 0 ≤ d.money
  ok : VOk d
  fr : ∀ s, d.pub = some s → 0 ≤ s.fst + d.sums.s0 - d.sums.s1
def vmo (q : Addr × Vd) : Int := q.2.money
structure Inv (b : Bk) (M : Int) : Prop where
  pn : (keys b.purses).Nodup
  pp : ∀ p ∈ b.purses, 0 ≤ p.2
  vn : (keys b.vaults).Nodup
  vg : ∀ p ∈ b.vaults, VGood p.2.2
  ve : ∀ p ∈ b.vaults, ¬ p.1 ∈ b.ended
  tot : sumI b.purses + sumBy vmo b.vaults + b.burnt = M
  dn : b.done.Nodup
theorem Inv.bg {b : Bk} {M : Int} (I : Inv b M) : Bg b := fun p hp => (I.vg p hp).ok
theorem purse_pos {l : Pm} (h : ∀ p ∈ l, 0 ≤ p.2) (k : Int) : 0 ≤ purse l k := by
  unfold purse
  cases e : getI l k with
  | none => exact Int.le_refl 0
  | some v => exact h _ (getI_mem e)
theorem purse_put {l : Pm} {k j v : Int} : purse (putI l k v) j = if j = k then v else purse l j := by
  unfold purse
  rw [get_put]
  split <;> rfl
theorem sum_putI {l : Pm} {k v : Int} (h : (keys l).Nodup) : sumI (putI l k v) = sumI l - purse l k + v := by
  have e := sum_put (m := (id : Int → Int)) (k := k) (v := v) h
  have e2 : ((getI l k).map (id : Int → Int)).getD 0 = purse l k := by
    unfold purse
    rw [Option.map_id]
    rfl
  rw [e2] at e
  exact e
theorem sumI_cons (p : Int × Int) (r : Pm) : sumI (p :: r) = p.2 + sumI r := sum_cons p r
theorem sum_taken : ∀ (ps l : Pm), (keys l).Nodup → sumI (ps.foldl addTo l) = sumI l + sumI ps
  | [], l, _ => by
    show sumI l = sumI l + 0
    omega
  | p :: r, l, h => by
    rw [List.foldl_cons, sum_taken r (addTo l p) (nd_put h), sumI_cons]
    have e : sumI (addTo l p) = sumI l - purse l p.1 + (purse l p.1 + p.2) := sum_putI h
    rw [e]
    omega
theorem pos_taken : ∀ (ps l : Pm), (∀ p ∈ l, 0 ≤ p.2) → (∀ p ∈ ps, 0 ≤ p.2) → ∀ p ∈ ps.foldl addTo l, 0 ≤ p.2
  | [], l, h, _ => h
  | p :: r, l, h, h2 => by
    refine pos_taken r _ (fun q hq => ?_) (fun q hq => h2 q (List.mem_cons_of_mem _ hq))
    rcases mem_put hq with ⟨h3, _⟩ | e
    · exact h q h3
    · rw [e]
      have := purse_pos h p.1
      have := h2 p List.mem_cons_self
      show 0 ≤ purse l p.1 + p.2
      omega
theorem minuses : ∀ (tk l : Pm), (keys tk).Nodup → (keys l).Nodup → (∀ p ∈ l, 0 ≤ p.2) → (∀ p ∈ tk, 0 ≤ p.2 ∧ p.2 ≤ purse l p.1) → (keys (tk.foldl minusTo l)).Nodup ∧ (∀ p ∈ tk.foldl minusTo l, 0 ≤ p.2) ∧ sumI (tk.foldl minusTo l) = sumI l - sumI tk
  | [], l, _, h, h2, _ => ⟨h, h2, by show sumI l = sumI l - 0; omega⟩
  | p :: r, l, hn, h, h2, h3 => by
    obtain ⟨n1, n2⟩ := List.nodup_cons.mp (show (p.1 :: keys r).Nodup from hn)
    obtain ⟨q1, q2⟩ := h3 p List.mem_cons_self
    have a1 : (keys (minusTo l p)).Nodup := by
      unfold minusTo
      split
      · exact nd_put h
      · exact h
    have a2 : ∀ q ∈ minusTo l p, 0 ≤ q.2 := by
      unfold minusTo
      split
      · intro q hq
        rcases mem_put hq with ⟨h4, _⟩ | e
        · exact h2 q h4
        · rw [e]
          show 0 ≤ purse l p.1 - p.2
          omega
      · exact h2
    have a3 : sumI (minusTo l p) = sumI l - p.2 := by
      unfold minusTo
      split
      · rw [sum_putI h]
        omega
      · rename_i hz
        have : purse l p.1 = 0 := by
          unfold purse
          cases e : getI l p.1 with
          | none => rfl
          | some v => rw [e] at hz; exact absurd rfl hz
        omega
    have a4 : ∀ q ∈ r, 0 ≤ q.2 ∧ q.2 ≤ purse (minusTo l p) q.1 := fun q hq => by
      obtain ⟨b1, b2⟩ := h3 q (List.mem_cons_of_mem _ hq)
      refine ⟨b1, ?_⟩
      have ne : ¬ q.1 = p.1 := fun z => n1 (by rw [← z]; exact List.mem_map.mpr ⟨q, hq, rfl⟩)
      unfold minusTo
      split
      · rw [purse_put, if_neg ne]
        exact b2
      · exact b2
    obtain ⟨c1, c2, c3⟩ := minuses r _ n2 a1 a2 a4
    refine ⟨c1, c2, ?_⟩
    rw [List.foldl_cons, c3, a3, sumI_cons]
    omega
/-- amounts of a thing that the law makes -/
structure ThOk (t : Thing) : Prop where
  fee : 0 ≤ t.fee
  act : ActOk t.act
  am : match t.act with
    | .pay _ m => 0 ≤ m
    | .opn o => 0 ≤ o.fi ∧ 0 ≤ o.si
    | .spl s => 0 ≤ s.i1 ∧ 0 ≤ s.i2 ∧ 0 ≤ s.o1 ∧ 0 ≤ s.o2
    | _ => True
theorem parts_pos {vs : List (Int × (Addr × Vd))} {t : Thing} (h : ThOk t) : ∀ p ∈ parts vs t, 0 ≤ p.2 := by
  have hf := h.fee
  have ha := h.am
  intro p hp
  unfold parts at hp
  rcases List.mem_append.mp hp with hp | hp
  · rcases List.mem_append.mp hp with hp | hp
    · rcases List.mem_cons.mp hp with rfl | hp
      · exact hf
      · unfold p1 at hp
        cases hact : t.act with
        | pay x m =>
          rw [hact] at hp ha
          rw [List.mem_singleton.mp hp]
          exact ha
        | _ => rw [hact] at hp; cases hp
    · unfold p2 at hp
      cases hact : t.act with
      | opn o =>
        rw [hact] at hp ha
        rcases List.mem_cons.mp hp with rfl | hp
        · exact ha.1
        · rw [List.mem_singleton.mp hp]
          exact ha.2
      | _ => rw [hact] at hp; cases hp
  · unfold p3 at hp
    cases hact : t.act with
    | spl s =>
      rw [hact] at hp ha
      dsimp only at hp
      cases hv : getI vs s.ch with
      | none => rw [hv] at hp; cases hp
      | some q =>
        rw [hv] at hp
        dsimp only at hp
        rcases List.mem_cons.mp hp with rfl | hp
        · exact ha.1
        · rw [List.mem_singleton.mp hp]
          exact ha.2.1
    | _ => rw [hact] at hp; cases hp
theorem Inv.chdn {b : Bk} {M : Int} {t : Thing} (I : Inv b M) (h : ThOk t) (r : Ready b t) : Inv (chdn b t) (M - sumI (parts b.vaults t) + t.fee) := by
  have n1 : (keys (taken (parts b.vaults t))).Nodup := nd_taken _ _ (by exact List.nodup_nil)
  have p1 := pos_taken (parts b.vaults t) [] (fun _ hp => by cases hp) (parts_pos h)
  obtain ⟨a1, a2, a3⟩ := minuses (taken (parts b.vaults t)) b.purses n1 I.pn I.pp (fun p hp => ⟨p1 p hp, r.can p hp⟩)
  have e : sumI (taken (parts b.vaults t)) = sumI (parts b.vaults t) := by
    have z := sum_taken (parts b.vaults t) [] (by exact List.nodup_nil)
    have z0 : sumI [] = 0 := rfl
    rw [z0] at z
    show sumI ((parts b.vaults t).foldl addTo []) = _
    rw [z]
    omega
  refine ⟨a1, a2, I.vn, I.vg, I.ve, ?_, ?_⟩
  · show sumI ((taken (parts b.vaults t)).foldl minusTo b.purses) + sumBy vmo b.vaults + (b.burnt + t.fee) = _
    have := I.tot
    rw [a3, e]
    omega
  · show (b.done ++ [(t.payer, t.tag)]).Nodup
    exact L2.nd_snoc I.dn r.new
theorem Inv.giv {b : Bk} {M k m : Int} (I : Inv b M) (h : 0 ≤ m) : Inv (giv b k m) (M + m) := by
  refine ⟨nd_put I.pn, fun p hp => ?_, I.vn, I.vg, I.ve, ?_, I.dn⟩
  · rcases mem_put hp with ⟨h3, _⟩ | e
    · exact I.pp p h3
    · rw [e]
      have := purse_pos I.pp k
      show 0 ≤ purse b.purses k + m
      omega
  · have := I.tot
    show sumI (putI b.purses k (purse b.purses k + m)) + sumBy vmo b.vaults + b.burnt = M + m
    rw [sum_putI I.pn]
    omega
theorem Inv.put {b : Bk} {M n : Int} {v : Addr} {d' : Vd} (I : Inv b M) (g : VGood d') (ne : ¬ n ∈ b.ended) : Inv { b with vaults := putI b.vaults n (v, d') } (M - ((getI b.vaults n).map vmo).getD 0 + d'.money) := by
  refine ⟨I.pn, I.pp, nd_put I.vn, fun p hp => ?_, fun p hp => ?_, ?_, I.dn⟩
  · rcases mem_put hp with ⟨h3, _⟩ | e
    · exact I.vg p h3
    · rw [e]
      exact g
  · rcases mem_put hp with ⟨h3, _⟩ | e
    · exact I.ve p h3
    · rw [e]
      exact ne
  · have := I.tot
    show sumI b.purses + sumBy vmo (putI b.vaults n (v, d')) + b.burnt = _
    rw [sum_put I.vn]
    show _ = M - ((getI b.vaults n).map vmo).getD 0 + vmo (v, d')
    omega
theorem Inv.drop {b : Bk} {M n : Int} {v : Addr} {d : Vd} (I : Inv b M) (g : getI b.vaults n = some (v, d)) : Inv { b with vaults := dropI b.vaults n, ended := b.ended ++ [n] } (M - d.money) := by
  refine ⟨I.pn, I.pp, nd_drop I.vn, fun p hp => I.vg p (mem_drop.mp hp).1, fun p hp => ?_, ?_, I.dn⟩
  · obtain ⟨h1, h2⟩ := mem_drop.mp hp
    intro z
    rcases List.mem_append.mp z with z | z
    · exact I.ve p h1 z
    · exact h2 (List.mem_singleton.mp z)
  · have := I.tot
    show sumI b.purses + sumBy vmo (dropI b.vaults n) + b.burnt = _
    rw [sum_drop I.vn g]
    show sumI b.purses + (sumBy vmo b.vaults - d.money) + b.burnt = _
    omega
theorem Inv.payd {b : Bk} {M n x : Int} {v : Addr} {d : Vd} {s : Sd} (I : Inv b M) (g : getI b.vaults n = some (v, d)) (hp : d.pub = some s) (hx : Share d s x) : Inv (payd b n d x) M := by
  have G : VGood d := I.vg _ (getI_mem g)
  have h2 := hx.2 (G.fr s hp) G.po
  have h1 := hx.1
  have J := ((I.drop g).giv (k := d.op.b) (m := d.money - x) (by omega)).giv (k := d.op.a) (m := x) h2
  have e : M - d.money + (d.money - x) + x = M := by omega
  rw [e] at J
  exact J
/-- what a step leaves as it must -/
structure Kept (b : Bk) (t : Thing) (b' : Bk) : Prop where
  dn : b'.done = b.done ++ [(t.payer, t.tag)]
  bu : b'.burnt = b.burnt + t.fee
  en : ∃ l, b'.ended = b.ended ++ l
  he : b'.height = b.height
  sm : ∀ n, Small b n → Small b' (n + 3)
theorem small_chdn {b : Bk} {t : Thing} {n : Nat} (h : Small b n) : Small (chdn b t) (n + 1) := by
  refine ⟨?_, Nat.le_succ_of_le h.va, Nat.le_succ_of_le h.re, Nat.le_succ_of_le h.en, ?_⟩
  · show ((taken (parts b.vaults t)).foldl minusTo b.purses).length ≤ n + 1
    rw [len_minuses]
    exact Nat.le_succ_of_le h.pu
  · show (b.done ++ [(t.payer, t.tag)]).length ≤ n + 1
    rw [List.length_append]
    exact Nat.succ_le_succ h.dn
theorem small_payd {b : Bk} {n : Nat} {k x : Int} {d : Vd} (h : Small b n) : Small (payd b k d x) (n + 2) := by
  have h0 : (putI (putI b.purses d.op.b (purse b.purses d.op.b + (d.money - x))) d.op.a (purse (putI b.purses d.op.b (purse b.purses d.op.b + (d.money - x))) d.op.a + x)).length ≤ n + 2 := by
    have h1 := len_put (k := d.op.b) (v := purse b.purses d.op.b + (d.money - x)) b.purses
    have h2 := len_put (k := d.op.a) (v := purse (putI b.purses d.op.b (purse b.purses d.op.b + (d.money - x))) d.op.a + x) (putI b.purses d.op.b (purse b.purses d.op.b + (d.money - x)))
    have := h.pu
    omega
  refine ⟨h0, ?_, ?_, ?_, ?_⟩
  · have h1 := len_drop (k := k) b.vaults
    have := h.va
    show (dropI b.vaults k).length ≤ n + 2
    omega
  · have := h.re
    show b.receipts.length ≤ n + 2
    omega
  · have := h.en
    show (b.ended ++ [k]).length ≤ n + 2
    rw [List.length_append]
    show b.ended.length + 1 ≤ n + 2
    omega
  · have := h.dn
    show b.done.length ≤ n + 2
    omega
theorem small_vset {b : Bk} {n : Nat} {k : Int} {v : Addr} {d d0 : Vd} {v0 : Addr} (h : Small b n) (g : getI b.vaults k = some (v0, d0)) : Small (vset b k v d) n := by
  refine ⟨h.pu, ?_, h.re, h.en, h.dn⟩
  show (putI b.vaults k (v, d)).length ≤ n
  rw [len_put_in (getI_some.mp ⟨_, g⟩)]
  exact h.va
theorem pubd_money {b : Bk} {d : Vd} {s : Sd} : (pubd b d s).money = d.money := rfl
theorem kept_vset {b : Bk} {t : Thing} {k : Int} {v v0 : Addr} {d d0 : Vd} (g : getI b.vaults k = some (v0, d0)) : Kept b t (vset (chdn b t) k v d) :=
  ⟨rfl, rfl, ⟨[], (List.append_nil _).symm⟩, rfl, fun n h => (small_vset (small_chdn h) (v0 := v0) (d0 := d0) g).le (by omega)⟩
theorem step_ok {b b' : Bk} {M : Int} {t : Thing} (I : Inv b M) (h : ThOk t) (r : Ready b t) (s : Stepd b t b') : Inv b' M ∧ Kept b t b' := by
  have J := I.chdn h r
  have ar := r.act
  have am := h.am
  have ao := h.act
  unfold Stepd at s
  have hp0 : ∀ l : Pm, sumI ((t.payer, t.fee) :: l) = t.fee + sumI l := fun l => sumI_cons _ _
  have e0 : sumI (parts b.vaults t) = t.fee + sumI (p1 t) + sumI (p2 t) + sumI (p3 b.vaults t) := by
    unfold parts
    have a1 : ∀ l l' : Pm, sumI (l ++ l') = sumI l + sumI l' := fun l l' => sum_app l l'
    rw [a1, a1, hp0]
  cases hact : t.act with
  | pay x m =>
    rw [hact] at s am
    dsimp only at s am
    subst s
    have e1 : p1 t = [(t.payer, m)] := by unfold p1; rw [hact]
    have e2 : p2 t = [] := by unfold p2; rw [hact]
    have e3 : p3 b.vaults t = [] := by unfold p3; rw [hact]
    rw [e1, e2, e3, sumI_cons] at e0
    have z0 : sumI ([] : Pm) = 0 := rfl
    rw [z0] at e0
    dsimp only at e0
    have J2 := J.giv (k := x) am
    have e : M - sumI (parts b.vaults t) + t.fee + m = M := by omega
    rw [e] at J2
    exact ⟨J2, rfl, rfl, ⟨[], (List.append_nil _).symm⟩, rfl, fun n h => (small_chdn h).giv.le (by omega)⟩
  | opn o =>
    rw [hact] at s ar am
    obtain ⟨v, rfl⟩ := s
    dsimp only at am
    obtain ⟨g, ne⟩ := ar
    have e1 : p1 t = [] := by unfold p1; rw [hact]
    have e2 : p2 t = [(o.a, o.fi), (o.b, o.si)] := by unfold p2; rw [hact]
    have e3 : p3 b.vaults t = [] := by unfold p3; rw [hact]
    rw [e1, e2, e3, sumI_cons, sumI_cons] at e0
    have z0 : sumI ([] : Pm) = 0 := rfl
    rw [z0] at e0
    dsimp only at e0
    have em : (newV o).money = o.fi + o.si := by
      show o.fi + o.si + 0 - 0 + 0 - 0 = o.fi + o.si
      omega
    have J2 := J.put (n := o.ch) (v := v) (d' := newV o) ⟨rfl, by rw [em]; omega, fun p hp => (by cases hp), fun p hp => (by cases hp)⟩ ne
    have eg : getI (chdn b t).vaults o.ch = none := g
    rw [eg, em] at J2
    have e : M - sumI (parts b.vaults t) + t.fee - ((none : Option (Addr × Vd)).map vmo).getD 0 + (o.fi + o.si) = M := by
      show M - sumI (parts b.vaults t) + t.fee - 0 + (o.fi + o.si) = M
      omega
    rw [e] at J2
    refine ⟨J2, rfl, rfl, ⟨[], (List.append_nil _).symm⟩, rfl, fun n h => ?_⟩
    have h2 := small_chdn (t := t) h
    refine ⟨Nat.le_trans h2.pu (by omega), ?_, Nat.le_trans h2.re (by omega), Nat.le_trans h2.en (by omega), Nat.le_trans h2.dn (by omega)⟩
    have h3 := len_put (k := o.ch) (v := (v, newV o)) b.vaults
    have := h.va
    show (putI b.vaults o.ch (v, newV o)).length ≤ n + 3
    omega
  | pub st =>
    rw [hact] at s ar ao
    obtain ⟨v, d, g, hb⟩ := s
    obtain ⟨v1, d1, g1, hf⟩ := ar
    rw [g] at g1
    have ed := Option.some.inj g1
    obtain ⟨rfl, rfl⟩ : v = v1 ∧ d = d1 := ⟨congrArg Prod.fst ed, congrArg Prod.snd ed⟩
    have e1 : p1 t = [] := by unfold p1; rw [hact]
    have e2 : p2 t = [] := by unfold p2; rw [hact]
    have e3 : p3 b.vaults t = [] := by unfold p3; rw [hact]
    rw [e1, e2, e3] at e0
    have z0 : sumI ([] : Pm) = 0 := rfl
    rw [z0] at e0
    have G : VGood d := I.vg _ (getI_mem g)
    have G2 : VGood (pubd (chdn b t) d st) := by
      refine ⟨G.mo, G.po, fun p hp => ?_, fun p hp => ?_⟩
      · cases hp
        refine ⟨?_, ao⟩
        cases hpub : d.pub with
        | none => exact ⟨b.height, by unfold pubd; rw [hpub]; rfl⟩
        | some s' =>
          obtain ⟨⟨i, hi⟩, _⟩ := G.ok s' hpub
          exact ⟨i, by unfold pubd; rw [hpub]; exact hi⟩
      · cases hp
        exact hf
    have J2 := J.put (n := st.ch) (v := v) (d' := pubd (chdn b t) d st) G2 (I.ve _ (getI_mem g))
    have eg : getI (chdn b t).vaults st.ch = some (v, d) := g
    rw [eg] at J2
    have e : M - sumI (parts b.vaults t) + t.fee - ((some (v, d) : Option (Addr × Vd)).map vmo).getD 0 + (pubd (chdn b t) d st).money = M := by
      show M - sumI (parts b.vaults t) + t.fee - d.money + d.money = M
      omega
    rw [e] at J2
    rcases hb with ⟨_, rfl⟩ | ⟨_, x, hx, rfl⟩
    · exact ⟨J2, kept_vset g⟩
    · refine ⟨J2.payd (get_vset (b := chdn b t)) rfl hx, rfl, rfl, ⟨[st.ch], rfl⟩, rfl, fun n h => ?_⟩
      exact small_payd (small_vset (small_chdn h) eg)
  | set_ c =>
    rw [hact] at s
    obtain ⟨v, d, st, x, g, hp, hx, rfl⟩ := s
    have e1 : p1 t = [] := by unfold p1; rw [hact]
    have e2 : p2 t = [] := by unfold p2; rw [hact]
    have e3 : p3 b.vaults t = [] := by unfold p3; rw [hact]
    rw [e1, e2, e3] at e0
    have z0 : sumI ([] : Pm) = 0 := rfl
    rw [z0] at e0
    have e : M - sumI (parts b.vaults t) + t.fee = M := by omega
    rw [e] at J
    exact ⟨J.payd (show getI (Tk.chdn b t).vaults c = some (v, d) from g) hp hx, rfl, rfl, ⟨[c], rfl⟩, rfl, fun n h => small_payd (small_chdn h)⟩
  | spl sp =>
    rw [hact] at s ar am
    obtain ⟨v, d, g, rfl⟩ := s
    obtain ⟨v1, d1, g1, hf, hpn⟩ := ar
    rw [g] at g1
    have ed := Option.some.inj g1
    obtain ⟨rfl, rfl⟩ : v = v1 ∧ d = d1 := ⟨congrArg Prod.fst ed, congrArg Prod.snd ed⟩
    dsimp only at am
    obtain ⟨am1, am2, am3, am4⟩ := am
    have e1 : p1 t = [] := by unfold p1; rw [hact]
    have e2 : p2 t = [] := by unfold p2; rw [hact]
    have e3 : p3 b.vaults t = [(d.op.a, sp.i1), (d.op.b, sp.i2)] := by
      unfold p3
      rw [hact]
      dsimp only
      rw [g]
    rw [e1, e2, e3, sumI_cons, sumI_cons] at e0
    have z0 : sumI ([] : Pm) = 0 := rfl
    rw [z0] at e0
    dsimp only at e0
    have G : VGood d := I.vg _ (getI_mem g)
    have em : (spld d sp).money = d.money + sp.i1 + sp.i2 - sp.o1 - sp.o2 := rfl
    have G2 : VGood (spld d sp) := by
      refine ⟨?_, ?_, fun p hp => ?_, fun p hp => ?_⟩
      · have := G.mo
        unfold mon at this
        show d.money + sp.i1 + sp.i2 - sp.o1 - sp.o2 = d.op.fi + d.op.si + (d.sums.s0 + sp.i1) - (d.sums.s1 + sp.o1) + (d.sums.s2 + sp.i2) - (d.sums.s3 + sp.o2)
        omega
      · rw [em]
        omega
      · have hp' : d.pub = some p := hp
        rw [hpn] at hp'
        cases hp'
      · have hp' : d.pub = some p := hp
        rw [hpn] at hp'
        cases hp'
    have J2 := J.put (n := sp.ch) (v := v) (d' := spld d sp) G2 (I.ve _ (getI_mem g))
    have eg : getI (Tk.chdn b t).vaults sp.ch = some (v, d) := g
    rw [eg, em] at J2
    have J3 := (J2.giv (k := d.op.b) am4).giv (k := d.op.a) am3
    have e : M - sumI (parts b.vaults t) + t.fee - ((some (v, d) : Option (Addr × Vd)).map vmo).getD 0 + (d.money + sp.i1 + sp.i2 - sp.o1 - sp.o2) + sp.o2 + sp.o1 = M := by
      show M - sumI (parts b.vaults t) + t.fee - d.money + (d.money + sp.i1 + sp.i2 - sp.o1 - sp.o2) + sp.o2 + sp.o1 = M
      omega
    rw [e] at J3
    refine ⟨J3, rfl, rfl, ⟨[], (List.append_nil _).symm⟩, rfl, fun n h => ?_⟩
    exact (small_vset (small_chdn h) eg).giv.giv
  | rev x =>
    rw [hact] at s
    obtain ⟨k, rfl⟩ := s
    have e1 : p1 t = [] := by unfold p1; rw [hact]
    have e2 : p2 t = [] := by unfold p2; rw [hact]
    have e3 : p3 b.vaults t = [] := by unfold p3; rw [hact]
    rw [e1, e2, e3] at e0
    have z0 : sumI ([] : Pm) = 0 := rfl
    rw [z0] at e0
    have e : M - sumI (parts b.vaults t) + t.fee = M := by omega
    rw [e] at J
    refine ⟨⟨J.pn, J.pp, J.vn, J.vg, J.ve, J.tot, J.dn⟩, rfl, rfl, ⟨[], (List.append_nil _).symm⟩, rfl, fun n h => ?_⟩
    have h2 := small_chdn (t := t) h
    refine ⟨Nat.le_trans h2.pu (by omega), Nat.le_trans h2.va (by omega), ?_, Nat.le_trans h2.en (by omega), Nat.le_trans h2.dn (by omega)⟩
    have h3 := len_put (k := k) (v := b.height) b.receipts
    have := h.re
    show (putI b.receipts k b.height).length ≤ n + 3
    omega
end Tk
/-! The money held; the purses checked; a new book. -/
namespace Tk
open PySem PySem.Spec PyProof.Rows L2
local macro_rules | `(tactic| walk_at "vl") => `(tactic| first
  | ((with_reducible refine' val_var ?a1); (case a1 => rfl))
  | ((with_reducible refine' val_c))
  | ((with_reducible refine' f_Vault_opening ?a1 ?a2 ?a3); (case a1 => assumption); (case a2 => walk_at "vl"); (case a3 => assumption))
  | ((with_reducible refine' f_Vault_money ?a1 ?a2 ?a3); (case a1 => assumption); (case a2 => walk_at "vl"); (case a3 => assumption))
  | ((with_reducible refine' f_Vault_sums ?a1 ?a2 ?a3); (case a1 => assumption); (case a2 => walk_at "vl"); (case a3 => assumption))
  | ((with_reducible refine' f_Vault_splices ?a1 ?a2 ?a3); (case a1 => assumption); (case a2 => walk_at "vl"); (case a3 => assumption))
  | ((with_reducible refine' f_Vault_least ?a1 ?a2 ?a3); (case a1 => assumption); (case a2 => walk_at "vl"); (case a3 => assumption))
  | ((with_reducible refine' f_Vault_published ?a1 ?a2 ?a3); (case a1 => assumption); (case a2 => walk_at "vl"); (case a3 => assumption))
  | ((with_reducible refine' f_Vault_since ?a1 ?a2 ?a3); (case a1 => assumption); (case a2 => walk_at "vl"); (case a3 => assumption))
  | ((with_reducible refine' f_Book_purses ?a1 ?a2 ?a3); (case a1 => assumption); (case a2 => walk_at "vl"); (case a3 => assumption))
  | ((with_reducible refine' f_Book_vaults ?a1 ?a2 ?a3); (case a1 => assumption); (case a2 => walk_at "vl"); (case a3 => assumption))
  | ((with_reducible refine' f_Book_receipts ?a1 ?a2 ?a3); (case a1 => assumption); (case a2 => walk_at "vl"); (case a3 => assumption))
  | ((with_reducible refine' f_Book_ended ?a1 ?a2 ?a3); (case a1 => assumption); (case a2 => walk_at "vl"); (case a3 => assumption))
  | ((with_reducible refine' f_Book_done ?a1 ?a2 ?a3); (case a1 => assumption); (case a2 => walk_at "vl"); (case a3 => assumption))
  | ((with_reducible refine' f_Book_height ?a1 ?a2 ?a3); (case a1 => assumption); (case a2 => walk_at "vl"); (case a3 => assumption))
  | ((with_reducible refine' f_Book_burnt ?a1 ?a2 ?a3); (case a1 => assumption); (case a2 => walk_at "vl"); (case a3 => assumption))
  | ((with_reducible refine' f_Ledger_book ?a1 ?a2 ?a3); (case a1 => assumption); (case a2 => walk_at "vl"); (case a3 => assumption))
  | ((with_reducible refine' f_Ledger_room ?a1 ?a2 ?a3); (case a1 => assumption); (case a2 => walk_at "vl"); (case a3 => assumption))
  | ((with_reducible refine' f_Ledger_waiting ?a1 ?a2 ?a3); (case a1 => assumption); (case a2 => walk_at "vl"); (case a3 => assumption))
  | ((with_reducible refine' v_ix ?a1 ?a2 ?a3 ?a4); (case a1 => walk_at "vl"); (case a2 => walk_at "vl"); (case a3 => assumption); (case a4 => rfl))
  | ((with_reducible refine' v_I0 ?a1 ?a2); (case a1 => walk_at "vl"); (case a2 => walk_at "vl"))
  | ((with_reducible refine' v_isN ?a1); (case a1 => walk_at "vl"))
  | ((with_reducible refine' v_notN ?a1); (case a1 => walk_at "vl"))
  | ((with_reducible refine' v_int1 ?a1); (case a1 => walk_at "vl"))
  | ((with_reducible refine' v_eq ?a1 ?a2 ?a3); (case a1 => walk_at "vl"); (case a2 => walk_at "vl"); (case a3 => rfl))
  | ((with_reducible refine' v_ne ?a1 ?a2 ?a3); (case a1 => walk_at "vl"); (case a2 => walk_at "vl"); (case a3 => rfl))
  | ((with_reducible refine' v_max2 ?a1 ?a2); (case a1 => walk_at "vl"); (case a2 => walk_at "vl"))
  | ((with_reducible refine' v_min2 ?a1 ?a2); (case a1 => walk_at "vl"); (case a2 => walk_at "vl")))
local macro_rules | `(tactic| walk_at "va") => `(tactic| first
  | (with_reducible exact va_nil)
  | ((with_reducible refine' va_cons ?a1 ?a2); (case a1 => walk_at "vl"); (case a2 => walk_at "va")))

section
variable {K : PySem.W.Frag} {σ : L2.St} {H H0 : Hp} {te td tl : TE} {i j : Nat} {Q : VK} {a d : Addr} {xs : List V} {vs : List Nat} {as : List Addr} {ps : List (Int × Int)} (Acc : Nat → List V → Prop)
theorem q_lcP (h : Val tl σ H (.ref a)) (ht : H a = some (.lst (as.map V.ref))) (hp : PairsAt K H as ps) (hx : ps.length ≤ 10000) (hw : ∀ x y, wipe (((wipe σ vs).set i (some x)).set j (some y)) vs = wipe σ vs) (a0 : Acc 0 [])
    (hs : ∀ n p H' acc, ps[n]? = some p → Ex H H' → Acc n acc → ValN te (((wipe σ vs).set i (some (.int p.1))).set j (some (.int p.2))) H' fun y _ => Acc (n + 1) (acc ++ [y]))
    (hd : ∀ p H' acc, Ex H H' → H p = none → H' p = some (.lst acc) → acc.length = ps.length → Acc ps.length acc → Q (.ref p) H') : tLc (iList K tl) (gTup K 2 (gCons (gName i) (gCons (gName j) gNil))) tYes te vs σ H Q :=
  h _ ⟨a, rfl, ⟨_, SqL.of ht⟩, fun D hD => lc_list (xs := as.map V.ref) (LcW Acc H D) ⟨hD, [], Evl.Ex.new hD, upd_same, rfl, a0⟩ (fun n H' _ ⟨_, acc, e, _⟩ => SqL.of (e _ _ ht)) (fun n x H' hi w => by
    obtain ⟨b, hb, rfl⟩ := at_ref hi
    obtain ⟨p, hp2⟩ : ∃ p, ps[n]? = some p := by
      have := (List.getElem?_eq_some_iff.mp hb).1
      exact ⟨ps[n]'(by rw [← hp.1]; exact this), List.getElem?_eq_getElem _⟩
    obtain ⟨hD, acc0, e0, _⟩ := id w
    refine g_tup2 ((hp.2 n b p hb hp2).ex e0).t ?_
    refine ⟨hw _ _, w.go (n := ps.length) (List.getElem?_eq_some_iff.mp hp2).1 (by omega) fun acc e q => hs n p H' acc hp2 e q⟩) fun H' ⟨hD, acc, e, h1, h2, h3⟩ => by
      have el : (as.map V.ref).length = ps.length := by rw [List.length_map, hp.1]
      rw [el] at h2 h3
      exact hd D H' acc e hD h1 h2 h3⟩
theorem q_lcL (h : Val tl σ H (.ref a)) (ht : H a = some (.lst xs)) (hx : xs.length ≤ 10000) (hw : ∀ x, wipe ((wipe σ [j]).set j (some x)) [j] = wipe σ [j]) (a0 : Acc 0 [])
    (hs : ∀ (i : Nat) x H' acc, xs[i]? = some x → Ex H H' → Acc i acc → ValN te ((wipe σ [j]).set j (some x)) H' fun y _ => Acc (i + 1) (acc ++ [y]))
    (hd : ∀ p H' acc, Ex H H' → H p = none → H' p = some (.lst acc) → acc.length = xs.length → Acc xs.length acc → Q (.ref p) H') : tLc (iList K tl) (gName j) tYes te [j] σ H Q :=
  h _ ⟨a, rfl, ⟨xs, SqL.of ht⟩, fun D hD => lc_list (xs := xs) (LcW Acc H D) ⟨hD, [], Evl.Ex.new hD, upd_same, rfl, a0⟩ (fun i H' _ ⟨_, acc, e, _⟩ => SqL.of (e _ _ ht)) (fun i x H' hi w =>
    ⟨hw _, w.go (n := xs.length) (List.getElem?_eq_some_iff.mp hi).1 (by omega) fun acc e q => hs i x H' acc hi e q⟩) fun H' ⟨hD, acc, e, h1, h2, h3⟩ => hd D H' acc e hD h1 h2 h3⟩
end
theorem q_chain {r r' : R2} {ta tb tc : TE} {σ : L2.St} {H : Hp} {Q : VK} (h : ta σ H fun x H1 => tb σ H1 fun y H2 => r x y H2 fun z H3 => ∃ k, z = .bl k ∧ (if k = true then tc σ H3 fun w' H4 => r' y w' H4 Q else Q (.bl false) H3)) : tChain r r' ta tb tc σ H Q := h
def spSumOfMoney (K : PySem.W.Frag) : Sp := fun vs H Q _ => ∃ (A : Ad) (b : Bk), vs = [.ref A.bk] ∧ BookAt K H A b ∧ Small b 9000 ∧ (keys b.purses).Nodup ∧ (keys b.vaults).Nodup ∧ ∀ H', Ex H H' → Q (.int (sumI b.purses + sumBy vmo b.vaults)) H'
def three (x y z : Int) : List (Int × Int) := [(1, x), (2, y), (3, z)]
def Mid (x : Int) : Prop := 0 ≤ x ∧ x ≤ 100
def spCheckPurses (K : PySem.W.Frag) : Sp := fun vs H Q _ => ∃ (a : Addr) (as : List Addr) (x y z : Int), vs = [.ref a] ∧ H a = some (.lst (as.map V.ref)) ∧ PairsAt K H as (three x y z) ∧ Mid x ∧ Mid y ∧ Mid z ∧ ∀ H', Ex H H' → Q .non H'
def book0 (ps : Pm) : Bk := ⟨ps, [], [], [], [], 0, 0⟩
def spBookInit (K : PySem.W.Frag) : Sp := fun vs H Q _ => ∃ (x dx a : Addr) (as : List Addr) (ps : List (Int × Int)), vs = [.ref x, .ref a] ∧ H x = some (.ins (He.ga K "Book") dx []) ∧ H a = some (.lst (as.map V.ref)) ∧ PairsAt K H as ps ∧ ps.length ≤ 100 ∧
  ∀ H' (A : Ad), A.bk = x → (∀ c o, H c = some o → c ≠ x → H' c = some o) → (∀ c, InBk A c → c = x ∨ H c = none) → BookAt K H' A (book0 (ps.foldl (fun l p => putI l p.1 p.2) [])) → Q .non H'
section
variable {P : Program} {w : World} {K : PySem.W.Frag} {mg : Str → Option Value} {base : Heap}
theorem ok_sum_of_money (T : Txt K mg) : HasM P w K mg base "Book" "sum_of_money" 1 ["self"] (spSumOfMoney K) := by
  refine hasM (st := s_Book_sum_of_money) T.f_Book_sum_of_money T.c_Book T.m_Book_sum_of_money sc_Book_sum_of_money (fun _ _ _ _ _ _ us hl => match us, hl with | [_], _ => rfl) (fun vs H Q E h => ?_) (fun f cdv A0 outer s H vs Q E hr h => ?_)
  · obtain ⟨A, b, rfl, _⟩ := h
    rfl
  · obtain ⟨A, b, rfl, B, sm, hn1, hn2, k⟩ := h
    obtain ⟨dx, o1⟩ := B.ob
    refine ⟨_, (pss_cons (ps_set (i := 1) sc_Book_sum_of_money.nd rfl (by first | exact Or.inl rfl | exact Or.inr rfl) (pe_callB (cr_sum rfl) (by rfl) T.z_sum (by decide +kernel) (pa_cons (pe_lock (pe_lc (own := [("party", 2)]) (g := gName 2) rfl sc_Book_sum_of_money.nd (pi_keys (pe_fldK (K := K) rfl (pv 0) rfl)) (blkOk_by (N := N_Book_sum_of_money) (sc := defScope s_Book_sum_of_money) (by decide +kernel)) (fun _ _ _ _ _ => (pg_name (i := 2) sc_Book_sum_of_money.nd rfl (by first | exact Or.inl rfl | exact Or.inr rfl))) (fun _ _ _ _ _ => pts_nil) (fun _ _ _ _ _ => (pe_dget (hu_of hr) (pe_fldK (K := K) rfl (pv 0) rfl) (pv 2) (fun _ _ => rfl))))) pa_nil)))
      (pss_one (ps_ret (pe_op op_add (pv 1) (pe_callB (cr_sum rfl) (by rfl) T.z_sum (by decide +kernel) (pa_cons (pe_lock (pe_lc (own := [("number", 3)]) (g := gName 3) rfl sc_Book_sum_of_money.nd (pi_keys (pe_fldK (K := K) rfl (pv 0) rfl)) (blkOk_by (N := N_Book_sum_of_money) (sc := defScope s_Book_sum_of_money) (by decide +kernel)) (fun _ _ _ _ _ => (pg_name (i := 3) sc_Book_sum_of_money.nd rfl (by first | exact Or.inl rfl | exact Or.inr rfl))) (fun _ _ _ _ _ => pts_nil) (fun _ _ _ _ _ => (pe_fldK (K := K) rfl (pe_dget (hu_of hr) (pe_fldK (K := K) rfl (pv 0) rfl) (pv 3) (fun _ _ => rfl)) rfl)))) pa_nil)))))), ?_⟩
    refine q_asg (q_cb (q_consG ?_))
    have nk : A.bk ≠ A.pd := neH o1 B.pu fun z => by cases z
    refine q_lcK (g := V.int) (fun i acc => acc = (b.purses.take i).map fun p => V.int p.2) B.pu (fun od => ?_) (by have := sm.pu; omega) (fun _ => rfl) rfl (fun od i p H' acc hp e' ha => ?_) (fun q H1 acc e1 hq1 hq2 _ ha => ?_)
    · have o2 : upd H A.pd (.frz od (.dK (dk V.int b.purses))) A.bk = some (.ins (He.ga K "Book") dx (bF A.pd A.vd A.rd A.el A.dl b.height b.burnt)) := by rw [upd_ne nk]; exact o1
      walk_at "vl"
    · have o2 := e' A.bk _ (show upd H A.pd (.frz od (.dK (dk V.int b.purses))) A.bk = some (.ins (He.ga K "Book") dx (bF A.pd A.vd A.rd A.el A.dl b.height b.burnt)) by rw [upd_ne nk]; exact o1)
      have ld := e' A.pd _ (show upd H A.pd (.frz od (.dK (dk V.int b.purses))) A.pd = _ from upd_same)
      have hg : getI b.purses p.1 = some p.2 := getI_of_mem hn1 (by exact List.mem_of_getElem? hp)
      intro Q2 hQ2
      refine' go (v_dgetF (g := V.int) (k := p.1) (v := p.2) (by walk_at "vl") (val_var rfl) ld hg) (hQ2 _ _ (Evl.Ex.refl _) ?_)
      rw [ha, List.take_add_one, hp, List.map_append]
      rfl
    · rw [List.take_length] at ha
      have ea : acc = (b.purses.map (·.2)).map V.int := by rw [ha, List.map_map]; rfl
      refine q_nil ⟨q, b.purses.map (·.2), rfl, SqL.of (by rw [← ea]; exact hq2), ?_⟩
      have B1 := B.ex e1
      obtain ⟨dx1, o1'⟩ := B1.ob
      clear o1 nk
      refine s_ret (q_opG (go (v := .int (sumI b.purses)) (val_var rfl) ?_))
      refine q_cb (q_consG ?_)
      have nk : A.bk ≠ A.vd := neH o1' B1.va fun z => by cases z
      refine q_lcK (g := vR) (fun i acc => acc = (b.vaults.take i).map fun p => V.int (vmo p.2)) B1.va (fun od => ?_) (by have := sm.va; omega) (fun _ => rfl) rfl (fun od i p H' acc hp e' ha => ?_) (fun q H2 acc e2 hq1 hq2 _ ha => ?_)
      · have o2 : upd H1 A.vd (.frz od (.dK (dk vR b.vaults))) A.bk = some (.ins (He.ga K "Book") dx1 (bF A.pd A.vd A.rd A.el A.dl b.height b.burnt)) := by rw [upd_ne nk]; exact o1'
        walk_at "vl"
      · have o2 := e' A.bk _ (show upd H1 A.vd (.frz od (.dK (dk vR b.vaults))) A.bk = some (.ins (He.ga K "Book") dx1 (bF A.pd A.vd A.rd A.el A.dl b.height b.burnt)) by rw [upd_ne nk]; exact o1')
        have ld := e' A.vd _ (show upd H1 A.vd (.frz od (.dK (dk vR b.vaults))) A.vd = _ from upd_same)
        have hg : getI b.vaults p.1 = some p.2 := getI_of_mem hn2 (by exact List.mem_of_getElem? hp)
        have hV := B1.vs p (List.mem_of_getElem? hp)
        obtain ⟨dxv, oa, sa, pq, o3, _⟩ := hV.at_
        have o4 := e' p.2.1 _ (show upd H1 A.vd (.frz od (.dK (dk vR b.vaults))) p.2.1 = _ by rw [upd_ne (hV.ne B1.va nvl_dK)]; exact o3)
        intro Q2 hQ2
        refine' go (f_Vault_money T (v_dgetF (g := vR) (k := p.1) (v := p.2) (by walk_at "vl") (val_var rfl) ld hg) o4) (hQ2 _ _ (Evl.Ex.refl _) ?_)
        rw [ha, List.take_add_one, hp, List.map_append]
        rfl
      · rw [List.take_length] at ha
        have ea2 : acc = (b.vaults.map fun p => vmo p.2).map V.int := by rw [ha, List.map_map]; rfl
        refine q_nil ⟨q, b.vaults.map fun p => vmo p.2, rfl, SqL.of (by rw [← ea2]; exact hq2), ?_⟩
        exact ⟨_, _, rfl, rfl, k _ (e1.trans e2)⟩
theorem ok_check_purses (T : Txt K mg) : HasF P w K mg base "check_purses" 1 ["purses"] (spCheckPurses K) := by
  refine hasF (st := s_check_purses) T.f_check_purses T.g_check_purses sc_check_purses (fun _ _ _ _ _ _ us hl => match us, hl with | [_], _ => rfl) (fun vs H Q E h => ?_) (fun f cdv A0 outer s H vs Q E hr h => ?_)
  · obtain ⟨a, as, x, y, z, rfl, _⟩ := h
    rfl
  · obtain ⟨a, as, x, y, z, rfl, h1, h2, hx, hy, hz, k⟩ := h
    refine ⟨_, (pss_cons (ps_setLc (i := 1) (own := [("party", 3), ("_", 4)]) (g := gTup K 2 (gCons (gName 3) (gCons (gName 4) gNil))) rfl sc_check_purses.nd rfl rfl (sw_true rfl rfl rfl (by decide +kernel)) (pi_list (pv 0)) (blkOk_by (N := N_check_purses) (sc := defScope s_check_purses) (by decide +kernel)) (fun _ _ _ _ _ => (pg_tup rfl (pgs_cons (pg_name (i := 3) sc_check_purses.nd rfl (by first | exact Or.inl rfl | exact Or.inr rfl)) (pgs_cons (pg_name (i := 4) sc_check_purses.nd rfl (by first | exact Or.inl rfl | exact Or.inr rfl)) pgs_nil)))) (fun _ _ _ _ _ => pts_nil) (fun _ _ _ _ _ => (pv 3)))
      (pss_cons (ps_setLc (i := 2) (own := [("_", 4), ("amount", 5)]) (g := gTup K 2 (gCons (gName 4) (gCons (gName 5) gNil))) rfl sc_check_purses.nd rfl rfl (sw_true rfl rfl rfl (by decide +kernel)) (pi_list (pv 0)) (blkOk_by (N := N_check_purses) (sc := defScope s_check_purses) (by decide +kernel)) (fun _ _ _ _ _ => (pg_tup rfl (pgs_cons (pg_name (i := 4) sc_check_purses.nd rfl (by first | exact Or.inl rfl | exact Or.inr rfl)) (pgs_cons (pg_name (i := 5) sc_check_purses.nd rfl (by first | exact Or.inl rfl | exact Or.inr rfl)) pgs_nil)))) (fun _ _ _ _ _ => pts_nil) (fun _ _ _ _ _ => (pv 5)))
      (pss_cons (ps_if (PW.pt (pw_or (pt_cmpR op_gt (pe_callB call_len_seq (by rfl) T.z_len (by decide +kernel) (pa_cons (pv 0) pa_nil)) (pe_gi T.i_MOST_PURSES) (nomark _)) (pw_or1 (pt_cmpR op_ne (RZ.pe_lenSetI (by rfl) T.z_len (by rfl) T.z_set (pv 1)) (pe_callB call_len_seq (by rfl) T.z_len (by decide +kernel) (pa_cons (pv 1) pa_nil)) (nomark _))))) (pss_one ps_never) pss_nil)
      (pss_cons (ps_if (pt_not (pt_val (pe_callB (cr_all rfl) (by rfl) T.z_all (by decide +kernel) (pa_cons (pe_lc (own := [("amount", 5)]) (g := gName 5) rfl sc_check_purses.nd (pi_list (pv 2)) (blkOk_by (N := N_check_purses) (sc := defScope s_check_purses) (by decide +kernel)) (fun _ _ _ _ _ => (pg_name (i := 5) sc_check_purses.nd rfl (by first | exact Or.inl rfl | exact Or.inr rfl))) (fun _ _ _ _ _ => pts_nil) (fun _ _ _ _ _ => (pe_chain op_le op_le pe_int (pv 5) (pe_gi T.i_MOST_MONEY)))) pa_nil)))) (pss_one ps_never) pss_nil)
      (pss_one (ps_if (pt_cmpR op_gt (pe_callB (cr_sum rfl) (by rfl) T.z_sum (by decide +kernel) (pa_cons (pv 2) pa_nil)) (pe_gi T.i_MOST_MONEY) (nomark _)) (pss_one ps_never) pss_nil)))))), ?_⟩
    refine q_asg ?_
    refine q_lcP (fun i acc => acc = ((three x y z).take i).map fun p => V.int p.1) (val_var rfl) h1 h2 (by show 3 ≤ 10000; decide) (fun _ _ => rfl) rfl (fun n p H' acc hp e' ha => ?_) (fun q1 H1 acc1 e1 hq1 hq2 _ ha1 => ?_)
    · intro Q2 hQ2
      refine go (val_var rfl) (hQ2 _ _ (Evl.Ex.refl _) ?_)
      rw [ha, List.take_add_one, hp, List.map_append]
      rfl
    have ea1 : acc1 = ([1, 2, 3] : List Int).map V.int := ha1
    rw [ea1] at hq2
    have h1' := e1 _ _ h1
    have h2' := h2.ty (ex_ty e1)
    refine q_asg ?_
    refine q_lcP (fun i acc => acc = ((three x y z).take i).map fun p => V.int p.2) (val_var rfl) h1' h2' (by show 3 ≤ 10000; decide) (fun _ _ => rfl) rfl (fun n p H' acc hp e' ha => ?_) (fun q2 H2 acc2 e2 hr1 hr2 _ ha2 => ?_)
    · intro Q2 hQ2
      refine go (val_var rfl) (hQ2 _ _ (Evl.Ex.refl _) ?_)
      rw [ha, List.take_add_one, hp, List.map_append]
      rfl
    have ea2 : acc2 = ([x, y, z] : List Int).map V.int := ha2
    rw [ea2] at hr2
    have hq3 := e2 _ _ hq2
    have h1'' := e2 _ _ h1'
    -- too many
    refine q_ifA (b := false) ?_ (fun z => by cases z) (fun _ => n_next ?_)
    · refine v_is' (b := false || false) (a_or2 ?_ (fun _ => ?_)) rfl
      · refine v_is' (a_val (v_I0 (v_len (p := a) (val_var rfl) (.inl (SqL.of h1''))) val_c)) ?_
        rw [List.length_map, h2.1]
        exact decide_eq_false (by show ¬ (3 : Int) > 50; decide)
      · refine v_is' (a_val (v_ne (x := .int 3) (y := .int 3) (fun Q' q => ?_) (v_is (v_len (p := q1) (val_var rfl) (.inl (SqL.of hq3))) rfl) rfl)) (by decide)
        exact (val_var (v := .ref q1) rfl) _ ⟨q1, [1, 2, 3], rfl, SqL.of hq3, by decide, by decide, q⟩
    -- bounds
    refine q_if (q_notT (q_BT (q_cb (q_consG ?_))))
    refine q_lcL (fun i acc => acc = List.replicate i (V.bl true)) (val_var rfl) hr2 (by show 3 ≤ 10000; decide) (fun _ => rfl) rfl (fun i v H' acc hv e' ha => ?_) (fun q3 H3 acc3 e3 hs1 hs2 _ ha3 => ?_)
    · obtain ⟨m, rfl, hm⟩ : ∃ m, v = V.int m ∧ Mid m := by
        match i, hv with
        | 0, hv => exact ⟨x, (Option.some.inj hv).symm, hx⟩
        | 1, hv => exact ⟨y, (Option.some.inj hv).symm, hy⟩
        | 2, hv => exact ⟨z, (Option.some.inj hv).symm, hz⟩
        | n + 3, hv => cases hv
      intro Q2 hQ2
      refine q_chain (go val_c (go (val_var rfl) ⟨_, _, rfl, rfl, _, rfl, ?_⟩))
      rw [decide_eq_true hm.1]
      refine if_t (go val_c ⟨_, _, rfl, rfl, hQ2 _ _ (Evl.Ex.refl _) ?_⟩)
      have h100 := hm.2
      dsimp only
      rw [decide_eq_true (by omega : m ≤ 1000000000000000), ha, List.replicate_succ']
    rw [ha3] at hs2
    refine q_nil ⟨q3, [true, true, true], rfl, SqL.of hs2, _, rfl, if_f (n_next ?_)⟩
    -- the sum
    refine s_if ?_
    refine q_testT (q_opG (q_cb (q_consG (go (val_var rfl) (q_nil ⟨q2, [x, y, z], rfl, SqL.of (e3 _ _ hr2), ?_⟩)))))
    refine go val_c ⟨_, _, rfl, rfl, _, rfl, ?_⟩
    have es : ([x, y, z] : List Int).sum = x + (y + (z + 0)) := by simp only [List.sum_cons, List.sum_nil]
    rw [es, decide_eq_false (by have := hx.2; have := hy.2; have := hz.2; omega)]
    exact if_f (k _ (e1.trans (e2.trans e3)))
end
end Tk
/-! A new book, a new ledger; what is read of a ledger; a thing offered. -/
namespace Tk
open PySem PySem.Spec PyProof.Rows L2
local macro_rules | `(tactic| walk_at "vl") => `(tactic| first
  | ((with_reducible refine' val_var ?a1); (case a1 => rfl))
  | ((with_reducible refine' val_c))
  | ((with_reducible refine' f_Vault_opening ?a1 ?a2 ?a3); (case a1 => assumption); (case a2 => walk_at "vl"); (case a3 => assumption))
  | ((with_reducible refine' f_Vault_money ?a1 ?a2 ?a3); (case a1 => assumption); (case a2 => walk_at "vl"); (case a3 => assumption))
  | ((with_reducible refine' f_Vault_sums ?a1 ?a2 ?a3); (case a1 => assumption); (case a2 => walk_at "vl"); (case a3 => assumption))
  | ((with_reducible refine' f_Vault_splices ?a1 ?a2 ?a3); (case a1 => assumption); (case a2 => walk_at "vl"); (case a3 => assumption))
  | ((with_reducible refine' f_Vault_least ?a1 ?a2 ?a3); (case a1 => assumption); (case a2 => walk_at "vl"); (case a3 => assumption))
  | ((with_reducible refine' f_Vault_published ?a1 ?a2 ?a3); (case a1 => assumption); (case a2 => walk_at "vl"); (case a3 => assumption))
  | ((with_reducible refine' f_Vault_since ?a1 ?a2 ?a3); (case a1 => assumption); (case a2 => walk_at "vl"); (case a3 => assumption))
  | ((with_reducible refine' f_Book_purses ?a1 ?a2 ?a3); (case a1 => assumption); (case a2 => walk_at "vl"); (case a3 => assumption))
  | ((with_reducible refine' f_Book_vaults ?a1 ?a2 ?a3); (case a1 => assumption); (case a2 => walk_at "vl"); (case a3 => assumption))
  | ((with_reducible refine' f_Book_receipts ?a1 ?a2 ?a3); (case a1 => assumption); (case a2 => walk_at "vl"); (case a3 => assumption))
  | ((with_reducible refine' f_Book_ended ?a1 ?a2 ?a3); (case a1 => assumption); (case a2 => walk_at "vl"); (case a3 => assumption))
  | ((with_reducible refine' f_Book_done ?a1 ?a2 ?a3); (case a1 => assumption); (case a2 => walk_at "vl"); (case a3 => assumption))
  | ((with_reducible refine' f_Book_height ?a1 ?a2 ?a3); (case a1 => assumption); (case a2 => walk_at "vl"); (case a3 => assumption))
  | ((with_reducible refine' f_Book_burnt ?a1 ?a2 ?a3); (case a1 => assumption); (case a2 => walk_at "vl"); (case a3 => assumption))
  | ((with_reducible refine' f_Ledger_book ?a1 ?a2 ?a3); (case a1 => assumption); (case a2 => walk_at "vl"); (case a3 => assumption))
  | ((with_reducible refine' f_Ledger_room ?a1 ?a2 ?a3); (case a1 => assumption); (case a2 => walk_at "vl"); (case a3 => assumption))
  | ((with_reducible refine' f_Ledger_waiting ?a1 ?a2 ?a3); (case a1 => assumption); (case a2 => walk_at "vl"); (case a3 => assumption))
  | ((with_reducible refine' v_ix ?a1 ?a2 ?a3 ?a4); (case a1 => walk_at "vl"); (case a2 => walk_at "vl"); (case a3 => assumption); (case a4 => rfl))
  | ((with_reducible refine' v_I0 ?a1 ?a2); (case a1 => walk_at "vl"); (case a2 => walk_at "vl"))
  | ((with_reducible refine' v_isN ?a1); (case a1 => walk_at "vl"))
  | ((with_reducible refine' v_notN ?a1); (case a1 => walk_at "vl"))
  | ((with_reducible refine' v_int1 ?a1); (case a1 => walk_at "vl"))
  | ((with_reducible refine' v_eq ?a1 ?a2 ?a3); (case a1 => walk_at "vl"); (case a2 => walk_at "vl"); (case a3 => rfl))
  | ((with_reducible refine' v_ne ?a1 ?a2 ?a3); (case a1 => walk_at "vl"); (case a2 => walk_at "vl"); (case a3 => rfl))
  | ((with_reducible refine' v_max2 ?a1 ?a2); (case a1 => walk_at "vl"); (case a2 => walk_at "vl"))
  | ((with_reducible refine' v_min2 ?a1 ?a2); (case a1 => walk_at "vl"); (case a2 => walk_at "vl")))
local macro_rules | `(tactic| walk_at "va") => `(tactic| first
  | (with_reducible exact va_nil)
  | ((with_reducible refine' va_cons ?a1 ?a2); (case a1 => walk_at "vl"); (case a2 => walk_at "va")))

structure La where
  lg : Addr
  A : Ad
  wl : Addr
  room : Int
def ThingsAt (K : PySem.W.Frag) (H : Hp) (as : List Addr) (ts : List Thing) : Prop := as.length = ts.length ∧ ∀ (i : Nat) a t, as[i]? = some a → ts[i]? = some t → ThingAt K H a t
structure LedAt (K : PySem.W.Frag) (H : Hp) (L : La) (b : Bk) (wt : List Thing) : Prop where
  ob : ∃ dx, H L.lg = some (.ins (He.ga K "Ledger") dx (lF L.A.bk L.room L.wl))
  bk : BookAt K H L.A b
  wt : ∃ as, H L.wl = some (.lst (as.map V.ref)) ∧ ThingsAt K H as wt
  n1 : L.wl ≠ L.A.el
  n2 : L.wl ≠ L.A.dl
theorem ThingsAt.ty {K : PySem.W.Frag} {H H' : Hp} {as : List Addr} {ts : List Thing} (e : Ty H H') (h : ThingsAt K H as ts) : ThingsAt K H' as ts := ⟨h.1, fun i a t h1 h2 => (h.2 i a t h1 h2).ty e⟩
theorem LedAt.ex {K : PySem.W.Frag} {H H' : Hp} {L : La} {b : Bk} {ts : List Thing} (e : Ex H H') (h : LedAt K H L b ts) : LedAt K H' L b ts := by
  obtain ⟨dx, o⟩ := h.ob
  obtain ⟨as, w1, w2⟩ := h.wt
  exact ⟨⟨dx, e _ _ o⟩, h.bk.ex e, ⟨as, e _ _ w1, w2.ty (ex_ty e)⟩, h.n1, h.n2⟩
theorem ThingsAt.snoc {K : PySem.W.Frag} {H : Hp} {as : List Addr} {ts : List Thing} {a : Addr} {t : Thing} (h : ThingsAt K H as ts) (ht : ThingAt K H a t) : ThingsAt K H (as ++ [a]) (ts ++ [t]) := by
  refine ⟨by rw [List.length_append, List.length_append, h.1]; rfl, fun i b q h1 h2 => ?_⟩
  have hl := h.1
  by_cases hi : i < as.length
  · rw [List.getElem?_append_left hi] at h1
    rw [List.getElem?_append_left (by omega)] at h2
    exact h.2 i b q h1 h2
  · rw [List.getElem?_append_right (by omega)] at h1
    rw [List.getElem?_append_right (by omega)] at h2
    have e1 : i - as.length = 0 := by
      have := (List.getElem?_eq_some_iff.mp h1).1
      simp at this
      omega
    have e2 : i - ts.length = 0 := by omega
    rw [e1] at h1
    rw [e2] at h2
    cases h1
    cases h2
    exact ht
/-- an object under construction -/
structure Mkg (H0 H : Hp) (x C dx : Addr) (fs : List (Str × V)) : Prop where
  ob : H x = some (.ins C dx fs)
  kp : ∀ c o, H0 c = some o → c ≠ x → H c = some o
section
variable {H0 H : Hp} {x C dx p a : Addr} {fs fs' : List (Str × V)} {o o' u : HO}
theorem keep2 (h : H a = some o) (hx : a ≠ x) (hq : H p = none) : upd (upd H p o') x u a = some o := by
  rw [upd_ne hx, upd_ne (ne_of_none h hq)]
  exact h
theorem Mkg.back (m : Mkg H0 H x C dx fs) (h : H p = none) : H0 p = none := by
  cases e : H0 p with
  | none => rfl
  | some o =>
    by_cases z : p = x
    · rw [z, m.ob] at h
      cases h
    · rw [m.kp p o e z] at h
      cases h
theorem Mkg.new (m : Mkg H0 H x C dx fs) (h : H p = none) : Mkg H0 (upd (upd H p o) x (.ins C dx fs')) x C dx fs' := ⟨upd_same, fun c u hc n => keep2 (m.kp c u hc n) n h⟩
theorem Mkg.fresh (m : Mkg H0 H x C dx fs) (h : H p = none) : upd H p o x = some (.ins C dx fs) := by
  rw [upd_ne (ne_of_none m.ob h)]
  exact m.ob
theorem Mkg.set (m : Mkg H0 H x C dx fs) : Mkg H0 (upd H x (.ins C dx fs')) x C dx fs' := ⟨upd_same, fun c u hc n => by rw [upd_ne n]; exact m.kp c u hc n⟩
end
def spLedgerInit (K : PySem.W.Frag) : Sp := fun vs H Q _ => ∃ (x dx a : Addr) (as : List Addr) (p q r rm : Int), vs = [.ref x, .ref a, .int rm] ∧ H x = some (.ins (He.ga K "Ledger") dx []) ∧ H a = some (.lst (as.map V.ref)) ∧ PairsAt K H as (three p q r) ∧ Mid p ∧ Mid q ∧ Mid r ∧ 1 ≤ rm ∧ rm ≤ 200 ∧
  ∀ H' (L : La), L.lg = x → (∀ c o, H c = some o → c ≠ x → H' c = some o) → LedAt K H' L (book0 (three p q r)) [] → Q .non H'
def spCopyVault (K : PySem.W.Frag) : Sp := fun vs H Q _ => ∃ (v : Addr) (d : Vd), vs = [.ref v] ∧ VaultAt K H v d ∧ ∀ H' c d', Ex H H' → VaultAt K H' c d' → Q (.ref c) H'
def spChannel (K : PySem.W.Frag) : Sp := fun vs H Q _ => ∃ (L : La) (b : Bk) (ts : List Thing) (n : Int), vs = [.ref L.lg, .int n] ∧ LedAt K H L b ts ∧ Q .non H ∧ ∀ H' c d', Ex H H' → VaultAt K H' c d' → Q (.ref c) H'
def spOffer (K : PySem.W.Frag) : Sp := fun vs H Q _ => ∃ (L : La) (b : Bk) (ts : List Thing) (ta : Addr) (t : Thing), vs = [.ref L.lg, .ref ta] ∧ LedAt K H L b ts ∧ ThingAt K H ta t ∧ ts.length ≤ 1000 ∧
  ∀ H', (∀ c o, H c = some o → c ≠ L.wl → H' c = some o) → LedAt K H' L b (ts ++ [t]) → Q .non H'
def spHeight (K : PySem.W.Frag) : Sp := fun vs H Q _ => ∃ (L : La) (b : Bk) (ts : List Thing), vs = [.ref L.lg] ∧ LedAt K H L b ts ∧ Q (.int b.height) H
def spBurnt (K : PySem.W.Frag) : Sp := fun vs H Q _ => ∃ (L : La) (b : Bk) (ts : List Thing), vs = [.ref L.lg] ∧ LedAt K H L b ts ∧ Q (.int b.burnt) H
def spAllMoney (K : PySem.W.Frag) : Sp := fun vs H Q _ => ∃ (L : La) (b : Bk) (ts : List Thing), vs = [.ref L.lg] ∧ LedAt K H L b ts ∧ Small b 9000 ∧ (keys b.purses).Nodup ∧ (keys b.vaults).Nodup ∧ ∀ H', Ex H H' → Q (.int (sumI b.purses + sumBy vmo b.vaults)) H'
theorem q_makeK {C : Addr} {n m : Nat} {sp : Sp} {gV : List V → List V → List V} {E : XK} {t tk : TA} {σ : L2.St} {H : Hp} {Q : VK} {vs zs : List V} (h : ValA t σ H vs) (h2 : ValA tk σ H zs) (l1 : vs.length = n) (l2 : zs.length = m)
    (q : ∀ x dx, H x = none → H dx = none → dx ≠ x → sp (gV (.ref x :: vs) zs) (upd (upd H dx (.own x)) x (.ins C dx [])) (fun v H3 => v = .non ∧ Q (.ref x) H3) E) : tMakeK C n m sp gV E t tk σ H Q := h _ (h2 _ ⟨l1, l2, q⟩)
theorem kbindsN {K : PySem.W.Frag} {x qual : Str} {params : Arguments} {body : List Stmt} {scope : Scope} {f : Addr} {fd : FuncData} {ps : List Str} (F : FunD K x qual params body scope [] [] f fd) (n : Nat) (ks : List Str)
    (h : ∀ (kV doc pm : Value) (an : Option Addr) (cdv ct : Value) (us ws : List Value), us.length = n → ws.length = ks.length → bindArgs (PySem.W.fnOf x qual params body scope .none kV doc pm an cdv ct) ⟨us, ks.zip ws⟩ = pure (ps.zip (us ++ ws))) :
    KBn K fd ps n ks (fun us ws => us ++ ws) (fun vs zs => vs ++ zs) := by
  obtain ⟨oc, od, dV, kV, doc, pm, an, cdv, ct, osl, rfl, lk, hcd, hD, hK⟩ := F.ex
  rcases hD with ⟨_, rfl⟩ | ⟨e, _⟩
  · exact ⟨fun s us ws X l1 l2 => BindsTo.of_eq (h kV doc pm an cdv ct us ws l1 l2), fun r1 r2 => r1.append r2⟩
  · exact absurd rfl e
theorem three_put (x y z : Int) : (three x y z).foldl (fun l p => putI l p.1 p.2) [] = three x y z := by
  simp [three, putI]
section
variable {P : Program} {w : World} {K : PySem.W.Frag} {mg : Str → Option Value} {base : Heap}
theorem book_init (T : Txt K mg) : HasK P w K mg base "Book" 1 ["self", "purses"] [] (spBookInit K) := by
  obtain ⟨fd, F⟩ := T.f_Book_init
  have F' : FunD K d_Book_init.name d_Book_init.qual d_Book_init.params d_Book_init.body d_Book_init.scope [] [] (He.ma K (He.ga K "Book") "__init__") fd := F
  refine ⟨⟨fd, [], F'.ok sc_Book_init (fun vs H Q E h => ?_) (fun cdv A0 outer s H vs Q E hr h => ?_), F'.bindsN (fun _ _ _ _ _ _ us hl => match us, hl with | [_, _], _ => rfl), .nil⟩, T.mk_Book, T.mg_Book⟩
  · obtain ⟨x, dx, a, as, ps, rfl, _⟩ := h
    rfl
  · obtain ⟨x, dx, a, as, ps, rfl, hx, ha, hps, hz, k⟩ := h
    suffices hh : ∃ t, PSs (cxOf CX0 P w K mg base N_Book_init d_Book_init.qual (defScope s_Book_init) (He.ma K (He.ga K "Book") "__init__") cdv A0 outer s H E).nox (defBody s_Book_init) t ∧ t { nx := fun _ H' => Q .non H', rt := Q } (start N_Book_init [.ref x, .ref a]) H by
      obtain ⟨t, h1, h2⟩ := hh
      exact ⟨t, h1.nox, h2⟩
    refine ⟨_, (pss_cons (ps_fld (pv 0) pe_dnewK rfl)
      (pss_cons (ps_for PassesOwn.never rfl (pi_list (pv 1)) (pg_tup rfl (pgs_cons (pg_name (i := 2) sc_Book_init.nd rfl (by first | exact Or.inl rfl | exact Or.inr rfl)) (pgs_cons (pg_name (i := 3) sc_Book_init.nd rfl (by first | exact Or.inl rfl | exact Or.inr rfl)) pgs_nil))) (pss_one (ps_dput (hu_of hr) (pe_fldK (K := K) rfl (pv 0) rfl) (pv 2) (pv 3) rfl)))
      (pss_cons (ps_fld (pv 0) pe_dnewK rfl)
      (pss_cons (ps_fld (pv 0) pe_dnewK rfl)
      (pss_cons (ps_fld (pv 0) (pe_lst pa_nil) rfl)
      (pss_cons (ps_fld (pv 0) (pe_lst pa_nil) rfl)
      (pss_cons (ps_fld (pv 0) pe_int rfl)
      (pss_one (ps_fld (pv 0) pe_int rfl))))))))), ?_⟩
    have m0 : Mkg H H x (He.ga K "Book") dx [] := ⟨hx, fun c o h _ => h⟩
    -- purses
    refine q_seq (s_fldG fun pd hpd => go (val_var rfl) ⟨x, _, dx, _, rfl, m0.fresh hpd, T.c_Book, T.n_Book_purses, by show 0 < 1000; decide, ?_⟩)
    have m1 : Mkg H (upd (upd H pd (.dK [])) x (.ins (He.ga K "Book") dx (putF "purses" (.ref pd) []))) x (He.ga K "Book") dx (putF "purses" (.ref pd) []) := m0.new hpd
    have npd : pd ≠ x := fun z => by rw [z, hx] at hpd; cases hpd
    have c1 : upd (upd H pd (.dK [])) x (.ins (He.ga K "Book") dx (putF "purses" (.ref pd) [])) pd = some (.dK (dkI [])) := by rw [upd_ne npd]; exact upd_same
    dsimp only
    generalize upd (upd H pd (.dK [])) x (.ins (He.ga K "Book") dx (putF "purses" (.ref pd) [])) = H1 at m1 c1 ⊢
    have nax : a ≠ x := neH ha hx fun z => by cases z
    have hps1 : ∀ {H' : Hp}, (∀ c o, H c = some o → c ≠ x → H' c = some o) → PairsAt K H' as ps := fun kp => hps.ty fun c xs hc => kp c _ hc (neH hc hx fun z => by cases z)
    refine q_forLG (xs := as.map V.ref) (val_var rfl) (fun j σ' H' => (∃ v1 v2, σ' = [some (.ref x), some (.ref a), v1, v2]) ∧ Mkg H H' x (He.ga K "Book") dx (putF "purses" (.ref pd) []) ∧ H' pd = some (.dK (dkI ((ps.take j).foldl (fun l p => putI l p.1 p.2) []))))
      ⟨⟨none, none, rfl⟩, m1, c1⟩ (fun j σ' H' _ z => SqL.of (z.2.1.kp _ _ ha nax)) ?_ ?_
    · rintro j z σ' H' hj ⟨⟨v1, v2, rfl⟩, m2, c2⟩
      obtain ⟨b, hb, rfl⟩ := at_ref hj
      obtain ⟨p, hp⟩ : ∃ p, ps[j]? = some p := by
        have := (List.getElem?_eq_some_iff.mp hb).1
        exact ⟨ps[j]'(by rw [← hps.1]; exact this), List.getElem?_eq_getElem _⟩
      refine g_tup2 ((hps1 m2.kp).2 j b p hb hp).t ?_
      have ln : ∀ (q : List (Int × Int)) (l : Pm), (q.foldl (fun l p => putI l p.1 p.2) l).length ≤ l.length + q.length := by
        intro q
        induction q with
        | nil => intro l; exact Nat.le_refl _
        | cons p r ih =>
          intro l
          have h1 := ih (putI l p.1 p.2)
          have h2 : (putI l p.1 p.2).length ≤ l.length + 1 := len_put l
          rw [List.foldl_cons, List.length_cons]
          omega
      have l1 := ln (ps.take j) []
      rw [List.length_nil, List.length_take] at l1
      refine q_dput (g := V.int) (k := p.1) (x := p.2) (val_var rfl) (val_fld (val_var rfl) m2.ob T.c_Book T.n_Book_purses (by kernel_rfl)) (val_var rfl) c2 (Nat.lt_of_le_of_lt l1 (by omega)) ?_
      refine ⟨⟨_, _, rfl⟩, ⟨by rw [upd_ne npd.symm]; exact m2.ob, fun c o hc n => by rw [upd_ne fun z => by rw [z] at hc; rw [hpd] at hc; cases hc]; exact m2.kp c o hc n⟩, ?_⟩
      rw [List.take_add_one, hp, List.foldl_append]
      exact upd_same
    rintro σ' H2 ⟨⟨v1, v2, rfl⟩, m2, c2⟩
    have en : (as.map V.ref).length = ps.length := by rw [List.length_map, hps.1]
    rw [en, List.take_length] at c2
    clear m1 c1
    -- vaults
    refine q_seq (s_fldG fun vd hvd => go (val_var rfl) ⟨x, _, dx, _, rfl, m2.fresh hvd, T.c_Book, T.n_Book_vaults, by show 1 < 1000; decide, ?_⟩)
    have m3 := m2.new (o := .dK []) (fs' := putF "vaults" (.ref vd) (putF "purses" (.ref pd) [])) hvd
    have nvd : vd ≠ x := fun z => by rw [z, m2.ob] at hvd; cases hvd
    have n1 : pd ≠ vd := ne_of_none c2 hvd
    have c3 := keep2 (u := .ins (He.ga K "Book") dx (putF "vaults" (.ref vd) (putF "purses" (.ref pd) []))) (o' := .dK []) c2 npd hvd
    have d3 : upd (upd H2 vd (.dK [])) x (.ins (He.ga K "Book") dx (putF "vaults" (.ref vd) (putF "purses" (.ref pd) []))) vd = some (.dK []) := by rw [upd_ne nvd]; exact upd_same
    have b1 := m2.back hvd
    dsimp only
    generalize upd (upd H2 vd (.dK [])) x (.ins (He.ga K "Book") dx (putF "vaults" (.ref vd) (putF "purses" (.ref pd) []))) = H3 at m3 c3 d3 ⊢
    -- receipts
    refine q_seq (s_fldG fun rd hrd => go (val_var rfl) ⟨x, _, dx, _, rfl, m3.fresh hrd, T.c_Book, T.n_Book_receipts, by show 2 < 1000; decide, ?_⟩)
    have m4 := m3.new (o := .dK []) (fs' := putF "receipts" (.ref rd) (putF "vaults" (.ref vd) (putF "purses" (.ref pd) []))) hrd
    have nrd : rd ≠ x := fun z => by rw [z, m3.ob] at hrd; cases hrd
    have n2 : pd ≠ rd := ne_of_none c3 hrd
    have n3 : vd ≠ rd := ne_of_none d3 hrd
    have c4 := keep2 (u := .ins (He.ga K "Book") dx (putF "receipts" (.ref rd) (putF "vaults" (.ref vd) (putF "purses" (.ref pd) [])))) (o' := .dK []) c3 npd hrd
    have d4 := keep2 (u := .ins (He.ga K "Book") dx (putF "receipts" (.ref rd) (putF "vaults" (.ref vd) (putF "purses" (.ref pd) [])))) (o' := .dK []) d3 nvd hrd
    have e4 : upd (upd H3 rd (.dK [])) x (.ins (He.ga K "Book") dx (putF "receipts" (.ref rd) (putF "vaults" (.ref vd) (putF "purses" (.ref pd) [])))) rd = some (.dK []) := by rw [upd_ne nrd]; exact upd_same
    have b2 := m3.back hrd
    dsimp only
    generalize upd (upd H3 rd (.dK [])) x (.ins (He.ga K "Book") dx (putF "receipts" (.ref rd) (putF "vaults" (.ref vd) (putF "purses" (.ref pd) [])))) = H4 at m4 c4 d4 e4 ⊢
    -- ended
    refine q_seq (s_fldG (q_lst va_nil (Nat.zero_le _) fun el hel => go (val_var rfl) ⟨x, _, dx, _, rfl, m4.fresh hel, T.c_Book, T.n_Book_ended, by show 3 < 1000; decide, ?_⟩))
    have m5 := m4.new (o := .lst []) (fs' := putF "ended" (.ref el) (putF "receipts" (.ref rd) (putF "vaults" (.ref vd) (putF "purses" (.ref pd) [])))) hel
    have nel : el ≠ x := fun z => by rw [z, m4.ob] at hel; cases hel
    have c5 := keep2 (u := .ins (He.ga K "Book") dx (putF "ended" (.ref el) (putF "receipts" (.ref rd) (putF "vaults" (.ref vd) (putF "purses" (.ref pd) []))))) (o' := .lst []) c4 npd hel
    have d5 := keep2 (u := .ins (He.ga K "Book") dx (putF "ended" (.ref el) (putF "receipts" (.ref rd) (putF "vaults" (.ref vd) (putF "purses" (.ref pd) []))))) (o' := .lst []) d4 nvd hel
    have e5 := keep2 (u := .ins (He.ga K "Book") dx (putF "ended" (.ref el) (putF "receipts" (.ref rd) (putF "vaults" (.ref vd) (putF "purses" (.ref pd) []))))) (o' := .lst []) e4 nrd hel
    have f5 : upd (upd H4 el (.lst [])) x (.ins (He.ga K "Book") dx (putF "ended" (.ref el) (putF "receipts" (.ref rd) (putF "vaults" (.ref vd) (putF "purses" (.ref pd) []))))) el = some (.lst []) := by rw [upd_ne nel]; exact upd_same
    have b3 := m4.back hel
    dsimp only
    generalize upd (upd H4 el (.lst [])) x (.ins (He.ga K "Book") dx (putF "ended" (.ref el) (putF "receipts" (.ref rd) (putF "vaults" (.ref vd) (putF "purses" (.ref pd) []))))) = H5 at m5 c5 d5 e5 f5 ⊢
    -- done
    refine q_seq (s_fldG (q_lst va_nil (Nat.zero_le _) fun dl hdl => go (val_var rfl) ⟨x, _, dx, _, rfl, m5.fresh hdl, T.c_Book, T.n_Book_done, by show 4 < 1000; decide, ?_⟩))
    have m6 := m5.new (o := .lst []) (fs' := putF "done" (.ref dl) (putF "ended" (.ref el) (putF "receipts" (.ref rd) (putF "vaults" (.ref vd) (putF "purses" (.ref pd) []))))) hdl
    have ndl : dl ≠ x := fun z => by rw [z, m5.ob] at hdl; cases hdl
    have n4 : el ≠ dl := ne_of_none f5 hdl
    have c6 := keep2 (u := .ins (He.ga K "Book") dx (putF "done" (.ref dl) (putF "ended" (.ref el) (putF "receipts" (.ref rd) (putF "vaults" (.ref vd) (putF "purses" (.ref pd) [])))))) (o' := .lst []) c5 npd hdl
    have d6 := keep2 (u := .ins (He.ga K "Book") dx (putF "done" (.ref dl) (putF "ended" (.ref el) (putF "receipts" (.ref rd) (putF "vaults" (.ref vd) (putF "purses" (.ref pd) [])))))) (o' := .lst []) d5 nvd hdl
    have e6 := keep2 (u := .ins (He.ga K "Book") dx (putF "done" (.ref dl) (putF "ended" (.ref el) (putF "receipts" (.ref rd) (putF "vaults" (.ref vd) (putF "purses" (.ref pd) [])))))) (o' := .lst []) e5 nrd hdl
    have f6 := keep2 (u := .ins (He.ga K "Book") dx (putF "done" (.ref dl) (putF "ended" (.ref el) (putF "receipts" (.ref rd) (putF "vaults" (.ref vd) (putF "purses" (.ref pd) [])))))) (o' := .lst []) f5 nel hdl
    have g6 : upd (upd H5 dl (.lst [])) x (.ins (He.ga K "Book") dx (putF "done" (.ref dl) (putF "ended" (.ref el) (putF "receipts" (.ref rd) (putF "vaults" (.ref vd) (putF "purses" (.ref pd) [])))))) dl = some (.lst []) := by rw [upd_ne ndl]; exact upd_same
    have b4 := m5.back hdl
    dsimp only
    generalize upd (upd H5 dl (.lst [])) x (.ins (He.ga K "Book") dx (putF "done" (.ref dl) (putF "ended" (.ref el) (putF "receipts" (.ref rd) (putF "vaults" (.ref vd) (putF "purses" (.ref pd) [])))))) = H6 at m6 c6 d6 e6 f6 g6 ⊢
    -- height, burnt
    refine q_seq (s_fld (y := .int 0) val_c (val_var rfl) m6.ob T.c_Book T.n_Book_height (by show 5 < 1000; decide) ?_)
    refine s_fld (y := .int 0) val_c (val_var rfl) upd_same T.c_Book T.n_Book_burnt (by show 6 < 1000; decide) ?_
    dsimp only
    rw [upd2, bF_made]
    have m7 : Mkg H (upd H6 x (.ins (He.ga K "Book") dx (bF pd vd rd el dl 0 0))) x (He.ga K "Book") dx (bF pd vd rd el dl 0 0) := m6.set
    refine k _ ⟨x, pd, vd, rd, el, dl⟩ rfl m7.kp ?_ ⟨⟨dx, upd_same⟩, by rw [upd_ne npd]; exact c6, by rw [upd_ne nvd]; exact d6, fun p hp => (by cases hp), by rw [upd_ne nrd]; exact e6, by rw [upd_ne nel]; exact f6, ⟨[], by rw [upd_ne ndl]; exact g6, rfl, fun i a p h1 _ => by cases h1⟩, n1, n2, n3, n4, List.nodup_nil⟩
    intro c hc
    rcases hc with rfl | rfl | rfl | rfl | rfl | rfl
    · exact .inl rfl
    · exact .inr hpd
    · exact .inr b1
    · exact .inr b2
    · exact .inr b3
    · exact .inr b4
theorem ledger_init (T : Txt K mg) : HasKw P w K mg base "Ledger" 3 1 ["self", "purses", "room"] ["room"] (fun vs zs => vs ++ zs) (spLedgerInit K) := by
  have G_check_purses : HasF P w K mg base "check_purses" 1 ["purses"] (spCheckPurses K) := ok_check_purses T
  have M_Book : HasK P w K mg base "Book" 1 ["self", "purses"] [] (spBookInit K) := book_init T
  obtain ⟨fd, F⟩ := T.f_Ledger_init
  have F' : FunD K d_Ledger_init.name d_Ledger_init.qual d_Ledger_init.params d_Ledger_init.body d_Ledger_init.scope [] [] (He.ma K (He.ga K "Ledger") "__init__") fd := F
  refine ⟨⟨fd, _, F'.ok sc_Ledger_init (fun vs H Q E h => ?_) (fun cdv A0 outer s H vs Q E hr h => ?_), kbindsN (ps := ["self", "purses", "room"]) F' 2 ["room"] (fun kV doc pm an cdv ct us ws h1 h3 => by
    match us, h1, ws, h3 with
    | [u1, u2], _, [k1], _ => exact rfl)⟩, T.mk_Ledger, T.mg_Ledger⟩
  · obtain ⟨x, dx, a, as, p, q, r, rm, rfl, _⟩ := h
    rfl
  · obtain ⟨x, dx, a, as, p, q, r, rm, rfl, hx, ha, hps, hp, hq, hr1, r1, r2, k⟩ := h
    suffices hh : ∃ t, PSs (cxOf CX0 P w K mg base N_Ledger_init d_Ledger_init.qual (defScope s_Ledger_init) (He.ma K (He.ga K "Ledger") "__init__") cdv A0 outer s H E).nox (defBody s_Ledger_init) t ∧ t { nx := fun _ H' => Q .non H', rt := Q } (start N_Ledger_init [.ref x, .ref a, .int rm]) H by
      obtain ⟨t, h1, h2⟩ := hh
      exact ⟨t, h1.nox, h2⟩
    refine ⟨_, (pss_cons (ps_expr (pe_f G_check_purses (hr.mono (by decide)) (pa_cons (pv 1) pa_nil)))
      (pss_cons (ps_if (pt_not (pt_chain op_le op_le pe_int (pv 2) (pe_gi T.i_MOST_ROOM))) (pss_one ps_never) pss_nil)
      (pss_cons (ps_fld (pv 0) (pe_mk M_Book hr (pa_cons (pv 1) pa_nil)) rfl)
      (pss_cons (ps_fld (pv 0) (pv 2) rfl)
      (pss_one (ps_fld (pv 0) (pe_lst pa_nil) rfl)))))), ?_⟩
    refine q_drop (q_call (va_cons (val_var rfl) va_nil) ⟨a, as, p, q, r, rfl, ha, hps, hp, hq, hr1, fun H1 e1 => ?_⟩)
    refine q_if (q_notT (q_testT (q_chain (go val_c (go (val_var rfl) ⟨_, _, rfl, rfl, _, rfl, ?_⟩)))))
    rw [decide_eq_true r1]
    refine if_t (go val_c ⟨_, _, rfl, rfl, _, rfl, ?_⟩)
    rw [decide_eq_true r2]
    refine if_f (n_next ?_)
    have m1 : Mkg H H1 x (He.ga K "Ledger") dx [] := ⟨e1 _ _ hx, fun c o hc _ => e1 c o hc⟩
    have ha1 := e1 _ _ ha
    have hps1 := hps.ty (ex_ty e1)
    -- book
    refine q_seq (s_fldG ?_)
    refine q_make (C := He.ga K "Book") (va_cons (val_var rfl) va_nil) (fun bx dbx hbx hdbx hne => ?_)
    have e2 : Ex H1 (upd (upd H1 dbx (.own bx)) bx (.ins (He.ga K "Book") dbx [])) := Evl.Ex.mut (Evl.Ex.new hdbx) hbx
    refine ⟨bx, dbx, a, as, three p q r, rfl, upd_same, e2 _ _ ha1, hps1.ty (ex_ty e2), by show 3 ≤ 100; decide, fun H3 A hA kp fr B => ⟨rfl, ?_⟩⟩
    rw [three_put] at B
    have nbx : bx ≠ x := fun z => by rw [z, m1.ob] at hbx; cases hbx
    have kp2 : ∀ c o, H1 c = some o → H3 c = some o := fun c o hc => kp c o (e2 c o hc) (fun z => by rw [z, hbx] at hc; cases hc)
    have m2 : Mkg H H3 x (He.ga K "Ledger") dx [] := ⟨kp2 _ _ m1.ob, fun c o hc n => kp2 c o (m1.kp c o hc n)⟩
    have xin : ¬ InBk A x := fun z => by
      rcases fr x z with z | z
      · exact nbx z.symm
      · rw [e2 _ _ m1.ob] at z
        cases z
    have frA : ∀ c, InBk A c → H1 c = none := fun c hc => by
      rcases fr c hc with z | z
      · rw [z]; exact hbx
      · cases e : H1 c with
        | none => rfl
        | some o => rw [e2 _ _ e] at z; cases z
    clear kp fr
    refine go (val_var rfl) ⟨x, _, dx, _, rfl, m2.ob, T.c_Ledger, T.n_Ledger_book, by show 0 < 1000; decide, ?_⟩
    have nv0 : ¬ Vl (.ins (He.ga K "Ledger") dx []) := fun ⟨_, _, _, e, n⟩ => by cases e; exact n rfl
    have B3 : BookAt K (upd H3 x (.ins (He.ga K "Ledger") dx (putF "book" (.ref bx) []))) A (book0 (three p q r)) := B.upd m2.ob (fun _ z => by cases z) nv0 (fun z => xin (.inl z)) (fun z => xin (.inr (.inl z))) (fun z => xin (.inr (.inr (.inl z)))) (fun z => xin (.inr (.inr (.inr (.inl z))))) (fun z => xin (.inr (.inr (.inr (.inr (.inl z)))))) (fun z => xin (.inr (.inr (.inr (.inr (.inr z))))))
    have m3 : Mkg H (upd H3 x (.ins (He.ga K "Ledger") dx (putF "book" (.ref bx) []))) x (He.ga K "Ledger") dx (putF "book" (.ref bx) []) := m2.set
    dsimp only
    generalize upd H3 x (.ins (He.ga K "Ledger") dx (putF "book" (.ref bx) [])) = H4 at B3 m3 ⊢
    -- room
    refine q_seq (s_fld (y := .int rm) (val_var rfl) (val_var rfl) m3.ob T.c_Ledger T.n_Ledger_room (by show 1 < 1000; decide) ?_)
    have nv1 : ¬ Vl (.ins (He.ga K "Ledger") dx (putF "book" (.ref bx) [])) := fun ⟨_, _, _, e, n⟩ => by cases e; exact n (by kernel_rfl)
    have B4 : BookAt K (upd H4 x (.ins (He.ga K "Ledger") dx (putF "room" (.int rm) (putF "book" (.ref bx) [])))) A (book0 (three p q r)) := B3.upd m3.ob (fun _ z => by cases z) nv1 (fun z => xin (.inl z)) (fun z => xin (.inr (.inl z))) (fun z => xin (.inr (.inr (.inl z)))) (fun z => xin (.inr (.inr (.inr (.inl z))))) (fun z => xin (.inr (.inr (.inr (.inr (.inl z)))))) (fun z => xin (.inr (.inr (.inr (.inr (.inr z))))))
    have m4 : Mkg H (upd H4 x (.ins (He.ga K "Ledger") dx (putF "room" (.int rm) (putF "book" (.ref bx) [])))) x (He.ga K "Ledger") dx (putF "room" (.int rm) (putF "book" (.ref bx) [])) := m3.set
    dsimp only
    generalize upd H4 x (.ins (He.ga K "Ledger") dx (putF "room" (.int rm) (putF "book" (.ref bx) []))) = H5 at B4 m4 ⊢
    -- waiting
    refine s_fldG (q_lst va_nil (Nat.zero_le _) fun wl hwl => go (val_var rfl) ⟨x, _, dx, _, rfl, m4.fresh hwl, T.c_Ledger, T.n_Ledger_waiting, by show 2 < 1000; decide, ?_⟩)
    rw [lF_made]
    have B5 := B4.ex (Evl.Ex.new (o := .lst []) hwl)
    have nv2 : ¬ Vl (.ins (He.ga K "Ledger") dx (putF "room" (.int rm) (putF "book" (.ref bx) []))) := fun ⟨_, _, _, e, n⟩ => by cases e; exact n (by kernel_rfl)
    have B6 : BookAt K (upd (upd H5 wl (.lst [])) x (.ins (He.ga K "Ledger") dx (lF bx rm wl))) A (book0 (three p q r)) := B5.upd (m4.fresh hwl) (fun _ z => by cases z) nv2 (fun z => xin (.inl z)) (fun z => xin (.inr (.inl z))) (fun z => xin (.inr (.inr (.inl z)))) (fun z => xin (.inr (.inr (.inr (.inl z))))) (fun z => xin (.inr (.inr (.inr (.inr (.inl z)))))) (fun z => xin (.inr (.inr (.inr (.inr (.inr z))))))
    have m5 : Mkg H (upd (upd H5 wl (.lst [])) x (.ins (He.ga K "Ledger") dx (lF bx rm wl))) x (He.ga K "Ledger") dx (lF bx rm wl) := m4.new hwl
    have nwl : wl ≠ x := fun z => by rw [z, m4.ob] at hwl; cases hwl
    obtain ⟨das, dd, _⟩ := B4.dn
    refine k _ ⟨x, A, wl, rm⟩ rfl m5.kp ⟨⟨dx, by rw [hA]; exact m5.ob⟩, B6, ⟨[], by rw [upd_ne nwl]; exact upd_same, rfl, fun i a t h1 _ => by cases h1⟩, fun z => ?_, fun z => ?_⟩
    · rw [show wl = A.el from z, B4.en] at hwl
      cases hwl
    · rw [show wl = A.dl from z, dd] at hwl
      cases hwl
theorem ok_copy_vault (T : Txt K mg) : HasF P w K mg base "copy_vault" 3 ["vault"] (spCopyVault K) := by
  have M_Vault : HasKw P w K mg base "Vault" 1 1 vaultPs ["sums", "splices", "least", "published", "since"] (fun vs zs => vs ++ zs) (spVaultInit K) := mk_vaultK T
  refine hasF (st := s_copy_vault) T.f_copy_vault T.g_copy_vault sc_copy_vault (fun _ _ _ _ _ _ us hl => match us, hl with | [_], _ => rfl) (fun vs H Q E h => ?_) (fun f cdv A0 outer s H vs Q E hr h => ?_)
  · obtain ⟨v, d, rfl, _⟩ := h
    rfl
  · obtain ⟨v, d, rfl, hV, k⟩ := h
    obtain ⟨dx, oa, sa, pq, o1, t1, t2, t3⟩ := hV.at_
    refine ⟨_, (pss_one (ps_ret (pe_mkw M_Vault hr (pa_cons (pe_fldK (K := K) rfl (pv 0) rfl) pa_nil) (pk_cons (pe_fldK (K := K) rfl (pv 0) rfl) (pk_cons (pe_fldK (K := K) rfl (pv 0) rfl) (pk_cons (pe_fldK (K := K) rfl (pv 0) rfl) (pk_cons (pe_fldK (K := K) rfl (pv 0) rfl) (pk_cons (pe_fldK (K := K) rfl (pv 0) rfl) pk_nil)))))))), ?_⟩
    refine' s_ret (q_makeK (C := He.ga K "Vault") (by walk_at "va") (by walk_at "va") rfl rfl (fun x dx' hx hdx hne => ?_))
    have e1 : Ex H (upd (upd H dx' (.own x)) x (.ins (He.ga K "Vault") dx' [])) := Evl.Ex.mut (Evl.Ex.new hdx) hx
    refine ⟨x, dx', oa, sa, d.op, d.sums, d.spl, d.least, pq, sinV d.since, rfl, upd_same, t1.ex e1, t2.ex e1, rfl, ?_⟩
    have e2 : Ex H (upd (upd (upd H dx' (.own x)) x (.ins (He.ga K "Vault") dx' [])) x (.ins (He.ga K "Vault") dx' (vF oa sa (mon d.op d.sums) d.spl d.least pq (sinV d.since)))) := Evl.Ex.mut e1 hx
    exact k _ x { d with money := mon d.op d.sums } e2 ⟨dx', oa, sa, pq, upd_same, t1.ex e2, t2.ex e2, t3.ty (ex_ty e2)⟩
theorem ok_channel (T : Txt K mg) : HasM P w K mg base "Ledger" "channel" 4 ["self", "number"] (spChannel K) := by
  have G_copy_vault : HasF P w K mg base "copy_vault" 3 ["vault"] (spCopyVault K) := ok_copy_vault T
  refine hasM (st := s_Ledger_channel) T.f_Ledger_channel T.c_Ledger T.m_Ledger_channel sc_Ledger_channel (fun _ _ _ _ _ _ us hl => match us, hl with | [_, _], _ => rfl) (fun vs H Q E h => ?_) (fun f cdv A0 outer s H vs Q E hr h => ?_)
  · obtain ⟨L, b, ts, n, rfl, _⟩ := h
    rfl
  · obtain ⟨L, b, ts, n, rfl, hL, k1, k2⟩ := h
    obtain ⟨dx, o1⟩ := hL.ob
    have B := hL.bk
    obtain ⟨dxb, o2⟩ := B.ob
    refine ⟨_, (pss_cons (ps_if (pt_cmp (pc_dnotin (hu_of hr) (pv 1) (pe_fldK (K := K) rfl (pe_fldK (K := K) rfl (pv 0) rfl) rfl))) (pss_one (ps_ret pe_non)) pss_nil)
      (pss_one (ps_ret (pe_f G_copy_vault hr (pa_cons (pe_dget (hu_of hr) (pe_fldK (K := K) rfl (pe_fldK (K := K) rfl (pv 0) rfl) rfl) (pv 1) (fun _ _ => rfl)) pa_nil))))), ?_⟩
    cases hv : getI b.vaults n with
    | none =>
      refine' q_ifA (b := true) (v_is' (a_dnin (k := n) (val_var rfl) (by walk_at "vl") B.va) (by rw [hv]; rfl)) (fun _ => ?_) (fun z => by cases z)
      exact s_ret (go val_c k1)
    | some q =>
      obtain ⟨v, d⟩ := q
      refine' q_ifA (b := false) (v_is' (a_dnin (k := n) (val_var rfl) (by walk_at "vl") B.va) (by rw [hv]; rfl)) (fun z => by cases z) (fun _ => n_next ?_)
      refine' s_ret (q_call (va_cons (v_dget (g := vR) (k := n) (v := (v, d)) (by walk_at "vl") (val_var rfl) B.va hv) va_nil) ⟨v, d, rfl, B.vault hv, k2⟩)
theorem LedAt.wait {K : PySem.W.Frag} {H : Hp} {L : La} {b : Bk} {ts ts' : List Thing} (h : LedAt K H L b ts) {as : List Addr} (hw : ThingsAt K H as ts') : LedAt K (upd H L.wl (.lst (as.map V.ref))) L b ts' := by
  obtain ⟨dx, o1⟩ := h.ob
  obtain ⟨as0, w1, _⟩ := h.wt
  obtain ⟨dxb, ob⟩ := h.bk.ob
  obtain ⟨das, d1, d2⟩ := h.bk.dn
  have ty : Ty H (upd H L.wl (.lst (as.map V.ref))) := Ty.upd w1 (fun _ z => by cases z)
  refine ⟨⟨dx, by rw [upd_ne (neH o1 w1 fun z => by cases z)]; exact o1⟩, h.bk.upd w1 (fun _ z => by cases z) nvl_lst (neH w1 ob fun z => by cases z) (neH w1 h.bk.pu fun z => by cases z) (neH w1 h.bk.va fun z => by cases z) (neH w1 h.bk.re fun z => by cases z) h.n1 h.n2, ⟨as, upd_same, hw.ty ty⟩, h.n1, h.n2⟩
theorem ok_offer (T : Txt K mg) : HasM P w K mg base "Ledger" "offer" 1 ["self", "thing"] (spOffer K) := by
  refine hasM (st := s_Ledger_offer) T.f_Ledger_offer T.c_Ledger T.m_Ledger_offer sc_Ledger_offer (fun _ _ _ _ _ _ us hl => match us, hl with | [_, _], _ => rfl) (fun vs H Q E h => ?_) (fun f cdv A0 outer s H vs Q E hr h => ?_)
  · obtain ⟨L, b, ts, ta, t, rfl, _⟩ := h
    rfl
  · obtain ⟨L, b, ts, ta, t, rfl, hL, hT, hz, k⟩ := h
    obtain ⟨dx, o1⟩ := hL.ob
    obtain ⟨as, w1, w2⟩ := hL.wt
    refine ⟨_, (pss_one (ps_expr (pe_bm PySem.F.plainAttrs_list PySem.F.slot_list_append PySem.F.type_list_append mt_append (pe_fldK (K := K) rfl (pv 0) rfl) (pa_cons (pv 1) pa_nil)))), ?_⟩
    refine s_drop ?_
    refine' q_app (xs := as.map V.ref) (by walk_at "vl") w1 (by rw [List.length_map, w2.1]; omega) (val_var (v := .ref ta) rfl) ?_
    have e : as.map V.ref ++ [V.ref ta] = (as ++ [ta]).map V.ref := by rw [List.map_append]; rfl
    rw [e]
    exact k _ (fun c o hc n => by rw [upd_ne n]; exact hc) (hL.wait (w2.snoc hT))
theorem ok_height (T : Txt K mg) : HasP P w K mg base "height_now" 1 (spHeight K) := by
  refine hasP (st := s_Ledger_height_now) T.f_Ledger_height_now T.c_Ledger T.p_height_now sc_Ledger_height_now (fun _ _ _ _ _ _ us hl => match us, hl with | [_], _ => rfl) (fun vs H Q E h => ?_) (fun f cdv A0 outer s H vs Q E hr h => ?_)
  · obtain ⟨L, b, ts, rfl, _⟩ := h
    rfl
  · obtain ⟨L, b, ts, rfl, hL, k⟩ := h
    obtain ⟨dx, o1⟩ := hL.ob
    obtain ⟨dxb, o2⟩ := hL.bk.ob
    refine ⟨_, (pss_one (ps_ret (pe_fldK (K := K) rfl (pe_fldK (K := K) rfl (pv 0) rfl) rfl))), ?_⟩
    refine' s_ret (go (by walk_at "vl") k)
theorem ok_burnt (T : Txt K mg) : HasP P w K mg base "burnt_so_far" 1 (spBurnt K) := by
  refine hasP (st := s_Ledger_burnt_so_far) T.f_Ledger_burnt_so_far T.c_Ledger T.p_burnt_so_far sc_Ledger_burnt_so_far (fun _ _ _ _ _ _ us hl => match us, hl with | [_], _ => rfl) (fun vs H Q E h => ?_) (fun f cdv A0 outer s H vs Q E hr h => ?_)
  · obtain ⟨L, b, ts, rfl, _⟩ := h
    rfl
  · obtain ⟨L, b, ts, rfl, hL, k⟩ := h
    obtain ⟨dx, o1⟩ := hL.ob
    obtain ⟨dxb, o2⟩ := hL.bk.ob
    refine ⟨_, (pss_one (ps_ret (pe_fldK (K := K) rfl (pe_fldK (K := K) rfl (pv 0) rfl) rfl))), ?_⟩
    refine' s_ret (go (by walk_at "vl") k)
theorem ok_all_money (T : Txt K mg) : HasP P w K mg base "all_money" 2 (spAllMoney K) := by
  have G_Book_sum_of_money : HasM P w K mg base "Book" "sum_of_money" 1 ["self"] (spSumOfMoney K) := ok_sum_of_money T
  refine hasP (st := s_Ledger_all_money) T.f_Ledger_all_money T.c_Ledger T.p_all_money sc_Ledger_all_money (fun _ _ _ _ _ _ us hl => match us, hl with | [_], _ => rfl) (fun vs H Q E h => ?_) (fun f cdv A0 outer s H vs Q E hr h => ?_)
  · obtain ⟨L, b, ts, rfl, _⟩ := h
    rfl
  · obtain ⟨L, b, ts, rfl, hL, sm, n1, n2, k⟩ := h
    obtain ⟨dx, o1⟩ := hL.ob
    obtain ⟨dxb, o2⟩ := hL.bk.ob
    refine ⟨_, (pss_one (ps_ret (pe_mm0 G_Book_sum_of_money (pe_fldK (K := K) rfl (pv 0) rfl) hr))), ?_⟩
    refine' s_ret (q_meth (by walk_at "vl") o2 bF_no_sum va_nil ⟨L.A, b, rfl, hL.bk, sm, n1, n2, k⟩)
end
end Tk
/-! best, block. -/
namespace Tk
open PySem PySem.Spec PyProof.Rows L2
local macro_rules | `(tactic| walk_at "vl") => `(tactic| first
  | ((with_reducible refine' val_var ?a1); (case a1 => rfl))
  | ((with_reducible refine' val_c))
  | ((with_reducible refine' f_Vault_opening ?a1 ?a2 ?a3); (case a1 => assumption); (case a2 => walk_at "vl"); (case a3 => assumption))
  | ((with_reducible refine' f_Vault_money ?a1 ?a2 ?a3); (case a1 => assumption); (case a2 => walk_at "vl"); (case a3 => assumption))
  | ((with_reducible refine' f_Vault_sums ?a1 ?a2 ?a3); (case a1 => assumption); (case a2 => walk_at "vl"); (case a3 => assumption))
  | ((with_reducible refine' f_Vault_splices ?a1 ?a2 ?a3); (case a1 => assumption); (case a2 => walk_at "vl"); (case a3 => assumption))
  | ((with_reducible refine' f_Vault_least ?a1 ?a2 ?a3); (case a1 => assumption); (case a2 => walk_at "vl"); (case a3 => assumption))
  | ((with_reducible refine' f_Vault_published ?a1 ?a2 ?a3); (case a1 => assumption); (case a2 => walk_at "vl"); (case a3 => assumption))
  | ((with_reducible refine' f_Vault_since ?a1 ?a2 ?a3); (case a1 => assumption); (case a2 => walk_at "vl"); (case a3 => assumption))
  | ((with_reducible refine' f_Book_purses ?a1 ?a2 ?a3); (case a1 => assumption); (case a2 => walk_at "vl"); (case a3 => assumption))
  | ((with_reducible refine' f_Book_vaults ?a1 ?a2 ?a3); (case a1 => assumption); (case a2 => walk_at "vl"); (case a3 => assumption))
  | ((with_reducible refine' f_Book_receipts ?a1 ?a2 ?a3); (case a1 => assumption); (case a2 => walk_at "vl"); (case a3 => assumption))
  | ((with_reducible refine' f_Book_ended ?a1 ?a2 ?a3); (case a1 => assumption); (case a2 => walk_at "vl"); (case a3 => assumption))
  | ((with_reducible refine' f_Book_done ?a1 ?a2 ?a3); (case a1 => assumption); (case a2 => walk_at "vl"); (case a3 => assumption))
  | ((with_reducible refine' f_Book_height ?a1 ?a2 ?a3); (case a1 => assumption); (case a2 => walk_at "vl"); (case a3 => assumption))
  | ((with_reducible refine' f_Book_burnt ?a1 ?a2 ?a3); (case a1 => assumption); (case a2 => walk_at "vl"); (case a3 => assumption))
  | ((with_reducible refine' f_Ledger_book ?a1 ?a2 ?a3); (case a1 => assumption); (case a2 => walk_at "vl"); (case a3 => assumption))
  | ((with_reducible refine' f_Ledger_room ?a1 ?a2 ?a3); (case a1 => assumption); (case a2 => walk_at "vl"); (case a3 => assumption))
  | ((with_reducible refine' f_Ledger_waiting ?a1 ?a2 ?a3); (case a1 => assumption); (case a2 => walk_at "vl"); (case a3 => assumption))
  | ((with_reducible refine' v_ix ?a1 ?a2 ?a3 ?a4); (case a1 => walk_at "vl"); (case a2 => walk_at "vl"); (case a3 => assumption); (case a4 => rfl))
  | ((with_reducible refine' v_I0 ?a1 ?a2); (case a1 => walk_at "vl"); (case a2 => walk_at "vl"))
  | ((with_reducible refine' v_isN ?a1); (case a1 => walk_at "vl"))
  | ((with_reducible refine' v_notN ?a1); (case a1 => walk_at "vl"))
  | ((with_reducible refine' v_int1 ?a1); (case a1 => walk_at "vl"))
  | ((with_reducible refine' v_eq ?a1 ?a2 ?a3); (case a1 => walk_at "vl"); (case a2 => walk_at "vl"); (case a3 => rfl))
  | ((with_reducible refine' v_ne ?a1 ?a2 ?a3); (case a1 => walk_at "vl"); (case a2 => walk_at "vl"); (case a3 => rfl))
  | ((with_reducible refine' v_max2 ?a1 ?a2); (case a1 => walk_at "vl"); (case a2 => walk_at "vl"))
  | ((with_reducible refine' v_min2 ?a1 ?a2); (case a1 => walk_at "vl"); (case a2 => walk_at "vl")))
local macro_rules | `(tactic| walk_at "va") => `(tactic| first
  | (with_reducible exact va_nil)
  | ((with_reducible refine' va_cons ?a1 ?a2); (case a1 => walk_at "vl"); (case a2 => walk_at "va")))

def spBest (K : PySem.W.Frag) : Sp := fun vs H Q _ => ∃ (L : La) (b : Bk) (ts : List Thing), vs = [.ref L.lg] ∧ LedAt K H L b ts ∧ Bg b ∧ (∀ t ∈ ts, ActOk t.act) ∧ ts.length ≤ 1000 ∧ Tab K H ∧ (∀ H', Ex H H' → Q .non H') ∧
  ∀ H' (i : Nat) t, Ex H H' → ts[i]? = some t → Ready b t → Q (.int (i : Int)) H'
/-- what a change of the ledger keeps -/
structure FmL (L : La) (H H' : Hp) : Prop where
  ty : Ty H H'
  out : ∀ a o, H a = some o → ¬ InBk L.A a → a ≠ L.wl → ¬ Vl o → H' a = some o
  dom : ∀ a, H' a = none → H a = none
def prs (ts : List Thing) : List (Int × Int) := ts.map fun t => (t.payer, t.tag)
def fees (ts : List Thing) : Int := (ts.map fun t => t.fee).sum
structure Good (b : Bk) (ts : List Thing) (M : Int) : Prop where
  inv : Inv b M
  th : ∀ t ∈ ts, ThOk t
  cnt : b.done.length + ts.length ≤ 40
  sm : Small b (10 + 3 * b.done.length)
theorem Good.small {b : Bk} {ts : List Thing} {M : Int} (g : Good b ts M) : Small b 200 := g.sm.le (by have := g.cnt; omega)
def spBlock (K : PySem.W.Frag) : Sp := fun vs H Q _ => ∃ (L : La) (b : Bk) (ts : List Thing) (M : Int), vs = [.ref L.lg] ∧ LedAt K H L b ts ∧ Good b ts M ∧ Tab K H ∧
  ∀ H' b' ts' p das dts, FmL L H H' → LedAt K H' L b' ts' → Good b' ts' M → H p = none → H' p = some (.lst (das.map V.ref)) → ThingsAt K H' das dts → b'.done = b.done ++ prs dts → b'.burnt = b.burnt + fees dts → (∃ l, b'.ended = b.ended ++ l) → b'.done.length + ts'.length = b.done.length + ts.length → ¬ InBk L.A p → p ≠ L.wl → Q (.ref p) H'
section
variable {K : PySem.W.Frag} {L : La} {H H' H1 : Hp} {b b' : Bk} {ts : List Thing} {a p : Addr} {o u : HO}
theorem FmL.refl : FmL L H H := ⟨Ty.refl, fun _ _ h _ _ _ => h, fun _ h => h⟩
theorem FmL.trans (x : FmL L H H1) (y : FmL L H1 H') : FmL L H H' := ⟨x.ty.trans y.ty, fun a o h n1 n2 m => y.out a o (x.out a o h n1 n2 m) n1 n2 m, fun a h => x.dom a (y.dom a h)⟩
theorem FmL.of (e : Ex H H') : FmL L H H' := ⟨ex_ty e, fun a o h _ _ _ => e a o h, fun _ h => Evl.fresh_back e h⟩
theorem FmL.fm (e : Fm L.A H H') : FmL L H H' := ⟨e.ty, fun a o h n _ m => e.out a o h n m, e.dom⟩
theorem FmL.mut (x : FmL L H H') (h : H a = none) : FmL L H (upd H' a u) := ⟨fun c xs hc => by rw [upd_ne (ne_of_none hc h)]; exact x.ty c xs hc, fun c p hc nc nw m => by
  rw [upd_ne (ne_of_none hc h)]
  exact x.out c p hc nc nw m, fun _ h => x.dom _ (upd_dom h)⟩
theorem FmL.wl {xs : List V} (h : H L.wl = some (.lst xs)) : FmL L H (upd H L.wl u) := ⟨Ty.upd h (fun _ z => by cases z), fun c p hc _ nw _ => by rw [upd_ne nw]; exact hc, fun _ h => upd_dom h⟩
theorem LedAt.nlg (h : LedAt K H L b ts) : ¬ InBk L.A L.lg := by
  obtain ⟨dx, o1⟩ := h.ob
  obtain ⟨dxb, ob⟩ := h.bk.ob
  obtain ⟨das, d1, _⟩ := h.bk.dn
  rintro (z | z | z | z | z | z)
  · refine neH o1 ob (fun e => ?_) z
    injection e with e1 e2 e3
    have c1 := lF_book (b := L.A.bk) (r := L.room) (w := L.wl)
    rw [e3] at c1
    rw [show (bF L.A.pd L.A.vd L.A.rd L.A.el L.A.dl b.height b.burnt).lookup ("book" : Str) = none by kernel_rfl] at c1
    cases c1
  · exact neH o1 h.bk.pu (fun z => by cases z) z
  · exact neH o1 h.bk.va (fun z => by cases z) z
  · exact neH o1 h.bk.re (fun z => by cases z) z
  · exact neH o1 h.bk.en (fun z => by cases z) z
  · exact neH o1 d1 (fun z => by cases z) z
theorem LedAt.nwl (h : LedAt K H L b ts) : ¬ InBk L.A L.wl := by
  obtain ⟨as, w1, _⟩ := h.wt
  obtain ⟨dxb, ob⟩ := h.bk.ob
  rintro (z | z | z | z | z | z)
  · exact neH w1 ob (fun z => by cases z) z
  · exact neH w1 h.bk.pu (fun z => by cases z) z
  · exact neH w1 h.bk.va (fun z => by cases z) z
  · exact neH w1 h.bk.re (fun z => by cases z) z
  · exact h.n1 z
  · exact h.n2 z
theorem LedAt.fm (h : LedAt K H L b ts) (f : Fm L.A H H') (B : BookAt K H' L.A b') : LedAt K H' L b' ts := by
  obtain ⟨dx, o1⟩ := h.ob
  obtain ⟨as, w1, w2⟩ := h.wt
  exact ⟨⟨dx, f.out _ _ o1 h.nlg nvl_lF⟩, B, ⟨as, f.out _ _ w1 h.nwl nvl_lst, w2.ty f.ty⟩, h.n1, h.n2⟩
theorem InBk.some (h : LedAt K H L b ts) (hp : InBk L.A p) : ∃ o, H p = some o := by
  obtain ⟨dxb, ob⟩ := h.bk.ob
  obtain ⟨das, d1, _⟩ := h.bk.dn
  rcases hp with rfl | rfl | rfl | rfl | rfl | rfl
  · exact ⟨_, ob⟩
  · exact ⟨_, h.bk.pu⟩
  · exact ⟨_, h.bk.va⟩
  · exact ⟨_, h.bk.re⟩
  · exact ⟨_, h.bk.en⟩
  · exact ⟨_, d1⟩
/-- a list that is none of the ledger's -/
theorem LedAt.upd (h : LedAt K H L b ts) {xs : List V} (hp : H p = some (.lst xs)) (n1 : ¬ InBk L.A p) (n2 : p ≠ L.wl) : LedAt K (upd H p u) L b ts := by
  obtain ⟨dx, o1⟩ := h.ob
  obtain ⟨as, w1, w2⟩ := h.wt
  have ty : Ty H (L2.upd H p u) := Ty.upd hp (fun _ z => by cases z)
  exact ⟨⟨dx, by rw [upd_ne (neH o1 hp fun z => by cases z)]; exact o1⟩, h.bk.upd hp (fun _ z => by cases z) nvl_lst (fun z => n1 (.inl z)) (fun z => n1 (.inr (.inl z))) (fun z => n1 (.inr (.inr (.inl z)))) (fun z => n1 (.inr (.inr (.inr (.inl z))))) (fun z => n1 (.inr (.inr (.inr (.inr (.inl z)))))) (fun z => n1 (.inr (.inr (.inr (.inr (.inr z)))))),
    ⟨as, by rw [upd_ne n2.symm]; exact w1, w2.ty ty⟩, h.n1, h.n2⟩
theorem Tab.fm (h : Tab K H) (L : La) (hl : LedAt K H L b ts) (f : FmL L H H') : Tab K H' := by
  obtain ⟨dxb, ob⟩ := hl.bk.ob
  obtain ⟨das, d1, _⟩ := hl.bk.dn
  obtain ⟨as, w1, _⟩ := hl.wt
  refine f.out _ _ h ?_ (neH h w1 fun z => by cases z) nvl_ext
  rintro (z | z | z | z | z | z)
  · exact neH h ob (fun z => by cases z) z
  · exact neH h hl.bk.pu (fun z => by cases z) z
  · exact neH h hl.bk.va (fun z => by cases z) z
  · exact neH h hl.bk.re (fun z => by cases z) z
  · exact neH h hl.bk.en (fun z => by cases z) z
  · exact neH h d1 (fun z => by cases z) z
end
theorem map_erase {as : List Addr} {i : Nat} : (as.map V.ref).eraseIdx i = (as.eraseIdx i).map V.ref := by
  refine List.ext_getElem? fun j => ?_
  rw [List.getElem?_eraseIdx, List.getElem?_map, List.getElem?_map, List.getElem?_map, List.getElem?_eraseIdx]
  split <;> rfl
theorem ThingsAt.erase {K : PySem.W.Frag} {H : Hp} {as : List Addr} {ts : List Thing} (h : ThingsAt K H as ts) (i : Nat) : ThingsAt K H (as.eraseIdx i) (ts.eraseIdx i) := by
  refine ⟨by rw [List.length_eraseIdx, List.length_eraseIdx, h.1], fun j a t h1 h2 => ?_⟩
  rw [List.getElem?_eraseIdx] at h1 h2
  split at h1
  · rename_i hj
    rw [if_pos hj] at h2
    exact h.2 _ a t h1 h2
  · rename_i hj
    rw [if_neg hj] at h2
    exact h.2 _ a t h1 h2
theorem seq_at {i n : Nat} (h : i < n) : seqIndex? (i : Int) n = some i := by
  unfold seqIndex?
  have h1 : ¬ ((i : Int) < 0) := by omega
  rw [if_neg h1]
  have h2 : (decide (0 ≤ (i : Int)) && decide ((i : Int) < (n : Int))) = true := by
    rw [decide_eq_true (by omega : (0 : Int) ≤ i), decide_eq_true (by omega : (i : Int) < n)]
    rfl
  show (if (decide (0 ≤ (i : Int)) && decide ((i : Int) < (n : Int))) = true then some (i : Int).toNat else none) = some i
  rw [if_pos h2]
  rfl
section
variable {P : Program} {w : World} {K : PySem.W.Frag} {mg : Str → Option Value} {base : Heap}
theorem ok_best (T : Txt K mg) (TB : Tb K mg base) : HasM P w K mg base "Ledger" "best" 8 ["self"] (spBest K) := by
  have G_reasons : HasF P w K mg base "reasons" 7 ["book", "thing"] (spReasons K) := ok_reasons T TB
  refine hasM (st := s_Ledger_best) T.f_Ledger_best T.c_Ledger T.m_Ledger_best sc_Ledger_best (fun _ _ _ _ _ _ us hl => match us, hl with | [_], _ => rfl) (fun vs H Q E h => ?_) (fun f cdv A0 outer s H vs Q E hr h => ?_)
  · obtain ⟨L, b, ts, rfl, _⟩ := h
    rfl
  · obtain ⟨L, b, ts, rfl, hL, bg, ao, hz, tab, k1, k2⟩ := h
    obtain ⟨dx, o1⟩ := hL.ob
    obtain ⟨as, w1, w2⟩ := hL.wt
    refine ⟨_, (pss_cons (ps_set (i := 1) sc_Ledger_best.nd rfl (by first | exact Or.inl rfl | exact Or.inr rfl) pe_non)
      (pss_cons (ps_for PassesOwn.never rfl (pi_enum (by rfl) T.z_enumerate (pa_cons (pe_fldK (K := K) rfl (pv 0) rfl) pa_nil)) (pg_tup rfl (pgs_cons (pg_name (i := 2) sc_Ledger_best.nd rfl (by first | exact Or.inl rfl | exact Or.inr rfl)) (pgs_cons (pg_name (i := 3) sc_Ledger_best.nd rfl (by first | exact Or.inl rfl | exact Or.inr rfl)) pgs_nil))) (pss_one (ps_if (PW.pt (pw_or (pt_cmpR op_isN (pv 1) pe_non (nomark _)) (pw_or1 (pt_cmpR op_gt (pe_ix (ix_tupK (K := K) rfl) (pv 3) pe_int (fun _ _ => rfl)) (pe_ix (ix_tupK (K := K) rfl) (pe_ix (ix_listK (K := K) rfl) (pe_fldK (K := K) rfl (pv 0) rfl) (pv 1) (fun _ _ => rfl)) pe_int (fun _ _ => rfl)) (nomark _))))) (pss_one (ps_if (pt_cmpR op_eq (pe_callB call_len_seq (by rfl) T.z_len (by decide +kernel) (pa_cons (pe_f G_reasons hr (pa_cons (pe_fldK (K := K) rfl (pv 0) rfl) (pa_cons (pv 3) pa_nil))) pa_nil)) pe_int (nomark _)) (pss_one (ps_set (i := 1) sc_Ledger_best.nd rfl (by first | exact Or.inl rfl | exact Or.inr rfl) (pv 2))) pss_nil)) pss_nil)))
      (pss_one (ps_ret (pv 1))))), ?_⟩
    refine q_set val_c (q_for ?_)
    refine' (f_Ledger_waiting T (val_var rfl) o1 : Val (tFld K (tVar 0) "waiting") _ H (.ref L.wl)) _ ⟨L.wl, as.map V.ref, rfl, SqL.of w1, ?_⟩
    refine for_it (walk_enum (xs := as.map V.ref)) (fun i σ' H' => ∃ fv v2 v3, σ' = [some (.ref L.lg), some fv, v2, v3] ∧ Ex H H' ∧ (fv = .non ∨ ∃ (j : Nat) (t : Thing), fv = .int (j : Int) ∧ ts[j]? = some t ∧ Ready b t)) ⟨.non, none, none, rfl, Evl.Ex.refl H, .inl rfl⟩ (fun i σ' H' _ z => ?_) (fun i v σ' H' H2 hi z y => ?_) (fun σ' H' z => ?_)
    · obtain ⟨fv, v2, v3, _, e, _⟩ := z
      exact SqL.of (e _ _ w1)
    · obtain ⟨fv, v2, v3, rfl, e, hfv⟩ := z
      obtain ⟨tp, iv, y2, rfl, hn, rfl, hiv, hy2⟩ := y
      cases hiv
      obtain ⟨a, hat, rfl⟩ := at_ref hy2
      obtain ⟨t, ht⟩ : ∃ t, ts[i]? = some t := by
        have := (List.getElem?_eq_some_iff.mp hat).1
        exact ⟨ts[i]'(by rw [← w2.1]; exact this), List.getElem?_eq_getElem _⟩
      refine g_tup2 (SqT.of upd_same) ?_
      have e2 : Ex H (upd H' tp (.tup [.int (i : Int), .ref a])) := e.trans (Evl.Ex.new hn)
      generalize upd H' tp (.tup [.int (i : Int), .ref a]) = H2 at e2 ⊢
      have hT := (w2.2 i a t hat ht).ty (ex_ty e2)
      have hL2 := hL.ex e2
      obtain ⟨dx2, o2⟩ := hL2.ob
      obtain ⟨aa, ha, t1, _⟩ := id hT.at_
      have inner : tIfS (tTest (tOp rEq (tCB (fun ys H Q => ∃ p zs, ys = [V.ref p] ∧ (SqL K H p zs ∨ SqT K H p zs) ∧ Q (V.int zs.length) H) (tCons (tCall (spReasons K) [] E0 (tCons (tFld K (tVar 0) "book") (tCons (tVar 3) tNil))) tNil)) (tC (.int 0)))) (tAsg (tVar 2) (gName 1)) tNext { nx := fun σ' H' => ∃ fv v2 v3, σ' = [some (.ref L.lg), some fv, v2, v3] ∧ Ex H H' ∧ (fv = .non ∨ ∃ (j : Nat) (t : Thing), fv = .int (j : Int) ∧ ts[j]? = some t ∧ Ready b t), rt := Q, bk := fun σ' H' => tRet (tVar 1) { nx := fun _ H' => Q .non H', rt := Q } σ' H', ct := fun σ' H' => ∃ fv v2 v3, σ' = [some (.ref L.lg), some fv, v2, v3] ∧ Ex H H' ∧ (fv = .non ∨ ∃ (j : Nat) (t : Thing), fv = .int (j : Int) ∧ ts[j]? = some t ∧ Ready b t) } [some (.ref L.lg), some fv, some (.int (i : Int)), some (.ref a)] H2 := by
        refine s_if (q_testT (q_opG (q_cb (q_consG ?_))))
        refine' q_call (by walk_at "va") ⟨L.A, b, a, t, rfl, hL2.bk, bg, hT, ao t (List.mem_of_getElem? ht), tab.ex e2, fun H3 p xs e3 _ hp _ hx => q_nil ⟨p, xs, rfl, .inl (SqL.of hp), go val_c ⟨rfl, _, rfl, if_b (fun hb => ?_) (fun _ => ?_)⟩⟩⟩
        · have hb2 : (V.int (xs.length : Int)) = V.int 0 := of_decide_eq_true hb
          have hx0 : xs = [] := by
            injection hb2 with hb3
            exact List.eq_nil_of_length_eq_zero (by omega)
          refine s_asg (go (val_var rfl) ?_)
          exact ⟨.int (i : Int), _, _, rfl, e2.trans e3, .inr ⟨i, t, rfl, ht, hx hx0⟩⟩
        · exact ⟨fv, _, _, rfl, e2.trans e3, hfv⟩
      rcases hfv with rfl | ⟨j, tj, rfl, htj, _⟩
      · exact st_if (b := true) (v_is' (a_or2 (b := true) (c := false) (a_val (v_is (v_isN (x := .non) (val_var rfl)) rfl)) (fun z => by cases z)) rfl) (fun _ => inner) (fun z => by cases z)
      · obtain ⟨as2, w3, w4⟩ := hL2.wt
        obtain ⟨aj, haj⟩ : ∃ aj, as2[j]? = some aj := by
          have := (List.getElem?_eq_some_iff.mp htj).1
          exact ⟨as2[j]'(by rw [w4.1]; exact this), List.getElem?_eq_getElem _⟩
        obtain ⟨aa2, ha2, t2, _⟩ := (w4.2 j aj tj haj htj).at_
        refine st_if (b := (false || decide (t.fee > tj.fee))) (a_or2 (b := false) (a_val (v_is (v_isN (x := .int (j : Int)) (val_var rfl)) rfl)) (fun _ => ?_)) (fun _ => inner) (fun _ => ?_)
        · refine' a_val (v_I0 (v_ix (i := 3) (v := .int t.fee) (val_var rfl) val_c t1 rfl) (v_ix (i := 3) (v := .int tj.fee) (v_ixL (i := (j : Int)) (v := .ref aj) (by walk_at "vl") (val_var rfl) w3 (at_of (j := j) rfl (by rw [List.getElem?_map, haj]; rfl))) val_c t2 rfl))
        · exact ⟨.int (j : Int), _, _, rfl, e2, .inr ⟨j, tj, rfl, htj, by assumption⟩⟩
    · obtain ⟨fv, v2, v3, rfl, e, hfv⟩ := z
      refine s_ret (go (val_var rfl) ?_)
      rcases hfv with rfl | ⟨j, tj, rfl, htj, hr⟩
      · exact k1 _ e
      · exact k2 _ j tj e htj hr
theorem ok_block (T : Txt K mg) (TB : Tb K mg base) : HasM P w K mg base "Ledger" "block" 9 ["self"] (spBlock K) := by
  have G_Ledger_best : HasM P w K mg base "Ledger" "best" 8 ["self"] (spBest K) := ok_best T TB
  have G_carry_out : HasF P w K mg base "carry_out" 7 ["book", "thing"] (spCarryOut K) := ok_carry_out T
  refine hasM (st := s_Ledger_block) T.f_Ledger_block T.c_Ledger T.m_Ledger_block sc_Ledger_block (fun _ _ _ _ _ _ us hl => match us, hl with | [_], _ => rfl) (fun vs H Q E h => ?_) (fun f cdv A0 outer s H vs Q E hr h => ?_)
  · obtain ⟨L, b, ts, M, rfl, _⟩ := h
    rfl
  · obtain ⟨L, b0, ts0, M, rfl, hL, gd, tab, k⟩ := h
    obtain ⟨dx, o1⟩ := hL.ob
    obtain ⟨dxb, ob⟩ := hL.bk.ob
    refine ⟨_, (pss_cons (ps_fld (pe_fldK (K := K) rfl (pv 0) rfl) (pe_op op_add (pe_fldK (K := K) rfl (pe_fldK (K := K) rfl (pv 0) rfl) rfl) pe_int) rfl)
      (pss_cons (ps_set (i := 1) sc_Ledger_block.nd rfl (by first | exact Or.inl rfl | exact Or.inr rfl) (pe_lst pa_nil))
      (pss_cons (ps_set (i := 2) sc_Ledger_block.nd rfl (by first | exact Or.inl rfl | exact Or.inr rfl) (pe_mm0 G_Ledger_best (pv 0) hr))
      (pss_cons (ps_while PassesOwn.never (PW.pt (pw_and (pt_cmpR op_notN (pv 2) pe_non (nomark _)) (pw_and1 (pt_cmpR op_lt (pe_callB call_len_seq (by rfl) T.z_len (by decide +kernel) (pa_cons (pv 1) pa_nil)) (pe_fldK (K := K) rfl (pv 0) rfl) (nomark _))))) (pss_cons (ps_set (i := 3) sc_Ledger_block.nd rfl (by first | exact Or.inl rfl | exact Or.inr rfl) (pe_bm PySem.F.plainAttrs_list PySem.F.slot_list_pop PySem.F.type_list_pop mt_popAt (pe_fldK (K := K) rfl (pv 0) rfl) (pa_cons (pv 2) pa_nil)))
      (pss_cons (ps_expr (pe_f G_carry_out (hr.mono (by decide)) (pa_cons (pe_fldK (K := K) rfl (pv 0) rfl) (pa_cons (pv 3) pa_nil))))
      (pss_cons (ps_expr (pe_bm PySem.F.plainAttrs_list PySem.F.slot_list_append PySem.F.type_list_append mt_append (pv 1) (pa_cons (pv 3) pa_nil)))
      (pss_one (ps_set (i := 2) sc_Ledger_block.nd rfl (by first | exact Or.inl rfl | exact Or.inr rfl) (pe_mm0 G_Ledger_best (pv 0) hr)))))))
      (pss_one (ps_ret (pv 1))))))), ?_⟩
    -- height
    refine' q_seq (s_fld (y := .int (b0.height + 1)) (a := L.A.bk) (by walk_at "vl") (by walk_at "vl") ob T.c_Book T.n_Book_height (by show 7 < 1000; decide) ?_)
    rw [bF_put_height]
    have B1 := hL.bk.setOb (dx := dxb) (he := b0.height + 1) (bu := b0.burnt) ⟨_, ob⟩
    have f1 : Fm L.A H (upd H L.A.bk (.ins (He.ga K "Book") dxb (bF L.A.pd L.A.vd L.A.rd L.A.el L.A.dl (b0.height + 1) b0.burnt))) := Fm.bk (.inl rfl) ob (fun _ z => by cases z)
    have hL1 := hL.fm f1 B1
    have fl1 := FmL.fm (L := L) f1
    have gd1 : Good { b0 with height := b0.height + 1, burnt := b0.burnt } ts0 M := ⟨⟨gd.inv.pn, gd.inv.pp, gd.inv.vn, gd.inv.vg, gd.inv.ve, gd.inv.tot, gd.inv.dn⟩, gd.th, gd.cnt, ⟨gd.sm.pu, gd.sm.va, gd.sm.re, gd.sm.en, gd.sm.dn⟩⟩
    have tab1 := tab.fm L hL fl1
    dsimp only
    clear B1 f1 o1 ob
    generalize upd H L.A.bk (.ins (He.ga K "Book") dxb (bF L.A.pd L.A.vd L.A.rd L.A.el L.A.dl (b0.height + 1) b0.burnt)) = H1 at hL1 fl1 tab1 ⊢
    -- did
    refine q_asg (q_lst va_nil (Nat.zero_le _) fun pd hpd => ?_)
    have hpd0 : H pd = none := fl1.dom pd hpd
    have npd : ¬ InBk L.A pd := fun z => by
      obtain ⟨o', ho'⟩ := InBk.some hL1 z
      rw [hpd] at ho'
      cases ho'
    have nwpd : pd ≠ L.wl := fun z => by
      obtain ⟨as, w1, _⟩ := hL1.wt
      rw [z, w1] at hpd
      cases hpd
    have hL2 := hL1.ex (Evl.Ex.new (o := .lst []) hpd)
    have fl2 := fl1.mut (u := .lst []) hpd0
    have tab2 := tab1.ex (Evl.Ex.new (o := .lst []) hpd)
    have c2 : L2.upd H1 pd (.lst []) pd = some (.lst (([] : List Addr).map V.ref)) := upd_same
    clear hL1 fl1 tab1 hpd
    generalize L2.upd H1 pd (.lst []) = H2 at hL2 fl2 tab2 c2 ⊢
    -- what is true of the state
    let St := fun (m : Nat) (av : V) (H' : Hp) (b' : Bk) (ts' : List Thing) => ts'.length = m ∧ FmL L H H' ∧ LedAt K H' L b' ts' ∧ Good b' ts' M ∧ Tab K H' ∧ (∃ das dts, H' pd = some (.lst (das.map V.ref)) ∧ ThingsAt K H' das dts ∧ b'.done = b0.done ++ prs dts ∧ b'.burnt = b0.burnt + fees dts) ∧ (∃ l, b'.ended = b0.ended ++ l) ∧ b'.done.length + ts'.length = b0.done.length + ts0.length ∧
      (av = .non ∨ ∃ (i : Nat) (t : Thing), av = .int (i : Int) ∧ ts'[i]? = some t ∧ Ready b' t)
    have best : ∀ (m : Nat) (σ' : L2.St) (H' : Hp) (b' : Bk) (ts' : List Thing) (D : Ends), σ'[0]? = some (some (.ref L.lg)) → St m .non H' b' ts' → (∀ H2 av, Ex H' H2 → St m av H2 b' ts' → D.nx (σ'.set 2 (some av)) H2) → tAsg (tMeth (He.ga K "Ledger") "best" (spBest K) [] E0 (tVar 0) tNil) (gName 2) D σ' H' := by
      rintro m σ' H' b' ts' D hσ ⟨q1, q2, q3, q4, q5, ⟨das, dts, q6, q7, q8, q9⟩, q10, q11, _⟩ hk
      obtain ⟨dx', o'⟩ := q3.ob
      have all : ∀ H2 av, Ex H' H2 → (av = .non ∨ ∃ (i : Nat) (t : Thing), av = .int (i : Int) ∧ ts'[i]? = some t ∧ Ready b' t) → St m av H2 b' ts' := fun H2 av e hav => ⟨q1, q2.trans (FmL.of e), q3.ex e, q4, q5.ex e, ⟨das, dts, e _ _ q6, q7.ty (ex_ty e), q8, q9⟩, q10, q11, hav⟩
      refine s_asg (q_meth (val_var hσ) o' lF_no_best va_nil ⟨L, b', ts', rfl, q3, q4.inv.bg, fun t ht => (q4.th t ht).act, by have := q4.cnt; omega, q5, fun H2 e => hk H2 _ e (all H2 _ e (.inl rfl)), fun H2 i t e ht hr => hk H2 _ e (all H2 _ e (.inr ⟨i, t, rfl, ht, hr⟩))⟩)
    have s0 : St ts0.length .non H2 { b0 with height := b0.height + 1, burnt := b0.burnt } ts0 := ⟨rfl, fl2, hL2, gd1, tab2, ⟨[], [], c2, ⟨rfl, fun i a t h1 _ => by cases h1⟩, (List.append_nil _).symm, by show b0.burnt = b0.burnt + 0; omega⟩, ⟨[], (List.append_nil _).symm⟩, rfl, .inl rfl⟩
    clear hL2 fl2 tab2 c2 gd1
    refine q_seq (best _ _ _ _ _ _ rfl s0 fun H3 av0 e3 s1 => ?_)
    clear s0
    refine q_seq ?_
    refine ⟨fun m σ' H' => ∃ av tv b' ts', σ' = [some (.ref L.lg), some (.ref pd), some av, tv] ∧ St m av H' b' ts', ⟨_, av0, none, _, ts0, rfl, s1⟩, ?_⟩
    clear s1 e3
    rintro m σ' H' ⟨av, tv, b', ts', rfl, hS⟩
    obtain ⟨q1, q2, q3, q4, q5, ⟨das, dts, q6, q7, q8, q9⟩, q10, q11, hav⟩ := id hS
    obtain ⟨dx', o'⟩ := q3.ob
    have fin : tRet (tVar 1) { nx := fun _ H' => Q .non H', rt := Q } [some (.ref L.lg), some (.ref pd), some av, tv] H' := s_ret (go (val_var rfl) (k H' b' ts' pd das dts q2 q3 q4 hpd0 q6 q7 q8 q9 q10 q11 npd nwpd))
    rcases hav with rfl | ⟨i, t, rfl, ht, hr⟩
    · exact goA (v_is' (a_and2 (b := false) (c := true) (a_val (v_is (v_notN (x := .non) (val_var rfl)) rfl)) (fun z => by cases z)) rfl) (if_f fin)
    · refine goA (a_and2 (b := true) (c := decide ((das.length : Int) < L.room)) (a_val (v_is (v_notN (x := .int (i : Int)) (val_var rfl)) rfl)) (fun _ => ?_)) (if_b (fun _ => ?_) (fun _ => fin))
      · have z : Ans (tTest (tOp (rI0 fun i j => V.bl (decide (i < j))) (tCB (fun ys H Q => ∃ p zs, ys = [V.ref p] ∧ (SqL K H p zs ∨ SqT K H p zs) ∧ Q (V.int zs.length) H) (tCons (tVar 1) tNil)) (tFld K (tVar 0) "room"))) [some (.ref L.lg), some (.ref pd), some (.int (i : Int)), tv] H' (decide (((das.map V.ref).length : Int) < L.room)) := a_val (v_I0 (v_len (p := pd) (val_var rfl) (.inl (SqL.of q6))) (f_Ledger_room T (val_var rfl) o'))
        rw [List.length_map] at z
        exact z
      · refine ⟨fun σ2 H2 => ∃ m', m' < m ∧ ∃ av tv b' ts', σ2 = [some (.ref L.lg), some (.ref pd), some av, tv] ∧ St m' av H2 b' ts', fun _ _ h => h, ?_⟩
        clear hS fin
        obtain ⟨as, w1, w2⟩ := q3.wt
        obtain ⟨a, hat⟩ : ∃ a, as[i]? = some a := by
          have := (List.getElem?_eq_some_iff.mp ht).1
          exact ⟨as[i]'(by rw [w2.1]; exact this), List.getElem?_eq_getElem _⟩
        have hi := (List.getElem?_eq_some_iff.mp ht).1
        have hT := w2.2 i a t hat ht
        have cnt := q4.cnt
        -- thing = self.waiting.pop(at)
        refine q_asg ?_
        refine (f_Ledger_waiting T (val_var rfl) o' : Val (tFld K (tVar 0) "waiting") _ H' (.ref L.wl)) _ ⟨.inl ⟨rfl, _, SqL.of w1⟩, q_cons (v := .int (i : Int)) (val_var rfl) (q_nil ⟨L.wl, as.map V.ref, (i : Int), i, .ref a, rfl, rfl, w1, by omega, by omega, seq_at (by rw [List.length_map, w2.1]; exact hi), by rw [List.getElem?_map, hat]; rfl, ?_⟩)⟩
        rw [map_erase]
        have hL4 := q3.wait (w2.erase i)
        have f4 : FmL L H' (upd H' L.wl (.lst ((as.eraseIdx i).map V.ref))) := FmL.wl w1
        have tab4 := q5.fm L q3 f4
        have c4 : upd H' L.wl (.lst ((as.eraseIdx i).map V.ref)) pd = some (.lst (das.map V.ref)) := by rw [upd_ne nwpd]; exact q6
        have hT4 := hT.ty f4.ty
        have q74 := q7.ty f4.ty
        have g4 := q2.trans f4
        clear q2 q3 q5 q6 q7 w1 o' f4 hT
        generalize upd H' L.wl (.lst ((as.eraseIdx i).map V.ref)) = H4 at hL4 tab4 c4 hT4 q74 g4 ⊢
        obtain ⟨dx4, o4⟩ := hL4.ob
        -- carry_out(self.book, thing)
        refine q_drop ?_
        have tok := q4.th t (List.mem_of_getElem? ht)
        refine' q_call (by walk_at "va") ⟨L.A, b', a, t, rfl, hL4.bk, q4.inv.bg, q4.small.le (by decide), hT4, tok.act, q4.inv.vn, hr.act, fun H5 b5 hst f5 B5 => ?_⟩
        obtain ⟨I5, K5⟩ := step_ok q4.inv tok hr hst
        have hL5 := hL4.fm f5 B5
        have g5 := g4.trans (FmL.fm (L := L) f5)
        have tab5 := tab4.fm L hL4 (FmL.fm (L := L) f5)
        have c5 := f5.out _ _ c4 npd nvl_lst
        have q75 := q74.ty f5.ty
        have hT5 := hT4.ty f5.ty
        have dl : b5.done.length = b'.done.length + 1 := by rw [K5.dn, List.length_append]; rfl
        have el : (ts'.eraseIdx i).length + 1 = ts'.length := by
          rw [List.length_eraseIdx_of_lt hi]
          omega
        have gd5 : Good b5 (ts'.eraseIdx i) M := ⟨I5, fun t' ht' => q4.th t' (List.mem_of_mem_eraseIdx ht'), by omega, (K5.sm _ q4.sm).le (by omega)⟩
        -- did.append(thing)
        refine q_drop ?_
        refine q_app (xs := das.map V.ref) (val_var (v := .ref pd) rfl) c5 (by rw [List.length_map, q75.1]; have h8 := congrArg List.length q8; rw [List.length_append] at h8; unfold prs at h8; rw [List.length_map] at h8; omega) (val_var (v := .ref a) rfl) ?_
        have e6 : das.map V.ref ++ [V.ref a] = (das ++ [a]).map V.ref := by rw [List.map_append]; rfl
        rw [e6]
        have hL6 := hL5.upd (u := .lst ((das ++ [a]).map V.ref)) c5 npd nwpd
        have ty6 : Ty H5 (upd H5 pd (.lst ((das ++ [a]).map V.ref))) := Ty.upd c5 (fun _ z => by cases z)
        have g6 := g5.mut (u := .lst ((das ++ [a]).map V.ref)) hpd0
        have tab6 : Tab K (upd H5 pd (.lst ((das ++ [a]).map V.ref))) := by
          show upd H5 pd (.lst ((das ++ [a]).map V.ref)) (pTot K) = _
          rw [upd_ne (neH tab5 c5 fun z => by cases z)]
          exact tab5
        have c6 : upd H5 pd (.lst ((das ++ [a]).map V.ref)) pd = some (.lst ((das ++ [a]).map V.ref)) := upd_same
        have q76 := (q75.snoc hT5).ty ty6
        obtain ⟨l1, hl1⟩ := q10
        obtain ⟨l2, hl2⟩ := K5.en
        have s6 : St (ts'.eraseIdx i).length .non (upd H5 pd (.lst ((das ++ [a]).map V.ref))) b5 (ts'.eraseIdx i) := by
          refine ⟨rfl, g6, hL6, gd5, tab6, ⟨das ++ [a], dts ++ [t], c6, q76, ?_, ?_⟩, ⟨l1 ++ l2, ?_⟩, by omega, .inl rfl⟩
          · rw [K5.dn, q8]
            unfold prs
            rw [List.map_append, List.append_assoc]
            rfl
          · rw [K5.bu, q9]
            unfold fees
            rw [List.map_append, List.sum_append]
            show b0.burnt + _ + t.fee = b0.burnt + (_ + (t.fee + 0))
            omega
          · rw [hl2, hl1, List.append_assoc]
        -- at = self.best()
        refine best _ _ _ _ _ _ rfl s6 fun H7 av7 e7 s7 => ?_
        exact ⟨_, by omega, av7, _, b5, _, rfl, s7⟩
end
end Tk
/-! The law's own helpers: rows, key, locks. -/
namespace Tk
open PySem PySem.Spec PyProof.Rows L2
local macro_rules | `(tactic| walk_at "vl") => `(tactic| first
  | ((with_reducible refine' val_var ?a1); (case a1 => rfl))
  | ((with_reducible refine' val_c))
  | ((with_reducible refine' f_Vault_opening ?a1 ?a2 ?a3); (case a1 => assumption); (case a2 => walk_at "vl"); (case a3 => assumption))
  | ((with_reducible refine' f_Vault_money ?a1 ?a2 ?a3); (case a1 => assumption); (case a2 => walk_at "vl"); (case a3 => assumption))
  | ((with_reducible refine' f_Vault_sums ?a1 ?a2 ?a3); (case a1 => assumption); (case a2 => walk_at "vl"); (case a3 => assumption))
  | ((with_reducible refine' f_Vault_splices ?a1 ?a2 ?a3); (case a1 => assumption); (case a2 => walk_at "vl"); (case a3 => assumption))
  | ((with_reducible refine' f_Vault_least ?a1 ?a2 ?a3); (case a1 => assumption); (case a2 => walk_at "vl"); (case a3 => assumption))
  | ((with_reducible refine' f_Vault_published ?a1 ?a2 ?a3); (case a1 => assumption); (case a2 => walk_at "vl"); (case a3 => assumption))
  | ((with_reducible refine' f_Vault_since ?a1 ?a2 ?a3); (case a1 => assumption); (case a2 => walk_at "vl"); (case a3 => assumption))
  | ((with_reducible refine' f_Book_purses ?a1 ?a2 ?a3); (case a1 => assumption); (case a2 => walk_at "vl"); (case a3 => assumption))
  | ((with_reducible refine' f_Book_vaults ?a1 ?a2 ?a3); (case a1 => assumption); (case a2 => walk_at "vl"); (case a3 => assumption))
  | ((with_reducible refine' f_Book_receipts ?a1 ?a2 ?a3); (case a1 => assumption); (case a2 => walk_at "vl"); (case a3 => assumption))
  | ((with_reducible refine' f_Book_ended ?a1 ?a2 ?a3); (case a1 => assumption); (case a2 => walk_at "vl"); (case a3 => assumption))
  | ((with_reducible refine' f_Book_done ?a1 ?a2 ?a3); (case a1 => assumption); (case a2 => walk_at "vl"); (case a3 => assumption))
  | ((with_reducible refine' f_Book_height ?a1 ?a2 ?a3); (case a1 => assumption); (case a2 => walk_at "vl"); (case a3 => assumption))
  | ((with_reducible refine' f_Book_burnt ?a1 ?a2 ?a3); (case a1 => assumption); (case a2 => walk_at "vl"); (case a3 => assumption))
  | ((with_reducible refine' f_Ledger_book ?a1 ?a2 ?a3); (case a1 => assumption); (case a2 => walk_at "vl"); (case a3 => assumption))
  | ((with_reducible refine' f_Ledger_room ?a1 ?a2 ?a3); (case a1 => assumption); (case a2 => walk_at "vl"); (case a3 => assumption))
  | ((with_reducible refine' f_Ledger_waiting ?a1 ?a2 ?a3); (case a1 => assumption); (case a2 => walk_at "vl"); (case a3 => assumption))
  | ((with_reducible refine' v_ix ?a1 ?a2 ?a3 ?a4); (case a1 => walk_at "vl"); (case a2 => walk_at "vl"); (case a3 => assumption); (case a4 => rfl))
  | ((with_reducible refine' v_I0 ?a1 ?a2); (case a1 => walk_at "vl"); (case a2 => walk_at "vl"))
  | ((with_reducible refine' v_isN ?a1); (case a1 => walk_at "vl"))
  | ((with_reducible refine' v_notN ?a1); (case a1 => walk_at "vl"))
  | ((with_reducible refine' v_int1 ?a1); (case a1 => walk_at "vl"))
  | ((with_reducible refine' v_eq ?a1 ?a2 ?a3); (case a1 => walk_at "vl"); (case a2 => walk_at "vl"); (case a3 => rfl))
  | ((with_reducible refine' v_ne ?a1 ?a2 ?a3); (case a1 => walk_at "vl"); (case a2 => walk_at "vl"); (case a3 => rfl))
  | ((with_reducible refine' v_max2 ?a1 ?a2); (case a1 => walk_at "vl"); (case a2 => walk_at "vl"))
  | ((with_reducible refine' v_min2 ?a1 ?a2); (case a1 => walk_at "vl"); (case a2 => walk_at "vl")))
local macro_rules | `(tactic| walk_at "va") => `(tactic| first
  | (with_reducible exact va_nil)
  | ((with_reducible refine' va_cons ?a1 ?a2); (case a1 => walk_at "vl"); (case a2 => walk_at "va")))

local macro_rules | `(tactic| walk_at "vl") => `(tactic| ((with_reducible refine' v_I ?a1 ?a2 ?a3); (case a1 => walk_at "vl"); (case a2 => walk_at "vl"); (case a3 => first | decide | exact .inr ⟨by decide, by decide⟩ | exact .inl ⟨by decide, by decide⟩ | exact ⟨by decide, by decide⟩)))
theorem LocksAt.snoc {K : PySem.W.Frag} {H : Hp} {as : List Addr} {ls : List Lk} {a : Addr} {t : Lk} (h : LocksAt K H as ls) (ht : Tp K H a (lkV t)) : LocksAt K H (as ++ [a]) (ls ++ [t]) := by
  refine ⟨by rw [List.length_append, List.length_append, h.1]; rfl, fun i b q h1 h2 => ?_⟩
  have hl := h.1
  by_cases hi : i < as.length
  · rw [List.getElem?_append_left hi] at h1
    rw [List.getElem?_append_left (by omega)] at h2
    exact h.2 i b q h1 h2
  · rw [List.getElem?_append_right (by omega)] at h1
    rw [List.getElem?_append_right (by omega)] at h2
    have e1 : i - as.length = 0 := by
      have := (List.getElem?_eq_some_iff.mp h1).1
      simp at this
      omega
    have e2 : i - ls.length = 0 := by omega
    rw [e1] at h1
    rw [e2] at h2
    cases h1
    cases h2
    exact ht
def spLawRows (K : PySem.W.Frag) : Sp := fun vs H Q _ => ∃ (a : Addr) (xs : List Int), vs = [.ref a, .int 41] ∧ SqL K H a (xs.map V.int) ∧ (∀ H', Ex H H' → SqL K H' a (xs.map V.int)) ∧ ∀ (H' : Hp) (p : Addr) (ns : List Int), Ex H H' → H p = none → H' p = some (.lst (ns.map V.int)) → ns.length = 41 → Q (.ref p) H'
def spLawKey : Sp := fun vs H Q _ => ∃ i : Int, vs = [.int i] ∧ ∀ j, Q (.int j) H
def spLawLocks (K : PySem.W.Frag) : Sp := fun vs H Q _ => ∃ (i m : Int), vs = [.int i, .int m] ∧ 0 ≤ m ∧ m ≤ 2 ∧ ∀ (H' : Hp) (p : Addr) (as : List Addr) (ls : List Lk), Ex H H' → Tp K H' p (as.map V.ref) → LocksAt K H' as ls → (∀ l ∈ ls, 0 ≤ l.amt ∧ l.amt ≤ 1000) → ls.length ≤ 2 → Q (.ref p) H'
section
variable {P : Program} {w : World} {K : PySem.W.Frag} {mg : Str → Option Value} {base : Heap}
theorem ok_law_key (T : Txt K mg) : HasF P w K mg base "_law_key" 1 ["_law_secret"] spLawKey := by
  refine hasF (st := s_law_key) T.f_law_key T.g_law_key sc_law_key (fun _ _ _ _ _ _ us hl => match us, hl with | [_], _ => rfl) (fun vs H Q E h => ?_) (fun f cdv A0 outer s H vs Q E hr h => ?_)
  · obtain ⟨i, rfl, _⟩ := h
    rfl
  · obtain ⟨i, rfl, k⟩ := h
    refine ⟨_, (pss_one (ps_ret (pe_op op_mod (pe_callTy call_int1 (by rfl) T.z_int (by decide +kernel) (pa_cons (pe_op op_add (pe_op op_mul (pv 0) pe_int) pe_int) pa_nil)) pe_int))), ?_⟩
    refine' s_ret (go (by walk_at "vl") (k _))
theorem ok_law_rows (T : Txt K mg) : HasF P w K mg base "_law_rows" 1 ["_law_script", "_law_count"] (spLawRows K) := by
  refine hasF (st := s_law_rows) T.f_law_rows T.g_law_rows sc_law_rows (fun _ _ _ _ _ _ us hl => match us, hl with | [_, _], _ => rfl) (fun vs H Q E h => ?_) (fun f cdv A0 outer s H vs Q E hr h => ?_)
  · obtain ⟨a, xs, rfl, _⟩ := h
    rfl
  · obtain ⟨a, xs, rfl, hx0, hx, k⟩ := h
    refine ⟨_, (pss_cons (ps_set (i := 2) sc_law_rows.nd rfl (by first | exact Or.inl rfl | exact Or.inr rfl) (pe_lst pa_nil))
      (pss_cons (ps_for PassesOwn.never rfl (pi_range1 (by rfl) T.z_range (pa_cons (pv 1) pa_nil)) (pg_name (i := 3) sc_law_rows.nd rfl (by first | exact Or.inl rfl | exact Or.inr rfl)) (pss_cons (ps_set (i := 4) sc_law_rows.nd rfl (by first | exact Or.inl rfl | exact Or.inr rfl) pe_int)
      (Evl.pss_cut (ps_if (pt_cmpR op_gt (pe_callB call_len_seq (by rfl) T.z_len (by decide +kernel) (pa_cons (pv 0) pa_nil)) pe_int (nomark _)) (pss_one (ps_set (i := 4) sc_law_rows.nd rfl (by first | exact Or.inl rfl | exact Or.inr rfl) (pe_callTy call_int1 (by rfl) T.z_int (by decide +kernel) (pa_cons (pe_ix (ix_listK (K := K) rfl) (pv 0) (pe_op op_mod (pe_callTy call_int1 (by rfl) T.z_int (by decide +kernel) (pa_cons (pv 3) pa_nil)) (pe_callB call_len_seq (by rfl) T.z_len (by decide +kernel) (pa_cons (pv 0) pa_nil))) (fun _ _ => rfl)) pa_nil)))) pss_nil)
      (Evl.pss_cut (ps_if (pt_cmpR op_lt (pv 4) pe_int (nomark _)) (pss_one (ps_set (i := 4) sc_law_rows.nd rfl (by first | exact Or.inl rfl | exact Or.inr rfl) (pe_op op_sub (pe_op op_sub pe_int (pe_op op_mul pe_int (pv 4))) pe_int))) pss_nil)
      (Evl.pss_cut (ps_if (PW.pt (pw_or (pt_cmpR op_ge (pv 3) (pe_callB call_len_seq (by rfl) T.z_len (by decide +kernel) (pa_cons (pv 0) pa_nil)) (nomark _)) (pw_or1 (pt_cmpR op_lt (pv 4) pe_int (nomark _))))) (pss_cons (ps_set (i := 4) sc_law_rows.nd rfl (by first | exact Or.inl rfl | exact Or.inr rfl) (pe_op op_mod (pe_callTy call_int1 (by rfl) T.z_int (by decide +kernel) (pa_cons (pe_op op_add (pe_op op_add (pe_op op_mul (pe_op op_add (pe_op op_add (pv 4) (pe_op op_mul pe_int (pv 3))) pe_int) pe_int) (pe_op op_mul (pe_op op_mul (pv 3) (pv 3)) pe_int)) pe_int) pa_nil)) pe_int))
      (pss_one (ps_set (i := 4) sc_law_rows.nd rfl (by first | exact Or.inl rfl | exact Or.inr rfl) (pe_op op_mod (pe_callTy call_int1 (by rfl) T.z_int (by decide +kernel) (pa_cons (pe_op op_add (pe_op op_mul (pe_op op_add (pe_op op_add (pv 4) (pe_op op_mul pe_int (pv 3))) pe_int) pe_int) pe_int) pa_nil)) pe_int)))) pss_nil)
      (pss_one (ps_expr (pe_bm PySem.F.plainAttrs_list PySem.F.slot_list_append PySem.F.type_list_append mt_append (pv 2) (pa_cons (pv 4) pa_nil)))))))))
      (pss_one (ps_ret (pv 2))))), ?_⟩
    refine q_asg (q_lst va_nil (Nat.zero_le _) fun pw hpw => ?_)
    refine q_forR (n := 41) (va_cons (val_var rfl) va_nil) ⟨by decide, by decide⟩ (fun i σ' H' => ∃ (v3 v4 : Option V) (ns : List Int), σ' = [some (.ref a), some (.int 41), some (.ref pw), v3, v4] ∧ Ex H H' ∧ H' pw = some (.lst (ns.map V.int)) ∧ ns.length = i) ⟨none, none, [], rfl, Evl.Ex.new hpw, upd_same, rfl⟩ ?_ ?_
    · rintro i σ' H' hi ⟨v3, v4, ns, rfl, e, hp, hn⟩
      have hs := hx H' e
      refine q_set val_c ?_
      -- a cell of the script
      refine ⟨fun σ2 H2 => H2 = H' ∧ ∃ c : Int, σ2 = [some (.ref a), some (.int 41), some (.ref pw), some (.int (i : Int)), some (.int c)], ?_, ?_⟩
      · refine st_if (a_val (v_I0 (v_len (p := a) (val_var rfl) (.inl hs)) val_c)) (fun hb => ?_) (fun _ => ⟨rfl, 0, rfl⟩)
        have hb1 : ((xs.map V.int).length : Int) > 0 := of_decide_eq_true hb
        refine s_asg ?_
        have h0 : 0 ≤ (i : Int) % ((xs.map V.int).length : Int) := Int.emod_nonneg _ (by omega)
        have h1 : (i : Int) % ((xs.map V.int).length : Int) < ((xs.map V.int).length : Int) := Int.emod_lt_of_pos _ hb1
        have hlt : ((i : Int) % ((xs.map V.int).length : Int)).toNat < xs.length := by
          rw [List.length_map] at h0 h1 ⊢
          omega
        have hat : atI (xs.map V.int) ((i : Int) % ((xs.map V.int).length : Int)) = some (.int (xs[((i : Int) % ((xs.map V.int).length : Int)).toNat]'hlt)) := at_of (j := ((i : Int) % ((xs.map V.int).length : Int)).toNat) (by omega) (by rw [List.getElem?_map, List.getElem?_eq_getElem hlt]; rfl)
        refine go (v_int1 (i := xs[((i : Int) % ((xs.map V.int).length : Int)).toNat]'hlt) (fun Q' q => ?_)) ⟨rfl, _, rfl⟩
        refine q_op (x := .ref a) (val_var rfl) (v_I (v_int1 (val_var rfl)) (v_len (p := a) (val_var rfl) (.inl hs)) hb1) ⟨a, _, _, _, rfl, rfl, hs, hat, q⟩
      rintro σ2 H2 ⟨rfl, c1, rfl⟩
      -- below zero
      refine ⟨fun σ3 H3 => H3 = H2 ∧ ∃ c : Int, σ3 = [some (.ref a), some (.int 41), some (.ref pw), some (.int (i : Int)), some (.int c)], ?_, ?_⟩
      · refine' st_if (a_val (by walk_at "vl")) (fun _ => s_asg (go (by walk_at "vl") ⟨rfl, _, rfl⟩)) (fun _ => ⟨rfl, c1, rfl⟩)
      rintro σ3 H3 ⟨rfl, c2, rfl⟩
      -- drawn
      refine ⟨fun σ4 H4 => H4 = H3 ∧ ∃ c : Int, σ4 = [some (.ref a), some (.int 41), some (.ref pw), some (.int (i : Int)), some (.int c)], ?_, ?_⟩
      · refine st_if (a_or2 (b := decide ((i : Int) ≥ ((xs.map V.int).length : Int))) (c := decide (c2 < 1000000000)) (a_val (v_I0 (val_var rfl) (v_len (p := a) (val_var rfl) (.inl hs)))) (fun _ => a_val (v_I0 (val_var rfl) val_c))) (fun _ => ?_) (fun _ => ⟨rfl, c2, rfl⟩)
        have hk : CMul (i : Int) (i : Int) := .inl ⟨by omega, by omega⟩
        refine q_set (v_I (v_int1 (v_I0 (v_I0 (v_I (v_I0 (v_I0 (val_var rfl) (v_I val_c (val_var rfl) (.inl ⟨by decide, by decide⟩))) val_c) val_c (.inr ⟨by decide, by decide⟩)) (v_I (v_I (val_var rfl) (val_var rfl) hk) val_c (.inr ⟨by decide, by decide⟩))) val_c)) val_c (by decide)) ?_
        refine' s_asg (go (by walk_at "vl") ⟨rfl, _, rfl⟩)
      rintro σ4 H4 ⟨rfl, c3, rfl⟩
      refine s_drop (q_app (xs := ns.map V.int) (val_var (v := .ref pw) rfl) hp (by rw [List.length_map]; omega) (val_var (v := .int c3) rfl) ?_)
      exact ⟨_, _, ns ++ [c3], rfl, Evl.Ex.mut e hpw, by rw [List.map_append]; exact upd_same, by rw [List.length_append, hn]; rfl⟩
    · rintro σ' H' ⟨v3, v4, ns, rfl, e, hp, hn⟩
      exact s_ret (go (val_var rfl) (k _ _ ns e hpw hp hn))
theorem ok_law_locks (T : Txt K mg) : HasF P w K mg base "_law_locks" 2 ["_law_row", "_law_many"] (spLawLocks K) := by
  have G_law_key : HasF P w K mg base "_law_key" 1 ["_law_secret"] spLawKey := ok_law_key T
  refine hasF (st := s_law_locks) T.f_law_locks T.g_law_locks sc_law_locks (fun _ _ _ _ _ _ us hl => match us, hl with | [_, _], _ => rfl) (fun vs H Q E h => ?_) (fun f cdv A0 outer s H vs Q E hr h => ?_)
  · obtain ⟨i, m, rfl, _⟩ := h
    rfl
  · obtain ⟨r, m, rfl, m0, m2, k⟩ := h
    refine ⟨_, (pss_cons (ps_set (i := 2) sc_law_locks.nd rfl (by first | exact Or.inl rfl | exact Or.inr rfl) (pe_lst pa_nil))
      (pss_cons (ps_for PassesOwn.never rfl (pi_range1 (by rfl) T.z_range (pa_cons (pv 1) pa_nil)) (pg_name (i := 3) sc_law_locks.nd rfl (by first | exact Or.inl rfl | exact Or.inr rfl)) (pss_cons (ps_set (i := 4) sc_law_locks.nd rfl (by first | exact Or.inl rfl | exact Or.inr rfl) (pe_callTy call_int1 (by rfl) T.z_int (by decide +kernel) (pa_cons (pe_op op_fdiv (pv 0) (pe_op op_add (pe_op op_add pe_int (pe_op op_mul pe_int (pv 3))) (pv 3))) pa_nil)))
      (pss_one (ps_expr (pe_bm PySem.F.plainAttrs_list PySem.F.slot_list_append PySem.F.type_list_append mt_append (pv 2) (pa_cons (pe_tup (pa_cons (pe_f G_law_key hr (pa_cons (pe_op op_add pe_int (pe_op op_mod (pe_callTy call_int1 (by rfl) T.z_int (by decide +kernel) (pa_cons (pv 4) pa_nil)) pe_int)) pa_nil)) (pa_cons (pe_op op_add pe_int (pe_op op_mod (pe_callTy call_int1 (by rfl) T.z_int (by decide +kernel) (pa_cons (pe_op op_fdiv (pv 4) pe_int) pa_nil)) pe_int)) (pa_cons (pe_op op_mod (pe_callTy call_int1 (by rfl) T.z_int (by decide +kernel) (pa_cons (pe_op op_fdiv (pv 4) pe_int) pa_nil)) pe_int) (pa_cons (pe_cmpR op_eq (pe_op op_mod (pe_callTy call_int1 (by rfl) T.z_int (by decide +kernel) (pa_cons (pe_op op_fdiv (pv 4) pe_int) pa_nil)) pe_int) pe_int (nomark _)) pa_nil))))) pa_nil))))))
      (pss_one (ps_ret (pe_callTy call_tuple_of (by rfl) T.z_tuple (by decide +kernel) (pa_cons (pv 2) pa_nil)))))), ?_⟩
    refine q_asg (q_lst va_nil (Nat.zero_le _) fun pw hpw => ?_)
    refine q_forR (n := m) (va_cons (val_var rfl) va_nil) ⟨m0, by omega⟩ (fun i σ' H' => ∃ (v3 v4 : Option V) (as : List Addr) (ls : List Lk), σ' = [some (.int r), some (.int m), some (.ref pw), v3, v4] ∧ Ex H H' ∧ H' pw = some (.lst (as.map V.ref)) ∧ LocksAt K H' as ls ∧ (∀ l ∈ ls, 0 ≤ l.amt ∧ l.amt ≤ 1000) ∧ ls.length = i)
      ⟨none, none, [], [], rfl, Evl.Ex.new hpw, upd_same, ⟨rfl, fun i a l h1 _ => by cases h1⟩, fun l hl => (by cases hl), rfl⟩ ?_ ?_
    · rintro i σ' H' hi ⟨v3, v4, as, ls, rfl, e, hp, hl, ha, hn⟩
      have hdv : ∀ (D : Ends) (us : TS), (∀ q : Int, us D [some (.int r), some (.int m), some (.ref pw), some (.int (i : Int)), some (.int q)] H') → tSeq (tAsg (tCB (fun xs H Q => (∃ i, xs = [V.int i] ∧ Q (V.int i) H) ∨ ∃ k, xs = [V.bl k] ∧ Q (V.int (if k then 1 else 0)) H) (tCons (tOp (rI CDiv fun i j => V.int (i / j)) (tVar 0) (tOp (rI0 fun i j => V.int (i + j)) (tOp (rI0 fun i j => V.int (i + j)) (tC (.int 1)) (tOp (rI CMul fun i j => V.int (i * j)) (tC (.int 60)) (tVar 3))) (tVar 3))) tNil)) (gName 4)) us D [some (.int r), some (.int m), some (.ref pw), some (.int (i : Int)), v4] H' := fun D us hu =>
        q_asg (go (v_int1 (v_I (val_var rfl) (v_I0 (v_I0 val_c (v_I val_c (val_var rfl) (.inl ⟨by decide, by decide⟩))) (val_var rfl)) ⟨by omega, by omega⟩)) (hu _))
      refine hdv _ _ fun q => ?_
      clear hdv
      refine s_drop ?_
      refine (val_var (v := .ref pw) rfl) _ ⟨.inl ⟨rfl, _, SqL.of hp⟩, q_consG ?_⟩
      refine q_tupG (q_consG ?_)
      refine' q_call (vs := [.int _]) (by walk_at "va") ⟨_, rfl, fun j => ?_⟩
      refine' q_cons (v := .int (1 + q / 4 % 3)) (by walk_at "vl") ?_
      refine' q_cons (v := .int (q / 12 % 8)) (by walk_at "vl") ?_
      refine' q_cons (v := .bl (decide (V.int (q / 96 % 2) = V.int 0))) (by walk_at "vl") (q_nil ⟨by show 4 ≤ sizeLine; decide, fun p hpn => q_nil ?_⟩)
      have npw : pw ≠ p := ne_of_none hp hpn
      refine ⟨pw, as.map V.ref, .ref p, rfl, rfl, by rw [upd_ne npw]; exact hp, by rw [List.length_map, hl.1, hn]; exact Nat.lt_of_lt_of_le (show i < 100 by omega) (by decide), ?_⟩
      have ty : Ty H' (upd (upd H' p (.tup (lkV ⟨j, 1 + q / 4 % 3, q / 12 % 8, decide (V.int (q / 96 % 2) = V.int 0)⟩))) pw (.lst (as.map V.ref ++ [.ref p]))) := (ex_ty (Evl.Ex.new hpn)).trans (Ty.upd (o := .lst (as.map V.ref)) (by rw [upd_ne npw]; exact hp) fun _ z => by cases z)
      refine ⟨_, _, as ++ [p], ls ++ [⟨j, 1 + q / 4 % 3, q / 12 % 8, decide (V.int (q / 96 % 2) = V.int 0)⟩], rfl, Evl.Ex.mut (e.trans (Evl.Ex.new hpn)) hpw, by rw [List.map_append]; exact upd_same, ?_, ?_, by rw [List.length_append, hn]; rfl⟩
      · exact (hl.ty ty).snoc (.inl (by rw [upd_ne npw.symm]; exact upd_same))
      · intro l hl2
        rcases List.mem_append.mp hl2 with h3 | h3
        · exact ha l h3
        · rw [List.mem_singleton.mp h3]
          show 0 ≤ 1 + q / 4 % 3 ∧ 1 + q / 4 % 3 ≤ 1000
          omega
    · rintro σ' H' ⟨v3, v4, as, ls, rfl, e, hp, hl, ha, hn⟩
      refine s_ret (q_cb (q_cons (v := .ref pw) (val_var rfl) (q_nil ⟨pw, as.map V.ref, rfl, .inl ⟨SqL.of hp, fun l hln => ?_⟩⟩)))
      have e2 := Evl.Ex.new (o := .tup (as.map V.ref)) hln
      exact k _ l as ls (e.trans e2) (.inl upd_same) (hl.ty (ex_ty e2)) ha (by omega)
end
end Tk
/-! The law's own helpers: states, acts. -/
namespace Tk
open PySem PySem.Spec PyProof.Rows L2
local macro_rules | `(tactic| walk_at "vl") => `(tactic| first
  | ((with_reducible refine' val_var ?a1); (case a1 => rfl))
  | ((with_reducible refine' val_c))
  | ((with_reducible refine' f_Vault_opening ?a1 ?a2 ?a3); (case a1 => assumption); (case a2 => walk_at "vl"); (case a3 => assumption))
  | ((with_reducible refine' f_Vault_money ?a1 ?a2 ?a3); (case a1 => assumption); (case a2 => walk_at "vl"); (case a3 => assumption))
  | ((with_reducible refine' f_Vault_sums ?a1 ?a2 ?a3); (case a1 => assumption); (case a2 => walk_at "vl"); (case a3 => assumption))
  | ((with_reducible refine' f_Vault_splices ?a1 ?a2 ?a3); (case a1 => assumption); (case a2 => walk_at "vl"); (case a3 => assumption))
  | ((with_reducible refine' f_Vault_least ?a1 ?a2 ?a3); (case a1 => assumption); (case a2 => walk_at "vl"); (case a3 => assumption))
  | ((with_reducible refine' f_Vault_published ?a1 ?a2 ?a3); (case a1 => assumption); (case a2 => walk_at "vl"); (case a3 => assumption))
  | ((with_reducible refine' f_Vault_since ?a1 ?a2 ?a3); (case a1 => assumption); (case a2 => walk_at "vl"); (case a3 => assumption))
  | ((with_reducible refine' f_Book_purses ?a1 ?a2 ?a3); (case a1 => assumption); (case a2 => walk_at "vl"); (case a3 => assumption))
  | ((with_reducible refine' f_Book_vaults ?a1 ?a2 ?a3); (case a1 => assumption); (case a2 => walk_at "vl"); (case a3 => assumption))
  | ((with_reducible refine' f_Book_receipts ?a1 ?a2 ?a3); (case a1 => assumption); (case a2 => walk_at "vl"); (case a3 => assumption))
  | ((with_reducible refine' f_Book_ended ?a1 ?a2 ?a3); (case a1 => assumption); (case a2 => walk_at "vl"); (case a3 => assumption))
  | ((with_reducible refine' f_Book_done ?a1 ?a2 ?a3); (case a1 => assumption); (case a2 => walk_at "vl"); (case a3 => assumption))
  | ((with_reducible refine' f_Book_height ?a1 ?a2 ?a3); (case a1 => assumption); (case a2 => walk_at "vl"); (case a3 => assumption))
  | ((with_reducible refine' f_Book_burnt ?a1 ?a2 ?a3); (case a1 => assumption); (case a2 => walk_at "vl"); (case a3 => assumption))
  | ((with_reducible refine' f_Ledger_book ?a1 ?a2 ?a3); (case a1 => assumption); (case a2 => walk_at "vl"); (case a3 => assumption))
  | ((with_reducible refine' f_Ledger_room ?a1 ?a2 ?a3); (case a1 => assumption); (case a2 => walk_at "vl"); (case a3 => assumption))
  | ((with_reducible refine' f_Ledger_waiting ?a1 ?a2 ?a3); (case a1 => assumption); (case a2 => walk_at "vl"); (case a3 => assumption))
  | ((with_reducible refine' v_ix ?a1 ?a2 ?a3 ?a4); (case a1 => walk_at "vl"); (case a2 => walk_at "vl"); (case a3 => assumption); (case a4 => rfl))
  | ((with_reducible refine' v_I0 ?a1 ?a2); (case a1 => walk_at "vl"); (case a2 => walk_at "vl"))
  | ((with_reducible refine' v_isN ?a1); (case a1 => walk_at "vl"))
  | ((with_reducible refine' v_notN ?a1); (case a1 => walk_at "vl"))
  | ((with_reducible refine' v_int1 ?a1); (case a1 => walk_at "vl"))
  | ((with_reducible refine' v_eq ?a1 ?a2 ?a3); (case a1 => walk_at "vl"); (case a2 => walk_at "vl"); (case a3 => rfl))
  | ((with_reducible refine' v_ne ?a1 ?a2 ?a3); (case a1 => walk_at "vl"); (case a2 => walk_at "vl"); (case a3 => rfl))
  | ((with_reducible refine' v_max2 ?a1 ?a2); (case a1 => walk_at "vl"); (case a2 => walk_at "vl"))
  | ((with_reducible refine' v_min2 ?a1 ?a2); (case a1 => walk_at "vl"); (case a2 => walk_at "vl")))
local macro_rules | `(tactic| walk_at "va") => `(tactic| first
  | (with_reducible exact va_nil)
  | ((with_reducible refine' va_cons ?a1 ?a2); (case a1 => walk_at "vl"); (case a2 => walk_at "va")))

local macro_rules | `(tactic| walk_at "vl") => `(tactic| ((with_reducible refine' v_I ?a1 ?a2 ?a3); (case a1 => walk_at "vl"); (case a2 => walk_at "vl"); (case a3 => first | decide | exact .inr ⟨by decide, by decide⟩ | exact .inl ⟨by decide, by decide⟩ | exact ⟨by decide, by decide⟩)))
def AmOk : Act → Prop
  | .pay _ m => 0 ≤ m
  | .opn o => 0 ≤ o.fi ∧ 0 ≤ o.si
  | .spl s => 0 ≤ s.i1 ∧ 0 ≤ s.i2 ∧ 0 ≤ s.o1 ∧ 0 ≤ s.o2
  | _ => True
def spLawState (K : PySem.W.Frag) : Sp := fun vs H Q _ => ∃ (r c m : Int), vs = [.int r, .int c, .int m] ∧ ∀ (H' : Hp) (p : Addr) (s : Sd), Ex H H' → StateAt K H' p s → StOk s → Q (.ref p) H'
def spLawMoney (K : PySem.W.Frag) : Sp := fun vs H Q _ => ∃ (L : La) (b : Bk) (ts : List Thing) (n : Int), vs = [.ref L.lg, .int n] ∧ LedAt K H L b ts ∧ ∀ (H' : Hp) i, Ex H H' → Q (.int i) H'
def spLawAct (K : PySem.W.Frag) : Sp := fun vs H Q _ => ∃ (L : La) (b : Bk) (ts : List Thing) (r : Int), vs = [.int r, .ref L.lg] ∧ LedAt K H L b ts ∧ ∀ (H' : Hp) (p : Addr) (t : Act), Ex H H' → ActAt K H' p t → ActOk t → AmOk t → Q (.ref p) H'
theorem v_ifI {t : TT} {σ : L2.St} {H : Hp} {b : Bool} {x y : Int} (h : Ans t σ H b) : Val (tIf t (tC (.int x)) (tC (.int y))) σ H (.int (if b = true then x else y)) := fun Q q => h _ (by
  cases b with
  | true => exact q
  | false => exact q)
section
variable {P : Program} {w : World} {K : PySem.W.Frag} {mg : Str → Option Value} {base : Heap}
theorem ok_law_state (T : Txt K mg) : HasF P w K mg base "_law_state" 3 ["_law_row", "_law_channel", "_law_money_here"] (spLawState K) := by
  have G_law_locks : HasF P w K mg base "_law_locks" 2 ["_law_row", "_law_many"] (spLawLocks K) := ok_law_locks T
  refine hasF (st := s_law_state) T.f_law_state T.g_law_state sc_law_state (fun _ _ _ _ _ _ us hl => match us, hl with | [_, _, _], _ => rfl) (fun vs H Q E h => ?_) (fun f cdv A0 outer s H vs Q E hr h => ?_)
  · obtain ⟨r, c, m, rfl, _⟩ := h
    rfl
  · obtain ⟨r, c, m, rfl, k⟩ := h
    refine ⟨_, (pss_cons (ps_set (i := 3) sc_law_state.nd rfl (by first | exact Or.inl rfl | exact Or.inr rfl) (pe_f G_law_locks hr (pa_cons (pe_callTy call_int1 (by rfl) T.z_int (by decide +kernel) (pa_cons (pe_op op_fdiv (pv 0) pe_int) pa_nil)) (pa_cons (pe_op op_mod (pe_callTy call_int1 (by rfl) T.z_int (by decide +kernel) (pa_cons (pe_op op_fdiv (pv 0) pe_int) pa_nil)) pe_int) pa_nil))))
      (pss_cons (ps_set (i := 4) sc_law_state.nd rfl (by first | exact Or.inl rfl | exact Or.inr rfl) (pe_op op_sub (pe_op op_mod (pe_callTy call_int1 (by rfl) T.z_int (by decide +kernel) (pa_cons (pe_op op_fdiv (pv 0) pe_int) pa_nil)) pe_int) pe_int))
      (pss_cons (ps_set (i := 5) sc_law_state.nd rfl (by first | exact Or.inl rfl | exact Or.inr rfl) (pe_op op_sub (pv 2) (pv 4)))
      (pss_cons (ps_for PassesOwn.never rfl (pi_tup (pv 3)) (pg_name (i := 6) sc_law_state.nd rfl (by first | exact Or.inl rfl | exact Or.inr rfl)) (pss_one (ps_set (i := 5) sc_law_state.nd rfl (by first | exact Or.inl rfl | exact Or.inr rfl) (pe_op op_sub (pv 5) (pe_ix (ix_tupK (K := K) rfl) (pv 6) pe_int (fun _ _ => rfl))))))
      (Evl.pss_cut (ps_if (pt_cmpR op_eq (pe_op op_mod (pe_callTy call_int1 (by rfl) T.z_int (by decide +kernel) (pa_cons (pv 0) pa_nil)) pe_int) pe_int (nomark _)) (pss_one (ps_set (i := 5) sc_law_state.nd rfl (by first | exact Or.inl rfl | exact Or.inr rfl) (pe_op op_add (pv 5) pe_int))) pss_nil)
      (pss_one (ps_ret (pe_tup (pa_cons (pv 1) (pa_cons (pe_op op_mod (pe_callTy call_int1 (by rfl) T.z_int (by decide +kernel) (pa_cons (pv 0) pa_nil)) pe_int) (pa_cons (pv 4) (pa_cons (pv 5) (pa_cons (pv 3) (pa_cons (pe_cmpR op_eq (pe_op op_mod (pe_callTy call_int1 (by rfl) T.z_int (by decide +kernel) (pa_cons (pe_op op_fdiv (pv 0) pe_int) pa_nil)) pe_int) pe_int (nomark _)) pa_nil)))))))))))))), ?_⟩
    refine q_asg ?_
    refine' q_call (vs := [.int (r / 700), .int (r / 100 % 3)]) (by walk_at "va") ⟨_, _, rfl, by omega, by omega, fun H1 la as ls e1 h1 h2 h3 h4 => ?_⟩
    refine' q_set (v := .int (r / 7 % 15 - 2)) (by walk_at "vl") ?_
    refine' q_set (v := .int (m - (r / 7 % 15 - 2))) (by walk_at "vl") ?_
    generalize r / 7 % 15 - 2 = fs
    refine q_forT (xs := as.map V.ref) (val_var rfl) (fun i σ' H' => H' = H1 ∧ ∃ (c2 : Int) (v : Option V), σ' = [some (.int r), some (.int c), some (.int m), some (.ref la), some (.int fs), some (.int c2), v]) ⟨rfl, _, none, rfl⟩ (fun i σ' H' _ z => by rw [z.1]; exact h1.t) ?_ ?_
    · rintro i x σ' H' hx ⟨rfl, c2, v, rfl⟩
      obtain ⟨a, ha, rfl⟩ := at_ref hx
      obtain ⟨l, hl, tl⟩ := at_lk h2 ha
      refine' s_asg (go (by walk_at "vl") ⟨rfl, _, _, rfl⟩)
    rintro σ' H' ⟨rfl, c2, v, rfl⟩
    refine ⟨fun σ3 H3 => H3 = H' ∧ ∃ c3 : Int, σ3 = [some (.int r), some (.int c), some (.int m), some (.ref la), some (.int fs), some (.int c3), v], ?_, ?_⟩
    · refine' st_if (a_val (by walk_at "vl")) (fun _ => s_asg (go (by walk_at "vl") ⟨rfl, _, rfl⟩)) (fun _ => ⟨rfl, c2, rfl⟩)
    rintro σ3 H3 ⟨rfl, c3, rfl⟩
    refine' s_ret (q_tup (vs := [.int c, .int (r % 5), .int fs, .int c3, .ref la, .bl (decide (V.int (r / 5 % 7) = V.int 0))]) (by walk_at "va") (by show 6 ≤ 1000; decide) fun p hp => ?_)
    have e2 := Evl.Ex.new (o := .tup [.int c, .int (r % 5), .int fs, .int c3, .ref la, .bl (decide (V.int (r / 5 % 7) = V.int 0))]) hp
    exact k _ p ⟨c, r % 5, fs, c3, ls, decide (V.int (r / 5 % 7) = V.int 0)⟩ (e1.trans e2) ⟨la, as, .inl upd_same, h1.ex e2, h2.ty (ex_ty e2)⟩ ⟨h3, by show ls.length ≤ 100; omega⟩
theorem ok_law_money (T : Txt K mg) : HasF P w K mg base "_law_money" 5 ["_law_ledger_here", "_law_channel"] (spLawMoney K) := by
  have G_Ledger_channel : HasM P w K mg base "Ledger" "channel" 4 ["self", "number"] (spChannel K) := ok_channel T
  refine hasF (st := s_law_money) T.f_law_money T.g_law_money sc_law_money (fun _ _ _ _ _ _ us hl => match us, hl with | [_, _], _ => rfl) (fun vs H Q E h => ?_) (fun f cdv A0 outer s H vs Q E hr h => ?_)
  · obtain ⟨L, b, ts, n, rfl, _⟩ := h
    rfl
  · obtain ⟨L, b, ts, n, rfl, hL, k⟩ := h
    obtain ⟨dx, o1⟩ := hL.ob
    refine ⟨_, (pss_cons (ps_set (i := 2) sc_law_money.nd rfl (by first | exact Or.inl rfl | exact Or.inr rfl) (pe_mmK (K := K) rfl G_Ledger_channel (pv 0) hr (pa_cons (pv 1) pa_nil)))
      (pss_cons (ps_if (pt_cmpR op_isN (pv 2) pe_non (nomark _)) (pss_one (ps_ret pe_int)) pss_nil)
      (pss_one (ps_ret (pe_op op_add (pe_ix (ix_tupK (K := K) rfl) (pe_fldK (K := K) rfl (pv 2) rfl) pe_int (fun _ _ => rfl)) (pe_ix (ix_tupK (K := K) rfl) (pe_fldK (K := K) rfl (pv 2) rfl) pe_int (fun _ _ => rfl))))))), ?_⟩
    refine q_asg (q_meth (val_var rfl) o1 lF_no_channel (va_cons (val_var rfl) va_nil) ⟨L, b, ts, n, rfl, hL, ?_, fun H' c d e hd => ?_⟩)
    · refine' q_ifA (b := true) (v_itest (x := .non) (val_var rfl)) (fun _ => s_ret (go val_c (k _ _ (Evl.Ex.refl H)))) (fun z => by cases z)
    · obtain ⟨dxv, oa, sa, pq, o2, t1, t2, t3⟩ := hd.at_
      refine' q_ifA (b := false) (v_itest (x := .ref c) (val_var rfl)) (fun z => by cases z) (fun _ => n_next ?_)
      refine' s_ret (go (by walk_at "vl") (k _ _ e))
theorem ok_law_act (T : Txt K mg) : HasF P w K mg base "_law_act" 6 ["_law_row", "_law_ledger_here"] (spLawAct K) := by
  have G_Ledger_channel : HasM P w K mg base "Ledger" "channel" 4 ["self", "number"] (spChannel K) := ok_channel T
  have G_law_state : HasF P w K mg base "_law_state" 3 ["_law_row", "_law_channel", "_law_money_here"] (spLawState K) := ok_law_state T
  have G_law_money : HasF P w K mg base "_law_money" 5 ["_law_ledger_here", "_law_channel"] (spLawMoney K) := ok_law_money T
  refine hasF (st := s_law_act) T.f_law_act T.g_law_act sc_law_act (fun _ _ _ _ _ _ us hl => match us, hl with | [_, _], _ => rfl) (fun vs H Q E h => ?_) (fun f cdv A0 outer s H vs Q E hr h => ?_)
  · obtain ⟨L, b, ts, r, rfl, _⟩ := h
    rfl
  · obtain ⟨L, b, ts, r, rfl, hL, k⟩ := h
    obtain ⟨dx, o1⟩ := hL.ob
    refine ⟨_, (pss_cons (ps_set (i := 2) sc_law_act.nd rfl (by first | exact Or.inl rfl | exact Or.inr rfl) (pe_op op_mod (pe_callTy call_int1 (by rfl) T.z_int (by decide +kernel) (pa_cons (pv 0) pa_nil)) pe_int))
      (pss_cons (ps_set (i := 3) sc_law_act.nd rfl (by first | exact Or.inl rfl | exact Or.inr rfl) (pe_op op_add pe_int (pe_op op_mod (pe_callTy call_int1 (by rfl) T.z_int (by decide +kernel) (pa_cons (pe_op op_fdiv (pv 0) pe_int) pa_nil)) pe_int)))
      (pss_cons (ps_set (i := 4) sc_law_act.nd rfl (by first | exact Or.inl rfl | exact Or.inr rfl) (pe_callTy call_int1 (by rfl) T.z_int (by decide +kernel) (pa_cons (pe_op op_fdiv (pv 0) pe_int) pa_nil)))
      (pss_cons (ps_if (pt_cmpR op_le (pv 2) pe_int (nomark _)) (pss_one (ps_ret (pe_tup (pa_cons pe_str (pa_cons (pe_tup (pa_cons (pv 3) (pa_cons pe_int (pa_cons (pe_ifExp (pt_cmpR op_eq (pe_op op_mod (pv 4) pe_int) pe_int (nomark _)) pe_int pe_int) (pa_cons (pe_op op_mod (pe_callTy call_int1 (by rfl) T.z_int (by decide +kernel) (pa_cons (pe_op op_fdiv (pv 4) pe_int) pa_nil)) pe_int) (pa_cons (pe_op op_mod (pe_callTy call_int1 (by rfl) T.z_int (by decide +kernel) (pa_cons (pe_op op_fdiv (pv 4) pe_int) pa_nil)) pe_int) (pa_cons (pe_op op_mod (pe_callTy call_int1 (by rfl) T.z_int (by decide +kernel) (pa_cons (pe_op op_fdiv (pv 4) pe_int) pa_nil)) pe_int) (pa_cons (pe_op op_mod (pe_callTy call_int1 (by rfl) T.z_int (by decide +kernel) (pa_cons (pe_op op_fdiv (pv 4) pe_int) pa_nil)) pe_int) pa_nil)))))))) pa_nil))))) pss_nil)
      (pss_cons (ps_if (pt_cmpR op_le (pv 2) pe_int (nomark _)) (pss_cons (ps_set (i := 5) sc_law_act.nd rfl (by first | exact Or.inl rfl | exact Or.inr rfl) (pe_f G_law_state (hr.mono (by decide)) (pa_cons (pv 4) (pa_cons (pv 3) (pa_cons (pe_f G_law_money hr (pa_cons (pv 1) (pa_cons (pv 3) pa_nil))) pa_nil)))))
      (pss_cons (ps_set (i := 6) sc_law_act.nd rfl (by first | exact Or.inl rfl | exact Or.inr rfl) (pe_mmK (K := K) rfl G_Ledger_channel (pv 1) (hr.mono (by decide)) (pa_cons (pv 3) pa_nil)))
      (Evl.pss_cut (ps_if (PW.pt (pw_and (pt_cmpR op_notN (pv 6) pe_non (nomark _)) (pw_and1 (pt_cmpR op_eq (pe_op op_mod (pv 4) pe_int) pe_int (nomark _))))) (pss_one (ps_set (i := 5) sc_law_act.nd rfl (by first | exact Or.inl rfl | exact Or.inr rfl) (pe_tup (pa_cons (pv 3) (pa_cons pe_int (pa_cons (pe_ix (ix_tupK (K := K) rfl) (pe_fldK (K := K) rfl (pv 6) rfl) pe_int (fun _ _ => rfl)) (pa_cons (pe_ix (ix_tupK (K := K) rfl) (pe_fldK (K := K) rfl (pv 6) rfl) pe_int (fun _ _ => rfl)) (pa_cons (pe_tup pa_nil) (pa_cons pe_bl pa_nil))))))))) pss_nil)
      (pss_one (ps_ret (pe_tup (pa_cons pe_str (pa_cons (pv 5) pa_nil)))))))) pss_nil)
      (pss_cons (ps_if (pt_cmpR op_eq (pv 2) pe_int (nomark _)) (pss_one (ps_ret (pe_tup (pa_cons pe_str (pa_cons (pv 3) pa_nil))))) pss_nil)
      (pss_cons (ps_if (pt_cmpR op_eq (pv 2) pe_int (nomark _)) (pss_cons (ps_set (i := 6) sc_law_act.nd rfl (by first | exact Or.inl rfl | exact Or.inr rfl) (pe_mmK (K := K) rfl G_Ledger_channel (pv 1) (hr.mono (by decide)) (pa_cons (pv 3) pa_nil)))
      (pss_cons (ps_set (i := 7) sc_law_act.nd rfl (by first | exact Or.inl rfl | exact Or.inr rfl) (pe_ifExp (pt_cmpR op_isN (pv 6) pe_non (nomark _)) pe_int (pe_fldK (K := K) rfl (pv 6) rfl)))
      (pss_cons (ps_set (i := 8) sc_law_act.nd rfl (by first | exact Or.inl rfl | exact Or.inr rfl) (pe_ifExp (pt_cmpR op_eq (pe_op op_mod (pv 4) pe_int) pe_int (nomark _)) pe_int pe_int))
      (pss_one (ps_ret (pe_tup (pa_cons pe_str (pa_cons (pe_tup (pa_cons (pv 3) (pa_cons (pe_op op_add (pv 7) (pe_ifExp (pt_cmpR op_eq (pe_op op_mod (pv 4) pe_int) pe_int (nomark _)) pe_int pe_int)) (pa_cons (pe_op op_mod (pe_callTy call_int1 (by rfl) T.z_int (by decide +kernel) (pa_cons (pe_op op_fdiv (pv 4) pe_int) pa_nil)) pe_int) (pa_cons (pe_op op_mod (pe_callTy call_int1 (by rfl) T.z_int (by decide +kernel) (pa_cons (pe_op op_fdiv (pv 4) pe_int) pa_nil)) pe_int) (pa_cons (pe_op op_add (pe_op op_mod (pe_callTy call_int1 (by rfl) T.z_int (by decide +kernel) (pa_cons (pe_op op_fdiv (pv 4) pe_int) pa_nil)) pe_int) (pv 8)) (pa_cons (pe_op op_mod (pe_callTy call_int1 (by rfl) T.z_int (by decide +kernel) (pa_cons (pe_op op_fdiv (pv 4) pe_int) pa_nil)) pe_int) (pa_cons (pe_op op_mod (pe_callTy call_int1 (by rfl) T.z_int (by decide +kernel) (pa_cons (pe_op op_fdiv (pv 4) pe_int) pa_nil)) pe_int) (pa_cons (pe_op op_mod (pe_callTy call_int1 (by rfl) T.z_int (by decide +kernel) (pa_cons (pe_op op_fdiv (pv 4) pe_int) pa_nil)) pe_int) pa_nil))))))))) pa_nil)))))))) pss_nil)
      (pss_cons (ps_if (pt_cmpR op_eq (pv 2) pe_int (nomark _)) (pss_one (ps_ret (pe_tup (pa_cons pe_str (pa_cons (pe_op op_add pe_int (pe_op op_mod (pe_callTy call_int1 (by rfl) T.z_int (by decide +kernel) (pa_cons (pv 4) pa_nil)) pe_int)) pa_nil))))) pss_nil)
      (pss_one (ps_ret (pe_tup (pa_cons pe_str (pa_cons (pe_op op_add pe_int (pe_op op_mod (pe_callTy call_int1 (by rfl) T.z_int (by decide +kernel) (pa_cons (pv 4) pa_nil)) pe_int)) (pa_cons (pe_op op_mod (pe_callTy call_int1 (by rfl) T.z_int (by decide +kernel) (pa_cons (pe_op op_fdiv (pv 4) pe_int) pa_nil)) pe_int) pa_nil)))))))))))))), ?_⟩
    refine' q_set (v := .int (r % 8)) (by walk_at "vl") ?_
    refine' q_set (v := .int (7 + r / 8 % 2)) (by walk_at "vl") ?_
    refine' q_set (v := .int (r / 16)) (by walk_at "vl") ?_
    generalize r % 8 = kd
    generalize 7 + r / 8 % 2 = ch
    generalize r / 16 = rs
    -- open
    refine' q_ifA (a_val (by walk_at "vl")) (fun _ => ?_) (fun _ => n_next ?_)
    · refine s_ret (q_tupG (q_cons val_c (q_consG ?_)))
      refine q_tupG ?_
      refine' q_cons (v := .int ch) (by walk_at "vl") ?_
      refine' q_cons (v := .int 1) (by walk_at "vl") ?_
      refine' q_cons (v := .int (if decide (V.int (rs % 16) = V.int 15) = true then 1 else 2)) (v_ifI (a_val (by walk_at "vl"))) ?_
      refine' q_cons (v := .int (rs / 16 % 15)) (by walk_at "vl") ?_
      refine' q_cons (v := .int (rs / 240 % 9)) (by walk_at "vl") ?_
      refine' q_cons (v := .int (rs / 2160 % 3)) (by walk_at "vl") ?_
      refine' q_cons (v := .int (rs / 6480 % 7)) (by walk_at "vl") (q_nil ⟨by show 7 ≤ sizeLine; decide, fun p hp => q_nil ⟨by show 2 ≤ sizeLine; decide, fun q hq => ?_⟩⟩)
      have e1 := Evl.Ex.new (o := .tup [.int ch, .int 1, .int (if decide (V.int (rs % 16) = V.int 15) = true then 1 else 2), .int (rs / 16 % 15), .int (rs / 240 % 9), .int (rs / 2160 % 3), .int (rs / 6480 % 7)]) hp
      have e2 := Evl.Ex.new (o := .tup [.str "open", .ref p]) hq
      refine k _ q (.opn ⟨ch, 1, if decide (V.int (rs % 16) = V.int 15) = true then 1 else 2, rs / 16 % 15, rs / 240 % 9, rs / 2160 % 3, rs / 6480 % 7⟩) (e1.trans e2) ⟨p, .inl upd_same, .inl (e2 _ _ upd_same)⟩ trivial ⟨?_, ?_⟩
      · show 0 ≤ rs / 16 % 15
        omega
      · show 0 ≤ rs / 240 % 9
        omega
    -- publish
    refine' q_ifA (a_val (by walk_at "vl")) (fun _ => ?_) (fun _ => n_next ?_)
    · refine q_asg (q_callG (q_cons (v := .int rs) (val_var rfl) (q_cons (v := .int ch) (val_var rfl) (q_consG ?_))))
      refine q_call (va_cons (val_var rfl) (va_cons (val_var rfl) va_nil)) ⟨L, b, ts, ch, rfl, hL, fun H1 i e1 => q_nil ?_⟩
      refine ⟨rs, ch, i, rfl, fun H2 p st e2 hS so => ?_⟩
      have e3 := e1.trans e2
      have hL2 := hL.ex e3
      obtain ⟨dx2, o2⟩ := hL2.ob
      have fin : ∀ (v5 : Addr) (st : Sd) (H' : Hp), Ex H H' → StateAt K H' v5 st → StOk st → ∀ q, H' q = none → Q (.ref q) (upd H' q (.tup [.str "publish", .ref v5])) := fun v5 st H' e hs so q hq => by
        have en := Evl.Ex.new (o := .tup [.str "publish", .ref v5]) hq
        exact k _ q (.pub st) (e.trans en) ⟨v5, .inl upd_same, hs.ty (ex_ty en)⟩ so trivial
      refine q_asg (q_meth (val_var rfl) o2 lF_no_channel (va_cons (val_var rfl) va_nil) ⟨L, b, ts, ch, rfl, hL2, ?_, fun H3 c d e4 hd => ?_⟩)
      · refine ⟨fun σ' H' => σ' = [some (.int r), some (.ref L.lg), some (.int kd), some (.int ch), some (.int rs), some (.ref p), some .non, none, none] ∧ H' = H2, ?_, ?_⟩
        · refine' st_if (b := false) (v_is' (a_and2 (b := false) (c := true) (v_ntest (x := .non) (val_var rfl)) (fun z => by cases z)) rfl) (fun z => by cases z) (fun _ => ⟨rfl, rfl⟩)
        rintro σ' H' ⟨rfl, rfl⟩
        exact s_ret (q_tup (va_cons val_c (va_cons (val_var rfl) va_nil)) (by show 2 ≤ 1000; decide) fun q hq => fin p st _ e3 hS so q hq)
      · obtain ⟨dxv, oa, sa, pq, o3, t1, t2, t3⟩ := hd.at_
        have e5 := e3.trans e4
        have hS3 := hS.ty (ex_ty e4)
        refine ⟨fun σ' H' => ∃ (v5 : Addr) (st : Sd), σ' = [some (.int r), some (.ref L.lg), some (.int kd), some (.int ch), some (.int rs), some (.ref v5), some (.ref c), none, none] ∧ Ex H H' ∧ StateAt K H' v5 st ∧ StOk st, ?_, ?_⟩
        · refine' st_if (b := (true && decide (V.int (rs % 13) = V.int 12))) (a_and2 (v_ntest (x := .ref c) (val_var rfl)) (fun _ => a_val (by walk_at "vl"))) (fun _ => ?_) (fun _ => ⟨p, st, rfl, e5, hS3, so⟩)
          refine s_asg ?_
          refine' q_tupG ?_
          refine' q_cons (v := .int ch) (by walk_at "vl") ?_
          refine' q_cons (v := .int 0) (by walk_at "vl") ?_
          refine' q_cons (v := .int d.op.fi) (by walk_at "vl") ?_
          refine' q_cons (v := .int d.op.si) (by walk_at "vl") ?_
          refine q_consG (q_tup va_nil (Nat.zero_le _) fun la hla => ?_)
          refine' q_cons (v := .bl false) (by walk_at "vl") (q_nil ⟨by show 6 ≤ sizeLine; decide, fun q hq => ?_⟩)
          have e6 := Evl.Ex.new (o := .tup []) hla
          have e7 := Evl.Ex.new (o := .tup [.int ch, .int 0, .int d.op.fi, .int d.op.si, .ref la, .bl false]) hq
          exact ⟨q, ⟨ch, 0, d.op.fi, d.op.si, [], false⟩, rfl, (e5.trans e6).trans e7, ⟨la, [], .inl upd_same, .inl (e7 _ _ upd_same), rfl, fun i a l h1 _ => by cases h1⟩, ⟨fun l hl => (by cases hl), Nat.zero_le _⟩⟩
        rintro σ' H' ⟨v5, st5, rfl, e6, hS5, so5⟩
        exact s_ret (q_tup (va_cons val_c (va_cons (val_var rfl) va_nil)) (by show 2 ≤ 1000; decide) fun q hq => fin v5 st5 _ e6 hS5 so5 q hq)
    -- settle
    refine' q_ifA (a_val (by walk_at "vl")) (fun _ => ?_) (fun _ => n_next ?_)
    · refine s_ret (q_tup (va_cons val_c (va_cons (val_var rfl) va_nil)) (by show 2 ≤ 1000; decide) fun q hq => ?_)
      exact k _ q (.set_ ch) (Evl.Ex.new hq) (.inl upd_same) trivial trivial
    -- splice
    refine' q_ifA (a_val (by walk_at "vl")) (fun _ => ?_) (fun _ => n_next ?_)
    · have fin2 : ∀ (ix gr : Int) (H3 : Hp), Ex H H3 → 0 ≤ gr → ∀ p, H3 p = none → ∀ q, upd H3 p (.tup [.int ch, .int ix, .int (rs / 9 % 4), .int (rs / 36 % 8), .int (rs / 288 % 6 + gr), .int (rs / 1728 % 6), .int (rs / 10368 % 6), .int (rs / 62208 % 9)]) q = none → Q (.ref q) (upd (upd H3 p (.tup [.int ch, .int ix, .int (rs / 9 % 4), .int (rs / 36 % 8), .int (rs / 288 % 6 + gr), .int (rs / 1728 % 6), .int (rs / 10368 % 6), .int (rs / 62208 % 9)])) q (.tup [.str "splice", .ref p])) := fun ix gr H3 e hg p hp q hq => by
        have e1 := Evl.Ex.new (o := .tup [.int ch, .int ix, .int (rs / 9 % 4), .int (rs / 36 % 8), .int (rs / 288 % 6 + gr), .int (rs / 1728 % 6), .int (rs / 10368 % 6), .int (rs / 62208 % 9)]) hp
        have e2 := Evl.Ex.new (o := .tup [.str "splice", .ref p]) hq
        refine k _ q (.spl ⟨ch, ix, rs / 9 % 4, rs / 36 % 8, rs / 288 % 6 + gr, rs / 1728 % 6, rs / 10368 % 6, rs / 62208 % 9⟩) ((e.trans e1).trans e2) ⟨p, .inl upd_same, .inl (e2 _ _ upd_same)⟩ trivial ⟨?_, ?_, ?_, ?_⟩
        · show 0 ≤ rs / 288 % 6 + gr
          omega
        · show 0 ≤ rs / 10368 % 6
          omega
        · show 0 ≤ rs / 1728 % 6
          omega
        · show 0 ≤ rs / 62208 % 9
          omega
      refine q_asg (q_meth (val_var rfl) o1 lF_no_channel (va_cons (val_var rfl) va_nil) ⟨L, b, ts, ch, rfl, hL, ?_, fun H3 c d e4 hd => ?_⟩)
      · refine q_set (v := .int 0) (v_if (b := true) (v_itest (x := .non) (val_var rfl)) (fun _ => val_c) (fun z => by cases z)) ?_
        refine' q_set (v := .int (if decide (V.int (rs % 29) = V.int 28) = true then 999999999999995 else 0)) (v_ifI (a_val (by walk_at "vl"))) ?_
        have hg : 0 ≤ (if decide (V.int (rs % 29) = V.int 28) = true then 999999999999995 else 0 : Int) := by split <;> decide
        generalize (if decide (V.int (rs % 29) = V.int 28) = true then 999999999999995 else 0 : Int) = gr at hg ⊢
        refine s_ret (q_tupG (q_cons val_c (q_consG ?_)))
        refine q_tupG ?_
        refine' q_cons (v := .int ch) (by walk_at "vl") ?_
        refine q_cons (v := .int (0 + (if decide (V.int (rs % 9) = V.int 8) = true then 1 else 0))) (v_I0 (val_var rfl) (v_ifI (by refine' a_val ?_; walk_at "vl"))) ?_
        refine' q_cons (v := .int (rs / 9 % 4)) (by walk_at "vl") ?_
        refine' q_cons (v := .int (rs / 36 % 8)) (by walk_at "vl") ?_
        refine' q_cons (v := .int (rs / 288 % 6 + gr)) (by walk_at "vl") ?_
        refine' q_cons (v := .int (rs / 1728 % 6)) (by walk_at "vl") ?_
        refine' q_cons (v := .int (rs / 10368 % 6)) (by walk_at "vl") ?_
        refine' q_cons (v := .int (rs / 62208 % 9)) (by walk_at "vl") (q_nil ⟨by show 8 ≤ sizeLine; decide, fun p hp => q_nil ⟨by show 2 ≤ sizeLine; decide, fun q hq => ?_⟩⟩)
        exact fin2 _ gr _ (Evl.Ex.refl H) hg p hp q hq
      · obtain ⟨dxv, oa, sa, pq, o3, t1, t2, t3⟩ := hd.at_
        refine q_set (v := .int d.spl) (v_if (b := false) (v_itest (x := .ref c) (val_var rfl)) (fun z => by cases z) (fun _ => f_Vault_splices T (val_var rfl) o3)) ?_
        refine' q_set (v := .int (if decide (V.int (rs % 29) = V.int 28) = true then 999999999999995 else 0)) (v_ifI (a_val (by walk_at "vl"))) ?_
        have hg : 0 ≤ (if decide (V.int (rs % 29) = V.int 28) = true then 999999999999995 else 0 : Int) := by split <;> decide
        generalize (if decide (V.int (rs % 29) = V.int 28) = true then 999999999999995 else 0 : Int) = gr at hg ⊢
        refine s_ret (q_tupG (q_cons val_c (q_consG ?_)))
        refine q_tupG ?_
        refine' q_cons (v := .int ch) (by walk_at "vl") ?_
        refine q_cons (v := .int (d.spl + (if decide (V.int (rs % 9) = V.int 8) = true then 1 else 0))) (v_I0 (val_var rfl) (v_ifI (by refine' a_val ?_; walk_at "vl"))) ?_
        refine' q_cons (v := .int (rs / 9 % 4)) (by walk_at "vl") ?_
        refine' q_cons (v := .int (rs / 36 % 8)) (by walk_at "vl") ?_
        refine' q_cons (v := .int (rs / 288 % 6 + gr)) (by walk_at "vl") ?_
        refine' q_cons (v := .int (rs / 1728 % 6)) (by walk_at "vl") ?_
        refine' q_cons (v := .int (rs / 10368 % 6)) (by walk_at "vl") ?_
        refine' q_cons (v := .int (rs / 62208 % 9)) (by walk_at "vl") (q_nil ⟨by show 8 ≤ sizeLine; decide, fun p hp => q_nil ⟨by show 2 ≤ sizeLine; decide, fun q hq => ?_⟩⟩)
        exact fin2 _ gr _ e4 hg p hp q hq
    -- reveal
    refine' q_ifA (a_val (by walk_at "vl")) (fun _ => ?_) (fun _ => n_next ?_)
    · refine' s_ret (q_tup (vs := [.str "reveal", .int (1 + rs % 4)]) (va_cons val_c (va_cons (by walk_at "vl") va_nil)) (by show 2 ≤ 1000; decide) fun q hq => ?_)
      exact k _ q (.rev (1 + rs % 4)) (Evl.Ex.new hq) (.inl upd_same) trivial trivial
    -- pay
    refine' s_ret (q_tup (vs := [.str "pay", .int (1 + rs % 4), .int (rs / 4 % 14)]) (va_cons val_c (va_cons (by walk_at "vl") (va_cons (by walk_at "vl") va_nil))) (by show 3 ≤ 1000; decide) fun q hq => ?_)
    refine k _ q (.pay (1 + rs % 4) (rs / 4 % 14)) (Evl.Ex.new hq) (.inl upd_same) trivial ?_
    show 0 ≤ rs / 4 % 14
    omega
end
end Tk
/-! The law's own helpers: things, the ledger. -/
namespace Tk
open PySem PySem.Spec PyProof.Rows L2
local macro_rules | `(tactic| walk_at "vl") => `(tactic| first
  | ((with_reducible refine' val_var ?a1); (case a1 => rfl))
  | ((with_reducible refine' val_c))
  | ((with_reducible refine' f_Vault_opening ?a1 ?a2 ?a3); (case a1 => assumption); (case a2 => walk_at "vl"); (case a3 => assumption))
  | ((with_reducible refine' f_Vault_money ?a1 ?a2 ?a3); (case a1 => assumption); (case a2 => walk_at "vl"); (case a3 => assumption))
  | ((with_reducible refine' f_Vault_sums ?a1 ?a2 ?a3); (case a1 => assumption); (case a2 => walk_at "vl"); (case a3 => assumption))
  | ((with_reducible refine' f_Vault_splices ?a1 ?a2 ?a3); (case a1 => assumption); (case a2 => walk_at "vl"); (case a3 => assumption))
  | ((with_reducible refine' f_Vault_least ?a1 ?a2 ?a3); (case a1 => assumption); (case a2 => walk_at "vl"); (case a3 => assumption))
  | ((with_reducible refine' f_Vault_published ?a1 ?a2 ?a3); (case a1 => assumption); (case a2 => walk_at "vl"); (case a3 => assumption))
  | ((with_reducible refine' f_Vault_since ?a1 ?a2 ?a3); (case a1 => assumption); (case a2 => walk_at "vl"); (case a3 => assumption))
  | ((with_reducible refine' f_Book_purses ?a1 ?a2 ?a3); (case a1 => assumption); (case a2 => walk_at "vl"); (case a3 => assumption))
  | ((with_reducible refine' f_Book_vaults ?a1 ?a2 ?a3); (case a1 => assumption); (case a2 => walk_at "vl"); (case a3 => assumption))
  | ((with_reducible refine' f_Book_receipts ?a1 ?a2 ?a3); (case a1 => assumption); (case a2 => walk_at "vl"); (case a3 => assumption))
  | ((with_reducible refine' f_Book_ended ?a1 ?a2 ?a3); (case a1 => assumption); (case a2 => walk_at "vl"); (case a3 => assumption))
  | ((with_reducible refine' f_Book_done ?a1 ?a2 ?a3); (case a1 => assumption); (case a2 => walk_at "vl"); (case a3 => assumption))
  | ((with_reducible refine' f_Book_height ?a1 ?a2 ?a3); (case a1 => assumption); (case a2 => walk_at "vl"); (case a3 => assumption))
  | ((with_reducible refine' f_Book_burnt ?a1 ?a2 ?a3); (case a1 => assumption); (case a2 => walk_at "vl"); (case a3 => assumption))
  | ((with_reducible refine' f_Ledger_book ?a1 ?a2 ?a3); (case a1 => assumption); (case a2 => walk_at "vl"); (case a3 => assumption))
  | ((with_reducible refine' f_Ledger_room ?a1 ?a2 ?a3); (case a1 => assumption); (case a2 => walk_at "vl"); (case a3 => assumption))
  | ((with_reducible refine' f_Ledger_waiting ?a1 ?a2 ?a3); (case a1 => assumption); (case a2 => walk_at "vl"); (case a3 => assumption))
  | ((with_reducible refine' v_ix ?a1 ?a2 ?a3 ?a4); (case a1 => walk_at "vl"); (case a2 => walk_at "vl"); (case a3 => assumption); (case a4 => rfl))
  | ((with_reducible refine' v_I0 ?a1 ?a2); (case a1 => walk_at "vl"); (case a2 => walk_at "vl"))
  | ((with_reducible refine' v_isN ?a1); (case a1 => walk_at "vl"))
  | ((with_reducible refine' v_notN ?a1); (case a1 => walk_at "vl"))
  | ((with_reducible refine' v_int1 ?a1); (case a1 => walk_at "vl"))
  | ((with_reducible refine' v_eq ?a1 ?a2 ?a3); (case a1 => walk_at "vl"); (case a2 => walk_at "vl"); (case a3 => rfl))
  | ((with_reducible refine' v_ne ?a1 ?a2 ?a3); (case a1 => walk_at "vl"); (case a2 => walk_at "vl"); (case a3 => rfl))
  | ((with_reducible refine' v_max2 ?a1 ?a2); (case a1 => walk_at "vl"); (case a2 => walk_at "vl"))
  | ((with_reducible refine' v_min2 ?a1 ?a2); (case a1 => walk_at "vl"); (case a2 => walk_at "vl")))
local macro_rules | `(tactic| walk_at "va") => `(tactic| first
  | (with_reducible exact va_nil)
  | ((with_reducible refine' va_cons ?a1 ?a2); (case a1 => walk_at "vl"); (case a2 => walk_at "va")))

local macro_rules | `(tactic| walk_at "vl") => `(tactic| ((with_reducible refine' v_I ?a1 ?a2 ?a3); (case a1 => walk_at "vl"); (case a2 => walk_at "vl"); (case a3 => first | decide | exact .inr ⟨by decide, by decide⟩ | exact .inl ⟨by decide, by decide⟩ | exact ⟨by decide, by decide⟩)))
def spLawThing (K : PySem.W.Frag) : Sp := fun vs H Q _ => ∃ (L : La) (b : Bk) (ts : List Thing) (r : Int), vs = [.int r, .ref L.lg] ∧ LedAt K H L b ts ∧ ∀ (H' : Hp) (p : Addr) (t : Thing), Ex H H' → ThingAt K H' p t → ThOk t → Q (.ref p) H'
def spLawLedger (K : PySem.W.Frag) : Sp := fun vs H Q _ => ∃ r : Int, vs = [.int r] ∧ ∀ (H' : Hp) (L : La) (x y z : Int), Ex H H' → Mid x → Mid y → Mid z → LedAt K H' L (book0 (three x y z)) [] → Q (.ref L.lg) H'
theorem q_makeKG {C : Addr} {n m : Nat} {sp : Sp} {gV : List V → List V → List V} {E : XK} {t tk : TA} {σ : L2.St} {H : Hp} {Q : VK}
    (h : t σ H fun vs H1 => tk σ H1 fun zs H2 => vs.length = n ∧ zs.length = m ∧ ∀ x dx, H2 x = none → H2 dx = none → dx ≠ x → sp (gV (.ref x :: vs) zs) (upd (upd H2 dx (.own x)) x (.ins C dx [])) (fun v H3 => v = .non ∧ Q (.ref x) H3) E) : tMakeK C n m sp gV E t tk σ H Q := h
section
variable {P : Program} {w : World} {K : PySem.W.Frag} {mg : Str → Option Value} {base : Heap}
theorem ok_law_thing (T : Txt K mg) : HasF P w K mg base "_law_thing" 7 ["_law_row", "_law_ledger_here"] (spLawThing K) := by
  have G_law_act : HasF P w K mg base "_law_act" 6 ["_law_row", "_law_ledger_here"] (spLawAct K) := ok_law_act T
  refine hasF (st := s_law_thing) T.f_law_thing T.g_law_thing sc_law_thing (fun _ _ _ _ _ _ us hl => match us, hl with | [_, _], _ => rfl) (fun vs H Q E h => ?_) (fun f cdv A0 outer s H vs Q E hr h => ?_)
  · obtain ⟨L, b, ts, r, rfl, _⟩ := h
    rfl
  · obtain ⟨L, b, ts, r, rfl, hL, k⟩ := h
    refine ⟨_, (pss_cons (ps_set (i := 2) sc_law_thing.nd rfl (by first | exact Or.inl rfl | exact Or.inr rfl) (pe_ix (ix_tupK (K := K) rfl) (pe_tup (pa_cons (pe_tup (pa_cons pe_int (pa_cons pe_int pa_nil))) (pa_cons (pe_tup (pa_cons pe_int (pa_cons pe_int pa_nil))) (pa_cons (pe_tup (pa_cons pe_int (pa_cons pe_int (pa_cons pe_int pa_nil)))) (pa_cons (pe_tup (pa_cons pe_int pa_nil)) (pa_cons (pe_tup (pa_cons pe_int (pa_cons pe_int pa_nil))) (pa_cons (pe_tup (pa_cons pe_int (pa_cons pe_int pa_nil))) pa_nil))))))) (pe_op op_mod (pe_callTy call_int1 (by rfl) T.z_int (by decide +kernel) (pa_cons (pv 0) pa_nil)) pe_int) (fun _ _ => rfl)))
      (pss_cons (ps_set (i := 3) sc_law_thing.nd rfl (by first | exact Or.inl rfl | exact Or.inr rfl) (pe_callTy call_int1 (by rfl) T.z_int (by decide +kernel) (pa_cons (pe_op op_fdiv (pv 0) pe_int) pa_nil)))
      (pss_one (ps_ret (pe_tup (pa_cons (pe_f G_law_act hr (pa_cons (pe_callTy call_int1 (by rfl) T.z_int (by decide +kernel) (pa_cons (pe_op op_fdiv (pv 3) pe_int) pa_nil)) (pa_cons (pv 1) pa_nil))) (pa_cons (pv 2) (pa_cons (pe_op op_add pe_int (pe_op op_mod (pe_callTy call_int1 (by rfl) T.z_int (by decide +kernel) (pa_cons (pv 3) pa_nil)) pe_int)) (pa_cons (pe_op op_mod (pe_callTy call_int1 (by rfl) T.z_int (by decide +kernel) (pa_cons (pe_op op_fdiv (pv 3) pe_int) pa_nil)) pe_int) (pa_cons (pe_op op_mod (pe_callTy call_int1 (by rfl) T.z_int (by decide +kernel) (pa_cons (pe_op op_fdiv (pv 3) pe_int) pa_nil)) pe_int) pa_nil)))))))))), ?_⟩
    -- hands
    refine q_asg (q_opG (q_tupG (q_consG ?_)))
    refine q_tup (va_cons val_c (va_cons val_c va_nil)) (by show 2 ≤ 1000; decide) fun a1 h1 => ?_
    have e1 := Evl.Ex.new (o := .tup [.int 1, .int 2]) h1
    have t1 : Tp K (upd H a1 (.tup [.int 1, .int 2])) a1 (([1, 2] : List Int).map V.int) := .inl upd_same
    generalize upd H a1 (.tup [.int 1, .int 2]) = H1 at e1 t1 ⊢
    refine q_consG (q_tup (va_cons val_c (va_cons val_c va_nil)) (by show 2 ≤ 1000; decide) fun a2 h2 => ?_)
    have e2 := e1.trans (Evl.Ex.new (o := .tup [.int 2, .int 1]) h2)
    have t2 : Tp K (upd H1 a2 (.tup [.int 2, .int 1])) a2 (([2, 1] : List Int).map V.int) := .inl upd_same
    replace t1 := t1.ex (Evl.Ex.new (o := .tup [.int 2, .int 1]) h2)
    generalize upd H1 a2 (.tup [.int 2, .int 1]) = H2 at e2 t1 t2 ⊢
    refine q_consG (q_tup (va_cons val_c (va_cons val_c (va_cons val_c va_nil))) (by show 3 ≤ 1000; decide) fun a3 h3 => ?_)
    have e3 := e2.trans (Evl.Ex.new (o := .tup [.int 1, .int 2, .int 3]) h3)
    have t3 : Tp K (upd H2 a3 (.tup [.int 1, .int 2, .int 3])) a3 (([1, 2, 3] : List Int).map V.int) := .inl upd_same
    replace t1 := t1.ex (Evl.Ex.new (o := .tup [.int 1, .int 2, .int 3]) h3)
    replace t2 := t2.ex (Evl.Ex.new (o := .tup [.int 1, .int 2, .int 3]) h3)
    generalize upd H2 a3 (.tup [.int 1, .int 2, .int 3]) = H3 at e3 t1 t2 t3 ⊢
    refine q_consG (q_tup (va_cons val_c va_nil) (by show 1 ≤ 1000; decide) fun a4 h4 => ?_)
    have e4 := e3.trans (Evl.Ex.new (o := .tup [.int 1]) h4)
    have t4 : Tp K (upd H3 a4 (.tup [.int 1])) a4 (([1] : List Int).map V.int) := .inl upd_same
    replace t1 := t1.ex (Evl.Ex.new (o := .tup [.int 1]) h4)
    replace t2 := t2.ex (Evl.Ex.new (o := .tup [.int 1]) h4)
    replace t3 := t3.ex (Evl.Ex.new (o := .tup [.int 1]) h4)
    generalize upd H3 a4 (.tup [.int 1]) = H4 at e4 t1 t2 t3 t4 ⊢
    refine q_consG (q_tup (va_cons val_c (va_cons val_c va_nil)) (by show 2 ≤ 1000; decide) fun a5 h5 => ?_)
    have e5 := e4.trans (Evl.Ex.new (o := .tup [.int 2, .int 2]) h5)
    have t5 : Tp K (upd H4 a5 (.tup [.int 2, .int 2])) a5 (([2, 2] : List Int).map V.int) := .inl upd_same
    replace t1 := t1.ex (Evl.Ex.new (o := .tup [.int 2, .int 2]) h5)
    replace t2 := t2.ex (Evl.Ex.new (o := .tup [.int 2, .int 2]) h5)
    replace t3 := t3.ex (Evl.Ex.new (o := .tup [.int 2, .int 2]) h5)
    replace t4 := t4.ex (Evl.Ex.new (o := .tup [.int 2, .int 2]) h5)
    generalize upd H4 a5 (.tup [.int 2, .int 2]) = H5 at e5 t1 t2 t3 t4 t5 ⊢
    refine q_consG (q_tup (va_cons val_c (va_cons val_c va_nil)) (by show 2 ≤ 1000; decide) fun a6 h6 => ?_)
    have e6 := e5.trans (Evl.Ex.new (o := .tup [.int 1, .int 2]) h6)
    have t6 : Tp K (upd H5 a6 (.tup [.int 1, .int 2])) a6 (([1, 2] : List Int).map V.int) := .inl upd_same
    replace t1 := t1.ex (Evl.Ex.new (o := .tup [.int 1, .int 2]) h6)
    replace t2 := t2.ex (Evl.Ex.new (o := .tup [.int 1, .int 2]) h6)
    replace t3 := t3.ex (Evl.Ex.new (o := .tup [.int 1, .int 2]) h6)
    replace t4 := t4.ex (Evl.Ex.new (o := .tup [.int 1, .int 2]) h6)
    replace t5 := t5.ex (Evl.Ex.new (o := .tup [.int 1, .int 2]) h6)
    generalize upd H5 a6 (.tup [.int 1, .int 2]) = H6 at e6 t1 t2 t3 t4 t5 t6 ⊢
    refine q_nil ⟨by show 6 ≤ sizeLine; decide, fun p hp => ?_⟩
    have en := Evl.Ex.new (o := .tup [.ref a1, .ref a2, .ref a3, .ref a4, .ref a5, .ref a6]) hp
    refine' go (v := .int (r % 6)) (by walk_at "vl") ?_
    have pick : ∃ (a : Addr) (hs : List Int), atI [.ref a1, .ref a2, .ref a3, .ref a4, .ref a5, .ref a6] (r % 6) = some (V.ref a) ∧ Tp K H6 a (hs.map V.int) := by
      have h0 : r % 6 = 0 ∨ r % 6 = 1 ∨ r % 6 = 2 ∨ r % 6 = 3 ∨ r % 6 = 4 ∨ r % 6 = 5 := by omega
      rcases h0 with h | h | h | h | h | h <;> rw [h]
      · exact ⟨a1, [1, 2], rfl, t1⟩
      · exact ⟨a2, [2, 1], rfl, t2⟩
      · exact ⟨a3, [1, 2, 3], rfl, t3⟩
      · exact ⟨a4, [1], rfl, t4⟩
      · exact ⟨a5, [2, 2], rfl, t5⟩
      · exact ⟨a6, [1, 2], rfl, t6⟩
    obtain ⟨ha, hs, hat, th⟩ := pick
    refine ⟨p, _, _, _, rfl, rfl, SqT.of upd_same, hat, ?_⟩
    have e7 := e6.trans en
    have th7 := th.ex en
    clear t1 t2 t3 t4 t5 t6 e1 e2 e3 e4 e5 e6 th hat
    generalize upd H6 p (.tup [.ref a1, .ref a2, .ref a3, .ref a4, .ref a5, .ref a6]) = H7 at e7 th7 ⊢
    -- the rest
    refine' q_set (v := .int (r / 6)) (by walk_at "vl") ?_
    generalize r / 6 = rs
    refine s_ret (q_tupG (q_consG ?_))
    refine' q_call (vs := [.int (rs / 108), .ref L.lg]) (by walk_at "va") ⟨L, b, ts, rs / 108, rfl, hL.ex e7, fun H8 aa t e8 hA ao am => ?_⟩
    refine' q_cons (v := .ref ha) (by walk_at "vl") ?_
    refine' q_cons (v := .int (1 + rs % 3)) (by walk_at "vl") ?_
    refine' q_cons (v := .int (rs / 3 % 3)) (by walk_at "vl") ?_
    refine' q_cons (v := .int (rs / 9 % 12)) (by walk_at "vl") (q_nil ⟨by show 5 ≤ sizeLine; decide, fun q hq => ?_⟩)
    have e9 := Evl.Ex.new (o := .tup [.ref aa, .ref ha, .int (1 + rs % 3), .int (rs / 3 % 3), .int (rs / 9 % 12)]) hq
    refine k _ q ⟨t, hs, 1 + rs % 3, rs / 3 % 3, rs / 9 % 12⟩ ((e7.trans e8).trans e9) ⟨aa, ha, .inl upd_same, hA.ty (ex_ty e9), (th7.ex e8).ex e9⟩ ⟨by show 0 ≤ rs / 3 % 3; omega, ao, ?_⟩
    cases t <;> exact am
theorem ok_law_ledger (T : Txt K mg) : HasF P w K mg base "_law_ledger" 5 ["_law_row"] (spLawLedger K) := by
  have M_Ledger : HasKw P w K mg base "Ledger" 3 1 ["self", "purses", "room"] ["room"] (fun vs zs => vs ++ zs) (spLedgerInit K) := ledger_init T
  refine hasF (st := s_law_ledger) T.f_law_ledger T.g_law_ledger sc_law_ledger (fun _ _ _ _ _ _ us hl => match us, hl with | [_], _ => rfl) (fun vs H Q E h => ?_) (fun f cdv A0 outer s H vs Q E hr h => ?_)
  · obtain ⟨r, rfl, _⟩ := h
    rfl
  · obtain ⟨r, rfl, k⟩ := h
    refine ⟨_, (pss_one (ps_ret (pe_mkw M_Ledger hr (pa_cons (pe_lst (pa_cons (pe_tup (pa_cons pe_int (pa_cons (pe_op op_add pe_int (pe_op op_mod (pe_callTy call_int1 (by rfl) T.z_int (by decide +kernel) (pa_cons (pv 0) pa_nil)) pe_int)) pa_nil))) (pa_cons (pe_tup (pa_cons pe_int (pa_cons (pe_op op_mod (pe_callTy call_int1 (by rfl) T.z_int (by decide +kernel) (pa_cons (pe_op op_fdiv (pv 0) pe_int) pa_nil)) pe_int) pa_nil))) (pa_cons (pe_tup (pa_cons pe_int (pa_cons (pe_op op_mod (pe_callTy call_int1 (by rfl) T.z_int (by decide +kernel) (pa_cons (pe_op op_fdiv (pv 0) pe_int) pa_nil)) pe_int) pa_nil))) pa_nil)))) pa_nil) (pk_cons (pe_op op_add pe_int (pe_op op_mod (pe_callTy call_int1 (by rfl) T.z_int (by decide +kernel) (pa_cons (pe_op op_fdiv (pv 0) pe_int) pa_nil)) pe_int)) pk_nil)))), ?_⟩
    refine s_ret (q_makeKG (q_consG (q_lstG (q_consG ?_))))
    refine' q_tup (vs := [.int 1, .int (20 + r % 20)]) (by walk_at "va") (by show 2 ≤ 1000; decide) fun a1 h1 => ?_
    have e1 := Evl.Ex.new (o := .tup [.int 1, .int (20 + r % 20)]) h1
    have t1 : Tp K (upd H a1 (.tup [.int 1, .int (20 + r % 20)])) a1 [.int 1, .int (20 + r % 20)] := .inl upd_same
    generalize upd H a1 (.tup [.int 1, .int (20 + r % 20)]) = H1 at e1 t1 ⊢
    refine q_consG ?_
    refine' q_tup (vs := [.int 2, .int (r / 20 % 30)]) (by walk_at "va") (by show 2 ≤ 1000; decide) fun a2 h2 => ?_
    have e2 := e1.trans (Evl.Ex.new (o := .tup [.int 2, .int (r / 20 % 30)]) h2)
    have t2 : Tp K (upd H1 a2 (.tup [.int 2, .int (r / 20 % 30)])) a2 [.int 2, .int (r / 20 % 30)] := .inl upd_same
    replace t1 := t1.ex (Evl.Ex.new (o := .tup [.int 2, .int (r / 20 % 30)]) h2)
    generalize upd H1 a2 (.tup [.int 2, .int (r / 20 % 30)]) = H2 at e2 t1 t2 ⊢
    refine q_consG ?_
    refine' q_tup (vs := [.int 3, .int (r / 600 % 9)]) (by walk_at "va") (by show 2 ≤ 1000; decide) fun a3 h3 => ?_
    have e3 := e2.trans (Evl.Ex.new (o := .tup [.int 3, .int (r / 600 % 9)]) h3)
    have t3 : Tp K (upd H2 a3 (.tup [.int 3, .int (r / 600 % 9)])) a3 [.int 3, .int (r / 600 % 9)] := .inl upd_same
    replace t1 := t1.ex (Evl.Ex.new (o := .tup [.int 3, .int (r / 600 % 9)]) h3)
    replace t2 := t2.ex (Evl.Ex.new (o := .tup [.int 3, .int (r / 600 % 9)]) h3)
    generalize upd H2 a3 (.tup [.int 3, .int (r / 600 % 9)]) = H3 at e3 t1 t2 t3 ⊢
    refine q_nil ⟨by show 3 ≤ sizeLine; decide, fun pl hpl => q_nil ?_⟩
    have en := Evl.Ex.new (o := .lst [.ref a1, .ref a2, .ref a3]) hpl
    have e4 := e3.trans en
    have c4 : upd H3 pl (.lst [.ref a1, .ref a2, .ref a3]) pl = some (.lst (([a1, a2, a3] : List Addr).map V.ref)) := upd_same
    replace t1 := t1.ex en
    replace t2 := t2.ex en
    replace t3 := t3.ex en
    generalize upd H3 pl (.lst [.ref a1, .ref a2, .ref a3]) = H4 at e4 t1 t2 t3 c4 ⊢
    refine' q_cons (v := .int (1 + r / 5400 % 4)) (by walk_at "vl") (q_nil ⟨rfl, rfl, fun x dx hx hdx hne => ?_⟩)
    have e5 : Ex H4 (upd (upd H4 dx (.own x)) x (.ins (He.ga K "Ledger") dx [])) := Evl.Ex.mut (Evl.Ex.new hdx) hx
    refine ⟨x, dx, pl, [a1, a2, a3], 20 + r % 20, r / 20 % 30, r / 600 % 9, 1 + r / 5400 % 4, rfl, upd_same, e5 _ _ c4, ⟨rfl, fun i a p h1 h2 => ?_⟩, ⟨by omega, by omega⟩, ⟨by omega, by omega⟩, ⟨by omega, by omega⟩, by omega, by omega, fun H' L hLx kp hL => ⟨rfl, ?_⟩⟩
    · match i, h1, h2 with
      | 0, h1, h2 => cases h1; cases h2; exact t1.ex e5
      | 1, h1, h2 => cases h1; cases h2; exact t2.ex e5
      | 2, h1, h2 => cases h1; cases h2; exact t3.ex e5
      | n + 3, h1, h2 => cases h1
    · rw [← hLx]
      have hx0 : H x = none := Evl.fresh_back e4 hx
      refine k H' L _ _ _ (fun c o hc => kp c o (e5 c o (e4 c o hc)) fun z => ?_) ⟨by omega, by omega⟩ ⟨by omega, by omega⟩ ⟨by omega, by omega⟩ hL
      rw [z, hx0] at hc
      cases hc
end
end Tk
/-! The law's own helpers: the check of the ledger. -/
namespace Tk
open PySem PySem.Spec PyProof.Rows L2
local macro_rules | `(tactic| walk_at "vl") => `(tactic| first
  | ((with_reducible refine' val_var ?a1); (case a1 => rfl))
  | ((with_reducible refine' val_c))
  | ((with_reducible refine' f_Vault_opening ?a1 ?a2 ?a3); (case a1 => assumption); (case a2 => walk_at "vl"); (case a3 => assumption))
  | ((with_reducible refine' f_Vault_money ?a1 ?a2 ?a3); (case a1 => assumption); (case a2 => walk_at "vl"); (case a3 => assumption))
  | ((with_reducible refine' f_Vault_sums ?a1 ?a2 ?a3); (case a1 => assumption); (case a2 => walk_at "vl"); (case a3 => assumption))
  | ((with_reducible refine' f_Vault_splices ?a1 ?a2 ?a3); (case a1 => assumption); (case a2 => walk_at "vl"); (case a3 => assumption))
  | ((with_reducible refine' f_Vault_least ?a1 ?a2 ?a3); (case a1 => assumption); (case a2 => walk_at "vl"); (case a3 => assumption))
  | ((with_reducible refine' f_Vault_published ?a1 ?a2 ?a3); (case a1 => assumption); (case a2 => walk_at "vl"); (case a3 => assumption))
  | ((with_reducible refine' f_Vault_since ?a1 ?a2 ?a3); (case a1 => assumption); (case a2 => walk_at "vl"); (case a3 => assumption))
  | ((with_reducible refine' f_Book_purses ?a1 ?a2 ?a3); (case a1 => assumption); (case a2 => walk_at "vl"); (case a3 => assumption))
  | ((with_reducible refine' f_Book_vaults ?a1 ?a2 ?a3); (case a1 => assumption); (case a2 => walk_at "vl"); (case a3 => assumption))
  | ((with_reducible refine' f_Book_receipts ?a1 ?a2 ?a3); (case a1 => assumption); (case a2 => walk_at "vl"); (case a3 => assumption))
  | ((with_reducible refine' f_Book_ended ?a1 ?a2 ?a3); (case a1 => assumption); (case a2 => walk_at "vl"); (case a3 => assumption))
  | ((with_reducible refine' f_Book_done ?a1 ?a2 ?a3); (case a1 => assumption); (case a2 => walk_at "vl"); (case a3 => assumption))
  | ((with_reducible refine' f_Book_height ?a1 ?a2 ?a3); (case a1 => assumption); (case a2 => walk_at "vl"); (case a3 => assumption))
  | ((with_reducible refine' f_Book_burnt ?a1 ?a2 ?a3); (case a1 => assumption); (case a2 => walk_at "vl"); (case a3 => assumption))
  | ((with_reducible refine' f_Ledger_book ?a1 ?a2 ?a3); (case a1 => assumption); (case a2 => walk_at "vl"); (case a3 => assumption))
  | ((with_reducible refine' f_Ledger_room ?a1 ?a2 ?a3); (case a1 => assumption); (case a2 => walk_at "vl"); (case a3 => assumption))
  | ((with_reducible refine' f_Ledger_waiting ?a1 ?a2 ?a3); (case a1 => assumption); (case a2 => walk_at "vl"); (case a3 => assumption))
  | ((with_reducible refine' v_ix ?a1 ?a2 ?a3 ?a4); (case a1 => walk_at "vl"); (case a2 => walk_at "vl"); (case a3 => assumption); (case a4 => rfl))
  | ((with_reducible refine' v_I0 ?a1 ?a2); (case a1 => walk_at "vl"); (case a2 => walk_at "vl"))
  | ((with_reducible refine' v_isN ?a1); (case a1 => walk_at "vl"))
  | ((with_reducible refine' v_notN ?a1); (case a1 => walk_at "vl"))
  | ((with_reducible refine' v_int1 ?a1); (case a1 => walk_at "vl"))
  | ((with_reducible refine' v_eq ?a1 ?a2 ?a3); (case a1 => walk_at "vl"); (case a2 => walk_at "vl"); (case a3 => rfl))
  | ((with_reducible refine' v_ne ?a1 ?a2 ?a3); (case a1 => walk_at "vl"); (case a2 => walk_at "vl"); (case a3 => rfl))
  | ((with_reducible refine' v_max2 ?a1 ?a2); (case a1 => walk_at "vl"); (case a2 => walk_at "vl"))
  | ((with_reducible refine' v_min2 ?a1 ?a2); (case a1 => walk_at "vl"); (case a2 => walk_at "vl")))
local macro_rules | `(tactic| walk_at "va") => `(tactic| first
  | (with_reducible exact va_nil)
  | ((with_reducible refine' va_cons ?a1 ?a2); (case a1 => walk_at "vl"); (case a2 => walk_at "va")))

def spLawSound (K : PySem.W.Frag) : Sp := fun vs H Q _ => ∃ (L : La) (b : Bk) (ts : List Thing) (M : Int) (El : Addr) (E : List Int), vs = [.ref L.lg, .int M, .ref El] ∧ LedAt K H L b ts ∧ Inv b M ∧ Small b 200 ∧ H El = some (.lst (E.map V.int)) ∧ (∃ l, b.ended = E ++ l) ∧ ∀ H', Ex H H' → Q (.bl true) H'
theorem upd_self {H : Hp} {d : Addr} {u : HO} (h : H d = some u) : upd H d u = H := funext fun b => by
  by_cases z : b = d
  · rw [z, upd_same, h]
  · rw [upd_ne z]
theorem take_sum {α : Type} {m : α → Int} {l : List (Int × α)} {i : Nat} {p : Int × α} (h : l[i]? = some p) : sumBy m (l.take (i + 1)) = sumBy m (l.take i) + m p.2 := by
  rw [List.take_add_one, h, sum_app]
  show _ + sumBy m [p] = _
  rw [sum_one]
theorem lay_ints : ∀ l : List Int, PyData.canLayAll0 (l.map PyData.int) = true
  | [] => rfl
  | i :: r => by
    have ih := lay_ints r
    show (true && PyData.canLayAll0 (r.map PyData.int)) = true
    rw [ih]
    rfl
theorem shaped_ints (l : List Int) : SeqAt.shaped (.list (l.map PyData.int)) = true := by
  have h1 : PyData.canLay0 (.list (l.map PyData.int)) = true := lay_ints l
  have h2 : PyData.depth (.list (l.map PyData.int)) ≤ 64 := by
    show PyData.depthAll (l.map PyData.int) + 1 ≤ 64
    rw [depth_ints]
    decide
  show (PyData.canLay0 (.list (l.map PyData.int)) && decide (PyData.depth (.list (l.map PyData.int)) ≤ 64)) = true
  rw [h1, decide_eq_true h2]
  rfl
theorem q_slU {r : V → Option Int → Option Int → Hp → VK → Prop} {te t : TE} {σ : L2.St} {H : Hp} {Q : VK} (h : te σ H fun x H1 => t σ H1 fun y H2 => ∃ i, y = .int i ∧ r x none (some i) H2 Q) : tSl r te tNoPart (tPart t) σ H Q := h
theorem q_slL {r : V → Option Int → Option Int → Hp → VK → Prop} {te t : TE} {σ : L2.St} {H : Hp} {Q : VK} (h : te σ H fun x H1 => t σ H1 fun y H2 => ∃ i, y = .int i ∧ r x (some i) none H2 Q) : tSl r te (tPart t) tNoPart σ H Q := h
theorem q_orT {t u : TT} {σ : L2.St} {H : Hp} {R : Bool → Hp → Prop} (h : t σ H fun b H1 => if b = true then R true H1 else u σ H1 R) : tOr t u σ H R := h
section
variable {P : Program} {w : World} {K : PySem.W.Frag} {mg : Str → Option Value} {base : Heap}
theorem ok_law_sound (T : Txt K mg) : HasF P w K mg base "_law_sound" 5 ["_law_ledger_here", "_law_money_here", "_law_ended"] (spLawSound K) := by
  have G_all_money : HasP P w K mg base "all_money" 2 (spAllMoney K) := ok_all_money T
  have G_burnt_so_far : HasP P w K mg base "burnt_so_far" 1 (spBurnt K) := ok_burnt T
  have G_height_now : HasP P w K mg base "height_now" 1 (spHeight K) := ok_height T
  refine hasF (st := s_law_sound) T.f_law_sound T.g_law_sound sc_law_sound (fun _ _ _ _ _ _ us hl => match us, hl with | [_, _, _], _ => rfl) (fun vs H Q E h => ?_) (fun f cdv A0 outer s H vs Q E hr h => ?_)
  · obtain ⟨L, b, ts, M, El, Es, rfl, _⟩ := h
    rfl
  · obtain ⟨L, b, ts, M, El, Es, rfl, hL, I, sm, hEl, hEs, k⟩ := h
    obtain ⟨dx, o1⟩ := hL.ob
    have B := hL.bk
    obtain ⟨dxb, o2⟩ := B.ob
    refine ⟨_, (pss_cons (ps_set (i := 3) sc_law_sound.nd rfl (by first | exact Or.inl rfl | exact Or.inr rfl) (pe_fldK (K := K) rfl (pv 0) rfl))
      (pss_cons (ps_set (i := 4) sc_law_sound.nd rfl (by first | exact Or.inl rfl | exact Or.inr rfl) pe_int)
      (pss_cons (ps_lock (ps_for PassesOwn.never rfl (pi_keys (pe_fldK (K := K) rfl (pv 3) rfl)) (pg_name (i := 5) sc_law_sound.nd rfl (by first | exact Or.inl rfl | exact Or.inr rfl)) (pss_cons (ps_if (pt_cmpR op_lt (pe_dget (hu_of hr) (pe_fldK (K := K) rfl (pv 3) rfl) (pv 5) (fun _ _ => rfl)) pe_int (nomark _)) (pss_one (ps_ret pe_bl)) pss_nil)
      (pss_one (ps_set (i := 4) sc_law_sound.nd rfl (by first | exact Or.inl rfl | exact Or.inr rfl) (pe_op op_add (pv 4) (pe_dget (hu_of hr) (pe_fldK (K := K) rfl (pv 3) rfl) (pv 5) (fun _ _ => rfl))))))))
      (pss_cons (ps_lock (ps_for PassesOwn.never rfl (pi_keys (pe_fldK (K := K) rfl (pv 3) rfl)) (pg_name (i := 6) sc_law_sound.nd rfl (by first | exact Or.inl rfl | exact Or.inr rfl)) (pss_cons (ps_set (i := 7) sc_law_sound.nd rfl (by first | exact Or.inl rfl | exact Or.inr rfl) (pe_dget (hu_of hr) (pe_fldK (K := K) rfl (pv 3) rfl) (pv 6) (fun _ _ => rfl)))
      (pss_cons (ps_set (i := 8) sc_law_sound.nd rfl (by first | exact Or.inl rfl | exact Or.inr rfl) (pe_fldK (K := K) rfl (pv 7) rfl))
      (pss_cons (ps_if (pt_cmpR op_ne (pe_fldK (K := K) rfl (pv 7) rfl) (pe_op op_sub (pe_op op_sub (pe_op op_add (pe_op op_add (pe_op op_add (pe_ix (ix_tupK (K := K) rfl) (pe_fldK (K := K) rfl (pv 7) rfl) pe_int (fun _ _ => rfl)) (pe_ix (ix_tupK (K := K) rfl) (pe_fldK (K := K) rfl (pv 7) rfl) pe_int (fun _ _ => rfl))) (pe_ix (ix_tupK (K := K) rfl) (pv 8) pe_int (fun _ _ => rfl))) (pe_ix (ix_tupK (K := K) rfl) (pv 8) pe_int (fun _ _ => rfl))) (pe_ix (ix_tupK (K := K) rfl) (pv 8) pe_int (fun _ _ => rfl))) (pe_ix (ix_tupK (K := K) rfl) (pv 8) pe_int (fun _ _ => rfl))) (nomark _)) (pss_one (ps_ret pe_bl)) pss_nil)
      (pss_cons (ps_if (PW.pt (pw_or (pt_cmpR op_lt (pe_fldK (K := K) rfl (pv 7) rfl) pe_int (nomark _)) (pw_or (pt_cmpR op_in_seq (pv 6) (pv 2) (by rfl)) (pw_or1 (pt_cmpR op_in_seq (pv 6) (pe_fldK (K := K) rfl (pv 3) rfl) (by rfl)))))) (pss_one (ps_ret pe_bl)) pss_nil)
      (pss_one (ps_set (i := 4) sc_law_sound.nd rfl (by first | exact Or.inl rfl | exact Or.inr rfl) (pe_op op_add (pv 4) (pe_fldK (K := K) rfl (pv 7) rfl))))))))))
      (pss_cons (ps_if (PW.pt (pw_or (pt_cmpR op_ne (pe_op op_add (pv 4) (pe_fldK (K := K) rfl (pv 3) rfl)) (pv 1) (nomark _)) (pw_or (pt_cmpR op_ne (pe_pp G_all_money (hr.mono (by decide)) (pv 0)) (pv 4) (nomark _)) (pw_or1 (pt_cmpR op_ne (pe_pp G_burnt_so_far (hr.mono (by decide)) (pv 0)) (pe_fldK (K := K) rfl (pv 3) rfl) (nomark _)))))) (pss_one (ps_ret pe_bl)) pss_nil)
      (pss_one (ps_ret (pe_and (pe_cmpR (op_eqD (hu64 hr)) (pe_slice sl_list (pe_fldK (K := K) rfl (pv 3) rfl) po_none (po_some (pe_callB call_len_seq (by rfl) T.z_len (by decide +kernel) (pa_cons (pv 2) pa_nil)))) (pv 2) (nomark _)) (pe_one (pe_cmpR op_eq (pe_pp G_height_now (hr.mono (by decide)) (pv 0)) (pe_fldK (K := K) rfl (pv 3) rfl) (nomark _))))))))))), ?_⟩
    refine' q_set (v := .ref L.A.bk) (by walk_at "vl") ?_
    refine q_set (v := .int 0) val_c ?_
    -- purses
    have nk : L.A.bk ≠ L.A.pd := neH o2 B.pu fun z => by cases z
    refine q_forK (g := V.int) (l := b.purses) B.pu (fun od => ?_) (fun od i σ' H' => H' = upd H L.A.pd (.frz od (.dK (dkI b.purses))) ∧ ∃ v5, σ' = [some (.ref L.lg), some (.int M), some (.ref El), some (.ref L.A.bk), some (.int (sumI (b.purses.take i))), v5, none, none, none]) (fun od => ⟨rfl, none, rfl⟩) (fun od i σ' H' z => by rw [z.1]; exact upd_same) ?_ ?_
    · have o3 : upd H L.A.pd (.frz od (.dK (dk V.int b.purses))) L.A.bk = some (.ins (He.ga K "Book") dxb (bF L.A.pd L.A.vd L.A.rd L.A.el L.A.dl b.height b.burnt)) := by rw [upd_ne nk]; exact o2
      walk_at "vl"
    · rintro od i p σ' H' bk hp ⟨rfl, v5, rfl⟩
      have o3 : upd H L.A.pd (.frz od (.dK (dkI b.purses))) L.A.bk = some (.ins (He.ga K "Book") dxb (bF L.A.pd L.A.vd L.A.rd L.A.el L.A.dl b.height b.burnt)) := by rw [upd_ne nk]; exact o2
      have ld : upd H L.A.pd (.frz od (.dK (dkI b.purses))) L.A.pd = some (.frz od (.dK (dkI b.purses))) := upd_same
      have hmem := List.mem_of_getElem? hp
      have hg : getI b.purses p.1 = some p.2 := getI_of_mem I.pn (by exact hmem)
      have h0 := I.pp p hmem
      refine' q_ifA (b := false) (v_is' (a_val (v_I0 (v_dgetF (g := V.int) (k := p.1) (v := p.2) (by walk_at "vl") (val_var rfl) ld hg) val_c)) (decide_eq_false (by omega))) (fun z => by cases z) (fun _ => n_next ?_)
      refine' s_asg (go (v_I0 (val_var rfl) (v_dgetF (g := V.int) (k := p.1) (v := p.2) (by walk_at "vl") (val_var rfl) ld hg)) ⟨rfl, some (.int p.1), ?_⟩)
      have es : sumI (b.purses.take (i + 1)) = sumI (b.purses.take i) + p.2 := take_sum hp
      rw [es]
      rfl
    rintro od σ' H' ⟨rfl, v5, rfl⟩
    rw [List.take_length, upd2, upd_self (by exact B.pu)]
    clear nk
    -- vaults
    have nk : L.A.bk ≠ L.A.vd := neH o2 B.va fun z => by cases z
    refine q_forK (g := vR) (l := b.vaults) B.va (fun od => ?_) (fun od i σ' H' => H' = upd H L.A.vd (.frz od (.dK (dk vR b.vaults))) ∧ ∃ v6 v7 v8, σ' = [some (.ref L.lg), some (.int M), some (.ref El), some (.ref L.A.bk), some (.int (sumI b.purses + sumBy vmo (b.vaults.take i))), v5, v6, v7, v8]) (fun od => ⟨rfl, none, none, none, by
      have e0 : sumI b.purses + sumBy vmo (b.vaults.take 0) = sumI b.purses := by
        show sumI b.purses + 0 = sumI b.purses
        omega
      rw [e0]⟩) (fun od i σ' H' z => by rw [z.1]; exact upd_same) ?_ ?_
    · have o3 : upd H L.A.vd (.frz od (.dK (dk vR b.vaults))) L.A.bk = some (.ins (He.ga K "Book") dxb (bF L.A.pd L.A.vd L.A.rd L.A.el L.A.dl b.height b.burnt)) := by rw [upd_ne nk]; exact o2
      walk_at "vl"
    · rintro od i p σ' H' bk hp ⟨rfl, v6, v7, v8, rfl⟩
      have o3 : upd H L.A.vd (.frz od (.dK (dk vR b.vaults))) L.A.bk = some (.ins (He.ga K "Book") dxb (bF L.A.pd L.A.vd L.A.rd L.A.el L.A.dl b.height b.burnt)) := by rw [upd_ne nk]; exact o2
      have ld : upd H L.A.vd (.frz od (.dK (dk vR b.vaults))) L.A.vd = some (.frz od (.dK (dk vR b.vaults))) := upd_same
      have hmem := List.mem_of_getElem? hp
      have hg : getI b.vaults p.1 = some p.2 := getI_of_mem I.vn (by exact hmem)
      have hV := B.vs p hmem
      have G := I.vg p hmem
      have ne := I.ve p hmem
      have ty : Ty H (upd H L.A.vd (.frz od (.dK (dk vR b.vaults)))) := Ty.upd B.va (fun _ z => by cases z)
      have hV2 : VaultAt K (upd H L.A.vd (.frz od (.dK (dk vR b.vaults)))) p.2.1 p.2.2 := hV.keep ty fun o ho => by rw [upd_ne (hV.ne B.va nvl_dK)]; exact ho
      have hEl2 : upd H L.A.vd (.frz od (.dK (dk vR b.vaults))) El = some (.lst (Es.map V.int)) := by rw [upd_ne (neH hEl B.va fun z => by cases z)]; exact hEl
      have hen2 : upd H L.A.vd (.frz od (.dK (dk vR b.vaults))) L.A.el = some (.lst (b.ended.map V.int)) := by rw [upd_ne (neH B.en B.va fun z => by cases z)]; exact B.en
      have mem : upd H L.A.vd (.frz od (.dK (dk vR b.vaults))) = upd H L.A.vd (.frz od (.dK (dk vR b.vaults))) := rfl
      refine' q_set (v := .ref p.2.1) (v_dgetF (g := vR) (k := p.1) (v := p.2) (by walk_at "vl") (val_var rfl) ld hg) ?_
      have fin : ∀ H2, H2 = upd H L.A.vd (.frz od (.dK (dk vR b.vaults))) → H2 = upd H L.A.vd (.frz od (.dK (dk vR b.vaults))) := fun _ h => h
      generalize hH2 : upd H L.A.vd (.frz od (.dK (dk vR b.vaults))) = H2 at hV2 hEl2 hen2 o3 ⊢
      obtain ⟨dxv, oa, sa, pq, o4, u1, u2, u3⟩ := hV2.at_
      refine' q_set (v := .ref sa) (by walk_at "vl") ?_
      have hm := G.mo
      unfold mon at hm
      -- the vault's money
      refine q_ifA (b := false) (v_is' (a_val (v_ne (x := .int p.2.2.money) (y := .int (p.2.2.op.fi + p.2.2.op.si + p.2.2.sums.s0 + p.2.2.sums.s2 - p.2.2.sums.s1 - p.2.2.sums.s3)) ?_ ?_ rfl)) ?_) (fun z => by cases z) (fun _ => n_next ?_)
      · walk_at "vl"
      · walk_at "vl"
      · rw [decide_eq_true (by congr 1; omega)]
        rfl
      have hpo := G.po
      refine q_ifA (b := false) (v_is' (a_or2 (b := false) (c := false || false) (v_is' (a_val (v_I0 (f_Vault_money T (val_var rfl) o4) val_c)) (decide_eq_false (by omega))) (fun _ => a_or2 (b := false) (c := false) (v_is' (a_val (v_inL (x := .int p.1) (val_var rfl) (val_var rfl) (SqL.of hEl2) rfl (flat_ints _))) ?_) (fun _ => v_is' (a_val (v_inL (x := .int p.1) (val_var rfl) ?_ (SqL.of hen2) rfl (flat_ints _))) ?_))) rfl) (fun z => by cases z) (fun _ => n_next ?_)
      · rw [inV_int]
        refine decide_eq_false fun z => ne ?_
        obtain ⟨l, hl⟩ := hEs
        rw [hl]
        exact List.mem_append_left _ z
      · walk_at "vl"
      · rw [inV_int]
        exact decide_eq_false ne
      refine' s_asg (go (by walk_at "vl") ⟨rfl, some (.int p.1), some (.ref p.2.1), some (.ref sa), ?_⟩)
      have es : sumBy vmo (b.vaults.take (i + 1)) = sumBy vmo (b.vaults.take i) + vmo p.2 := take_sum hp
      rw [es, ← Int.add_assoc]
      rfl
    rintro od σ' H' ⟨rfl, v6, v7, v8, rfl⟩
    rw [List.take_length, upd2, upd_self (by exact B.va)]
    have tot := I.tot
    -- the sums
    refine q_if (q_orT ?_)
    refine goA (v_is' (a_val (v_ne (x := .int (sumI b.purses + sumBy vmo b.vaults + b.burnt)) (y := .int M) (v_I0 (val_var rfl) (f_Book_burnt T (val_var rfl) o2)) (val_var rfl) rfl)) (by rw [decide_eq_true (by rw [tot])]; rfl)) (if_f (q_orT ?_))
    refine q_testT (q_opG (q_prop (val_var rfl) o1 ⟨L, b, ts, rfl, hL, sm.le (by decide), I.pn, I.vn, fun H1 e1 => go (val_var rfl) ⟨rfl, _, rfl, ?_⟩⟩))
    rw [decide_eq_true rfl]
    refine if_f ?_
    have hL1 := hL.ex e1
    obtain ⟨dx1, o3⟩ := hL1.ob
    obtain ⟨dxb1, o4⟩ := hL1.bk.ob
    refine q_testT (q_opG (q_prop (val_var rfl) o3 ⟨L, b, ts, rfl, hL1, go (f_Book_burnt T (val_var rfl) o4) ⟨rfl, _, rfl, ?_⟩⟩))
    rw [decide_eq_true rfl]
    refine if_f (n_next ?_)
    -- ended, height
    have hEl1 := e1 _ _ hEl
    have hen1 := hL1.bk.en
    refine s_ret (q_andV (q_opG (q_slU ?_)))
    refine go (f_Book_ended T (val_var rfl) o4) (go (v_len (p := El) (xs := Es.map V.int) (val_var rfl) (.inl (SqL.of hEl1))) ⟨_, rfl, L.A.el, _, rfl, SqL.of hen1, fun q hq => ?_⟩)
    have e2 := Evl.Ex.new (o := .lst (cutV (b.ended.map V.int) none (some ((Es.map V.int).length : Int)))) hq
    have ec : cutV (b.ended.map V.int) none (some ((Es.map V.int).length : Int)) = Es.map V.int := by
      obtain ⟨l, hl⟩ := hEs
      unfold cutV
      rw [HT.sIx_none, HT.sIx_nat, hl, List.map_append, List.drop_zero]
      have e0 : min (Es.map V.int).length (Es.map V.int ++ l.map V.int).length - 0 = (Es.map V.int).length := by rw [List.length_append]; omega
      rw [e0, List.take_left']
      rfl
    rw [ec] at e2
    rw [ec]
    have hq2 : upd H1 q (.lst (Es.map V.int)) q = some (.lst (Es.map V.int)) := upd_same
    have hEl3 := e2 _ _ hEl1
    have hL3 := hL1.ex e2
    have e3 := e1.trans e2
    generalize upd H1 q (.lst (Es.map V.int)) = H3 at hq2 hEl3 hL3 e3 ⊢
    refine go (val_var rfl) ⟨.list (Es.map PyData.int), .list (Es.map PyData.int), .lst (SqL.of hq2) (dp_ints K _ Es), .lst (SqL.of hEl3) (dp_ints K _ Es), shaped_ints Es, shaped_ints Es, ?_⟩
    rw [SeqAt.eqv_refl _ (show PyData.canLay0 (.list (Es.map PyData.int)) = true from lay_ints Es)]
    refine ⟨true, rfl, if_t ?_⟩
    obtain ⟨dx5, o5⟩ := hL3.ob
    obtain ⟨dxb5, o6⟩ := hL3.bk.ob
    refine q_opG (q_prop (val_var rfl) o5 ⟨L, b, ts, rfl, hL3, go (f_Book_height T (val_var rfl) o6) ⟨rfl, ?_⟩⟩)
    rw [decide_eq_true rfl]
    exact k _ e3
end
end Tk
/-! The law. -/
namespace Tk
open PySem PySem.Spec PyProof.Rows L2
local macro_rules | `(tactic| walk_at "vl") => `(tactic| first
  | ((with_reducible refine' val_var ?a1); (case a1 => rfl))
  | ((with_reducible refine' val_c))
  | ((with_reducible refine' f_Vault_opening ?a1 ?a2 ?a3); (case a1 => assumption); (case a2 => walk_at "vl"); (case a3 => assumption))
  | ((with_reducible refine' f_Vault_money ?a1 ?a2 ?a3); (case a1 => assumption); (case a2 => walk_at "vl"); (case a3 => assumption))
  | ((with_reducible refine' f_Vault_sums ?a1 ?a2 ?a3); (case a1 => assumption); (case a2 => walk_at "vl"); (case a3 => assumption))
  | ((with_reducible refine' f_Vault_splices ?a1 ?a2 ?a3); (case a1 => assumption); (case a2 => walk_at "vl"); (case a3 => assumption))
  | ((with_reducible refine' f_Vault_least ?a1 ?a2 ?a3); (case a1 => assumption); (case a2 => walk_at "vl"); (case a3 => assumption))
  | ((with_reducible refine' f_Vault_published ?a1 ?a2 ?a3); (case a1 => assumption); (case a2 => walk_at "vl"); (case a3 => assumption))
  | ((with_reducible refine' f_Vault_since ?a1 ?a2 ?a3); (case a1 => assumption); (case a2 => walk_at "vl"); (case a3 => assumption))
  | ((with_reducible refine' f_Book_purses ?a1 ?a2 ?a3); (case a1 => assumption); (case a2 => walk_at "vl"); (case a3 => assumption))
  | ((with_reducible refine' f_Book_vaults ?a1 ?a2 ?a3); (case a1 => assumption); (case a2 => walk_at "vl"); (case a3 => assumption))
  | ((with_reducible refine' f_Book_receipts ?a1 ?a2 ?a3); (case a1 => assumption); (case a2 => walk_at "vl"); (case a3 => assumption))
  | ((with_reducible refine' f_Book_ended ?a1 ?a2 ?a3); (case a1 => assumption); (case a2 => walk_at "vl"); (case a3 => assumption))
  | ((with_reducible refine' f_Book_done ?a1 ?a2 ?a3); (case a1 => assumption); (case a2 => walk_at "vl"); (case a3 => assumption))
  | ((with_reducible refine' f_Book_height ?a1 ?a2 ?a3); (case a1 => assumption); (case a2 => walk_at "vl"); (case a3 => assumption))
  | ((with_reducible refine' f_Book_burnt ?a1 ?a2 ?a3); (case a1 => assumption); (case a2 => walk_at "vl"); (case a3 => assumption))
  | ((with_reducible refine' f_Ledger_book ?a1 ?a2 ?a3); (case a1 => assumption); (case a2 => walk_at "vl"); (case a3 => assumption))
  | ((with_reducible refine' f_Ledger_room ?a1 ?a2 ?a3); (case a1 => assumption); (case a2 => walk_at "vl"); (case a3 => assumption))
  | ((with_reducible refine' f_Ledger_waiting ?a1 ?a2 ?a3); (case a1 => assumption); (case a2 => walk_at "vl"); (case a3 => assumption))
  | ((with_reducible refine' v_ix ?a1 ?a2 ?a3 ?a4); (case a1 => walk_at "vl"); (case a2 => walk_at "vl"); (case a3 => assumption); (case a4 => rfl))
  | ((with_reducible refine' v_I0 ?a1 ?a2); (case a1 => walk_at "vl"); (case a2 => walk_at "vl"))
  | ((with_reducible refine' v_isN ?a1); (case a1 => walk_at "vl"))
  | ((with_reducible refine' v_notN ?a1); (case a1 => walk_at "vl"))
  | ((with_reducible refine' v_int1 ?a1); (case a1 => walk_at "vl"))
  | ((with_reducible refine' v_eq ?a1 ?a2 ?a3); (case a1 => walk_at "vl"); (case a2 => walk_at "vl"); (case a3 => rfl))
  | ((with_reducible refine' v_ne ?a1 ?a2 ?a3); (case a1 => walk_at "vl"); (case a2 => walk_at "vl"); (case a3 => rfl))
  | ((with_reducible refine' v_max2 ?a1 ?a2); (case a1 => walk_at "vl"); (case a2 => walk_at "vl"))
  | ((with_reducible refine' v_min2 ?a1 ?a2); (case a1 => walk_at "vl"); (case a2 => walk_at "vl")))
local macro_rules | `(tactic| walk_at "va") => `(tactic| first
  | (with_reducible exact va_nil)
  | ((with_reducible refine' va_cons ?a1 ?a2); (case a1 => walk_at "vl"); (case a2 => walk_at "va")))

local macro_rules | `(tactic| walk_at "vl") => `(tactic| ((with_reducible refine' v_I ?a1 ?a2 ?a3); (case a1 => walk_at "vl"); (case a2 => walk_at "vl"); (case a3 => first | decide | exact .inr ⟨by decide, by decide⟩ | exact .inl ⟨by decide, by decide⟩ | exact ⟨by decide, by decide⟩)))
def spLaw (K : PySem.W.Frag) : Sp := fun vs H Q _ => ∃ (a : Addr) (ns : List Int), vs = [.ref a] ∧ SqL K H a (ns.map V.int) ∧ Tab K H ∧ ∀ H', Tab K H' → Q (.bl true) H'
/-- a place that is none of the ledger's -/
def Off (L : La) (p : Addr) : Prop := ¬ InBk L.A p ∧ p ≠ L.wl
/-- what is true of the law's own things -/
structure Lw (K : PySem.W.Frag) (H : Hp) (L : La) (b : Bk) (ts : List Thing) (M : Int) (ps sl el : Addr) (xs : List V) (D : List (Int × Int)) (E : List Int) : Prop where
  led : LedAt K H L b ts
  good : Good b ts M
  tab : Tab K H
  hps : H ps = some (.lst xs)
  hsl : ∃ sas, H sl = some (.lst (sas.map V.ref)) ∧ PairsAt K H sas D
  hel : H el = some (.lst (E.map V.int))
  o1 : Off L ps
  o2 : Off L sl
  o3 : Off L el
  n1 : ps ≠ sl
  n2 : el ≠ sl
section
variable {K : PySem.W.Frag} {H H' : Hp} {L : La} {b : Bk} {ts : List Thing} {M : Int} {ps sl el p : Addr} {xs : List V} {D : List (Int × Int)} {E : List Int}
theorem LedAt.off (h : LedAt K H L b ts) (hp : H p = none) : Off L p := by
  refine ⟨fun z => ?_, fun z => ?_⟩
  · obtain ⟨o, ho⟩ := InBk.some h z
    rw [hp] at ho
    cases ho
  · obtain ⟨as, w1, _⟩ := h.wt
    rw [z, w1] at hp
    cases hp
theorem Lw.ex (e : Ex H H') (h : Lw K H L b ts M ps sl el xs D E) : Lw K H' L b ts M ps sl el xs D E := by
  obtain ⟨sas, s1, s2⟩ := h.hsl
  exact ⟨h.led.ex e, h.good, h.tab.ex e, e _ _ h.hps, ⟨sas, e _ _ s1, s2.ty (ex_ty e)⟩, e _ _ h.hel, h.o1, h.o2, h.o3, h.n1, h.n2⟩
theorem q_methG {te : TE} {t : TA} {sp : Sp} {X : XK} {R : VK} {C : Addr} {f : Str} {σ : L2.St} (h : te σ H fun x H1 => ∃ a dx fs, x = .ref a ∧ H1 a = some (.ins C dx fs) ∧ fs.lookup f = none ∧ t σ H1 fun vs H2 => sp (x :: (vs ++ [])) H2 R X) : tMeth C f sp [] X te t σ H R := h
theorem cut_rows {rs : List Int} (h : rs.length = 41) : cutV (rs.map V.int) (some 1) none = (rs.drop 1).map V.int := by
  have hl : (rs.map V.int).length = 41 := by rw [List.length_map, h]
  unfold cutV
  rw [hl]
  have e1 : HT.sIx 41 0 (some 1) = 1 := rfl
  have e2 : HT.sIx 41 41 none = 41 := rfl
  rw [e1, e2, ← List.map_drop]
  exact List.take_of_length_le (by rw [List.length_map, List.length_drop]; omega)
end
section
variable {P : Program} {w : World} {K : PySem.W.Frag} {mg : Str → Option Value} {base : Heap}
theorem ok_law (T : Txt K mg) (TB : Tb K mg base) {f : Addr} {fd : FuncData} (F : FunD K d_law.name d_law.qual d_law.params d_law.body d_law.scope [] [] f fd) : FnOk P w K mg base CX0 10 f fd ["_law_script"] (spLaw K) := by
  have G_law_rows : HasF P w K mg base "_law_rows" 1 ["_law_script", "_law_count"] (spLawRows K) := ok_law_rows T
  have G_law_ledger : HasF P w K mg base "_law_ledger" 5 ["_law_row"] (spLawLedger K) := ok_law_ledger T
  have G_all_money : HasP P w K mg base "all_money" 2 (spAllMoney K) := ok_all_money T
  have G_burnt_so_far : HasP P w K mg base "burnt_so_far" 1 (spBurnt K) := ok_burnt T
  have G_Ledger_offer : HasM P w K mg base "Ledger" "offer" 1 ["self", "thing"] (spOffer K) := ok_offer T
  have G_law_thing : HasF P w K mg base "_law_thing" 7 ["_law_row", "_law_ledger_here"] (spLawThing K) := ok_law_thing T
  have G_Ledger_block : HasM P w K mg base "Ledger" "block" 9 ["self"] (spBlock K) := ok_block T TB
  have G_law_sound : HasF P w K mg base "_law_sound" 5 ["_law_ledger_here", "_law_money_here", "_law_ended"] (spLawSound K) := ok_law_sound T
  refine F.ok sc_law (fun vs H Q E h => ?_) (fun cdv A0 outer s H vs Q E hr h => ?_)
  · obtain ⟨a, ns, rfl, _⟩ := h
    rfl
  · obtain ⟨a, ns, rfl, hS, tab, k⟩ := h
    suffices hh : ∃ t, PSs (cxOf CX0 P w K mg base N_law d_law.qual (defScope s_law) f cdv A0 outer s H E).nox (defBody s_law) t ∧ t { nx := fun _ H' => Q .non H', rt := Q } (start N_law [.ref a]) H by
      obtain ⟨t, h1, h2⟩ := hh
      exact ⟨t, h1.nox, h2⟩
    refine ⟨_, (pss_cons (ps_set (i := 1) sc_law.nd rfl (by first | exact Or.inl rfl | exact Or.inr rfl) (pe_f G_law_rows (hr.mono (by decide)) (pa_cons (pv 0) (pa_cons pe_int pa_nil))))
      (pss_cons (ps_set (i := 2) sc_law.nd rfl (by first | exact Or.inl rfl | exact Or.inr rfl) (pe_f G_law_ledger (hr.mono (by decide)) (pa_cons (pe_callTy call_int1 (by rfl) T.z_int (by decide +kernel) (pa_cons (pe_ix (ix_listK (K := K) rfl) (pv 1) pe_int (fun _ _ => rfl)) pa_nil)) pa_nil)))
      (pss_cons (ps_set (i := 3) sc_law.nd rfl (by first | exact Or.inl rfl | exact Or.inr rfl) (pe_pp G_all_money (hr.mono (by decide)) (pv 2)))
      (pss_cons (ps_set (i := 4) sc_law.nd rfl (by first | exact Or.inl rfl | exact Or.inr rfl) (pe_lst pa_nil))
      (pss_cons (ps_set (i := 5) sc_law.nd rfl (by first | exact Or.inl rfl | exact Or.inr rfl) (pe_lst pa_nil))
      (pss_cons (ps_for PassesOwn.never rfl (pi_list (pe_slice sl_list (pv 1) (po_some pe_int) po_none)) (pg_name (i := 6) sc_law.nd rfl (by first | exact Or.inl rfl | exact Or.inr rfl)) (pss_cons (ps_expr (pe_mmK (K := K) rfl G_Ledger_offer (pv 2) (hr.mono (by decide)) (pa_cons (pe_f G_law_thing (hr.mono (by decide)) (pa_cons (pe_callTy call_int1 (by rfl) T.z_int (by decide +kernel) (pa_cons (pe_op op_fdiv (pv 6) pe_int) pa_nil)) (pa_cons (pv 2) pa_nil))) pa_nil)))
      (Evl.pss_cut (ps_if (pt_cmpR op_eq (pe_op op_mod (pe_callTy call_int1 (by rfl) T.z_int (by decide +kernel) (pa_cons (pv 6) pa_nil)) pe_int) pe_int (nomark _)) (pss_cons (ps_set (i := 7) sc_law.nd rfl (by first | exact Or.inl rfl | exact Or.inr rfl) (pe_pp G_burnt_so_far (hr.mono (by decide)) (pv 2)))
      (pss_cons (ps_for PassesOwn.never rfl (pi_list (pe_mm0 G_Ledger_block (pv 2) hr)) (pg_name (i := 8) sc_law.nd rfl (by first | exact Or.inl rfl | exact Or.inr rfl)) (pss_cons (ps_set (i := 7) sc_law.nd rfl (by first | exact Or.inl rfl | exact Or.inr rfl) (pe_op op_add (pv 7) (pe_ix (ix_tupK (K := K) rfl) (pv 8) pe_int (fun _ _ => rfl))))
      (pss_cons (ps_if (pt_cmpR (op_inD (hu65 hr)) (pe_tup (pa_cons (pe_ix (ix_tupK (K := K) rfl) (pv 8) pe_int (fun _ _ => rfl)) (pa_cons (pe_ix (ix_tupK (K := K) rfl) (pv 8) pe_int (fun _ _ => rfl)) pa_nil))) (pv 4) (by rfl)) (pss_one (ps_ret pe_bl)) pss_nil)
      (pss_one (ps_expr (pe_bm PySem.F.plainAttrs_list PySem.F.slot_list_append PySem.F.type_list_append mt_append (pv 4) (pa_cons (pe_tup (pa_cons (pe_ix (ix_tupK (K := K) rfl) (pv 8) pe_int (fun _ _ => rfl)) (pa_cons (pe_ix (ix_tupK (K := K) rfl) (pv 8) pe_int (fun _ _ => rfl)) pa_nil))) pa_nil)))))))
      (pss_one (ps_if (pt_cmpR op_ne (pe_pp G_burnt_so_far (hr.mono (by decide)) (pv 2)) (pv 7) (nomark _)) (pss_one (ps_ret pe_bl)) pss_nil)))) pss_nil)
      (pss_cons (ps_if (pt_not (pt_val (pe_f G_law_sound (hr.mono (by decide)) (pa_cons (pv 2) (pa_cons (pv 3) (pa_cons (pv 5) pa_nil)))))) (pss_one (ps_ret pe_bl)) pss_nil)
      (pss_one (ps_set (i := 5) sc_law.nd rfl (by first | exact Or.inl rfl | exact Or.inr rfl) (pe_callTy call_list_of (by rfl) T.z_list (by decide +kernel) (pa_cons (pe_fldK (K := K) rfl (pe_fldK (K := K) rfl (pv 2) rfl) rfl) pa_nil))))))))
      (pss_one (ps_ret pe_bl)))))))), ?_⟩
    -- rows
    refine q_asg (q_call (va_cons (val_var rfl) (va_cons val_c va_nil)) ⟨a, ns, rfl, hS, fun H' e => Evl.ex_l e hS, fun H1 pr rs e1 _ hr1 hlen => ?_⟩)
    obtain ⟨r0, hr0⟩ : ∃ r0, rs[0]? = some r0 := ⟨rs[0]'(by omega), List.getElem?_eq_getElem _⟩
    -- the ledger
    refine q_asg (q_call (vs := [.int r0]) (va_cons (v_int1 (v_ixL (i := 0) (val_var rfl) val_c hr1 (at_of (j := 0) rfl (by rw [List.getElem?_map, hr0]; rfl)))) va_nil) ⟨r0, rfl, fun H2 L x y z e2 mx my mz hL => ?_⟩)
    obtain ⟨dx, o1⟩ := hL.ob
    have gd : Good (book0 (three x y z)) [] (x + (y + (z + 0)) + 0 + 0) := by
      refine ⟨⟨(by show ([1, 2, 3] : List Int).Nodup; decide), fun p hp => ?_, List.nodup_nil, fun p hp => (by cases hp), fun p hp => (by cases hp), rfl, List.nodup_nil⟩, fun t ht => (by cases ht), by show 0 + 0 ≤ 40; decide, ⟨by show 3 ≤ 10; decide, by show 0 ≤ 10; decide, by show 0 ≤ 10; decide, by show 0 ≤ 10; decide, by show 0 ≤ 10; decide⟩⟩
      have hp' : p ∈ [(1, x), (2, y), (3, z)] := hp
      rcases List.mem_cons.mp hp' with rfl | hp'
      · exact mx.1
      · rcases List.mem_cons.mp hp' with rfl | hp'
        · exact my.1
        · rw [List.mem_singleton.mp hp']
          exact mz.1
    -- money
    refine q_asg (q_prop (val_var rfl) o1 ⟨L, _, _, rfl, hL, gd.sm.le (by show 10 + 3 * 0 ≤ 9000; decide), gd.inv.pn, gd.inv.vn, fun H3 e3 => ?_⟩)
    have eM : sumI (book0 (three x y z)).purses + sumBy vmo (book0 (three x y z)).vaults = x + (y + (z + 0)) + 0 + 0 := by
      show x + (y + (z + 0)) + 0 = _
      omega
    rw [eM]
    generalize x + (y + (z + 0)) + 0 + 0 = M at gd ⊢
    have hL3 := hL.ex e3
    have hr3 := e3 _ _ (e2 _ _ hr1)
    have tab3 := tab.ex (e1.trans (e2.trans e3))
    -- seen, ended
    refine q_asg (q_lst va_nil (Nat.zero_le _) fun sl hsl => ?_)
    have en1 := Evl.Ex.new (o := .lst []) hsl
    have osl := hL3.off hsl
    have c1 : upd H3 sl (.lst []) sl = some (.lst []) := upd_same
    replace hL3 := hL3.ex en1
    replace tab3 := tab3.ex en1
    replace hr3 := en1 _ _ hr3
    generalize upd H3 sl (.lst []) = H4 at hL3 tab3 hr3 c1 ⊢
    refine q_asg (q_lst va_nil (Nat.zero_le _) fun el hel => ?_)
    have en2 := Evl.Ex.new (o := .lst []) hel
    have oel := hL3.off hel
    have n2 : sl ≠ el := ne_of_none c1 hel
    have c2 : upd H4 el (.lst []) el = some (.lst []) := upd_same
    replace hL3 := hL3.ex en2
    replace tab3 := tab3.ex en2
    replace hr3 := en2 _ _ hr3
    replace c1 := en2 _ _ c1
    generalize upd H4 el (.lst []) = H5 at hL3 tab3 hr3 c1 c2 ⊢
    -- the rows but the first
    refine q_for ?_
    refine q_slL (go (val_var rfl) (go val_c ⟨1, rfl, pr, rs.map V.int, rfl, SqL.of hr3, fun ps hps => ⟨ps, rfl, ⟨_, SqL.of upd_same⟩, ?_⟩⟩))
    rw [cut_rows hlen]
    have hxs : ((rs.drop 1).map V.int).length = 40 := by rw [List.length_map, List.length_drop]; omega
    generalize rs.drop 1 = rs1 at hxs ⊢
    have en3 := Evl.Ex.new (o := .lst (rs1.map V.int)) hps
    have w0 : Lw K (upd H5 ps (.lst (rs1.map V.int))) L (book0 (three x y z)) [] M ps sl el (rs1.map V.int) [] [] :=
      ⟨hL3.ex en3, gd, tab3.ex en3, upd_same, ⟨[], en3 _ _ c1, rfl, fun i a p h1 _ => by cases h1⟩, en3 _ _ c2, hL3.off hps, osl, oel, (ne_of_none c1 hps).symm, n2.symm⟩
    clear en1 en2 hL3 tab3 hr3 c1 c2 gd
    refine for_list (xs := rs1.map V.int) (fun i σ' H' => ∃ (b : Bk) (ts : List Thing) (el : Addr) (v6 v7 v8 : Option V), σ' = [some (.ref a), some (.ref pr), some (.ref L.lg), some (.int M), some (.ref sl), some (.ref el), v6, v7, v8] ∧ Lw K H' L b ts M ps sl el (rs1.map V.int) b.done b.ended ∧ b.done.length + ts.length = i)
      ⟨_, _, el, none, none, none, rfl, w0, rfl⟩ (fun i σ' H' _ z => ?_) ?_ (fun σ' H' z => ?_)
    · obtain ⟨b, ts, el, v6, v7, v8, _, wl, _⟩ := z
      exact SqL.of wl.hps
    · rintro i xv σ' H' hx ⟨b, ts, el, v6, v7, v8, rfl, wl, cnt⟩
      obtain ⟨row, rfl⟩ : ∃ row, xv = V.int row := by
        rw [List.getElem?_map] at hx
        cases e : rs1[i]? with
        | none => rw [e] at hx; cases hx
        | some r => rw [e] at hx; exact ⟨r, (Option.some.inj hx).symm⟩
      have hi : i < 40 := by
        have := (List.getElem?_eq_some_iff.mp hx).1
        omega
      obtain ⟨dx1, o1'⟩ := wl.led.ob
      -- offer
      refine q_drop (q_methG (go (val_var rfl) ⟨L.lg, dx1, _, rfl, o1', lF_no_offer, q_consG ?_⟩))
      refine' q_call (vs := [.int (row / 3), .ref L.lg]) (va_cons (by walk_at "vl") (va_cons (val_var rfl) va_nil)) ⟨L, b, ts, _, rfl, wl.led, fun H1 tp t e1 hT tok => q_nil ?_⟩
      have wl1 := wl.ex e1
      refine ⟨L, b, ts, tp, t, rfl, wl1.led, hT, by omega, fun H2 kp hL2 => ?_⟩
      have gd2 : Good b (ts ++ [t]) M := by
        refine ⟨wl1.good.inv, fun t' ht' => ?_, by rw [List.length_append]; show b.done.length + (ts.length + 1) ≤ 40; omega, wl1.good.sm⟩
        rcases List.mem_append.mp ht' with h3 | h3
        · exact wl1.good.th t' h3
        · rw [List.mem_singleton.mp h3]
          exact tok
      have wl2 : Lw K H2 L b (ts ++ [t]) M ps sl el (rs1.map V.int) b.done b.ended := by
        obtain ⟨was, ww, _⟩ := wl1.led.wt
        obtain ⟨sas, s1, s2⟩ := wl1.hsl
        refine ⟨hL2, gd2, kp _ _ wl1.tab (neH wl1.tab ww fun z => by cases z), kp _ _ wl1.hps wl1.o1.2, ⟨sas, kp _ _ s1 wl1.o2.2, s2.ty fun c xs hc => kp c _ hc (neH hc ww fun z => by cases z)⟩, kp _ _ wl1.hel wl1.o3.2, wl1.o1, wl1.o2, wl1.o3, wl1.n1, wl1.n2⟩
      have cnt2 : b.done.length + (ts ++ [t]).length = i + 1 := by rw [List.length_append]; show b.done.length + (ts.length + 1) = i + 1; omega
      clear wl wl1 hT kp hL2 gd2 o1'
      generalize ts ++ [t] = ts2 at wl2 cnt2
      -- a block now and then
      refine ⟨fun σ3 H3 => ∃ (b' : Bk) (ts' : List Thing) (v7 v8 : Option V), σ3 = [some (.ref a), some (.ref pr), some (.ref L.lg), some (.int M), some (.ref sl), some (.ref el), some (.int row), v7, v8] ∧ Lw K H3 L b' ts' M ps sl el (rs1.map V.int) b'.done b.ended ∧ b'.done.length + ts'.length = i + 1 ∧ ∃ l, b'.ended = b.ended ++ l, ?_, ?_⟩
      · refine' st_if (a_val (by walk_at "vl")) (fun _ => ?_) (fun _ => ⟨b, ts2, v7, v8, rfl, wl2, cnt2, [], (List.append_nil _).symm⟩)
        obtain ⟨dx2, o2⟩ := wl2.led.ob
        refine q_asg (q_prop (val_var rfl) o2 ⟨L, b, ts2, rfl, wl2.led, ?_⟩)
        refine q_for (q_meth (val_var rfl) o2 lF_no_block va_nil ⟨L, b, ts2, M, rfl, wl2.led, wl2.good, wl2.tab, fun H3 b' ts' p das dts fr hL3 gd3 hp0 hp hds hdn hbu hen hcn np1 np2 => ⟨p, rfl, ⟨_, SqL.of hp⟩, ?_⟩⟩)
        have psl : p ≠ sl := fun z => by
          obtain ⟨sas, s1, _⟩ := wl2.hsl
          rw [z, s1] at hp0
          cases hp0
        have nds : (b.done ++ prs dts).Nodup := by rw [← hdn]; exact gd3.inv.dn
        have wl3 : Lw K H3 L b' ts' M ps sl el (rs1.map V.int) (b.done ++ prs (dts.take 0)) b.ended := by
          obtain ⟨sas, s1, s2⟩ := wl2.hsl
          refine ⟨hL3, gd3, wl2.tab.fm L wl2.led fr, fr.out _ _ wl2.hps wl2.o1.1 wl2.o1.2 nvl_lst, ⟨sas, fr.out _ _ s1 wl2.o2.1 wl2.o2.2 nvl_lst, ?_⟩, fr.out _ _ wl2.hel wl2.o3.1 wl2.o3.2 nvl_lst, wl2.o1, wl2.o2, wl2.o3, wl2.n1, wl2.n2⟩
          have e0 : b.done ++ prs (dts.take 0) = b.done := List.append_nil _
          rw [e0]
          exact s2.ty fr.ty
        clear fr hL3 gd3 wl2
        refine for_list (xs := das.map V.ref) (fun j σ3 H' => ∃ v8, σ3 = [some (.ref a), some (.ref pr), some (.ref L.lg), some (.int M), some (.ref sl), some (.ref el), some (.int row), some (.int (b.burnt + fees (dts.take j))), v8] ∧ Lw K H' L b' ts' M ps sl el (rs1.map V.int) (b.done ++ prs (dts.take j)) b.ended ∧ H' p = some (.lst (das.map V.ref)) ∧ ThingsAt K H' das dts)
          ⟨v8, by
            have e0 : b.burnt + fees (dts.take 0) = b.burnt := by show b.burnt + 0 = b.burnt; omega
            rw [e0]
            rfl, wl3, hp, hds⟩ (fun j σ3 H' _ z => ?_) ?_ (fun σ3 H' z => ?_)
        · obtain ⟨v8, _, _, hp', _⟩ := z
          exact SqL.of hp'
        · rintro j z σ3 H4 hz ⟨v8', rfl, wl4, hp4, hd4⟩
          obtain ⟨ta, hta, rfl⟩ := at_ref hz
          obtain ⟨td, htd⟩ : ∃ td, dts[j]? = some td := by
            have := (List.getElem?_eq_some_iff.mp hta).1
            exact ⟨dts[j]'(by rw [← hd4.1]; exact this), List.getElem?_eq_getElem _⟩
          obtain ⟨aa, ha, t1, _⟩ := (hd4.2 j ta td hta htd).at_
          have ef : fees (dts.take (j + 1)) = fees (dts.take j) + td.fee := by
            unfold fees
            rw [List.take_add_one, htd, List.map_append, List.sum_append]
            show _ + (td.fee + 0) = _
            omega
          have ep : prs (dts.take (j + 1)) = prs (dts.take j) ++ [(td.payer, td.tag)] := by
            unfold prs
            rw [List.take_add_one, htd, List.map_append]
            rfl
          have new : ¬ (td.payer, td.tag) ∈ b.done ++ prs (dts.take j) := fun hmem => by
            have e0 : dts = dts.take (j + 1) ++ dts.drop (j + 1) := (List.take_append_drop _ _).symm
            have e1 : b.done ++ prs dts = (b.done ++ prs (dts.take j)) ++ ((td.payer, td.tag) :: prs (dts.drop (j + 1))) := by
              have e2 : prs dts = prs (dts.take (j + 1)) ++ prs (dts.drop (j + 1)) := by
                unfold prs
                rw [← List.map_append, List.take_append_drop]
              rw [e2, ep, List.append_assoc, List.append_assoc]
              rfl
            rw [e1] at nds
            exact (List.nodup_append.mp nds).2.2 _ hmem _ List.mem_cons_self rfl
          refine q_set (v := .int (b.burnt + fees (dts.take j) + td.fee)) (v_I0 (val_var rfl) (v_ix (i := 3) (v := .int td.fee) (val_var rfl) val_c t1 rfl)) ?_
          -- seen?
          obtain ⟨sas, s1, s2⟩ := wl4.hsl
          refine q_if (q_testT (q_opG ?_))
          refine' q_tup (vs := [.int td.payer, .int td.tag]) (by walk_at "va") (by show 2 ≤ 1000; decide) fun q hq => ?_
          have e5 := Evl.Ex.new (o := .tup [.int td.payer, .int td.tag]) hq
          have q5 : SqT K (upd H4 q (.tup [.int td.payer, .int td.tag])) q [.int td.payer, .int td.tag] := SqT.of upd_same
          generalize upd H4 q (.tup [.int td.payer, .int td.tag]) = H5 at e5 q5 ⊢
          refine go (val_var rfl) ⟨prP (td.payer, td.tag), (b.done ++ prs (dts.take j)).map prP, .tup q5 (.cons (.int _) (.cons (.int _) .nil)), .lst (SqL.of (e5 _ _ s1)) (dp_pairs (s2.ty (ex_ty e5))), by rfl, shaped_pairs _, _, rfl, ?_⟩
          rw [any_pairs, decide_eq_false new]
          refine if_f (n_next ?_)
          have wl5 := wl4.ex e5
          obtain ⟨sas, s1, s2⟩ := wl5.hsl
          have t5 := t1.ex e5
          have hp5 := e5 _ _ hp4
          have hd5 := hd4.ty (ex_ty e5)
          refine s_drop ?_
          have few : sas.length < 100000 := by
            have h1 := s2.1
            have h2 := wl5.good.cnt
            have h3 := congrArg List.length hdn
            have h4 : (prs (dts.take j)).length ≤ (prs dts).length := by
              unfold prs
              rw [List.length_map, List.length_map, List.length_take]
              omega
            rw [List.length_append] at h1 h3
            omega
          refine' q_appT (xs := sas.map V.ref) (vs := [.int td.payer, .int td.tag]) (val_var rfl) s1 (by rw [List.length_map]; exact few) (by walk_at "va") (by show 2 ≤ 1000; decide) fun q2 hq2 => ?_
          have e6 := Evl.Ex.new (o := .tup [.int td.payer, .int td.tag]) hq2
          have wl6 := wl5.ex e6
          have s1' := e6 _ _ s1
          have hp6 := e6 _ _ hp5
          have hd6 := hd5.ty (ex_ty e6)
          have s26 := s2.ty (ex_ty e6)
          have tq : Tp K (upd H5 q2 (.tup [.int td.payer, .int td.tag])) q2 [.int td.payer, .int td.tag] := .inl upd_same
          generalize upd H5 q2 (.tup [.int td.payer, .int td.tag]) = H6 at wl6 s1' hp6 hd6 s26 tq ⊢
          have e7 : sas.map V.ref ++ [V.ref q2] = (sas ++ [q2]).map V.ref := by rw [List.map_append]; rfl
          rw [e7]
          have ty7 : Ty H6 (upd H6 sl (.lst ((sas ++ [q2]).map V.ref))) := Ty.upd s1' (fun _ z => by cases z)
          refine ⟨some (.ref ta), ?_, ?_, by rw [upd_ne psl]; exact hp6, hd6.ty ty7⟩
          · rw [ef, ← Int.add_assoc]
            rfl
          · refine ⟨wl6.led.upd s1' wl6.o2.1 wl6.o2.2, wl6.good, ?_, by rw [upd_ne wl6.n1]; exact wl6.hps, ⟨sas ++ [q2], upd_same, ?_⟩, by rw [upd_ne wl6.n2]; exact wl6.hel, wl6.o1, wl6.o2, wl6.o3, wl6.n1, wl6.n2⟩
            · show upd H6 sl _ (pTot K) = _
              rw [upd_ne (neH wl6.tab s1' fun z => by cases z)]
              exact wl6.tab
            · rw [ep, ← List.append_assoc]
              exact (s26.snoc (p := (td.payer, td.tag)) tq).ty ty7
        · obtain ⟨v8', rfl, wl4, _, hd4⟩ := z
          rw [List.length_map, hd4.1, List.take_length] at wl4 ⊢
          obtain ⟨dx4, o4⟩ := wl4.led.ob
          refine s_if (q_testT (q_opG (q_prop (val_var rfl) o4 ⟨L, b', ts', rfl, wl4.led, go (val_var rfl) ⟨rfl, _, rfl, ?_⟩⟩)))
          rw [decide_eq_true (by rw [hbu])]
          refine if_f ⟨b', ts', _, v8', rfl, ?_, by omega, hen⟩
          rw [hdn]
          exact wl4
      · rintro σ3 H3 ⟨b', ts', v7', v8', rfl, wl3, cnt3, hen⟩
        -- sound
        refine q_if (q_notT (q_BT ?_))
        refine q_call (va_cons (val_var rfl) (va_cons (val_var rfl) (va_cons (val_var rfl) va_nil))) ⟨L, b', ts', M, el, b.ended, rfl, wl3.led, wl3.good.inv, wl3.good.small, wl3.hel, hen, fun H4 e4 => ⟨true, rfl, if_f (n_next ?_)⟩⟩
        have wl4 := wl3.ex e4
        obtain ⟨dx4, o4⟩ := wl4.led.ob
        obtain ⟨dxb, ob⟩ := wl4.led.bk.ob
        -- ended
        refine s_asg (q_cb (q_consG ?_))
        refine' go (v := .ref L.A.el) (by walk_at "vl") (q_nil ⟨L.A.el, _, rfl, .inl (SqL.of wl4.led.bk.en), fun l hl => ?_⟩)
        have e5 := Evl.Ex.new (o := .lst (b'.ended.map V.int)) hl
        have wl5 := wl4.ex e5
        obtain ⟨sas, s1, _⟩ := wl4.hsl
        refine ⟨b', ts', l, _, v7', v8', rfl, ⟨wl5.led, wl5.good, wl5.tab, wl5.hps, wl5.hsl, upd_same, wl5.o1, wl5.o2, wl4.led.off hl, wl5.n1, (ne_of_none s1 hl).symm⟩, cnt3⟩
    · obtain ⟨b, ts, el, v6, v7, v8, rfl, wl, _⟩ := z
      exact k _ wl.tab
end
end Tk
/-! The end: the row. -/
namespace Tk
open PySem PySem.Spec PyProof.Rows L2
/-- a promise over the table by what is true of it, from one over the empty table -/
theorem retab {P : Program} {w : World} {K : PySem.W.Frag} {mg : Str → Option Value} {base : Heap} {k : Nat} {f P0 : Addr} {fd : FuncData} {ps : List Str} {sp : Sp} (F : FnOk P w K mg base CX0 k f fd ps sp) :
    FnOk P w K mg base CX0 k f fd ps (fun vs H Q E => H P0 = some (.tbl #[]) ∧ sp vs (upd H P0 (.ext (TabIs P0))) (fun v H' => TabH H' P0 ∧ ∀ H'', Q v H'') E) := by
  refine ⟨fun vs H Q E h => F.len _ _ _ _ h.2, fun A outer s H args us vs Q E hr he hb hv hs => ?_⟩
  obtain ⟨hP, hs⟩ := hs
  have hobj : s.heap.get? P0 = some { cls := .none, data := .fields #[] } := he.hok P0 _ hP
  have he' : Env0 P w K mg base A outer s (upd H P0 (.ext (TabIs P0))) := by
    refine ⟨he.frames, he.mod, fun b o e => ⟨(he.bs b o e).1, ?_⟩, he.bsz, he.funs, fun b hb => ?_, fun b u e => ?_, he.bare⟩
    · rw [upd_ne (ne_of_none hP (he.bs b o e).2).symm]
      exact (he.bs b o e).2
    · rw [upd_ne (ne_of_none hP (he.frf b hb)).symm]
      exact he.frf b hb
    · by_cases z : b = P0
      · subst z
        rw [upd_same] at e
        cases e
        exact ⟨⟨#[], hobj, by unfold TriplesOk; trivial⟩, ⟨_, hobj⟩, fun h1 h2 ⟨ps, e, t⟩ k => ⟨ps, k _ e, t⟩⟩
      · rw [upd_ne z] at e
        exact (he.hok b u e).stay (fun c v _ q => q) (fun c q => by rw [upd_ne (neH q hP fun z => by cases z)]; exact q) (fun c xs q => by rw [upd_ne (neH q hP fun z => by cases z)]; exact q)
  refine codeAny_mono (F.run A outer s _ args us vs _ E hr he' hb hv hs) fun r s' h => ?_
  cases r with
  | error e => exact h.elim
  | ok fl =>
    cases fl with
    | next => exact h.elim
    | brk => exact h.elim
    | cont => exact h.elim
    | ret u =>
      obtain ⟨v, H', os, bare, un, hok, r, ht, q⟩ := h
      obtain ⟨⟨qs, now, _⟩, _, _⟩ := hok P0 _ ht
      have nP : ∀ {b : Addr}, H b = none → b ≠ P0 := fun e => (ne_of_none hP e).symm
      refine ⟨v, upd H' P0 (.tbl qs), os, bare, ⟨fun b o e n hb hx => un.keep b o e (by rw [upd_ne (nP n)]; exact n) hb hx, fun b o e n hb hx => un.slot b o e (by rw [upd_ne (nP n)]; exact n) hb hx, fun b o e n hx => ?_, un.there, fun b xs e => ?_, fun b o u e => ?_, fun b ps' e => ?_⟩, fun b u e => ?_, r, q _⟩
      · rw [upd_ne (nP n)]
        exact un.free b o e (by rw [upd_ne (nP n)]; exact n) hx
      · have z : b ≠ P0 := neH e hP fun z => by cases z
        rw [upd_ne z]
        exact un.tups b xs (by rw [upd_ne z]; exact e)
      · have z : b ≠ P0 := neH e hP fun z => by cases z
        rw [upd_ne z]
        exact un.frzs b o u (by rw [upd_ne z]; exact e)
      · by_cases z : b = P0
        · subst z
          rw [hP] at e
          cases e
          exact ⟨qs, by rw [upd_same, Array.empty_append]⟩
        · obtain ⟨more, hm⟩ := un.tbls b ps' (by rw [upd_ne z]; exact e)
          exact ⟨more, by rw [upd_ne z]; exact hm⟩
      · by_cases z : b = P0
        · subst z
          rw [upd_same] at e
          cases e
          exact now
        · rw [upd_ne z] at e
          exact (hok b u e).stay (fun c v _ q => q) (fun c q => by rw [upd_ne (neH q ht fun z => by cases z)]; exact q) (fun c xs q => by rw [upd_ne (neH q ht fun z => by cases z)]; exact q)
/-- what the end asks of the law -/
theorem law_at {w : World} {h : Heap} {K : PySem.W.Frag} {mg : Str → Option Value} {fa : Addr} (KX : K.In h) (G : h.Ns mainGlobals mg) (c : Says w h K) (hmg : mg ("law" : Str) = some (.ref fa)) :
    LamX.LawAtS PySem.Challenge.rw_turnpike_k34_whole_no_money_is_made w K CX0 10 63 "_law_script" mg fa h := by
  have T := txt_of KX G c
  obtain ⟨fd, F⟩ := T.f_law
  have e : fa = He.ga K "law" := by
    have z := hmg.symm.trans T.g_law
    cases z
    rfl
  subst e
  have F' : FunD K d_law.name d_law.qual d_law.params d_law.body d_law.scope [] [] (He.ga K "law") fd := F
  have b := FunD.bindsA (ps := ["_law_script"]) F' fun _ _ _ _ _ _ us hl => match us, hl with | [_], _ => rfl
  have mem : (("total", none) : Str × Option Str) ∈ ([("total", none)] : List (Str × Option Str)) := List.mem_cons_self
  refine ⟨fd, [(cTot K, pTot K)], _, fun p hp => ?_, fun p hp => ?_, fun p hp => ?_, fun s v => b s [v] rfl, fun H a ns _ _ hT hS => ?_, fun base KB GB TB => retab (P0 := pTot K) (ok_law T ?_ F')⟩
  · rw [List.mem_singleton.mp hp]
    exact c.x.empty _ mem
  · rw [List.mem_singleton.mp hp]
    exact c.x.out _ mem
  · rw [List.mem_singleton.mp hp]
    exact PySem.W.codeHd_of_K KX (c.x.hd _ mem)
  · have hP : H (pTot K) = some (.tbl #[]) := hT _ List.mem_cons_self
    refine ⟨hP, a, ns, rfl, ?_, upd_same, fun H' t => ⟨t, fun _ => rfl⟩⟩
    rcases hS with hS | hS
    · refine .inl ?_
      rcases hS with hS | ⟨o, hS⟩
      · exact .inl (by rw [upd_ne (neH hS hP fun z => by cases z)]; exact hS)
      · exact .inr ⟨o, by rw [upd_ne (neH hS hP fun z => by cases z)]; exact hS⟩
    · exact .inr hS
  · have t := TB _ (List.mem_cons_self (a := (cTot K, pTot K)) (l := []))
    exact ⟨t.code, t.bm, t.gP⟩
end Tk
open PySem PySem.W PySem.Calls PyProof.Rows
theorem PySem.Challenge.cw_turnpike_k34_whole_no_money_is_made_holds : PySem.Challenge.rw_turnpike_k34_whole_no_money_is_made.Holds := by
  w_on; o_law
  refine HandSHeadRun.head_any (r := OpenLaw.row PySem.Challenge.rw_turnpike_k34_whole_no_money_is_made) (q := view (OpenLaw.row PySem.Challenge.rw_turnpike_k34_whole_no_money_is_made).prog [62]) (H := Tk.hookP) (ob := Tk.ob) (M := 20000) (loose := Tk.names) (d := HandSHeadRun.topDef (OpenLaw.row PySem.Challenge.rw_turnpike_k34_whole_no_money_is_made).prog 62) (kwd := []) Tk.ob_eq
    (by kernel_rfl) (fun s => by kernel_rfl) Tk.run (by kernel_rfl) (by kernel_rfl) (by kernel_rfl) (by rfl) (by first | assumption | decide +kernel) (by decide +kernel) ⟨rfl, rfl, rfl, rfl, rfl, by decide +kernel⟩ ?hw ?hc
  case hw => w_witness2
  case hc =>
    refine LamX.walk_ofTsE (l := PySem.Challenge.rw_turnpike_k34_whole_no_money_is_made) (n := 63) (k := 10) (x := "_law_script") (CX := fun _ => L2.CX0) rfl (by decide) (by kernel_rfl) ⟨rfl, by decide, by decide⟩ ?F (fun _ _ _ _ _ z => z)
    intro w mg fa h Y G hmg0
    obtain ⟨K, KX, c⟩ := Y
    have hmg : mg ("law" : PySem.Str) = some (.ref fa) := by
      have e : (HandSHeadRun.topDef (OpenLaw.row PySem.Challenge.rw_turnpike_k34_whole_no_money_is_made).prog 62).name = ("law" : PySem.Str) := by kernel_rfl
      rw [← e]
      exact hmg0
    exact ⟨K, KX, Tk.law_at KX G c hmg⟩
