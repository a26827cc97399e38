import PyProof.Rows.All
import Wide.All
import OpenK.AllK
import Wide.FinOn
import HandS.ForMost
import HandS.ForExc
import HandS.Defaults
import PySem.Challenge.RW_hushlink_k38_whole_grades_of_valid_patte
import Open.Row
import HandS.Deep
import HandS.More
import HandS.TupAny
import HandS.IsInst
import HandS.Zip
import HandS.Evl
import KE.GoesMore
import KE.KStateDown
import HandS.Head0
import HandS.Head1
import HandS.Head2
import HandS.HeadEnd
import HandS.HeadHook1
import HandS.HeadHook2
import HandS.HeadHook3
import HandS.HeadHook4
set_option Elab.async false
set_option linter.all false
set_option maxRecDepth 100000
set_option maxHeartbeats 0
section
/-! the text by places: each def, its names by slot, its scope (printed by gen_txt.py) -/
namespace K38
open PySem L2
def top (i : Nat) : Stmt := PySem.Challenge.pw_hushlink_k38_whole_grades_of_valid_patte.main.body.getD i (.Pass ⟨0, 0, 0, 0⟩)
abbrev FnP (K : PySem.W.Frag) (x : Str) (st : Stmt) (f : Addr) (fd : FuncData) : Prop := FunD K x x (defArgs st) (defBody st) (defScope st) [] [] f fd
abbrev s_init : Stmt := inClass (top 6) 0
theorem sc_init : FnScope ["self", "name", "before", "messages"] ["self", "name", "before", "messages"] (defScope s_init) := ⟨rfl, rfl, rfl, by decide +kernel, rfl, by decide +kernel, by decide +kernel⟩
abbrev s_transport_senders : Stmt := top 9
abbrev N_transport_senders : List Str := ["pattern"]
theorem sc_transport_senders : FnScope N_transport_senders ["pattern"] (defScope s_transport_senders) := ⟨rfl, rfl, rfl, by decide +kernel, rfl, by decide +kernel, by decide +kernel⟩
abbrev s_pattern_steps : Stmt := top 10
abbrev N_pattern_steps : List Str := ["pattern", "steps", "end", "tokens", "token", "mixed"]
theorem sc_pattern_steps : FnScope N_pattern_steps ["pattern"] (defScope s_pattern_steps) := ⟨rfl, rfl, rfl, by decide +kernel, rfl, by decide +kernel, by decide +kernel⟩
abbrev s_repeats_key : Stmt := top 11
abbrev N_repeats_key : List Str := ["steps", "seen", "kind", "end", "token"]
theorem sc_repeats_key : FnScope N_repeats_key ["steps"] (defScope s_repeats_key) := ⟨rfl, rfl, rfl, by decide +kernel, rfl, by decide +kernel, by decide +kernel⟩
abbrev s_repeats_secret : Stmt := top 12
abbrev N_repeats_secret : List Str := ["steps", "seen", "kind", "_", "token"]
theorem sc_repeats_secret : FnScope N_repeats_secret ["steps"] (defScope s_repeats_secret) := ⟨rfl, rfl, rfl, by decide +kernel, rfl, by decide +kernel, by decide +kernel⟩
abbrev s_misses_key : Stmt := top 13
abbrev N_misses_key : List Str := ["steps", "sent", "kind", "end", "token"]
theorem sc_misses_key : FnScope N_misses_key ["steps"] (defScope s_misses_key) := ⟨rfl, rfl, rfl, by decide +kernel, rfl, by decide +kernel, by decide +kernel⟩
abbrev s_misses_ephemeral : Stmt := top 14
abbrev N_misses_ephemeral : List Str := ["steps", "mixed", "kind", "end", "token", "own", "both"]
theorem sc_misses_ephemeral : FnScope N_misses_ephemeral ["steps"] (defScope s_misses_ephemeral) := ⟨rfl, rfl, rfl, by decide +kernel, rfl, by decide +kernel, by decide +kernel⟩
abbrev s_misplaces_psk : Stmt := top 15
abbrev N_misplaces_psk : List Str := ["pattern", "at", "_", "tokens", "inner"]
theorem sc_misplaces_psk : FnScope N_misplaces_psk ["pattern"] (defScope s_misplaces_psk) := ⟨rfl, rfl, rfl, by decide +kernel, rfl, by decide +kernel, by decide +kernel⟩
abbrev s_psk_without_key : Stmt := top 16
abbrev N_psk_without_key : List Str := ["steps", "sent", "psk", "kind", "end", "token"]
theorem sc_psk_without_key : FnScope N_psk_without_key ["steps"] (defScope s_psk_without_key) := ⟨rfl, rfl, rfl, by decide +kernel, rfl, by decide +kernel, by decide +kernel⟩
abbrev s_broken_rule : Stmt := top 17
abbrev N_broken_rule : List Str := ["pattern", "steps"]
theorem sc_broken_rule : FnScope N_broken_rule ["pattern"] (defScope s_broken_rule) := ⟨rfl, rfl, rfl, by decide +kernel, rfl, by decide +kernel, by decide +kernel⟩
abbrev s_can_compute : Stmt := top 20
abbrev N_can_compute : List Str := ["token", "keys", "first", "second"]
theorem sc_can_compute : FnScope N_can_compute ["token", "keys"] (defScope s_can_compute) := ⟨rfl, rfl, rfl, by decide +kernel, rfl, by decide +kernel, by decide +kernel⟩
abbrev s_processed_before : Stmt := top 21
abbrev N_processed_before : List Str := ["pattern", "count", "tokens", "_", "added", "token"]
theorem sc_processed_before : FnScope N_processed_before ["pattern", "count"] (defScope s_processed_before) := ⟨rfl, rfl, rfl, by decide +kernel, rfl, by decide +kernel, by decide +kernel⟩
abbrev s_can_compute_all : Stmt := top 22
abbrev N_can_compute_all : List Str := ["tokens", "keys", "token"]
theorem sc_can_compute_all : FnScope N_can_compute_all ["tokens", "keys"] (defScope s_can_compute_all) := ⟨rfl, rfl, rfl, by decide +kernel, rfl, by decide +kernel, by decide +kernel⟩
abbrev s_own_key : Stmt := top 23
abbrev N_own_key : List Str := ["sender", "letter"]
theorem sc_own_key : FnScope N_own_key ["sender", "letter"] (defScope s_own_key) := ⟨rfl, rfl, rfl, by decide +kernel, rfl, by decide +kernel, by decide +kernel⟩
abbrev s_other_key : Stmt := top 24
abbrev N_other_key : List Str := ["sender", "letter"]
theorem sc_other_key : FnScope N_other_key ["sender", "letter"] (defScope s_other_key) := ⟨rfl, rfl, rfl, by decide +kernel, rfl, by decide +kernel, by decide +kernel⟩
abbrev s_check_index : Stmt := top 25
abbrev N_check_index : List Str := ["pattern", "index"]
theorem sc_check_index : FnScope N_check_index ["pattern", "index"] (defScope s_check_index) := ⟨rfl, rfl, rfl, by decide +kernel, rfl, by decide +kernel, by decide +kernel⟩
abbrev s_is_open : Stmt := top 26
abbrev N_is_open : List Str := ["pattern", "index", "keys"]
theorem sc_is_open : FnScope N_is_open ["pattern", "index", "keys"] (defScope s_is_open) := ⟨rfl, rfl, rfl, by decide +kernel, rfl, by decide +kernel, by decide +kernel⟩
abbrev s_can_forge : Stmt := top 27
abbrev N_can_forge : List Str := ["pattern", "index", "keys", "tokens"]
theorem sc_can_forge : FnScope N_can_forge ["pattern", "index", "keys"] (defScope s_can_forge) := ⟨rfl, rfl, rfl, by decide +kernel, rfl, by decide +kernel, by decide +kernel⟩
abbrev s_source_grade : Stmt := top 28
abbrev N_source_grade : List Str := ["sender", "tokens"]
theorem sc_source_grade : FnScope N_source_grade ["sender", "tokens"] (defScope s_source_grade) := ⟨rfl, rfl, rfl, by decide +kernel, rfl, by decide +kernel, by decide +kernel⟩
abbrev s_destination_grade : Stmt := top 29
abbrev N_destination_grade : List Str := ["sender", "tokens", "known", "receiver", "token"]
theorem sc_destination_grade : FnScope N_destination_grade ["sender", "tokens", "known"] (defScope s_destination_grade) := ⟨rfl, rfl, rfl, by decide +kernel, rfl, by decide +kernel, by decide +kernel⟩
abbrev s_grades : Stmt := top 30
abbrev N_grades : List Str := ["pattern", "result", "known", "sender", "_", "senders", "count", "tokens", "source", "peer"]
theorem sc_grades : FnScope N_grades ["pattern"] (defScope s_grades) := ⟨rfl, rfl, rfl, by decide +kernel, rfl, by decide +kernel, by decide +kernel⟩
abbrev s__law_cell : Stmt := top 32
abbrev N__law_cell : List Str := ["_law_script", "_law_k"]
theorem sc__law_cell : FnScope N__law_cell ["_law_script", "_law_k"] (defScope s__law_cell) := ⟨rfl, rfl, rfl, by decide +kernel, rfl, by decide +kernel, by decide +kernel⟩
abbrev s__law_is_integer : Stmt := top 33
abbrev N__law_is_integer : List Str := ["_law_actual"]
theorem sc__law_is_integer : FnScope N__law_is_integer ["_law_actual"] (defScope s__law_is_integer) := ⟨rfl, rfl, rfl, by decide +kernel, rfl, by decide +kernel, by decide +kernel⟩
abbrev s__law_pick : Stmt := top 34
abbrev N__law_pick : List Str := ["_law_state_here", "_law_many"]
theorem sc__law_pick : FnScope N__law_pick ["_law_state_here", "_law_many"] (defScope s__law_pick) := ⟨rfl, rfl, rfl, by decide +kernel, rfl, by decide +kernel, by decide +kernel⟩
abbrev s__law_digit : Stmt := top 35
abbrev N__law_digit : List Str := ["_law_state_here", "_law_many", "_law_digit_here"]
theorem sc__law_digit : FnScope N__law_digit ["_law_state_here", "_law_many"] (defScope s__law_digit) := ⟨rfl, rfl, rfl, by decide +kernel, rfl, by decide +kernel, by decide +kernel⟩
abbrev s__law_state : Stmt := top 36
abbrev N__law_state : List Str := ["_law_cell_here", "_law_salt", "_law_rest"]
theorem sc__law_state : FnScope N__law_state ["_law_cell_here", "_law_salt"] (defScope s__law_state) := ⟨rfl, rfl, rfl, by decide +kernel, rfl, by decide +kernel, by decide +kernel⟩
abbrev s__law_before : Stmt := top 37
abbrev N__law_before : List Str := ["_law_state_here"]
theorem sc__law_before : FnScope N__law_before ["_law_state_here"] (defScope s__law_before) := ⟨rfl, rfl, rfl, by decide +kernel, rfl, by decide +kernel, by decide +kernel⟩
abbrev s__law_tokens : Stmt := top 38
abbrev N__law_tokens : List Str := ["_law_state_here", "_law_names", "_law_k"]
theorem sc__law_tokens : FnScope N__law_tokens ["_law_state_here"] (defScope s__law_tokens) := ⟨rfl, rfl, rfl, by decide +kernel, rfl, by decide +kernel, by decide +kernel⟩
abbrev s__law_messages : Stmt := top 39
abbrev N__law_messages : List Str := ["_law_state_here", "_law_sender", "_law_messages_here", "_law_k"]
theorem sc__law_messages : FnScope N__law_messages ["_law_state_here"] (defScope s__law_messages) := ⟨rfl, rfl, rfl, by decide +kernel, rfl, by decide +kernel, by decide +kernel⟩
abbrev s__law_base : Stmt := top 40
abbrev N__law_base : List Str := ["_law_number", "_law_bases"]
theorem sc__law_base : FnScope N__law_base ["_law_number"] (defScope s__law_base) := ⟨rfl, rfl, rfl, by decide +kernel, rfl, by decide +kernel, by decide +kernel⟩
abbrev s__law_edit : Stmt := top 41
abbrev N__law_edit : List Str := ["_law_state_here", "_law_messages_here", "_law_names", "_law_at", "_law_sender", "_law_tokens_here", "_law_place", "_law_kind", "_law_name", "_law_other"]
theorem sc__law_edit : FnScope N__law_edit ["_law_state_here", "_law_messages_here"] (defScope s__law_edit) := ⟨rfl, rfl, rfl, by decide +kernel, rfl, by decide +kernel, by decide +kernel⟩
abbrev s__law_drawn : Stmt := top 42
abbrev N__law_drawn : List Str := ["_law_cell_here", "_law_salt", "_law_state_here", "_law_kind", "_law_before_here", "_law_messages_here", "_law_k"]
theorem sc__law_drawn : FnScope N__law_drawn ["_law_cell_here", "_law_salt"] (defScope s__law_drawn) := ⟨rfl, rfl, rfl, by decide +kernel, rfl, by decide +kernel, by decide +kernel⟩
abbrev s__law_flat : Stmt := top 43
abbrev N__law_flat : List Str := ["_law_messages_here", "_law_flat_here", "_law_sender", "_law_tokens_here", "_law_k"]
theorem sc__law_flat : FnScope N__law_flat ["_law_messages_here"] (defScope s__law_flat) := ⟨rfl, rfl, rfl, by decide +kernel, rfl, by decide +kernel, by decide +kernel⟩
abbrev s__law_sent : Stmt := top 44
abbrev N__law_sent : List Str := ["_law_before_here", "_law_flat_here", "_law_side", "_law_letter", "_law_sender", "_law_place"]
theorem sc__law_sent : FnScope N__law_sent ["_law_before_here", "_law_flat_here", "_law_side", "_law_letter"] (defScope s__law_sent) := ⟨rfl, rfl, rfl, by decide +kernel, rfl, by decide +kernel, by decide +kernel⟩
abbrev s__law_mixed : Stmt := top 45
abbrev N__law_mixed : List Str := ["_law_flat_here", "_law_place"]
theorem sc__law_mixed : FnScope N__law_mixed ["_law_flat_here"] (defScope s__law_mixed) := ⟨rfl, rfl, rfl, by decide +kernel, rfl, by decide +kernel, by decide +kernel⟩
abbrev s__law_encryptions : Stmt := top 46
abbrev N__law_encryptions : List Str := ["_law_messages_here", "_law_flat_here", "_law_places", "_law_k"]
theorem sc__law_encryptions : FnScope N__law_encryptions ["_law_messages_here"] (defScope s__law_encryptions) := ⟨rfl, rfl, rfl, by decide +kernel, rfl, by decide +kernel, by decide +kernel⟩
abbrev s__law_breaks_counts : Stmt := top 47
abbrev N__law_breaks_counts : List Str := ["_law_before_here", "_law_flat_here", "_law_rule", "_law_side", "_law_letter", "_law_token", "_law_many", "_law_place"]
theorem sc__law_breaks_counts : FnScope N__law_breaks_counts ["_law_before_here", "_law_flat_here", "_law_rule"] (defScope s__law_breaks_counts) := ⟨rfl, rfl, rfl, by decide +kernel, rfl, by decide +kernel, by decide +kernel⟩
abbrev s__law_breaks_keys : Stmt := top 48
abbrev N__law_breaks_keys : List Str := ["_law_before_here", "_law_flat_here", "_law_k", "_law_token", "_law_known"]
theorem sc__law_breaks_keys : FnScope N__law_breaks_keys ["_law_before_here", "_law_flat_here"] (defScope s__law_breaks_keys) := ⟨rfl, rfl, rfl, by decide +kernel, rfl, by decide +kernel, by decide +kernel⟩
abbrev s__law_breaks_encryption : Stmt := top 49
abbrev N__law_breaks_encryption : List Str := ["_law_before_here", "_law_messages_here", "_law_rule", "_law_flat_here", "_law_k", "_law_sender", "_law_mixed_here", "_law_side", "_law_lone"]
theorem sc__law_breaks_encryption : FnScope N__law_breaks_encryption ["_law_before_here", "_law_messages_here", "_law_rule"] (defScope s__law_breaks_encryption) := ⟨rfl, rfl, rfl, by decide +kernel, rfl, by decide +kernel, by decide +kernel⟩
abbrev s__law_breaks_psk : Stmt := top 50
abbrev N__law_breaks_psk : List Str := ["_law_messages_here", "_law_at", "_law_tokens_here", "_law_k"]
theorem sc__law_breaks_psk : FnScope N__law_breaks_psk ["_law_messages_here"] (defScope s__law_breaks_psk) := ⟨rfl, rfl, rfl, by decide +kernel, rfl, by decide +kernel, by decide +kernel⟩
abbrev s__law_broken : Stmt := top 51
abbrev N__law_broken : List Str := ["_law_before_here", "_law_messages_here", "_law_flat_here", "_law_rule"]
theorem sc__law_broken : FnScope N__law_broken ["_law_before_here", "_law_messages_here"] (defScope s__law_broken) := ⟨rfl, rfl, rfl, by decide +kernel, rfl, by decide +kernel, by decide +kernel⟩
abbrev s__law_pattern_name : Stmt := top 52
abbrev N__law_pattern_name : List Str := ["_law_cell_here", "_law_names"]
theorem sc__law_pattern_name : FnScope N__law_pattern_name ["_law_cell_here"] (defScope s__law_pattern_name) := ⟨rfl, rfl, rfl, by decide +kernel, rfl, by decide +kernel, by decide +kernel⟩
abbrev s__law_secrets : Stmt := top 53
abbrev N__law_secrets : List Str := ["_law_messages_here", "_law_secrets_here", "_law_message", "_law_token"]
theorem sc__law_secrets : FnScope N__law_secrets ["_law_messages_here"] (defScope s__law_secrets) := ⟨rfl, rfl, rfl, by decide +kernel, rfl, by decide +kernel, by decide +kernel⟩
abbrev s__law_open : Stmt := top 54
abbrev N__law_open : List Str := ["_law_secrets_here", "_law_keys", "_law_token"]
theorem sc__law_open : FnScope N__law_open ["_law_secrets_here", "_law_keys"] (defScope s__law_open) := ⟨rfl, rfl, rfl, by decide +kernel, rfl, by decide +kernel, by decide +kernel⟩
abbrev s__law_says : Stmt := top 55
abbrev N__law_says : List Str := ["_law_actual", "_law_expected"]
theorem sc__law_says : FnScope N__law_says ["_law_actual", "_law_expected"] (defScope s__law_says) := ⟨rfl, rfl, rfl, by decide +kernel, rfl, by decide +kernel, by decide +kernel⟩
abbrev s__law_right_answers : Stmt := top 56
abbrev N__law_right_answers : List Str := ["_law_pattern", "_law_index", "_law_secrets_here", "_law_receiver", "_law_own", "_law_keys"]
theorem sc__law_right_answers : FnScope N__law_right_answers ["_law_pattern", "_law_index", "_law_secrets_here", "_law_receiver", "_law_own"] (defScope s__law_right_answers) := ⟨rfl, rfl, rfl, by decide +kernel, rfl, by decide +kernel, by decide +kernel⟩
abbrev s__law_right_grades : Stmt := top 57
abbrev N__law_right_grades : List Str := ["_law_answers", "_law_secrets_here", "_law_told", "_law_known", "_law_receiver", "_law_own", "_law_source", "_law_destination", "_law_everybody", "_law_token", "_law_used"]
theorem sc__law_right_grades : FnScope N__law_right_grades ["_law_answers", "_law_secrets_here", "_law_told", "_law_known"] (defScope s__law_right_grades) := ⟨rfl, rfl, rfl, by decide +kernel, rfl, by decide +kernel, by decide +kernel⟩
abbrev s__law_is_pair : Stmt := top 58
abbrev N__law_is_pair : List Str := ["_law_actual"]
theorem sc__law_is_pair : FnScope N__law_is_pair ["_law_actual"] (defScope s__law_is_pair) := ⟨rfl, rfl, rfl, by decide +kernel, rfl, by decide +kernel, by decide +kernel⟩
abbrev s__law_right_pattern : Stmt := top 59
abbrev N__law_right_pattern : List Str := ["_law_pattern", "_law_messages_here", "_law_message", "_law_senders", "_law_ends", "_law_told", "_law_last", "_law_at", "_law_answers", "_law_secrets_here", "_law_peer", "_law_receiver", "_law_own"]
theorem sc__law_right_pattern : FnScope N__law_right_pattern ["_law_pattern", "_law_messages_here"] (defScope s__law_right_pattern) := ⟨rfl, rfl, rfl, by decide +kernel, rfl, by decide +kernel, by decide +kernel⟩
abbrev s_law : Stmt := top 60
abbrev N_law : List Str := ["_law_script", "_law_k", "_law_before_here", "_law_messages_here", "_law_pattern"]
theorem sc_law : FnScope N_law ["_law_script"] (defScope s_law) := ⟨rfl, rfl, rfl, by decide +kernel, rfl, by decide +kernel, by decide +kernel⟩
end K38
end
section
/-! the data of this program, and what its defs compute, as plain functions -/
namespace K38
open PySem
/-! ### tokens, messages, patterns -/
inductive Tk where
  | e | s | ee | es | se | ss | psk
  deriving DecidableEq
def Tk.z : Tk → Str
  | .e => "e" | .s => "s" | .ee => "ee" | .es => "es" | .se => "se" | .ss => "ss" | .psk => "psk"
theorem Tk.z_inj : ∀ a b : Tk, a.z = b.z → a = b := by
  intro a b
  cases a <;> cases b <;> first | (intro _; rfl) | (intro h; exact absurd h (by decide +kernel))
theorem Tk.z_iff (a b : Tk) : (a.z = b.z) ↔ a = b := ⟨Tk.z_inj a b, fun h => by rw [h]⟩
/-- the sender: true is the answerer -/
def sdS (b : Bool) : Str := if b then "<-" else "->"
theorem sdS_inj : ∀ a b : Bool, sdS a = sdS b → a = b := by
  intro a b
  cases a <;> cases b <;> first | (intro _; rfl) | (intro h; exact absurd h (by decide +kernel))
theorem sdS_o (b : Bool) : decide (sdS b = "->") = !b := by cases b <;> decide +kernel
theorem sdS_a (b : Bool) : decide (sdS b = "<-") = b := by cases b <;> decide +kernel
abbrev Msg := Bool × List Tk
abbrev Bef := List Tk × List Tk
theorem mem_z (t : Tk) (ts : List Tk) : (t.z ∈ ts.map Tk.z) ↔ t ∈ ts := by
  rw [List.mem_map]
  exact ⟨fun ⟨a, h, e⟩ => by rw [← Tk.z_inj a t e]; exact h, fun h => ⟨t, h, rfl⟩⟩
/-- a shared secret -/
def Tk.sec : Tk → Bool
  | .ee => true | .es => true | .se => true | .ss => true | _ => false
/-- a key -/
def Tk.key : Tk → Bool
  | .e => true | .s => true | _ => false
/-- the opener's, the answerer's key of a shared secret, by its letter -/
def Tk.lo : Tk → Tk
  | .ee => .e | .es => .e | .se => .s | .ss => .s | t => t
def Tk.la : Tk → Tk
  | .ee => .e | .es => .s | .se => .e | .ss => .s | t => t
/-- .. by its name -/
def Tk.ko : Tk → Str
  | .ee => "oe" | .es => "oe" | .se => "os" | .ss => "os" | _ => ""
def Tk.ka : Tk → Str
  | .ee => "ae" | .es => "as" | .se => "ae" | .ss => "as" | _ => ""

/-! ### grades -/
def secsOf (ms : List Msg) : List Tk := ms.flatMap fun m => m.2.filter Tk.sec
def cc (t : Tk) (ks : List Str) : Bool := decide (t.ko ∈ ks) || decide (t.ka ∈ ks)
def opn (T : List Tk) (ks : List Str) : Bool := T.all fun t => cc t ks
def ownE (b : Bool) : Str := if b then "ae" else "oe"
def othS (b : Bool) : Str := if b then "os" else "as"
def src (b : Bool) (T : List Tk) : Int := if opn T [ownE b] then 0 else if opn T [ownE b, othS b] then 1 else 2
def uses (b : Bool) (t : Tk) : Bool := decide (othS b ∈ [t.ko, t.ka])
def dst (b : Bool) (T : List Tk) (known : Int) : Int := if T = [] then 0 else if Tk.ee ∈ T then (if T.any (uses b) then 3 + known else 1) else 2
def trans (ms : List Msg) : List Bool := if ms.length = 1 then (ms.map (·.1)) else [false, true]
def sds (ms : List Msg) : List Bool := ms.map (·.1) ++ trans ms
/-- the secrets that are processed at the i-th payload -/
def sc (ms : List Msg) (i : Nat) : List Tk := secsOf (ms.take (i + 1))
/-- the last source grade of an end ahead of the i-th payload -/
def kn (ms : List Msg) : Nat → Bool → Int
  | 0, _ => 0
  | i + 1, b => if (sds ms)[i]? = some b then src b (sc ms i) else kn ms i b
def tld (ms : List Msg) (i : Nat) (b : Bool) : Int × Int := (src b (sc ms i), dst b (sc ms i) (kn ms i (!b)))
/-- the last grades of an end ahead of the i-th payload -/
def la (ms : List Msg) : Nat → Bool → Int × Int
  | 0, _ => (0, 0)
  | i + 1, b => if (sds ms)[i]? = some b then tld ms i b else la ms i b

/-! ### the program's steps -/
inductive Kd where
  | key | mix | enc
  deriving DecidableEq
def Kd.z : Kd → Str
  | .key => "key" | .mix => "mix" | .enc => "encrypt"
abbrev Step := Kd × Bool × Option Tk
def tz : Option Tk → Str
  | some t => t.z
  | none => ""
def befSteps (b : Bef) : List Step := b.1.map (fun t => (Kd.key, false, some t)) ++ b.2.map (fun t => (Kd.key, true, some t))
def tokF (b : Bool) (st : List Step × Bool) (t : Tk) : List Step × Bool :=
  ((if decide (t = .s) && st.2 then st.1 ++ [(Kd.enc, b, some t)] else st.1) ++ [if t.key then (Kd.key, b, some t) else (Kd.mix, b, some t)], st.2 || !t.key)
def msgF (st : List Step × Bool) (m : Msg) : List Step × Bool :=
  let st' := m.2.foldl (tokF m.1) st
  if st'.2 then (st'.1 ++ [(Kd.enc, m.1, none)], st'.2) else st'
def trF (mixed : Bool) (st : List Step) (b : Bool) : List Step := if mixed then st ++ [(Kd.enc, b, none)] else st
def steps (b : Bef) (ms : List Msg) : List Step :=
  let st := ms.foldl msgF (befSteps b, false)
  (trans ms).foldl (trF st.2) st.1
def keysS (st : List Step) : List (Bool × Tk) := st.filterMap fun x => match x with
  | (.key, b, some t) => some (b, t)
  | _ => none
def mixS (st : List Step) : List Tk := st.filterMap fun x => match x with
  | (.mix, _, some t) => some t
  | _ => none
/-- the steps break no rule, as the program's loops ask it -/
structure StOk (st : List Step) : Prop where
  form : ∀ x ∈ st, (x.1 = .enc ∨ ∃ t, x.2.2 = some t ∧ (x.1 = .key ∧ t.key = true ∨ x.1 = .mix ∧ t.key = false))
  r1 : (keysS st).Nodup
  r2 : ((mixS st).filter Tk.sec).Nodup
  r3 : ∀ (i : Nat) b t, st[i]? = some (.mix, b, some t) → t.sec = true → (false, t.lo) ∈ keysS (st.take i) ∧ (true, t.la) ∈ keysS (st.take i)
  r4 : ∀ (i : Nat) b t, st[i]? = some (.enc, b, t) → ((if b then Tk.es else Tk.se) ∈ mixS (st.take i) → Tk.ee ∈ mixS (st.take i)) ∧ (Tk.ss ∈ mixS (st.take i) → (if b then Tk.se else Tk.es) ∈ mixS (st.take i))
  r6 : ∀ (i : Nat) b t, st[i]? = some (.enc, b, t) → Tk.psk ∈ mixS (st.take i) → (b, Tk.e) ∈ keysS (st.take i)
/-- psk stands where it may -/
def PskOk (ms : List Msg) : Prop := ∀ (i : Nat) m, ms[i]? = some m → Tk.psk ∉ (if i = 0 then m.2.dropLast.drop 1 else m.2.dropLast)

/-! ### the law's own count -/
abbrev Fl := Bool × Tk × Bool
def flM (m : Msg) : List Fl := (List.range m.2.length).map fun k => (m.1, m.2.getD k .e, decide ((k : Int) = (m.2.length : Int) - 1))
def flat (ms : List Msg) : List Fl := ms.flatMap flM
def bside (b : Bef) (i : Bool) : List Tk := if i then b.2 else b.1
def sent (b : Bef) (fl : List Fl) (side : Bool) (l : Tk) : Bool := decide (l ∈ bside b side) || fl.any fun p => decide (p.1 = side) && decide (p.2.1 = l)
def mixd (fl : List Fl) : List Tk := (fl.map fun p => p.2.1).filter fun t => !t.key
def encAt (fl : List Fl) (k : Nat) : List (Nat × Bool) := match fl[k]? with
  | some (b, t, last) => (if decide (t = .s) && decide (0 < (mixd (fl.take k)).length) then [(k, b)] else []) ++ (if last && decide (0 < (mixd (fl.take (k + 1))).length) then [(k + 1, b)] else [])
  | none => []
def encs (ms : List Msg) : List (Nat × Bool) :=
  let fl := flat ms
  (List.range fl.length).flatMap (encAt fl) ++ (if 0 < (mixd fl).length then ((ms.take 1).map fun m => (fl.length, m.1)) ++ (if 1 < ms.length then ((ms.drop 1).take 1).map fun m => (fl.length, m.1) else []) else [])
def cnt (b : Bef) (fl : List Fl) (side : Bool) (l : Tk) : Nat := ((bside b side).filter fun t => decide (t = l)).length + (fl.filter fun p => decide (p.1 = side) && decide (p.2.1 = l)).length
def cntT (fl : List Fl) (t : Tk) : Nat := (fl.filter fun p => decide (p.2.1 = t)).length
def brC (b : Bef) (fl : List Fl) (rule : Int) : Bool :=
  ([false, true].any fun side => [Tk.e, Tk.s].any fun l => decide (rule = 1) && decide (1 < cnt b fl side l)) || [Tk.ee, Tk.es, Tk.se, Tk.ss].any fun t => decide (rule = 2) && decide (1 < cntT fl t)
def brKat (b : Bef) (fl : List Fl) (k : Nat) : Bool := match fl[k]? with
  | some (_, t, _) => t.sec && !(sent b (fl.take k) false t.lo && sent b (fl.take k) true t.la)
  | none => false
def brK (b : Bef) (fl : List Fl) : Bool := (List.range fl.length).any (brKat b fl)
def brEat (b : Bef) (fl : List Fl) (rule : Int) (x : Nat × Bool) : Bool :=
  let mx := mixd (fl.take x.1)
  (decide (rule = 4) && decide ((if x.2 then Tk.es else Tk.se) ∈ mx) && !decide (Tk.ee ∈ mx)) || (decide (rule = 4) && decide (Tk.ss ∈ mx) && !decide ((if x.2 then Tk.se else Tk.es) ∈ mx)) ||
    (decide (rule = 6) && decide (Tk.psk ∈ mx) && !sent b (fl.take x.1) x.2 .e)
def brE (b : Bef) (ms : List Msg) (rule : Int) : Bool := (encs ms).any (brEat b (flat ms) rule)
def brPat (at_ : Nat) (ts : List Tk) : Bool := (List.range (ts.length - 1)).any fun k => decide (ts[k]? = some .psk) && (decide (0 < at_) || decide (0 < k))
def brP (ms : List Msg) : Bool := (List.range ms.length).any fun i => match ms[i]? with
  | some m => brPat i m.2
  | none => false
def brk (b : Bef) (ms : List Msg) : Int :=
  if brC b (flat ms) 1 then 1 else if brC b (flat ms) 2 then 2 else if brK b (flat ms) then 3 else if brE b ms 4 then 4 else if brP ms then 5 else 6 * (if brE b ms 6 then 1 else 0)
/-- what is drawn -/
structure WF (ms : List Msg) : Prop where
  ne : ms ≠ []
  few : ms.length ≤ 12
  toks : ∀ m ∈ ms, m.2 ≠ [] ∧ m.2.length ≤ 20
  alt : ∀ (i : Nat) m n, ms[i]? = some m → ms[i + 1]? = some n → n.1 = !m.1
/-- the twelve patterns that keep the rules by themselves -/
def bases : List (Bef × List Msg) := [
  (([], []), [(false, [.e]), (true, [.e, .ee])]),
  (([], [.s]), [(false, [.e, .es]), (true, [.e, .ee])]),
  (([.s], []), [(false, [.e]), (true, [.e, .ee, .se])]),
  (([.s], [.s]), [(false, [.e, .es, .ss]), (true, [.e, .ee, .se])]),
  (([], []), [(false, [.e]), (true, [.e, .ee, .s, .es]), (false, [.s, .se])]),
  (([], [.s]), [(false, [.e, .es, .s, .ss]), (true, [.e, .ee, .se])]),
  (([], [.s]), [(false, [.e, .es]), (true, [.e, .ee]), (false, [.s]), (true, [.se])]),
  (([.s], [.s]), [(false, [.e, .es, .ss])]),
  (([.e], []), [(true, [.e, .ee, .s, .es]), (false, [.s, .se])]),
  (([], []), [(false, [.psk, .e]), (true, [.e, .ee, .psk])]),
  (([], []), [(false, [.e, .s]), (true, [.e, .ee, .se, .s]), (false, [.es, .psk])]),
  (([], [.s]), [(false, [.e, .es, .s, .ss, .psk])])]
theorem bases_ok : ∀ x ∈ bases, brk x.1 x.2 = 0 := by decide +kernel
/-- a list, a fold, one item more -/
theorem foldl_take {α β : Type} (f : β → α → β) (s : β) (l : List α) (i : Nat) (x : α) (h : l[i]? = some x) : (l.take (i + 1)).foldl f s = f ((l.take i).foldl f s) x := by
  rw [List.take_succ, h, List.foldl_append]; rfl
theorem take_snoc {α : Type} (l : List α) (i : Nat) (x : α) (h : l[i]? = some x) : l.take (i + 1) = l.take i ++ [x] := by
  rw [List.take_succ, h]; rfl
theorem any_range_f (n : Nat) (f : Nat → Bool) (h : ∀ j, j < n → f j = false) : (List.range n).any f = false := by
  rw [List.any_eq_false]
  intro x hx
  rw [h x (List.mem_range.mp hx)]; decide
theorem any_range_t (n : Nat) (f : Nat → Bool) (j : Nat) (hj : j < n) (h : f j = true) : (List.range n).any f = true :=
  List.any_eq_true.mpr ⟨j, List.mem_range.mpr hj, h⟩
end K38
namespace K38
open PySem
structure WB (b : Bef) : Prop where
  o : b.1.length ≤ 2
  a : b.2.length ≤ 2
  ko : ∀ t ∈ b.1, t.key = true
  ka : ∀ t ∈ b.2, t.key = true
theorem len_tokF (z : Bool) (l : List Tk) (st : List Step × Bool) : (l.foldl (tokF z) st).1.length ≤ st.1.length + 2 * l.length := by
  induction l generalizing st with
  | nil => exact Nat.le_refl _
  | cons t l ih =>
    have h1 := ih (tokF z st t)
    have h2 : (tokF z st t).1.length ≤ st.1.length + 2 := by
      unfold tokF
      simp only [List.length_append, List.length_singleton]
      split <;> (try simp only [List.length_append, List.length_singleton]) <;> omega
    simp only [List.foldl_cons, List.length_cons]
    omega
theorem len_msgF (st : List Step × Bool) (m : Msg) (h : m.2.length ≤ 20) : (msgF st m).1.length ≤ st.1.length + 41 := by
  have h1 := len_tokF m.1 m.2 st
  unfold msgF
  simp only
  split
  · simp only [List.length_append, List.length_singleton]; omega
  · omega
theorem len_msgFs (l : List Msg) (st : List Step × Bool) (h : ∀ m ∈ l, m.2.length ≤ 20) : (l.foldl msgF st).1.length ≤ st.1.length + 41 * l.length := by
  induction l generalizing st with
  | nil => exact Nat.le_refl _
  | cons m l ih =>
    have h1 := ih (msgF st m) fun x hx => h x (List.mem_cons_of_mem _ hx)
    have h2 := len_msgF st m (h m List.mem_cons_self)
    simp only [List.foldl_cons, List.length_cons]
    omega
theorem len_trF (x : Bool) (l : List Bool) (st : List Step) : (l.foldl (trF x) st).length ≤ st.length + l.length := by
  induction l generalizing st with
  | nil => exact Nat.le_refl _
  | cons z l ih =>
    have h1 := ih (trF x st z)
    have h2 : (trF x st z).length ≤ st.length + 1 := by
      unfold trF
      split <;> (try simp only [List.length_append, List.length_singleton]) <;> omega
    simp only [List.foldl_cons, List.length_cons]
    omega
theorem len_bef {b : Bef} (h : WB b) : (befSteps b).length ≤ 4 := by
  have h1 := h.o
  have h2 := h.a
  unfold befSteps
  rw [List.length_append, List.length_map, List.length_map]
  omega
theorem len_pre {b : Bef} {ms : List Msg} (h : WB b) (hW : WF ms) (i : Nat) : ((ms.take i).foldl msgF (befSteps b, false)).1.length ≤ 496 := by
  have h1 := len_msgFs (ms.take i) (befSteps b, false) fun m hm => (hW.toks m (List.mem_of_mem_take hm)).2
  have h2 := len_bef h
  have h3 : (ms.take i).length ≤ ms.length := by rw [List.length_take]; exact Nat.min_le_right _ _
  have h4 := hW.few
  have h5 : ((befSteps b, false) : List Step × Bool).1.length = (befSteps b).length := rfl
  omega
theorem trans_len' (ms : List Msg) : (trans ms).length ≤ 2 := by
  unfold trans
  split
  · rename_i h; rw [List.length_map, h]; omega
  · simp
theorem len_steps {b : Bef} {ms : List Msg} (h : WB b) (hW : WF ms) : (steps b ms).length ≤ 498 := by
  have h1 := len_pre h hW ms.length
  rw [List.take_length] at h1
  have h2 := len_trF (ms.foldl msgF (befSteps b, false)).2 (trans ms) (ms.foldl msgF (befSteps b, false)).1
  have h3 := trans_len' ms
  unfold steps
  simp only
  omega
end K38
end
section
/-! a calculus over the readings: immutable data I, what an expression comes to (J), what a block brings about (WR) -/
namespace K38
open PySem L2

/-! ### heaps that go on: everything is kept, but the list of two ints at m (if there is one) may hold other ints -/
abbrev Mo := Option Addr
def StL (o : HO) : Prop := ∃ i j : Int, o = .lst [.int i, .int j]
def Ek (m : Mo) (H H' : Hp) : Prop := ∀ a o, H a = some o → (m ≠ some a → H' a = some o) ∧ (m = some a → StL o → ∃ o', H' a = some o' ∧ StL o')
def Mok (m : Mo) (H : Hp) : Prop := ∀ a, m = some a → ∃ o, H a = some o ∧ StL o
theorem Ek.refl {m : Mo} (H : Hp) : Ek m H H := fun _ o h => ⟨fun _ => h, fun _ s => ⟨o, h, s⟩⟩
theorem Ek.trans {m : Mo} {H H1 H2 : Hp} (a : Ek m H H1) (b : Ek m H1 H2) : Ek m H H2 := fun x o h =>
  ⟨fun n => (b x o ((a x o h).1 n)).1 n, fun e s => by
    obtain ⟨o1, h1, s1⟩ := (a x o h).2 e s
    exact (b x o1 h1).2 e s1⟩
theorem Mok.go {m : Mo} {H H' : Hp} (k : Mok m H) (e : Ek m H H') : Mok m H' := fun a h => by
  obtain ⟨o, h1, s⟩ := k a h
  exact (e a o h1).2 h s
theorem Mok.none (H : Hp) : Mok Option.none H := fun _ h => by cases h
theorem Ek.back {m : Mo} {H H' : Hp} (k : Mok m H) (e : Ek m H H') {p : Addr} (h : H' p = Option.none) : H p = Option.none := by
  cases q : H p with
  | none => rfl
  | some o =>
    by_cases c : m = some p
    · obtain ⟨o1, h1, s1⟩ := k p c
      obtain ⟨o2, h2, _⟩ := (e p o1 h1).2 c s1
      rw [h] at h2; cases h2
    · rw [(e p o q).1 c] at h; cases h
theorem Mok.ne {m : Mo} {H : Hp} (k : Mok m H) {p : Addr} (h : H p = Option.none) : m ≠ some p := fun e => by
  obtain ⟨o, h1, _⟩ := k p e
  rw [h] at h1; cases h1
theorem Ek.new {m : Mo} {H : Hp} (k : Mok m H) {p : Addr} {o : HO} (h : H p = Option.none) : Ek m H (upd H p o) := fun a u e => by
  have n : a ≠ p := ne_of_none e h
  exact ⟨fun _ => by rw [upd_ne n]; exact e, fun _ s => ⟨u, by rw [upd_ne n]; exact e, s⟩⟩
/-- an object that H0 does not know is changed -/
theorem Ek.mut {m : Mo} {H0 H : Hp} (k : Mok m H0) (e : Ek m H0 H) {p : Addr} {o : HO} (h : H0 p = Option.none) : Ek m H0 (upd H p o) := fun a u ha => by
  have n : a ≠ p := ne_of_none ha h
  exact ⟨fun c => by rw [upd_ne n]; exact (e a u ha).1 c, fun c s => by
    obtain ⟨o', h1, s1⟩ := (e a u ha).2 c s
    exact ⟨o', by rw [upd_ne n]; exact h1, s1⟩⟩
theorem Ek.of_same {m : Mo} {H H' : Hp} (h : ∀ a o, H a = some o → H' a = some o) : Ek m H H' := fun a o e => ⟨fun _ => h a o e, fun _ s => ⟨o, h a o e, s⟩⟩

/-! ### immutable data -/
inductive I where
  | non | bl (b : Bool) | int (i : Int) | str (x : Str) | tup (xs : List I)
inductive It (K : PySem.W.Frag) (H : Hp) : V → I → Prop
  | non : It K H .non .non
  | bl (b : Bool) : It K H (.bl b) (.bl b)
  | int (i : Int) : It K H (.int i) (.int i)
  | str (x : Str) : It K H (.str x) (.str x)
  | tup {a : Addr} {xs : List V} {ds : List I} (h : SqT K H a xs) (n : xs.length = ds.length) (f : ∀ (i : Nat) v d, xs[i]? = some v → ds[i]? = some d → It K H v d) : It K H (.ref a) (.tup ds)
def ItL (K : PySem.W.Frag) (H : Hp) (xs : List V) (ds : List I) : Prop := xs.length = ds.length ∧ ∀ (i : Nat) v d, xs[i]? = some v → ds[i]? = some d → It K H v d
def Tx (K : PySem.W.Frag) (H H' : Hp) : Prop := ∀ a xs, SqT K H a xs → SqT K H' a xs
theorem Tx.refl {K : PySem.W.Frag} (H : Hp) : Tx K H H := fun _ _ h => h
theorem It.tx {K : PySem.W.Frag} {H H' : Hp} (t : Tx K H H') {v : V} {d : I} (h : It K H v d) : It K H' v d := by
  induction h with
  | non => exact .non
  | bl b => exact .bl b
  | int i => exact .int i
  | str x => exact .str x
  | tup h n _ ih => exact .tup (t _ _ h) n ih
theorem ItL.tx {K : PySem.W.Frag} {H H' : Hp} (t : Tx K H H') {xs : List V} {ds : List I} (h : ItL K H xs ds) : ItL K H' xs ds := ⟨h.1, fun i v d a b => (h.2 i v d a b).tx t⟩
theorem Ek.tx {K : PySem.W.Frag} {m : Mo} {H H' : Hp} (e : Ek m H H') (k : Mok m H) : Tx K H H' := fun a xs h => by
  rcases h with (h | ⟨o, h⟩) | h
  · refine .inl (.inl ((e a _ h).1 fun c => ?_))
    obtain ⟨o, h1, i, j, q⟩ := k a c
    rw [h, q] at h1; cases h1
  · refine .inl (.inr ⟨o, (e a _ h).1 fun c => ?_⟩)
    obtain ⟨o, h1, i, j, q⟩ := k a c
    rw [h, q] at h1; cases h1
  · exact .inr h
/-- what is not at l is kept -/
def Kp (l : Addr) (H H' : Hp) : Prop := ∀ a o, a ≠ l → H a = some o → H' a = some o
theorem Kp.tx {K : PySem.W.Frag} {l : Addr} {H H' : Hp} (e : Kp l H H') {o : HO} (hl : H l = some o) (hm : Mut (some o)) : Tx K H H' := fun a xs h => by
  rcases h with (h | ⟨u, h⟩) | h
  · refine .inl (.inl (e a _ (fun c => ?_) h))
    subst c; rw [hl] at h; cases h; exact hm
  · refine .inl (.inr ⟨u, e a _ (fun c => ?_) h⟩)
    subst c; rw [hl] at h; cases h; exact hm
  · exact .inr h
theorem Kp.upd {l : Addr} {H : Hp} {o : HO} : Kp l H (upd H l o) := fun a u n h => by rw [upd_ne n]; exact h
theorem ItL.nil {K : PySem.W.Frag} {H : Hp} : ItL K H [] [] := ⟨rfl, fun i v d a _ => by simp at a⟩
theorem ItL.cons {K : PySem.W.Frag} {H : Hp} {v : V} {d : I} {xs : List V} {ds : List I} (h : It K H v d) (t : ItL K H xs ds) : ItL K H (v :: xs) (d :: ds) := ⟨by simp [t.1], fun i => by
  cases i with
  | zero => intro v d a b; simp at a b; subst a b; exact h
  | succ i => intro v d a b; simp at a b; exact t.2 i v d a b⟩
theorem ItL.append {K : PySem.W.Frag} {H : Hp} {xs ys : List V} {ds es : List I} (h : ItL K H xs ds) (t : ItL K H ys es) : ItL K H (xs ++ ys) (ds ++ es) := ⟨by simp [h.1, t.1], fun i v d a b => by
  have e := h.1
  by_cases c : i < xs.length
  · rw [List.getElem?_append_left c] at a
    rw [List.getElem?_append_left (by omega)] at b
    exact h.2 i v d a b
  · rw [List.getElem?_append_right (by omega)] at a
    rw [List.getElem?_append_right (by omega)] at b
    rw [e] at a
    exact t.2 _ v d a b⟩
theorem ItL.snoc {K : PySem.W.Frag} {H : Hp} {v : V} {d : I} {xs : List V} {ds : List I} (t : ItL K H xs ds) (h : It K H v d) : ItL K H (xs ++ [v]) (ds ++ [d]) := t.append (ItL.cons h .nil)
theorem ItL.drop {K : PySem.W.Frag} {H : Hp} {xs : List V} {ds : List I} (h : ItL K H xs ds) (k : Nat) : ItL K H (xs.drop k) (ds.drop k) := ⟨by simp [h.1], fun i v d a b => by
  rw [List.getElem?_drop] at a b
  exact h.2 _ v d a b⟩
theorem ItL.take {K : PySem.W.Frag} {H : Hp} {xs : List V} {ds : List I} (h : ItL K H xs ds) (k : Nat) : ItL K H (xs.take k) (ds.take k) := ⟨by simp [h.1], fun i v d a b => by
  rw [List.getElem?_take] at a b
  split at a
  · rename_i c
    rw [if_pos c] at b
    exact h.2 _ v d a b
  · cases a⟩
theorem ItL.get {K : PySem.W.Frag} {H : Hp} {xs : List V} {ds : List I} (h : ItL K H xs ds) {i : Nat} {d : I} (hd : ds[i]? = some d) : ∃ v, xs[i]? = some v ∧ It K H v d := by
  have hi : i < ds.length := (List.getElem?_eq_some_iff.mp hd).1
  have hx : i < xs.length := by rw [h.1]; exact hi
  exact ⟨xs[i], List.getElem?_eq_getElem hx, h.2 i _ d (List.getElem?_eq_getElem hx) hd⟩
theorem ItL.get' {K : PySem.W.Frag} {H : Hp} {xs : List V} {ds : List I} (h : ItL K H xs ds) {i : Nat} {v : V} (hv : xs[i]? = some v) : ∃ d, ds[i]? = some d ∧ It K H v d := by
  have hi : i < xs.length := (List.getElem?_eq_some_iff.mp hv).1
  have hx : i < ds.length := by rw [← h.1]; exact hi
  exact ⟨ds[i], List.getElem?_eq_getElem hx, h.2 i v _ hv (List.getElem?_eq_getElem hx)⟩
theorem ItL.map {K : PySem.W.Frag} {H : Hp} {α : Type} (f : α → V) (g : α → I) (h : ∀ x, It K H (f x) (g x)) (xs : List α) : ItL K H (xs.map f) (xs.map g) := by
  induction xs with
  | nil => exact .nil
  | cons x r ih => exact .cons (h x) ih
theorem It.mk {K : PySem.W.Frag} {H : Hp} {a : Addr} {xs : List V} {ds : List I} (h : SqT K H a xs) (t : ItL K H xs ds) : It K H (.ref a) (.tup ds) := .tup h t.1 t.2
theorem It.un {K : PySem.W.Frag} {H : Hp} {v : V} {ds : List I} (h : It K H v (.tup ds)) : ∃ a xs, v = .ref a ∧ SqT K H a xs ∧ ItL K H xs ds := by
  cases h with
  | tup h n f => exact ⟨_, _, rfl, h, n, f⟩
theorem It.un_int {K : PySem.W.Frag} {H : Hp} {v : V} {i : Int} (h : It K H v (.int i)) : v = .int i := by cases h; rfl
theorem It.un_bl {K : PySem.W.Frag} {H : Hp} {v : V} {i : Bool} (h : It K H v (.bl i)) : v = .bl i := by cases h; rfl
theorem It.un_str {K : PySem.W.Frag} {H : Hp} {v : V} {i : Str} (h : It K H v (.str i)) : v = .str i := by cases h; rfl

/-! ### what a value may be: immutable data; a list (now; in the heap at the entry; new); a value as it is -/
inductive A where
  | i (d : I) | l (ds : List I) | b (ds : List I) | n (ds : List I) | r (v : V) | t (xs : List V) (ds : List I)
def Own (m : Mo) (K : PySem.W.Frag) (H : Hp) (a : Addr) (ds : List I) : Prop := m ≠ some a ∧ ∃ xs, H a = some (.lst xs) ∧ ItL K H xs ds
def Ax (K : PySem.W.Frag) (m : Mo) (H0 Hs H : Hp) (v : V) : A → Prop
  | .i d => It K H v d
  | .l ds => ∃ a, v = .ref a ∧ Own m K H a ds
  | .b ds => ∃ a, v = .ref a ∧ Own m K H0 a ds
  | .n ds => ∃ a, v = .ref a ∧ Hs a = none ∧ Own m K H a ds
  | .r w => v = w
  | .t xs ds => ∃ a, v = .ref a ∧ SqT K H a xs ∧ ItL K H xs ds
theorem Own.ek {m : Mo} {K : PySem.W.Frag} {H H' : Hp} {a : Addr} {ds : List I} (o : Own m K H a ds) (e : Ek m H H') (k : Mok m H) : Own m K H' a ds := by
  obtain ⟨n, xs, h, t⟩ := o
  exact ⟨n, xs, (e a _ h).1 n, t.tx (e.tx k)⟩
theorem Own.kp {m : Mo} {K : PySem.W.Frag} {H H' : Hp} {a l : Addr} {ds : List I} (o : Own m K H a ds) (e : Kp l H H') {u : HO} (hl : H l = some u) (hm : Mut (some u)) (n : a ≠ l) : Own m K H' a ds := by
  obtain ⟨q, xs, h, t⟩ := o
  exact ⟨q, xs, e a _ n h, t.tx (e.tx hl hm)⟩
theorem Ax.ek {K : PySem.W.Frag} {m : Mo} {H0 Hs H H' : Hp} {v : V} {a : A} (h : Ax K m H0 Hs H v a) (e : Ek m H H') (k : Mok m H) : Ax K m H0 Hs H' v a := by
  cases a with
  | i d => exact It.tx (e.tx k) h
  | l ds => obtain ⟨a, rfl, o⟩ := h; exact ⟨a, rfl, o.ek e k⟩
  | b ds => exact h
  | n ds => obtain ⟨a, rfl, f, o⟩ := h; exact ⟨a, rfl, f, o.ek e k⟩
  | r w => exact h
  | t xs ds => obtain ⟨a, rfl, s, t⟩ := h; exact ⟨a, rfl, e.tx k _ _ s, t.tx (e.tx k)⟩
theorem Ax.start {K : PySem.W.Frag} {m : Mo} {H0 Hs Hs' H : Hp} {v : V} {a : A} (h : Ax K m H0 Hs H v a) (e : Ek m Hs' Hs) (k : Mok m Hs') : Ax K m H0 Hs' H v a := by
  cases a with
  | i d => exact h
  | l ds => exact h
  | b ds => exact h
  | n ds => obtain ⟨a, rfl, f, o⟩ := h; exact ⟨a, rfl, e.back k f, o⟩
  | r w => exact h
  | t xs ds => exact h
/-- may stand in a slot -/
def A.keep : A → Bool
  | .n _ => false
  | _ => true
/-- may stand in a slot while a list is changed -/
def A.firm : A → Bool
  | .n _ => false
  | .l _ => false
  | _ => true
theorem Ax.any {K : PySem.W.Frag} {m : Mo} {H0 Hs Hs' H : Hp} {v : V} {a : A} (h : Ax K m H0 Hs H v a) (k : a.keep = true) : Ax K m H0 Hs' H v a := by
  cases a with
  | n ds => cases k
  | i d => exact h
  | l ds => exact h
  | b ds => exact h
  | r w => exact h
  | t xs ds => exact h
theorem Ax.kp {K : PySem.W.Frag} {m : Mo} {H0 Hs Hs' H H' : Hp} {v : V} {a : A} (h : Ax K m H0 Hs H v a) (t : Tx K H H') (k : a.firm = true) : Ax K m H0 Hs' H' v a := by
  cases a with
  | i d => exact It.tx t h
  | l ds => cases k
  | b ds => exact h
  | n ds => cases k
  | r w => exact h
  | t xs ds => obtain ⟨a, rfl, s, q⟩ := h; exact ⟨a, rfl, t _ _ s, q.tx t⟩
abbrev Ro := List (Option A)
abbrev Gh := List (V × A)
structure En (K : PySem.W.Frag) (m : Mo) (H0 H : Hp) (σ : L2.St) (ρ : Ro) (G : Gh) : Prop where
  len : σ.length = ρ.length
  at_ : ∀ (i : Nat) a, ρ[i]? = some (some a) → ∃ v, σ[i]? = some (some v) ∧ Ax K m H0 H H v a
  gh : ∀ p ∈ G, Ax K m H0 H H p.1 p.2
  kp : ∀ (i : Nat) a, ρ[i]? = some (some a) → a.keep = true
  gkp : ∀ p ∈ G, p.2.keep = true
section
variable {K : PySem.W.Frag} {m : Mo} {H0 H H' : Hp} {σ : L2.St} {ρ ρ' : Ro} {G : Gh} {v : V} {a : A}
theorem En.ek (E : En K m H0 H σ ρ G) (e : Ek m H H') (k : Mok m H) : En K m H0 H' σ ρ G :=
  ⟨E.len, fun i a h => by
    obtain ⟨v, h1, h2⟩ := E.at_ i a h
    exact ⟨v, h1, (h2.ek e k).any (E.kp i a h)⟩, fun p hp => ((E.gh p hp).ek e k).any (E.gkp p hp), E.kp, E.gkp⟩
def Ro.firm (ρ : Ro) : Bool := ρ.all fun x => match x with
  | some a => a.firm
  | none => true
def Gh.firm (G : Gh) : Bool := G.all fun p => p.2.firm
theorem Ro.firm_at {ρ : Ro} (h : Ro.firm ρ = true) {i : Nat} {a : A} (e : ρ[i]? = some (some a)) : a.firm = true :=
  List.all_eq_true.mp h _ (List.mem_of_getElem? e)
theorem En.tx (E : En K m H0 H σ ρ G) (t : Tx K H H') (hr : Ro.firm ρ = true) (hg : Gh.firm G = true) : En K m H0 H' σ ρ G :=
  ⟨E.len, fun i a h => by
    obtain ⟨v, h1, h2⟩ := E.at_ i a h
    exact ⟨v, h1, h2.kp t (Ro.firm_at hr h)⟩, fun p hp => (E.gh p hp).kp t (List.all_eq_true.mp hg _ hp), E.kp, E.gkp⟩
theorem En.set (E : En K m H0 H σ ρ G) (i : Nat) (h : Ax K m H0 H H v a) (k : a.keep = true) : En K m H0 H (σ.set i (some v)) (ρ.set i (some a)) G :=
  ⟨by simp [E.len], fun j b hj => by
    by_cases c : i = j
    · subst c
      by_cases hl : i < ρ.length
      · rw [List.getElem?_set_self hl] at hj
        cases hj
        exact ⟨v, List.getElem?_set_self (by rw [E.len]; exact hl), h⟩
      · rw [List.getElem?_eq_none (by simp; omega)] at hj; cases hj
    · rw [List.getElem?_set_ne c] at hj
      obtain ⟨w, h1, h2⟩ := E.at_ j b hj
      exact ⟨w, by rw [List.getElem?_set_ne c]; exact h1, h2⟩, E.gh, fun j b hj => by
    by_cases c : i = j
    · subst c
      by_cases hl : i < ρ.length
      · rw [List.getElem?_set_self hl] at hj
        cases hj
        exact k
      · rw [List.getElem?_eq_none (by simp; omega)] at hj; cases hj
    · rw [List.getElem?_set_ne c] at hj
      exact E.kp j b hj, E.gkp⟩
theorem En.ghost (E : En K m H0 H σ ρ G) (h : Ax K m H0 H H v a) (k : a.keep = true) : En K m H0 H σ ρ ((v, a) :: G) :=
  ⟨E.len, E.at_, fun p hp => by
    rcases List.mem_cons.mp hp with e | e
    · subst e; exact h
    · exact E.gh p e, E.kp, fun p hp => by
    rcases List.mem_cons.mp hp with e | e
    · subst e; exact k
    · exact E.gkp p e⟩
theorem En.unghost {p : V × A} (E : En K m H0 H σ ρ (p :: G)) : En K m H0 H σ ρ G :=
  ⟨E.len, E.at_, fun q hq => E.gh q (List.mem_cons_of_mem _ hq), E.kp, fun q hq => E.gkp q (List.mem_cons_of_mem _ hq)⟩
/-- fewer slots are told -/
inductive Sub : Ro → Ro → Prop
  | nil : Sub [] []
  | keep {a : Option A} {r s : Ro} : Sub r s → Sub (a :: r) (a :: s)
  | drop {a : Option A} {r s : Ro} : Sub r s → Sub (none :: r) (a :: s)
theorem Sub.refl : ∀ ρ : Ro, Sub ρ ρ
  | [] => .nil
  | _ :: r => .keep (Sub.refl r)
theorem Sub.len {ρ' ρ : Ro} (h : Sub ρ' ρ) : ρ'.length = ρ.length := by
  induction h with
  | nil => rfl
  | keep _ ih => simp [ih]
  | drop _ ih => simp [ih]
theorem Sub.at_ {ρ' ρ : Ro} (h : Sub ρ' ρ) : ∀ (i : Nat) a, ρ'[i]? = some (some a) → ρ[i]? = some (some a) := by
  induction h with
  | nil => intro i a e; simp at e
  | keep _ ih =>
    intro i a e
    cases i with
    | zero => simpa using e
    | succ i => simp at e ⊢; exact ih i a e
  | drop _ ih =>
    intro i a e
    cases i with
    | zero => simp at e
    | succ i => simp at e ⊢; exact ih i a e
theorem En.sub (E : En K m H0 H σ ρ G) (h : Sub ρ' ρ) : En K m H0 H σ ρ' G :=
  ⟨by rw [h.len]; exact E.len, fun i a e => E.at_ i a (h.at_ i a e), E.gh, fun i a e => E.kp i a (h.at_ i a e), E.gkp⟩
end

/-! ### readings, all at once -/
def rE (X : Cx) (e : Expr) : TE := fun σ H Q => ∃ t, PE X e t ∧ t σ H Q
theorem pe_r {X : Cx} {e : Expr} : PE X e (rE X e) := ⟨fun pins s σ H Q I ⟨t, h, q⟩ => h.run pins s σ H Q I q⟩
def rT (X : Cx) (e : Expr) : TT := fun σ H Q => ∃ t, PT X e t ∧ t σ H Q
theorem pt_r {X : Cx} {e : Expr} : PT X e (rT X e) := ⟨fun pins s σ H Q I ⟨t, h, q⟩ => h.run pins s σ H Q I q⟩
def rW (X : Cx) (e : Expr) : TT := fun σ H Q => ∃ t, PW X e t ∧ t σ H Q
theorem pw_r {X : Cx} {e : Expr} : PW X e (rW X e) := ⟨fun wh pins s σ H Q I ⟨t, h, q⟩ => h.run wh pins s σ H Q I q⟩
def rA (X : Cx) (es : List Expr) : TA := fun σ H Q => ∃ t, PA X es t ∧ t σ H Q
theorem pa_r {X : Cx} {es : List Expr} : PA X es (rA X es) := ⟨fun pos pins s σ H Q I ⟨t, h, q⟩ => h.run pos pins s σ H Q I q⟩
def rG (X : Cx) (tg : Expr) : TG := fun v σ H Q => ∃ g, PG X tg g ∧ g v σ H Q
theorem pg_r {X : Cx} {tg : Expr} : PG X tg (rG X tg) := ⟨fun pins s σ H v u Q I r ⟨g, h, q⟩ => h.run pins s σ H v u Q I r q⟩
def rGs (X : Cx) (ts : List Expr) : TGs := fun vs σ H Q => ∃ g, PGs X ts g ∧ g vs σ H Q
theorem pgs_r {X : Cx} {ts : List Expr} : PGs X ts (rGs X ts) := ⟨fun pins s σ H vs us Q I r ⟨g, h, q⟩ => h.run pins s σ H vs us Q I r q⟩
def WS (X : Cx) (sts : List Stmt) (D : Ends) (σ : L2.St) (H : Hp) : Prop := ∃ t, PSs X sts t ∧ t D σ H
theorem pss_r {X : Cx} {sts : List Stmt} : PSs X sts (fun D σ H => WS X sts D σ H) := ⟨fun pins s σ H D I ⟨t, h, q⟩ => h.run pins s σ H D I q⟩

section
variable (X : Cx) (m : Mo) (H0 H : Hp) (ρ : Ro) (G : Gh)
/-- what holds where an expression starts -/
structure At (σ : L2.St) (H1 : Hp) : Prop where
  ek : Ek m H H1
  ek0 : Ek m H0 H1
  mo : Mok m H1
  en : En X.K m H0 H1 σ ρ G
/-- the expression comes to a value told by Φ -/
def J (e : Expr) (Φ : A → Prop) : Prop := ∀ σ H1, At X m H0 H ρ G σ H1 → ∀ Q : VK, (∀ a v H2, Φ a → Ek m H1 H2 → Ax X.K m H0 H1 H2 v a → Q v H2) → rE X e σ H1 Q
def JT (e : Expr) (Φ : Bool → Prop) : Prop := ∀ σ H1, At X m H0 H ρ G σ H1 → ∀ Q : Bool → Hp → Prop, (∀ b H2, Φ b → Ek m H1 H2 → Q b H2) → rT X e σ H1 Q
def JW (e : Expr) (Φ : Bool → Prop) : Prop := ∀ σ H1, At X m H0 H ρ G σ H1 → ∀ Q : Bool → Hp → Prop, (∀ b H2, Φ b → Ek m H1 H2 → Q b H2) → rW X e σ H1 Q
inductive AxL (K : PySem.W.Frag) (m : Mo) (H0 Hs H : Hp) : List V → List A → Prop
  | nil : AxL K m H0 Hs H [] []
  | cons {v : V} {a : A} {vs : List V} {as : List A} : Ax K m H0 Hs H v a → AxL K m H0 Hs H vs as → AxL K m H0 Hs H (v :: vs) (a :: as)
def JA (es : List Expr) (Φ : List A → Prop) : Prop := ∀ σ H1, At X m H0 H ρ G σ H1 → ∀ Q : List V → Hp → Prop, (∀ as vs H2, Φ as → Ek m H1 H2 → AxL X.K m H0 H1 H2 vs as → Q vs H2) → rA X es σ H1 Q
/-- the block, from the slots ρ, brings about D -/
def WR (D : Ends) (sts : List Stmt) : Prop := ∀ σ H1, At X m H0 H ρ G σ H1 → WS X sts D σ H1
end
section
variable {X : Cx} {m : Mo} {H0 H : Hp} {ρ : Ro} {G : Gh} {σ : L2.St} {H1 H2 : Hp}
theorem At.go (h : At X m H0 H ρ G σ H1) (e : Ek m H1 H2) : At X m H0 H ρ G σ H2 := ⟨h.ek.trans e, h.ek0.trans e, h.mo.go e, h.en.ek e h.mo⟩
theorem At.here (h : At X m H0 H ρ G σ H1) : At X m H0 H1 ρ G σ H1 := ⟨.refl _, h.ek0, h.mo, h.en⟩
theorem AxL.ek {K : PySem.W.Frag} {Hs H' : Hp} {vs : List V} {as : List A} (h : AxL K m H0 Hs H vs as) (e : Ek m H H') (k : Mok m H) : AxL K m H0 Hs H' vs as := by
  induction h with
  | nil => exact .nil
  | cons h _ ih => exact .cons (h.ek e k) ih
theorem AxL.start {K : PySem.W.Frag} {Hs Hs' : Hp} {vs : List V} {as : List A} (h : AxL K m H0 Hs H vs as) (e : Ek m Hs' Hs) (k : Mok m Hs') : AxL K m H0 Hs' H vs as := by
  induction h with
  | nil => exact .nil
  | cons h _ ih => exact .cons (h.start e k) ih
end
end K38
end
section
/-! the rules for expressions -/
namespace K38
open PySem L2
section
variable {X : Cx} {m : Mo} {H0 H : Hp} {ρ : Ro} {G : Gh} {e a b c : Expr} {pos : Pos}
abbrev JI (X : Cx) (m : Mo) (H0 H : Hp) (ρ : Ro) (G : Gh) (e : Expr) (d : I) : Prop := J X m H0 H ρ G e (Eq (A.i d))
/-- some int -/
abbrev JN (X : Cx) (m : Mo) (H0 H : Hp) (ρ : Ro) (G : Gh) (e : Expr) (P : Int → Prop) : Prop := J X m H0 H ρ G e (fun x => ∃ i, P i ∧ A.i (.int i) = x)
theorem J.imp {Φ Ψ : A → Prop} (h : J X m H0 H ρ G e Φ) (k : ∀ a, Φ a → Ψ a) : J X m H0 H ρ G e Ψ := fun σ H1 at_ Q q => h σ H1 at_ Q fun a v H2 φ => q a v H2 (k a φ)
theorem J.at {Φ : A → Prop} (h : J X m H0 H ρ G e Φ) {H' : Hp} (k : Ek m H H') : J X m H0 H' ρ G e Φ := fun σ H1 at_ => h σ H1 ⟨k.trans at_.ek, at_.ek0, at_.mo, at_.en⟩
theorem JI.n {i : Int} {P : Int → Prop} (h : JI X m H0 H ρ G e (.int i)) (p : P i) : JN X m H0 H ρ G e P := h.imp fun a q => ⟨i, p, q⟩
theorem j_un {r : V → Hp → VK → Prop} {Φa Φ : A → Prop} (mk : ∀ ta, PE X a ta → PE X e (fun σ H Q => ta σ H fun x H1 => r x H1 Q)) (ha : J X m H0 H ρ G a Φa)
    (hr : ∀ σ Hs H1 x a1, At X m H0 H ρ G σ H1 → Ek m Hs H1 → Mok m Hs → Φa a1 → Ax X.K m H0 Hs H1 x a1 → ∀ Q : VK, (∀ a v H2, Φ a → Ek m H1 H2 → Ax X.K m H0 Hs H2 v a → Q v H2) → r x H1 Q) : J X m H0 H ρ G e Φ :=
  fun σ H1 at_ Q q => ⟨_, mk _ pe_r, ha σ H1 at_ _ fun a v H2 φ e ax => hr σ H1 H2 v a (at_.go e) e at_.mo φ ax Q fun a' v' H3 φ' e' ax' => q a' v' H3 φ' (e.trans e') ax'⟩
theorem j_bi {r : R2} {Φa Φb Φ : A → Prop} (mk : ∀ ta tb, PE X a ta → PE X b tb → PE X e (tOp r ta tb)) (ha : J X m H0 H ρ G a Φa) (hb : J X m H0 H ρ G b Φb)
    (hr : ∀ σ Hs H1 x y a1 a2, At X m H0 H ρ G σ H1 → Ek m Hs H1 → Mok m Hs → Φa a1 → Φb a2 → Ax X.K m H0 Hs H1 x a1 → Ax X.K m H0 Hs H1 y a2 → ∀ Q : VK, (∀ a v H2, Φ a → Ek m H1 H2 → Ax X.K m H0 Hs H2 v a → Q v H2) → r x y H1 Q) : J X m H0 H ρ G e Φ :=
  fun σ H1 at_ Q q => ⟨_, mk _ _ pe_r pe_r, ha σ H1 at_ _ fun a1 x H2 φ e ax => hb σ H2 (at_.go e) _ fun a2 y H3 φ' e' ay =>
    hr σ H1 H3 x y a1 a2 ((at_.go e).go e') (e.trans e') at_.mo φ φ' (ax.ek e' (at_.mo.go e)) (ay.start e at_.mo) Q fun a' v' H4 φ2 e2 ax2 => q a' v' H4 φ2 ((e.trans e').trans e2) ax2⟩

/-! ### names, constants -/
theorem j_v (i : Nat) {x : Str} {a : A} (hr : ρ[i]? = some (some a) := by rfl) (hN : X.N[i]? = some x := by rfl) (hv : Vis X.env.scope x := by first | exact Or.inl rfl | exact Or.inr (Or.inl rfl) | exact Or.inr (Or.inr rfl))
    (hd : (x == ("__debug__" : Str)) = false := by decide) (hcd : (x == ("__classdict__" : Str)) = false := by decide) : J X m H0 H ρ G (.Name x pos) (Eq a) := fun σ H1 at_ Q q => by
  obtain ⟨v, h1, h2⟩ := at_.en.at_ i a hr
  exact ⟨_, pe_var hN hv hd hcd, v, h1, q a v H1 rfl (.refl _) h2⟩
theorem j_const {t : V} {d : I} (h : PE X e (tC t)) (k : ∀ H, It X.K H t d) : JI X m H0 H ρ G e d := fun σ H1 at_ Q q => ⟨_, h, q (.i d) t H1 rfl (.refl _) (k H1)⟩
theorem j_int {i : Int} {j} : JI X m H0 H ρ G (.Constant (.int i) j pos) (.int i) := j_const pe_int fun _ => .int i
theorem j_str {i : Str} {j} : JI X m H0 H ρ G (.Constant (.str i) j pos) (.str i) := j_const pe_str fun _ => .str i
theorem j_bl {i : Bool} {j} : JI X m H0 H ρ G (.Constant (.bool i) j pos) (.bl i) := j_const pe_bl fun _ => .bl i
theorem j_gstr {x s : Str} {t : Tok} (hm : X.mg x = some (.str s t)) (hg : Gl X x := by rfl) (hd : (x == ("__debug__" : Str)) = false := by decide) : JI X m H0 H ρ G (.Name x pos) (.str s) := j_const (t := .str s) (pe_glob hg hm ⟨t, rfl⟩ hd) fun _ => .str s
theorem j_gtup {x : Str} {p : Addr} {xs : List V} {ds : List I} (hm : X.mg x = some (.ref p)) (hs : ∀ H, SqT X.K H p xs) (ht : ∀ H, ItL X.K H xs ds) (hg : Gl X x := by rfl) (hd : (x == ("__debug__" : Str)) = false := by decide) : JI X m H0 H ρ G (.Name x pos) (.tup ds) :=
  j_const (t := .ref p) (pe_glob hg hm rfl hd) fun H => .mk (hs H) (ht H)
theorem j_own {p : Addr} {ds : List I} (h : J X m H0 H ρ G e (Eq (.r (.ref p)))) (o : Own m X.K H p ds) (k : Mok m H) : J X m H0 H ρ G e (Eq (.l ds)) := fun σ H1 at_ Q q => h σ H1 at_ Q fun a v H2 φ e ax => by
  subst φ
  exact q (.l ds) v H2 rfl e ⟨p, ax, o.ek (at_.ek.trans e) k⟩

/-! ### ints -/
theorem un_i {K : PySem.W.Frag} {Hs : Hp} {x : V} {i : Int} (h : Ax K m H0 Hs H x (.i (.int i))) : x = .int i := It.un_int h
theorem un_s {K : PySem.W.Frag} {Hs : Hp} {x : V} {i : Str} (h : Ax K m H0 Hs H x (.i (.str i))) : x = .str i := It.un_str h
theorem un_b {K : PySem.W.Frag} {Hs : Hp} {x : V} {i : Bool} (h : Ax K m H0 Hs H x (.i (.bl i))) : x = .bl i := It.un_bl h
theorem jn_op {op : Operator} {C : Int → Int → Prop} {g : Int → Int → Int} {P P1 P2 : Int → Prop} (ho : OpR X (binaryOp op) (rI C fun i j => .int (g i j))) (ha : JN X m H0 H ρ G a P1) (hb : JN X m H0 H ρ G b P2) (hC : ∀ i j, P1 i → P2 j → C i j ∧ P (g i j)) :
    JN X m H0 H ρ G (.BinOp a op b pos) P := j_bi (fun _ _ => pe_op ho) ha hb fun σ Hs H1 x y a1 a2 at_ e k ⟨i, p, u⟩ ⟨j, p', u'⟩ ax ay Q q => by
  subst u u'
  obtain ⟨c, pg⟩ := hC i j p p'
  exact ⟨i, j, un_i ax, un_i ay, c, q _ _ H1 ⟨_, pg, rfl⟩ (.refl _) (It.int _)⟩
theorem rI_of {op : Operator} {g : Int → Int → V} (ho : OpR X (binaryOp op) (rI0 g)) : OpR X (binaryOp op) (rI (fun _ _ => True) g) := fun pins s σ H x y v u Q I rx ry ⟨i, j, h1, h2, _, q⟩ => ho pins s σ H x y v u Q I rx ry ⟨i, j, h1, h2, q⟩
theorem j_op {op : Operator} {C : Int → Int → Prop} {g : Int → Int → Int} {i j : Int} (ho : OpR X (binaryOp op) (rI C fun i j => .int (g i j))) (ha : JI X m H0 H ρ G a (.int i)) (hb : JI X m H0 H ρ G b (.int j)) (hC : C i j) : JI X m H0 H ρ G (.BinOp a op b pos) (.int (g i j)) :=
  (jn_op (P := fun k => g i j = k) ho (ha.n (P := fun k => i = k) rfl) (hb.n (P := fun k => j = k) rfl) fun _ _ h h' => by subst h h'; exact ⟨hC, rfl⟩).imp fun _ ⟨_, h, q⟩ => by subst h; exact q
theorem j_add {i j : Int} (ha : JI X m H0 H ρ G a (.int i)) (hb : JI X m H0 H ρ G b (.int j)) : JI X m H0 H ρ G (.BinOp a .Add b pos) (.int (i + j)) := j_op (rI_of op_add) ha hb trivial
theorem j_sub {i j : Int} (ha : JI X m H0 H ρ G a (.int i)) (hb : JI X m H0 H ρ G b (.int j)) : JI X m H0 H ρ G (.BinOp a .Sub b pos) (.int (i - j)) := j_op (rI_of op_sub) ha hb trivial
theorem j_mul {i j : Int} (ha : JI X m H0 H ρ G a (.int i)) (hb : JI X m H0 H ρ G b (.int j)) (hC : CMul i j) : JI X m H0 H ρ G (.BinOp a .Mult b pos) (.int (i * j)) := j_op op_mul ha hb hC
theorem j_mod {i j : Int} (ha : JI X m H0 H ρ G a (.int i)) (hb : JI X m H0 H ρ G b (.int j)) (hC : 0 < j) : JI X m H0 H ρ G (.BinOp a .Mod b pos) (.int (i % j)) := j_op op_mod ha hb hC
theorem j_fdiv {i j : Int} (ha : JI X m H0 H ρ G a (.int i)) (hb : JI X m H0 H ρ G b (.int j)) (hC : CDiv i j) : JI X m H0 H ρ G (.BinOp a .FloorDiv b pos) (.int (i / j)) := j_op op_fdiv ha hb hC
theorem jn_add {P P1 P2 : Int → Prop} (ha : JN X m H0 H ρ G a P1) (hb : JN X m H0 H ρ G b P2) (h : ∀ i j, P1 i → P2 j → P (i + j)) : JN X m H0 H ρ G (.BinOp a .Add b pos) P := jn_op (rI_of op_add) ha hb fun i j p q => ⟨trivial, h i j p q⟩
theorem jn_mod {P P1 P2 : Int → Prop} (ha : JN X m H0 H ρ G a P1) (hb : JN X m H0 H ρ G b P2) (h : ∀ i j, P1 i → P2 j → 0 < j ∧ P (i % j)) : JN X m H0 H ρ G (.BinOp a .Mod b pos) P := jn_op op_mod ha hb fun i j p q => h i j p q
theorem jn_fdiv {P P1 P2 : Int → Prop} (ha : JN X m H0 H ρ G a P1) (hb : JN X m H0 H ρ G b P2) (h : ∀ i j, P1 i → P2 j → CDiv i j ∧ P (i / j)) : JN X m H0 H ρ G (.BinOp a .FloorDiv b pos) P := jn_op op_fdiv ha hb fun i j p q => h i j p q
theorem jn_mul {P P1 P2 : Int → Prop} (ha : JN X m H0 H ρ G a P1) (hb : JN X m H0 H ρ G b P2) (h : ∀ i j, P1 i → P2 j → CMul i j ∧ P (i * j)) : JN X m H0 H ρ G (.BinOp a .Mult b pos) P := jn_op op_mul ha hb fun i j p q => h i j p q
/-! ### comparisons: as a value (.j), as a test (.t) -/
def Cp (X : Cx) (m : Mo) (H0 H : Hp) (ρ : Ro) (G : Gh) (op : CmpOp) (a b : Expr) (Φ : Bool → Prop) : Prop := ∃ r, OpR X (compareOp op) r ∧ behindInMarks op b = false ∧
  ∀ σ H1, At X m H0 H ρ G σ H1 → ∀ Q : VK, (∀ p H2, Φ p → Ek m H1 H2 → Q (.bl p) H2) → tOp r (rE X a) (rE X b) σ H1 Q
theorem cp_mk {op : CmpOp} {r : R2} {Φa Φb : A → Prop} {Φ : Bool → Prop} (ho : OpR X (compareOp op) r) (hm : behindInMarks op b = false) (ha : J X m H0 H ρ G a Φa) (hb : J X m H0 H ρ G b Φb)
    (hr : ∀ σ Hs H1 x y a1 a2, At X m H0 H ρ G σ H1 → Ek m Hs H1 → Mok m Hs → Φa a1 → Φb a2 → Ax X.K m H0 Hs H1 x a1 → Ax X.K m H0 Hs H1 y a2 → ∀ Q : VK, (∀ p H2, Φ p → Ek m H1 H2 → Q (.bl p) H2) → r x y H1 Q) : Cp X m H0 H ρ G op a b Φ :=
  ⟨r, ho, hm, fun σ H1 at_ Q q => ha σ H1 at_ _ fun a1 x H2 φ e ax => hb σ H2 (at_.go e) _ fun a2 y H3 φ' e' ay =>
    hr σ H1 H3 x y a1 a2 ((at_.go e).go e') (e.trans e') at_.mo φ φ' (ax.ek e' (at_.mo.go e)) (ay.start e at_.mo) Q fun p H4 φ2 e2 => q p H4 φ2 ((e.trans e').trans e2)⟩
theorem Cp.j {op : CmpOp} {p : Bool} (h : Cp X m H0 H ρ G op a b (Eq p)) : JI X m H0 H ρ G (.Compare a [op] [b] pos) (.bl p) := by
  obtain ⟨r, ho, hm, hr⟩ := h
  exact fun σ H1 at_ Q q => ⟨_, pe_cmpR ho pe_r pe_r hm, hr σ H1 at_ Q fun p' H2 φ e => by subst φ; exact q _ _ H2 rfl e (It.bl _)⟩
theorem Cp.t {op : CmpOp} {Φ : Bool → Prop} (h : Cp X m H0 H ρ G op a b Φ) : JT X m H0 H ρ G (.Compare a [op] [b] pos) Φ := by
  obtain ⟨r, ho, hm, hr⟩ := h
  exact fun σ H1 at_ Q q => ⟨_, pt_cmpR ho pe_r pe_r hm, hr σ H1 at_ _ fun p' H2 φ e => ⟨p', rfl, q p' H2 φ e⟩⟩
theorem Cp.is {op : CmpOp} {p q : Bool} (h : Cp X m H0 H ρ G op a b (Eq p)) (e : p = q) : Cp X m H0 H ρ G op a b (Eq q) := by rw [← e]; exact h
theorem c_cmp {op : CmpOp} {g : Int → Int → Bool} {i j : Int} (ho : OpR X (compareOp op) (rI0 fun i j => .bl (g i j))) (hm : behindInMarks op b = false) (ha : JI X m H0 H ρ G a (.int i)) (hb : JI X m H0 H ρ G b (.int j)) : Cp X m H0 H ρ G op a b (Eq (g i j)) :=
  cp_mk ho hm ha hb fun σ Hs H1 x y a1 a2 at_ e k u u' ax ay Q q => by
  subst u u'
  exact ⟨i, j, un_i ax, un_i ay, q _ H1 rfl (.refl _)⟩
theorem c_lt {i j : Int} (ha : JI X m H0 H ρ G a (.int i)) (hb : JI X m H0 H ρ G b (.int j)) : Cp X m H0 H ρ G .Lt a b (Eq (decide (i < j))) := c_cmp op_lt (nomark _) ha hb
theorem c_le {i j : Int} (ha : JI X m H0 H ρ G a (.int i)) (hb : JI X m H0 H ρ G b (.int j)) : Cp X m H0 H ρ G .LtE a b (Eq (decide (i ≤ j))) := c_cmp op_le (nomark _) ha hb
theorem c_gt {i j : Int} (ha : JI X m H0 H ρ G a (.int i)) (hb : JI X m H0 H ρ G b (.int j)) : Cp X m H0 H ρ G .Gt a b (Eq (decide (j < i))) := c_cmp op_gt (nomark _) ha hb
theorem c_ge {i j : Int} (ha : JI X m H0 H ρ G a (.int i)) (hb : JI X m H0 H ρ G b (.int j)) : Cp X m H0 H ρ G .GtE a b (Eq (decide (j ≤ i))) := c_cmp op_ge (nomark _) ha hb
/-- == and != of two ints, two texts, two truth values -/
inductive Sc : I → V → Prop
  | bl (b : Bool) : Sc (.bl b) (.bl b)
  | int (i : Int) : Sc (.int i) (.int i)
  | str (x : Str) : Sc (.str x) (.str x)
theorem Sc.un {K : PySem.W.Frag} {Hs : Hp} {d : I} {w x : V} (s : Sc d w) (h : Ax K m H0 Hs H x (.i d)) : x = w := by
  cases s with
  | bl b => exact It.un_bl h
  | int i => exact It.un_int h
  | str s => exact It.un_str h
theorem c_eqs {d d' : I} {x y : V} (sx : Sc d x) (sy : Sc d' y) (hs : scal x y = true) (ha : JI X m H0 H ρ G a d) (hb : JI X m H0 H ρ G b d') : Cp X m H0 H ρ G .Eq a b (Eq (decide (x = y))) :=
  cp_mk op_eq (nomark _) ha hb fun σ Hs H1 x y a1 a2 at_ e k u u' ax ay Q q => by
  subst u u'
  have e1 := sx.un ax
  have e2 := sy.un ay
  subst e1 e2
  exact ⟨hs, q _ H1 rfl (.refl _)⟩
theorem c_nes {d d' : I} {x y : V} (sx : Sc d x) (sy : Sc d' y) (hs : scal x y = true) (ha : JI X m H0 H ρ G a d) (hb : JI X m H0 H ρ G b d') : Cp X m H0 H ρ G .NotEq a b (Eq (!decide (x = y))) :=
  cp_mk op_ne (nomark _) ha hb fun σ Hs H1 x y a1 a2 at_ e k u u' ax ay Q q => by
  subst u u'
  have e1 := sx.un ax
  have e2 := sy.un ay
  subst e1 e2
  exact ⟨hs, q _ H1 rfl (.refl _)⟩
theorem JI.is {d d' : I} (h : JI X m H0 H ρ G e d) (q : d = d') : JI X m H0 H ρ G e d' := by rw [← q]; exact h
theorem c_eqI {i j : Int} (ha : JI X m H0 H ρ G a (.int i)) (hb : JI X m H0 H ρ G b (.int j)) : Cp X m H0 H ρ G .Eq a b (Eq (decide (i = j))) := (c_eqs (.int i) (.int j) rfl ha hb).is (by simp)
theorem c_eqS {i j : Str} (ha : JI X m H0 H ρ G a (.str i)) (hb : JI X m H0 H ρ G b (.str j)) : Cp X m H0 H ρ G .Eq a b (Eq (decide (i = j))) := (c_eqs (.str i) (.str j) rfl ha hb).is (by simp)
theorem c_eqB {i j : Bool} (ha : JI X m H0 H ρ G a (.bl i)) (hb : JI X m H0 H ρ G b (.bl j)) : Cp X m H0 H ρ G .Eq a b (Eq (decide (i = j))) := (c_eqs (.bl i) (.bl j) rfl ha hb).is (by simp)
theorem c_neI {i j : Int} (ha : JI X m H0 H ρ G a (.int i)) (hb : JI X m H0 H ρ G b (.int j)) : Cp X m H0 H ρ G .NotEq a b (Eq (!decide (i = j))) := (c_nes (.int i) (.int j) rfl ha hb).is (by simp)
theorem c_neB {i j : Bool} (ha : JI X m H0 H ρ G a (.bl i)) (hb : JI X m H0 H ρ G b (.bl j)) : Cp X m H0 H ρ G .NotEq a b (Eq (!decide (i = j))) := (c_nes (.bl i) (.bl j) rfl ha hb).is (by simp)
theorem cn_eq {P : Int → Prop} {j : Int} (ha : JN X m H0 H ρ G a P) (hb : JI X m H0 H ρ G b (.int j)) : Cp X m H0 H ρ G .Eq a b (fun _ => True) :=
  cp_mk op_eq (nomark _) ha hb fun σ Hs H1 x y a1 a2 at_ e k ⟨i, p, u⟩ u' ax ay Q q => by
  subst u u'
  rw [un_i ax, un_i ay]
  exact ⟨rfl, q _ H1 trivial (.refl _)⟩
/-! ### texts -/
theorem j_adds {i j : Str} (ha : JI X m H0 H ρ G a (.str i)) (hb : JI X m H0 H ρ G b (.str j)) (hl : i.length + j.length ≤ 100) : JI X m H0 H ρ G (.BinOp a .Add b pos) (.str (i ++ j)) :=
  j_bi (fun _ _ => pe_op op_add_str) ha hb fun σ Hs H1 x y a1 a2 at_ e k u u' ax ay Q q => by
  subst u u'
  exact ⟨i, j, un_s ax, un_s ay, Nat.le_trans hl (by decide), q _ _ H1 rfl (.refl _) (It.str _)⟩

/-! ### arguments, displays -/
theorem ja_nil : JA X m H0 H ρ G [] (Eq []) := fun σ H1 at_ Q q => ⟨_, pa_nil, q [] [] H1 rfl (.refl _) .nil⟩
theorem ja_cons' {es : List Expr} {Φ : A → Prop} {Φs : List A → Prop} (h : J X m H0 H ρ G e Φ) (t : JA X m H0 H ρ G es Φs) (hs : starEach (e :: es) X.env = (false, eval e X.env) :: starEach es X.env := by rfl) : JA X m H0 H ρ G (e :: es) (fun as => ∃ a r, Φ a ∧ Φs r ∧ a :: r = as) :=
  fun σ H1 at_ Q q => ⟨_, pa_cons pe_r pa_r hs, h σ H1 at_ _ fun a v H2 φ e ax => t σ H2 (at_.go e) _ fun as vs H3 φ' e' ay => q (a :: as) (v :: vs) H3 ⟨a, as, φ, φ', rfl⟩ (e.trans e') (.cons (ax.ek e' (at_.mo.go e)) (ay.start e at_.mo))⟩
theorem ja_cons {es : List Expr} {a : A} {as : List A} (h : J X m H0 H ρ G e (Eq a)) (t : JA X m H0 H ρ G es (Eq as)) (hs : starEach (e :: es) X.env = (false, eval e X.env) :: starEach es X.env := by rfl) : JA X m H0 H ρ G (e :: es) (Eq (a :: as)) :=
  fun σ H1 at_ Q q => ja_cons' h t hs σ H1 at_ Q fun as' vs H2 ⟨_, _, h1, h2, h3⟩ => by subst h1 h2; exact q as' vs H2 h3
theorem axl_i {K : PySem.W.Frag} {Hs : Hp} : ∀ {ds : List I} {vs : List V}, AxL K m H0 Hs H vs (ds.map A.i) → ItL K H vs ds
  | [], _, h => by cases h; exact .nil
  | d :: ds, _, h => by
    cases h with
    | cons h t => exact .cons h (axl_i t)
theorem j_tup' {es : List Expr} {x1} {Φs : List A → Prop} {R : List I → Prop} (h : JA X m H0 H ρ G es Φs) (hk : ∀ as, Φs as → ∃ ds : List I, R ds ∧ ds.map A.i = as) (hl : es.length ≤ 1000 := by decide) (hv : ∀ ds, R ds → ds.length ≤ 1000) : J X m H0 H ρ G (.Tuple es x1 pos) (fun x => ∃ ds, R ds ∧ A.i (.tup ds) = x) :=
  fun σ H1 at_ Q q => ⟨_, pe_tup pa_r, h σ H1 at_ _ fun as vs H2 φ e ax => by
    obtain ⟨ds, r, rfl⟩ := hk as φ
    have t := axl_i ax
    have k2 := at_.mo.go e
    refine ⟨by rw [t.1]; exact Nat.le_trans (hv ds r) (by decide), fun p hp => ?_⟩
    exact q _ _ _ ⟨ds, r, rfl⟩ (e.trans (Ek.new k2 hp)) (It.mk (SqT.of upd_same) (t.tx ((Ek.new k2 hp).tx k2)))⟩
theorem j_tup {es : List Expr} {x1} {ds : List I} (h : JA X m H0 H ρ G es (Eq (ds.map A.i))) (hl : ds.length ≤ 1000 := by exact Nat.le_of_ble_eq_true rfl) : JI X m H0 H ρ G (.Tuple es x1 pos) (.tup ds) :=
  fun σ H1 at_ Q q => ⟨_, pe_tup pa_r, h σ H1 at_ _ fun as vs H2 φ e ax => by
    subst φ
    have t := axl_i ax
    have k2 := at_.mo.go e
    refine ⟨by rw [t.1]; exact Nat.le_trans hl (by decide), fun p hp => ?_⟩
    exact q _ _ _ rfl (e.trans (Ek.new k2 hp)) (It.mk (SqT.of upd_same) (t.tx ((Ek.new k2 hp).tx k2)))⟩
theorem j_lst {es : List Expr} {ds : List I} (h : JA X m H0 H ρ G es (Eq (ds.map A.i))) (hl : ds.length ≤ 1000 := by exact Nat.le_of_ble_eq_true rfl) : J X m H0 H ρ G (.List es pos) (Eq (.n ds)) :=
  fun σ H1 at_ Q q => ⟨_, pe_lst pa_r, h σ H1 at_ _ fun as vs H2 φ e ax => by
    subst φ
    have t := axl_i ax
    have k2 := at_.mo.go e
    refine ⟨by rw [t.1]; exact Nat.le_trans hl (by decide), fun p hp => ?_⟩
    exact q _ _ _ rfl (e.trans (Ek.new k2 hp)) ⟨p, rfl, e.back at_.mo hp, k2.ne hp, vs, upd_same, t.tx ((Ek.new k2 hp).tx k2)⟩⟩
end
end K38
end
section
/-! the rules for expressions, on: in, subscripts, slices, len, and, or, not, calls -/
namespace K38
open PySem L2
section
variable {X : Cx} {m : Mo} {H0 H : Hp} {ρ : Ro} {G : Gh} {e a b c : Expr} {pos : Pos}
/-! ### lists as values -/
inductive Lk (ds : List I) : A → Prop
  | l : Lk ds (.l ds)
  | b : Lk ds (.b ds)
  | n : Lk ds (.n ds)
theorem Lk.own {ds : List I} {K : PySem.W.Frag} {Hs H1 : Hp} {v : V} {a : A} (h : Lk ds a) (ax : Ax K m H0 Hs H1 v a) (e : Ek m H0 H1) (k : Mok m H0) : ∃ p, v = .ref p ∧ Own m K H1 p ds := by
  cases h with
  | l => exact ax
  | b => obtain ⟨p, rfl, o⟩ := ax; exact ⟨p, rfl, o.ek e k⟩
  | n => obtain ⟨p, rfl, _, o⟩ := ax; exact ⟨p, rfl, o⟩
/-- a list or a tuple of these -/
inductive Sk (ds : List I) : A → Prop
  | l : Sk ds (.l ds)
  | b : Sk ds (.b ds)
  | n : Sk ds (.n ds)
  | t : Sk ds (.i (.tup ds))
theorem Sk.own {ds : List I} {K : PySem.W.Frag} {Hs H1 : Hp} {v : V} {a : A} (h : Sk ds a) (ax : Ax K m H0 Hs H1 v a) (e : Ek m H0 H1) (k : Mok m H0) : ∃ p xs, v = .ref p ∧ (SqL K H1 p xs ∨ SqT K H1 p xs) ∧ ItL K H1 xs ds := by
  cases h with
  | l => obtain ⟨p, rfl, n, xs, h, t⟩ := ax; exact ⟨p, xs, rfl, .inl (SqL.of h), t⟩
  | b => obtain ⟨p, rfl, o⟩ := ax; obtain ⟨n, xs, h, t⟩ := o.ek e k; exact ⟨p, xs, rfl, .inl (SqL.of h), t⟩
  | n => obtain ⟨p, rfl, _, n, xs, h, t⟩ := ax; exact ⟨p, xs, rfl, .inl (SqL.of h), t⟩
  | t => obtain ⟨p, xs, rfl, h, t⟩ := It.un ax; exact ⟨p, xs, rfl, .inr h, t⟩
theorem J.sk {ds : List I} {x : A} (h : J X m H0 H ρ G e (Eq x)) (s : Sk ds x) : J X m H0 H ρ G e (Sk ds) := h.imp fun a q => by subst q; exact s
theorem j_n2l {ds : List I} (h : J X m H0 H ρ G e (Eq (.n ds))) : J X m H0 H ρ G e (Eq (.l ds)) := fun σ H1 at_ Q q => h σ H1 at_ Q fun a v H2 φ e ax => by
  subst φ
  obtain ⟨p, rfl, _, o⟩ := ax
  exact q (.l ds) _ H2 rfl e ⟨p, rfl, o⟩
theorem j_b2l {ds : List I} (k : Mok m H0) (h : J X m H0 H ρ G e (Eq (.b ds))) : J X m H0 H ρ G e (Eq (.l ds)) := fun σ H1 at_ Q q => h σ H1 at_ Q fun a v H2 φ e ax => by
  subst φ
  obtain ⟨p, rfl, o⟩ := ax
  exact q (.l ds) _ H2 rfl e ⟨p, rfl, o.ek (at_.ek0.trans e) k⟩
/-! ### x in xs, flat -/
def I.flat : I → Bool
  | .tup _ => false
  | _ => true
/-- the value of a flat datum -/
def I.v : I → V
  | .non => .non
  | .bl b => .bl b
  | .int i => .int i
  | .str s => .str s
  | .tup _ => .non
theorem It.v {K : PySem.W.Frag} {v : V} {d : I} (h : It K H v d) (f : d.flat = true) : v = d.v := by
  cases h with
  | tup _ _ _ => cases f
  | _ => rfl
theorem ItL.v {K : PySem.W.Frag} : ∀ {ds : List I} {xs : List V}, ItL K H xs ds → (ds.all I.flat = true) → xs = ds.map I.v
  | [], xs, h, _ => by have := h.1; simpa using this
  | d :: ds, [], h, _ => by have := h.1; simp at this
  | d :: ds, x :: xs, h, f => by
    rw [List.all_cons, Bool.and_eq_true] at f
    have h1 : x = d.v := (h.2 0 x d rfl rfl).v f.1
    have h2 : ItL K H xs ds := ⟨by have := h.1; simpa using this, fun i v e a b => h.2 (i + 1) v e a b⟩
    rw [List.map_cons, ← ItL.v h2 f.2, h1]
theorem flat_v {d : I} (f : d.flat = true) : flatV d.v = true := by cases d <;> first | rfl | cases f
theorem flat_vs {ds : List I} (f : ds.all I.flat = true) : (ds.map I.v).all flatV = true := by
  induction ds with
  | nil => rfl
  | cons d ds ih =>
    rw [List.all_cons, Bool.and_eq_true] at f
    rw [List.map_cons, List.all_cons, flat_v f.1, ih f.2]; rfl
theorem inV_str (x : Str) (xs : List Str) : inV (.str x) ((xs.map I.str).map I.v) = decide (x ∈ xs) := by
  induction xs with
  | nil => rfl
  | cons y ys ih =>
    have e : inV (.str x) (((y :: ys).map I.str).map I.v) = ((y == x) || inV (.str x) ((ys.map I.str).map I.v)) := rfl
    rw [e, ih]
    by_cases c : y = x
    · subst c; simp
    · have : ¬ x = y := fun q => c q.symm
      rw [beq_eq_false_iff_ne.mpr c]; simp [this]
theorem inV_int (x : Int) (xs : List Int) : inV (.int x) ((xs.map I.int).map I.v) = decide (x ∈ xs) := by
  induction xs with
  | nil => rfl
  | cons y ys ih =>
    have e : inV (.int x) (((y :: ys).map I.int).map I.v) = ((y == x) || inV (.int x) ((ys.map I.int).map I.v)) := rfl
    rw [e, ih]
    by_cases c : y = x
    · subst c; simp
    · have : ¬ x = y := fun q => c q.symm
      rw [beq_eq_false_iff_ne.mpr c]; simp [this]
theorem all_str (xs : List Str) : (xs.map I.str).all I.flat = true := by
  induction xs with
  | nil => rfl
  | cons x r ih => rw [List.map_cons, List.all_cons, ih]; rfl
theorem all_int (xs : List Int) : (xs.map I.int).all I.flat = true := by
  induction xs with
  | nil => rfl
  | cons x r ih => rw [List.map_cons, List.all_cons, ih]; rfl
theorem c_inF {neg : Bool} {op : CmpOp} {d : I} {ds : List I} (k : Mok m H0) (ho : OpR X (compareOp op) (rIn X.K neg)) (hm : behindInMarks op b = false) (fd : d.flat = true) (fs : ds.all I.flat = true)
    (ha : JI X m H0 H ρ G a d) (hb : J X m H0 H ρ G b (Sk ds)) : Cp X m H0 H ρ G op a b (Eq (if neg then !inV d.v (ds.map I.v) else inV d.v (ds.map I.v))) :=
  cp_mk ho hm ha hb fun σ Hs H1 x y a1 a2 at_ e k0 u u' ax ay Q q => by
  subst u
  obtain ⟨p, xs, rfl, hs, t⟩ := u'.own ay at_.ek0 k
  have e1 : x = d.v := It.v ax fd
  have e2 : xs = ds.map I.v := t.v fs
  subst e1 e2
  exact ⟨p, _, rfl, hs, flat_v fd, flat_vs fs, q _ H1 rfl (.refl _)⟩
theorem c_inS {x : Str} {xs : List Str} (k : Mok m H0) (ha : JI X m H0 H ρ G a (.str x)) (hb : J X m H0 H ρ G b (Sk (xs.map I.str))) (hm : behindInMarks .In b = false := by with_unfolding_all rfl) : Cp X m H0 H ρ G .In a b (Eq (decide (x ∈ xs))) :=
  (c_inF k op_in_seq hm rfl (all_str xs) ha hb).is (by rw [← inV_str]; rfl)
theorem c_niS {x : Str} {xs : List Str} (k : Mok m H0) (ha : JI X m H0 H ρ G a (.str x)) (hb : J X m H0 H ρ G b (Sk (xs.map I.str))) (hm : behindInMarks .NotIn b = false := by with_unfolding_all rfl) : Cp X m H0 H ρ G .NotIn a b (Eq (!decide (x ∈ xs))) :=
  (c_inF k op_notIn_seq hm rfl (all_str xs) ha hb).is (by rw [← inV_str]; rfl)
theorem c_niI {x : Int} {xs : List Int} (k : Mok m H0) (ha : JI X m H0 H ρ G a (.int x)) (hb : J X m H0 H ρ G b (Sk (xs.map I.int))) (hm : behindInMarks .NotIn b = false := by with_unfolding_all rfl) : Cp X m H0 H ρ G .NotIn a b (Eq (!decide (x ∈ xs))) :=
  (c_inF k op_notIn_seq hm rfl (all_int xs) ha hb).is (by rw [← inV_int]; rfl)

/-! ### subscripts -/
theorem atI_of {α : Type} {xs : List α} {i : Int} {v : α} (h : atI xs i = some v) : ∃ j : Nat, ixN xs.length i = some j ∧ xs[j]? = some v := by
  unfold atI at h
  cases e : ixN xs.length i with
  | none => rw [e] at h; cases h
  | some j => rw [e] at h; exact ⟨j, rfl, h⟩
theorem atI_tr {K : PySem.W.Frag} {xs : List V} {ds : List I} {i : Int} {d : I} (t : ItL K H xs ds) (h : atI ds i = some d) : ∃ v, atI xs i = some v ∧ It K H v d := by
  obtain ⟨j, h1, h2⟩ := atI_of h
  obtain ⟨v, h3, h4⟩ := t.get h2
  refine ⟨v, ?_, h4⟩
  unfold atI
  rw [t.1, h1]
  exact h3
def rIxLT (K : PySem.W.Frag) : R2 := fun x y H Q => rIxL K x y H Q ∨ rIxT K x y H Q
theorem ix_LT : IxR X (rIxLT X.K) := ix_list.or ix_tup
theorem j_ixN {ds : List I} {P : Int → Prop} {R : I → Prop} (k : Mok m H0) (ha : J X m H0 H ρ G a (Sk ds)) (hb : JN X m H0 H ρ G b P) (hi : ∀ i, P i → ∃ d, atI ds i = some d ∧ R d) (hs : PlainIx b := by exact fun _ _ => rfl) :
    J X m H0 H ρ G (.Subscript a b pos) (fun x => ∃ d, R d ∧ A.i d = x) := j_bi (fun _ _ p q => pe_ix ix_LT p q hs) ha hb fun σ Hs H1 x y a1 a2 at_ e k0 u ⟨i, p, u'⟩ ax ay Q q => by
  subst u'
  obtain ⟨p', xs, rfl, h, t⟩ := u.own ax at_.ek0 k
  obtain ⟨d, hd, r⟩ := hi i p
  obtain ⟨v, hv, it⟩ := atI_tr t hd
  rw [un_i ay]
  rcases h with h | h
  · exact .inl ⟨p', xs, i, v, rfl, rfl, h, hv, q _ _ H1 ⟨d, r, rfl⟩ (.refl _) it⟩
  · exact .inr ⟨p', xs, i, v, rfl, rfl, h, hv, q _ _ H1 ⟨d, r, rfl⟩ (.refl _) it⟩
theorem j_ix {ds : List I} {i : Int} {d : I} (k : Mok m H0) (ha : J X m H0 H ρ G a (Sk ds)) (hb : JI X m H0 H ρ G b (.int i)) (hi : atI ds i = some d) (hs : PlainIx b := by exact fun _ _ => rfl) : JI X m H0 H ρ G (.Subscript a b pos) d :=
  (j_ixN (P := fun j => i = j) (R := fun d' => d = d') k ha (hb.n rfl) (fun j h => by subst h; exact ⟨d, hi, rfl⟩) hs).imp fun _ ⟨_, h, q⟩ => by subst h; exact q
theorem j_ixT {ds : List I} {i : Int} {d : I} (k : Mok m H0) (ha : JI X m H0 H ρ G a (.tup ds)) (hb : JI X m H0 H ρ G b (.int i)) (hi : atI ds i = some d) (hs : PlainIx b := by exact fun _ _ => rfl) : JI X m H0 H ρ G (.Subscript a b pos) d := j_ix k (ha.sk .t) hb hi hs
theorem j_ixS {z : Str} {i : Int} {c : Nat} (ha : JI X m H0 H ρ G a (.str z)) (hb : JI X m H0 H ρ G b (.int i)) (hz : z.length ≤ 100) (hi : atI z.cps.toList i = some c) (hs : PlainIx b := by exact fun _ _ => rfl) : JI X m H0 H ρ G (.Subscript a b pos) (.str ⟨#[c]⟩) :=
  j_bi (fun _ _ p q => pe_ix ix_str p q hs) ha hb fun σ Hs H1 x y a1 a2 at_ e k0 u u' ax ay Q q => by
  subst u u'
  exact ⟨z, i, c, un_s ax, un_i ay, Nat.le_trans hz (by decide), hi, q _ _ H1 rfl (.refl _) (It.str _)⟩
/-- a table of the module, by text keys -/
theorem j_tab {p : Addr} {k : Str} {v : V} {d : I} (hu : JI X m H0 H ρ G b (.str k)) {x : Str} {px : Pos} (hm : X.mg x = some (.ref p)) (hK : KDct X.K X.w p k v) (hd : ∀ H, It X.K H v d) (hg : Gl X x := by rfl) (hs : PlainIx b := by exact fun _ _ => rfl) (hx : (x == ("__debug__" : Str)) = false := by decide) :
    JI X m H0 H ρ G (.Subscript (.Name x px) b pos) d := fun σ H1 at_ Q q => ⟨_, pe_ix ix_kdict (pe_glob (v := .ref p) hg hm rfl hx) pe_r hs, hu σ H1 at_ _ fun a2 y H2 φ e ay => by
  subst φ
  exact ⟨p, k, v, rfl, un_s ay, hK, q _ _ H2 rfl e (hd H2)⟩⟩

/-! ### slices -/
def cutI (ds : List I) (lo hi : Option Int) : List I := (ds.drop (HT.sIx ds.length 0 lo)).take (HT.sIx ds.length ds.length hi - HT.sIx ds.length 0 lo)
theorem ItL.cut {K : PySem.W.Frag} {xs : List V} {ds : List I} (t : ItL K H xs ds) (lo hi : Option Int) : ItL K H (cutV xs lo hi) (cutI ds lo hi) := by
  unfold cutV cutI
  rw [t.1]
  exact (t.drop _).take _
/-- a part of a slice: left out, or an int -/
def JO (X : Cx) (m : Mo) (H0 H : Hp) (ρ : Ro) (G : Gh) (e : Option Expr) (o : Option Int) : Prop := ∃ t, PO X e t ∧ ∀ σ H1, At X m H0 H ρ G σ H1 → ∀ Q : Option Int → Hp → Prop, (∀ H2, Ek m H1 H2 → Q o H2) → t σ H1 Q
theorem jo_none : JO X m H0 H ρ G none none := ⟨_, po_none, fun σ H1 _ Q q => q H1 (.refl _)⟩
theorem jo_some {i : Int} (h : JI X m H0 H ρ G e (.int i)) : JO X m H0 H ρ G (some e) (some i) := ⟨_, po_some pe_r, fun σ H1 at_ Q q => h σ H1 at_ _ fun a v H2 φ e ax => by
  subst φ
  exact ⟨i, un_i ax, q H2 e⟩⟩
theorem j_slT {ds : List I} {lo hi : Option Expr} {l h : Option Int} {p2 : Pos} (ha : JI X m H0 H ρ G a (.tup ds)) (hl : JO X m H0 H ρ G lo l) (hh : JO X m H0 H ρ G hi h) : JI X m H0 H ρ G (.Subscript a (.Slice lo hi none p2) pos) (.tup (cutI ds l h)) := by
  obtain ⟨tl, pl, ql⟩ := hl
  obtain ⟨th, ph, qh⟩ := hh
  refine fun σ H1 at_ Q q => ⟨_, pe_slice sl_tupA pe_r pl ph, ha σ H1 at_ _ fun a1 v H2 φ e ax => ql σ H2 (at_.go e) _ fun H3 e3 => qh σ H3 ((at_.go e).go e3) _ fun H4 e4 => ?_⟩
  subst φ
  have k2 := at_.mo.go e
  have k4 := (k2.go e3).go e4
  obtain ⟨p, xs, rfl, hs, t⟩ := It.un (It.tx ((e3.trans e4).tx k2) ax)
  refine ⟨p, xs, rfl, hs, fun w => ?_, fun _ p' hp => ?_⟩
  · have ec : cutI ds l h = ds := by
      unfold cutI
      rw [← t.1, w.1, w.2, List.drop_zero, Nat.sub_zero, t.1, List.take_length]
    rw [ec] at q
    exact q _ _ H4 rfl ((e.trans e3).trans e4) (It.mk hs t)
  · exact q _ _ _ rfl (((e.trans e3).trans e4).trans (Ek.new k4 hp)) (It.mk (SqT.of upd_same) ((t.cut l h).tx ((Ek.new k4 hp).tx k4)))
theorem j_slL {ds : List I} {lo hi : Option Expr} {l h : Option Int} {p2 : Pos} {x : A} (k0 : Mok m H0) (ha : J X m H0 H ρ G a (Eq x)) (hx : Lk ds x) (hl : JO X m H0 H ρ G lo l) (hh : JO X m H0 H ρ G hi h) : J X m H0 H ρ G (.Subscript a (.Slice lo hi none p2) pos) (Eq (.n (cutI ds l h))) := by
  obtain ⟨tl, pl, ql⟩ := hl
  obtain ⟨th, ph, qh⟩ := hh
  refine fun σ H1 at_ Q q => ⟨_, pe_slice sl_list pe_r pl ph, ha σ H1 at_ _ fun a1 v H2 φ e ax => ql σ H2 (at_.go e) _ fun H3 e3 => qh σ H3 ((at_.go e).go e3) _ fun H4 e4 => ?_⟩
  subst φ
  have k2 := at_.mo.go e
  have k4 := (k2.go e3).go e4
  obtain ⟨p, rfl, o⟩ := hx.own ax (at_.ek0.trans e) k0
  obtain ⟨n, xs, hs, t⟩ := o.ek (e3.trans e4) k2
  refine ⟨p, xs, rfl, SqL.of hs, fun p' hp => ?_⟩
  exact q _ _ _ rfl (((e.trans e3).trans e4).trans (Ek.new k4 hp)) ⟨p', rfl, ((e.trans e3).trans e4).back at_.mo hp, k4.ne hp, _, upd_same, (t.cut l h).tx ((Ek.new k4 hp).tx k4)⟩
theorem j_catT {ds es : List I} (ha : JI X m H0 H ρ G a (.tup ds)) (hb : JI X m H0 H ρ G b (.tup es)) (hl : ds.length + es.length ≤ 1000) : JI X m H0 H ρ G (.BinOp a .Add b pos) (.tup (ds ++ es)) :=
  j_bi (fun _ _ => pe_op op_catA) ha hb fun σ Hs H1 x y a1 a2 at_ e k0 u u' ax ay Q q => by
  subst u u'
  obtain ⟨p, xs, rfl, hs, t⟩ := It.un ax
  obtain ⟨p2, ys, rfl, hs2, t2⟩ := It.un ay
  refine ⟨p, p2, xs, ys, rfl, rfl, hs, hs2, ?_, fun w => ?_, fun _ w => ?_, fun _ _ p' hp => ?_⟩
  · rw [t.1, t2.1]; exact Nat.le_trans hl (by decide)
  · have : ds = [] := by have := t.1; rw [w] at this; exact List.length_eq_zero_iff.mp this.symm
    subst this
    exact q _ _ H1 rfl (.refl _) (It.mk hs2 t2)
  · have : es = [] := by have := t2.1; rw [w] at this; exact List.length_eq_zero_iff.mp this.symm
    subst this
    exact q _ _ H1 rfl (.refl _) (by rw [List.append_nil]; exact It.mk hs t)
  · exact q _ _ _ rfl (Ek.new at_.mo hp) (It.mk (SqT.of upd_same) ((t.append t2).tx ((Ek.new at_.mo hp).tx at_.mo)))
theorem j_catL {ds es : List I} {x y : A} (k0 : Mok m H0) (ha : J X m H0 H ρ G a (Eq x)) (hx : Lk ds x) (hb : J X m H0 H ρ G b (Eq y)) (hy : Lk es y) (hl : ds.length + es.length ≤ 1000) : J X m H0 H ρ G (.BinOp a .Add b pos) (Eq (.n (ds ++ es))) :=
  j_bi (fun _ _ => pe_op op_cat) ha hb fun σ Hs H1 x y a1 a2 at_ e k u u' ax ay Q q => by
  subst u u'
  obtain ⟨p, rfl, n1, xs, h1, t1⟩ := hx.own ax at_.ek0 k0
  obtain ⟨p2, rfl, n2, ys, h2, t2⟩ := hy.own ay at_.ek0 k0
  refine ⟨p, p2, xs, ys, rfl, rfl, h1, h2, by rw [t1.1, t2.1]; exact Nat.le_trans hl (by decide), fun p' hp => ?_⟩
  exact q _ _ _ rfl (Ek.new at_.mo hp) ⟨p', rfl, e.back k hp, at_.mo.ne hp, _, upd_same, (t1.append t2).tx ((Ek.new at_.mo hp).tx at_.mo)⟩

/-! ### built-ins -/
theorem j_cb {id : String} {r : List V → Hp → VK → Prop} {x : Str} {p : Pos} {Φa Φ : A → Prop} (hc : CallR X (.builtin id) r) (hm : X.mg x = none) (hv : bootBuiltins x = some (.builtin id)) (ha : J X m H0 H ρ G a Φa)
    (hr : ∀ σ Hs H1 x a1, At X m H0 H ρ G σ H1 → Ek m Hs H1 → Mok m Hs → Φa a1 → Ax X.K m H0 Hs H1 x a1 → ∀ Q : VK, (∀ a v H2, Φ a → Ek m H1 H2 → Ax X.K m H0 Hs H2 v a → Q v H2) → r [x] H1 Q)
    (hg : Gl X x := by rfl) (hn : x ≠ "__name__" := by decide) (hdb : (x == ("__debug__" : Str)) = false := by decide)
    (he : starEach [a] X.env = (false, eval a X.env) :: starEach [] X.env := by rfl) (hpl : (backTo pos (starEach [] X.env)).any (·.1) = false := by rfl) : J X m H0 H ρ G (.Call (.Name x p) [a] [] pos) Φ :=
  j_un (r := fun x H Q => r [x] H Q) (fun ta h => pe_callB hc hg hm hv (pa_cons h pa_nil he) hn hdb he hpl) ha hr
theorem j_ct {id : String} {r : List V → Hp → VK → Prop} {x : Str} {p : Pos} {Φa Φ : A → Prop} (hc : CallR X (.type id) r) (hm : X.mg x = none) (hv : bootBuiltins x = some (.type id)) (ha : J X m H0 H ρ G a Φa)
    (hr : ∀ σ Hs H1 x a1, At X m H0 H ρ G σ H1 → Ek m Hs H1 → Mok m Hs → Φa a1 → Ax X.K m H0 Hs H1 x a1 → ∀ Q : VK, (∀ a v H2, Φ a → Ek m H1 H2 → Ax X.K m H0 Hs H2 v a → Q v H2) → r [x] H1 Q)
    (hg : Gl X x := by rfl) (hn : x ≠ "__name__" := by decide) (hdb : (x == ("__debug__" : Str)) = false := by decide)
    (he : starEach [a] X.env = (false, eval a X.env) :: starEach [] X.env := by rfl) (hpl : (backTo pos (starEach [] X.env)).any (·.1) = false := by rfl) : J X m H0 H ρ G (.Call (.Name x p) [a] [] pos) Φ :=
  j_un (r := fun x H Q => r [x] H Q) (fun ta h => pe_callTy hc hg hm hv (pa_cons h pa_nil he) hn hdb he hpl) ha hr
theorem j_len {ds : List I} {p : Pos} (k : Mok m H0) (hm : X.mg "len" = none) (ha : J X m H0 H ρ G a (Sk ds)) (hg : Gl X "len" := by rfl)
    (he : starEach [a] X.env = (false, eval a X.env) :: starEach [] X.env := by rfl) (hpl : (backTo pos (starEach [] X.env)).any (·.1) = false := by rfl) : JI X m H0 H ρ G (.Call (.Name "len" p) [a] [] pos) (.int ds.length) :=
  j_cb call_len_seq hm PySem.boot_len ha (fun σ Hs H1 x a1 at_ e k0 φ ax Q q => by
    obtain ⟨p', xs, rfl, h, t⟩ := φ.own ax at_.ek0 k
    exact ⟨p', xs, rfl, h, q (.i (.int (ds.length : Int))) _ H1 rfl (.refl _) (by rw [t.1]; exact It.int _)⟩) hg (by decide) (by decide) he hpl
theorem j_abs {i : Int} {p : Pos} (hm : X.mg "abs" = none) (ha : JI X m H0 H ρ G a (.int i)) (hg : Gl X "abs" := by rfl)
    (he : starEach [a] X.env = (false, eval a X.env) :: starEach [] X.env := by rfl) (hpl : (backTo pos (starEach [] X.env)).any (·.1) = false := by rfl) : JI X m H0 H ρ G (.Call (.Name "abs" p) [a] [] pos) (.int (if i < 0 then -i else i)) :=
  j_cb call_abs hm (by decide +kernel) ha (fun σ Hs H1 x a1 at_ e k0 φ ax Q q => by
    subst φ
    exact ⟨i, by rw [un_i ax], q _ _ H1 rfl (.refl _) (It.int _)⟩) hg (by decide) (by decide) he hpl
theorem j_intB {i : Bool} {p : Pos} (hm : X.mg "int" = none) (ha : JI X m H0 H ρ G a (.bl i)) (hg : Gl X "int" := by rfl)
    (he : starEach [a] X.env = (false, eval a X.env) :: starEach [] X.env := by rfl) (hpl : (backTo pos (starEach [] X.env)).any (·.1) = false := by rfl) : JI X m H0 H ρ G (.Call (.Name "int" p) [a] [] pos) (.int (if i then 1 else 0)) :=
  j_ct call_int1 hm (by decide +kernel) ha (fun σ Hs H1 x a1 at_ e k0 φ ax Q q => by
    subst φ
    exact .inr ⟨i, by rw [un_b ax], q _ _ H1 rfl (.refl _) (It.int _)⟩) hg (by decide) (by decide) he hpl
theorem j_list {ds : List I} {p : Pos} (k : Mok m H0) (hm : X.mg "list" = none) (ha : J X m H0 H ρ G a (Sk ds)) (hg : Gl X "list" := by rfl)
    (he : starEach [a] X.env = (false, eval a X.env) :: starEach [] X.env := by rfl) (hpl : (backTo pos (starEach [] X.env)).any (·.1) = false := by rfl) : J X m H0 H ρ G (.Call (.Name "list" p) [a] [] pos) (Eq (.n ds)) :=
  j_ct call_list_of hm (by decide +kernel) ha (fun σ Hs H1 x a1 at_ e k0 φ ax Q q => by
    obtain ⟨p', xs, rfl, h, t⟩ := φ.own ax at_.ek0 k
    exact ⟨p', xs, rfl, h, fun l hl => q _ _ _ rfl (Ek.new at_.mo hl) ⟨l, rfl, e.back k0 hl, at_.mo.ne hl, _, upd_same, t.tx ((Ek.new at_.mo hl).tx at_.mo)⟩⟩) hg (by decide) (by decide) he hpl
theorem j_tupleL {R : List I → Prop} {p : Pos} (k : Mok m H0) (hm : X.mg "tuple" = none) (ha : J X m H0 H ρ G a (fun x => ∃ ds, R ds ∧ Lk ds x)) (hg : Gl X "tuple" := by rfl)
    (he : starEach [a] X.env = (false, eval a X.env) :: starEach [] X.env := by rfl) (hpl : (backTo pos (starEach [] X.env)).any (·.1) = false := by rfl) : J X m H0 H ρ G (.Call (.Name "tuple" p) [a] [] pos) (fun x => ∃ ds, R ds ∧ A.i (.tup ds) = x) :=
  j_ct call_tuple_of hm (by decide +kernel) ha (fun σ Hs H1 x a1 at_ e k0 ⟨ds, r, φ⟩ ax Q q => by
    obtain ⟨p', rfl, n, xs, h, t⟩ := φ.own ax at_.ek0 k
    exact ⟨p', xs, rfl, .inl ⟨SqL.of h, fun l hl => q _ _ _ ⟨ds, r, rfl⟩ (Ek.new at_.mo hl) (It.mk (SqT.of upd_same) (t.tx ((Ek.new at_.mo hl).tx at_.mo)))⟩⟩) hg (by decide) (by decide) he hpl
end
end K38
end
section
/-! tests, calls, fields; statements and loops -/
namespace K38
open PySem L2
section
variable {X : Cx} {m : Mo} {H0 H : Hp} {ρ : Ro} {G : Gh} {e a b c : Expr} {pos : Pos}
/-! ### and, or, not: as values -/
theorem j_one {op} {Φ : A → Prop} (h : J X m H0 H ρ G a Φ) : J X m H0 H ρ G (.BoolOp op [a] pos) Φ := fun σ H1 at_ Q q => ⟨_, pe_one pe_r, h σ H1 at_ Q q⟩
theorem j_and {rest : List Expr} {p q : Bool} (ha : JI X m H0 H ρ G a (.bl p)) (hb : p = true → JI X m H0 H ρ G (.BoolOp .And (b :: rest) pos) (.bl q)) : JI X m H0 H ρ G (.BoolOp .And (a :: b :: rest) pos) (.bl (p && q)) :=
  fun σ H1 at_ Q k => ⟨_, pe_and pe_r pe_r, ha σ H1 at_ _ fun a1 v H2 φ e ax => by
    subst φ
    refine ⟨p, un_b ax, ?_⟩
    cases p with
    | true =>
      refine iteT (hb rfl σ H2 (at_.go e) Q fun a2 v2 H3 φ e2 ax2 => ?_)
      subst φ
      exact k _ _ H3 rfl (e.trans e2) (Ax.start ax2 e at_.mo)
    | false => exact iteF (k (.i (.bl false)) _ H2 rfl e (It.bl _))⟩
theorem j_or {rest : List Expr} {p q : Bool} (ha : JI X m H0 H ρ G a (.bl p)) (hb : p = false → JI X m H0 H ρ G (.BoolOp .Or (b :: rest) pos) (.bl q)) : JI X m H0 H ρ G (.BoolOp .Or (a :: b :: rest) pos) (.bl (p || q)) :=
  fun σ H1 at_ Q k => ⟨_, pe_or pe_r pe_r, ha σ H1 at_ _ fun a1 v H2 φ e ax => by
    subst φ
    refine ⟨p, un_b ax, ?_⟩
    cases p with
    | false =>
      refine iteF (hb rfl σ H2 (at_.go e) Q fun a2 v2 H3 φ e2 ax2 => ?_)
      subst φ
      exact k _ _ H3 rfl (e.trans e2) (Ax.start ax2 e at_.mo)
    | true => exact iteT (k (.i (.bl true)) _ H2 rfl e (It.bl _))⟩
theorem j_and2 {p q : Bool} (ha : JI X m H0 H ρ G a (.bl p)) (hb : p = true → JI X m H0 H ρ G b (.bl q)) : JI X m H0 H ρ G (.BoolOp .And [a, b] pos) (.bl (p && q)) := j_and ha fun h => j_one (hb h)
theorem j_or2 {p q : Bool} (ha : JI X m H0 H ρ G a (.bl p)) (hb : p = false → JI X m H0 H ρ G b (.bl q)) : JI X m H0 H ρ G (.BoolOp .Or [a, b] pos) (.bl (p || q)) := j_or ha fun h => j_one (hb h)
theorem j_not {p : Bool} (ha : JI X m H0 H ρ G a (.bl p)) : JI X m H0 H ρ G (.UnaryOp .Not a pos) (.bl (!p)) :=
  j_un (r := fun x H1 Q => ∃ c, x = .bl c ∧ Q (.bl (!c)) H1) (fun ta h => pe_not h) ha fun σ Hs H1 x a1 at_ e k φ ax Q q => by
  subst φ
  exact ⟨p, un_b ax, q _ _ H1 rfl (.refl _) (It.bl _)⟩
/-! ### tests -/
theorem jt_of {p : Bool} (h : JI X m H0 H ρ G e (.bl p)) (he : ∀ whole, isTrue e X.env whole = (do let v ← whole; standAt e.pos; holding [v] (truthy v)) := by intro _; rfl) : JT X m H0 H ρ G e (Eq p) :=
  fun σ H1 at_ Q k => ⟨_, pt_val pe_r he, h σ H1 at_ _ fun a v H2 φ e ax => by
    subst φ
    exact ⟨p, un_b ax, k _ H2 rfl e⟩⟩
theorem jt_any (h : J X m H0 H ρ G e (fun x => ∃ k, A.i (.bl k) = x)) (he : ∀ whole, isTrue e X.env whole = (do let v ← whole; standAt e.pos; holding [v] (truthy v)) := by intro _; rfl) : JT X m H0 H ρ G e (fun _ => True) :=
  fun σ H1 at_ Q k => ⟨_, pt_val pe_r he, h σ H1 at_ _ fun a v H2 ⟨p, φ⟩ e ax => by
    subst φ
    exact ⟨p, un_b ax, k _ H2 trivial e⟩⟩
theorem jt_w {Φ : Bool → Prop} (h : JW X m H0 H ρ G e Φ) : JT X m H0 H ρ G e Φ := fun σ H1 at_ Q k => ⟨_, PW.pt pw_r, h σ H1 at_ Q k⟩
theorem jw_and1 {Φ : Bool → Prop} (h : JT X m H0 H ρ G a Φ) : JW X m H0 H ρ G (.BoolOp .And [a] pos) Φ := fun σ H1 at_ Q k => ⟨_, pw_and1 pt_r, h σ H1 at_ Q k⟩
theorem jw_or1 {Φ : Bool → Prop} (h : JT X m H0 H ρ G a Φ) : JW X m H0 H ρ G (.BoolOp .Or [a] pos) Φ := fun σ H1 at_ Q k => ⟨_, pw_or1 pt_r, h σ H1 at_ Q k⟩
theorem jw_and' {rest : List Expr} {Φ Φ2 Ψ : Bool → Prop} (h : JT X m H0 H ρ G a Φ) (h2 : Φ true → JW X m H0 H ρ G (.BoolOp .And (b :: rest) pos) Φ2) (hf : Φ false → Ψ false) (ht : ∀ q, Φ true → Φ2 q → Ψ q) : JW X m H0 H ρ G (.BoolOp .And (a :: b :: rest) pos) Ψ :=
  fun σ H1 at_ Q k => ⟨_, pw_and pt_r pw_r, h σ H1 at_ _ fun p H2 φ e => by
    cases p with
    | true => exact iteT (h2 φ σ H2 (at_.go e) Q fun q H3 φ2 e2 => k q H3 (ht q φ φ2) (e.trans e2))
    | false => exact iteF (k false H2 (hf φ) e)⟩
theorem jw_and {rest : List Expr} {p q : Bool} (h : JT X m H0 H ρ G a (Eq p)) (h2 : p = true → JW X m H0 H ρ G (.BoolOp .And (b :: rest) pos) (Eq q)) : JW X m H0 H ρ G (.BoolOp .And (a :: b :: rest) pos) (Eq (p && q)) :=
  jw_and' h h2 (fun h => by rw [h]; rfl) fun q' h h' => by rw [h, ← h']; rfl
theorem jw_or {rest : List Expr} {p q : Bool} (h : JT X m H0 H ρ G a (Eq p)) (h2 : p = false → JW X m H0 H ρ G (.BoolOp .Or (b :: rest) pos) (Eq q)) : JW X m H0 H ρ G (.BoolOp .Or (a :: b :: rest) pos) (Eq (p || q)) :=
  fun σ H1 at_ Q k => ⟨_, pw_or pt_r pw_r, h σ H1 at_ _ fun p' H2 φ e => by
    subst φ
    cases p with
    | true => exact iteT (k true H2 rfl e)
    | false => exact iteF (h2 rfl σ H2 (at_.go e) Q fun q H3 φ2 e2 => k q H3 φ2 (e.trans e2))⟩
theorem jt_and {p q : Bool} (h : JT X m H0 H ρ G a (Eq p)) (h2 : p = true → JT X m H0 H ρ G b (Eq q)) : JT X m H0 H ρ G (.BoolOp .And [a, b] pos) (Eq (p && q)) := jt_w (jw_and h fun e => jw_and1 (h2 e))
theorem jt_or {p q : Bool} (h : JT X m H0 H ρ G a (Eq p)) (h2 : p = false → JT X m H0 H ρ G b (Eq q)) : JT X m H0 H ρ G (.BoolOp .Or [a, b] pos) (Eq (p || q)) := jt_w (jw_or h fun e => jw_or1 (h2 e))
theorem jt_not {p : Bool} (h : JT X m H0 H ρ G a (Eq p)) : JT X m H0 H ρ G (.UnaryOp .Not a pos) (Eq (!p)) := fun σ H1 at_ Q k => ⟨_, pt_not pt_r, h σ H1 at_ _ fun p' H2 φ e => k _ H2 (by rw [φ]) e⟩
theorem JT.is {p q : Bool} (h : JT X m H0 H ρ G a (Eq p)) (e : p = q) : JT X m H0 H ρ G a (Eq q) := by rw [← e]; exact h
/-- a if t else b -/
theorem j_if {p : Bool} {Φ : A → Prop} (hc : JT X m H0 H ρ G c (Eq p)) (ha : p = true → J X m H0 H ρ G a Φ) (hb : p = false → J X m H0 H ρ G b Φ) : J X m H0 H ρ G (.IfExp c a b pos) Φ :=
  fun σ H1 at_ Q k => ⟨_, pe_ifExp pt_r pe_r pe_r, hc σ H1 at_ _ fun p' H2 φ e => by
    subst φ
    cases p with
    | true => exact iteT (ha rfl σ H2 (at_.go e) Q fun a v H3 φ e2 ax => k a v H3 φ (e.trans e2) (ax.start e at_.mo))
    | false => exact iteF (hb rfl σ H2 (at_.go e) Q fun a v H3 φ e2 ax => k a v H3 φ (e.trans e2) (ax.start e at_.mo))⟩
/-- a <= b <= c of ints -/
theorem j_chain {i j k : Int} (ha : JI X m H0 H ρ G a (.int i)) (hb : JI X m H0 H ρ G b (.int j)) (hc : JI X m H0 H ρ G c (.int k)) (hm : lastMarks [.LtE, .LtE] [b, c] = false := by with_unfolding_all rfl) :
    JI X m H0 H ρ G (.Compare a [.LtE, .LtE] [b, c] pos) (.bl (decide (i ≤ j) && decide (j ≤ k))) :=
  fun σ H1 at_ Q q => ⟨_, pe_chain op_le op_le pe_r pe_r pe_r hm, ha σ H1 at_ _ fun a1 x H2 φ e ax => hb σ H2 (at_.go e) _ fun a2 y H3 φ' e' ay => by
    subst φ φ'
    refine ⟨i, j, un_i ax, un_i ay, decide (i ≤ j), rfl, ?_⟩
    cases h : decide (i ≤ j) with
    | true =>
      refine iteT (hc σ H3 ((at_.go e).go e') _ fun a3 z H4 φ e3 az => ?_)
      subst φ
      refine ⟨j, k, un_i ay, un_i az, ?_⟩
      rw [h] at q
      exact q _ _ H4 rfl ((e.trans e').trans e3) (It.bl _)
    | false =>
      rw [h] at q
      exact iteF (q _ _ H3 rfl (e.trans e') (It.bl _))⟩

/-! ### calls of the program's own defs -/
/-- a def keeps a promise, and may be called by its name -/
structure Cal (P : Program) (w : World) (K : PySem.W.Frag) (mg : Str → Option Value) (base : Heap) (k : Nat) (n : Str) (ps : List Str) (sp : Sp) : Prop where
  ex : ∃ f fd, mg n = some (.ref f) ∧ PySem.W.keepIn K (.ref f) = true ∧ Binds K fd ps [] ∧ FnOk P w K mg base CX0 k f fd ps sp
theorem j_call' {k : Nat} {x : Str} {ps : List Str} {sp : Sp} {es : List Expr} {p : Pos} {Φs : List A → Prop} {Φ : A → Prop} (c : Cal X.prog X.w X.K X.mg X.base k x ps sp) (hr : Room k X.A) (ha : JA X m H0 H ρ G (e :: es) Φs)
    (hs : ∀ σ Hs H1 vs as, At X m H0 H ρ G σ H1 → Ek m Hs H1 → Mok m Hs → Φs as → AxL X.K m H0 Hs H1 vs as → ∀ Q : VK, (∀ a v H2, Φ a → Ek m H1 H2 → Ax X.K m H0 Hs H2 v a → Q v H2) → sp vs H1 Q E0)
    (hg : Gl X x := by rfl) (hdb : (x == ("__debug__" : Str)) = false := by decide) (he : starEach (e :: es) X.env = (false, eval e X.env) :: starEach es X.env := by rfl) (hpl : (backTo pos (starEach es X.env)).any (·.1) = false := by rfl) :
    J X m H0 H ρ G (.Call (.Name x p) (e :: es) [] pos) Φ := by
  obtain ⟨f, fd, h1, h2, h3, h4⟩ := c.ex
  refine fun σ H1 at_ Q q => ⟨_, pe_call h4 hr hg h1 h2 h3 .nil pass0 pa_r hdb he hpl, ha σ H1 at_ _ fun as vs H2 φ e ax => ?_⟩
  rw [List.append_nil]
  exact hs σ H1 H2 vs as (at_.go e) e at_.mo φ ax Q fun a v H3 φ2 e2 ax2 => q a v H3 φ2 (e.trans e2) ax2
/-- what a callee is given: in its own heap at the entry -/
def A.pass : A → A
  | .l ds => .b ds
  | .n ds => .b ds
  | a => a
def Args (K : PySem.W.Frag) (H : Hp) (vs : List V) (as : List A) : Prop := AxL K none H H H vs as
/-- the promise of a def that reads: x its arguments as data, as the slots' forms, r what comes back -/
def spOf (K : PySem.W.Frag) {τ : Type} (pre : τ → Hp → Prop) (as : τ → List A) (r : τ → A → Prop) : Sp := fun vs H Q _ =>
  ∃ x, pre x H ∧ Args K H vs (as x) ∧ ∀ a v H1, r x a → Ek none H H1 → Ax K none H H H1 v a → Q v H1
theorem ax_pass {K : PySem.W.Frag} {Hs : Hp} {v : V} {a : A} (h : Ax K m H0 Hs H v a) (e : Ek m H0 H) (k : Mok m H0) : Ax K none H H H v a.pass := by
  cases a with
  | i d => exact h
  | l ds => obtain ⟨p, rfl, n, xs, q, t⟩ := h; exact ⟨p, rfl, (by simp), xs, q, t⟩
  | b ds => obtain ⟨p, rfl, o⟩ := h; obtain ⟨n, xs, q, t⟩ := o.ek e k; exact ⟨p, rfl, (by simp), xs, q, t⟩
  | n ds => obtain ⟨p, rfl, f, n, xs, q, t⟩ := h; exact ⟨p, rfl, (by simp), xs, q, t⟩
  | r w => exact h
  | t xs ds => exact h
theorem axl_pass {K : PySem.W.Frag} {Hs : Hp} {vs : List V} {as : List A} (h : AxL K m H0 Hs H vs as) (e : Ek m H0 H) (k : Mok m H0) : Args K H vs (as.map A.pass) := by
  induction h with
  | nil => exact .nil
  | cons h _ ih => exact .cons (ax_pass h e k) ih
theorem Ek.of_none {H H' : Hp} (e : Ek none H H') : Ek m H H' := Ek.of_same fun a o h => (e a o h).1 (by simp)
/-- what comes back, seen by the caller -/
def A.back : A → Bool
  | .b _ => false
  | .l _ => false
  | _ => true
theorem ax_back {K : PySem.W.Frag} {Hs H1 H2 : Hp} {v : V} {a : A} (h : Ax K none H1 H1 H2 v a) (b : a.back = true) (k : Mok m Hs) (e : Ek m Hs H1) : Ax K m H0 Hs H2 v a := by
  cases a with
  | i d => exact h
  | l ds => cases b
  | b ds => cases b
  | n ds => obtain ⟨p, rfl, f, n, xs, q, t⟩ := h; exact ⟨p, rfl, e.back k f, (k.go e).ne f, xs, q, t⟩
  | r w => exact h
  | t xs ds => exact h
theorem j_call {τ : Type} {pre : τ → Hp → Prop} {as : τ → List A} {r : τ → A → Prop} {k : Nat} {n : Str} {ps : List Str} {es : List Expr} {p : Pos} {bs : List A} {Φ : A → Prop} (c : Cal X.prog X.w X.K X.mg X.base k n ps (spOf X.K pre as r)) (hr : Room k X.A) (k0 : Mok m H0)
    (ha : JA X m H0 H ρ G (e :: es) (Eq bs)) (x : τ) (hb : bs.map A.pass = as x) (hp : ∀ H1, Ek m H H1 → Ek m H0 H1 → pre x H1) (hΦ : ∀ a, r x a → a.back = true ∧ Φ a)
    (hg : Gl X n := by rfl) (hdb : (n == ("__debug__" : Str)) = false := by decide) (he : starEach (e :: es) X.env = (false, eval e X.env) :: starEach es X.env := by rfl) (hpl : (backTo pos (starEach es X.env)).any (·.1) = false := by rfl) :
    J X m H0 H ρ G (.Call (.Name n p) (e :: es) [] pos) Φ := j_call' c hr ha (fun σ Hs H1 vs as' at_ e k φ ax Q q => by
  subst φ
  refine ⟨x, hp H1 at_.ek at_.ek0, ?_, fun a v H2 ra e2 ax2 => ?_⟩
  · rw [← hb]; exact axl_pass ax at_.ek0 k0
  · obtain ⟨b1, p1⟩ := hΦ a ra
    exact q a v H2 p1 e2.of_none (ax_back ax2 b1 k e)) hg hdb he hpl
end
end K38
end
section
/-! statements and loops -/
namespace K38
open PySem L2
abbrev Dn (X : Cx) (rest : List Stmt) (D : Ends) : Ends := { D with nx := fun σ H => WS X rest D σ H }
theorem ws_cons {X : Cx} {st : Stmt} {rest : List Stmt} {D : Ends} {σ : L2.St} {H : Hp} {t : TS} (h : PS X st t) (q : t (Dn X rest D) σ H) : WS X (st :: rest) D σ H := ⟨_, pss_cons h pss_r, q⟩
/-- behind a change at l -/
def Go (m : Mo) (l : Addr) (H H' : Hp) : Prop := ∃ H2, Ek m H H2 ∧ Kp l H2 H' ∧ ∃ u, H2 l = some u ∧ Mut (some u)
section
variable {m : Mo} {K : PySem.W.Frag} {H H' H0 : Hp} {l a : Addr} {ds : List I} {v : V} {d : I}
theorem Go.own (g : Go m l H H') (k : Mok m H) (o : Own m K H a ds) (n : a ≠ l) : Own m K H' a ds := by
  obtain ⟨H2, e, kp, u, hu, mu⟩ := g
  exact (o.ek e k).kp kp hu mu n
theorem Go.it (g : Go m l H H') (k : Mok m H) (o : It K H v d) : It K H' v d := by
  obtain ⟨H2, e, kp, u, hu, mu⟩ := g
  exact (o.tx (e.tx k)).tx (kp.tx hu mu)
theorem Go.at (g : Go m l H H') {o : HO} (h : H a = some o) (n : a ≠ l) (hm : m ≠ some a) : H' a = some o := by
  obtain ⟨H2, e, kp, u, hu, mu⟩ := g
  exact kp a o n ((e a o h).1 hm)
end
section
variable {X : Cx} {m : Mo} {H0 H : Hp} {ρ : Ro} {G : Gh} {e a b c : Expr} {pos : Pos} {rest p q : List Stmt} {D : Ends}
theorem WR.at (h : WR X m H0 H ρ G D rest) {H1 : Hp} (k : Ek m H H1) : WR X m H0 H1 ρ G D rest := fun σ H2 at_ => h σ H2 ⟨k.trans at_.ek, at_.ek0, at_.mo, at_.en⟩
theorem WR.unghost {g : V × A} (h : WR X m H0 H ρ G D rest) : WR X m H0 H ρ (g :: G) D rest := fun σ H1 at_ => h σ H1 ⟨at_.ek, at_.ek0, at_.mo, at_.en.unghost⟩
theorem WR.sub {ρ' : Ro} (h : WR X m H0 H ρ' G D rest) (s : Sub ρ' ρ) : WR X m H0 H ρ G D rest := fun σ H1 at_ => h σ H1 ⟨at_.ek, at_.ek0, at_.mo, at_.en.sub s⟩
theorem wr_go (h : WR X m H0 H ρ G D rest) : WR X m H0 H ρ G (Dn X rest D) [] := fun σ H1 at_ => ⟨_, pss_nil, h σ H1 at_⟩
theorem wr_ret {Φ : A → Prop} (k0 : Mok m H0) (he : J X m H0 H ρ G e Φ) (k : ∀ a v H1, Φ a → Ek m H0 H1 → Ek m H H1 → Ax X.K m H0 H0 H1 v a → D.rt v H1) : WR X m H0 H ρ G D (.Return (some e) pos :: rest) := fun σ H1 at_ =>
  ws_cons (ps_ret pe_r) (he σ H1 at_ _ fun a v H2 φ e ax => k a v H2 φ (at_.ek0.trans e) (at_.ek.trans e) (ax.start at_.ek0 k0))
theorem wr_set (i : Nat) {x : Str} {p' : Pos} {Φ : A → Prop} (hN : X.N.Nodup) (he : J X m H0 H ρ G e Φ) (k : ∀ a, Φ a → a.keep = true ∧ WR X m H0 H (ρ.set i (some a)) G D rest)
    (hi : X.N[i]? = some x := by rfl) (hx : Loc X.env.scope x := by first | exact Or.inl rfl | exact Or.inr rfl) (hs : swapsWith e (some (.Name x p')) pos.line X.env = pure false := by rfl) (hf : X.fn x = true ∨ X.env.scope.names.lookup x = some .local := by first | exact .inl rfl | exact .inr rfl) :
    WR X m H0 H ρ G D (.Assign [.Name x p'] e pos :: rest) := fun σ H1 at_ => ws_cons (ps_set hN hi hx pe_r hs hf) (he σ H1 at_ _ fun a v H2 φ e ax => by
    obtain ⟨kp, w⟩ := k a φ
    exact w _ H2 ⟨at_.ek.trans e, at_.ek0.trans e, at_.mo.go e, (at_.en.ek e at_.mo).set i (ax.any kp) kp⟩)
/-- a new list is named: it stands at p -/
theorem wr_setN (i : Nat) {x : Str} {p' : Pos} {ds : List I} (hN : X.N.Nodup) (he : J X m H0 H ρ G e (Eq (.n ds))) (k : ∀ p H1, H p = none → Ek m H H1 → Mok m H1 → Ek m H0 H1 → Own m X.K H1 p ds → WR X m H0 H1 (ρ.set i (some (.r (.ref p)))) G D rest) (h0 : Mok m H)
    (hi : X.N[i]? = some x := by rfl) (hx : Loc X.env.scope x := by first | exact Or.inl rfl | exact Or.inr rfl) (hs : swapsWith e (some (.Name x p')) pos.line X.env = pure false := by rfl) (hf : X.fn x = true ∨ X.env.scope.names.lookup x = some .local := by first | exact .inl rfl | exact .inr rfl) :
    WR X m H0 H ρ G D (.Assign [.Name x p'] e pos :: rest) := fun σ H1 at_ => ws_cons (ps_set hN hi hx pe_r hs hf) (he σ H1 at_ _ fun a v H2 φ e ax => by
    subst φ
    obtain ⟨p, rfl, f, o⟩ := ax
    exact k p H2 (at_.ek.back h0 f) (at_.ek.trans e) (at_.mo.go e) (at_.ek0.trans e) o _ H2 ⟨.refl _, at_.ek0.trans e, at_.mo.go e, (at_.en.ek e at_.mo).set i rfl rfl⟩)
theorem wr_if {Φ : Bool → Prop} (hc : JT X m H0 H ρ G c Φ) (ht : Φ true → WR X m H0 H ρ G (Dn X rest D) p) (hf : Φ false → WR X m H0 H ρ G (Dn X rest D) q) : WR X m H0 H ρ G D (.If c p q pos :: rest) := fun σ H1 at_ =>
  ws_cons (ps_if pt_r pss_r pss_r) (hc σ H1 at_ _ fun b H2 φ e => by
    cases b with
    | true => exact iteT (ht φ σ H2 (at_.go e))
    | false => exact iteF (hf φ σ H2 (at_.go e)))
theorem wr_drop {Φ : A → Prop} (he : J X m H0 H ρ G e Φ) (k : WR X m H0 H ρ G D rest) (hs : swapsWith e none pos.line X.env = pure false := by rfl) : WR X m H0 H ρ G D (.Expr e pos :: rest) := fun σ H1 at_ =>
  ws_cons (ps_expr pe_r hs) (he σ H1 at_ _ fun a v H2 φ e ax => k σ H2 (at_.go e))
theorem wr_aug (i : Nat) {x : Str} {p' : Pos} {n j : Int} (hN : X.N.Nodup) (hr : ρ[i]? = some (some (.i (.int n)))) (he : JI X m H0 H ρ G e (.int j)) (k : WR X m H0 H (ρ.set i (some (.i (.int (n + j))))) G D rest)
    (hi : X.N[i]? = some x := by rfl) (hx : Loc X.env.scope x := by first | exact Or.inl rfl | exact Or.inr rfl) (hf : X.fn x = true ∨ X.env.scope.names.lookup x = some .local := by first | exact .inl rfl | exact .inr rfl) :
    WR X m H0 H ρ G D (.AugAssign (.Name x p') .Add e pos :: rest) := fun σ H1 at_ => by
  obtain ⟨v, h1, h2⟩ := at_.en.at_ i _ hr
  have e1 := un_i h2
  subst e1
  exact ws_cons (ps_aug hN hi hx pe_r ip_add hf) ⟨_, h1, he σ H1 at_ _ fun a v H2 φ e ax => by
    subst φ
    rw [un_i ax]
    exact ⟨n, j, rfl, rfl, k _ H2 ⟨at_.ek.trans e, at_.ek0.trans e, at_.mo.go e, (at_.en.ek e at_.mo).set i (a := .i (.int (n + j))) (It.int _) rfl⟩⟩⟩
/-- xs.append(e) -/
theorem wr_app {l : Addr} {ds : List I} {d : I} {o : Expr} {apos cpos : Pos} (k0 : Mok m H0) (ho : J X m H0 H ρ G o (Eq (.r (.ref l)))) (w : Own m X.K H l ds) (h0 : H0 l = none) (kH : Mok m H) (he : JI X m H0 H ρ G e d) (hz : ds.length < 1000)
    (k : ∀ H', Go m l H H' → Ek m H0 H' → Mok m H' → Own m X.K H' l (ds ++ [d]) → WR X m H0 H' ρ G D rest) (fr : Ro.firm ρ = true := by rfl) (fg : Gh.firm G = true := by rfl)
    (hbase : attributeBase o "append" X.env (eval o X.env) = eval o X.env := by rfl)
    (hfew : ((backTo cpos (starEach (e :: []) X.env)).all (fun x => !x.1) && (backToKw cpos (keywordEach [] X.env)).all (fun x => x.1.isSome)
      && decide ((e :: []).length + ([] : List Keyword).length + (if ([] : List Keyword).isEmpty then 0 else 1) < 30)) = true := by rfl)
    (hline : (apos.endLine == cpos.line) = true := by rfl) (hs : starEach (e :: []) X.env = (false, eval e X.env) :: starEach [] X.env := by rfl) (hplain : (backTo cpos (starEach [] X.env)).any (·.1) = false := by rfl)
    (hsw : swapsWith (.Call (.Attribute o "append" apos) [e] [] cpos) none pos.line X.env = pure false := by rfl) :
    WR X m H0 H ρ G D (.Expr (.Call (.Attribute o "append" apos) [e] [] cpos) pos :: rest) := fun σ H1 at_ =>
  ws_cons (ps_expr (pe_bm PySem.F.plainAttrs_list PySem.F.slot_list_append PySem.F.type_list_append mt_append pe_r (pa_cons pe_r pa_nil hs) hbase hfew hline hs hplain) hsw) (ho σ H1 at_ _ fun a1 x H2 φ e1 ax => by
    subst φ
    have ex : x = .ref l := ax
    subst ex
    have w2 := w.ek (at_.ek.trans e1) kH
    obtain ⟨n, xs, hl, t⟩ := w2
    refine ⟨.inl ⟨rfl, xs, SqL.of hl⟩, he σ H2 (at_.go e1) _ fun a2 v H3 φ e2 ay => ?_⟩
    subst φ
    have k2 := at_.mo.go e1
    have hl3 := (e2 l _ hl).1 n
    have t3 := t.tx (e2.tx k2)
    have k3 := k2.go e2
    have e03 : Ek m H0 H3 := (at_.ek0.trans e1).trans e2
    have e0' : Ek m H0 (upd H3 l (.lst (xs ++ [v]))) := Ek.mut k0 e03 h0
    have kp : Kp l H3 (upd H3 l (.lst (xs ++ [v]))) := Kp.upd
    have tx : Tx X.K H3 (upd H3 l (.lst (xs ++ [v]))) := kp.tx hl3 trivial
    refine ⟨l, xs, v, rfl, rfl, hl3, by rw [t.1]; exact Nat.lt_of_lt_of_le hz (by decide), ?_⟩
    exact k _ ⟨H3, (at_.ek.trans e1).trans e2, kp, _, hl3, trivial⟩ e0' (k0.go e0') ⟨n, _, upd_same, (t3.snoc ay).tx tx⟩ σ _ ⟨.refl _, e0', k0.go e0', ((at_.go e1).go e2).en.tx tx fr fg⟩)

/-! ### targets -/
def JG (X : Cx) (m : Mo) (H0 : Hp) (tg : Expr) (d : I) (ρ ρ2 : Ro) : Prop := ∀ σ H1 G v, En X.K m H0 H1 σ ρ G → Mok m H1 → It X.K H1 v d → ∀ Q : L2.St → Hp → Prop, (∀ σ2, En X.K m H0 H1 σ2 ρ2 G → Q σ2 H1) → rG X tg v σ H1 Q
def JGs (X : Cx) (m : Mo) (H0 : Hp) (ts : List Expr) (ds : List I) (ρ ρ2 : Ro) : Prop := ∀ σ H1 G vs, En X.K m H0 H1 σ ρ G → Mok m H1 → ItL X.K H1 vs ds → ∀ Q : L2.St → Hp → Prop, (∀ σ2, En X.K m H0 H1 σ2 ρ2 G → Q σ2 H1) → rGs X ts vs σ H1 Q
theorem jg_name (i : Nat) {x : Str} {d : I} (hN : X.N.Nodup) (hi : X.N[i]? = some x := by rfl) (hx : Loc X.env.scope x := by first | exact Or.inl rfl | exact Or.inr rfl) (hf : X.fn x = true ∨ X.env.scope.names.lookup x = some .local := by first | exact .inl rfl | exact .inr rfl) :
    JG X m H0 (.Name x pos) d ρ (ρ.set i (some (.i d))) := fun σ H1 G v en k it Q q => ⟨_, pg_name hN hi hx hf, q _ (en.set i (a := .i d) it rfl)⟩
theorem jgs_nil : JGs X m H0 [] [] ρ ρ := fun σ H1 G vs en k it Q q => ⟨_, pgs_nil, by have := it.1; simpa using this, q σ en⟩
theorem jgs_cons {e : Expr} {es : List Expr} {d : I} {ds : List I} {ρ1 ρ2 : Ro} (h : JG X m H0 e d ρ ρ1) (t : JGs X m H0 es ds ρ1 ρ2) (hs : (assignEach (e :: es) X.env).map (·.2) = assign e X.env :: (assignEach es X.env).map (·.2) := by rfl) : JGs X m H0 (e :: es) (d :: ds) ρ ρ2 := fun σ H1 G vs en k it Q q => by
  refine ⟨_, pgs_cons pg_r pgs_r hs, ?_⟩
  cases vs with
  | nil => have := it.1; simp at this
  | cons v vs =>
    have it2 : ItL X.K H1 vs ds := ⟨by have := it.1; simpa using this, fun i v e a b => it.2 (i + 1) v e a b⟩
    exact ⟨v, vs, rfl, h σ H1 G v en k (it.2 0 v d rfl rfl) _ fun σ2 en2 => t σ2 H1 G vs en2 k it2 Q q⟩
theorem jg_tup {es : List Expr} {kk : Nat} {ds : List I} {ρ2 : Ro} (hc : X.calm = true) (h : JGs X m H0 es ds ρ ρ2) (hl : (assignEach es X.env).length = ds.length := by rfl) (hst : (assignEach es X.env).findIdx? (·.1) = none := by rfl) : JG X m H0 (.Tuple es kk pos) (.tup ds) ρ ρ2 := fun σ H1 G v en k it Q q => by
  obtain ⟨p, xs, rfl, hs, t⟩ := it.un
  exact ⟨_, pg_tup hc pgs_r rfl hst, p, xs, rfl, hs, by rw [t.1, hl], h σ H1 G xs en k t Q q⟩
/-- a, b = e -/
theorem wr_asg {tg : Expr} {d : I} {ρ2 : Ro} (he : JI X m H0 H ρ G e d) (hg : JG X m H0 tg d ρ ρ2) (k : WR X m H0 H ρ2 G D rest) (hs : swapsWithSole [tg] e pos.line X.env = pure false := by rfl) (hw : swappedStores [tg] e X.env = pure none := by rfl) (h1 : (assignEach [tg] X.env).map (·.2) = [assign tg X.env] := by rfl) :
    WR X m H0 H ρ G D (.Assign [tg] e pos :: rest) := fun σ H1 at_ => ws_cons (ps_asg pe_r pg_r hs hw h1) (he σ H1 at_ _ fun a v H2 φ e ax => by
    subst φ
    exact hg σ H2 G v (at_.go e).en (at_.mo.go e) ax _ fun σ2 en2 => k σ2 H2 ⟨at_.ek.trans e, at_.ek0.trans e, at_.mo.go e, en2⟩)

/-! ### loops -/
/-- where a turn is to end: at the head of turn i -/
def Tn (X : Cx) (m : Mo) (H0 : Hp) (G : Gh) (R : Nat → Ro) (Iv : Nat → Hp → Prop) (i : Nat) (σ : L2.St) (H : Hp) : Prop := Iv i H ∧ Ek m H0 H ∧ Mok m H ∧ En X.K m H0 H σ (R i) G
abbrev Lp (X : Cx) (m : Mo) (H0 : Hp) (G : Gh) (R : Nat → Ro) (Iv : Nat → Hp → Prop) (i : Nat) (D : Ends) : Ends := { D with nx := Tn X m H0 G R Iv i, ct := Tn X m H0 G R Iv i, bk := D.nx }
theorem wr_next {R : Nat → Ro} {Iv : Nat → Hp → Prop} {i : Nat} (hI : ∀ H1, Ek m H H1 → Mok m H1 → Iv i H1) (s : Sub (R i) ρ) : WR X m H0 H ρ G (Lp X m H0 G R Iv i D) [] := fun σ H1 at_ =>
  ⟨_, pss_nil, hI H1 at_.ek at_.mo, at_.ek0, at_.mo, at_.en.sub s⟩
/-- for tg in a tuple -/
theorem wr_forT {ds : List I} {tg iter : Expr} {body : List Stmt} (hit : JI X m H0 H ρ G iter (.tup ds)) (R : Nat → Ro) (Iv : Nat → Hp → Prop) (hc : X.calm = true) (h0s : Sub (R 0) ρ) (h0 : ∀ H1, Ek m H H1 → Mok m H1 → Iv 0 H1)
    (turn : ∀ i d g H1, ds[i]? = some d → Iv i H1 → Ek m H0 H1 → Mok m H1 → Gh.firm [g] = true → ∃ ρ2, JG X m H0 tg d (R i) ρ2 ∧ WR X m H0 H1 ρ2 (g :: G) (Lp X m H0 (g :: G) R Iv (i + 1) (Dn X rest D)) body)
    (done : ∀ H1, Iv ds.length H1 → Ek m H0 H1 → Mok m H1 → WR X m H0 H1 (R ds.length) G D rest)
    (hp : PassesOwn (model X.prog X.w) X.A X.env X.xe := by exact PassesOwn.never) (hs : ∀ x, foldedSetIterable iter X.env x = pure x := by intro _; rfl) : WR X m H0 H ρ G D (.For tg iter body [] pos :: rest) := fun σ H1 at_ =>
  ws_cons (ps_for hp hc (pi_tup pe_r) pg_r pss_r hs) (hit σ H1 at_ _ fun a1 va H2 φ e ax => by
    subst φ
    obtain ⟨p, xs, rfl, h, t⟩ := It.un ax
    have k2 := at_.mo.go e
    refine ⟨p, rfl, ⟨xs, h⟩, for_tup (K := X.K) (a := p) (xs := xs) (Tn X m H0 ((.ref p, .t xs ds) :: G) R Iv) ⟨h0 H2 (at_.ek.trans e) k2, at_.ek0.trans e, k2, ((at_.go e).en.sub h0s).ghost (a := .t xs ds) ⟨p, rfl, h, t⟩ rfl⟩ (fun i σ' H' _ hh => ?_) ?_ ?_⟩
    · obtain ⟨_, ep, hq, _⟩ := hh.2.2.2.gh _ (List.mem_cons_self)
      cases ep
      exact hq
    · intro i x σ' H' hx ⟨hI, ek0, mo, en⟩
      obtain ⟨_, ep, hq, tq⟩ := en.gh _ (List.mem_cons_self)
      cases ep
      obtain ⟨d, hd, itd⟩ := tq.get' hx
      obtain ⟨ρ2, hg, w⟩ := turn i d (.ref p, .t xs ds) H' hd hI ek0 mo rfl
      exact hg σ' H' _ x en mo itd _ fun σ2 en2 => w σ2 H' ⟨.refl _, ek0, mo, en2⟩
    · intro σ' H' ⟨hI, ek0, mo, en⟩
      rw [t.1] at hI en
      exact done H' hI ek0 mo σ' H' ⟨.refl _, ek0, mo, en.unghost⟩)
/-- for tg in a list that stood at the entry -/
theorem wr_forB {ds : List I} {tg iter : Expr} {body : List Stmt} (k0 : Mok m H0) (hit : J X m H0 H ρ G iter (Eq (.b ds))) (R : Nat → Ro) (Iv : Nat → Hp → Prop) (hc : X.calm = true) (h0s : Sub (R 0) ρ) (h0 : ∀ H1, Ek m H H1 → Mok m H1 → Iv 0 H1)
    (turn : ∀ i d H1, ds[i]? = some d → Iv i H1 → Ek m H0 H1 → Mok m H1 → ∃ ρ2, JG X m H0 tg d (R i) ρ2 ∧ WR X m H0 H1 ρ2 G (Lp X m H0 G R Iv (i + 1) (Dn X rest D)) body)
    (done : ∀ H1, Iv ds.length H1 → Ek m H0 H1 → Mok m H1 → WR X m H0 H1 (R ds.length) G D rest)
    (hp : PassesOwn (model X.prog X.w) X.A X.env X.xe := by exact PassesOwn.never) (hs : ∀ x, foldedSetIterable iter X.env x = pure x := by intro _; rfl) : WR X m H0 H ρ G D (.For tg iter body [] pos :: rest) := fun σ H1 at_ =>
  ws_cons (ps_for hp hc (pi_list pe_r) pg_r pss_r hs) (hit σ H1 at_ _ fun a1 va H2 φ e ax => by
    subst φ
    obtain ⟨p, rfl, n, xs, h, t⟩ := ax
    have k2 := at_.mo.go e
    have up : ∀ H', Ek m H0 H' → SqL X.K H' p xs := fun H' e => SqL.of ((e p _ h).1 n)
    refine ⟨p, rfl, ⟨xs, up H2 (at_.ek0.trans e)⟩, for_list (K := X.K) (a := p) (xs := xs) (Tn X m H0 G R Iv) ⟨h0 H2 (at_.ek.trans e) k2, at_.ek0.trans e, k2, (at_.go e).en.sub h0s⟩ (fun i σ' H' _ hh => up H' hh.2.1) ?_ ?_⟩
    · intro i x σ' H' hx ⟨hI, ek0, mo, en⟩
      obtain ⟨d, hd, itd⟩ := t.get' hx
      obtain ⟨ρ2, hg, w⟩ := turn i d H' hd hI ek0 mo
      exact hg σ' H' _ x en mo (itd.tx (ek0.tx k0)) _ fun σ2 en2 => w σ2 H' ⟨.refl _, ek0, mo, en2⟩
    · intro σ' H' ⟨hI, ek0, mo, en⟩
      rw [t.1] at hI en
      exact done H' hI ek0 mo σ' H' ⟨.refl _, ek0, mo, en⟩)
/-- the list at p, its values told -/
structure Ow (m : Mo) (K : PySem.W.Frag) (H : Hp) (p : Addr) (xs : List V) (ds : List I) : Prop where
  n : m ≠ some p
  h : H p = some (.lst xs)
  t : ItL K H xs ds
theorem Ow.own {K : PySem.W.Frag} {p : Addr} {xs : List V} {ds : List I} (o : Ow m K H p xs ds) : Own m K H p ds := ⟨o.n, xs, o.h, o.t⟩
theorem Ow.ek {K : PySem.W.Frag} {H' : Hp} {p : Addr} {xs : List V} {ds : List I} (o : Ow m K H p xs ds) (e : Ek m H H') (k : Mok m H) : Ow m K H' p xs ds := ⟨o.n, (e p _ o.h).1 o.n, o.t.tx (e.tx k)⟩
theorem Go.ow {K : PySem.W.Frag} {H' : Hp} {l p : Addr} {xs : List V} {ds : List I} (g : Go m l H H') (k : Mok m H) (o : Ow m K H p xs ds) (n : p ≠ l) : Ow m K H' p xs ds := by
  obtain ⟨H2, e, kp, u, hu, mu⟩ := g
  have o2 := o.ek e k
  exact ⟨o.n, kp p _ n o2.h, o2.t.tx (kp.tx hu mu)⟩
/-- for tg in a list, new or not, that the word keeps -/
theorem wr_forN {ds : List I} {x : A} {tg iter : Expr} {body : List Stmt} (k0 : Mok m H0) (hit : J X m H0 H ρ G iter (Eq x)) (hx : Lk ds x) (R : Nat → Ro) (Iv : Addr → List V → Nat → Hp → Prop) (hc : X.calm = true) (h0s : Sub (R 0) ρ)
    (h0 : ∀ p xs H1, (x = .n ds → H p = none) → Ek m H H1 → Mok m H → Mok m H1 → Ow m X.K H1 p xs ds → Iv p xs 0 H1) (hO : ∀ p xs i H1, Iv p xs i H1 → Ow m X.K H1 p xs ds) (kH : Mok m H)
    (turn : ∀ p xs i d H1, ds[i]? = some d → Iv p xs i H1 → Ek m H0 H1 → Mok m H1 → ∃ ρ2, JG X m H0 tg d (R i) ρ2 ∧ WR X m H0 H1 ρ2 G (Lp X m H0 G R (Iv p xs) (i + 1) (Dn X rest D)) body)
    (done : ∀ p xs H1, Iv p xs ds.length H1 → Ek m H0 H1 → Mok m H1 → WR X m H0 H1 (R ds.length) G D rest)
    (hp : PassesOwn (model X.prog X.w) X.A X.env X.xe := by exact PassesOwn.never) (hs : ∀ x, foldedSetIterable iter X.env x = pure x := by intro _; rfl) : WR X m H0 H ρ G D (.For tg iter body [] pos :: rest) := fun σ H1 at_ =>
  ws_cons (ps_for hp hc (pi_list pe_r) pg_r pss_r hs) (hit σ H1 at_ _ fun a1 va H2 φ e ax => by
    subst φ
    have k2 := at_.mo.go e
    obtain ⟨p, rfl, o⟩ := hx.own ax (at_.ek0.trans e) k0
    have fr : x = .n ds → H p = none := fun q => by
      subst q
      obtain ⟨p', ep, f, _⟩ := ax
      cases ep
      exact at_.ek.back kH f
    obtain ⟨n, xs, h, t⟩ := o
    refine ⟨p, rfl, ⟨xs, SqL.of h⟩, for_list (K := X.K) (a := p) (xs := xs) (Tn X m H0 G R (Iv p xs)) ⟨h0 p xs H2 fr (at_.ek.trans e) kH k2 ⟨n, h, t⟩, at_.ek0.trans e, k2, (at_.go e).en.sub h0s⟩ (fun i σ' H' _ hh => SqL.of (hO _ _ _ _ hh.1).h) ?_ ?_⟩
    · intro i y σ' H' hy ⟨hI, ek0, mo, en⟩
      obtain ⟨d, hd, itd⟩ := (hO _ _ _ _ hI).t.get' hy
      obtain ⟨ρ2, hg, w⟩ := turn p xs i d H' hd hI ek0 mo
      exact hg σ' H' _ y en mo itd _ fun σ2 en2 => w σ2 H' ⟨.refl _, ek0, mo, en2⟩
    · intro σ' H' ⟨hI, ek0, mo, en⟩
      rw [t.1] at hI en
      exact done p xs H' hI ek0 mo σ' H' ⟨.refl _, ek0, mo, en⟩)
/-- for i in range(n) -/
theorem wr_forR {P : Int → Prop} {tg : Expr} {body : List Stmt} {px : Pos} {px2 : Pos} (hm : X.mg "range" = none) (hit : JN X m H0 H ρ G e P) (hP : ∀ n, P n → n ≤ 100000 ∧ -100000 ≤ n) (R : Nat → Ro) (Iv : Nat → Hp → Prop) (hc : X.calm = true) (h0s : Sub (R 0) ρ) (h0 : ∀ H1, Ek m H H1 → Mok m H1 → Iv 0 H1)
    (turn : ∀ n i H1, P n → i < n.toNat → Iv i H1 → Ek m H0 H1 → Mok m H1 → ∃ ρ2, JG X m H0 tg (.int (i : Int)) (R i) ρ2 ∧ WR X m H0 H1 ρ2 G (Lp X m H0 G R Iv (i + 1) (Dn X rest D)) body)
    (done : ∀ n H1, P n → Iv n.toNat H1 → Ek m H0 H1 → Mok m H1 → WR X m H0 H1 (R n.toNat) G D rest) (hg : Gl X "range" := by rfl) (hst : starEach [e] X.env = [(false, eval e X.env)] := by rfl) (hst2 : starEach [e] X.env = (false, eval e X.env) :: starEach [] X.env := by rfl)
    (hp : PassesOwn (model X.prog X.w) X.A X.env X.xe := by exact PassesOwn.never) (hs : ∀ x, foldedSetIterable (.Call (.Name "range" px) [e] [] px2) X.env x = pure x := by intro _; rfl) : WR X m H0 H ρ G D (.For tg (.Call (.Name "range" px) [e] [] px2) body [] pos :: rest) := fun σ H1 at_ =>
  ws_cons (ps_for hp hc (pi_range1 hg hm (pa_cons pe_r pa_nil hst2) hst) pg_r pss_r hs) (hit σ H1 at_ _ fun a1 va H2 ⟨n, pn, φ⟩ e ax => by
    subst φ
    have k2 := at_.mo.go e
    obtain ⟨hn1, hn2⟩ := hP n pn
    refine ⟨n, by rw [un_i ax], by omega, by omega, for_range (lo := 0) (n := n.toNat) (Tn X m H0 G R Iv) ⟨h0 H2 (at_.ek.trans e) k2, at_.ek0.trans e, k2, (at_.go e).en.sub h0s⟩ ?_ ?_⟩
    · intro i σ' H' hi ⟨hI, ek0, mo, en⟩
      obtain ⟨ρ2, hg, w⟩ := turn n i H' pn hi hI ek0 mo
      have e0 : (0 : Int) + (i : Int) = (i : Int) := Int.zero_add _
      rw [e0]
      exact hg σ' H' _ (.int (i : Int)) en mo (It.int _) _ fun σ2 en2 => w σ2 H' ⟨.refl _, ek0, mo, en2⟩
    · intro σ' H' ⟨hI, ek0, mo, en⟩
      exact done n H' pn hI ek0 mo σ' H' ⟨.refl _, ek0, mo, en⟩)
theorem gf_cons {g : V × A} (h : Gh.firm [g] = true) (t : Gh.firm G = true) : Gh.firm (g :: G) = true := by
  have h1 : g.2.firm = true := by simpa [Gh.firm] using h
  show (g.2.firm && Gh.firm G) = true
  rw [h1, t]; rfl
/-- a list of one's own comes back -/
theorem wr_retO {l : Addr} {ds : List I} (k0 : Mok m H0) (he : J X m H0 H ρ G e (Eq (.r (.ref l)))) (o : Own m X.K H l ds) (kH : Mok m H) (h0 : H0 l = none) (k : ∀ v H1, Ek m H0 H1 → Ek m H H1 → Ax X.K m H0 H0 H1 v (.n ds) → D.rt v H1) : WR X m H0 H ρ G D (.Return (some e) pos :: rest) :=
  wr_ret k0 he fun a v H1 φ e0 e ax => by
    subst φ
    have ev : v = .ref l := ax
    exact k v H1 e0 e ⟨l, ev, h0, o.ek e kH⟩
theorem cut_take (ds : List I) (k : Nat) : cutI ds none (some (k : Int)) = ds.take k := by
  unfold cutI
  rw [HT.sIx_none, HT.sIx_nat, List.drop_zero, Nat.sub_zero]
  by_cases c : k ≤ ds.length
  · rw [Nat.min_eq_left c]
  · rw [Nat.min_eq_right (by omega), List.take_of_length_le (Nat.le_refl _), List.take_of_length_le (by omega)]
theorem cut_drop (ds : List I) (k : Nat) : cutI ds (some (k : Int)) none = ds.drop k := by
  unfold cutI
  rw [HT.sIx_none, HT.sIx_nat]
  by_cases c : k ≤ ds.length
  · rw [Nat.min_eq_left c, List.take_of_length_le (by simp)]
  · rw [Nat.min_eq_right (by omega), Nat.sub_self, List.take_zero, List.drop_eq_nil_of_le (by omega)]
end
end K38
end
section
/-! further rules: == and in of data, dicts by the two arrows, comprehensions, isinstance -/
namespace K38
open PySem L2
section
variable {X : Cx} {m : Mo} {H0 H : Hp} {ρ : Ro} {G : Gh} {e a b c : Expr} {pos : Pos} {rest : List Stmt} {D : Ends}
theorem wr_end (k : ∀ σ H1, At X m H0 H ρ G σ H1 → D.nx σ H1) : WR X m H0 H ρ G D [] := fun σ H1 at_ => ⟨_, pss_nil, k σ H1 at_⟩
/-! ### two ways that meet again -/
abbrev Md (X : Cx) (m : Mo) (H0 : Hp) (G : Gh) (ρM : Ro) (M : Hp → Prop) (D : Ends) : Ends := { D with nx := Tn X m H0 G (fun _ => ρM) (fun _ => M) 0 }
theorem wr_ifJ {p : Bool} {thn els : List Stmt} (ρM : Ro) (M : Hp → Prop) (hc : JT X m H0 H ρ G c (Eq p)) (ht : p = true → WR X m H0 H ρ G (Md X m H0 G ρM M D) thn) (hf : p = false → WR X m H0 H ρ G (Md X m H0 G ρM M D) els)
    (k : ∀ H1, M H1 → Ek m H0 H1 → Mok m H1 → WR X m H0 H1 ρM G D rest) : WR X m H0 H ρ G D (.If c thn els pos :: rest) := fun σ H1 at_ =>
  ⟨_, Evl.pss_cut (ps_if pt_r pss_r pss_r) pss_r, Tn X m H0 G (fun _ => ρM) (fun _ => M) 0, hc σ H1 at_ _ fun b H2 φ e => by
    cases b with
    | true => exact iteT (ht φ.symm.symm σ H2 (at_.go e))
    | false => exact iteF (hf φ.symm.symm σ H2 (at_.go e)), fun σ' H' ⟨hM, e0, mo, en⟩ => k H' hM e0 mo σ' H' ⟨.refl _, e0, mo, en⟩⟩
theorem wr_meet {ρM : Ro} {M : Hp → Prop} (hM : ∀ H1, Ek m H H1 → Mok m H1 → M H1) (s : Sub ρM ρ) : WR X m H0 H ρ G (Md X m H0 G ρM M D) [] := fun σ H1 at_ =>
  ⟨_, pss_nil, hM H1 at_.ek at_.mo, at_.ek0, at_.mo, at_.en.sub s⟩
/-! ### xs == [] -/
theorem shp {d : PyData} (h1 : d.canLay0 = true) (h2 : d.depth ≤ 64) : SeqAt.shaped d = true := by
  show (d.canLay0 && decide (d.depth ≤ 64)) = true
  rw [h1, decide_eq_true h2]; rfl
theorem lay_strs : ∀ ss : List Str, (∀ s ∈ ss, PyData.strOk s = true) → PyData.canLayAll0 (ss.map PyData.str) = true ∧ PyData.depthAll (ss.map PyData.str) ≤ 1
  | [], _ => by simp [PyData.canLayAll0, PyData.depthAll]
  | s :: ss, hs => by
    have h := lay_strs ss fun s h => hs s (List.mem_cons_of_mem _ h)
    simp only [List.map_cons, PyData.canLayAll0, PyData.depthAll, PyData.canLay0, PyData.depth, h.1, Bool.and_true]
    exact ⟨hs s List.mem_cons_self, by omega⟩
theorem shp_strs (ss : List Str) (hs : ∀ s ∈ ss, PyData.strOk s = true) : SeqAt.shaped (.list (ss.map PyData.str)) = true := by
  have h := lay_strs ss hs
  exact shp (by simp only [PyData.canLay0]; exact h.1) (by simp only [PyData.depth]; omega)
theorem dp_strs {K : PySem.W.Frag} : ∀ {ss : List Str} {xs : List V}, ItL K H xs (ss.map I.str) → DpAll K H xs (ss.map PyData.str)
  | [], xs, h => by
    have : xs = [] := List.length_eq_zero_iff.mp h.1
    subst this; exact .nil
  | s :: ss, [], h => by have := h.1; simp at this
  | s :: ss, x :: xs, h => by
    have h1 : x = .str s := (h.2 0 x _ rfl rfl).un_str
    subst h1
    exact .cons (.str s) (dp_strs ⟨by have := h.1; simpa using this, fun i v e a b => h.2 (i + 1) v e a b⟩)
theorem c_eqN {ss : List Str} (k : Mok m H0) (so : ∀ s ∈ ss, PyData.strOk s = true) (hu : X.A.units + 64 < cLine) (ha : J X m H0 H ρ G a (Lk (ss.map I.str))) (hb : J X m H0 H ρ G b (Eq (.n []))) : Cp X m H0 H ρ G .Eq a b (Eq (decide (ss = []))) :=
  cp_mk (op_eqD hu) (nomark _) ha hb fun σ Hs H1 x y a1 a2 at_ e k0 u u' ax ay Q q => by
  subst u'
  obtain ⟨p, rfl, n, xs, h, t⟩ := u.own ax at_.ek0 k
  obtain ⟨p2, rfl, _, n2, ys, h2, t2⟩ := ay
  have e2 : ys = [] := List.length_eq_zero_iff.mp t2.1
  subst e2
  refine ⟨.list (ss.map PyData.str), .list [], .lst (SqL.of h) (dp_strs t), .lst (SqL.of h2) .nil, shp_strs ss so, shp_strs [] (fun _ h => nomatch h), ?_⟩
  have ev : PyData.eqv (.list (ss.map PyData.str)) (.list []) = decide (ss = []) := by
    cases ss with
    | nil => simp [PyData.eqv, PyData.eqvAll]
    | cons s ss => simp [PyData.eqv, PyData.eqvAll]
  rw [ev]
  exact q _ H1 rfl (.refl _)
/-! ### (x, y) in a list of such -/
abbrev pI (z : Str × Str) : I := .tup [.str z.1, .str z.2]
abbrev pD (z : Str × Str) : PyData := .tuple [.str z.1, .str z.2]
theorem dp_pair {K : PySem.W.Frag} {v : V} {z : Str × Str} (h : It K H v (pI z)) : Dp K H v (pD z) := by
  obtain ⟨p, xs, rfl, hs, t⟩ := h.un
  exact .tup hs (dp_strs (ss := [z.1, z.2]) t)
theorem dp_pairs {K : PySem.W.Frag} : ∀ {zs : List (Str × Str)} {xs : List V}, ItL K H xs (zs.map pI) → DpAll K H xs (zs.map pD)
  | [], xs, h => by
    have : xs = [] := List.length_eq_zero_iff.mp h.1
    subst this; exact .nil
  | s :: ss, [], h => by have := h.1; simp at this
  | s :: ss, x :: xs, h => .cons (dp_pair (h.2 0 x _ rfl rfl)) (dp_pairs ⟨by have := h.1; simpa using this, fun i v e a b => h.2 (i + 1) v e a b⟩)
def okP (z : Str × Str) : Bool := PyData.strOk z.1 && PyData.strOk z.2
theorem lay_pairs : ∀ zs : List (Str × Str), (∀ z ∈ zs, okP z = true) → PyData.canLayAll0 (zs.map pD) = true ∧ PyData.depthAll (zs.map pD) ≤ 2
  | [], _ => by simp [PyData.canLayAll0, PyData.depthAll]
  | z :: zs, hs => by
    have h := lay_pairs zs fun s h => hs s (List.mem_cons_of_mem _ h)
    simp only [List.map_cons, PyData.canLayAll0, PyData.depthAll, PyData.canLay0, PyData.depth, h.1, Bool.and_true]
    exact ⟨hs z List.mem_cons_self, by omega⟩
theorem shp_pairs (zs : List (Str × Str)) (hs : ∀ z ∈ zs, okP z = true) : SeqAt.shaped (.list (zs.map pD)) = true := by
  have h := lay_pairs zs hs
  exact shp (by simp only [PyData.canLay0]; exact h.1) (by simp only [PyData.depth]; omega)
theorem shp_pair (z : Str × Str) (hz : okP z = true) : SeqAt.shaped (pD z) = true := shp (by simp only [PyData.canLay0, PyData.canLayAll0, Bool.and_true]; exact hz) (by simp [PyData.depth, PyData.depthAll])
theorem eqv_pair (z w : Str × Str) : PyData.eqv (pD z) (pD w) = decide (z = w) := by
  obtain ⟨a, b⟩ := z
  obtain ⟨a', b'⟩ := w
  have e : PyData.eqv (pD (a, b)) (pD (a', b')) = ((a == a') && ((b == b') && true)) := by simp only [pD, PyData.eqv, PyData.eqvAll]
  rw [e]
  by_cases h1 : a = a'
  · by_cases h2 : b = b'
    · subst h1 h2; simp
    · rw [beq_eq_false_iff_ne.mpr h2, decide_eq_false (fun q => h2 (Prod.mk.inj q).2)]; simp
  · rw [beq_eq_false_iff_ne.mpr h1, decide_eq_false (fun q => h1 (Prod.mk.inj q).1)]; simp
theorem any_pair (z : Str × Str) : ∀ zs : List (Str × Str), ((zs.map pD).any fun d => PyData.eqv d (pD z)) = decide (z ∈ zs)
  | [] => by simp
  | w :: zs => by
    rw [List.map_cons, List.any_cons, any_pair z zs, eqv_pair]
    by_cases h : w = z
    · subst h; simp
    · have : ¬ z = w := fun q => h q.symm
      rw [decide_eq_false h]; simp [this]
theorem c_inP {z : Str × Str} {zs : List (Str × Str)} (k : Mok m H0) (hu : X.A.units + 65 < cLine) (hz : okP z = true) (hzs : ∀ z ∈ zs, okP z = true) (ha : JI X m H0 H ρ G a (pI z)) (hb : J X m H0 H ρ G b (Lk (zs.map pI))) (hm : behindInMarks .In b = false := by with_unfolding_all rfl) : Cp X m H0 H ρ G .In a b (Eq (decide (z ∈ zs))) :=
  cp_mk (op_inD hu) hm ha hb fun σ Hs H1 x y a1 a2 at_ e k0 u u' ax ay Q q => by
  subst u
  obtain ⟨p, rfl, n, xs, h, t⟩ := u'.own ay at_.ek0 k
  refine ⟨pD z, zs.map pD, dp_pair ax, .lst (SqL.of h) (dp_pairs t), shp_pair z hz, shp_pairs zs hzs, ?_⟩
  rw [any_pair]
  exact q _ H1 rfl (.refl _)
theorem c_niP {z : Str × Str} {zs : List (Str × Str)} (k : Mok m H0) (hu : X.A.units + 65 < cLine) (hz : okP z = true) (hzs : ∀ z ∈ zs, okP z = true) (ha : JI X m H0 H ρ G a (pI z)) (hb : J X m H0 H ρ G b (Lk (zs.map pI))) (hm : behindInMarks .NotIn b = false := by with_unfolding_all rfl) : Cp X m H0 H ρ G .NotIn a b (Eq (!decide (z ∈ zs))) :=
  cp_mk (op_notInD hu) hm ha hb fun σ Hs H1 x y a1 a2 at_ e k0 u u' ax ay Q q => by
  subst u
  obtain ⟨p, rfl, n, xs, h, t⟩ := u'.own ay at_.ek0 k
  refine ⟨pD z, zs.map pD, dp_pair ax, .lst (SqL.of h) (dp_pairs t), shp_pair z hz, shp_pairs zs hzs, ?_⟩
  rw [any_pair]
  exact q _ H1 rfl (.refl _)

/-! ### a dict by the two arrows -/
structure Od (m : Mo) (K : PySem.W.Frag) (H : Hp) (p : Addr) (f0 f1 : I) : Prop where
  n : m ≠ some p
  ex : ∃ v0 v1, H p = some (.dK [(.inr "->", v0), (.inr "<-", v1)]) ∧ It K H v0 f0 ∧ It K H v1 f1
theorem Od.ek {K : PySem.W.Frag} {H' : Hp} {p : Addr} {f0 f1 : I} (o : Od m K H p f0 f1) (e : Ek m H H') (k : Mok m H) : Od m K H' p f0 f1 := by
  obtain ⟨n, v0, v1, h, t0, t1⟩ := o
  exact ⟨n, v0, v1, (e p _ h).1 n, t0.tx (e.tx k), t1.tx (e.tx k)⟩
theorem Go.od {K : PySem.W.Frag} {H' : Hp} {l p : Addr} {f0 f1 : I} (g : Go m l H H') (k : Mok m H) (o : Od m K H p f0 f1) (n : p ≠ l) : Od m K H' p f0 f1 := by
  obtain ⟨H2, e, kp, u, hu, mu⟩ := g
  obtain ⟨nn, v0, v1, h, t0, t1⟩ := o.ek e k
  exact ⟨nn, v0, v1, kp p _ n h, t0.tx (kp.tx hu mu), t1.tx (kp.tx hu mu)⟩
theorem Od.nel {K : PySem.W.Frag} {p l : Addr} {f0 f1 : I} {ds : List I} (o : Od m K H p f0 f1) (w : Own m K H l ds) : p ≠ l := fun q => by
  subst q
  obtain ⟨_, v0, v1, h, _⟩ := o
  obtain ⟨_, xs, h2, _⟩ := w
  rw [h] at h2; cases h2
theorem ar_ne : ¬ (("->" : Str) = "<-") := by decide +kernel
theorem ar_ne' : ¬ (("<-" : Str) = "->") := by decide +kernel
theorem val0 (v0 v1 : V) : valV ([(.inr "->", v0), (.inr "<-", v1)] : List (Key × V)) (.inr "->") = some v0 := valV_pos rfl
theorem val1 (v0 v1 : V) : valV ([(.inr "->", v0), (.inr "<-", v1)] : List (Key × V)) (.inr "<-") = some v1 := by
  unfold valV
  rw [List.find?_cons, show decide ((Sum.inr "->" : Key) = .inr "<-") = false from decide_eq_false fun q => ar_ne (Sum.inr.inj q)]
  rw [List.find?_cons, show decide ((Sum.inr "<-" : Key) = .inr "<-") = true from decide_eq_true rfl]
  rfl
theorem put0 (v0 v1 v : V) : putK ([(.inr "->", v0), (.inr "<-", v1)] : List (Key × V)) (.inr "->") v = [(.inr "->", v), (.inr "<-", v1)] := by
  unfold putK
  rw [List.any_cons, show decide ((Sum.inr "->" : Key) = .inr "->") = true from decide_eq_true rfl, Bool.true_or, if_pos rfl, List.map_cons, List.map_cons, List.map_nil]
  rw [if_pos rfl, if_neg (fun q => ar_ne' (Sum.inr.inj q))]
theorem put1 (v0 v1 v : V) : putK ([(.inr "->", v0), (.inr "<-", v1)] : List (Key × V)) (.inr "<-") v = [(.inr "->", v0), (.inr "<-", v)] := by
  unfold putK
  rw [List.any_cons, List.any_cons, show decide ((Sum.inr "<-" : Key) = .inr "<-") = true from decide_eq_true rfl, Bool.true_or, Bool.or_true, if_pos rfl, List.map_cons, List.map_cons, List.map_nil]
  rw [if_neg (fun q => ar_ne (Sum.inr.inj q)), if_pos rfl]
/-- the arrow of an end -/
theorem j_dget {p : Addr} {f0 f1 : I} {z : Bool} {x : Str} (hu : X.A.units + 1 < cLine) (o : Od m X.K H p f0 f1) (kH : Mok m H) (ha : J X m H0 H ρ G a (Eq (.r (.ref p)))) (hb : JI X m H0 H ρ G b (.str x)) (hx : x = (if z then ("<-" : Str) else ("->" : Str)))
    (hs : NoSl b := by exact fun _ _ => rfl) : JI X m H0 H ρ G (.Subscript a b pos) (if z then f1 else f0) :=
  fun σ H1 at_ Q q => ⟨_, pe_dget hu pe_r pe_r hs, ha σ H1 at_ _ fun a1 x' H2 φ e ax => hb σ H2 (at_.go e) _ fun a2 y H3 φ' e' ay => by
    subst φ φ'
    have ex : x' = .ref p := ax
    subst ex
    rw [un_s ay]
    obtain ⟨_, v0, v1, h, t0, t1⟩ := o.ek ((at_.ek.trans e).trans e') kH
    subst hx
    cases z with
    | false => exact ⟨p, v0, rfl, .inl ⟨_, .inr "->", .inl h, rfl, (val0 v0 v1).symm⟩, q _ _ H3 rfl (e.trans e') t0⟩
    | true => exact ⟨p, v1, rfl, .inl ⟨_, .inr "<-", .inl h, rfl, (val1 v0 v1).symm⟩, q _ _ H3 rfl (e.trans e') t1⟩⟩
/-- d[arrow] = e -/
theorem wr_dput {p : Addr} {f0 f1 d : I} {z : Bool} {x : Str} {o i : Expr} {pos' : Pos} (k0 : Mok m H0) (hu : X.A.units + 1 < cLine) (w : Od m X.K H p f0 f1) (h0 : H0 p = none) (kH : Mok m H) (he : JI X m H0 H ρ G e d) (ho : J X m H0 H ρ G o (Eq (.r (.ref p)))) (hi : JI X m H0 H ρ G i (.str x)) (hx : x = (if z then ("<-" : Str) else ("->" : Str)))
    (k : ∀ H', Go m p H H' → Ek m H0 H' → Mok m H' → Od m X.K H' p (if z then f0 else d) (if z then d else f1) → WR X m H0 H' ρ G D rest) (fr : Ro.firm ρ = true := by rfl) (fg : Gh.firm G = true := by rfl)
    (hs : swapsWith e (some (.Subscript o i pos')) pos.line X.env = pure false := by rfl) : WR X m H0 H ρ G D (.Assign [.Subscript o i pos'] e pos :: rest) := fun σ H1 at_ =>
  ws_cons (ps_dput hu pe_r pe_r pe_r hs) (he σ H1 at_ _ fun a1 v H2 φ e1 ax => ho σ H2 (at_.go e1) _ fun a2 x' H3 φ2 e2 ax2 => hi σ H3 ((at_.go e1).go e2) _ fun a3 y H4 φ3 e3 ax3 => by
    subst φ φ2 φ3
    have ex : x' = .ref p := ax2
    subst ex
    rw [un_s ax3]
    have at4 := ((at_.go e1).go e2).go e3
    obtain ⟨n, v0, v1, h, t0, t1⟩ := w.ek at4.ek kH
    have av : It X.K H4 v d := It.tx ((e2.trans e3).tx (at_.mo.go e1)) ax
    have tx : ∀ o', Tx X.K H4 (upd H4 p o') := fun o' => Kp.tx (Kp.upd (o := o')) h trivial
    have e0' : ∀ o', Ek m H0 (upd H4 p o') := fun o' => Ek.mut k0 at4.ek0 h0
    subst hx
    cases z with
    | false =>
      refine ⟨p, _, rfl, .inl ⟨_, .inr "->", h, rfl, by show 2 < sizeLine; decide, rfl⟩, ?_⟩
      rw [put0]
      exact k _ ⟨H4, at4.ek, Kp.upd, _, h, trivial⟩ (e0' _) (k0.go (e0' _)) ⟨n, _, _, upd_same, av.tx (tx _), t1.tx (tx _)⟩ σ _ ⟨.refl _, e0' _, k0.go (e0' _), at4.en.tx (tx _) fr fg⟩
    | true =>
      refine ⟨p, _, rfl, .inl ⟨_, .inr "<-", h, rfl, by show 2 < sizeLine; decide, rfl⟩, ?_⟩
      rw [put1]
      exact k _ ⟨H4, at4.ek, Kp.upd, _, h, trivial⟩ (e0' _) (k0.go (e0' _)) ⟨n, _, _, upd_same, t0.tx (tx _), av.tx (tx _)⟩ σ _ ⟨.refl _, e0' _, k0.go (e0' _), at4.en.tx (tx _) fr fg⟩)
/-- d = {"->": .., "<-": ..} -/
theorem wr_setD (i : Nat) {x : Str} {p' px py pz : Pos} {j1 j2} {v1 v2 : Expr} {f0 f1 : I} (hN : X.N.Nodup) (h1 : JI X m H0 H ρ G v1 f0) (h2 : JI X m H0 H ρ G v2 f1) (kH : Mok m H)
    (k : ∀ p H1, H p = none → Ek m H H1 → Mok m H1 → Ek m H0 H1 → Od m X.K H1 p f0 f1 → WR X m H0 H1 (ρ.set i (some (.r (.ref p)))) G D rest)
    (hi : X.N[i]? = some x := by rfl) (hx : Loc X.env.scope x := by first | exact Or.inl rfl | exact Or.inr rfl) (hs : swapsWith (.Dict [some (.Constant (.str "->") j1 px), some (.Constant (.str "<-") j2 py)] [v1, v2] pz) (some (.Name x p')) pos.line X.env = pure false := by rfl) (hf : X.fn x = true ∨ X.env.scope.names.lookup x = some .local := by first | exact .inl rfl | exact .inr rfl) :
    WR X m H0 H ρ G D (.Assign [.Name x p'] (.Dict [some (.Constant (.str "->") j1 px), some (.Constant (.str "<-") j2 py)] [v1, v2] pz) pos :: rest) := fun σ H1 at_ =>
  ws_cons (ps_set hN hi hx (pe_disp (pps_cons pe_str pe_r (pps_cons pe_str pe_r pps_nil)) rfl rfl (fun z => by cases z) (by show 2 ≤ 15; decide)) hs hf) (fun p hp => by
    have e1 : Ek m H1 (upd H1 p (.dK [])) := Ek.new at_.mo hp
    refine h1 σ _ (at_.go e1) _ fun a1 x1 H2 φ1 e2 ax1 => h2 σ _ ((at_.go e1).go e2) _ fun a2 x2 H3 φ2 e3 ax2 => ?_
    subst φ1 φ2
    have n1 : m ≠ some p := at_.mo.ne hp
    have at3 := ((at_.go e1).go e2).go e3
    have hd : H3 p = some (.dK []) := ((e2.trans e3) p _ upd_same).1 n1
    refine ⟨hd, [(.inr "->", x1), (.inr "<-", x2)], rfl, by show 2 ≤ 15; decide, ?_⟩
    have em : mergeK [] ([(.inr "->", x1), (.inr "<-", x2)] : List (Key × V)) = ([(.inr "->", x1), (.inr "<-", x2)] : List (Key × V)) := by
      show putK (putK ([] : List (Key × V)) (Sum.inr "->" : Key) x1) (Sum.inr "<-" : Key) x2 = _
      have : putK ([] : List (Key × V)) (Sum.inr "->" : Key) x1 = [(.inr "->", x1)] := rfl
      rw [this]
      unfold putK
      rw [List.any_cons, show decide ((Sum.inr "->" : Key) = .inr "<-") = false from decide_eq_false fun q => ar_ne (Sum.inr.inj q), List.any_nil, Bool.false_or, if_neg (by decide)]
      rfl
    rw [em]
    have av1 : It X.K H3 x1 f0 := It.tx (e3.tx ((at_.go e1).go e2).mo) ax1
    have tx : ∀ o', Tx X.K H3 (upd H3 p o') := fun o' => Kp.tx (Kp.upd (o := o')) hd trivial
    have g1 : ∀ o', Ek m H1 (upd H3 p o') := fun o' => Ek.mut at_.mo ((e1.trans e2).trans e3) hp
    have at4 := at_.go (g1 (.dK [(.inr "->", x1), (.inr "<-", x2)]))
    exact k p _ (at_.ek.back kH hp) at4.ek at4.mo at4.ek0 ⟨n1, x1, x2, upd_same, av1.tx (tx _), It.tx (tx _) ax2⟩ _ _ ⟨.refl _, at4.ek0, at4.mo, at4.en.set i (a := .r (.ref p)) rfl rfl⟩)
end
end K38
end
section
/-! comprehensions, isinstance, enumerate and zip of tuples -/
namespace K38
open PySem L2
/-! ### comprehensions -/
theorem wipe_set_ne {x : Option V} {i : Nat} : ∀ {vs : List Nat} {σ : L2.St}, i ∉ vs → wipe (σ.set i x) vs = (wipe σ vs).set i x
  | [], _, _ => rfl
  | v :: vs, σ, h => by
    have h1 : i ≠ v := fun q => h (by rw [q]; exact List.mem_cons_self)
    have h2 : i ∉ vs := fun q => h (List.mem_cons_of_mem _ q)
    show (wipe (σ.set i x) vs).set v none = ((wipe σ vs).set v none).set i x
    rw [wipe_set_ne h2, List.set_comm _ _ h1]
theorem wipe_set {x : Option V} {i : Nat} : ∀ {vs : List Nat} {σ : L2.St}, i ∈ vs → wipe (σ.set i x) vs = wipe σ vs
  | v :: vs, σ, h => by
    show (wipe (σ.set i x) vs).set v none = (wipe σ vs).set v none
    by_cases c : i ∈ vs
    · rw [wipe_set c]
    · rcases List.mem_cons.mp h with e | e
      · subst e; rw [wipe_set_ne c, List.set_set]
      · exact absurd e c
theorem wipe_wipe : ∀ {vs us : List Nat} {σ : L2.St}, (∀ i ∈ us, i ∈ vs) → wipe (wipe σ us) vs = wipe σ vs
  | vs, [], _, _ => rfl
  | vs, u :: us, σ, h => by
    show wipe ((wipe σ us).set u none) vs = wipe σ vs
    rw [wipe_set (h u List.mem_cons_self), wipe_wipe fun i hi => h i (List.mem_cons_of_mem _ hi)]
def wipeR (ρ : Ro) : List Nat → Ro
  | [] => ρ
  | v :: vs => (wipeR ρ vs).set v none
section
variable {X : Cx} {m : Mo} {H0 H : Hp} {ρ : Ro} {G : Gh} {e a b c : Expr} {pos : Pos} {rest : List Stmt} {D : Ends}
theorem En.unset {K : PySem.W.Frag} {H1 : Hp} {σ : L2.St} (E : En K m H0 H1 σ ρ G) (i : Nat) : En K m H0 H1 (σ.set i none) (ρ.set i none) G :=
  ⟨by simp [E.len], fun j b hj => by
    by_cases c : i = j
    · subst c
      by_cases hl : i < ρ.length
      · rw [List.getElem?_set_self hl] at hj; cases hj
      · rw [List.getElem?_eq_none (by simp; omega)] at hj; cases hj
    · rw [List.getElem?_set_ne c] at hj
      obtain ⟨w, h1, h2⟩ := E.at_ j b hj
      exact ⟨w, by rw [List.getElem?_set_ne c]; exact h1, h2⟩, E.gh, fun j b hj => by
    by_cases c : i = j
    · subst c
      by_cases hl : i < ρ.length
      · rw [List.getElem?_set_self hl] at hj; cases hj
      · rw [List.getElem?_eq_none (by simp; omega)] at hj; cases hj
    · rw [List.getElem?_set_ne c] at hj
      exact E.kp j b hj, E.gkp⟩
theorem En.wipe {K : PySem.W.Frag} {H1 : Hp} {σ : L2.St} (E : En K m H0 H1 σ ρ G) : ∀ vs : List Nat, En K m H0 H1 (wipe σ vs) (wipeR ρ vs) G
  | [] => E
  | v :: vs => (E.wipe vs).unset v
theorem At.wipe {σ : L2.St} {H1 : Hp} (h : At X m H0 H ρ G σ H1) (vs : List Nat) : At X m H0 H (wipeR ρ vs) G (L2.wipe σ vs) H1 := ⟨h.ek, h.ek0, h.mo, h.en.wipe vs⟩
abbrev Bk (X : Cx) (sc : Scope) (s : Shared) (Hb : Hp) (C : Addr) (cl : List (Str × Addr)) (fp : List Addr) : Cx := X.blk s Hb sc (compEnvC sc cl C X.env) fp
def bE (X : Cx) (sc : Scope) (e : Expr) : TE := fun σ H Q => ∀ s Hb C cl fp, rE (Bk X sc s Hb C cl fp) e σ H Q
def bT (X : Cx) (sc : Scope) (e : Expr) : TT := fun σ H Q => ∀ s Hb C cl fp, rT (Bk X sc s Hb C cl fp) e σ H Q
def bG (X : Cx) (sc : Scope) (e : Expr) : TG := fun v σ H Q => ∀ s Hb C cl fp, rG (Bk X sc s Hb C cl fp) e v σ H Q
theorem pe_b {sc : Scope} (s Hb C cl fp) : PE (Bk X sc s Hb C cl fp) e (bE X sc e) := ⟨fun pins s' σ H Q I h => pe_r.run pins s' σ H Q I (h s Hb C cl fp)⟩
theorem pt_b {sc : Scope} (s Hb C cl fp) : PT (Bk X sc s Hb C cl fp) e (bT X sc e) := ⟨fun pins s' σ H Q I h => pt_r.run pins s' σ H Q I (h s Hb C cl fp)⟩
theorem pg_b {sc : Scope} (s Hb C cl fp) : PG (Bk X sc s Hb C cl fp) e (bG X sc e) := ⟨fun pins s' σ H v u Q I r h => pg_r.run pins s' σ H v u Q I r (h s Hb C cl fp)⟩
/-- a target whose slots are among vs -/
def JGw (X : Cx) (m : Mo) (H0 : Hp) (vs : List Nat) (tg : Expr) (d : I) (ρ ρ2 : Ro) : Prop := ∀ σ H1 G v, En X.K m H0 H1 σ ρ G → Mok m H1 → It X.K H1 v d → ∀ Q : L2.St → Hp → Prop, (∀ σ2, En X.K m H0 H1 σ2 ρ2 G → wipe σ2 vs = wipe σ vs → Q σ2 H1) → rG X tg v σ H1 Q
def JGsw (X : Cx) (m : Mo) (H0 : Hp) (vs : List Nat) (ts : List Expr) (ds : List I) (ρ ρ2 : Ro) : Prop := ∀ σ H1 G us, En X.K m H0 H1 σ ρ G → Mok m H1 → ItL X.K H1 us ds → ∀ Q : L2.St → Hp → Prop, (∀ σ2, En X.K m H0 H1 σ2 ρ2 G → wipe σ2 vs = wipe σ vs → Q σ2 H1) → rGs X ts us σ H1 Q
theorem jgw_name (i : Nat) {vs : List Nat} {x : Str} {d : I} (hN : X.N.Nodup) (hv : i ∈ vs) (hi : X.N[i]? = some x := by rfl) (hx : Loc X.env.scope x := by first | exact Or.inl rfl | exact Or.inr rfl) (hf : X.fn x = true ∨ X.env.scope.names.lookup x = some .local := by first | exact .inl rfl | exact .inr rfl) :
    JGw X m H0 vs (.Name x pos) d ρ (ρ.set i (some (.i d))) := fun σ H1 G v en k it Q q => ⟨_, pg_name hN hi hx hf, q _ (en.set i (a := .i d) it rfl) (wipe_set hv)⟩
theorem jgsw_nil {vs : List Nat} : JGsw X m H0 vs [] [] ρ ρ := fun σ H1 G vs en k it Q q => ⟨_, pgs_nil, by have := it.1; simpa using this, q σ en rfl⟩
theorem jgsw_cons {vs : List Nat} {e : Expr} {es : List Expr} {d : I} {ds : List I} {ρ1 ρ2 : Ro} (h : JGw X m H0 vs e d ρ ρ1) (t : JGsw X m H0 vs es ds ρ1 ρ2) (hs : (assignEach (e :: es) X.env).map (·.2) = assign e X.env :: (assignEach es X.env).map (·.2) := by rfl) : JGsw X m H0 vs (e :: es) (d :: ds) ρ ρ2 := fun σ H1 G us en k it Q q => by
  refine ⟨_, pgs_cons pg_r pgs_r hs, ?_⟩
  cases us with
  | nil => have := it.1; simp at this
  | cons v us =>
    have it2 : ItL X.K H1 us ds := ⟨by have := it.1; simpa using this, fun i v e a b => it.2 (i + 1) v e a b⟩
    exact ⟨v, us, rfl, h σ H1 G v en k (it.2 0 v d rfl rfl) _ fun σ2 en2 w2 => t σ2 H1 G us en2 k it2 Q fun σ3 en3 w3 => q σ3 en3 (w3.trans w2)⟩
theorem jgw_tup {vs : List Nat} {es : List Expr} {kk : Nat} {ds : List I} {ρ2 : Ro} (hc : X.calm = true) (h : JGsw X m H0 vs es ds ρ ρ2) (hl : (assignEach es X.env).length = ds.length := by rfl) (hst : (assignEach es X.env).findIdx? (·.1) = none := by rfl) : JGw X m H0 vs (.Tuple es kk pos) (.tup ds) ρ ρ2 := fun σ H1 G v en k it Q q => by
  obtain ⟨p, xs, rfl, hs, t⟩ := it.un
  exact ⟨_, pg_tup hc pgs_r rfl hst, p, xs, rfl, hs, by rw [t.1, hl], h σ H1 G xs en k t Q q⟩
/-- the reading of a comprehension makes the list -/
def Lc (X : Cx) (m : Mo) (H0 H : Hp) (ρ : Ro) (G : Gh) (t : TE) (R : List I → Prop) : Prop := ∀ σ H1, At X m H0 H ρ G σ H1 → ∀ Q : VK, (∀ ds p H2, R ds → H1 p = none → Ek m H1 H2 → Own m X.K H2 p ds → Q (.ref p) H2) → t σ H1 Q
/-- one turn -/
structure Lt (X : Cx) (m : Mo) (H0 H : Hp) (ρ : Ro) (G : Gh) (sc : Scope) (vs : List Nat) (tg elt : Expr) (tt : TT) (d : I) (sel : Bool) (Φ : I → Prop) : Prop where
  ex : ∃ ρ2, (∀ s Hb C cl fp, JGw (Bk X sc s Hb C cl fp) m H0 vs tg d (wipeR ρ vs) ρ2) ∧
    (∀ σ H1, At X m H0 H ρ2 G σ H1 → ∀ Q : Bool → Hp → Prop, (∀ H2, Ek m H1 H2 → Q sel H2) → tt σ H1 Q) ∧
    (sel = true → ∀ s Hb C cl fp, J (Bk X sc s Hb C cl fp) m H0 H ρ2 G elt (fun x => ∃ d', Φ d' ∧ A.i d' = x))
/-- .. without a condition -/
theorem Lt.all {sc : Scope} {vs : List Nat} {tg elt : Expr} {d : I} {Φ : I → Prop} {ρ2 : Ro} (h1 : ∀ s Hb C cl fp, JGw (Bk X sc s Hb C cl fp) m H0 vs tg d (wipeR ρ vs) ρ2) (h2 : ∀ s Hb C cl fp, J (Bk X sc s Hb C cl fp) m H0 H ρ2 G elt (fun x => ∃ d', Φ d' ∧ A.i d' = x)) :
    Lt X m H0 H ρ G sc vs tg elt tYes d true Φ := ⟨ρ2, h1, fun σ H1 at_ Q q => q H1 (.refl _), fun _ => h2⟩
/-- .. with one -/
theorem Lt.sel {sc : Scope} {vs : List Nat} {tg elt c : Expr} {d : I} {p : Bool} {Φ : I → Prop} {ρ2 : Ro} (h1 : ∀ s Hb C cl fp, JGw (Bk X sc s Hb C cl fp) m H0 vs tg d (wipeR ρ vs) ρ2) (hc : ∀ s Hb C cl fp, JT (Bk X sc s Hb C cl fp) m H0 H ρ2 G c (Eq p))
    (h2 : p = true → ∀ s Hb C cl fp, J (Bk X sc s Hb C cl fp) m H0 H ρ2 G elt (fun x => ∃ d', Φ d' ∧ A.i d' = x)) : Lt X m H0 H ρ G sc vs tg elt (bT X sc c) d p Φ :=
  ⟨ρ2, h1, fun σ H1 at_ Q q s Hb C cl fp => hc s Hb C cl fp σ H1 ⟨at_.ek, at_.ek0, at_.mo, at_.en⟩ Q fun b H2 φ e => by subst φ; exact q H2 e, h2⟩
theorem pts_b {sc : Scope} {c : Expr} (s Hb C cl fp) : PTs (Bk X sc s Hb C cl fp) [c] (bT X sc c) := pts_one (pt_b s Hb C cl fp)
/-- what holds of the list behind turn i -/
structure LcW (X : Cx) (m : Mo) (H1 : Hp) (D : Addr) (R : Nat → List I → Prop) (i : Nat) (H' : Hp) : Prop where
  ek : Ek m H1 H'
  ex : ∃ ys es, H' D = some (.lst ys) ∧ ItL X.K H' ys es ∧ R i es
theorem lc_turn {sc : Scope} {vs : List Nat} {tg elt : Expr} {tt : TT} {d : I} {sel : Bool} {Φ : I → Prop} {σ : L2.St} {H1 H' : Hp} {Da : Addr} {v : V} {i : Nat} {R : Nat → List I → Prop} (at_ : At X m H0 H ρ G σ H1) (hD : H1 Da = none) (w : LcW X m H1 Da R i H') (it : It X.K H' v d)
    (hR : ∀ es, R i es → es.length < 1000 ∧ (sel = true → ∀ d', Φ d' → R (i + 1) (es ++ [d'])) ∧ (sel = false → R (i + 1) es)) (t : Lt X m H0 H ρ G sc vs tg elt tt d sel Φ) :
    bG X sc tg v (wipe σ vs) H' fun σ2 H2 => wipe σ2 vs = wipe σ vs ∧ tt σ2 H2 fun b H3 => if b = true then bE X sc elt σ2 H3 fun y H4 => ∃ acc, H4 Da = some (.lst acc) ∧ acc.length < sizeLine ∧ LcW X m H1 Da R (i + 1) (upd H4 Da (.lst (acc ++ [y]))) else LcW X m H1 Da R (i + 1) H3 := by
  obtain ⟨ρ2, h1, h2, h3⟩ := t.ex
  obtain ⟨ek, ys, es, hy, ty, r⟩ := w
  obtain ⟨hlen, hT, hF⟩ := hR es r
  have at' : At X m H0 H (wipeR ρ vs) G (wipe σ vs) H' := (at_.go ek).wipe vs
  have nD : m ≠ some Da := at_.mo.ne hD
  intro s Hb C cl fp
  refine h1 s Hb C cl fp (wipe σ vs) H' G v at'.en at'.mo it _ fun σ2 en2 w2 => ⟨by rw [w2, wipe_wipe fun i hi => hi], ?_⟩
  have a2 : At X m H0 H ρ2 G σ2 H' := ⟨at'.ek, at'.ek0, at'.mo, en2⟩
  refine h2 σ2 H' a2 _ fun H3 e3 => ?_
  have hy3 := (e3 Da _ hy).1 nD
  cases hs : sel with
  | true =>
    refine iteT fun s Hb C cl fp => h3 hs s Hb C cl fp σ2 H3 ⟨(a2.go e3).ek, (a2.go e3).ek0, (a2.go e3).mo, (a2.go e3).en⟩ _ fun a v' H4 ⟨d', φ, q⟩ e4 ax => ?_
    subst q
    have hy4 := (e4 Da _ hy3).1 nD
    have ty4 := (ty.tx (e3.tx a2.mo)).tx (e4.tx (a2.go e3).mo)
    have tx : Tx X.K H4 (upd H4 Da (.lst (ys ++ [v']))) := Kp.tx Kp.upd hy4 trivial
    exact ⟨ys, hy4, by rw [ty.1]; exact Nat.lt_of_lt_of_le hlen (by decide), Ek.mut at_.mo ((ek.trans e3).trans e4) hD, _, _, upd_same, (ty4.snoc ax).tx tx, hT hs d' φ⟩
  | false => exact iteF ⟨ek.trans e3, ys, es, hy3, ty.tx (e3.tx a2.mo), hF hs⟩
/-- over a tuple -/
theorem lc_T {ds : List I} {sc : Scope} {vs : List Nat} {tg elt : Expr} {tt : TT} {sel : Nat → I → Bool} {Φ : Nat → I → I → Prop} (R : Nat → List I → Prop) (hit : JI X m H0 H ρ G e (.tup ds)) (r0 : R 0 [])
    (hR : ∀ i d es, ds[i]? = some d → R i es → es.length < 1000 ∧ (sel i d = true → ∀ d', Φ i d d' → R (i + 1) (es ++ [d'])) ∧ (sel i d = false → R (i + 1) es)) (t : ∀ i d, ds[i]? = some d → Lt X m H0 H ρ G sc vs tg elt tt d (sel i d) (Φ i d)) :
    Lc X m H0 H ρ G (tLc (iTup X.K (rE X e)) (bG X sc tg) tt (bE X sc elt) vs) (R ds.length) := fun σ H1 at_ Q q => hit σ H1 at_ _ fun a1 va H2 φ e ax => by
  subst φ
  obtain ⟨p, xs, rfl, h, tl⟩ := It.un ax
  have a2 := at_.go e
  refine ⟨p, rfl, ⟨xs, h⟩, fun Da hD => lc_tup (xs := xs) (LcW X m H2 Da R) ⟨Ek.new a2.mo hD, [], [], upd_same, .nil, r0⟩ (fun i H' _ w => w.ek.tx a2.mo _ _ h) (fun i x H' hx w => ?_) (fun H' w => ?_)⟩
  · obtain ⟨d, hd, itd⟩ := tl.get' hx
    exact lc_turn a2 hD w (itd.tx (w.ek.tx a2.mo)) (fun es r => hR i d es hd r) (t i d hd)
  · obtain ⟨ek, ys, es, hy, ty, r⟩ := w
    rw [tl.1] at r
    exact q es Da H' r (e.back at_.mo hD) (e.trans ek) ⟨a2.mo.ne hD, ys, hy, ty⟩
/-- over a list -/
theorem lc_L {ds : List I} {sc : Scope} {vs : List Nat} {tg elt : Expr} {tt : TT} {sel : Nat → I → Bool} {Φ : Nat → I → I → Prop} (k0 : Mok m H0) (R : Nat → List I → Prop) (hit : J X m H0 H ρ G e (Lk ds)) (r0 : R 0 [])
    (hR : ∀ i d es, ds[i]? = some d → R i es → es.length < 1000 ∧ (sel i d = true → ∀ d', Φ i d d' → R (i + 1) (es ++ [d'])) ∧ (sel i d = false → R (i + 1) es)) (t : ∀ i d, ds[i]? = some d → Lt X m H0 H ρ G sc vs tg elt tt d (sel i d) (Φ i d)) :
    Lc X m H0 H ρ G (tLc (iList X.K (rE X e)) (bG X sc tg) tt (bE X sc elt) vs) (R ds.length) := fun σ H1 at_ Q q => hit σ H1 at_ _ fun a1 va H2 φ e ax => by
  have a2 := at_.go e
  obtain ⟨p, rfl, n, xs, h, tl⟩ := φ.own ax a2.ek0 k0
  refine ⟨p, rfl, ⟨xs, SqL.of h⟩, fun Da hD => lc_list (xs := xs) (LcW X m H2 Da R) ⟨Ek.new a2.mo hD, [], [], upd_same, .nil, r0⟩ (fun i H' _ w => SqL.of ((w.ek p _ h).1 n)) (fun i x H' hx w => ?_) (fun H' w => ?_)⟩
  · obtain ⟨d, hd, itd⟩ := tl.get' hx
    exact lc_turn a2 hD w (itd.tx (w.ek.tx a2.mo)) (fun es r => hR i d es hd r) (t i d hd)
  · obtain ⟨ek, ys, es, hy, ty, r⟩ := w
    rw [tl.1] at r
    exact q es Da H' r (e.back at_.mo hD) (e.trans ek) ⟨a2.mo.ne hD, ys, hy, ty⟩
/-- the plain case: which items, what of each -/
def plR {α : Type} (l : List α) (p : α → Bool) (f : α → I) (i : Nat) (es : List I) : Prop := ((l.take i).filter p).map f = es
def selI {α : Type} (l : List α) (p : α → Bool) (i : Nat) (_ : I) : Bool := match l[i]? with
  | some x => p x
  | none => false
def phiI {α : Type} (l : List α) (f : α → I) (i : Nat) (_ d' : I) : Prop := ∀ x, l[i]? = some x → f x = d'
theorem plR_step {α : Type} {l : List α} {g : α → I} {p : α → Bool} {f : α → I} (hl : l.length < 1000) (i : Nat) (d : I) (es : List I) (hd : (l.map g)[i]? = some d) (r : plR l p f i es) :
    es.length < 1000 ∧ (selI l p i d = true → ∀ d', phiI l f i d d' → plR l p f (i + 1) (es ++ [d'])) ∧ (selI l p i d = false → plR l p f (i + 1) es) := by
  rw [List.getElem?_map] at hd
  cases hx : l[i]? with
  | none => rw [hx] at hd; cases hd
  | some x =>
    have tk : l.take (i + 1) = l.take i ++ [x] := by rw [List.take_succ, hx]; rfl
    unfold selI phiI plR
    unfold plR at r
    rw [hx, tk, List.filter_append, List.map_append, r]
    refine ⟨?_, fun h d' q => ?_, fun h => ?_⟩
    · rw [← r, List.length_map]
      have h1 := List.length_filter_le p (l.take i)
      rw [List.length_take] at h1
      omega
    · rw [← q x rfl, List.filter_cons, if_pos h]; rfl
    · rw [List.filter_cons, if_neg (by show ¬ p x = true; rw [show p x = false from h]; decide)]
      show es ++ [] = es
      rw [List.append_nil]
theorem lt_of {α : Type} {l : List α} {g : α → I} {p : α → Bool} {f : α → I} {sc : Scope} {vs : List Nat} {tg elt : Expr} {tt : TT} (t : ∀ x ∈ l, Lt X m H0 H ρ G sc vs tg elt tt (g x) (p x) (fun d' => f x = d')) (i : Nat) (d : I) (hd : (l.map g)[i]? = some d) : Lt X m H0 H ρ G sc vs tg elt tt d (selI l p i d) (phiI l f i d) := by
  rw [List.getElem?_map] at hd
  cases hx : l[i]? with
  | none => rw [hx] at hd; cases hd
  | some x =>
    rw [hx] at hd
    cases hd
    have e1 : selI l p i (g x) = p x := by unfold selI; rw [hx]
    rw [e1]
    obtain ⟨ρ2, h1, h2, h3⟩ := (t x (List.mem_of_getElem? hx)).ex
    exact ⟨ρ2, h1, h2, fun hs s Hb C cl fp => (h3 hs s Hb C cl fp).imp fun a ⟨d', q, e⟩ => ⟨d', fun y hy => by rw [hx] at hy; cases hy; exact q, e⟩⟩
theorem lcm_T {α : Type} (l : List α) (g : α → I) (p : α → Bool) (f : α → I) {sc : Scope} {vs : List Nat} {tg elt : Expr} {tt : TT} (hl : l.length < 1000) (hit : JI X m H0 H ρ G e (.tup (l.map g))) (t : ∀ x ∈ l, Lt X m H0 H ρ G sc vs tg elt tt (g x) (p x) (fun d' => f x = d')) :
    Lc X m H0 H ρ G (tLc (iTup X.K (rE X e)) (bG X sc tg) tt (bE X sc elt) vs) (Eq ((l.filter p).map f)) := fun σ H1 at_ Q q => lc_T (plR l p f) hit rfl (fun i d es hd r => plR_step hl i d es hd r) (lt_of t) σ H1 at_ Q fun ds p' H2 r => q ds p' H2 (by
    unfold plR at r
    rw [List.length_map, List.take_length] at r
    exact r)
theorem lcm_L {α : Type} (l : List α) (g : α → I) (p : α → Bool) (f : α → I) {sc : Scope} {vs : List Nat} {tg elt : Expr} {tt : TT} (k0 : Mok m H0) (hl : l.length < 1000) (hit : J X m H0 H ρ G e (Lk (l.map g))) (t : ∀ x ∈ l, Lt X m H0 H ρ G sc vs tg elt tt (g x) (p x) (fun d' => f x = d')) :
    Lc X m H0 H ρ G (tLc (iList X.K (rE X e)) (bG X sc tg) tt (bE X sc elt) vs) (Eq ((l.filter p).map f)) := fun σ H1 at_ Q q => lc_L k0 (plR l p f) hit rfl (fun i d es hd r => plR_step hl i d es hd r) (lt_of t) σ H1 at_ Q fun ds p' H2 r => q ds p' H2 (by
    unfold plR at r
    rw [List.length_map, List.take_length] at r
    exact r)
theorem lc_eq {t : TE} {ds ds' : List I} (e : ds = ds') (h : Lc X m H0 H ρ G t (Eq ds)) : Lc X m H0 H ρ G t (Eq ds') := by rw [← e]; exact h
/-- as an expression -/
theorem j_lc {own : List (Str × Nat)} {elt tg iter : Expr} {ifs : List Expr} {sc : Scope} {wi : TI} {tt : TT} {R : List I → Prop} (hN : X.N.Nodup) (hc : X.calm = true) (hi : PI X tg iter wi) (h : Lc X m H0 H ρ G (tLc wi (bG X sc tg) tt (bE X sc elt) (own.map (·.2))) R)
    (ht : ∀ s Hb C cl fp, PTs (Bk X sc s Hb C cl fp) ifs tt) {N : List Str} {so : Scope} (ok : blkC N so sc own = true) (hNN : X.N = N := by rfl) (hso : X.env.scope = so := by rfl) (hs : ∀ x, foldedSetIterable iter X.env x = pure x := by intro _; rfl) : J X m H0 H ρ G (.ListComp elt [⟨tg, iter, ifs, 0⟩] sc pos) (fun x => ∃ ds, R ds ∧ A.n ds = x) :=
  fun σ H1 at_ Q q => ⟨_, pe_lc (own := own) hc hN hi (by rw [hNN, hso]; exact blkOk_by ok) (fun s Hb C cl fp => pg_b s Hb C cl fp) ht (fun s Hb C cl fp => pe_b s Hb C cl fp) hs, h σ H1 at_ Q fun ds p H2 r f e o => q _ _ H2 ⟨ds, r, rfl⟩ e ⟨p, rfl, f, o⟩⟩
theorem j_lc1 {own : List (Str × Nat)} {elt tg iter : Expr} {ifs : List Expr} {sc : Scope} {wi : TI} {tt : TT} {ds : List I} (hN : X.N.Nodup) (hc : X.calm = true) (hi : PI X tg iter wi) (h : Lc X m H0 H ρ G (tLc wi (bG X sc tg) tt (bE X sc elt) (own.map (·.2))) (Eq ds))
    (ht : ∀ s Hb C cl fp, PTs (Bk X sc s Hb C cl fp) ifs tt) {N : List Str} {so : Scope} (ok : blkC N so sc own = true) (hNN : X.N = N := by rfl) (hso : X.env.scope = so := by rfl) (hs : ∀ x, foldedSetIterable iter X.env x = pure x := by intro _; rfl) : J X m H0 H ρ G (.ListComp elt [⟨tg, iter, ifs, 0⟩] sc pos) (Eq (.n ds)) :=
  (j_lc hN hc hi h ht ok hNN hso hs).imp fun a ⟨ds', h1, h2⟩ => by subst h1; exact h2
/-- x = [..] -/
theorem wr_setLc (i : Nat) {x : Str} {p' : Pos} {own : List (Str × Nat)} {elt tg iter : Expr} {ifs : List Expr} {sc : Scope} {wi : TI} {tt : TT} {ds : List I} {pos2 : Pos} (hN : X.N.Nodup) (hc : X.calm = true) (hi : PI X tg iter wi) (h : Lc X m H0 H ρ G (tLc wi (bG X sc tg) tt (bE X sc elt) (own.map (·.2))) (Eq ds))
    (ht : ∀ s Hb C cl fp, PTs (Bk X sc s Hb C cl fp) ifs tt) {N : List Str} {so : Scope} (ok : blkC N so sc own = true) (k : ∀ p H1, H p = none → Ek m H H1 → Mok m H1 → Ek m H0 H1 → Own m X.K H1 p ds → WR X m H0 H1 (ρ.set i (some (.r (.ref p)))) G D rest) (h0 : Mok m H)
    (hsw : swapsWith (.ListComp elt [⟨tg, iter, ifs, 0⟩] sc pos) (some (.Name x p')) pos2.line X.env = pure true) (hNN : X.N = N := by rfl) (hso : X.env.scope = so := by rfl)
    (hy : X.N[i]? = some x := by rfl) (hyl : X.env.scope.names.lookup x = some .local := by rfl) (hs : ∀ x, foldedSetIterable iter X.env x = pure x := by intro _; rfl) : WR X m H0 H ρ G D (.Assign [.Name x p'] (.ListComp elt [⟨tg, iter, ifs, 0⟩] sc pos) pos2 :: rest) :=
  fun σ H1 at_ => ws_cons (ps_setLc (i := i) (own := own) hc hN hy hyl hsw hi (by rw [hNN, hso]; exact blkOk_by ok) (fun s Hb C cl fp => pg_b s Hb C cl fp) ht (fun s Hb C cl fp => pe_b s Hb C cl fp) hs) (h σ H1 at_ _ fun ds' p H2 r f e o => by
    subst r
    exact k p H2 (at_.ek.back h0 f) (at_.ek.trans e) (at_.mo.go e) (at_.ek0.trans e) o _ H2 ⟨.refl _, at_.ek0.trans e, at_.mo.go e, (at_.go e).en.set i (a := .r (.ref p)) rfl rfl⟩)

/-! ### isinstance -/
theorem j_isi {T N2 : String} {xT : Str} {p p2 : Pos} {r : Bool} {Φ : A → Prop} (hm : X.mg "isinstance" = none) (hmT : X.mg xT = none) (hvT : bootBuiltins xT = some (.type T)) (ha : J X m H0 H ρ G a Φ) (hk : kitB N2 T = some r)
    (hty : ∀ Hs H1 x a1, At X m H0 H ρ G Hs H1 → Φ a1 → ∀ Hs', Ax X.K m H0 Hs' H1 x a1 → TyX X.K H1 x (.type N2)) (hgT : Gl X xT := by rfl) (hdT : (xT == ("__debug__" : Str)) = false := by decide) (hnT : xT ≠ "__name__" := by decide) (hg : Gl X "isinstance" := by rfl)
    (he : starEach [a, .Name xT p2] X.env = (false, eval a X.env) :: starEach [.Name xT p2] X.env := by rfl) (he2 : starEach [.Name xT p2] X.env = (false, eval (.Name xT p2) X.env) :: starEach [] X.env := by rfl) (hpl : (backTo pos (starEach [.Name xT p2] X.env)).any (·.1) = false := by rfl) :
    JI X m H0 H ρ G (.Call (.Name "isinstance" p) [a, .Name xT p2] [] pos) (.bl r) := fun σ H1 at_ Q q =>
  ⟨_, pe_callB call_isi hg hm (by decide +kernel) (pa_cons pe_r (pa_cons (pe_bltn (v := .ty T) hgT hmT hvT rfl hnT hdT) pa_nil he2) he) (by decide) (by decide) he hpl, ha σ H1 at_ _ fun a1 x H2 φ e ax =>
    ⟨x, .ty T, .type N2, .type T, r, rfl, .ty T, hty σ H2 x a1 (at_.go e) φ _ ax, kit_ty hk, q _ _ H2 rfl e (It.bl r)⟩⟩
end
end K38
end
section
/-! enumerate of a tuple, zip of two tuples -/
namespace K38
open PySem PySem.Spec PyProof.Rows L2
open AutoSeq1 (wpAny_loadPart')
/-- the object that enumerate(t) is -/
def enO (h : Heap) : Obj := { cls := .type "enumerate", data := .fields #[.none, .bool false, .ref h.objs.size, rawInt 0, .none, .none] }
def tiO (t : Addr) : Obj := { cls := .type "tuple_iterator", data := .fields #[.ref t, .int 0 0] }
theorem meets_enT (t : Addr) (items : Array Value) (n : Nat) (dd : Option Addr) (sl : Array (Option Value)) :
    Meets (Builtin.«enumerate.__new__» ⟨[.type "enumerate", .ref t], []⟩) (fun _ R s => s.heap.get? t = some { cls := .type "tuple", dict := dd, data := .seq items n, slots := sl } ∧
      R (.ok (.ret (.ref (s.heap.push (tiO t)).objs.size))) { s with heap := (s.heap.push (tiO t)).push (enO s.heap) }) :=
  .of_wp fun prog w Ar R s hyp => by
    obtain ⟨hp, gg, dr, tk, os⟩ := s
    obtain ⟨hl, hyp⟩ := hyp
    have hsub := sub_enumerate
    have hT : Heap.IsTuple (Shared.heap ⟨hp, gg, dr, tk, os⟩) t items := ⟨_, hl, rfl, n, rfl⟩
    wp_walk using wpAny_loadPart' hl
    refine wpAny_stack_any fun stk => wpAny_pure ?_
    split
    · rename_i c _ _ _ _ _
      cases (c == Value.type "enumerate") <;> (wp_walk using wpAny_loadPart' hl, wpAny_pyIter_tuple hT; exact ⟨_, rfl, hyp⟩)
    · wp_walk using wpAny_loadPart' hl, wpAny_pyIter_tuple hT
      exact ⟨_, rfl, hyp⟩
theorem call_enT {prog : Program} {w : World} {Ar : Around} {E : Value → Shared → Prop} {s : Shared} {t : Addr} {items : Array Value} {Q : Value → Shared → Prop} (hT : s.heap.IsTuple t items)
    (k : ∀ h', IsEnum h' (s.heap.objs.size + 1) s.heap.objs.size 0 .none → h'.IsTupleIter s.heap.objs.size t 0 → (∀ b o, s.heap.get? b = some o → h'.get? b = some o) → Q (.ref (s.heap.objs.size + 1)) { s with heap := h' }) :
    wpAny (model prog w) Ar (call (.type "enumerate") [.ref t]) Q E s := by
  obtain ⟨⟨c, dd, dt, sl⟩, hl, hc, n, hd⟩ := hT
  cases (show c = .type "tuple" from hc)
  cases (show dt = .seq items n from hd)
  refine callType_new F.called_enumerate (by decide) (F.typeCall_enumerate_1 _) (F.newCall_enumerate_1 _) (fun ob => F.args_object_init_2 ob _) F.entry_enumerate_new (meets_enT t items n dd sl) ⟨hl, ?_⟩
  have sz : (s.heap.push (tiO t)).objs.size = s.heap.objs.size + 1 := Heap.size_push ..
  show _ ∧ _
  rw [sz]
  have en : IsEnum ((s.heap.push (tiO t)).push (enO s.heap)) (s.heap.objs.size + 1) s.heap.objs.size 0 .none := by
    have := Heap.get?_push_size (s.heap.push (tiO t)) (o := enO s.heap) rfl
    rw [sz] at this
    exact this
  exact ⟨⟨_, en, rfl⟩, k _ en ⟨_, Heap.get?_push_of_some _ (Heap.get?_push_size _ rfl), rfl, rfl⟩ fun b o x => Heap.get?_push_of_some _ (Heap.get?_push_of_some _ x)⟩
/-- the turns of enumerate(t): a new pair each -/
def ItE (K : PySem.W.Frag) (t : Addr) : L2.It :=
  ⟨fun i H => ∃ xs x, SqT K H t xs ∧ xs[i]? = some x, fun i H v H' => ∃ T x, v = .ref T ∧ H T = none ∧ H' = upd H T (.tup [.int (i : Nat), x]) ∧ ∀ xs, SqT K H t xs → xs[i]? = some x,
    fun i H => ∃ xs : List V, SqT K H t xs ∧ xs.length = i⟩
theorem turn_enT {P : Program} {w : World} {K : PySem.W.Frag} {elts : List Expr} {kk : Nat} {tpos : Pos} (t e it : Addr) (hti : t ≠ it) (hte : e ≠ t) :
    Turn P w K (.Tuple elts kk tpos) (ItE K t) [e, it] e (fun i h => (∃ old, IsEnum h e it ((i : Nat) : Int) old) ∧ h.IsTupleIter it t i ∧ e ≠ it) where
  mem := List.mem_cons_self
  obj := fun i h st b hb => by
    obtain ⟨⟨old, he⟩, ⟨ob, ho, _, hd⟩, _⟩ := st
    rcases List.mem_cons.mp hb with z | z
    · subst z
      exact ⟨_, he, fun v q => nomatch q⟩
    · rw [List.mem_singleton] at z
      subst z
      exact ⟨ob, ho, fun v q => by rw [hd] at q; cases q⟩
  keep := fun i h h' st k => by
    obtain ⟨⟨old, he⟩, hi, ne⟩ := st
    exact ⟨⟨old, k e List.mem_cons_self _ he⟩, hi.at fun o q => k it (by simp) o q, ne⟩
  item := by
    intro X hP hw hK hc i pins s σ H E I hf st hg
    subst hP hw hK
    obtain ⟨⟨old, he⟩, hit, ne⟩ := st
    obtain ⟨xs, x, hq, hx⟩ := hg
    obtain ⟨its, rv, tp, _⟩ := I.tuple hq
    obtain ⟨u, hu, ru⟩ := rv.get hx
    have le : e < s.heap.objs.size := Heap.lt_size he
    have li : it < s.heap.objs.size := by
      obtain ⟨_, q, _⟩ := hit
      exact Heap.lt_size q
    have hin : i < its.toArray.size := by simpa using (List.getElem?_eq_some_iff.mp hu).1
    refine wpAny_pyNext_enum_itemD (Draws.tuple (A := X.A.in1) (I.ok.hd hc) it t hti its.toArray) he ⟨hit, tp⟩ hin ne (by simp [ne, hte]) fun y h' tk hy out st' hT hsz kp => ?_
    have ey : y = u := by
      have hu' : its.toArray[i]? = some u := by simpa using hu
      rw [hu'] at hy
      exact (Option.some.inj hy).symm
    subst ey
    refine ⟨_, rfl, wpAny_letOwnedTupleGo_enum (s := { s with heap := h', toks := tk + 1 }) out fun h2 he2 sb => ?_⟩
    have hT2 := (sb.2 _ (Nat.ne_of_gt le)).trans hT
    have nw : ObjOk X.prog X.w (upd H s.heap.objs.size (.tup [.int (i : Nat), x])) h2 s.heap.objs.size (.tup [.int (i : Nat), x]) :=
      ⟨show 2 ≤ sizeLine by decide, _, .cons ⟨_, rfl⟩ (.cons ru .nil), _, hT2, rfl, _, rfl⟩
    have I2 : Inv X pins σ (upd H s.heap.objs.size (.tup [.int (i : Nat), x])) { s with heap := h2, toks := tk + 1 } :=
      I.turnedNew (ch := [e, it]) (fun b o hb q => (sb.2 b fun z => hb (by rw [z]; exact List.mem_cons_self)).trans (kp b o (fun z => hb (by rw [z]; exact List.mem_cons_self)) (fun z => hb (by rw [z]; simp)) q)) hf (Nat.le_refl _) nw
    refine ⟨.ref s.heap.objs.size, _, I2, rfl, ⟨_, x, rfl, I.hok.fresh (Nat.le_refl _), rfl, fun ys hys => by rw [I.tuple_inj hys hq]; exact hx⟩, ⟨⟨y, ?_⟩, st'.1.at fun o q => (sb.2 it (Ne.symm ne)).trans q, ne⟩, fun b hb => ?_⟩
    · have e1 : ((i + 1 : Nat) : Int) = (i : Int) + 1 := rfl
      rw [e1]
      exact he2
    · have hlt : b < s.heap.objs.size := by
        rcases List.mem_cons.mp hb with z | z
        · rw [z]; exact le
        · rw [List.mem_singleton] at z; rw [z]; exact li
      rw [upd_ne (Nat.ne_of_lt hlt)]
      exact (hf b hb).1
  done := by
    intro X hP hw hK hc i pins s σ H E I hf st hg
    subst hP hw hK
    obtain ⟨⟨old, he⟩, hit, ne⟩ := st
    obtain ⟨xs, hq, hx⟩ := hg
    obtain ⟨its, rv, tp, _⟩ := I.tuple hq
    obtain ⟨f0, f1, f2, f3, f4, f5⟩ := hf it (by simp)
    have sz : its.toArray.size = i := by
      have := rv.length
      rw [List.size_toArray]
      omega
    subst sz
    exact wpAny_pyNext_enum_endD (Draws.tuple (A := X.A.in1) (I.ok.hd hc) it t hti its.toArray) he ⟨hit, tp⟩ fun h' eb => ⟨rfl, I.turned (t' := s.toks) (fun b o hb q => eb b o hb q) f0 f1 f3 f4 f5⟩
  self := fun Ar i s Q E st h => by
    obtain ⟨⟨_, he⟩, _⟩ := st
    exact wpAny_pyIter_enum he h
def iEnT (K : PySem.W.Frag) (ta : TA) : TI := fun σ H R => ta σ H fun vs H1 => ∃ t xs, vs = [.ref t] ∧ SqT K H1 t xs ∧ R (ItE K t) H1
theorem pi_enT {X : Cx} {e : Expr} {ta : TA} {p pos tpos : Pos} {elts : List Expr} {kk : Nat} (hg : Gl X "enumerate") (hm : X.mg "enumerate" = none) (ha : PA X [e] ta) (hs : starEach [e] X.env = [(false, eval e X.env)] := by rfl) :
    PI X (.Tuple elts kk tpos) (.Call (.Name "enumerate" p) [e] [] pos) (iEnT X.K ta) := by
  refine ⟨fun pins s σ H R inv h => Call_ (ld_blt inv hg hm boot_enumerate (PyProof.Rows.callWith_type1 (thn (ha.run pos pins s σ H _ inv h) fun us s1 ⟨vs, H1, I1, r1, q1⟩ => ?_) hs rfl))⟩
  obtain ⟨t, xs, ex, hq, q⟩ := q1
  subst ex
  obtain ⟨u, rfl, ru⟩ := vals1 r1
  cases (show u = Value.ref t from ru)
  obtain ⟨its, _, tp, _⟩ := I1.tuple hq
  refine call_enT tp fun h' en hit kp => wpAny_pyIter_enum en ?_
  have lt : t < s1.heap.objs.size := tp.lt
  have I2 : Inv X pins σ H1 { s1 with heap := h' } := I1.kept (t' := s1.toks) kp
  refine ⟨s1.heap.objs.size + 1, [s1.heap.objs.size + 1, s1.heap.objs.size], _, _, H1, rfl, I2, turn_enT t (s1.heap.objs.size + 1) s1.heap.objs.size (Nat.ne_of_lt lt) (Ne.symm (Nat.ne_of_lt (Nat.lt_succ_of_lt lt))), ⟨⟨.none, en⟩, hit, Nat.succ_ne_self _⟩, fun b hb => ?_, q⟩
  have low : s1.heap.objs.size ≤ b := by
    rcases List.mem_cons.mp hb with z | z
    · rw [z]; exact Nat.le_succ _
    · rw [List.mem_singleton] at z; rw [z]; exact Nat.le_refl _
  exact I1.fpOk low (I1.hok.fresh low)
section
variable {X : Cx} {m : Mo} {H0 H : Hp} {ρ : Ro} {G : Gh} {e : Expr} {pos : Pos} {rest body : List Stmt} {D : Ends}
/-- for i, x in enumerate(a tuple) -/
theorem wr_forE {ds : List I} {elts : List Expr} {kk : Nat} {px pc pt : Pos} (hm : X.mg "enumerate" = none) (hit : JI X m H0 H ρ G e (.tup ds)) (R : Nat → Ro) (Iv : Nat → Hp → Prop) (hc : X.calm = true) (h0s : Sub (R 0) ρ) (h0 : ∀ H1, Ek m H H1 → Mok m H1 → Iv 0 H1)
    (hI : ∀ i H1 H2, Ek m H1 H2 → Mok m H1 → Iv i H1 → Iv i H2)
    (turn : ∀ i d g H1, ds[i]? = some d → Iv i H1 → Ek m H0 H1 → Mok m H1 → Gh.firm [g] = true → ∃ ρ2, JG X m H0 (.Tuple elts kk pt) (.tup [.int (i : Nat), d]) (R i) ρ2 ∧ WR X m H0 H1 ρ2 (g :: G) (Lp X m H0 (g :: G) R Iv (i + 1) (Dn X rest D)) body)
    (done : ∀ H1, Iv ds.length H1 → Ek m H0 H1 → Mok m H1 → WR X m H0 H1 (R ds.length) G D rest) (hg : Gl X "enumerate" := by rfl) (hst : starEach [e] X.env = [(false, eval e X.env)] := by rfl) (hst2 : starEach [e] X.env = (false, eval e X.env) :: starEach [] X.env := by rfl)
    (hp : PassesOwn (model X.prog X.w) X.A X.env X.xe := by exact PassesOwn.never) (hs : ∀ x, foldedSetIterable (.Call (.Name "enumerate" px) [e] [] pc) X.env x = pure x := by intro _; rfl) : WR X m H0 H ρ G D (.For (.Tuple elts kk pt) (.Call (.Name "enumerate" px) [e] [] pc) body [] pos :: rest) := fun σ H1 at_ =>
  ws_cons (ps_for hp hc (pi_enT hg hm (pa_cons pe_r pa_nil hst2) hst) pg_r pss_r hs) (hit σ H1 at_ _ fun a1 va H2 φ e ax => by
    subst φ
    obtain ⟨p, xs, rfl, h, t⟩ := It.un ax
    have k2 := at_.mo.go e
    refine ⟨p, xs, rfl, h, fun i n σ' H' => n = xs.length - i ∧ i ≤ xs.length ∧ Tn X m H0 ((.ref p, .t xs ds) :: G) R Iv i σ' H', ⟨_, rfl, Nat.zero_le _, h0 H2 (at_.ek.trans e) k2, at_.ek0.trans e, k2, ((at_.go e).en.sub h0s).ghost (a := .t xs ds) ⟨p, rfl, h, t⟩ rfl⟩, ?_⟩
    rintro i n σ' H' ⟨rfl, hle, hI1, ek0, mo, en⟩
    obtain ⟨_, ep, hq, tq⟩ := en.gh _ (List.mem_cons_self)
    cases ep
    by_cases c : i = xs.length
    · subst c
      refine .inl ⟨⟨xs, hq, rfl⟩, ?_⟩
      rw [t.1] at hI1 en
      exact done H' hI1 ek0 mo σ' H' ⟨.refl _, ek0, mo, en.unghost⟩
    · have lt : i < xs.length := by omega
      refine .inr ⟨⟨xs, xs[i], hq, List.getElem?_eq_getElem lt⟩, Tn X m H0 ((.ref p, .t xs ds) :: G) R Iv (i + 1), fun σ2 H2 tn => ⟨xs.length - (i + 1), by omega, rfl, by omega, tn⟩, ?_⟩
      rintro y H3 ⟨T, x, rfl, hT, rfl, hx⟩
      have hx := hx xs hq
      obtain ⟨d, hd, itd⟩ := tq.get' hx
      have ek3 : Ek m H' (upd H' T (.tup [.int (i : Nat), x])) := Ek.new mo hT
      have mo3 := mo.go ek3
      obtain ⟨ρ2, hg2, w⟩ := turn i d (.ref p, .t xs ds) _ hd (hI i _ _ ek3 mo hI1) (ek0.trans ek3) mo3 rfl
      exact hg2 σ' _ _ _ (en.ek ek3 mo) mo3 (It.mk (SqT.of upd_same) (.cons (It.int _) (.cons (itd.tx (ek3.tx mo)) .nil))) _ fun σ2 en2 => w σ2 _ ⟨.refl _, ek0.trans ek3, mo3, en2⟩)
/-- for a, b in zip(two tuples of one length) -/
theorem wr_forZ {ds es : List I} {e2 : Expr} {elts : List Expr} {kk : Nat} {px pc pt : Pos} (hm : X.mg "zip" = none) (hit : JI X m H0 H ρ G e (.tup ds)) (hit2 : JI X m H0 H ρ G e2 (.tup es)) (hl : ds.length = es.length) (R : Nat → Ro) (Iv : Nat → Hp → Prop) (hc : X.calm = true) (h0s : Sub (R 0) ρ) (h0 : ∀ H1, Ek m H H1 → Mok m H1 → Iv 0 H1)
    (hI : ∀ i H1 H2, Ek m H1 H2 → Mok m H1 → Iv i H1 → Iv i H2)
    (turn : ∀ i d d2 g g2 H1, ds[i]? = some d → es[i]? = some d2 → Iv i H1 → Ek m H0 H1 → Mok m H1 → Gh.firm [g] = true → Gh.firm [g2] = true → ∃ ρ2, JG X m H0 (.Tuple elts kk pt) (.tup [d, d2]) (R i) ρ2 ∧ WR X m H0 H1 ρ2 (g :: g2 :: G) (Lp X m H0 (g :: g2 :: G) R Iv (i + 1) (Dn X rest D)) body)
    (done : ∀ H1, Iv ds.length H1 → Ek m H0 H1 → Mok m H1 → WR X m H0 H1 (R ds.length) G D rest) (hg : Gl X "zip" := by rfl) (hst : starEach [e, e2] X.env = (false, eval e X.env) :: starEach [e2] X.env := by rfl) (hst2 : starEach [e2] X.env = (false, eval e2 X.env) :: starEach [] X.env := by rfl)
    (hpl : (backTo pc (starEach [e2] X.env)).any (·.1) = false := by rfl)
    (hp : PassesOwn (model X.prog X.w) X.A X.env X.xe := by exact PassesOwn.never) (hs : ∀ x, foldedSetIterable (.Call (.Name "zip" px) [e, e2] [] pc) X.env x = pure x := by intro _; rfl) : WR X m H0 H ρ G D (.For (.Tuple elts kk pt) (.Call (.Name "zip" px) [e, e2] [] pc) body [] pos :: rest) := fun σ H1 at_ =>
  ws_cons (ps_for hp hc (RZ.pi_zipA hg hm (pa_cons pe_r (pa_cons pe_r pa_nil hst2) hst) hst hpl) pg_r pss_r hs) (hit σ H1 at_ _ fun a1 va H2 φ e ax => hit2 σ H2 (at_.go e) _ fun a2 vb H3 φ2 e' ay => by
    subst φ φ2
    have at3 := (at_.go e).go e'
    obtain ⟨p, xs, rfl, h, t⟩ := It.un (It.tx (e'.tx (at_.go e).mo) ax)
    obtain ⟨p2, ys, rfl, h2, t2⟩ := It.un ay
    have en3 := ((at3.en.sub h0s).ghost (a := .t ys es) ⟨p2, rfl, h2, t2⟩ rfl).ghost (a := .t xs ds) ⟨p, rfl, h, t⟩ rfl
    refine ⟨p, p2, xs, ys, rfl, .inr ⟨h, h2, RZ.for_zipT (xs := xs) (ys := ys) (by rw [t.1, t2.1, hl]) (Tn X m H0 ((.ref p, .t xs ds) :: (.ref p2, .t ys es) :: G) R Iv) ⟨h0 H3 at3.ek at3.mo, at3.ek0, at3.mo, en3⟩ (fun i σ' H' tn => ?_) ?_ ?_⟩⟩
    · obtain ⟨_, ep, hq, _⟩ := tn.2.2.2.gh _ (List.mem_cons_self)
      obtain ⟨_, ep2, hq2, _⟩ := tn.2.2.2.gh _ (List.mem_cons_of_mem _ List.mem_cons_self)
      cases ep
      cases ep2
      exact ⟨hq, hq2⟩
    · intro i x y T σ' H' hx hy ⟨hI1, ek0, mo, en⟩ hT
      obtain ⟨_, ep, hq, tq⟩ := en.gh _ (List.mem_cons_self)
      obtain ⟨_, ep2, hq2, tq2⟩ := en.gh _ (List.mem_cons_of_mem _ List.mem_cons_self)
      cases ep
      cases ep2
      obtain ⟨d, hd, itd⟩ := tq.get' hx
      obtain ⟨d2, hd2, itd2⟩ := tq2.get' hy
      have ek3 : Ek m H' (upd H' T (.tup [x, y])) := Ek.new mo hT
      have mo3 := mo.go ek3
      obtain ⟨ρ2, hg2, w⟩ := turn i d d2 (.ref p, .t xs ds) (.ref p2, .t ys es) _ hd hd2 (hI i _ _ ek3 mo hI1) (ek0.trans ek3) mo3 rfl rfl
      exact hg2 σ' _ _ _ (en.ek ek3 mo) mo3 (It.mk (SqT.of upd_same) (.cons (itd.tx (ek3.tx mo)) (.cons (itd2.tx (ek3.tx mo)) .nil))) _ fun σ2 en2 => w σ2 _ ⟨.refl _, ek0.trans ek3, mo3, en2⟩
    · intro σ' H' ⟨hI1, ek0, mo, en⟩
      rw [t.1] at hI1 en
      exact done H' hI1 ek0 mo σ' H' ⟨.refl _, ek0, mo, en.unghost.unghost⟩)
end
end K38
end
section
/-! the data of this program; how a def is taken -/
namespace K38
open PySem L2
/-! ### the data as values -/
def eT (t : Tk) : I := .str t.z
def eTs (ts : List Tk) : I := .tup (ts.map eT)
def eM (m : Msg) : I := .tup [.str (sdS m.1), eTs m.2]
def eMs (ms : List Msg) : I := .tup (ms.map eM)
def eB (b : Bef) : I := .tup [eTs b.1, eTs b.2]
def eS (x : Step) : I := .tup [.str x.1.z, .str (sdS x.2.1), .str (tz x.2.2)]
def eF (p : Fl) : I := .tup [.str (sdS p.1), eT p.2.1, .bl p.2.2]
theorem eT_map (ts : List Tk) : ts.map eT = (ts.map Tk.z).map I.str := by rw [List.map_map]; rfl
/-- a pattern object stands at p -/
def Pat (K : PySem.W.Frag) (C : Addr) (H : Hp) (p : Addr) (b : Bef) (ms : List Msg) : Prop := ∃ dx fs vb vm, H p = some (.ins C dx fs) ∧ fs.lookup ("before" : Str) = some vb ∧ fs.lookup ("messages" : Str) = some vm ∧ It K H vb (eB b) ∧ It K H vm (eMs ms)
theorem Pat.ek {K : PySem.W.Frag} {m : Mo} {C : Addr} {H H' : Hp} {p : Addr} {b : Bef} {ms : List Msg} (h : Pat K C H p b ms) (e : Ek m H H') (k : Mok m H) : Pat K C H' p b ms := by
  obtain ⟨dx, fs, vb, vm, h1, h2, h3, h4, h5⟩ := h
  refine ⟨dx, fs, vb, vm, (e p _ h1).1 (fun c => ?_), h2, h3, h4.tx (e.tx k), h5.tx (e.tx k)⟩
  obtain ⟨o, q, i, j, w⟩ := k p c
  rw [h1, w] at q; cases q

/-! ### what the top has left -/
structure Dh (K : PySem.W.Frag) (mg : Str → Option Value) (n : Str) (st : Stmt) : Prop where
  ex : ∃ f fd, FnP K n st f fd ∧ mg n = some (.ref f)
structure Bi (w : World) (K : PySem.W.Frag) (mg : Str → Option Value) (C : Addr) : Prop where
  opener : ∃ t, mg "OPENER" = some (.str "->" t)
  answerer : ∃ t, mg "ANSWERER" = some (.str "<-" t)
  secrets : ∃ p, mg "SECRETS" = some (.ref p) ∧ ∀ H, SqT K H p [.str "ee", .str "es", .str "se", .str "ss"]
  used : ∃ p, mg "USED_KEYS" = some (.ref p) ∧ (∃ q, KDct K w p "ee" (.ref q) ∧ ∀ H, SqT K H q [.str "oe", .str "ae"]) ∧ (∃ q, KDct K w p "es" (.ref q) ∧ ∀ H, SqT K H q [.str "oe", .str "as"]) ∧
    (∃ q, KDct K w p "se" (.ref q) ∧ ∀ H, SqT K H q [.str "os", .str "ae"]) ∧ ∃ q, KDct K w p "ss" (.ref q) ∧ ∀ H, SqT K H q [.str "os", .str "as"]
  len : mg "len" = none
  range : mg "range" = none
  zip : mg "zip" = none
  enum : mg "enumerate" = none
  list : mg "list" = none
  tuple : mg "tuple" = none
  int : mg "int" = none
  isi : mg "isinstance" = none
  bool : mg "bool" = none
  abs : mg "abs" = none
  cl : Cls K C
  nN : NoAttr K C "name"
  nB : NoAttr K C "before"
  nM : NoAttr K C "messages"

/-! ### a def by its body -/
abbrev XO (P : Program) (w : World) (K : PySem.W.Frag) (mg : Str → Option Value) (base : Heap) (N : List Str) (n : Str) (st : Stmt) (f : Addr) (cdv : Value) (A : Around) (outer : List Env) (s : Shared) (H : Hp) (E : XK) : Cx :=
  (cxOf CX0 P w K mg base N n (defScope st) f cdv A outer s H E).nox
def stR (N : List Str) (as : List A) : Ro := as.map some ++ List.replicate (N.length - as.length) none
theorem axl_at {K : PySem.W.Frag} {m : Mo} {H0 Hs H : Hp} {vs : List V} {as : List A} (h : AxL K m H0 Hs H vs as) : vs.length = as.length ∧ ∀ (i : Nat) a, as[i]? = some a → ∃ v, vs[i]? = some v ∧ Ax K m H0 Hs H v a := by
  induction h with
  | nil => exact ⟨rfl, fun i a e => by simp at e⟩
  | cons h _ ih =>
    refine ⟨by simp [ih.1], fun i a e => ?_⟩
    cases i with
    | zero => simp at e; subst e; exact ⟨_, rfl, h⟩
    | succ i => simp at e; obtain ⟨v, h1, h2⟩ := ih.2 i a e; exact ⟨v, by simpa using h1, h2⟩
theorem en_start {K : PySem.W.Frag} {H : Hp} {N : List Str} {vs : List V} {as : List A} (h : Args K H vs as) (k : ∀ a ∈ as, a.keep = true) : En K none H H (L2.start N vs) (stR N as) [] := by
  obtain ⟨hl, ha⟩ := axl_at h
  have key : ∀ (i : Nat) a, (stR N as)[i]? = some (some a) → as[i]? = some a := fun i a e => by
    unfold stR at e
    by_cases c : i < as.length
    · rw [List.getElem?_append_left (by simpa using c), List.getElem?_map] at e
      cases q : as[i]? with
      | none => rw [q] at e; cases e
      | some b => rw [q] at e; cases e; rfl
    · rw [List.getElem?_append_right (by simpa using c), List.getElem?_replicate] at e
      split at e <;> cases e
  refine ⟨by unfold L2.start stR; simp [hl], fun i a e => ?_, fun p hp => (nomatch hp), fun i a e => k a (List.mem_of_getElem? (key i a e)), fun p hp => (nomatch hp)⟩
  obtain ⟨v, h1, h2⟩ := ha i a (key i a e)
  refine ⟨v, ?_, h2⟩
  have hv := (List.getElem?_eq_some_iff.mp h1).1
  unfold L2.start
  rw [List.getElem?_append_left (by simpa using hv), List.getElem?_map, h1]
  rfl
section
variable {P : Program} {w : World} {K : PySem.W.Frag} {mg : Str → Option Value} {base : Heap} {n : Str} {st : Stmt} {N ps : List Str} {k : Nat}
/-- a def that reads: from its body -/
theorem cal_mk {τ : Type} {pre : τ → Hp → Prop} {as : τ → List A} {r : τ → A → Prop} (D : Dh K mg n st) (S : FnScope N ps (defScope st))
    (hb : ∀ (kV doc pm : Value) (an : Option Addr) (cdv ct : Value) (us : List Value), us.length = ps.length → bindArgs (PySem.W.fnOf n n (defArgs st) (defBody st) (defScope st) .none kV doc pm an cdv ct) ⟨us, []⟩ = pure (ps.zip us))
    (hl : ∀ x, (as x).length = ps.length) (hk : ∀ x, ∀ a ∈ as x, a.keep = true)
    (body : ∀ (x : τ) (f : Addr) (cdv : Value) (A : Around) (outer : List Env) (s : Shared) (H : Hp) (E : XK) (Dd : Ends), Room k (XO P w K mg base N n st f cdv A outer s H E).A → pre x H →
      (∀ a v H1, r x a → Ek none H H1 → Ax K none H H H1 v a → Dd.rt v H1) → (∀ σ H1, r x (.i .non) → Ek none H H1 → Dd.nx σ H1) →
      WR (XO P w K mg base N n st f cdv A outer s H E) none H H (stR N (as x)) [] Dd (defBody st)) : Cal P w K mg base (k + 1) n ps (spOf K pre as r) := by
  obtain ⟨f, fd, F, g⟩ := D.ex
  refine ⟨f, fd, g, F.kp, F.bindsN hb, ?_⟩
  refine F.ok S (fun vs H Q E h => ?_) (fun cdv A outer s H vs Q E hr h => ?_)
  · obtain ⟨x, _, ha, _⟩ := h
    rw [(axl_at ha).1, hl x]
  · obtain ⟨x, hp, ha, q⟩ := h
    obtain ⟨t, h1, h2⟩ := body x f cdv A outer s H E { nx := fun _ H' => Q .non H', rt := Q } hr hp (fun a v H1 ra e ax => q a v H1 ra e ax) (fun σ H1 ra e => q _ _ H1 ra e It.non) (L2.start N vs) H
      ⟨.refl _, .refl _, Mok.none _, en_start ha (hk x)⟩
    exact ⟨t, h1.nox, h2⟩
end
/-! e.messages, e.before of a pattern -/
section
variable {X : Cx} {m : Mo} {H0 H : Hp} {ρ : Ro} {G : Gh} {e : Expr} {pos : Pos} {C p : Addr} {b : Bef} {ms : List Msg}
theorem j_msgs (k0 : Mok m H0) (c : Cls X.K C) (n : NoAttr X.K C "messages") (h : Pat X.K C H0 p b ms) (he : J X m H0 H ρ G e (Eq (.r (.ref p)))) (hb : attributeBase e "messages" X.env (eval e X.env) = eval e X.env := by rfl) : JI X m H0 H ρ G (.Attribute e "messages" pos) (eMs ms) :=
  j_un (r := fun x H1 Q => ∃ a C dx fs v, x = .ref a ∧ H1 a = some (.ins C dx fs) ∧ Cls X.K C ∧ NoAttr X.K C "messages" ∧ fs.lookup ("messages" : Str) = some v ∧ Q v H1) (fun ta t => pe_fld t hb) he fun σ Hs H1 x a1 at_ e0 k φ ax Q q => by
  subst φ
  have ex : x = .ref p := ax
  subst ex
  obtain ⟨dx, fs, vb, vm, h1, h2, h3, h4, h5⟩ := h.ek at_.ek0 k0
  exact ⟨p, C, dx, fs, vm, rfl, h1, c, n, h3, q _ _ H1 rfl (.refl _) h5⟩
theorem j_bef (k0 : Mok m H0) (c : Cls X.K C) (n : NoAttr X.K C "before") (h : Pat X.K C H0 p b ms) (he : J X m H0 H ρ G e (Eq (.r (.ref p)))) (hb : attributeBase e "before" X.env (eval e X.env) = eval e X.env := by rfl) : JI X m H0 H ρ G (.Attribute e "before" pos) (eB b) :=
  j_un (r := fun x H1 Q => ∃ a C dx fs v, x = .ref a ∧ H1 a = some (.ins C dx fs) ∧ Cls X.K C ∧ NoAttr X.K C "before" ∧ fs.lookup ("before" : Str) = some v ∧ Q v H1) (fun ta t => pe_fld t hb) he fun σ Hs H1 x a1 at_ e0 k φ ax Q q => by
  subst φ
  have ex : x = .ref p := ax
  subst ex
  obtain ⟨dx, fs, vb, vm, h1, h2, h3, h4, h5⟩ := h.ek at_.ek0 k0
  exact ⟨p, C, dx, fs, vb, rfl, h1, c, n, h2, q _ _ H1 rfl (.refl _) h4⟩
end
section
variable {w : World} {K : PySem.W.Frag} {mg : Str → Option Value} {C : Addr}
abbrev free {τ : Type} : τ → Hp → Prop := fun _ _ => True
theorem Bi.used_at (B : Bi w K mg C) (t : Tk) (ht : t.sec = true) : ∃ p, mg "USED_KEYS" = some (.ref p) ∧ ∃ q, KDct K w p t.z (.ref q) ∧ ∀ H, SqT K H q [.str t.ko, .str t.ka] := by
  obtain ⟨p, h, ⟨q1, k1, s1⟩, ⟨q2, k2, s2⟩, ⟨q3, k3, s3⟩, ⟨q4, k4, s4⟩⟩ := B.used
  cases t with
  | ee => exact ⟨p, h, q1, k1, s1⟩
  | es => exact ⟨p, h, q2, k2, s2⟩
  | se => exact ⟨p, h, q3, k3, s3⟩
  | ss => exact ⟨p, h, q4, k4, s4⟩
  | e => cases ht
  | s => cases ht
  | psk => cases ht
end
end K38
end
section
/-! walks: grades -/
namespace K38
open PySem L2
section
variable {P : Program} {w : World} {K : PySem.W.Frag} {mg : Str → Option Value} {base : Heap} {C : Addr}
theorem len_o : ("o" : Str).length = 1 := by decide +kernel
theorem len_a : ("a" : Str).length = 1 := by decide +kernel
theorem ok_own_key (B : Bi w K mg C) (D : Dh K mg "own_key" s_own_key) : Cal P w K mg base 1 "own_key" ["sender", "letter"]
    (spOf K (fun x _ => x.2.length ≤ 10) (fun x : Bool × Str => [.i (.str (sdS x.1)), .i (.str x.2)]) (fun x a => .i (.str ((if x.1 then ("a" : Str) else "o") ++ x.2)) = a)) := by
  refine cal_mk D sc_own_key (fun _ _ _ _ _ _ us hl => match us, hl with | [_, _], _ => rfl) (fun _ => rfl) (fun x a h => ?_) fun x f cdv Ar outer s H E Dd hr hp hD hN => ?_
  · simp at h; rcases h with h | h <;> (subst h; rfl)
  · obtain ⟨t, ht⟩ := B.opener
    obtain ⟨b, l⟩ := x
    have hp : l.length ≤ 10 := hp
    cases b
    · exact wr_ret (Mok.none _) (j_adds (i := "o") (j_if (p := true) ((c_eqS (i := sdS false) (j_v 0) (j_gstr ht)).is (by decide +kernel)).t (fun _ => j_str) (fun h => nomatch h)) (j_v 1) (by rw [len_o]; omega)) fun a v H1 φ e _ ax => hD a v H1 φ e ax
    · exact wr_ret (Mok.none _) (j_adds (i := "a") (j_if (p := false) ((c_eqS (i := sdS true) (j_v 0) (j_gstr ht)).is (by decide +kernel)).t (fun h => nomatch h) (fun _ => j_str)) (j_v 1) (by rw [len_a]; omega)) fun a v H1 φ e _ ax => hD a v H1 φ e ax
theorem ok_other_key (B : Bi w K mg C) (D : Dh K mg "other_key" s_other_key) : Cal P w K mg base 1 "other_key" ["sender", "letter"]
    (spOf K (fun x _ => x.2.length ≤ 10) (fun x : Bool × Str => [.i (.str (sdS x.1)), .i (.str x.2)]) (fun x a => .i (.str ((if x.1 then ("o" : Str) else "a") ++ x.2)) = a)) := by
  refine cal_mk D sc_other_key (fun _ _ _ _ _ _ us hl => match us, hl with | [_, _], _ => rfl) (fun _ => rfl) (fun x a h => ?_) fun x f cdv Ar outer s H E Dd hr hp hD hN => ?_
  · simp at h; rcases h with h | h <;> (subst h; rfl)
  · obtain ⟨t, ht⟩ := B.opener
    obtain ⟨b, l⟩ := x
    have hp : l.length ≤ 10 := hp
    cases b
    · exact wr_ret (Mok.none _) (j_adds (i := "a") (j_if (p := true) ((c_eqS (i := sdS false) (j_v 0) (j_gstr ht)).is (by decide +kernel)).t (fun _ => j_str) (fun h => nomatch h)) (j_v 1) (by rw [len_a]; omega)) fun a v H1 φ e _ ax => hD a v H1 φ e ax
    · exact wr_ret (Mok.none _) (j_adds (i := "o") (j_if (p := false) ((c_eqS (i := sdS true) (j_v 0) (j_gstr ht)).is (by decide +kernel)).t (fun h => nomatch h) (fun _ => j_str)) (j_v 1) (by rw [len_o]; omega)) fun a v H1 φ e _ ax => hD a v H1 φ e ax
abbrev sp_can_compute (K : PySem.W.Frag) : Sp := spOf K (fun x _ => x.1.sec = true) (fun x : Tk × List Str => [.i (eT x.1), .b (x.2.map I.str)]) (fun x a => .i (.bl (cc x.1 x.2)) = a)
theorem ok_can_compute (B : Bi w K mg C) (D : Dh K mg "can_compute" s_can_compute) : Cal P w K mg base 1 "can_compute" ["token", "keys"] (sp_can_compute K) := by
  refine cal_mk D sc_can_compute (fun _ _ _ _ _ _ us hl => match us, hl with | [_, _], _ => rfl) (fun _ => rfl) (fun x a h => ?_) fun x f cdv Ar outer s H E Dd hr hp hD hN => ?_
  · simp at h; rcases h with h | h <;> (subst h; rfl)
  · obtain ⟨p, hm, q, hk, hs⟩ := B.used_at x.1 hp
    refine wr_asg (j_tab (k := x.1.z) (v := .ref q) (d := .tup [.str x.1.ko, .str x.1.ka]) (j_v 0) hm hk fun H => .mk (hs H) (.cons (.str _) (.cons (.str _) .nil)))
      (jg_tup rfl (jgs_cons (jg_name 2 sc_can_compute.nd) (jgs_cons (jg_name 3 sc_can_compute.nd) jgs_nil))) ?_
    exact wr_ret (Mok.none _) (j_or2 (c_inS (Mok.none _) (j_v 2) ((j_v 1).sk .b)).j fun _ => (c_inS (Mok.none _) (j_v 3) ((j_v 1).sk .b)).j) fun a v H1 φ e _ ax => hD a v H1 φ e ax
abbrev sp_can_compute_all (K : PySem.W.Frag) : Sp := spOf K (fun x _ => ∀ t ∈ x.1, t.sec = true) (fun x : List Tk × List Str => [.b (x.1.map eT), .b (x.2.map I.str)]) (fun x a => .i (.bl (opn x.1 x.2)) = a)
theorem ok_can_compute_all (c1 : Cal P w K mg base 1 "can_compute" ["token", "keys"] (sp_can_compute K)) (D : Dh K mg "can_compute_all" s_can_compute_all) : Cal P w K mg base 2 "can_compute_all" ["tokens", "keys"] (sp_can_compute_all K) := by
  refine cal_mk D sc_can_compute_all (fun _ _ _ _ _ _ us hl => match us, hl with | [_, _], _ => rfl) (fun _ => rfl) (fun x a h => ?_) fun x f cdv Ar outer s H E Dd hr hp hD hN => ?_
  · simp at h; rcases h with h | h <;> (subst h; rfl)
  · obtain ⟨T, ks⟩ := x
    have hp : ∀ t ∈ T, t.sec = true := hp
    refine wr_forB (Mok.none _) (j_v 0) (fun _ => [some (.b (T.map eT)), some (.b (ks.map I.str)), none]) (fun i _ => ∀ j t, j < i → T[j]? = some t → cc t ks = true) rfl (Sub.refl _) (fun _ _ _ j t h => by omega) ?_ ?_
    · intro i d H1 hd hI e0 k0
      rw [List.getElem?_map] at hd
      cases ht : T[i]? with
      | none => rw [ht] at hd; cases hd
      | some t =>
        rw [ht] at hd
        cases hd
        have tm : t ∈ T := List.mem_of_getElem? ht
        refine ⟨_, jg_name 2 sc_can_compute_all.nd, ?_⟩
        refine wr_if (jt_not (jt_of (j_call c1 (hr.mono (by decide)) (Mok.none _) (ja_cons (j_v 2) (ja_cons (j_v 1) ja_nil)) (t, ks) rfl (fun _ _ _ => hp t tm) (fun a h => ⟨by subst h; rfl, h⟩)))) (fun h => ?_) (fun h => ?_)
        · have hf : cc t ks = false := by simpa using h
          refine wr_ret (Mok.none _) j_bl fun a v H2 φ e _ ax => hD a v H2 ?_ e ax
          have : opn T ks = false := List.all_eq_false.mpr ⟨t, tm, by rw [hf]; decide⟩
          rw [← φ]; show A.i (.bl (opn T ks)) = _; rw [this]
        · have ht' : cc t ks = true := by simpa using h
          refine wr_go (wr_next (fun _ _ _ j u hj hu => ?_) (.keep (.keep (.drop .nil))))
          by_cases c : j = i
          · subst c; rw [ht] at hu; cases hu; exact ht'
          · exact hI j u (by omega) hu
    · intro H1 hI e0 k0
      refine wr_ret (Mok.none _) j_bl fun a v H2 φ e _ ax => hD a v H2 ?_ e ax
      have : opn T ks = true := List.all_eq_true.mpr fun t ht => by
        obtain ⟨j, hj, e⟩ := List.mem_iff_getElem.mp ht
        exact hI j t (by simpa using hj) (by rw [List.getElem?_eq_getElem hj, e])
      rw [← φ]; show A.i (.bl (opn T ks)) = _; rw [this]
theorem secs_mem (t : Tk) : decide (t.z ∈ ([.str "ee", .str "es", .str "se", .str "ss"] : List I).map fun d => match d with | .str x => x | _ => "") = t.sec := by cases t <;> decide +kernel
theorem secs_mem' (t : Tk) : decide (t.z ∈ (["ee", "es", "se", "ss"] : List Str)) = t.sec := by cases t <;> decide +kernel
theorem secsOf_snoc (l : List Msg) (m : Msg) : secsOf (l ++ [m]) = secsOf l ++ m.2.filter Tk.sec := by unfold secsOf; simp
theorem len_secsOf {l : List Msg} {n : Nat} (h : ∀ m ∈ l, m.2.length ≤ n) : (secsOf l).length ≤ n * l.length := by
  induction l with
  | nil => simp [secsOf]
  | cons m r ih =>
    have e : secsOf (m :: r) = m.2.filter Tk.sec ++ secsOf r := by unfold secsOf; simp
    have h1 := List.length_filter_le Tk.sec m.2
    have h2 := h m List.mem_cons_self
    have h3 := ih fun x hx => h x (List.mem_cons_of_mem _ hx)
    rw [e, List.length_append, List.length_cons, Nat.mul_succ]
    omega
theorem WF.len_secs {ms : List Msg} (h : WF ms) (i : Nat) : (secsOf (ms.take i)).length ≤ 240 := by
  have h1 : (secsOf (ms.take i)).length ≤ 20 * (ms.take i).length := len_secsOf fun m hm => (h.toks m (List.mem_of_mem_take hm)).2
  have h2 : (ms.take i).length ≤ ms.length := by rw [List.length_take]; exact Nat.min_le_right _ _
  have h3 := h.few
  omega
theorem secsOf_sec {l : List Msg} {t : Tk} (h : t ∈ secsOf l) : t.sec = true := by
  unfold secsOf at h
  obtain ⟨m, _, h2⟩ := List.mem_flatMap.mp h
  exact (List.mem_filter.mp h2).2
abbrev PX := Addr × Bef × List Msg
abbrev sp_processed (K : PySem.W.Frag) (C : Addr) : Sp := spOf K (fun x H => Pat K C H x.1.1 x.1.2.1 x.1.2.2 ∧ WF x.1.2.2) (fun x : PX × Nat => [.r (.ref x.1.1), .i (.int (x.2 : Nat))]) (fun x a => .n ((secsOf (x.1.2.2.take x.2)).map eT) = a)
theorem ok_processed (B : Bi w K mg C) (D : Dh K mg "processed_before" s_processed_before) : Cal P w K mg base 1 "processed_before" ["pattern", "count"] (sp_processed K C) := by
  refine cal_mk D sc_processed_before (fun _ _ _ _ _ _ us hl => match us, hl with | [_, _], _ => rfl) (fun _ => rfl) (fun x a h => ?_) fun x f cdv Ar outer s H E Dd hr hp hD hN => ?_
  · simp at h; rcases h with h | h <;> (subst h; rfl)
  · obtain ⟨⟨p, b, ms⟩, k⟩ := x
    obtain ⟨hP, hW⟩ : Pat K C H p b ms ∧ WF ms := hp
    obtain ⟨ps, hsm, hst⟩ := B.secrets
    refine wr_setN 2 sc_processed_before.nd (j_lst (ds := []) ja_nil) (fun l H1 nl e1 k1 e01 o => ?_) (Mok.none _)
    refine wr_forT ((j_slT (j_msgs (Mok.none _) B.cl B.nM hP (j_v 0)) jo_none (jo_some (j_v 1))).is (d' := eMs (ms.take k)) (by unfold eMs; rw [cut_take, List.map_take]))
      (fun _ => [some (.r (.ref p)), some (.i (.int (k : Nat))), some (.r (.ref l)), none, none, none]) (fun i H' => Own none K H' l ((secsOf ((ms.take k).take i)).map eT)) rfl (Sub.refl _) (fun H2 e2 _ => (o.ek e2 k1)) ?_ ?_
    · intro i d g H2 hd hI e02 k2 fg
      rw [List.getElem?_map] at hd
      cases hm : (ms.take k)[i]? with
      | none => rw [hm] at hd; cases hd
      | some m =>
        rw [hm] at hd
        cases hd
        have mm : m ∈ ms := List.mem_of_mem_take (List.mem_of_getElem? hm)
        refine ⟨_, jg_tup rfl (jgs_cons (jg_name 3 sc_processed_before.nd) (jgs_cons (jg_name 4 sc_processed_before.nd) jgs_nil)), ?_⟩
        refine wr_forT (j_v 4) (fun _ => [some (.r (.ref p)), some (.i (.int (k : Nat))), some (.r (.ref l)), some (.i (.str (sdS m.1))), some (.i (eTs m.2)), none])
          (fun j H' => Own none K H' l ((secsOf ((ms.take k).take i) ++ (m.2.take j).filter Tk.sec).map eT)) rfl (Sub.refl _) (fun H3 e3 k3 => by rw [List.take_zero, List.filter_nil, List.append_nil]; exact hI.ek e3 k2) ?_ ?_
        · intro j d g2 H3 hd hI3 e03 k3 fg2
          rw [List.getElem?_map] at hd
          cases ht : m.2[j]? with
          | none => rw [ht] at hd; cases hd
          | some t =>
            rw [ht] at hd
            cases hd
            refine ⟨_, jg_name 5 sc_processed_before.nd, ?_⟩
            have stp : (m.2.take (j + 1)).filter Tk.sec = (m.2.take j).filter Tk.sec ++ [t].filter Tk.sec := by rw [take_snoc _ _ _ ht, List.filter_append]
            refine wr_if ((c_inS (x := t.z) (xs := ["ee", "es", "se", "ss"]) (Mok.none _) (j_v 5) ((j_gtup hsm hst (fun _ => ItL.map V.str I.str (fun x => It.str x) ["ee", "es", "se", "ss"])).sk .t)).is (secs_mem' t)).t (fun h => ?_) (fun h => ?_)
            · refine wr_app (Mok.none _) (j_v 2) hI3 nl k3 (d := eT t) (j_v 5) ?_ (fun H4 g4 e04 k4 o4 => ?_) rfl (gf_cons fg2 (gf_cons fg rfl))
              · have h1 := hW.len_secs
                have h2 : (secsOf ((ms.take k).take i)).length ≤ 240 := by rw [List.take_take]; exact hW.len_secs _
                have h3 : ((m.2.take j).filter Tk.sec).length ≤ 20 := Nat.le_trans (List.length_filter_le _ _) (Nat.le_trans (by rw [List.length_take]; exact Nat.min_le_right _ _) (hW.toks m mm).2)
                rw [List.length_map, List.length_append]; omega
              · refine wr_go (wr_next (fun H5 e5 k5 => ?_) (Sub.keep (.keep (.keep (.keep (.keep (.drop .nil)))))))
                have ef : [t].filter Tk.sec = [t] := by rw [List.filter_cons, if_pos h]; rfl
                rw [stp, ef, ← List.append_assoc, List.map_append]
                exact o4.ek e5 k4
            · refine wr_go (wr_next (fun H5 e5 k5 => ?_) (Sub.keep (.keep (.keep (.keep (.keep (.drop .nil)))))))
              have ef : [t].filter Tk.sec = [] := by rw [List.filter_cons, if_neg (by rw [h]; decide)]; rfl
              rw [stp, ef, List.append_nil]
              exact hI3.ek e5 k3
        · intro H3 hI3 e03 k3
          refine wr_next (fun H5 e5 k5 => ?_) (Sub.keep (.keep (.keep (.drop (.drop (.drop .nil))))))
          rw [take_snoc _ _ _ hm, secsOf_snoc]
          have hl : m.2.take (m.2.map eT).length = m.2 := by rw [List.length_map]; exact List.take_length
          rw [hl] at hI3
          exact hI3.ek e5 k3
    · intro H2 hI e02 k2
      have hl : (ms.take k).take ((ms.take k).map eM).length = ms.take k := by rw [List.length_map]; exact List.take_length
      rw [hl] at hI
      exact wr_retO (Mok.none _) (j_v 2) hI k2 nl fun v H3 e03 _ ax => hD _ v H3 rfl e03 ax
end
end K38
end
section
/-! walks: is_open, can_forge, the grades -/
namespace K38
open PySem L2
section
variable {P : Program} {w : World} {K : PySem.W.Frag} {mg : Str → Option Value} {base : Heap} {C : Addr}
abbrev sp_check (K : PySem.W.Frag) (C : Addr) : Sp := spOf K (fun x H => Pat K C H x.1.1 x.1.2.1 x.1.2.2 ∧ x.2 < x.1.2.2.length) (fun x : PX × Nat => [.r (.ref x.1.1), .i (.int (x.2 : Nat))]) (fun x a => .i .non = a)
theorem ok_check (B : Bi w K mg C) (D : Dh K mg "check_index" s_check_index) : Cal P w K mg base 1 "check_index" ["pattern", "index"] (sp_check K C) := by
  refine cal_mk D sc_check_index (fun _ _ _ _ _ _ us hl => match us, hl with | [_, _], _ => rfl) (fun _ => rfl) (fun x a h => ?_) fun x f cdv Ar outer s H E Dd hr hp hD hN => ?_
  · simp at h; rcases h with h | h <;> (subst h; rfl)
  · obtain ⟨⟨p, b, ms⟩, k⟩ := x
    obtain ⟨hP, hk⟩ : Pat K C H p b ms ∧ k < ms.length := hp
    refine wr_if (jt_or (p := false) (q := false) ((c_lt (j_v 1) j_int).is (by show decide ((k : Int) < 0) = false; exact decide_eq_false (by omega))).t fun _ => ((c_ge (j_v 1) (j_len (Mok.none _) B.len ((j_msgs (Mok.none _) B.cl B.nM hP (j_v 0)).sk .t))).is ?_).t) (fun h => nomatch h) (fun _ => ?_)
    · rw [List.length_map]; exact decide_eq_false (by omega)
    · exact wr_go (wr_end fun σ H1 at_ => hN σ H1 rfl at_.ek0)
abbrev sp_open (K : PySem.W.Frag) (C : Addr) : Sp := spOf K (fun x H => Pat K C H x.1.1 x.1.2.1 x.1.2.2 ∧ WF x.1.2.2 ∧ x.2.1 < x.1.2.2.length) (fun x : PX × Nat × List Str => [.r (.ref x.1.1), .i (.int (x.2.1 : Nat)), .b (x.2.2.map I.str)]) (fun x a => .i (.bl (opn (sc x.1.2.2 x.2.1) x.2.2)) = a)
theorem ok_open (B : Bi w K mg C) (c1 : Cal P w K mg base 1 "check_index" ["pattern", "index"] (sp_check K C)) (c2 : Cal P w K mg base 1 "processed_before" ["pattern", "count"] (sp_processed K C)) (c3 : Cal P w K mg base 2 "can_compute_all" ["tokens", "keys"] (sp_can_compute_all K))
    (D : Dh K mg "is_open" s_is_open) : Cal P w K mg base 3 "is_open" ["pattern", "index", "keys"] (sp_open K C) := by
  refine cal_mk D sc_is_open (fun _ _ _ _ _ _ us hl => match us, hl with | [_, _, _], _ => rfl) (fun _ => rfl) (fun x a h => ?_) fun x f cdv Ar outer s H E Dd hr hp hD hN => ?_
  · simp at h; rcases h with h | h | h <;> (subst h; rfl)
  · obtain ⟨⟨p, b, ms⟩, k, ks⟩ := x
    obtain ⟨hP, hW, hk⟩ : Pat K C H p b ms ∧ WF ms ∧ k < ms.length := hp
    refine wr_drop (j_call c1 (hr.mono (by decide)) (Mok.none _) (ja_cons (j_v 0) (ja_cons (j_v 1) ja_nil)) ((p, b, ms), k) rfl (fun H1 e _ => ⟨hP.ek e (Mok.none _), hk⟩) (fun a h => ⟨by subst h; rfl, h⟩)) ?_
    exact wr_ret (Mok.none _) (j_call c3 (hr.mono (by decide)) (Mok.none _) (ja_cons (j_call c2 (hr.mono (by decide)) (Mok.none _) (ja_cons (j_v 0) (ja_cons (j_add (j_v 1) j_int) ja_nil)) ((p, b, ms), k + 1) rfl (fun H1 e _ => ⟨hP.ek e (Mok.none _), hW⟩) (fun a h => ⟨by subst h; rfl, h⟩)) (ja_cons (j_v 2) ja_nil))
      (secsOf (ms.take (k + 1)), ks) rfl (fun _ _ _ t ht => secsOf_sec ht) (fun a h => ⟨by subst h; rfl, h⟩)) fun a v H1 φ e _ ax => hD a v H1 φ e ax
theorem ownE_eq (b : Bool) : (if b then ("a" : Str) else "o") ++ ("e" : Str) = ownE b := by cases b <;> decide +kernel
theorem othS_eq (b : Bool) : (if b then ("o" : Str) else "a") ++ ("s" : Str) = othS b := by cases b <;> decide +kernel
abbrev sp_ownk (K : PySem.W.Frag) : Sp := spOf K (fun x _ => x.2.length ≤ 10) (fun x : Bool × Str => [.i (.str (sdS x.1)), .i (.str x.2)]) (fun x a => .i (.str ((if x.1 then ("a" : Str) else "o") ++ x.2)) = a)
abbrev sp_othk (K : PySem.W.Frag) : Sp := spOf K (fun x _ => x.2.length ≤ 10) (fun x : Bool × Str => [.i (.str (sdS x.1)), .i (.str x.2)]) (fun x a => .i (.str ((if x.1 then ("o" : Str) else "a") ++ x.2)) = a)
section
variable {X : Cx} {m : Mo} {H0 H : Hp} {ρ : Ro} {G : Gh} {e : Expr} {pos px p2 : Pos} {j1 : Nat}
theorem j_ownE {b : Bool} {kk} (c : Cal X.prog X.w X.K X.mg X.base 1 "own_key" ["sender", "letter"] (sp_ownk X.K)) (hr : Room 1 X.A) (k0 : Mok m H0) (h : JI X m H0 H ρ G e (.str (sdS b))) (hg : Gl X "own_key" := by rfl)
    (he : starEach (e :: [.Constant (.str "e") kk p2]) X.env = (false, eval e X.env) :: starEach [.Constant (.str "e") kk p2] X.env := by rfl) (he2 : starEach [.Constant (.str "e") kk p2] X.env = (false, eval (.Constant (.str "e") kk p2) X.env) :: starEach [] X.env := by rfl) (hpl : (backTo pos (starEach [.Constant (.str "e") kk p2] X.env)).any (·.1) = false := by rfl) :
    JI X m H0 H ρ G (.Call (.Name "own_key" px) [e, .Constant (.str "e") kk p2] [] pos) (.str (ownE b)) :=
  j_call c hr k0 (ja_cons h (ja_cons j_str ja_nil he2) he) (b, "e") rfl (fun _ _ _ => by show ("e" : Str).length ≤ 10; decide +kernel) (fun a h => by subst h; exact ⟨rfl, by rw [ownE_eq]⟩) hg (by decide) he hpl
theorem j_othS {b : Bool} {kk} (c : Cal X.prog X.w X.K X.mg X.base 1 "other_key" ["sender", "letter"] (sp_othk X.K)) (hr : Room 1 X.A) (k0 : Mok m H0) (h : JI X m H0 H ρ G e (.str (sdS b))) (hg : Gl X "other_key" := by rfl)
    (he : starEach (e :: [.Constant (.str "s") kk p2]) X.env = (false, eval e X.env) :: starEach [.Constant (.str "s") kk p2] X.env := by rfl) (he2 : starEach [.Constant (.str "s") kk p2] X.env = (false, eval (.Constant (.str "s") kk p2) X.env) :: starEach [] X.env := by rfl) (hpl : (backTo pos (starEach [.Constant (.str "s") kk p2] X.env)).any (·.1) = false := by rfl) :
    JI X m H0 H ρ G (.Call (.Name "other_key" px) [e, .Constant (.str "s") kk p2] [] pos) (.str (othS b)) :=
  j_call c hr k0 (ja_cons h (ja_cons j_str ja_nil he2) he) (b, "s") rfl (fun _ _ _ => by show ("s" : Str).length ≤ 10; decide +kernel) (fun a h => by subst h; exact ⟨rfl, by rw [othS_eq]⟩) hg (by decide) he hpl
end
theorem atI_map {α : Type} {l : List α} {i : Nat} {x : α} (f : α → I) (h : l[i]? = some x) : atI (l.map f) (i : Int) = some (f x) := atI_nat (by rw [List.getElem?_map, h]; rfl)
abbrev sp_forge (K : PySem.W.Frag) (C : Addr) : Sp := spOf K (fun x H => Pat K C H x.1.1 x.1.2.1 x.1.2.2 ∧ WF x.1.2.2 ∧ x.2.2.length ≤ 10 ∧ ∃ m, x.1.2.2[x.2.1.1]? = some m ∧ m.1 = x.2.1.2) (fun x : PX × (Nat × Bool) × List Str => [.r (.ref x.1.1), .i (.int (x.2.1.1 : Nat)), .b (x.2.2.map I.str)])
  (fun x a => .i (.bl (opn (sc x.1.2.2 x.2.1.1) (ownE x.2.1.2 :: x.2.2))) = a)
theorem ok_forge (B : Bi w K mg C) (c1 : Cal P w K mg base 1 "check_index" ["pattern", "index"] (sp_check K C)) (c2 : Cal P w K mg base 1 "processed_before" ["pattern", "count"] (sp_processed K C)) (c3 : Cal P w K mg base 2 "can_compute_all" ["tokens", "keys"] (sp_can_compute_all K))
    (c4 : Cal P w K mg base 1 "own_key" ["sender", "letter"] (sp_ownk K)) (D : Dh K mg "can_forge" s_can_forge) : Cal P w K mg base 3 "can_forge" ["pattern", "index", "keys"] (sp_forge K C) := by
  refine cal_mk D sc_can_forge (fun _ _ _ _ _ _ us hl => match us, hl with | [_, _, _], _ => rfl) (fun _ => rfl) (fun x a h => ?_) fun x f cdv Ar outer s H E Dd hr hp hD hN => ?_
  · simp at h; rcases h with h | h | h <;> (subst h; rfl)
  · obtain ⟨⟨p, b, ms⟩, ⟨k, z⟩, ks⟩ := x
    obtain ⟨hP, hW, hks, m, hm, hz⟩ : Pat K C H p b ms ∧ WF ms ∧ ks.length ≤ 10 ∧ ∃ m, ms[k]? = some m ∧ m.1 = z := hp
    have hk : k < ms.length := (List.getElem?_eq_some_iff.mp hm).1
    subst hz
    refine wr_drop (j_call c1 (hr.mono (by decide)) (Mok.none _) (ja_cons (j_v 0) (ja_cons (j_v 1) ja_nil)) ((p, b, ms), k) rfl (fun H1 e _ => ⟨hP.ek e (Mok.none _), hk⟩) (fun a h => ⟨by subst h; rfl, h⟩)) ?_
    refine wr_setN 3 sc_can_forge.nd (j_call c2 (hr.mono (by decide)) (Mok.none _) (ja_cons (j_v 0) (ja_cons (j_add (j_v 1) j_int) ja_nil)) ((p, b, ms), k + 1) rfl (fun H1 e _ => ⟨hP.ek e (Mok.none _), hW⟩) (fun a h => ⟨by subst h; rfl, h⟩)) (fun l H1 nl e1 k1 e01 o => ?_) (Mok.none _)
    refine wr_ret (Mok.none _) (j_call c3 (hr.mono (by decide)) (Mok.none _) (ja_cons (j_own (j_v 3) o k1) (ja_cons (j_catL (Mok.none _) (j_lst (ds := [.str (ownE m.1)]) (ja_cons (j_ownE c4 (hr.mono (by decide)) (Mok.none _) (j_ixT (Mok.none _) (j_ixT (Mok.none _) (j_msgs (Mok.none _) B.cl B.nM hP (j_v 0)) (j_v 1) (atI_map eM hm)) j_int rfl)) ja_nil)) .n
      (j_list (Mok.none _) B.list ((j_v 2).sk .b)) .n (by rw [List.length_map]; show 1 + ks.length ≤ 1000; omega)) ja_nil)) (secsOf (ms.take (k + 1)), ownE m.1 :: ks) rfl (fun _ _ _ t ht => secsOf_sec ht) (fun a h => ⟨by subst h; rfl, h⟩)) fun a v H1 φ e _ ax => hD a v H1 φ e ax
abbrev sp_src (K : PySem.W.Frag) : Sp := spOf K (fun x _ => ∀ t ∈ x.2, t.sec = true) (fun x : Bool × List Tk => [.i (.str (sdS x.1)), .b (x.2.map eT)]) (fun x a => .i (.int (src x.1 x.2)) = a)
theorem ok_src (c3 : Cal P w K mg base 2 "can_compute_all" ["tokens", "keys"] (sp_can_compute_all K)) (c4 : Cal P w K mg base 1 "own_key" ["sender", "letter"] (sp_ownk K)) (c5 : Cal P w K mg base 1 "other_key" ["sender", "letter"] (sp_othk K)) (D : Dh K mg "source_grade" s_source_grade) :
    Cal P w K mg base 3 "source_grade" ["sender", "tokens"] (sp_src K) := by
  refine cal_mk D sc_source_grade (fun _ _ _ _ _ _ us hl => match us, hl with | [_, _], _ => rfl) (fun _ => rfl) (fun x a h => ?_) fun x f cdv Ar outer s H E Dd hr hp hD hN => ?_
  · simp at h; rcases h with h | h <;> (subst h; rfl)
  · obtain ⟨z, T⟩ := x
    have hT : ∀ t ∈ T, t.sec = true := hp
    refine wr_if (jt_of (j_call c3 (hr.mono (by decide)) (Mok.none _) (ja_cons (j_v 1) (ja_cons (j_lst (ds := [.str (ownE z)]) (ja_cons (j_ownE c4 (hr.mono (by decide)) (Mok.none _) (j_v 0)) ja_nil)) ja_nil)) (T, [ownE z]) rfl (fun _ _ _ => hT) (fun a h => ⟨by subst h; rfl, h⟩))) (fun h => ?_) (fun h => ?_)
    · refine wr_ret (Mok.none _) j_int fun a v H1 φ e _ ax => hD a v H1 ?_ e ax
      rw [← φ]; show A.i (.int (src z T)) = _; unfold src; rw [if_pos h]
    · refine wr_go (wr_if (jt_of (j_call c3 (hr.mono (by decide)) (Mok.none _) (ja_cons (j_v 1) (ja_cons (j_lst (ds := [.str (ownE z), .str (othS z)]) (ja_cons (j_ownE c4 (hr.mono (by decide)) (Mok.none _) (j_v 0)) (ja_cons (j_othS c5 (hr.mono (by decide)) (Mok.none _) (j_v 0)) ja_nil))) ja_nil)) (T, [ownE z, othS z]) rfl (fun _ _ _ => hT) (fun a h => ⟨by subst h; rfl, h⟩))) (fun h2 => ?_) (fun h2 => ?_))
      · refine wr_ret (Mok.none _) j_int fun a v H1 φ e _ ax => hD a v H1 ?_ e ax
        rw [← φ]; show A.i (.int (src z T)) = _; unfold src; rw [if_neg (by rw [h]; decide), if_pos h2]
      · refine wr_go (wr_ret (Mok.none _) j_int fun a v H1 φ e _ ax => hD a v H1 ?_ e ax)
        rw [← φ]; show A.i (.int (src z T)) = _; unfold src; rw [if_neg (by rw [h]; decide), if_neg (by rw [h2]; decide)]
theorem z_ok (t : Tk) : PyData.strOk t.z = true := by cases t <;> decide +kernel
theorem ee_z : (Tk.ee).z = "ee" := rfl
abbrev sp_dst (K : PySem.W.Frag) : Sp := spOf K (fun x _ => ∀ t ∈ x.2.1, t.sec = true) (fun x : Bool × List Tk × Int => [.i (.str (sdS x.1)), .b (x.2.1.map eT), .i (.int x.2.2)]) (fun x a => .i (.int (dst x.1 x.2.1 x.2.2)) = a)
theorem ok_dst (B : Bi w K mg C) (c5 : Cal P w K mg base 1 "other_key" ["sender", "letter"] (sp_othk K)) (D : Dh K mg "destination_grade" s_destination_grade) : Cal P w K mg base 2 "destination_grade" ["sender", "tokens", "known"] (sp_dst K) := by
  refine cal_mk D sc_destination_grade (fun _ _ _ _ _ _ us hl => match us, hl with | [_, _, _], _ => rfl) (fun _ => rfl) (fun x a h => ?_) fun x f cdv Ar outer s H E Dd hr hp hD hN => ?_
  · simp at h; rcases h with h | h | h <;> (subst h; rfl)
  · obtain ⟨z, T, kn⟩ := x
    have hT : ∀ t ∈ T, t.sec = true := hp
    refine wr_if ((c_eqN (ss := T.map Tk.z) (Mok.none _) (fun s h => by obtain ⟨t, _, q⟩ := List.mem_map.mp h; rw [← q]; exact z_ok t) hr.units ((j_v (a := .b (T.map eT)) 1).imp (fun a q => by subst q; rw [eT_map]; exact .b)) (j_lst (ds := []) ja_nil)).is (q := decide (T = [])) (by cases T <;> simp)).t (fun h => ?_) (fun h => ?_)
    · have h : T = [] := of_decide_eq_true h
      refine wr_ret (Mok.none _) j_int fun a v H1 φ e _ ax => hD a v H1 ?_ e ax
      rw [← φ]; show A.i (.int (dst z T kn)) = _; unfold dst; rw [if_pos h]
    · have hne : ¬ T = [] := of_decide_eq_false h
      refine wr_go (wr_if ((c_niS (x := "ee") (xs := T.map Tk.z) (Mok.none _) j_str ((j_v (a := .b (T.map eT)) 1).imp (fun a q => by subst q; rw [eT_map]; exact .b))).is (q := !decide (Tk.ee ∈ T)) (by
        have := mem_z .ee T
        rw [ee_z] at this
        simp [this])).t (fun h => ?_) (fun h => ?_))
      · have h : ¬ Tk.ee ∈ T := by simpa using h
        refine wr_ret (Mok.none _) j_int fun a v H1 φ e _ ax => hD a v H1 ?_ e ax
        rw [← φ]; show A.i (.int (dst z T kn)) = _; unfold dst; rw [if_neg hne, if_neg h]
      · have h : Tk.ee ∈ T := by simpa using h
        refine wr_go (wr_set 3 sc_destination_grade.nd (j_othS c5 (hr.mono (by decide)) (Mok.none _) (j_v 0)) fun a φ => ⟨by subst φ; rfl, ?_⟩)
        subst φ
        refine wr_forB (Mok.none _) (j_v 1) (fun _ => [some (.i (.str (sdS z))), some (.b (T.map eT)), some (.i (.int kn)), some (.i (.str (othS z))), none]) (fun i _ => ∀ j t, j < i → T[j]? = some t → uses z t = false) rfl (Sub.refl _) (fun _ _ _ j t h => by omega) ?_ ?_
        · intro i d H1 hd hI e0 k0
          rw [List.getElem?_map] at hd
          cases ht : T[i]? with
          | none => rw [ht] at hd; cases hd
          | some t =>
            rw [ht] at hd
            cases hd
            have tm : t ∈ T := List.mem_of_getElem? ht
            obtain ⟨p, hm, q, hk, hs⟩ := B.used_at t (hT t tm)
            refine ⟨_, jg_name 4 sc_destination_grade.nd, ?_⟩
            refine wr_if (c_inS (x := othS z) (xs := [t.ko, t.ka]) (Mok.none _) (j_v 3) (J.sk (j_tab (k := t.z) (v := .ref q) (d := .tup [.str t.ko, .str t.ka]) (j_v 4) hm hk fun H => .mk (hs H) (.cons (.str _) (.cons (.str _) .nil))) .t)).t (fun h2 => ?_) (fun h2 => ?_)
            · refine wr_ret (Mok.none _) (j_add j_int (j_v 2)) fun a v H1 φ e _ ax => hD a v H1 ?_ e ax
              have : T.any (uses z) = true := List.any_eq_true.mpr ⟨t, tm, h2⟩
              rw [← φ]; show A.i (.int (dst z T kn)) = _; unfold dst; rw [if_neg hne, if_pos h, if_pos this]
            · refine wr_go (wr_next (fun _ _ _ j u hj hu => ?_) (.keep (.keep (.keep (.keep (.drop .nil))))))
              by_cases c : j = i
              · subst c; rw [ht] at hu; cases hu; exact h2
              · exact hI j u (by omega) hu
        · intro H1 hI e0 k0
          refine wr_ret (Mok.none _) j_int fun a v H1 φ e _ ax => hD a v H1 ?_ e ax
          have : T.any (uses z) = false := List.any_eq_false.mpr fun t ht => by
            obtain ⟨j, hj, e⟩ := List.mem_iff_getElem.mp ht
            rw [hI j t (by simpa using hj) (by rw [List.getElem?_eq_getElem hj, e])]; decide
          rw [← φ]; show A.i (.int (dst z T kn)) = _; unfold dst; rw [if_neg hne, if_pos h, if_neg (by rw [this]; decide)]
end
end K38
end
section
/-! walks: transport_senders, grades -/
namespace K38
open PySem L2
def eD (b : Bool) : I := .str (sdS b)
def eP (x : Int × Int) : I := .tup [.int x.1, .int x.2]
def tdAt (ms : List Msg) (i : Nat) : I := match (sds ms)[i]? with
  | some b => eP (tld ms i b)
  | none => .non
def toldL (ms : List Msg) : List I := (List.range (sds ms).length).map (tdAt ms)
theorem trans_len (ms : List Msg) : (trans ms).length ≤ 2 := by
  unfold trans
  split
  · rename_i h; rw [List.length_map, h]; omega
  · simp
theorem WF.few_sds {ms : List Msg} (h : WF ms) : (sds ms).length ≤ 14 := by
  have h1 := trans_len ms
  have h2 := h.few
  unfold sds
  rw [List.length_append, List.length_map]; omega
section
variable {P : Program} {w : World} {K : PySem.W.Frag} {mg : Str → Option Value} {base : Heap} {C : Addr}
abbrev sp_trans (K : PySem.W.Frag) (C : Addr) : Sp := spOf K (fun x H => Pat K C H x.1 x.2.1 x.2.2 ∧ WF x.2.2) (fun x : PX => [.r (.ref x.1)]) (fun x a => .n ((trans x.2.2).map eD) = a)
theorem ok_trans (B : Bi w K mg C) (D : Dh K mg "transport_senders" s_transport_senders) : Cal P w K mg base 1 "transport_senders" ["pattern"] (sp_trans K C) := by
  refine cal_mk D sc_transport_senders (fun _ _ _ _ _ _ us hl => match us, hl with | [_], _ => rfl) (fun _ => rfl) (fun x a h => ?_) fun x f cdv Ar outer s H E Dd hr hp hD hN => ?_
  · simp at h; subst h; rfl
  · obtain ⟨p, b, ms⟩ := x
    obtain ⟨hP, hW⟩ : Pat K C H p b ms ∧ WF ms := hp
    obtain ⟨t1, h1⟩ := B.opener
    obtain ⟨t2, h2⟩ := B.answerer
    have k0 : Mok none H := Mok.none H
    refine wr_if ((c_eqI (j_len k0 B.len ((j_msgs k0 B.cl B.nM hP (j_v 0)).sk .t)) j_int).is (q := decide (ms.length = 1)) (by rw [List.length_map]; exact decide_eq_decide.mpr (by omega))).t (fun h => ?_) (fun h => ?_)
    · have h : ms.length = 1 := of_decide_eq_true h
      obtain ⟨m, rfl⟩ := List.length_eq_one_iff.mp h
      refine wr_ret k0 (j_lst (ds := [eD m.1]) (ja_cons (j_ixT k0 (j_ixT k0 (j_msgs k0 B.cl B.nM hP (j_v 0)) j_int (d := eM m) rfl) j_int rfl) ja_nil)) fun a v H1 φ e _ ax => hD a v H1 φ e ax
    · have h : ¬ ms.length = 1 := of_decide_eq_false h
      refine wr_go (wr_ret k0 (j_lst (ds := [eD false, eD true]) (ja_cons (j_gstr h1) (ja_cons (j_gstr h2) ja_nil))) fun a v H1 φ e _ ax => hD a v H1 ?_ e ax)
      rw [← φ]; show A.n ((trans ms).map eD) = _; unfold trans; rw [if_neg h]; rfl
/-- what the loop of grades keeps -/
structure GrI (K : PySem.W.Frag) (lr kd : Addr) (ms : List Msg) (p : Addr) (xs : List V) (i : Nat) (H : Hp) : Prop where
  it : Ow none K H p xs ((sds ms).map eD)
  res : Own none K H lr ((List.range i).map (tdAt ms))
  kn : Od none K H kd (.int (kn ms i false)) (.int (kn ms i true))
  n1 : p ≠ lr
  n2 : p ≠ kd
theorem GrI.ek {lr kd : Addr} {ms : List Msg} {p : Addr} {xs : List V} {i : Nat} {H H' : Hp} (g : GrI K lr kd ms p xs i H) (e : Ek none H H') : GrI K lr kd ms p xs i H' :=
  ⟨g.it.ek e (Mok.none _), g.res.ek e (Mok.none _), g.kn.ek e (Mok.none _), g.n1, g.n2⟩
theorem Ow.ne {m : Mo} {H : Hp} {p q : Addr} {ds : List I} (o : Own m K H p ds) (h : H q = none) : q ≠ p := fun c => by
  subst c
  obtain ⟨_, xs, h2, _⟩ := o
  rw [h] at h2; cases h2
theorem Od.ne {m : Mo} {H : Hp} {p q : Addr} {f0 f1 : I} (o : Od m K H p f0 f1) (h : H q = none) : q ≠ p := fun c => by
  subst c
  obtain ⟨_, v0, v1, h2, _⟩ := o
  rw [h] at h2; cases h2
abbrev sp_grades (K : PySem.W.Frag) (C : Addr) : Sp := spOf K (fun x H => Pat K C H x.1 x.2.1 x.2.2 ∧ WF x.2.2) (fun x : PX => [.r (.ref x.1)]) (fun x a => .n (toldL x.2.2) = a)
theorem ok_grades (B : Bi w K mg C) (c1 : Cal P w K mg base 1 "transport_senders" ["pattern"] (sp_trans K C)) (c2 : Cal P w K mg base 1 "processed_before" ["pattern", "count"] (sp_processed K C)) (c3 : Cal P w K mg base 3 "source_grade" ["sender", "tokens"] (sp_src K))
    (c4 : Cal P w K mg base 2 "destination_grade" ["sender", "tokens", "known"] (sp_dst K)) (D : Dh K mg "grades" s_grades) : Cal P w K mg base 4 "grades" ["pattern"] (sp_grades K C) := by
  refine cal_mk D sc_grades (fun _ _ _ _ _ _ us hl => match us, hl with | [_], _ => rfl) (fun _ => rfl) (fun x a h => ?_) fun x f cdv Ar outer s H E Dd hr hp hD hN => ?_
  · simp at h; subst h; rfl
  · obtain ⟨p, b, ms⟩ := x
    obtain ⟨hP, hW⟩ : Pat K C H p b ms ∧ WF ms := hp
    obtain ⟨t1, h1⟩ := B.opener
    have k0 : ∀ H, Mok none H := Mok.none
    have few := hW.few
    have fewS := hW.few_sds
    refine wr_setN 1 sc_grades.nd (j_lst (ds := []) ja_nil) (fun lr Ha nlr ea _ e0a oa => ?_) (k0 _)
    refine wr_setD 2 sc_grades.nd (f0 := .int 0) (f1 := .int 0) j_int j_int (k0 _) fun kd Hb nkd eb _ e0b od => ?_
    have nkr : kd ≠ lr := Ow.ne oa nkd
    have ob := oa.ek eb (k0 _)
    refine wr_setLc 5 (own := [("sender", 3), ("_", 4)]) (ds := (ms.map (·.1)).map eD) sc_grades.nd rfl (pi_tup pe_r) (lc_eq (by rw [List.filter_eq_self.mpr (fun _ _ => rfl), List.map_map]; rfl) (lcm_T ms eM (fun _ => true) (fun m => eD m.1) (by omega) (j_msgs (k0 _) B.cl B.nM hP (j_v 0)) (fun m _ => Lt.all (fun s Hb C cl fp => jgw_tup rfl (jgsw_cons (jgw_name 3 sc_grades.nd (by decide)) (jgsw_cons (jgw_name 4 sc_grades.nd (by decide)) jgsw_nil))) (fun s Hb C cl fp => (j_v (a := .i (.str (sdS m.1))) 3).imp fun a φ => ⟨_, rfl, φ⟩)))) (fun s Hb C cl fp => pts_nil) (N := N_grades) (so := defScope s_grades) (by decide +kernel) (fun ls Hc nls ec _ e0c oc => ?_) (k0 _) (sw_true rfl rfl rfl (by decide +kernel))
    have ob := ob.ek ec (k0 _)
    have od := od.ek ec (k0 _)
    refine wr_set 6 sc_grades.nd (j_int (i := 0)) fun a φ => ⟨by subst φ; rfl, ?_⟩
    subst φ
    refine wr_forN (k0 _) (ds := (sds ms).map eD) ((j_catL (k0 _) (j_own (j_v 5) oc (k0 _)) .l (j_call c1 (hr.mono (by decide)) (k0 _) (ja_cons (j_v 0) ja_nil) (p, b, ms) rfl (fun H1 e e' => ⟨hP.ek e' (k0 _), hW⟩) (fun a h => ⟨by subst h; rfl, h⟩)) .n (by
        have := trans_len ms
        show ((ms.map (·.1)).map eD).length + ((trans ms).map eD).length ≤ 1000
        rw [List.length_map, List.length_map, List.length_map]; omega)).imp (fun a h => (show A.n ((sds ms).map eD) = a by rw [← h]; unfold sds; rw [List.map_append]))) .n
      (fun i => [some (.r (.ref p)), some (.r (.ref lr)), some (.r (.ref kd)), none, none, some (.r (.ref ls)), some (.i (.int (i : Nat))), none, none, none]) (GrI K lr kd ms) rfl (Sub.refl _)
      (fun q xs H1 f e _ _ o => ⟨o, ob.ek e (k0 _), od.ek e (k0 _), Ow.ne ob (f rfl), Od.ne od (f rfl)⟩) (fun q xs i H1 g => g.it) (k0 _) ?_ ?_
    · intro q xs i d H1 hd gI e01 _
      rw [List.getElem?_map] at hd
      cases hz : (sds ms)[i]? with
      | none => rw [hz] at hd; cases hd
      | some z =>
        rw [hz] at hd
        cases hd
        have hi : i < (sds ms).length := (List.getElem?_eq_some_iff.mp hz).1
        refine ⟨_, jg_name 3 sc_grades.nd, ?_⟩
        refine wr_aug 6 sc_grades.nd rfl j_int ?_
        refine wr_setN 7 sc_grades.nd (ds := (sc ms i).map eT) (j_call c2 (hr.mono (by decide)) (k0 _) (ja_cons (j_v 0) (ja_cons (j_v 6) ja_nil)) ((p, b, ms), i + 1) rfl (fun H1 e e' => ⟨hP.ek e' (k0 _), hW⟩) (fun a h => ⟨by subst h; rfl, h⟩)) (fun lt H2 nlt e2 _ e02 ot => ?_) (k0 _)
        have hT : ∀ t ∈ sc ms i, t.sec = true := fun t ht => secsOf_sec ht
        have g2 := gI.ek e2
        refine wr_set 8 sc_grades.nd (j_call c3 (hr.mono (by decide)) (k0 _) (ja_cons (j_v 3) (ja_cons (j_own (j_v 7) ot (k0 _)) ja_nil)) (z, sc ms i) rfl (fun _ _ _ => hT) (fun a h => ⟨by subst h; rfl, h⟩)) fun a φ => ⟨by subst φ; rfl, ?_⟩
        subst φ
        refine wr_set 9 sc_grades.nd (Φ := Eq (.i (.str (sdS (!z))))) (j_if (p := !z) ((c_eqS (i := sdS z) (j_v 3) (j_gstr h1)).is (sdS_o z)).t (fun h => (j_str (i := "<-")).is (by cases z <;> first | rfl | exact nomatch h)) (fun h => (j_str (i := "->")).is (by cases z <;> first | rfl | exact nomatch h))) fun a φ => ⟨by subst φ; rfl, ?_⟩
        subst φ
        refine wr_app (k0 _) (d := eP (tld ms i z)) (j_v 1) g2.res nlr (k0 _) (j_tup (ds := [.int (src z (sc ms i)), .int (dst z (sc ms i) (kn ms i (!z)))]) (ja_cons (j_v 8) (ja_cons (j_call c4 (hr.mono (by decide)) (k0 _) (ja_cons (j_v 3) (ja_cons (j_own (j_v 7) ot (k0 _)) (ja_cons
          ((j_dget (z := !z) (by have := hr.units; omega) g2.kn (k0 _) (j_v 2) (j_v 9) rfl).is (d' := .int (kn ms i (!z))) (by cases z <;> rfl)) ja_nil))) (z, sc ms i, kn ms i (!z)) rfl (fun _ _ _ => hT) (fun a h => ⟨by subst h; rfl, h⟩)) ja_nil))) (by rw [List.length_map, List.length_range]; omega) (fun H3 g3 e03 _ o3 => ?_)
        refine wr_dput (z := z) (k0 _) (by have := hr.units; omega) (g3.od (k0 _) g2.kn nkr) (Ek.back (k0 _) e0a nkd) (k0 _) (j_v 8) (j_v 2) (j_v 3) rfl (fun H4 g4 e04 _ o4 => ?_)
        refine wr_next (fun H5 e5 _ => GrI.ek (H := H4) ⟨g4.ow (k0 _) (g3.ow (k0 _) g2.it g2.n1) g2.n2, ?_, ?_, g2.n1, g2.n2⟩ e5) ?_
        · have o5 := g4.own (k0 _) o3 nkr.symm
          rw [List.range_succ, List.map_append]
          have : tdAt ms i = eP (tld ms i z) := by unfold tdAt; rw [hz]
          show Own none K H4 lr ((List.range i).map (tdAt ms) ++ [tdAt ms i])
          rw [this]
          exact o5
        · cases z with
          | false =>
            have ef : kn ms (i + 1) false = src false (sc ms i) := by show (if (sds ms)[i]? = some false then _ else _) = _; rw [if_pos hz]
            have et : kn ms (i + 1) true = kn ms i true := by show (if (sds ms)[i]? = some true then _ else _) = _; rw [if_neg (by rw [hz]; decide)]
            rw [ef, et]; exact o4
          | true =>
            have ef : kn ms (i + 1) true = src true (sc ms i) := by show (if (sds ms)[i]? = some true then _ else _) = _; rw [if_pos hz]
            have et : kn ms (i + 1) false = kn ms i false := by show (if (sds ms)[i]? = some false then _ else _) = _; rw [if_neg (by rw [hz]; decide)]
            rw [ef, et]; exact o4
        · exact .keep (.keep (.keep (.drop (.keep (.keep (.keep (.drop (.drop (.drop .nil)))))))))
    · intro q xs H1 gI e01 _
      have hr2 := gI.res
      rw [List.length_map] at hr2
      exact wr_retO (k0 _) (j_v 1) hr2 (k0 _) nlr fun v H3 e03 _ ax => hD _ v H3 rfl e03 ax
end
end K38
end
section
/-! walks: the steps, the rules -/
namespace K38
open PySem L2
section
variable {P : Program} {w : World} {K : PySem.W.Frag} {mg : Str → Option Value} {base : Heap} {C : Addr}
theorem s_z (t : Tk) : decide (t.z = "s") = decide (t = .s) := by cases t <;> decide +kernel
theorem key_z (t : Tk) : (decide (t.z = "e") || decide (t.z = "s")) = t.key := by cases t <;> decide +kernel
def befI (b : Bef) : Nat → List Step
  | 0 => []
  | 1 => b.1.map (fun t => (Kd.key, false, some t))
  | _ => befSteps b
theorem bef_turn (b : Bef) (i : Nat) (d d2 : I) (h1 : ([eD false, eD true] : List I)[i]? = some d) (h2 : ([eTs b.1, eTs b.2] : List I)[i]? = some d2) : ∃ z, d = eD z ∧ d2 = eTs (bside b z) ∧ befI b (i + 1) = befI b i ++ (bside b z).map (fun t => (Kd.key, z, some t)) := by
  match i, h1, h2 with
  | 0, h1, h2 => exact ⟨false, (Option.some.inj h1).symm, (Option.some.inj h2).symm, rfl⟩
  | 1, h1, h2 => exact ⟨true, (Option.some.inj h1).symm, (Option.some.inj h2).symm, rfl⟩
  | i + 2, h1, _ => simp at h1
abbrev sp_steps (K : PySem.W.Frag) (C : Addr) : Sp := spOf K (fun x H => Pat K C H x.1 x.2.1 x.2.2 ∧ WF x.2.2 ∧ WB x.2.1) (fun x : PX => [.r (.ref x.1)]) (fun x a => .n ((steps x.2.1 x.2.2).map eS) = a)
theorem ok_steps (B : Bi w K mg C) (c1 : Cal P w K mg base 1 "transport_senders" ["pattern"] (sp_trans K C)) (D : Dh K mg "pattern_steps" s_pattern_steps) : Cal P w K mg base 2 "pattern_steps" ["pattern"] (sp_steps K C) := by
  refine cal_mk D sc_pattern_steps (fun _ _ _ _ _ _ us hl => match us, hl with | [_], _ => rfl) (fun _ => rfl) (fun x a h => ?_) fun x f cdv Ar outer s H E Dd hr hp hD hN => ?_
  · simp at h; subst h; rfl
  · obtain ⟨p, b, ms⟩ := x
    obtain ⟨hP, hW, hB⟩ : Pat K C H p b ms ∧ WF ms ∧ WB b := hp
    obtain ⟨t1, h1⟩ := B.opener
    obtain ⟨t2, h2⟩ := B.answerer
    have k0 : ∀ H, Mok none H := Mok.none
    have nd := sc_pattern_steps.nd
    refine wr_setN 1 nd (j_lst (ds := []) ja_nil) (fun ls Ha nls ea _ e0a oa => ?_) (k0 _)
    refine wr_forZ (ds := [eD false, eD true]) (es := [eTs b.1, eTs b.2]) B.zip (j_tup (ja_cons (j_gstr h1) (ja_cons (j_gstr h2) ja_nil))) (j_bef (k0 _) B.cl B.nB hP (j_v 0)) rfl (fun _ => [some (.r (.ref p)), some (.r (.ref ls)), none, none, none, none]) (fun i H' => Own none K H' ls ((befI b i).map eS)) rfl (Sub.refl _)
      (fun H1 e1 _ => oa.ek e1 (k0 _)) (fun i H1 H2 e _ o => o.ek e (k0 _)) ?_ ?_
    · intro i d d2 g g2 H1 hd hd2 hI e01 _ fg fg2
      obtain ⟨z, rfl, rfl, hz⟩ := bef_turn b i d d2 hd hd2
      refine ⟨_, jg_tup rfl (jgs_cons (jg_name 2 nd) (jgs_cons (jg_name 3 nd) jgs_nil)), ?_⟩
      refine wr_forT (j_v 3) (fun _ => [some (.r (.ref p)), some (.r (.ref ls)), some (.i (eD z)), some (.i (eTs (bside b z))), none, none]) (fun j H' => Own none K H' ls ((befI b i ++ ((bside b z).take j).map (fun t => (Kd.key, z, some t))).map eS)) rfl (Sub.refl _)
        (fun H2 e2 _ => by rw [List.take_zero, List.map_nil, List.append_nil]; exact hI.ek e2 (k0 _)) ?_ ?_
      · intro j d g3 H2 hd hI2 e02 _ fg3
        rw [List.getElem?_map] at hd
        cases ht : (bside b z)[j]? with
        | none => rw [ht] at hd; cases hd
        | some t =>
          rw [ht] at hd
          cases hd
          refine ⟨_, jg_name 4 nd, ?_⟩
          refine wr_app (k0 _) (d := eS (.key, z, some t)) (j_v 1) hI2 nls (k0 _) (j_tup (ds := [.str "key", eD z, eT t]) (ja_cons j_str (ja_cons (j_v 2) (ja_cons (j_v 4) ja_nil)))) ?_ (fun H3 g4 e03 _ o3 => ?_) rfl (gf_cons fg3 (gf_cons fg (gf_cons fg2 rfl)))
          · have l1 : (befI b i).length ≤ 4 := by
              have := hB.o
              match i with
              | 0 => simp [befI]
              | 1 => simp [befI]; omega
              | i + 2 => exact len_bef hB
            have l2 : (bside b z).length ≤ 2 := by cases z; exact hB.o; exact hB.a
            rw [List.length_map, List.length_append, List.length_map, List.length_take]; omega
          · refine wr_next (fun H4 e4 _ => ?_) (.keep (.keep (.keep (.keep (.drop (.keep .nil))))))
            rw [take_snoc _ _ _ ht, List.map_append (l₁ := (bside b z).take j), ← List.append_assoc, List.map_append]
            exact o3.ek e4 (k0 _)
      · intro H2 hI2 e02 _
        refine wr_next (fun H4 e4 _ => ?_) (.keep (.keep (.drop (.drop (.keep (.keep .nil))))))
        rw [hz]
        rw [List.length_map, List.take_length] at hI2
        exact hI2.ek e4 (k0 _)
    · intro H1 hI e01 _
      have oI : Own none K H1 ls ((befSteps b).map eS) := hI
      refine wr_set 5 nd (j_bl (i := false)) fun a φ => ⟨by subst φ; rfl, ?_⟩
      subst φ
      refine wr_forT (j_msgs (k0 _) B.cl B.nM hP (j_v 0)) (fun i => [some (.r (.ref p)), some (.r (.ref ls)), none, none, none, some (.i (.bl ((ms.take i).foldl msgF (befSteps b, false)).2))]) (fun i H' => Own none K H' ls (((ms.take i).foldl msgF (befSteps b, false)).1.map eS)) rfl (Sub.refl _) (fun H2 e2 _ => oI.ek e2 (k0 _)) ?_ ?_
      · intro i d g H2 hd hI2 e02 _ fg
        rw [List.getElem?_map] at hd
        cases hm : ms[i]? with
        | none => rw [hm] at hd; cases hd
        | some m =>
          rw [hm] at hd
          cases hd
          have mm : m ∈ ms := List.mem_of_getElem? hm
          have lm := (hW.toks m mm).2
          have lp := len_pre hB hW i
          refine ⟨_, jg_tup rfl (jgs_cons (jg_name 2 nd) (jgs_cons (jg_name 3 nd) jgs_nil)), ?_⟩
          generalize hst : (ms.take i).foldl msgF (befSteps b, false) = st at hI2 lp
          refine wr_forT (j_v 3) (fun j => [some (.r (.ref p)), some (.r (.ref ls)), some (.i (eD m.1)), some (.i (eTs m.2)), none, some (.i (.bl ((m.2.take j).foldl (tokF m.1) st).2))]) (fun j H' => Own none K H' ls (((m.2.take j).foldl (tokF m.1) st).1.map eS)) rfl (Sub.refl _) (fun H2 e2 _ => hI2.ek e2 (k0 _)) ?_ ?_
          · intro j d g3 H3 hd hI3 e03 _ fg3
            rw [List.getElem?_map] at hd
            cases ht : m.2[j]? with
            | none => rw [ht] at hd; cases hd
            | some t =>
              rw [ht] at hd
              cases hd
              have lj := len_tokF m.1 (m.2.take j) st
              have lj2 : (m.2.take j).length ≤ m.2.length := by rw [List.length_take]; exact Nat.min_le_right _ _
              have stp : (m.2.take (j + 1)).foldl (tokF m.1) st = tokF m.1 ((m.2.take j).foldl (tokF m.1) st) t := foldl_take _ _ _ _ _ ht
              refine ⟨_, jg_name 4 nd, ?_⟩
              generalize hsj : (m.2.take j).foldl (tokF m.1) st = sj at hI3 lj stp
              have gg : Gh.firm (g3 :: g :: []) = true := gf_cons fg3 (gf_cons fg rfl)
              have l1 : sj.1.length ≤ 540 := by omega
              refine wr_ifJ [some (.r (.ref p)), some (.r (.ref ls)), some (.i (eD m.1)), some (.i (eTs m.2)), some (.i (eT t)), some (.i (.bl sj.2))] (fun H' => Own none K H' ls ((if decide (t = .s) && sj.2 then sj.1 ++ [(Kd.enc, m.1, some t)] else sj.1).map eS))
                (jt_and (((c_eqS (i := t.z) (j_v 4) j_str).is (s_z t)).t) fun _ => jt_of (j_v 5)) (fun hb => ?_) (fun hb => ?_) (fun H4 o4 e04 _ => ?_)
              · refine wr_app (k0 _) (d := eS (.enc, m.1, some t)) (j_v 1) hI3 nls (k0 _) (j_tup (ds := [.str "encrypt", eD m.1, eT t]) (ja_cons j_str (ja_cons (j_v 2) (ja_cons (j_v 4) ja_nil)))) (by rw [List.length_map]; omega) (fun H4 g4 e04 _ o4 => ?_) rfl gg
                exact wr_meet (fun H5 e5 _ => by rw [if_pos hb, List.map_append]; exact o4.ek e5 (k0 _)) (Sub.refl _)
              · exact wr_meet (fun H5 e5 _ => by rw [if_neg (by rw [hb]; decide)]; exact hI3.ek e5 (k0 _)) (Sub.refl _)
              · have l2 : ((if decide (t = .s) && sj.2 then sj.1 ++ [(Kd.enc, m.1, some t)] else sj.1).map eS).length < 1000 := by
                  rw [List.length_map]
                  split
                  · rw [List.length_append, List.length_singleton]; omega
                  · omega
                refine wr_if ((jt_or (c_eqS (i := t.z) (j_v 4) j_str).t fun _ => (c_eqS (i := t.z) (j_v 4) j_str).t).is (key_z t)) (fun hk => ?_) (fun hk => ?_)
                · refine wr_app (k0 _) (d := eS (.key, m.1, some t)) (j_v 1) o4 nls (k0 _) (j_tup (ds := [.str "key", eD m.1, eT t]) (ja_cons j_str (ja_cons (j_v 2) (ja_cons (j_v 4) ja_nil)))) l2 (fun H5 g5 e05 _ o5 => ?_) rfl gg
                  refine wr_go (wr_next (fun H6 e6 _ => ?_) ?_)
                  · rw [stp]
                    have : (tokF m.1 sj t).1 = (if decide (t = .s) && sj.2 then sj.1 ++ [(Kd.enc, m.1, some t)] else sj.1) ++ [(Kd.key, m.1, some t)] := by unfold tokF; rw [if_pos hk]
                    rw [this, List.map_append]
                    exact o5.ek e6 (k0 _)
                  · have : (tokF m.1 sj t).2 = sj.2 := by unfold tokF; simp [hk]
                    rw [stp, this]
                    exact .keep (.keep (.keep (.keep (.drop (.keep .nil)))))
                · refine wr_app (k0 _) (d := eS (.mix, m.1, some t)) (j_v 1) o4 nls (k0 _) (j_tup (ds := [.str "mix", eD m.1, eT t]) (ja_cons j_str (ja_cons (j_v 2) (ja_cons (j_v 4) ja_nil)))) l2 (fun H5 g5 e05 _ o5 => ?_) rfl gg
                  refine wr_set 5 nd (j_bl (i := true)) fun a φ => ⟨by subst φ; rfl, ?_⟩
                  subst φ
                  refine wr_go (wr_next (fun H6 e6 _ => ?_) ?_)
                  · rw [stp]
                    have : (tokF m.1 sj t).1 = (if decide (t = .s) && sj.2 then sj.1 ++ [(Kd.enc, m.1, some t)] else sj.1) ++ [(Kd.mix, m.1, some t)] := by unfold tokF; rw [if_neg (c := t.key = true) (by rw [hk]; decide)]
                    rw [this, List.map_append]
                    exact o5.ek e6 (k0 _)
                  · have : (tokF m.1 sj t).2 = true := by unfold tokF; simp [hk]
                    rw [stp, this]
                    exact .keep (.keep (.keep (.keep (.drop (.keep .nil)))))
          · intro H3 hI3 e03 _
            rw [List.length_map, List.take_length]
            rw [List.length_map, List.take_length] at hI3
            have stp : (ms.take (i + 1)).foldl msgF (befSteps b, false) = msgF st m := by rw [foldl_take _ _ _ _ _ hm, hst]
            have lj := len_tokF m.1 m.2 st
            generalize hsj : m.2.foldl (tokF m.1) st = sj at hI3 lj
            have em : msgF st m = if sj.2 then (sj.1 ++ [(Kd.enc, m.1, none)], sj.2) else sj := by unfold msgF; simp only [hsj]
            refine wr_if (jt_of (j_v 5)) (fun hb => ?_) (fun hb => ?_)
            · refine wr_app (k0 _) (d := eS (.enc, m.1, none)) (j_v 1) hI3 nls (k0 _) (j_tup (ds := [.str "encrypt", eD m.1, .str ""]) (ja_cons j_str (ja_cons (j_v 2) (ja_cons j_str ja_nil)))) (by rw [List.length_map]; omega) (fun H5 g5 e05 _ o5 => ?_) rfl (gf_cons fg (G := []) rfl)
              refine wr_go (wr_next (fun H6 e6 _ => ?_) ?_)
              · rw [stp, em, if_pos hb, List.map_append]
                exact o5.ek e6 (k0 _)
              · rw [stp, em, if_pos hb]
                exact .keep (.keep (.drop (.drop (.drop (.keep .nil)))))
            · refine wr_go (wr_next (fun H6 e6 _ => ?_) ?_)
              · rw [stp, em, if_neg (by rw [hb]; decide)]
                exact hI3.ek e6 (k0 _)
              · rw [stp, em, if_neg (by rw [hb]; decide)]
                exact .keep (.keep (.drop (.drop (.drop (.keep .nil)))))
      · intro H2 hI2 e02 _
        rw [List.length_map, List.take_length]
        rw [List.length_map, List.take_length] at hI2
        have lp := len_pre hB hW ms.length
        rw [List.take_length] at lp
        have eq : steps b ms = (trans ms).foldl (trF (ms.foldl msgF (befSteps b, false)).2) (ms.foldl msgF (befSteps b, false)).1 := rfl
        generalize hst : ms.foldl msgF (befSteps b, false) = st at hI2 lp eq
        refine wr_forN (k0 _) (ds := (trans ms).map eD) (j_call c1 (hr.mono (by decide)) (k0 _) (ja_cons (j_v 0) ja_nil) (p, b, ms) rfl (fun H1 e e' => ⟨hP.ek e' (k0 _), hW⟩) (fun a h => ⟨by subst h; rfl, h⟩)) .n (fun i => [some (.r (.ref p)), some (.r (.ref ls)), none, none, none, some (.i (.bl st.2))])
          (fun q xs i H' => Ow none K H' q xs ((trans ms).map eD) ∧ Own none K H' ls ((((trans ms).take i).foldl (trF st.2) st.1).map eS) ∧ q ≠ ls) rfl (Sub.refl _)
          (fun q xs H3 f e _ _ o => ⟨o, hI2.ek e (k0 _), Ow.ne hI2 (f rfl)⟩) (fun q xs i H3 g => g.1) (k0 _) ?_ ?_
        · intro q xs i d H3 hd ⟨oq, os, nq⟩ e03 _
          rw [List.getElem?_map] at hd
          cases hz : (trans ms)[i]? with
          | none => rw [hz] at hd; cases hd
          | some z =>
            rw [hz] at hd
            cases hd
            refine ⟨_, jg_name 2 nd, ?_⟩
            have stp : ((trans ms).take (i + 1)).foldl (trF st.2) st.1 = trF st.2 (((trans ms).take i).foldl (trF st.2) st.1) z := foldl_take _ _ _ _ _ hz
            have l1 := len_trF st.2 ((trans ms).take i) st.1
            have l2 : ((trans ms).take i).length ≤ (trans ms).length := by rw [List.length_take]; exact Nat.min_le_right _ _
            have l3 := trans_len ms
            generalize hsj : ((trans ms).take i).foldl (trF st.2) st.1 = sj at os stp l1
            refine wr_if (jt_of (j_v 5)) (fun hb => ?_) (fun hb => ?_)
            · refine wr_app (k0 _) (d := eS (.enc, z, none)) (j_v 1) os nls (k0 _) (j_tup (ds := [.str "encrypt", eD z, .str ""]) (ja_cons j_str (ja_cons (j_v 2) (ja_cons j_str ja_nil)))) (by rw [List.length_map]; omega) (fun H5 g5 e05 _ o5 => ?_)
              refine wr_go (wr_next (fun H6 e6 _ => ⟨(g5.ow (k0 _) oq nq).ek e6 (k0 _), ?_, nq⟩) (.keep (.keep (.drop (.keep (.keep (.keep .nil)))))))
              rw [stp]
              have : trF st.2 sj z = sj ++ [(Kd.enc, z, none)] := by unfold trF; rw [if_pos hb]
              rw [this, List.map_append]
              exact o5.ek e6 (k0 _)
            · refine wr_go (wr_next (fun H6 e6 _ => ⟨oq.ek e6 (k0 _), ?_, nq⟩) (.keep (.keep (.drop (.keep (.keep (.keep .nil)))))))
              rw [stp]
              have : trF st.2 sj z = sj := by unfold trF; rw [if_neg (by rw [hb]; decide)]
              rw [this]
              exact os.ek e6 (k0 _)
        · intro q xs H3 ⟨oq, os, nq⟩ e03 _
          rw [List.length_map, List.take_length] at os
          exact wr_retO (k0 _) (j_v 1) os (k0 _) nls fun v H4 e04 _ ax => hD _ v H4 (by rw [← eq]) e04 ax
end
end K38
end
section
/-! walks: the rules -/
namespace K38
open PySem L2
/-! ### texts of the steps -/
theorem kd_z (k l : Kd) : decide (k.z = l.z) = decide (k = l) := by cases k <;> cases l <;> decide +kernel
theorem kz_key (k : Kd) : decide (k.z = "key") = decide (k = .key) := kd_z k .key
theorem kz_mix (k : Kd) : decide (k.z = "mix") = decide (k = .mix) := kd_z k .mix
theorem kz_enc (k : Kd) : decide (k.z = "encrypt") = decide (k = .enc) := kd_z k .enc
def kp (x : Bool × Tk) : Str × Str := (sdS x.1, x.2.z)
theorem kp_inj (x y : Bool × Tk) (h : kp x = kp y) : x = y := by
  obtain ⟨a, b⟩ := x
  obtain ⟨c, d⟩ := y
  have h1 := (Prod.mk.inj h).1
  have h2 := (Prod.mk.inj h).2
  rw [sdS_inj a c h1, Tk.z_inj b d h2]
theorem kp_mem (x : Bool × Tk) (l : List (Bool × Tk)) : (kp x ∈ l.map kp) ↔ x ∈ l := by
  rw [List.mem_map]
  exact ⟨fun ⟨a, h, e⟩ => by rw [← kp_inj a x e]; exact h, fun h => ⟨x, h, rfl⟩⟩
theorem sd_ok (b : Bool) : PyData.strOk (sdS b) = true := by cases b <;> decide +kernel
theorem kp_ok (x : Bool × Tk) : okP (kp x) = true := by
  show (PyData.strOk (sdS x.1) && PyData.strOk x.2.z) = true
  rw [sd_ok, z_ok]; rfl
theorem kp_oks (l : List (Bool × Tk)) : ∀ z ∈ l.map kp, okP z = true := fun z h => by
  obtain ⟨x, _, e⟩ := List.mem_map.mp h
  rw [← e]; exact kp_ok x
theorem keysS_snoc (l : List Step) (x : Step) : keysS (l ++ [x]) = keysS l ++ keysS [x] := by unfold keysS; rw [List.filterMap_append]
theorem mixS_snoc (l : List Step) (x : Step) : mixS (l ++ [x]) = mixS l ++ mixS [x] := by unfold mixS; rw [List.filterMap_append]
theorem len_keysS (l : List Step) : (keysS l).length ≤ l.length := List.length_filterMap_le _ _
theorem len_mixS (l : List Step) : (mixS l).length ≤ l.length := List.length_filterMap_le _ _
theorem nodup_at {α : Type} {l r : List α} {x : α} (h : (l ++ [x] ++ r).Nodup) : x ∉ l := by
  rw [List.append_assoc, List.nodup_append] at h
  intro hx
  exact h.2.2 x hx x (by simp) rfl
theorem split_at {α : Type} (l : List α) (i : Nat) (x : α) (h : l[i]? = some x) : l = l.take i ++ [x] ++ l.drop (i + 1) := by
  rw [← take_snoc l i x h, List.take_append_drop]
theorem lo_z (t : Tk) (h : t.sec = true) : t.z.length ≤ 100 ∧ ∃ c1 c2, atI t.z.cps.toList 0 = some c1 ∧ atI t.z.cps.toList 1 = some c2 ∧ (⟨#[c1]⟩ : Str) = t.lo.z ∧ (⟨#[c2]⟩ : Str) = t.la.z := by
  cases t with
  | ee => exact ⟨by decide +kernel, _, _, rfl, rfl, by decide +kernel, by decide +kernel⟩
  | es => exact ⟨by decide +kernel, _, _, rfl, rfl, by decide +kernel, by decide +kernel⟩
  | se => exact ⟨by decide +kernel, _, _, rfl, rfl, by decide +kernel, by decide +kernel⟩
  | ss => exact ⟨by decide +kernel, _, _, rfl, rfl, by decide +kernel, by decide +kernel⟩
  | e => cases h
  | s => cases h
  | psk => cases h
section
variable {P : Program} {w : World} {K : PySem.W.Frag} {mg : Str → Option Value} {base : Heap} {C : Addr}
abbrev sp_no (K : PySem.W.Frag) : Sp := spOf K (fun x _ => StOk x ∧ x.length ≤ 900) (fun x : List Step => [.b (x.map eS)]) (fun x a => .i (.bl false) = a)
theorem ok_rkey (D : Dh K mg "repeats_key" s_repeats_key) : Cal P w K mg base 1 "repeats_key" ["steps"] (sp_no K) := by
  refine cal_mk D sc_repeats_key (fun _ _ _ _ _ _ us hl => match us, hl with | [_], _ => rfl) (fun _ => rfl) (fun x a h => ?_) fun x f cdv Ar outer s H E Dd hr hp hD hN => ?_
  · simp at h; subst h; rfl
  · obtain ⟨hS, hlen⟩ : StOk x ∧ x.length ≤ 900 := hp
    have k0 : ∀ H, Mok none H := Mok.none
    have nd := sc_repeats_key.nd
    refine wr_setN 1 nd (j_lst (ds := []) ja_nil) (fun ls Ha nls ea _ e0a oa => ?_) (k0 _)
    refine wr_forB (k0 _) (j_v 0) (fun _ => [some (.b (x.map eS)), some (.r (.ref ls)), none, none, none]) (fun i H' => Own none K H' ls (((keysS (x.take i)).map kp).map pI)) rfl (Sub.refl _) (fun H1 e1 _ => oa.ek e1 (k0 _)) ?_ ?_
    · intro i d H1 hd hI e01 _
      rw [List.getElem?_map] at hd
      cases hx : x[i]? with
      | none => rw [hx] at hd; cases hd
      | some y =>
        rw [hx] at hd
        cases hd
        refine ⟨_, jg_tup rfl (jgs_cons (jg_name 2 nd) (jgs_cons (jg_name 3 nd) (jgs_cons (jg_name 4 nd) jgs_nil))), ?_⟩
        refine wr_if ((c_eqS (i := y.1.z) (j_v 2) j_str).is (kz_key y.1)).t (fun hb => ?_) (fun hb => ?_)
        · have hb : y.1 = .key := of_decide_eq_true hb
          obtain ⟨t, ht⟩ : ∃ t, y.2.2 = some t := by
            rcases hS.form y (List.mem_of_getElem? hx) with h | ⟨t, h, _⟩
            · rw [hb] at h; cases h
            · exact ⟨t, h⟩
          have ey : y = (.key, y.2.1, some t) := by rw [← ht, ← hb]
          have ek : keysS [y] = [(y.2.1, t)] := by rw [ey]; rfl
          have ni : (y.2.1, t) ∉ keysS (x.take i) := by
            have h1 := hS.r1
            rw [split_at x i y hx] at h1
            unfold keysS at h1
            rw [List.filterMap_append, List.filterMap_append] at h1
            have h2 : keysS (x.take i) ++ keysS [y] ++ keysS (x.drop (i + 1)) = _ := rfl
            have h3 : (keysS (x.take i) ++ [(y.2.1, t)] ++ keysS (x.drop (i + 1))).Nodup := by rw [← ek]; exact h1
            exact nodup_at h3
          refine wr_if ((c_inP (z := kp (y.2.1, t)) (zs := (keysS (x.take i)).map kp) (k0 _) (by have := hr.un; omega) (kp_ok _) (kp_oks _) (j_tup (ds := [.str (sdS y.2.1), .str t.z]) (ja_cons (j_v 3) (ja_cons ((j_v (a := .i (.str (tz y.2.2))) 4).imp (fun a φ => by rw [ht] at φ; exact φ)) ja_nil))) ((j_own (j_v 1) hI (k0 _)).imp (fun a φ => by subst φ; exact .l))).is (q := false)
            (decide_eq_false fun q => ni ((kp_mem _ _).mp q))).t (fun h => nomatch h) (fun _ => wr_go ?_)
          refine wr_app (k0 _) (d := pI (kp (y.2.1, t))) (j_v 1) hI nls (k0 _) (j_tup (ds := [.str (sdS y.2.1), .str t.z]) (ja_cons (j_v 3) (ja_cons ((j_v (a := .i (.str (tz y.2.2))) 4).imp (fun a φ => by rw [ht] at φ; exact φ)) ja_nil))) ?_ (fun H2 g2 e02 _ o2 => ?_)
          · have l1 := len_keysS (x.take i)
            have l2 : (x.take i).length ≤ x.length := by rw [List.length_take]; exact Nat.min_le_right _ _
            rw [List.length_map, List.length_map]; omega
          · refine wr_go (wr_next (fun H3 e3 _ => ?_) (.keep (.keep (.drop (.drop (.drop .nil))))))
            rw [take_snoc _ _ _ hx, keysS_snoc, ek, List.map_append, List.map_append]
            exact o2.ek e3 (k0 _)
        · have hb : ¬ y.1 = .key := of_decide_eq_false hb
          refine wr_go (wr_next (fun H3 e3 _ => ?_) (.keep (.keep (.drop (.drop (.drop .nil))))))
          have ek : keysS [y] = [] := by
            obtain ⟨k, z, t⟩ := y
            cases k with
            | key => exact absurd rfl hb
            | mix => rfl
            | enc => rfl
          rw [take_snoc _ _ _ hx, keysS_snoc, ek, List.append_nil]
          exact hI.ek e3 (k0 _)
    · intro H1 hI e01 _
      exact wr_ret (k0 _) j_bl fun a v H2 φ e _ ax => hD a v H2 φ e ax
theorem lk_own {X : Cx} {H0 H : Hp} {ρ : Ro} {G : Gh} {e : Expr} {l : Addr} {ds : List I} (h : J X none H0 H ρ G e (Eq (.r (.ref l)))) (o : Own none X.K H l ds) : J X none H0 H ρ G e (Lk ds) := (j_own h o (Mok.none _)).imp fun a φ => by subst φ; exact .l
theorem form_key {x : List Step} (hS : StOk x) {i : Nat} {y : Step} (hx : x[i]? = some y) (hb : y.1 = .key) : ∃ t, y = (.key, y.2.1, some t) := by
  rcases hS.form y (List.mem_of_getElem? hx) with h | ⟨t, h, _⟩
  · rw [hb] at h; cases h
  · exact ⟨t, by rw [← h, ← hb]⟩
theorem form_mix {x : List Step} (hS : StOk x) {i : Nat} {y : Step} (hx : x[i]? = some y) (hb : y.1 = .mix) : ∃ t, y = (.mix, y.2.1, some t) := by
  rcases hS.form y (List.mem_of_getElem? hx) with h | ⟨t, h, _⟩
  · rw [hb] at h; cases h
  · exact ⟨t, by rw [← h, ← hb]⟩
theorem keysS_no {y : Step} (hb : ¬ y.1 = .key) : keysS [y] = [] := by
  obtain ⟨k, z, t⟩ := y
  cases k with
  | key => exact absurd rfl hb
  | mix => rfl
  | enc => rfl
theorem mixS_no {y : Step} (hb : ¬ y.1 = .mix) : mixS [y] = [] := by
  obtain ⟨k, z, t⟩ := y
  cases k with
  | key => rfl
  | mix => exact absurd rfl hb
  | enc => rfl
theorem len_take_le {α : Type} (l : List α) (i : Nat) : (l.take i).length ≤ l.length := by rw [List.length_take]; exact Nat.min_le_right _ _
theorem ok_rsec (B : Bi w K mg C) (D : Dh K mg "repeats_secret" s_repeats_secret) : Cal P w K mg base 1 "repeats_secret" ["steps"] (sp_no K) := by
  refine cal_mk D sc_repeats_secret (fun _ _ _ _ _ _ us hl => match us, hl with | [_], _ => rfl) (fun _ => rfl) (fun x a h => ?_) fun x f cdv Ar outer s H E Dd hr hp hD hN => ?_
  · simp at h; subst h; rfl
  · obtain ⟨hS, hlen⟩ : StOk x ∧ x.length ≤ 900 := hp
    obtain ⟨ps, hsm, hst⟩ := B.secrets
    have k0 : ∀ H, Mok none H := Mok.none
    have nd := sc_repeats_secret.nd
    refine wr_setN 1 nd (j_lst (ds := []) ja_nil) (fun ls Ha nls ea _ e0a oa => ?_) (k0 _)
    refine wr_forB (k0 _) (j_v 0) (fun _ => [some (.b (x.map eS)), some (.r (.ref ls)), none, none, none]) (fun i H' => Own none K H' ls (((mixS (x.take i)).filter Tk.sec).map eT)) rfl (Sub.refl _) (fun H1 e1 _ => oa.ek e1 (k0 _)) ?_ ?_
    · intro i d H1 hd hI e01 _
      rw [List.getElem?_map] at hd
      cases hx : x[i]? with
      | none => rw [hx] at hd; cases hd
      | some y =>
        rw [hx] at hd
        cases hd
        refine ⟨_, jg_tup rfl (jgs_cons (jg_name 2 nd) (jgs_cons (jg_name 3 nd) (jgs_cons (jg_name 4 nd) jgs_nil))), ?_⟩
        refine wr_if (jt_and ((c_eqS (i := y.1.z) (j_v 2) j_str).is (kz_mix y.1)).t fun _ => (c_inS (x := tz y.2.2) (xs := ["ee", "es", "se", "ss"]) (k0 _) (j_v 4) ((j_gtup hsm hst (fun _ => ItL.map V.str I.str (fun x => It.str x) ["ee", "es", "se", "ss"])).sk .t)).t) (fun hb => ?_) (fun hb => ?_)
        · rw [Bool.and_eq_true] at hb
          obtain ⟨t, ey⟩ := form_mix hS hx (of_decide_eq_true hb.1)
          have ht : y.2.2 = some t := by rw [ey]
          have hsec : t.sec = true := by have := hb.2; rw [ht] at this; rw [← secs_mem' t]; exact this
          have ek : (mixS [y]).filter Tk.sec = [t] := by rw [ey]; show ([t] : List Tk).filter Tk.sec = [t]; rw [List.filter_cons, if_pos hsec]; rfl
          have ni : t ∉ (mixS (x.take i)).filter Tk.sec := by
            have h1 := hS.r2
            rw [split_at x i y hx] at h1
            unfold mixS at h1
            rw [List.filterMap_append, List.filterMap_append, List.filter_append, List.filter_append] at h1
            have h3 : ((mixS (x.take i)).filter Tk.sec ++ [t] ++ (mixS (x.drop (i + 1))).filter Tk.sec).Nodup := by rw [← ek]; exact h1
            exact nodup_at h3
          refine wr_if ((c_inS (x := t.z) (xs := ((mixS (x.take i)).filter Tk.sec).map Tk.z) (k0 _) ((j_v (a := .i (.str (tz y.2.2))) 4).imp (fun a φ => by rw [ht] at φ; exact φ)) ((j_own (j_v 1) hI (k0 _)).imp (fun a φ => by subst φ; rw [eT_map]; exact .l))).is (q := false)
            (decide_eq_false fun q => ni ((mem_z _ _).mp q))).t (fun h => nomatch h) (fun _ => wr_go ?_)
          refine wr_app (k0 _) (d := eT t) (j_v 1) hI nls (k0 _) ((j_v (a := .i (.str (tz y.2.2))) 4).imp (fun a φ => by rw [ht] at φ; exact φ)) ?_ (fun H2 g2 e02 _ o2 => ?_)
          · have l1 := len_mixS (x.take i)
            have l2 := len_take_le x i
            have l3 := List.length_filter_le Tk.sec (mixS (x.take i))
            rw [List.length_map]; omega
          · refine wr_go (wr_next (fun H3 e3 _ => ?_) (.keep (.keep (.drop (.drop (.drop .nil))))))
            rw [take_snoc _ _ _ hx, mixS_snoc, List.filter_append, ek, List.map_append]
            exact o2.ek e3 (k0 _)
        · refine wr_go (wr_next (fun H3 e3 _ => ?_) (.keep (.keep (.drop (.drop (.drop .nil))))))
          have ek : (mixS [y]).filter Tk.sec = [] := by
            by_cases c : y.1 = .mix
            · obtain ⟨t, ey⟩ := form_mix hS hx c
              have ht : y.2.2 = some t := by rw [ey]
              rw [c, decide_eq_true rfl, Bool.true_and, ht] at hb
              have hsec : t.sec = false := by rw [← secs_mem' t]; exact hb
              rw [ey]; show ([t] : List Tk).filter Tk.sec = []; rw [List.filter_cons, if_neg (by rw [hsec]; decide)]; rfl
            · rw [mixS_no c]; rfl
          rw [take_snoc _ _ _ hx, mixS_snoc, List.filter_append, ek, List.append_nil]
          exact hI.ek e3 (k0 _)
    · intro H1 hI e01 _
      exact wr_ret (k0 _) j_bl fun a v H2 φ e _ ax => hD a v H2 φ e ax
theorem ok_mkey (B : Bi w K mg C) (D : Dh K mg "misses_key" s_misses_key) : Cal P w K mg base 1 "misses_key" ["steps"] (sp_no K) := by
  refine cal_mk D sc_misses_key (fun _ _ _ _ _ _ us hl => match us, hl with | [_], _ => rfl) (fun _ => rfl) (fun x a h => ?_) fun x f cdv Ar outer s H E Dd hr hp hD hN => ?_
  · simp at h; subst h; rfl
  · obtain ⟨hS, hlen⟩ : StOk x ∧ x.length ≤ 900 := hp
    obtain ⟨ps, hsm, hst⟩ := B.secrets
    obtain ⟨t1, h1⟩ := B.opener
    obtain ⟨t2, h2⟩ := B.answerer
    have k0 : ∀ H, Mok none H := Mok.none
    have nd := sc_misses_key.nd
    refine wr_setN 1 nd (j_lst (ds := []) ja_nil) (fun ls Ha nls ea _ e0a oa => ?_) (k0 _)
    refine wr_forB (k0 _) (j_v 0) (fun _ => [some (.b (x.map eS)), some (.r (.ref ls)), none, none, none]) (fun i H' => Own none K H' ls (((keysS (x.take i)).map kp).map pI)) rfl (Sub.refl _) (fun H1 e1 _ => oa.ek e1 (k0 _)) ?_ ?_
    · intro i d H1 hd hI e01 _
      rw [List.getElem?_map] at hd
      cases hx : x[i]? with
      | none => rw [hx] at hd; cases hd
      | some y =>
        rw [hx] at hd
        cases hd
        refine ⟨_, jg_tup rfl (jgs_cons (jg_name 2 nd) (jgs_cons (jg_name 3 nd) (jgs_cons (jg_name 4 nd) jgs_nil))), ?_⟩
        refine wr_if ((c_eqS (i := y.1.z) (j_v 2) j_str).is (kz_key y.1)).t (fun hb => ?_) (fun hb => ?_)
        · obtain ⟨t, ey⟩ := form_key hS hx (of_decide_eq_true hb)
          have ht : y.2.2 = some t := by rw [ey]
          have ek : keysS [y] = [(y.2.1, t)] := by rw [ey]; rfl
          refine wr_app (k0 _) (d := pI (kp (y.2.1, t))) (j_v 1) hI nls (k0 _) (j_tup (ds := [.str (sdS y.2.1), .str t.z]) (ja_cons (j_v 3) (ja_cons ((j_v (a := .i (.str (tz y.2.2))) 4).imp (fun a φ => by rw [ht] at φ; exact φ)) ja_nil))) ?_ (fun H2 g2 e02 _ o2 => ?_)
          · have l1 := len_keysS (x.take i)
            have l2 := len_take_le x i
            rw [List.length_map, List.length_map]; omega
          · refine wr_go (wr_next (fun H3 e3 _ => ?_) (.keep (.keep (.drop (.drop (.drop .nil))))))
            rw [take_snoc _ _ _ hx, keysS_snoc, ek, List.map_append, List.map_append]
            exact o2.ek e3 (k0 _)
        · have hb : ¬ y.1 = .key := of_decide_eq_false hb
          have nx : ∀ {H2 : Hp}, Ek none H1 H2 → Own none K H2 ls (((keysS (x.take (i + 1))).map kp).map pI) := fun e => by
            rw [take_snoc _ _ _ hx, keysS_snoc, keysS_no hb, List.append_nil]
            exact hI.ek e (k0 _)
          refine wr_if (jt_and ((c_eqS (i := y.1.z) (j_v 2) j_str).is (kz_mix y.1)).t fun _ => (c_inS (x := tz y.2.2) (xs := ["ee", "es", "se", "ss"]) (k0 _) (j_v 4) ((j_gtup hsm hst (fun _ => ItL.map V.str I.str (fun x => It.str x) ["ee", "es", "se", "ss"])).sk .t)).t) (fun hm => ?_) (fun hm => ?_)
          · rw [Bool.and_eq_true] at hm
            obtain ⟨t, ey⟩ := form_mix hS hx (of_decide_eq_true hm.1)
            have ht : y.2.2 = some t := by rw [ey]
            have hsec : t.sec = true := by have := hm.2; rw [ht] at this; rw [← secs_mem' t]; exact this
            have h3 := hS.r3 i y.2.1 t (by rw [hx, ← ey]) hsec
            obtain ⟨lz, c1, c2, a1, a2, z1, z2⟩ := lo_z t hsec
            refine wr_if (jt_or (p := false) (q := false) ((c_niP (z := kp (false, t.lo)) (zs := (keysS (x.take i)).map kp) (k0 _) (by have := hr.un; omega) (kp_ok _) (kp_oks _) (j_tup (ds := [.str (sdS false), .str t.lo.z]) (ja_cons (j_gstr h1) (ja_cons ((j_ixS ((j_v (a := .i (.str (tz y.2.2))) 4).imp (fun a φ => by rw [ht] at φ; exact φ)) j_int lz a1).is (by rw [z1])) ja_nil))) (lk_own (j_v 1) hI)).is
              (by rw [decide_eq_true ((kp_mem _ _).mpr h3.1)]; rfl)).t (fun _ => ((c_niP (z := kp (true, t.la)) (zs := (keysS (x.take i)).map kp) (k0 _) (by have := hr.un; omega) (kp_ok _) (kp_oks _) (j_tup (ds := [.str (sdS true), .str t.la.z]) (ja_cons (j_gstr h2) (ja_cons ((j_ixS ((j_v (a := .i (.str (tz y.2.2))) 4).imp (fun a φ => by rw [ht] at φ; exact φ)) j_int lz a2).is (by rw [z2])) ja_nil))) (lk_own (j_v 1) hI)).is
              (by rw [decide_eq_true ((kp_mem _ _).mpr h3.2)]; rfl)).t)) (fun h => nomatch h) (fun _ => wr_go (wr_go (wr_go (wr_next (fun H3 e3 _ => nx e3) (.keep (.keep (.drop (.drop (.drop .nil)))))))))
          · exact wr_go (wr_go (wr_next (fun H3 e3 _ => nx e3) (.keep (.keep (.drop (.drop (.drop .nil)))))))
    · intro H1 hI e01 _
      exact wr_ret (k0 _) j_bl fun a v H2 φ e _ ax => hD a v H2 φ e ax
end
end K38
end
section
/-! walks: the rules, on; broken_rule -/
namespace K38
open PySem L2
section
variable {P : Program} {w : World} {K : PySem.W.Frag} {mg : Str → Option Value} {base : Heap} {C : Addr}
theorem lone1 (z : Bool) (h : (!z) = true) : I.tup [.str "se", .str "es"] = .tup [.str (if z then Tk.es else Tk.se).z, .str (if z then Tk.se else Tk.es).z] := by
  cases z with
  | false => rfl
  | true => cases h
theorem lone2 (z : Bool) (h : (!z) = false) : I.tup [.str "es", .str "se"] = .tup [.str (if z then Tk.es else Tk.se).z, .str (if z then Tk.se else Tk.es).z] := by
  cases z with
  | false => cases h
  | true => rfl
theorem j_neg {X : Cx} {m : Mo} {H0 H : Hp} {ρ : Ro} {G : Gh} {a : Expr} {pos : Pos} {i : Int} (ha : JI X m H0 H ρ G a (.int i)) : JI X m H0 H ρ G (.UnaryOp .USub a pos) (.int (-i)) :=
  j_un (r := rU fun i => .int (-i)) (fun ta h => pe_un un_neg h) ha fun σ Hs H1 x a1 at_ e k φ ax Q q => by
  subst φ
  exact ⟨i, un_i ax, q _ _ H1 rfl (.refl _) (It.int _)⟩
theorem sk_own {X : Cx} {H0 H : Hp} {ρ : Ro} {G : Gh} {e : Expr} {l : Addr} {T : List Tk} (h : J X none H0 H ρ G e (Eq (.r (.ref l)))) (o : Own none X.K H l (T.map eT)) : J X none H0 H ρ G e (Sk ((T.map Tk.z).map I.str)) := (j_own h o (Mok.none _)).imp fun a φ => by subst φ; rw [eT_map]; exact .l
theorem ok_meph (B : Bi w K mg C) (D : Dh K mg "misses_ephemeral" s_misses_ephemeral) : Cal P w K mg base 1 "misses_ephemeral" ["steps"] (sp_no K) := by
  refine cal_mk D sc_misses_ephemeral (fun _ _ _ _ _ _ us hl => match us, hl with | [_], _ => rfl) (fun _ => rfl) (fun x a h => ?_) fun x f cdv Ar outer s H E Dd hr hp hD hN => ?_
  · simp at h; subst h; rfl
  · obtain ⟨hS, hlen⟩ : StOk x ∧ x.length ≤ 900 := hp
    obtain ⟨t1, h1⟩ := B.opener
    have k0 : ∀ H, Mok none H := Mok.none
    have nd := sc_misses_ephemeral.nd
    refine wr_setN 1 nd (j_lst (ds := []) ja_nil) (fun ls Ha nls ea _ e0a oa => ?_) (k0 _)
    refine wr_forB (k0 _) (j_v 0) (fun _ => [some (.b (x.map eS)), some (.r (.ref ls)), none, none, none, none, none]) (fun i H' => Own none K H' ls ((mixS (x.take i)).map eT)) rfl (Sub.refl _) (fun H1 e1 _ => oa.ek e1 (k0 _)) ?_ ?_
    · intro i d H1 hd hI e01 _
      rw [List.getElem?_map] at hd
      cases hx : x[i]? with
      | none => rw [hx] at hd; cases hd
      | some y =>
        rw [hx] at hd
        cases hd
        refine ⟨_, jg_tup rfl (jgs_cons (jg_name 2 nd) (jgs_cons (jg_name 3 nd) (jgs_cons (jg_name 4 nd) jgs_nil))), ?_⟩
        refine wr_if ((c_eqS (i := y.1.z) (j_v 2) j_str).is (kz_mix y.1)).t (fun hb => ?_) (fun hb => ?_)
        · obtain ⟨t, ey⟩ := form_mix hS hx (of_decide_eq_true hb)
          have ht : y.2.2 = some t := by rw [ey]
          have ek : mixS [y] = [t] := by rw [ey]; rfl
          refine wr_app (k0 _) (d := eT t) (j_v 1) hI nls (k0 _) ((j_v (a := .i (.str (tz y.2.2))) 4).imp (fun a φ => by rw [ht] at φ; exact φ)) ?_ (fun H2 g2 e02 _ o2 => ?_)
          · have l1 := len_mixS (x.take i)
            have l2 := len_take_le x i
            rw [List.length_map]; omega
          · refine wr_go (wr_next (fun H3 e3 _ => ?_) (.keep (.keep (.drop (.drop (.drop (.drop (.drop .nil))))))))
            rw [take_snoc _ _ _ hx, mixS_snoc, ek, List.map_append]
            exact o2.ek e3 (k0 _)
        · have hb : ¬ y.1 = .mix := of_decide_eq_false hb
          have nx : ∀ {H2 : Hp}, Ek none H1 H2 → Own none K H2 ls ((mixS (x.take (i + 1))).map eT) := fun e => by
            rw [take_snoc _ _ _ hx, mixS_snoc, mixS_no hb, List.append_nil]
            exact hI.ek e (k0 _)
          refine wr_if ((c_eqS (i := y.1.z) (j_v 2) j_str).is (kz_enc y.1)).t (fun he => ?_) (fun he => ?_)
          · have he : y.1 = .enc := of_decide_eq_true he
            have h4 := hS.r4 i y.2.1 y.2.2 (by rw [hx, ← he])
            refine wr_asg (d := .tup [.str (if y.2.1 then Tk.es else Tk.se).z, .str (if y.2.1 then Tk.se else Tk.es).z]) (j_if (p := !y.2.1) ((c_eqS (i := sdS y.2.1) (j_v 3) (j_gstr h1)).is (sdS_o _)).t
              (fun h => (j_tup (ds := [.str "se", .str "es"]) (ja_cons j_str (ja_cons j_str ja_nil))).is (lone1 _ h)) (fun h => (j_tup (ds := [.str "es", .str "se"]) (ja_cons j_str (ja_cons j_str ja_nil))).is (lone2 _ h)))
              (jg_tup rfl (jgs_cons (jg_name 5 nd) (jgs_cons (jg_name 6 nd) jgs_nil))) ?_
            have f1 : ∀ t, decide (t.z ∈ (mixS (x.take i)).map Tk.z) = decide (t ∈ mixS (x.take i)) := fun t => decide_eq_decide.mpr (mem_z _ _)
            refine wr_if ((jt_and ((c_inS (x := (if y.2.1 then Tk.es else Tk.se).z) (xs := (mixS (x.take i)).map Tk.z) (k0 _) (j_v 5) (sk_own (j_v 1) hI)).is (f1 _)).t fun _ => ((c_niS (x := "ee") (xs := (mixS (x.take i)).map Tk.z) (k0 _) j_str (sk_own (j_v 1) hI)).is (q := !decide (Tk.ee ∈ mixS (x.take i))) (by
              rw [← f1 .ee]; rfl)).t).is (q := false) (by
              by_cases c : (if y.2.1 then Tk.es else Tk.se) ∈ mixS (x.take i)
              · rw [decide_eq_true (h4.1 c)]; simp
              · rw [decide_eq_false c]; rfl)) (fun h => nomatch h) (fun _ => wr_go ?_)
            refine wr_if ((jt_and ((c_inS (x := "ss") (xs := (mixS (x.take i)).map Tk.z) (k0 _) j_str (sk_own (j_v 1) hI)).is (q := decide (Tk.ss ∈ mixS (x.take i))) (by rw [← f1 .ss]; rfl)).t fun _ => ((c_niS (x := (if y.2.1 then Tk.se else Tk.es).z) (xs := (mixS (x.take i)).map Tk.z) (k0 _) (j_v 6) (sk_own (j_v 1) hI)).is (q := !decide ((if y.2.1 then Tk.se else Tk.es) ∈ mixS (x.take i))) (by
              rw [f1])).t).is (q := false) (by
              by_cases c : Tk.ss ∈ mixS (x.take i)
              · rw [decide_eq_true (h4.2 c)]; simp
              · rw [decide_eq_false c]; rfl)) (fun h => nomatch h) (fun _ => wr_go (wr_go (wr_go (wr_next (fun H3 e3 _ => nx e3) (.keep (.keep (.drop (.drop (.drop (.drop (.drop .nil)))))))))))
          · exact wr_go (wr_go (wr_next (fun H3 e3 _ => nx e3) (.keep (.keep (.drop (.drop (.drop (.drop (.drop .nil)))))))))
    · intro H1 hI e01 _
      exact wr_ret (k0 _) j_bl fun a v H2 φ e _ ax => hD a v H2 φ e ax
theorem cut_last (ds : List I) : cutI ds none (some (-1)) = ds.dropLast := by
  unfold cutI
  rw [HT.sIx_none]
  have : HT.sIx ds.length ds.length (some (-1)) = ds.length - 1 := by
    unfold HT.sIx
    simp only
    rw [if_pos (by decide)]
    omega
  rw [this, List.drop_zero, Nat.sub_zero, List.dropLast_eq_take]
abbrev sp_mis (K : PySem.W.Frag) (C : Addr) : Sp := spOf K (fun x H => Pat K C H x.1 x.2.1 x.2.2 ∧ PskOk x.2.2) (fun x : PX => [.r (.ref x.1)]) (fun x a => .i (.bl false) = a)
theorem ok_mis (B : Bi w K mg C) (D : Dh K mg "misplaces_psk" s_misplaces_psk) : Cal P w K mg base 1 "misplaces_psk" ["pattern"] (sp_mis K C) := by
  refine cal_mk D sc_misplaces_psk (fun _ _ _ _ _ _ us hl => match us, hl with | [_], _ => rfl) (fun _ => rfl) (fun x a h => ?_) fun x f cdv Ar outer s H E Dd hr hp hD hN => ?_
  · simp at h; subst h; rfl
  · obtain ⟨p, b, ms⟩ := x
    obtain ⟨hP, hW⟩ : Pat K C H p b ms ∧ PskOk ms := hp
    have k0 : ∀ H, Mok none H := Mok.none
    have nd := sc_misplaces_psk.nd
    refine wr_forE B.enum (j_msgs (k0 _) B.cl B.nM hP (j_v 0)) (fun _ => [some (.r (.ref p)), none, none, none, none]) (fun _ _ => True) rfl (Sub.refl _) (fun _ _ _ => trivial) (fun _ _ _ _ _ _ => trivial) ?_ ?_
    · intro i d g H1 hd _ e01 _ fg
      rw [List.getElem?_map] at hd
      cases hm : ms[i]? with
      | none => rw [hm] at hd; cases hd
      | some m =>
        rw [hm] at hd
        cases hd
        refine ⟨_, jg_tup (ds := [.int (i : Nat), eM m]) rfl (jgs_cons (jg_name 1 nd) (jgs_cons (jg_tup (ds := [.str (sdS m.1), eTs m.2]) rfl (jgs_cons (jg_name 2 nd) (jgs_cons (jg_name 3 nd) jgs_nil))) jgs_nil)), ?_⟩
        refine wr_set 4 nd (Φ := Eq (.i (eTs m.2.dropLast))) (((j_slT (j_v 3) jo_none (jo_some (j_neg j_int))).is (d' := eTs m.2.dropLast) (by unfold eTs; rw [cut_last, List.map_dropLast]))) fun a φ => ⟨by subst φ; rfl, ?_⟩
        subst φ
        have hk := hW i m hm
        refine wr_ifJ [some (.r (.ref p)), none, none, none, some (.i (eTs (if i = 0 then m.2.dropLast.drop 1 else m.2.dropLast)))] (fun _ => True) (c_eqI (j_v 1) j_int).t (fun h => ?_) (fun h => ?_) (fun H2 _ e02 _ => ?_)
        · have h : i = 0 := by have := of_decide_eq_true h; omega
          refine wr_set 4 nd (((j_slT (j_v 4) (jo_some (i := ((1 : Nat) : Int)) j_int) jo_none).is (d' := eTs (m.2.dropLast.drop 1)) (by unfold eTs; rw [cut_drop, List.map_drop]))) fun a φ => ⟨by subst φ; rfl, ?_⟩
          subst φ
          rw [if_pos h]
          exact wr_meet (fun _ _ _ => trivial) (.keep (.drop (.drop (.drop (.keep .nil)))))
        · have h : ¬ i = 0 := by have := of_decide_eq_false h; omega
          rw [if_neg h]
          exact wr_meet (fun _ _ _ => trivial) (.keep (.drop (.drop (.drop (.keep .nil)))))
        · refine wr_if ((c_inS (x := "psk") (xs := (if i = 0 then m.2.dropLast.drop 1 else m.2.dropLast).map Tk.z) (k0 _) j_str ((j_v (a := .i (eTs (if i = 0 then m.2.dropLast.drop 1 else m.2.dropLast))) 4).imp (fun a φ => by subst φ; unfold eTs; rw [eT_map]; exact .t))).is (q := false)
            (decide_eq_false fun q => hk ((mem_z .psk _).mp q))).t (fun h => nomatch h) (fun _ => wr_go (wr_next (fun _ _ _ => trivial) (.keep (.drop (.drop (.drop (.drop .nil)))))))
    · intro H1 hI e01 _
      exact wr_ret (k0 _) j_bl fun a v H2 φ e _ ax => hD a v H2 φ e ax
def eEs (x : List Step) : List I := ((keysS x).filter fun q => decide (q.2 = .e)).map fun q => I.str (sdS q.1)
theorem eEs_snoc (l : List Step) (x : Step) : eEs (l ++ [x]) = eEs l ++ eEs [x] := by unfold eEs; rw [keysS_snoc, List.filter_append, List.map_append]
theorem e_z (t : Tk) : decide (t.z = "e") = decide (t = .e) := by
  rw [show (("e" : Str)) = Tk.e.z from rfl]
  exact decide_eq_decide.mpr (Tk.z_iff t .e)
theorem psk_z (t : Tk) : decide (t.z = "psk") = decide (t = .psk) := by
  rw [show (("psk" : Str)) = Tk.psk.z from rfl]
  exact decide_eq_decide.mpr (Tk.z_iff t .psk)
theorem eEs_eq (x : List Step) : eEs x = (((keysS x).filter fun q => decide (q.2 = .e)).map fun q => sdS q.1).map I.str := by unfold eEs; rw [List.map_map]; rfl
theorem eEs_mem (z : Bool) (x : List Step) (h : (z, Tk.e) ∈ keysS x) : sdS z ∈ ((keysS x).filter fun q => decide (q.2 = .e)).map fun q => sdS q.1 :=
  List.mem_map.mpr ⟨(z, .e), List.mem_filter.mpr ⟨h, by simp⟩, rfl⟩
theorem ok_pwk (D : Dh K mg "psk_without_key" s_psk_without_key) : Cal P w K mg base 1 "psk_without_key" ["steps"] (sp_no K) := by
  refine cal_mk D sc_psk_without_key (fun _ _ _ _ _ _ us hl => match us, hl with | [_], _ => rfl) (fun _ => rfl) (fun x a h => ?_) fun x f cdv Ar outer s H E Dd hr hp hD hN => ?_
  · simp at h; subst h; rfl
  · obtain ⟨hS, hlen⟩ : StOk x ∧ x.length ≤ 900 := hp
    have k0 : ∀ H, Mok none H := Mok.none
    have nd := sc_psk_without_key.nd
    refine wr_setN 1 nd (j_lst (ds := []) ja_nil) (fun ls Ha nls ea _ e0a oa => ?_) (k0 _)
    refine wr_set 2 nd (j_bl (i := false)) fun a φ => ⟨by subst φ; rfl, ?_⟩
    subst φ
    refine wr_forB (k0 _) (j_v 0) (fun i => [some (.b (x.map eS)), some (.r (.ref ls)), some (.i (.bl (decide (Tk.psk ∈ mixS (x.take i))))), none, none, none]) (fun i H' => Own none K H' ls (eEs (x.take i))) rfl (Sub.refl _) (fun H1 e1 _ => oa.ek e1 (k0 _)) ?_ ?_
    · intro i d H1 hd hI e01 _
      rw [List.getElem?_map] at hd
      cases hx : x[i]? with
      | none => rw [hx] at hd; cases hd
      | some y =>
        rw [hx] at hd
        cases hd
        refine ⟨_, jg_tup rfl (jgs_cons (jg_name 3 nd) (jgs_cons (jg_name 4 nd) (jgs_cons (jg_name 5 nd) jgs_nil))), ?_⟩
        have sm : ¬ y.1 = .mix → decide (Tk.psk ∈ mixS (x.take (i + 1))) = decide (Tk.psk ∈ mixS (x.take i)) := fun h => by rw [take_snoc _ _ _ hx, mixS_snoc, mixS_no h, List.append_nil]
        refine wr_if (jt_and ((c_eqS (i := y.1.z) (j_v 3) j_str).is (kz_key y.1)).t fun _ => (c_eqS (i := tz y.2.2) (j_v 5) j_str).t) (fun hb => ?_) (fun hb => ?_)
        · rw [Bool.and_eq_true] at hb
          have hk : y.1 = .key := of_decide_eq_true hb.1
          obtain ⟨t, ey⟩ := form_key hS hx hk
          have ht : y.2.2 = some t := by rw [ey]
          have te : t = .e := by have := hb.2; rw [ht] at this; have q := e_z t; rw [show decide (t.z = "e") = true from this] at q; exact of_decide_eq_true q.symm
          have ek : eEs [y] = [.str (sdS y.2.1)] := by rw [ey, te]; rfl
          refine wr_app (k0 _) (d := .str (sdS y.2.1)) (j_v 1) hI nls (k0 _) (j_v 4) ?_ (fun H2 g2 e02 _ o2 => ?_)
          · have l1 := len_keysS (x.take i)
            have l2 := len_take_le x i
            have l3 := List.length_filter_le (fun q : Bool × Tk => decide (q.2 = .e)) (keysS (x.take i))
            unfold eEs
            rw [List.length_map]; omega
          · refine wr_go (wr_next (fun H3 e3 _ => ?_) ?_)
            · rw [take_snoc _ _ _ hx, eEs_snoc, ek]
              exact o2.ek e3 (k0 _)
            · rw [sm (by rw [hk]; decide)]
              exact .keep (.keep (.keep (.drop (.drop (.drop .nil)))))
        · have nx : ∀ {H2 : Hp}, Ek none H1 H2 → Own none K H2 ls (eEs (x.take (i + 1))) := fun e => by
            have ek : eEs [y] = [] := by
              by_cases c : y.1 = .key
              · obtain ⟨t, ey⟩ := form_key hS hx c
                have ht : y.2.2 = some t := by rw [ey]
                rw [c, decide_eq_true rfl, Bool.true_and, ht] at hb
                have q := e_z t
                rw [show decide (t.z = "e") = false from hb] at q
                have te : ¬ t = .e := of_decide_eq_false q.symm
                rw [ey]
                show (([(y.2.1, t)] : List (Bool × Tk)).filter fun q => decide (q.2 = .e)).map _ = []
                rw [List.filter_cons, if_neg (by show ¬ decide (t = .e) = true; rw [decide_eq_false te]; decide)]; rfl
              · unfold eEs; rw [keysS_no c]; rfl
            rw [take_snoc _ _ _ hx, eEs_snoc, ek, List.append_nil]
            exact hI.ek e (k0 _)
          refine wr_if (jt_and ((c_eqS (i := y.1.z) (j_v 3) j_str).is (kz_mix y.1)).t fun _ => (c_eqS (i := tz y.2.2) (j_v 5) j_str).t) (fun hm => ?_) (fun hm => ?_)
          · rw [Bool.and_eq_true] at hm
            obtain ⟨t, ey⟩ := form_mix hS hx (of_decide_eq_true hm.1)
            have ht : y.2.2 = some t := by rw [ey]
            have te : t = .psk := by have := hm.2; rw [ht] at this; have q := psk_z t; rw [show decide (t.z = "psk") = true from this] at q; exact of_decide_eq_true q.symm
            refine wr_set 2 nd (j_bl (i := true)) fun a φ => ⟨by subst φ; rfl, ?_⟩
            subst φ
            refine wr_go (wr_go (wr_next (fun H3 e3 _ => nx e3) ?_))
            have : decide (Tk.psk ∈ mixS (x.take (i + 1))) = true := by
              have em : mixS [y] = [.psk] := by rw [ey, te]; rfl
              rw [take_snoc _ _ _ hx, mixS_snoc, em]
              exact decide_eq_true (by simp)
            rw [this]
            exact .keep (.keep (.keep (.drop (.drop (.drop .nil)))))
          · have sm2 : decide (Tk.psk ∈ mixS (x.take (i + 1))) = decide (Tk.psk ∈ mixS (x.take i)) := by
              by_cases c : y.1 = .mix
              · obtain ⟨t, ey⟩ := form_mix hS hx c
                have ht : y.2.2 = some t := by rw [ey]
                rw [c, decide_eq_true rfl, Bool.true_and, ht] at hm
                have q := psk_z t
                rw [show decide (t.z = "psk") = false from hm] at q
                have te : ¬ t = .psk := of_decide_eq_false q.symm
                have te2 : ¬ Tk.psk = t := fun h => te h.symm
                have em : mixS [y] = [t] := by rw [ey]; rfl
                rw [take_snoc _ _ _ hx, mixS_snoc, em]
                exact decide_eq_decide.mpr (by simp [te2])
              · exact sm c
            have last : Sub [some (A.b (x.map eS)), some (.r (.ref ls)), some (.i (.bl (decide (Tk.psk ∈ mixS (x.take (i + 1)))))), none, none, none] [some (.b (x.map eS)), some (.r (.ref ls)), some (.i (.bl (decide (Tk.psk ∈ mixS (x.take i))))), some (.i (.str y.1.z)), some (.i (.str (sdS y.2.1))), some (.i (.str (tz y.2.2)))] := by
              rw [sm2]
              exact .keep (.keep (.keep (.drop (.drop (.drop .nil)))))
            refine wr_if ((jt_w (jw_and ((c_eqS (i := y.1.z) (j_v 3) j_str).is (kz_enc y.1)).t fun he => jw_and (p := decide (Tk.psk ∈ mixS (x.take i))) (q := false) (jt_of (j_v 2)) fun hp => jw_and1 (Φ := Eq false) (((c_niS (x := sdS y.2.1) (xs := ((keysS (x.take i)).filter fun q => decide (q.2 = .e)).map fun q => sdS q.1) (k0 _) (j_v 4) ((j_own (j_v 1) hI (k0 _)).imp (fun a φ => by subst φ; rw [eEs_eq]; exact .l))).is (by
              have he : y.1 = .enc := of_decide_eq_true he
              have h6 := hS.r6 i y.2.1 y.2.2 (by rw [hx, ← he]) (of_decide_eq_true hp)
              rw [decide_eq_true (eEs_mem _ _ h6)]; rfl)).t))).is (q := false) (by rw [Bool.and_false, Bool.and_false])) (fun h => nomatch h) (fun _ => wr_go (wr_go (wr_go (wr_next (fun H3 e3 _ => nx e3) last))))
    · intro H1 hI e01 _
      exact wr_ret (k0 _) j_bl fun a v H2 φ e _ ax => hD a v H2 φ e ax
abbrev sp_broken (K : PySem.W.Frag) (C : Addr) : Sp := spOf K (fun x H => Pat K C H x.1 x.2.1 x.2.2 ∧ WF x.2.2 ∧ WB x.2.1 ∧ StOk (steps x.2.1 x.2.2) ∧ PskOk x.2.2) (fun x : PX => [.r (.ref x.1)]) (fun x a => .i (.int 0) = a)
theorem ok_broken (c1 : Cal P w K mg base 2 "pattern_steps" ["pattern"] (sp_steps K C)) (c2 : Cal P w K mg base 1 "repeats_key" ["steps"] (sp_no K)) (c3 : Cal P w K mg base 1 "repeats_secret" ["steps"] (sp_no K)) (c4 : Cal P w K mg base 1 "misses_key" ["steps"] (sp_no K)) (c5 : Cal P w K mg base 1 "misses_ephemeral" ["steps"] (sp_no K))
    (c6 : Cal P w K mg base 1 "misplaces_psk" ["pattern"] (sp_mis K C)) (c7 : Cal P w K mg base 1 "psk_without_key" ["steps"] (sp_no K)) (D : Dh K mg "broken_rule" s_broken_rule) : Cal P w K mg base 3 "broken_rule" ["pattern"] (sp_broken K C) := by
  refine cal_mk D sc_broken_rule (fun _ _ _ _ _ _ us hl => match us, hl with | [_], _ => rfl) (fun _ => rfl) (fun x a h => ?_) fun x f cdv Ar outer s H E Dd hr hp hD hN => ?_
  · simp at h; subst h; rfl
  · obtain ⟨p, b, ms⟩ := x
    obtain ⟨hP, hW, hB, hS, hK⟩ : Pat K C H p b ms ∧ WF ms ∧ WB b ∧ StOk (steps b ms) ∧ PskOk ms := hp
    have k0 : ∀ H, Mok none H := Mok.none
    have nd := sc_broken_rule.nd
    have len : (steps b ms).length ≤ 900 := Nat.le_trans (len_steps hB hW) (by decide)
    refine wr_setN 1 nd (j_call c1 (hr.mono (by decide)) (k0 _) (ja_cons (j_v 0) ja_nil) (p, b, ms) rfl (fun H1 e e' => ⟨hP.ek e' (k0 _), hW, hB⟩) (fun a h => ⟨by subst h; rfl, h⟩)) (fun ls Ha nls ea _ e0a oa => ?_) (k0 _)
    have o : Own none K Ha ls ((steps b ms).map eS) := oa
    refine wr_if (jt_of (j_call c2 (hr.mono (by decide)) (k0 _) (ja_cons (j_own (j_v 1) o (k0 _)) ja_nil) (steps b ms) rfl (fun _ _ _ => ⟨hS, len⟩) (fun a h => ⟨by subst h; rfl, h⟩))) (fun h => nomatch h) (fun _ => wr_go ?_)
    refine wr_if (jt_of (j_call c3 (hr.mono (by decide)) (k0 _) (ja_cons (j_own (j_v 1) o (k0 _)) ja_nil) (steps b ms) rfl (fun _ _ _ => ⟨hS, len⟩) (fun a h => ⟨by subst h; rfl, h⟩))) (fun h => nomatch h) (fun _ => wr_go ?_)
    refine wr_if (jt_of (j_call c4 (hr.mono (by decide)) (k0 _) (ja_cons (j_own (j_v 1) o (k0 _)) ja_nil) (steps b ms) rfl (fun _ _ _ => ⟨hS, len⟩) (fun a h => ⟨by subst h; rfl, h⟩))) (fun h => nomatch h) (fun _ => wr_go ?_)
    refine wr_if (jt_of (j_call c5 (hr.mono (by decide)) (k0 _) (ja_cons (j_own (j_v 1) o (k0 _)) ja_nil) (steps b ms) rfl (fun _ _ _ => ⟨hS, len⟩) (fun a h => ⟨by subst h; rfl, h⟩))) (fun h => nomatch h) (fun _ => wr_go ?_)
    refine wr_if (jt_of (j_call c6 (hr.mono (by decide)) (k0 _) (ja_cons (j_v 0) ja_nil) (p, b, ms) rfl (fun H1 e e' => ⟨hP.ek e' (k0 _), hK⟩) (fun a h => ⟨by subst h; rfl, h⟩))) (fun h => nomatch h) (fun _ => wr_go ?_)
    refine wr_if (jt_of (j_call c7 (hr.mono (by decide)) (k0 _) (ja_cons (j_own (j_v 1) o (k0 _)) ja_nil) (steps b ms) rfl (fun _ _ _ => ⟨hS, len⟩) (fun a h => ⟨by subst h; rfl, h⟩))) (fun h => nomatch h) (fun _ => wr_go ?_)
    exact wr_ret (k0 _) j_int fun a v H2 φ e _ ax => hD a v H2 φ e ax
end
end K38
end
section
/-! walks: the law's own count -/
namespace K38
open PySem L2
section
variable {P : Program} {w : World} {K : PySem.W.Frag} {mg : Str → Option Value} {base : Heap} {C : Addr}
section
variable {X : Cx} {m : Mo} {H0 H : Hp} {ρ : Ro} {G : Gh} {a b : Expr} {pos p2 p : Pos} {α : Type} {l : List α} {f : α → I} {k : Nat}
theorem j_succ {j1 : Nat} {pc : Pos} (h : JI X m H0 H ρ G a (.int (k : Nat))) : JI X m H0 H ρ G (.BinOp a .Add (.Constant (.int 1) j1 pc) pos) (.int ((k + 1 : Nat) : Int)) := j_add h j_int
theorem j_takeL (f : α → I) {x : A} (k0 : Mok m H0) (ha : J X m H0 H ρ G a (Eq x)) (hx : Lk (l.map f) x) (hb : JI X m H0 H ρ G b (.int (k : Nat))) : J X m H0 H ρ G (.Subscript a (.Slice none (some b) none p2) pos) (Eq (.n ((l.take k).map f))) := by
  have h := j_slL (p2 := p2) (pos := pos) k0 ha hx jo_none (jo_some hb)
  rw [cut_take, ← List.map_take] at h
  exact h
theorem j_takeT (f : α → I) (ha : JI X m H0 H ρ G a (.tup (l.map f))) (hb : JI X m H0 H ρ G b (.int (k : Nat))) : JI X m H0 H ρ G (.Subscript a (.Slice none (some b) none p2) pos) (.tup ((l.take k).map f)) := by
  have h := j_slT (p2 := p2) (pos := pos) ha jo_none (jo_some hb)
  rw [cut_take, ← List.map_take] at h
  exact h
theorem j_dropT (f : α → I) (ha : JI X m H0 H ρ G a (.tup (l.map f))) (hb : JI X m H0 H ρ G b (.int (k : Nat))) : JI X m H0 H ρ G (.Subscript a (.Slice (some b) none none p2) pos) (.tup ((l.drop k).map f)) := by
  have h := j_slT (p2 := p2) (pos := pos) ha (jo_some hb) jo_none
  rw [cut_drop, ← List.map_drop] at h
  exact h
theorem j_lenM (k0 : Mok m H0) (hm : X.mg "len" = none) (ha : J X m H0 H ρ G a (Sk (l.map f))) (hg : Gl X "len" := by rfl)
    (he : starEach [a] X.env = (false, eval a X.env) :: starEach [] X.env := by rfl) (hpl : (backTo pos (starEach [] X.env)).any (·.1) = false := by rfl) : JI X m H0 H ρ G (.Call (.Name "len" p) [a] [] pos) (.int (l.length : Nat)) := by
  have h := j_len (p := p) k0 hm ha hg he hpl
  rw [List.length_map] at h
  exact h
end
theorem flat_snoc (l : List Msg) (m : Msg) : flat (l ++ [m]) = flat l ++ flM m := by unfold flat; simp
theorem len_flM (m : Msg) : (flM m).length = m.2.length := by unfold flM; rw [List.length_map, List.length_range]
theorem len_flat {l : List Msg} {n : Nat} (h : ∀ m ∈ l, m.2.length ≤ n) : (flat l).length ≤ n * l.length := by
  induction l with
  | nil => simp [flat]
  | cons m r ih =>
    have e : flat (m :: r) = flM m ++ flat r := by unfold flat; simp
    have h2 := h m List.mem_cons_self
    have h3 := ih fun x hx => h x (List.mem_cons_of_mem _ hx)
    rw [e, List.length_append, len_flM, List.length_cons, Nat.mul_succ]
    omega
theorem WF.len_flat {ms : List Msg} (h : WF ms) (i : Nat) : (flat (ms.take i)).length ≤ 240 := by
  have h1 : (flat (ms.take i)).length ≤ 20 * (ms.take i).length := K38.len_flat fun m hm => (h.toks m (List.mem_of_mem_take hm)).2
  have h2 := len_take_le ms i
  have h3 := h.few
  omega
theorem WF.len_flat' {ms : List Msg} (h : WF ms) : (flat ms).length ≤ 240 := by have := h.len_flat ms.length; rwa [List.take_length] at this
abbrev sp_flat (K : PySem.W.Frag) : Sp := spOf K (fun x _ => WF x) (fun x : List Msg => [.i (eMs x)]) (fun x a => .n ((flat x).map eF) = a)
theorem ok_flat (B : Bi w K mg C) (D : Dh K mg "_law_flat" s__law_flat) : Cal P w K mg base 1 "_law_flat" ["_law_messages_here"] (sp_flat K) := by
  refine cal_mk D sc__law_flat (fun _ _ _ _ _ _ us hl => match us, hl with | [_], _ => rfl) (fun _ => rfl) (fun x a h => ?_) fun x f cdv Ar outer s H E Dd hr hp hD hN => ?_
  · simp at h; subst h; rfl
  · have hW : WF x := hp
    have k0 : ∀ H, Mok none H := Mok.none
    have nd := sc__law_flat.nd
    refine wr_setN 1 nd (j_lst (ds := []) ja_nil) (fun ls Ha nls ea _ e0a oa => ?_) (k0 _)
    refine wr_forT (j_v 0) (fun _ => [some (.i (eMs x)), some (.r (.ref ls)), none, none, none]) (fun i H' => Own none K H' ls ((flat (x.take i)).map eF)) rfl (Sub.refl _) (fun H1 e1 _ => oa.ek e1 (k0 _)) ?_ ?_
    · intro i d g H1 hd hI e01 _ fg
      rw [List.getElem?_map] at hd
      cases hm : x[i]? with
      | none => rw [hm] at hd; cases hd
      | some m =>
        rw [hm] at hd
        cases hd
        have lm := (hW.toks m (List.mem_of_getElem? hm)).2
        refine ⟨_, jg_tup rfl (jgs_cons (jg_name 2 nd) (jgs_cons (jg_name 3 nd) jgs_nil)), ?_⟩
        refine wr_forR (P := fun n => ((m.2.length : Nat) : Int) = n) B.range (((j_len (k0 _) B.len ((j_v (a := .i (eTs m.2)) 3).sk .t)).is (d' := .int (m.2.length : Nat)) (by rw [List.length_map])).n rfl) (fun n h => by omega) (fun _ => [some (.i (eMs x)), some (.r (.ref ls)), some (.i (eD m.1)), some (.i (eTs m.2)), none])
          (fun j H' => Own none K H' ls ((flat (x.take i) ++ (flM m).take j).map eF)) rfl (Sub.refl _) (fun H2 e2 _ => by rw [List.take_zero, List.append_nil]; exact hI.ek e2 (k0 _)) ?_ ?_
        · intro n j H2 hn hj hI2 e02 _
          have hj : j < m.2.length := by omega
          have ht : m.2[j]? = some m.2[j] := List.getElem?_eq_getElem hj
          have hf : (flM m)[j]? = some (m.1, m.2[j], decide ((j : Int) = (m.2.length : Int) - 1)) := by
            unfold flM
            rw [List.getElem?_map, List.getElem?_range hj]
            show some (m.1, m.2.getD j .e, _) = _
            rw [List.getD_eq_getElem?_getD, ht]; rfl
          refine ⟨_, jg_name 4 nd, ?_⟩
          refine wr_app (k0 _) (d := eF (m.1, m.2[j], decide ((j : Int) = (m.2.length : Int) - 1))) (j_v 1) hI2 nls (k0 _) (j_tup (ds := [eD m.1, eT m.2[j], .bl (decide ((j : Int) = (m.2.length : Int) - 1))]) (ja_cons (j_v 2) (ja_cons (j_ixT (k0 _) (j_v 3) (j_v 4) (atI_map eT ht)) (ja_cons
            ((c_eqI (j := (m.2.length : Int) - 1) (j_v 4) (j_sub ((j_len (k0 _) B.len ((j_v (a := .i (eTs m.2)) 3).sk .t)).is (d' := .int (m.2.length : Nat)) (by rw [List.length_map])) j_int)).j) ja_nil)))) ?_ (fun H3 g3 e03 _ o3 => ?_) rfl (gf_cons fg (G := []) rfl)
          · have l1 := hW.len_flat i
            have l2 := len_take_le (flM m) j
            rw [len_flM] at l2
            rw [List.length_map, List.length_append]; omega
          · refine wr_next (fun H4 e4 _ => ?_) (.keep (.keep (.keep (.keep (.drop .nil)))))
            rw [take_snoc _ _ _ hf, ← List.append_assoc, List.map_append]
            exact o3.ek e4 (k0 _)
        · intro n H2 hn hI2 e02 _
          refine wr_next (fun H4 e4 _ => ?_) (.keep (.keep (.drop (.drop (.drop .nil)))))
          rw [take_snoc _ _ _ hm, flat_snoc]
          have el : (flM m).take n.toNat = flM m := List.take_of_length_le (by rw [len_flM]; omega)
          rw [el] at hI2
          exact hI2.ek e4 (k0 _)
    · intro H1 hI e01 _
      rw [List.length_map, List.take_length] at hI
      exact wr_retO (k0 _) (j_v 1) hI (k0 _) nls fun v H2 e02 _ ax => hD _ v H2 rfl e02 ax
def zI (z : Bool) : Int := if z then 1 else 0
theorem arr_ix (z : Bool) : atI ([eD false, eD true] : List I) (zI z) = some (eD z) := by cases z <;> rfl
theorem bef_ix (b : Bef) (z : Bool) : atI ([eTs b.1, eTs b.2] : List I) (zI z) = some (eTs (bside b z)) := by cases z <;> rfl
section
variable {X : Cx} {m : Mo} {H0 H : Hp} {ρ : Ro} {G : Gh} {e : Expr} {pos p1 p2 p3 : Pos} {k1 k2 : Nat}
/-- ["->", "<-"][e] -/
theorem j_arr {z : Bool} (k0 : Mok m H0) (h : JI X m H0 H ρ G e (.int (zI z))) (hs : PlainIx e := by exact fun _ _ => rfl)
    (he : starEach [.Constant (.str "->") k1 p1, .Constant (.str "<-") k2 p2] X.env = (false, eval (.Constant (.str "->") k1 p1) X.env) :: starEach [.Constant (.str "<-") k2 p2] X.env := by rfl) (he2 : starEach [.Constant (.str "<-") k2 p2] X.env = (false, eval (.Constant (.str "<-") k2 p2) X.env) :: starEach [] X.env := by rfl) :
    JI X m H0 H ρ G (.Subscript (.List [.Constant (.str "->") k1 p1, .Constant (.str "<-") k2 p2] p3) e pos) (eD z) :=
  j_ix k0 (J.sk (j_lst (ds := [eD false, eD true]) (ja_cons j_str (ja_cons j_str ja_nil he2) he)) .n) h (arr_ix z) hs
/-- [two texts][e] -/
theorem j_two {z : Bool} {s0 s1 : Str} (k0 : Mok m H0) (h : JI X m H0 H ρ G e (.int (zI z))) (hs : PlainIx e := by exact fun _ _ => rfl)
    (he : starEach [.Constant (.str s0) k1 p1, .Constant (.str s1) k2 p2] X.env = (false, eval (.Constant (.str s0) k1 p1) X.env) :: starEach [.Constant (.str s1) k2 p2] X.env := by rfl) (he2 : starEach [.Constant (.str s1) k2 p2] X.env = (false, eval (.Constant (.str s1) k2 p2) X.env) :: starEach [] X.env := by rfl) :
    JI X m H0 H ρ G (.Subscript (.List [.Constant (.str s0) k1 p1, .Constant (.str s1) k2 p2] p3) e pos) (.str (if z then s1 else s0)) :=
  j_ix k0 (J.sk (j_lst (ds := [.str s0, .str s1]) (ja_cons j_str (ja_cons j_str ja_nil he2) he)) .n) h (by cases z <;> rfl) hs
end
theorem fl_ix {fl : List Fl} {i : Nat} {p : Fl} (h : fl[i]? = some p) : (fl.map eF)[i]? = some (eF p) := by rw [List.getElem?_map, h]; rfl
abbrev SX := Bef × List Fl × Bool × Tk
abbrev sp_sent (K : PySem.W.Frag) : Sp := spOf K free (fun x : SX => [.i (eB x.1), .b (x.2.1.map eF), .i (.int (zI x.2.2.1)), .i (eT x.2.2.2)]) (fun x a => .i (.bl (sent x.1 x.2.1 x.2.2.1 x.2.2.2)) = a)
theorem ok_sent (D : Dh K mg "_law_sent" s__law_sent) : Cal P w K mg base 1 "_law_sent" ["_law_before_here", "_law_flat_here", "_law_side", "_law_letter"] (sp_sent K) := by
  refine cal_mk D sc__law_sent (fun _ _ _ _ _ _ us hl => match us, hl with | [_, _, _, _], _ => rfl) (fun _ => rfl) (fun x a h => ?_) fun x f cdv Ar outer s H E Dd hr hp hD hN => ?_
  · simp at h; rcases h with h | h | h | h <;> (subst h; rfl)
  · obtain ⟨b, fl, z, t⟩ := x
    have k0 : ∀ H, Mok none H := Mok.none
    have nd := sc__law_sent.nd
    refine wr_set 4 nd (j_arr (z := z) (k0 _) (j_v 2)) fun a φ => ⟨by subst φ; rfl, ?_⟩
    subst φ
    refine wr_if ((c_inS (x := t.z) (xs := (bside b z).map Tk.z) (k0 _) (j_v 3) ((j_ixT (k0 _) (j_v (a := .i (eB b)) 0) (j_v 2) (bef_ix b z)).imp (fun a φ => by subst φ; unfold eTs; rw [eT_map]; exact .t))).is (q := decide (t ∈ bside b z)) (decide_eq_decide.mpr (mem_z _ _))).t (fun h => ?_) (fun h => wr_go ?_)
    · refine wr_ret (k0 _) j_bl fun a v H2 φ e _ ax => hD a v H2 ?_ e ax
      rw [← φ]; show A.i (.bl (sent b fl z t)) = _; unfold sent; rw [h]; rfl
    · refine wr_forB (k0 _) (j_v 1) (fun _ => [some (.i (eB b)), some (.b (fl.map eF)), some (.i (.int (zI z))), some (.i (eT t)), some (.i (eD z)), none]) (fun i _ => ∀ j p, j < i → fl[j]? = some p → (decide (p.1 = z) && decide (p.2.1 = t)) = false) rfl (Sub.refl _) (fun _ _ _ j p hj => by omega) ?_ ?_
      · intro i d H1 hd hI e01 _
        rw [List.getElem?_map] at hd
        cases hq : fl[i]? with
        | none => rw [hq] at hd; cases hd
        | some q =>
          rw [hq] at hd
          cases hd
          refine ⟨_, jg_name 5 nd, ?_⟩
          refine wr_if (jt_and ((c_eqS (i := sdS q.1) (j := sdS z) (j_ixT (k0 _) (j_v (a := .i (eF q)) 5) j_int rfl) (j_v 4)).is (q := decide (q.1 = z)) (decide_eq_decide.mpr ⟨sdS_inj _ _, fun h => by rw [h]⟩)).t fun _ => ((c_eqS (i := q.2.1.z) (j := t.z) (j_ixT (k0 _) (j_v (a := .i (eF q)) 5) j_int rfl) (j_v 3)).is (q := decide (q.2.1 = t)) (decide_eq_decide.mpr (Tk.z_iff _ _))).t) (fun hb => ?_) (fun hb => ?_)
          · refine wr_ret (k0 _) j_bl fun a v H2 φ e _ ax => hD a v H2 ?_ e ax
            rw [← φ]; show A.i (.bl (sent b fl z t)) = _; unfold sent; rw [h, Bool.false_or]
            rw [List.any_eq_true.mpr ⟨q, List.mem_of_getElem? hq, hb⟩]
          · refine wr_go (wr_next (fun _ _ _ j p hj hpj => ?_) (.keep (.keep (.keep (.keep (.keep (.drop .nil)))))))
            by_cases c : j = i
            · subst c; rw [hq] at hpj; cases hpj; exact hb
            · exact hI j p (by omega) hpj
      · intro H1 hI e01 _
        refine wr_ret (k0 _) j_bl fun a v H2 φ e _ ax => hD a v H2 ?_ e ax
        rw [← φ]; show A.i (.bl (sent b fl z t)) = _; unfold sent; rw [h, Bool.false_or]
        rw [List.any_eq_false.mpr fun p hp => by
          obtain ⟨j, hj, e⟩ := List.mem_iff_getElem.mp hp
          rw [hI j p (by simpa using hj) (by rw [List.getElem?_eq_getElem hj, e])]; decide]
theorem nes_z (t : Tk) : (!decide (t.z ∈ (["e", "s"] : List Str))) = !t.key := by cases t <;> decide +kernel
abbrev sp_mixed (K : PySem.W.Frag) : Sp := spOf K (fun x _ => x.length ≤ 900) (fun x : List Fl => [.b (x.map eF)]) (fun x a => .n ((mixd x).map eT) = a)
theorem ok_mixed (D : Dh K mg "_law_mixed" s__law_mixed) : Cal P w K mg base 1 "_law_mixed" ["_law_flat_here"] (sp_mixed K) := by
  refine cal_mk D sc__law_mixed (fun _ _ _ _ _ _ us hl => match us, hl with | [_], _ => rfl) (fun _ => rfl) (fun x a h => ?_) fun x f cdv Ar outer s H E Dd hr hp hD hN => ?_
  · simp at h; subst h; rfl
  · have hl : x.length ≤ 900 := hp
    have k0 : ∀ H, Mok none H := Mok.none
    have nd := sc__law_mixed.nd
    refine wr_ret (k0 _) (j_lc1 (own := [("_law_place", 1)]) (ds := (mixd x).map eT) nd rfl (pi_list pe_r) (lc_eq (by unfold mixd; rw [List.filter_map, List.map_map]; rfl) (lcm_L x eF (fun p => !p.2.1.key) (fun p => eT p.2.1) (k0 _) (by omega) ((j_v (a := .b (x.map eF)) 0).imp (fun a φ => by subst φ; exact .b))
          (fun p _ => Lt.sel (ρ2 := [some (.b (x.map eF)), some (.i (eF p))]) (fun s Hb C cl fp => jgw_name 1 nd (by decide)) (fun s Hb C cl fp => ((c_niS (x := p.2.1.z) (xs := ["e", "s"]) (k0 _) (j_ixT (k0 _) (j_v (a := .i (eF p)) 1) j_int rfl) (J.sk (j_tup (ds := [.str "e", .str "s"]) (ja_cons j_str (ja_cons j_str ja_nil))) .t)).is (nes_z p.2.1)).t)
          (fun _ s Hb C cl fp => (j_ixT (k0 _) (j_v (a := .i (eF p)) 1) j_int (d := eT p.2.1) rfl).imp fun a φ => ⟨_, rfl, φ⟩))))
      (fun s Hb C cl fp => pts_b s Hb C cl fp) (N := N__law_mixed) (so := defScope s__law_mixed) (by decide +kernel)) fun a v H2 φ e _ ax => hD a v H2 φ e ax
end
end K38
end
section
/-! walks: the law's own count, on -/
namespace K38
open PySem L2
section
variable {P : Program} {w : World} {K : PySem.W.Frag} {mg : Str → Option Value} {base : Heap} {C : Addr}
def eN (x : Nat × Bool) : I := .tup [.int (x.1 : Nat), eD x.2]
theorem len_encAt (fl : List Fl) (k : Nat) : (encAt fl k).length ≤ 2 := by
  unfold encAt
  split
  · rw [List.length_append]
    split <;> split <;> simp
  · simp
theorem len_encR (fl : List Fl) (n : Nat) : ((List.range n).flatMap (encAt fl)).length ≤ 2 * n := by
  induction n with
  | zero => simp
  | succ n ih =>
    have h := len_encAt fl n
    rw [List.range_succ, List.flatMap_append, List.length_append]
    have e : ([n] : List Nat).flatMap (encAt fl) = encAt fl n := by simp
    rw [e]; omega
section
variable {X : Cx} {H0 H : Hp} {ρ : Ro} {G : Gh} {e a : Expr} {pos px pm : Pos} {l : Addr} {fl : List Fl}
theorem j_f0 {i : Nat} {q : Fl} {b : Expr} {p1 p2 : Pos} {k} (k0 : Mok none H0) (ha : J X none H0 H ρ G a (Sk (fl.map eF))) (hb : JI X none H0 H ρ G b (.int (i : Nat))) (hq : fl[i]? = some q) (hs : PlainIx b := by exact fun _ _ => rfl) : JI X none H0 H ρ G (.Subscript (.Subscript a b p1) (.Constant (.int 0) k p2) pos) (eD q.1) :=
  j_ixT k0 (j_ix (d := .tup [eD q.1, eT q.2.1, .bl q.2.2]) k0 ha hb (atI_map eF hq) hs) j_int rfl
theorem j_f1 {i : Nat} {q : Fl} {b : Expr} {p1 p2 : Pos} {k} (k0 : Mok none H0) (ha : J X none H0 H ρ G a (Sk (fl.map eF))) (hb : JI X none H0 H ρ G b (.int (i : Nat))) (hq : fl[i]? = some q) (hs : PlainIx b := by exact fun _ _ => rfl) : JI X none H0 H ρ G (.Subscript (.Subscript a b p1) (.Constant (.int 1) k p2) pos) (eT q.2.1) :=
  j_ixT k0 (j_ix (d := .tup [eD q.1, eT q.2.1, .bl q.2.2]) k0 ha hb (atI_map eF hq) hs) j_int rfl
theorem j_f2 {i : Nat} {q : Fl} {b : Expr} {p1 p2 : Pos} {k} (k0 : Mok none H0) (ha : J X none H0 H ρ G a (Sk (fl.map eF))) (hb : JI X none H0 H ρ G b (.int (i : Nat))) (hq : fl[i]? = some q) (hs : PlainIx b := by exact fun _ _ => rfl) : JI X none H0 H ρ G (.Subscript (.Subscript a b p1) (.Constant (.int 2) k p2) pos) (.bl q.2.2) :=
  j_ixT k0 (j_ix (d := .tup [eD q.1, eT q.2.1, .bl q.2.2]) k0 ha hb (atI_map eF hq) hs) j_int rfl
theorem rd_own {l : Addr} {ds : List I} (h : J X none H0 H ρ G e (Eq (.r (.ref l)))) (o : Own none X.K H l ds) : J X none H0 H ρ G e (Sk ds) := J.sk (j_own h o (Mok.none _)) .l
end
abbrev sp_encs (K : PySem.W.Frag) : Sp := spOf K (fun x _ => WF x) (fun x : List Msg => [.i (eMs x)]) (fun x a => .n ((encs x).map eN) = a)
theorem ok_encs (B : Bi w K mg C) (c1 : Cal P w K mg base 1 "_law_flat" ["_law_messages_here"] (sp_flat K)) (c2 : Cal P w K mg base 1 "_law_mixed" ["_law_flat_here"] (sp_mixed K)) (D : Dh K mg "_law_encryptions" s__law_encryptions) : Cal P w K mg base 2 "_law_encryptions" ["_law_messages_here"] (sp_encs K) := by
  refine cal_mk D sc__law_encryptions (fun _ _ _ _ _ _ us hl => match us, hl with | [_], _ => rfl) (fun _ => rfl) (fun x a h => ?_) fun x f cdv Ar outer s H E Dd hr hp hD hN => ?_
  · simp at h; subst h; rfl
  · have hW : WF x := hp
    have k0 : ∀ H, Mok none H := Mok.none
    have nd := sc__law_encryptions.nd
    have lf := hW.len_flat'
    refine wr_setN 1 nd (j_call c1 (hr.mono (by decide)) (k0 _) (ja_cons (j_v 0) ja_nil) x rfl (fun _ _ _ => hW) (fun a h => ⟨by subst h; rfl, h⟩)) (fun la Ha nla ea _ e0a oa => ?_) (k0 _)
    have oa : Own none K Ha la ((flat x).map eF) := oa
    have ee : encs x = (List.range (flat x).length).flatMap (encAt (flat x)) ++ (if 0 < (mixd (flat x)).length then ((x.take 1).map fun m => ((flat x).length, m.1)) ++ (if 1 < x.length then ((x.drop 1).take 1).map fun m => ((flat x).length, m.1) else []) else []) := rfl
    generalize hfl : flat x = fl at lf oa ee
    refine wr_setN 2 nd (j_lst (ds := []) ja_nil) (fun lp Hb nlp eb _ e0b ob => ?_) (k0 _)
    have oab := oa.ek eb (k0 _)
    have nal : la ≠ lp := (Ow.ne oa nlp).symm
    have nlp0 : H lp = none := e0a.back (k0 _) nlp
    refine wr_forR (P := fun n => ((fl.length : Nat) : Int) = n) B.range (JI.n (j_lenM (k0 _) B.len (rd_own (j_v 1) oab)) rfl) (fun n h => by omega) (fun _ => [some (.i (eMs x)), some (.r (.ref la)), some (.r (.ref lp)), none])
      (fun i H' => Own none K H' la (fl.map eF) ∧ Own none K H' lp (((List.range i).flatMap (encAt fl)).map eN)) rfl (Sub.refl _) (fun H1 e1 _ => ⟨oab.ek e1 (k0 _), ob.ek e1 (k0 _)⟩) ?_ ?_
    · intro n i H1 hn hi ⟨o1, o2⟩ e01 _
      have hi : i < fl.length := by omega
      obtain ⟨⟨z, t, last⟩, hq⟩ : ∃ q, fl[i]? = some q := ⟨_, List.getElem?_eq_getElem hi⟩
      refine ⟨_, jg_name 3 nd, ?_⟩
      have stp : (List.range (i + 1)).flatMap (encAt fl) = (List.range i).flatMap (encAt fl) ++ ((if decide (t = .s) && decide (0 < (mixd (fl.take i)).length) then [(i, z)] else []) ++ (if last && decide (0 < (mixd (fl.take (i + 1))).length) then [(i + 1, z)] else [])) := by
        rw [List.range_succ, List.flatMap_append]
        have e : ([i] : List Nat).flatMap (encAt fl) = encAt fl i := by simp
        rw [e]; unfold encAt; rw [hq]
      have ll := len_encR fl i
      have lt : ∀ k, (fl.take k).length ≤ 900 := fun k => Nat.le_trans (len_take_le fl k) (by omega)
      refine wr_ifJ [some (.i (eMs x)), some (.r (.ref la)), some (.r (.ref lp)), some (.i (.int (i : Nat)))] (fun H' => Own none K H' la (fl.map eF) ∧ Own none K H' lp (((List.range i).flatMap (encAt fl) ++ (if decide (t = .s) && decide (0 < (mixd (fl.take i)).length) then [(i, z)] else [])).map eN))
        (jt_and ((c_eqS (i := t.z) (j_f1 (k0 _) (rd_own (j_v 1) o1) (j_v 3) hq) j_str).is (s_z t)).t fun _ => ((c_gt (j_lenM (k0 _) B.len (J.sk (j_call c2 (hr.mono (by decide)) (k0 _) (ja_cons (j_takeL eF (k := i) (k0 _) (j_own (j_v 1) o1 (k0 _)) .l (j_v 3)) ja_nil) (fl.take i) rfl (fun _ _ _ => lt i) (fun a h => ⟨by subst h; rfl, h⟩)) .n)) j_int).is (q := decide (0 < (mixd (fl.take i)).length)) (decide_eq_decide.mpr (by omega))).t) (fun hb => ?_) (fun hb => ?_) (fun H2 ⟨o3, o4⟩ e02 _ => ?_)
      · refine wr_app (k0 _) (d := eN (i, z)) (j_v 2) o2 nlp0 (k0 _) (j_tup (ds := [.int (i : Nat), eD z]) (ja_cons (j_v 3) (ja_cons (j_f0 (k0 _) (rd_own (j_v 1) o1) (j_v 3) hq) ja_nil))) (by rw [List.length_map]; omega) (fun H3 g3 e03 _ o3 => ?_)
        exact wr_meet (fun H4 e4 _ => ⟨(g3.own (k0 _) o1 nal).ek e4 (k0 _), by rw [if_pos hb, List.map_append]; exact o3.ek e4 (k0 _)⟩) (Sub.refl _)
      · exact wr_meet (fun H4 e4 _ => ⟨o1.ek e4 (k0 _), by rw [if_neg (by rw [hb]; decide), List.append_nil]; exact o2.ek e4 (k0 _)⟩) (Sub.refl _)
      · refine wr_if (jt_and (jt_of (j_f2 (k0 _) (rd_own (j_v 1) o3) (j_v 3) hq)) fun _ => ((c_gt (j_lenM (k0 _) B.len (J.sk (j_call c2 (hr.mono (by decide)) (k0 _) (ja_cons (j_takeL eF (k := i + 1) (k0 _) (j_own (j_v 1) o3 (k0 _)) .l (j_succ (j_v 3))) ja_nil) (fl.take (i + 1)) rfl (fun _ _ _ => lt _) (fun a h => ⟨by subst h; rfl, h⟩)) .n)) j_int).is (q := decide (0 < (mixd (fl.take (i + 1))).length)) (decide_eq_decide.mpr (by omega))).t) (fun hb => ?_) (fun hb => ?_)
        · refine wr_app (k0 _) (d := eN (i + 1, z)) (j_v 2) o4 nlp0 (k0 _) (j_tup (ds := [.int ((i + 1 : Nat) : Int), eD z]) (ja_cons (j_succ (j_v 3)) (ja_cons (j_f0 (k0 _) (rd_own (j_v 1) o3) (j_v 3) hq) ja_nil))) ?_ (fun H3 g3 e03 _ o5 => ?_)
          · have l1 : (if decide (t = .s) && decide (0 < (mixd (fl.take i)).length) then [(i, z)] else []).length ≤ 1 := by split <;> simp
            rw [List.length_map, List.length_append]
            omega
          · refine wr_go (wr_next (fun H4 e4 _ => ⟨(g3.own (k0 _) o3 nal).ek e4 (k0 _), ?_⟩) (.keep (.keep (.keep (.drop .nil)))))
            rw [stp, if_pos hb, ← List.append_assoc, List.map_append]
            exact o5.ek e4 (k0 _)
        · refine wr_go (wr_next (fun H4 e4 _ => ⟨o3.ek e4 (k0 _), ?_⟩) (.keep (.keep (.keep (.drop .nil)))))
          rw [stp, if_neg (c := (last && decide (0 < (mixd (fl.take (i + 1))).length)) = true) (by rw [hb]; decide), List.append_nil]
          exact o4.ek e4 (k0 _)
    · intro n H1 hn ⟨o1, o2⟩ e01 _
      have hn : n.toNat = fl.length := by omega
      rw [hn] at o2
      have ll := len_encR fl fl.length
      obtain ⟨m0, r0, hx⟩ : ∃ m r, x = m :: r := by
        cases hx : x with
        | nil => exact absurd hx hW.ne
        | cons m r => exact ⟨m, r, rfl⟩
      have hx0 : x[0]? = some m0 := by rw [hx]; rfl
      refine wr_if ((c_gt (j_lenM (k0 _) B.len (J.sk (j_call c2 (hr.mono (by decide)) (k0 _) (ja_cons (j_own (j_v 1) o1 (k0 _)) ja_nil) fl rfl (fun _ _ _ => by omega) (fun a h => ⟨by subst h; rfl, h⟩)) .n)) j_int).is (q := decide (0 < (mixd fl).length)) (decide_eq_decide.mpr (by omega))).t (fun hb => ?_) (fun hb => ?_)
      · have hb : 0 < (mixd fl).length := of_decide_eq_true hb
        refine wr_app (k0 _) (d := eN (fl.length, m0.1)) (j_v 2) o2 nlp0 (k0 _) (j_tup (ds := [.int (fl.length : Nat), eD m0.1]) (ja_cons (j_lenM (k0 _) B.len (rd_own (j_v 1) o1)) (ja_cons (j_ixT (k0 _) (j_ixT (k0 _) (j_v (a := .i (eMs x)) 0) j_int (d := eM m0) (atI_map (i := 0) eM hx0)) j_int rfl) ja_nil))) (by rw [List.length_map]; omega) (fun H3 g3 e03 _ o3 => ?_)
        have o13 := g3.own (k0 _) o1 nal
        refine wr_if ((c_gt (j_lenM (k0 _) B.len (J.sk (j_v (a := .i (eMs x)) 0) .t)) j_int).is (q := decide (1 < x.length)) (decide_eq_decide.mpr (by omega))).t (fun hc => ?_) (fun hc => ?_)
        · have hc : 1 < x.length := of_decide_eq_true hc
          obtain ⟨m1, hx1⟩ : ∃ m1, x[1]? = some m1 := ⟨_, List.getElem?_eq_getElem hc⟩
          refine wr_app (k0 _) (d := eN (fl.length, m1.1)) (j_v 2) o3 nlp0 (k0 _) (j_tup (ds := [.int (fl.length : Nat), eD m1.1]) (ja_cons (j_lenM (k0 _) B.len (rd_own (j_v 1) o13)) (ja_cons (j_ixT (k0 _) (j_ixT (k0 _) (j_v (a := .i (eMs x)) 0) j_int (d := eM m1) (atI_map (i := 1) eM hx1)) j_int rfl) ja_nil))) (by rw [List.length_append, List.length_map]; show _ + 1 < 1000; omega) (fun H4 g4 e04 _ o4 => ?_)
          refine wr_go (wr_go (wr_retO (k0 _) (j_v 2) (ds := (encs x).map eN) ?_ (k0 _) nlp0 fun v H5 e05 _ ax => hD _ v H5 rfl e05 ax))
          have h1 : x.take 1 = [m0] := by rw [hx]; rfl
          have h2 : (x.drop 1).take 1 = [m1] := by
            rw [hx] at hx1 ⊢
            cases r0 with
            | nil => simp at hx1
            | cons a r =>
              have : a = m1 := by simpa using hx1
              rw [this]; rfl
          rw [ee, if_pos hb, if_pos hc, h1, h2, List.map_append, List.map_append, ← List.append_assoc]
          exact o4
        · have hc : ¬ 1 < x.length := of_decide_eq_false hc
          refine wr_go (wr_go (wr_retO (k0 _) (j_v 2) (ds := (encs x).map eN) ?_ (k0 _) nlp0 fun v H5 e05 _ ax => hD _ v H5 rfl e05 ax))
          have h1 : x.take 1 = [m0] := by rw [hx]; rfl
          rw [ee, if_pos hb, if_neg hc, h1, List.append_nil, List.map_append]
          exact o3
      · have hb : ¬ 0 < (mixd fl).length := of_decide_eq_false hb
        refine wr_go (wr_retO (k0 _) (j_v 2) (ds := (encs x).map eN) ?_ (k0 _) nlp0 fun v H5 e05 _ ax => hD _ v H5 rfl e05 ax)
        rw [ee, if_neg hb, List.append_nil]
        exact o2
end
end K38
end
section
/-! walks: the law's own count, the rules -/
namespace K38
open PySem L2
section
variable {P : Program} {w : World} {K : PySem.W.Frag} {mg : Str → Option Value} {base : Heap} {C : Addr}
theorem zI_of {i : Nat} (h : i < 2) : ∃ z, (i : Int) = zI z ∧ i = (if z then 1 else 0) := by
  match i, h with
  | 0, _ => exact ⟨false, rfl, rfl⟩
  | 1, _ => exact ⟨true, rfl, rfl⟩
theorem z_dec (t l : Tk) : decide (t.z = l.z) = decide (t = l) := decide_eq_decide.mpr (Tk.z_iff _ _)
theorem sd_dec (a b : Bool) : decide (sdS a = sdS b) = decide (a = b) := decide_eq_decide.mpr ⟨sdS_inj _ _, fun h => by rw [h]⟩
def bad1 (b : Bef) (fl : List Fl) (r : Int) (z : Bool) (l : Tk) : Bool := decide (r = 1) && decide (1 < cnt b fl z l)
def bad2 (fl : List Fl) (r : Int) (t : Tk) : Bool := decide (r = 2) && decide (1 < cntT fl t)
theorem brC_eq (b : Bef) (fl : List Fl) (r : Int) : brC b fl r = (([false, true].any fun z => [Tk.e, Tk.s].any fun l => bad1 b fl r z l) || [Tk.ee, Tk.es, Tk.se, Tk.ss].any fun t => bad2 fl r t) := rfl
abbrev sp_brC (K : PySem.W.Frag) : Sp := spOf K (fun x _ => x.2.1.length ≤ 900 ∧ WB x.1) (fun x : Bef × List Fl × Int => [.i (eB x.1), .b (x.2.1.map eF), .i (.int x.2.2)]) (fun x a => .i (.bl (brC x.1 x.2.1 x.2.2)) = a)
theorem ok_brC (B : Bi w K mg C) (D : Dh K mg "_law_breaks_counts" s__law_breaks_counts) : Cal P w K mg base 1 "_law_breaks_counts" ["_law_before_here", "_law_flat_here", "_law_rule"] (sp_brC K) := by
  refine cal_mk D sc__law_breaks_counts (fun _ _ _ _ _ _ us hl => match us, hl with | [_, _, _], _ => rfl) (fun _ => rfl) (fun x a h => ?_) fun x f cdv Ar outer s H E Dd hr hp hD hN => ?_
  · simp at h; rcases h with h | h | h <;> (subst h; rfl)
  · obtain ⟨b, fl, r⟩ := x
    obtain ⟨hl, hB⟩ : fl.length ≤ 900 ∧ WB b := hp
    have k0 : ∀ H, Mok none H := Mok.none
    have nd := sc__law_breaks_counts.nd
    have hls : ∀ z, (bside b z).length < 1000 := fun z => by
      have h1 := hB.o
      have h2 := hB.a
      cases z
      · show b.1.length < 1000; omega
      · show b.2.length < 1000; omega
    refine wr_forR (P := fun n => (2 : Int) = n) B.range (JI.n j_int rfl) (fun n h => by omega) (fun _ => [some (.i (eB b)), some (.b (fl.map eF)), some (.i (.int r)), none, none, none, none, none])
      (fun i _ => ∀ z l, (if z then 1 else 0) < i → l ∈ [Tk.e, Tk.s] → bad1 b fl r z l = false) rfl (Sub.refl _) (fun _ _ _ z l h => by omega) ?_ ?_
    · intro n i H1 hn hi hI e01 _
      obtain ⟨z, hz, hz2⟩ := zI_of (show i < 2 by omega)
      refine ⟨_, jg_name 3 nd, ?_⟩
      rw [hz]
      refine wr_forT (j_tup (ds := [Tk.e, Tk.s].map eT) (ja_cons j_str (ja_cons j_str ja_nil))) (fun _ => [some (.i (eB b)), some (.b (fl.map eF)), some (.i (.int r)), some (.i (.int (zI z))), none, none, none, none])
        (fun j _ => ∀ k l, k < j → [Tk.e, Tk.s][k]? = some l → bad1 b fl r z l = false) rfl (.keep (.keep (.keep (.keep (.drop (.drop (.drop (.drop .nil)))))))) (fun _ _ _ k l h => by omega) ?_ ?_
      · intro j d g H2 hd hI2 e02 _ fg
        rw [List.getElem?_map] at hd
        cases hlj : [Tk.e, Tk.s][j]? with
        | none => rw [hlj] at hd; cases hd
        | some l =>
          rw [hlj] at hd
          cases hd
          refine ⟨_, jg_name 4 nd, ?_⟩
          refine wr_set 6 nd (Φ := Eq (.i (.int (((bside b z).filter fun t => decide (t = l)).length : Nat)))) (j_lenM (l := (bside b z).filter fun t => decide (t = l)) (f := fun _ => .int 0) (k0 _) B.len (J.sk (j_lc1 (own := [("_law_token", 5)]) nd rfl (pi_tup pe_r) (lcm_T (bside b z) eT (fun t => decide (t = l)) (fun _ => .int 0) (hls z) (j_ixT (k0 _) (j_v (a := .i (eB b)) 0) (j_v 3) (bef_ix b z))
            (fun t _ => Lt.sel (fun s Hb C cl fp => jgw_name 5 nd (by decide)) (fun s Hb C cl fp => ((c_eqS (i := t.z) (j := l.z) (j_v 5) (j_v 4)).is (z_dec t l)).t) (fun _ s Hb C cl fp => j_int.imp fun a φ => ⟨_, rfl, φ⟩)))
            (fun s Hb C cl fp => pts_b s Hb C cl fp) (N := N__law_breaks_counts) (so := defScope s__law_breaks_counts) (by decide +kernel)) .n)) fun a φ => ⟨by subst φ; rfl, ?_⟩
          subst φ
          refine wr_set 6 nd (Φ := Eq (.i (.int ((((bside b z).filter fun t => decide (t = l)).length : Nat) + ((fl.filter fun p => decide (p.1 = z) && decide (p.2.1 = l)).length : Nat))))) (j_add (j_v 6) (j_lenM (l := fl.filter fun p => decide (p.1 = z) && decide (p.2.1 = l)) (f := fun _ => .int 0) (k0 _) B.len (J.sk (j_lc1 (own := [("_law_place", 7)]) nd rfl (pi_list pe_r) (lcm_L fl eF (fun p => decide (p.1 = z) && decide (p.2.1 = l)) (fun _ => .int 0) (k0 _) (by omega) ((j_v (a := .b (fl.map eF)) 1).imp (fun a φ => by subst φ; exact .b))
            (fun p _ => Lt.sel (fun s Hb C cl fp => jgw_name 7 nd (by decide)) (fun s Hb C cl fp => jt_and ((c_eqS (i := sdS p.1) (j := sdS z) (j_ixT (k0 _) (j_v (a := .i (eF p)) 7) j_int rfl) (j_arr (k0 _) (j_v 3))).is (sd_dec p.1 z)).t fun _ => ((c_eqS (i := p.2.1.z) (j := l.z) (j_ixT (k0 _) (j_v (a := .i (eF p)) 7) j_int rfl) (j_v 4)).is (z_dec p.2.1 l)).t) (fun _ s Hb C cl fp => j_int.imp fun a φ => ⟨_, rfl, φ⟩)))
            (fun s Hb C cl fp => pts_b s Hb C cl fp) (N := N__law_breaks_counts) (so := defScope s__law_breaks_counts) (by decide +kernel)) .n))) fun a φ => ⟨by subst φ; rfl, ?_⟩
          subst φ
          refine wr_if ((jt_and (c_eqI (j_v 2) j_int).t fun _ => (c_gt (j_v 6) j_int).t).is (q := bad1 b fl r z l) (by
            have : decide ((1 : Int) < (((bside b z).filter fun t => decide (t = l)).length : Nat) + ((fl.filter fun p => decide (p.1 = z) && decide (p.2.1 = l)).length : Nat)) = decide (1 < cnt b fl z l) := decide_eq_decide.mpr (by unfold cnt; omega)
            rw [this]; rfl)) (fun hb => ?_) (fun hb => ?_)
          · refine wr_ret (k0 _) j_bl fun a v H2 φ e _ ax => hD a v H2 ?_ e ax
            have h1 : ([false, true].any fun z => [Tk.e, Tk.s].any fun l => bad1 b fl r z l) = true := List.any_eq_true.mpr ⟨z, by cases z <;> simp, List.any_eq_true.mpr ⟨l, List.mem_of_getElem? hlj, hb⟩⟩
            rw [← φ]; show A.i (.bl (brC b fl r)) = _; rw [brC_eq, h1]; rfl
          · refine wr_go (wr_next (fun _ _ _ k l' hk hl' => ?_) (.keep (.keep (.keep (.keep (.drop (.drop (.drop (.drop .nil)))))))))
            by_cases c : k = j
            · subst c; rw [hlj] at hl'; cases hl'; exact hb
            · exact hI2 k l' (by omega) hl'
      · intro H2 hI2 e02 _
        refine wr_next (fun _ _ _ z' l hz' hm => ?_) (.keep (.keep (.keep (.drop (.drop (.drop (.drop (.drop .nil))))))))
        by_cases c : (if z' then 1 else 0) < i
        · exact hI z' l c hm
        · have ez : z' = z := by cases z <;> cases z' <;> simp at hz2 c hz' ⊢ <;> omega
          subst ez
          obtain ⟨k, hk, e⟩ := List.mem_iff_getElem.mp hm
          exact hI2 k l (by simpa using hk) (by rw [List.getElem?_eq_getElem hk, e])
    · intro n H1 hn hI e01 _
      have h1 : ([false, true].any fun z => [Tk.e, Tk.s].any fun l => bad1 b fl r z l) = false := List.any_eq_false.mpr fun z _ => by
        rw [List.any_eq_false.mpr fun l hm => by rw [hI z l (by cases z <;> simp <;> omega) hm]; decide]; decide
      refine wr_forT (j_tup (ds := [Tk.ee, Tk.es, Tk.se, Tk.ss].map eT) (ja_cons j_str (ja_cons j_str (ja_cons j_str (ja_cons j_str ja_nil))))) (fun _ => [some (.i (eB b)), some (.b (fl.map eF)), some (.i (.int r)), none, none, none, none, none])
        (fun j _ => ∀ k l, k < j → [Tk.ee, Tk.es, Tk.se, Tk.ss][k]? = some l → bad2 fl r l = false) rfl (Sub.refl _) (fun _ _ _ k l h => by omega) ?_ ?_
      · intro j d g H2 hd hI2 e02 _ fg
        rw [List.getElem?_map] at hd
        cases hlj : [Tk.ee, Tk.es, Tk.se, Tk.ss][j]? with
        | none => rw [hlj] at hd; cases hd
        | some l =>
          rw [hlj] at hd
          cases hd
          refine ⟨_, jg_name 5 nd, ?_⟩
          refine wr_if (jt_and (p := decide (r = 2)) (q := decide (1 < cntT fl l)) (c_eqI (j_v 2) j_int).t fun _ => ((c_gt (j_lenM (l := fl.filter fun p => decide (p.2.1 = l)) (f := fun _ => .int 0) (k0 _) B.len (J.sk (j_lc1 (own := [("_law_place", 7)]) nd rfl (pi_list pe_r) (lcm_L fl eF (fun p => decide (p.2.1 = l)) (fun _ => .int 0) (k0 _) (by omega) ((j_v (a := .b (fl.map eF)) 1).imp (fun a φ => by subst φ; exact .b))
            (fun p _ => Lt.sel (fun s Hb C cl fp => jgw_name 7 nd (by decide)) (fun s Hb C cl fp => ((c_eqS (i := p.2.1.z) (j := l.z) (j_ixT (k0 _) (j_v (a := .i (eF p)) 7) j_int rfl) (j_v 5)).is (z_dec p.2.1 l)).t) (fun _ s Hb C cl fp => j_int.imp fun a φ => ⟨_, rfl, φ⟩)))
            (fun s Hb C cl fp => pts_b s Hb C cl fp) (N := N__law_breaks_counts) (so := defScope s__law_breaks_counts) (by decide +kernel)) .n)) j_int).is (decide_eq_decide.mpr (by unfold cntT; omega))).t) (fun hb => ?_) (fun hb => ?_)
          · refine wr_ret (k0 _) j_bl fun a v H2 φ e _ ax => hD a v H2 ?_ e ax
            have h2 : ([Tk.ee, Tk.es, Tk.se, Tk.ss].any fun t => bad2 fl r t) = true := List.any_eq_true.mpr ⟨l, List.mem_of_getElem? hlj, hb⟩
            rw [← φ]; show A.i (.bl (brC b fl r)) = _; rw [brC_eq, h2, Bool.or_true]
          · refine wr_go (wr_next (fun _ _ _ k l' hk hl' => ?_) (.keep (.keep (.keep (.drop (.drop (.drop (.drop (.drop .nil)))))))))
            by_cases c : k = j
            · subst c; rw [hlj] at hl'; cases hl'; exact hb
            · exact hI2 k l' (by omega) hl'
      · intro H2 hI2 e02 _
        refine wr_ret (k0 _) j_bl fun a v H2 φ e _ ax => hD a v H2 ?_ e ax
        have h2 : ([Tk.ee, Tk.es, Tk.se, Tk.ss].any fun t => bad2 fl r t) = false := List.any_eq_false.mpr fun l hm => by
          obtain ⟨k, hk, e⟩ := List.mem_iff_getElem.mp hm
          rw [hI2 k l (by simpa using hk) (by rw [List.getElem?_eq_getElem hk, e])]; decide
        rw [← φ]; show A.i (.bl (brC b fl r)) = _; rw [brC_eq, h1, h2]; rfl
end
end K38
end
section
/-! walks: the law's own count, its end -/
namespace K38
open PySem L2
section
variable {P : Program} {w : World} {K : PySem.W.Frag} {mg : Str → Option Value} {base : Heap} {C : Addr}
abbrev cal_sent (P : Program) (w : World) (K : PySem.W.Frag) (mg : Str → Option Value) (base : Heap) : Prop := Cal P w K mg base 1 "_law_sent" ["_law_before_here", "_law_flat_here", "_law_side", "_law_letter"] (sp_sent K)
abbrev sp_brK (K : PySem.W.Frag) : Sp := spOf K (fun x _ => x.2.length ≤ 900) (fun x : Bef × List Fl => [.i (eB x.1), .b (x.2.map eF)]) (fun x a => .i (.bl (brK x.1 x.2)) = a)
theorem secs_mem2 (t : Tk) : decide (t.z ∈ ([Tk.ee, Tk.es, Tk.se, Tk.ss].map Tk.z : List Str)) = t.sec := secs_mem' t
theorem ok_brK (B : Bi w K mg C) (c1 : cal_sent P w K mg base) (D : Dh K mg "_law_breaks_keys" s__law_breaks_keys) : Cal P w K mg base 2 "_law_breaks_keys" ["_law_before_here", "_law_flat_here"] (sp_brK K) := by
  refine cal_mk D sc__law_breaks_keys (fun _ _ _ _ _ _ us hl => match us, hl with | [_, _], _ => rfl) (fun _ => rfl) (fun x a h => ?_) fun x f cdv Ar outer s H E Dd hr hp hD hN => ?_
  · simp at h; rcases h with h | h <;> (subst h; rfl)
  · obtain ⟨b, fl⟩ := x
    have hl : fl.length ≤ 900 := hp
    have k0 : ∀ H, Mok none H := Mok.none
    have nd := sc__law_breaks_keys.nd
    refine wr_forR (P := fun n => ((fl.length : Nat) : Int) = n) B.range (JI.n (j_lenM (k0 _) B.len (J.sk (j_v (a := .b (fl.map eF)) 1) .b)) rfl) (fun n h => by omega) (fun _ => [some (.i (eB b)), some (.b (fl.map eF)), none, none, none]) (fun i _ => ∀ j, j < i → brKat b fl j = false) rfl (Sub.refl _) (fun _ _ _ j h => by omega) ?_ ?_
    · intro n i H1 hn hi hI e01 _
      have hi : i < fl.length := by omega
      obtain ⟨⟨z, t, last⟩, hq⟩ : ∃ q, fl[i]? = some q := ⟨_, List.getElem?_eq_getElem hi⟩
      refine ⟨_, jg_name 2 nd, ?_⟩
      refine wr_set 3 nd (j_f1 (k0 _) (J.sk (j_v (a := .b (fl.map eF)) 1) .b) (j_v 2) hq) fun a φ => ⟨by subst φ; rfl, ?_⟩
      subst φ
      have nx : brKat b fl i = false → ∀ j, j < i + 1 → brKat b fl j = false := fun h j hj => by
        by_cases c : j = i
        · rw [c]; exact h
        · exact hI j (by omega)
      have ek : brKat b fl i = (t.sec && !(sent b (fl.take i) false t.lo && sent b (fl.take i) true t.la)) := by unfold brKat; rw [hq]
      refine wr_if ((c_inS (x := t.z) (xs := [Tk.ee, Tk.es, Tk.se, Tk.ss].map Tk.z) (k0 _) (j_v 3) (J.sk (j_tup (ds := ([Tk.ee, Tk.es, Tk.se, Tk.ss].map Tk.z).map I.str) (ja_cons j_str (ja_cons j_str (ja_cons j_str (ja_cons j_str ja_nil))))) .t)).is (secs_mem2 t)).t (fun hs => ?_) (fun hs => ?_)
      · obtain ⟨lz, c1', c2', a1, a2, z1, z2⟩ := lo_z t hs
        refine wr_set 4 nd (Φ := Eq (.i (.bl (sent b (fl.take i) false t.lo && sent b (fl.take i) true t.la)))) (j_and2
          (j_call c1 (hr.mono (by decide)) (k0 _) (bs := [.i (eB b), .n ((fl.take i).map eF), .i (.int (zI false)), .i (eT t.lo)]) (ja_cons (j_v 0) (ja_cons (j_takeL eF (k := i) (k0 _) (j_v (a := .b (fl.map eF)) 1) .b (j_v 2)) (ja_cons j_int (ja_cons ((j_ixS (j_v 3) j_int lz a1).is (d' := eT t.lo) (by rw [z1]; rfl)) ja_nil)))) (b, fl.take i, false, t.lo) rfl (fun _ _ _ => trivial) (fun a h => ⟨by subst h; rfl, h⟩))
          (fun _ => j_call c1 (hr.mono (by decide)) (k0 _) (bs := [.i (eB b), .n ((fl.take i).map eF), .i (.int (zI true)), .i (eT t.la)]) (ja_cons (j_v 0) (ja_cons (j_takeL eF (k := i) (k0 _) (j_v (a := .b (fl.map eF)) 1) .b (j_v 2)) (ja_cons j_int (ja_cons ((j_ixS (j_v 3) j_int lz a2).is (d' := eT t.la) (by rw [z2]; rfl)) ja_nil)))) (b, fl.take i, true, t.la) rfl (fun _ _ _ => trivial) (fun a h => ⟨by subst h; rfl, h⟩))) fun a φ => ⟨by subst φ; rfl, ?_⟩
        subst φ
        refine wr_if (jt_not (jt_of (j_v 4))) (fun hb => ?_) (fun hb => ?_)
        · refine wr_ret (k0 _) j_bl fun a v H2 φ e _ ax => hD a v H2 ?_ e ax
          have : brK b fl = true := any_range_t _ _ i hi (by rw [ek, hs, hb]; rfl)
          rw [← φ]; show A.i (.bl (brK b fl)) = _; rw [this]
        · exact wr_go (wr_go (wr_next (fun _ _ _ => nx (by rw [ek, hb, Bool.and_false])) (.keep (.keep (.drop (.drop (.drop .nil)))))))
      · exact wr_go (wr_next (fun _ _ _ => nx (by rw [ek, hs]; rfl)) (.keep (.keep (.drop (.drop (.drop .nil))))))
    · intro n H1 hn hI e01 _
      refine wr_ret (k0 _) j_bl fun a v H2 φ e _ ax => hD a v H2 ?_ e ax
      have : brK b fl = false := any_range_f _ _ fun j hj => hI j (by omega)
      rw [← φ]; show A.i (.bl (brK b fl)) = _; rw [this]
abbrev sp_brE (K : PySem.W.Frag) : Sp := spOf K (fun x _ => WF x.2.1) (fun x : Bef × List Msg × Int => [.i (eB x.1), .i (eMs x.2.1), .i (.int x.2.2)]) (fun x a => .i (.bl (brE x.1 x.2.1 x.2.2)) = a)
theorem zI_int (z : Bool) : (if z then (1 : Int) else 0) = zI z := rfl
theorem ok_brE (B : Bi w K mg C) (c1 : cal_sent P w K mg base) (c2 : Cal P w K mg base 1 "_law_flat" ["_law_messages_here"] (sp_flat K)) (c3 : Cal P w K mg base 1 "_law_mixed" ["_law_flat_here"] (sp_mixed K)) (c4 : Cal P w K mg base 2 "_law_encryptions" ["_law_messages_here"] (sp_encs K))
    (D : Dh K mg "_law_breaks_encryption" s__law_breaks_encryption) : Cal P w K mg base 3 "_law_breaks_encryption" ["_law_before_here", "_law_messages_here", "_law_rule"] (sp_brE K) := by
  refine cal_mk D sc__law_breaks_encryption (fun _ _ _ _ _ _ us hl => match us, hl with | [_, _, _], _ => rfl) (fun _ => rfl) (fun x a h => ?_) fun x f cdv Ar outer s H E Dd hr hp hD hN => ?_
  · simp at h; rcases h with h | h | h <;> (subst h; rfl)
  · obtain ⟨b, ms, r⟩ := x
    have hW : WF ms := hp
    have k0 : ∀ H, Mok none H := Mok.none
    have nd := sc__law_breaks_encryption.nd
    have lf := hW.len_flat'
    refine wr_setN 3 nd (j_call c2 (hr.mono (by decide)) (k0 _) (ja_cons (j_v 1) ja_nil) ms rfl (fun _ _ _ => hW) (fun a h => ⟨by subst h; rfl, h⟩)) (fun la Ha nla ea _ e0a oa => ?_) (k0 _)
    have oa : Own none K Ha la ((flat ms).map eF) := oa
    refine wr_forN (k0 _) (ds := (encs ms).map eN) (j_call c4 (hr.mono (by decide)) (k0 _) (ja_cons (j_v 1) ja_nil) ms rfl (fun _ _ _ => hW) (fun a h => ⟨by subst h; rfl, h⟩)) .n (fun _ => [some (.i (eB b)), some (.i (eMs ms)), some (.i (.int r)), some (.r (.ref la)), none, none, none, none, none])
      (fun q xs i H' => Ow none K H' q xs ((encs ms).map eN) ∧ Own none K H' la ((flat ms).map eF) ∧ ∀ j x, j < i → (encs ms)[j]? = some x → brEat b (flat ms) r x = false) rfl (Sub.refl _) (fun q xs H1 f e _ _ o => ⟨o, oa.ek e (k0 _), fun j x hj => by omega⟩) (fun q xs i H1 g => g.1) (k0 _) ?_ ?_
    · intro q xs i d H1 hd ⟨oq, of, hI⟩ e01 _
      rw [List.getElem?_map] at hd
      cases hx : (encs ms)[i]? with
      | none => rw [hx] at hd; cases hd
      | some x =>
        rw [hx] at hd
        cases hd
        obtain ⟨k, z⟩ := x
        generalize hfl : flat ms = fl at *
        refine ⟨_, jg_tup rfl (jgs_cons (jg_name 4 nd) (jgs_cons (jg_name 5 nd) jgs_nil)), ?_⟩
        have lt : (fl.take k).length ≤ 900 := Nat.le_trans (len_take_le fl k) (by omega)
        refine wr_setN 6 nd (ds := (mixd (fl.take k)).map eT) (j_call c3 (hr.mono (by decide)) (k0 _) (ja_cons (j_takeL eF (k := k) (k0 _) (j_own (j_v 3) of (k0 _)) .l (j_v 4)) ja_nil) (fl.take k) rfl (fun _ _ _ => lt) (fun a h => ⟨by subst h; rfl, h⟩)) (fun lm H2 nlm e2 _ e02 om => ?_) (k0 _)
        have of2 := of.ek e2 (k0 _)
        have oq2 := oq.ek e2 (k0 _)
        refine wr_set 7 nd (Φ := Eq (.i (.int (zI z)))) (j_intB B.int ((c_eqS (i := sdS z) (j_v 5) j_str).is (sdS_a z)).j) fun a φ => ⟨by subst φ; rfl, ?_⟩
        subst φ
        refine wr_set 8 nd (Φ := Eq (.i (.str (if z then Tk.es else Tk.se).z))) ((j_two (z := z) (s0 := "se") (s1 := "es") (k0 _) (j_v 7)).is (by cases z <;> rfl)) fun a φ => ⟨by subst φ; rfl, ?_⟩
        subst φ
        have f1 : ∀ t, decide (t.z ∈ (mixd (fl.take k)).map Tk.z) = decide (t ∈ mixd (fl.take k)) := fun t => decide_eq_decide.mpr (mem_z _ _)
        have ret : brEat b fl r (k, z) = true → ∀ (a : A) v H2, A.i (.bl true) = a → Ek none H H2 → Ax K none H H H2 v a → Dd.rt v H2 := fun h a v H2 φ e ax => hD a v H2 (by
          have : brE b ms r = true := List.any_eq_true.mpr ⟨(k, z), List.mem_of_getElem? hx, by rw [hfl]; exact h⟩
          rw [← φ]; show A.i (.bl (brE b ms r)) = _; rw [this]) e ax
        have eq : brEat b fl r (k, z) = ((decide (r = 4) && decide ((if z then Tk.es else Tk.se) ∈ mixd (fl.take k)) && !decide (Tk.ee ∈ mixd (fl.take k))) || (decide (r = 4) && decide (Tk.ss ∈ mixd (fl.take k)) && !decide ((if z then Tk.se else Tk.es) ∈ mixd (fl.take k))) ||
          (decide (r = 6) && decide (Tk.psk ∈ mixd (fl.take k)) && !sent b (fl.take k) z .e)) := rfl
        refine wr_if ((jt_w (jw_and (p := decide (r = 4)) (q := decide ((if z then Tk.es else Tk.se) ∈ mixd (fl.take k)) && !decide (Tk.ee ∈ mixd (fl.take k))) (c_eqI (j_v 2) j_int).t fun _ => jw_and ((c_inS (xs := (mixd (fl.take k)).map Tk.z) (k0 _) (j_v 8) (sk_own (j_v 6) om)).is (f1 _)).t fun _ => jw_and1 ((c_niS (x := "ee") (xs := (mixd (fl.take k)).map Tk.z) (k0 _) j_str (sk_own (j_v 6) om)).is (by rw [← f1 .ee]; rfl)).t)).is (q := decide (r = 4) && decide ((if z then Tk.es else Tk.se) ∈ mixd (fl.take k)) && !decide (Tk.ee ∈ mixd (fl.take k))) (by rw [Bool.and_assoc])) (fun h1 => ?_) (fun h1 => wr_go ?_)
        · exact wr_ret (k0 _) j_bl fun a v H2 φ e _ ax => ret (by rw [eq, h1]; rfl) a v H2 φ e ax
        · refine wr_if ((jt_w (jw_and (p := decide (r = 4)) (q := decide (Tk.ss ∈ mixd (fl.take k)) && !decide ((if z then Tk.se else Tk.es) ∈ mixd (fl.take k))) (c_eqI (j_v 2) j_int).t fun _ => jw_and ((c_inS (x := "ss") (xs := (mixd (fl.take k)).map Tk.z) (k0 _) j_str (sk_own (j_v 6) om)).is (by rw [← f1 .ss]; rfl)).t fun _ => jw_and1 ((c_niS (x := (if z then Tk.se else Tk.es).z) (xs := (mixd (fl.take k)).map Tk.z) (k0 _) ((j_two (z := z) (s0 := "es") (s1 := "se") (k0 _) (j_v 7)).is (by cases z <;> rfl)) (sk_own (j_v 6) om)).is (by rw [f1])).t)).is (q := decide (r = 4) && decide (Tk.ss ∈ mixd (fl.take k)) && !decide ((if z then Tk.se else Tk.es) ∈ mixd (fl.take k))) (by rw [Bool.and_assoc])) (fun h2 => ?_) (fun h2 => wr_go ?_)
          · exact wr_ret (k0 _) j_bl fun a v H2 φ e _ ax => ret (by rw [eq, h2, Bool.or_true]; rfl) a v H2 φ e ax
          · refine wr_if ((jt_w (jw_and (p := decide (r = 6)) (q := decide (Tk.psk ∈ mixd (fl.take k)) && !sent b (fl.take k) z .e) (c_eqI (j_v 2) j_int).t fun _ => jw_and ((c_inS (x := "psk") (xs := (mixd (fl.take k)).map Tk.z) (k0 _) j_str (sk_own (j_v 6) om)).is (by rw [← f1 .psk]; rfl)).t fun _ => jw_and1 (jt_not (jt_of (j_call c1 (hr.mono (by decide)) (k0 _) (bs := [.i (eB b), .n ((fl.take k).map eF), .i (.int (zI z)), .i (eT .e)])
              (ja_cons (j_v 0) (ja_cons (j_takeL eF (k := k) (k0 _) (j_own (j_v 3) of2 (k0 _)) .l (j_v 4)) (ja_cons (j_v 7) (ja_cons j_str ja_nil)))) (b, fl.take k, z, .e) rfl (fun _ _ _ => trivial) (fun a h => ⟨by subst h; rfl, h⟩)))))).is (q := decide (r = 6) && decide (Tk.psk ∈ mixd (fl.take k)) && !sent b (fl.take k) z .e) (by rw [Bool.and_assoc])) (fun h3 => ?_) (fun h3 => wr_go ?_)
            · exact wr_ret (k0 _) j_bl fun a v H2 φ e _ ax => ret (by rw [eq, h3, Bool.or_true]) a v H2 φ e ax
            · refine wr_next (fun H3 e3 _ => ⟨oq2.ek e3 (k0 _), of2.ek e3 (k0 _), fun j x hj hx' => ?_⟩) (.keep (.keep (.keep (.keep (.drop (.drop (.drop (.drop (.drop .nil)))))))))
              by_cases c : j = i
              · subst c; rw [hx] at hx'; cases hx'; rw [eq, h1, h2, h3]; rfl
              · exact hI j x (by omega) hx'
    · intro q xs H1 ⟨_, _, hI⟩ e01 _
      refine wr_ret (k0 _) j_bl fun a v H2 φ e _ ax => hD a v H2 ?_ e ax
      have : brE b ms r = false := List.any_eq_false.mpr fun x hx => by
        obtain ⟨j, hj, e⟩ := List.mem_iff_getElem.mp hx
        rw [hI j x (by simpa using hj) (by rw [List.getElem?_eq_getElem hj, e])]; decide
      rw [← φ]; show A.i (.bl (brE b ms r)) = _; rw [this]
end
end K38
end
section
/-! walks: the law's verdict on a pattern; its own grades, small parts -/
namespace K38
open PySem L2
section
variable {P : Program} {w : World} {K : PySem.W.Frag} {mg : Str → Option Value} {base : Heap} {C : Addr}

abbrev sp_brP (K : PySem.W.Frag) : Sp := spOf K (fun x _ => WF x) (fun x : List Msg => [.i (eMs x)]) (fun x a => .i (.bl (brP x)) = a)
theorem ok_brP (B : Bi w K mg C) (D : Dh K mg "_law_breaks_psk" s__law_breaks_psk) : Cal P w K mg base 1 "_law_breaks_psk" ["_law_messages_here"] (sp_brP K) := by
  refine cal_mk D sc__law_breaks_psk (fun _ _ _ _ _ _ us hl => match us, hl with | [_], _ => rfl) (fun _ => rfl) (fun x a h => ?_) fun x f cdv Ar outer s H E Dd hr hp hD hN => ?_
  · simp at h; subst h; rfl
  · have hW : WF x := hp
    have k0 : ∀ H, Mok none H := Mok.none
    have nd := sc__law_breaks_psk.nd
    have few := hW.few
    let at_ : Nat → Bool := fun i => match x[i]? with
      | some m => brPat i m.2
      | none => false
    have eP : brP x = (List.range x.length).any at_ := rfl
    refine wr_forR (P := fun n => ((x.length : Nat) : Int) = n) B.range (JI.n (j_lenM (k0 _) B.len (J.sk (j_v (a := .i (eMs x)) 0) .t)) rfl) (fun n h => by omega) (fun _ => [some (.i (eMs x)), none, none, none]) (fun i _ => ∀ j, j < i → at_ j = false) rfl (Sub.refl _) (fun _ _ _ j h => by omega) ?_ ?_
    · intro n i H1 hn hi hI e01 _
      have hi : i < x.length := by omega
      obtain ⟨m, hm⟩ : ∃ q, x[i]? = some q := ⟨_, List.getElem?_eq_getElem hi⟩
      have lm := (hW.toks m (List.mem_of_getElem? hm))
      have l0 : 0 < m.2.length := List.length_pos_iff.mpr lm.1
      refine ⟨_, jg_name 1 nd, ?_⟩
      refine wr_set 2 nd (j_ixT (k0 _) (j_ixT (k0 _) (j_v (a := .i (eMs x)) 0) (j_v 1) (d := eM m) (atI_map (i := i) eM hm)) j_int (d := eTs m.2) rfl) fun a φ => ⟨by subst φ; rfl, ?_⟩
      subst φ
      have ea : at_ i = brPat i m.2 := by show (match x[i]? with | some m => _ | none => _) = _; rw [hm]
      let bt : Nat → Bool := fun k => decide (m.2[k]? = some .psk) && (decide (0 < i) || decide (0 < k))
      have eb : brPat i m.2 = (List.range (m.2.length - 1)).any bt := rfl
      refine wr_forR (P := fun n => (m.2.length : Int) - 1 = n) B.range (JI.n (j_sub (j_lenM (k0 _) B.len (J.sk (j_v (a := .i (eTs m.2)) 2) .t)) j_int) rfl) (fun n h => by omega) (fun _ => [some (.i (eMs x)), some (.i (.int (i : Nat))), some (.i (eTs m.2)), none]) (fun k _ => ∀ j, j < k → bt j = false) rfl (Sub.refl _) (fun _ _ _ j h => by omega) ?_ ?_
      · intro n k H2 hn2 hk hI2 e02 _
        have hk : k < m.2.length - 1 := by omega
        obtain ⟨t, ht⟩ : ∃ t, m.2[k]? = some t := ⟨_, List.getElem?_eq_getElem (by omega)⟩
        refine ⟨_, jg_name 3 nd, ?_⟩
        have et : bt k = (decide (t = .psk) && (decide (0 < i) || decide (0 < k))) := by
          show (decide (m.2[k]? = some Tk.psk) && _) = _
          rw [ht]
          congr 1
          exact decide_eq_decide.mpr ⟨fun h => Option.some.inj h, fun h => by rw [h]⟩
        refine wr_if (jt_and (p := decide (t = .psk)) (q := decide (0 < i) || decide (0 < k)) ((c_eqS (i := t.z) (j_ixT (k0 _) (j_v (a := .i (eTs m.2)) 2) (j_v 3) (d := eT t) (atI_map (i := k) eT ht)) j_str).is (psk_z t)).t fun _ => jt_or ((c_gt (j_v 1) j_int).is (decide_eq_decide.mpr (by omega))).t fun _ => ((c_gt (j_v 3) j_int).is (decide_eq_decide.mpr (by omega))).t) (fun hb => ?_) (fun hb => ?_)
        · refine wr_ret (k0 _) j_bl fun a v H2 φ e _ ax => hD a v H2 ?_ e ax
          have : brP x = true := by
            rw [eP]; exact any_range_t _ _ i hi (by rw [ea, eb]; exact any_range_t _ _ k hk (by rw [et]; exact hb))
          rw [← φ]; show A.i (.bl (brP x)) = _; rw [this]
        · refine wr_go (wr_next (fun _ _ _ j hj => ?_) (.keep (.keep (.keep (.drop .nil)))))
          by_cases c : j = k
          · rw [c, et]; exact hb
          · exact hI2 j (by omega)
      · intro n H2 hn2 hI2 e02 _
        refine wr_next (fun _ _ _ j hj => ?_) (.keep (.drop (.drop (.drop .nil))))
        by_cases c : j = i
        · rw [c, ea, eb]; exact any_range_f _ _ fun k hk => hI2 k (by omega)
        · exact hI j (by omega)
    · intro n H1 hn hI e01 _
      refine wr_ret (k0 _) j_bl fun a v H2 φ e _ ax => hD a v H2 ?_ e ax
      have : brP x = false := by rw [eP]; exact any_range_f _ _ fun j hj => hI j (by omega)
      rw [← φ]; show A.i (.bl (brP x)) = _; rw [this]
abbrev sp_brk (K : PySem.W.Frag) : Sp := spOf K (fun x _ => WF x.2 ∧ WB x.1) (fun x : Bef × List Msg => [.i (eB x.1), .i (eMs x.2)]) (fun x a => .i (.int (brk x.1 x.2)) = a)
theorem ok_brk (B : Bi w K mg C) (c1 : Cal P w K mg base 1 "_law_flat" ["_law_messages_here"] (sp_flat K)) (c2 : Cal P w K mg base 1 "_law_breaks_counts" ["_law_before_here", "_law_flat_here", "_law_rule"] (sp_brC K))
    (c3 : Cal P w K mg base 2 "_law_breaks_keys" ["_law_before_here", "_law_flat_here"] (sp_brK K)) (c4 : Cal P w K mg base 3 "_law_breaks_encryption" ["_law_before_here", "_law_messages_here", "_law_rule"] (sp_brE K)) (c5 : Cal P w K mg base 1 "_law_breaks_psk" ["_law_messages_here"] (sp_brP K))
    (D : Dh K mg "_law_broken" s__law_broken) : Cal P w K mg base 4 "_law_broken" ["_law_before_here", "_law_messages_here"] (sp_brk K) := by
  refine cal_mk D sc__law_broken (fun _ _ _ _ _ _ us hl => match us, hl with | [_, _], _ => rfl) (fun _ => rfl) (fun x a h => ?_) fun x f cdv Ar outer s H E Dd hr hp hD hN => ?_
  · simp at h; rcases h with h | h <;> (subst h; rfl)
  · obtain ⟨b, ms⟩ := x
    obtain ⟨hW, hB⟩ : WF ms ∧ WB b := hp
    have k0 : ∀ H, Mok none H := Mok.none
    have nd := sc__law_broken.nd
    have lf := hW.len_flat'
    have fin : ∀ r : Int, brk b ms = r → ∀ a v H2, A.i (.int r) = a → Ek none H H2 → Ax K none H H H2 v a → Dd.rt v H2 := fun r h a v H2 φ e ax => hD a v H2 (by rw [← φ, ← h]) e ax
    refine wr_setN 2 nd (j_call c1 (hr.mono (by decide)) (k0 _) (ja_cons (j_v 1) ja_nil) ms rfl (fun _ _ _ => hW) (fun a h => ⟨by subst h; rfl, h⟩)) (fun la Ha nla ea _ e0a oa => ?_) (k0 _)
    have oa : Own none K Ha la ((flat ms).map eF) := oa
    refine wr_forT (j_tup (ds := [.int 1, .int 2]) (ja_cons j_int (ja_cons j_int ja_nil))) (fun _ => [some (.i (eB b)), some (.i (eMs ms)), some (.r (.ref la)), none])
      (fun i H' => Own none K H' la ((flat ms).map eF) ∧ (0 < i → brC b (flat ms) 1 = false) ∧ (1 < i → brC b (flat ms) 2 = false)) rfl (Sub.refl _) (fun H1 e1 _ => ⟨oa.ek e1 (k0 _), fun h => by omega, fun h => by omega⟩) ?_ ?_
    · intro i d g H1 hd ⟨o, h1, h2⟩ e01 _ fg
      have key : ∃ r : Int, d = .int r ∧ (i = 0 ∧ r = 1 ∨ i = 1 ∧ r = 2) := by
        match i, hd with
        | 0, hd => exact ⟨1, (Option.some.inj hd).symm, .inl ⟨rfl, rfl⟩⟩
        | 1, hd => exact ⟨2, (Option.some.inj hd).symm, .inr ⟨rfl, rfl⟩⟩
        | i + 2, hd => simp at hd
      obtain ⟨r, rfl, hir⟩ := key
      refine ⟨_, jg_name 3 nd, ?_⟩
      refine wr_if (jt_of (j_call c2 (hr.mono (by decide)) (k0 _) (ja_cons (j_v 0) (ja_cons (j_own (j_v 2) o (k0 _)) (ja_cons (j_v 3) ja_nil))) (b, flat ms, r) rfl (fun _ _ _ => ⟨by show (flat ms).length ≤ 900; omega, hB⟩) (fun a h => ⟨by subst h; rfl, h⟩))) (fun hb => ?_) (fun hb => ?_)
      · refine wr_ret (k0 _) (j_v 3) fun a v H2 φ e _ ax => fin r ?_ a v H2 φ e ax
        have hb : brC b (flat ms) r = true := hb
        unfold brk
        rcases hir with ⟨c, c'⟩ | ⟨c, c'⟩
        · rw [c'] at hb; rw [hb, c']; rfl
        · rw [c'] at hb; rw [hb, h1 (by omega), c']; rfl
      · have hb : brC b (flat ms) r = false := hb
        refine wr_go (wr_next (fun H2 e2 _ => ⟨o.ek e2 (k0 _), fun h => ?_, fun h => ?_⟩) (.keep (.keep (.keep (.drop .nil)))))
        · rcases hir with ⟨c, c'⟩ | ⟨c, c'⟩
          · rw [← c']; exact hb
          · exact h1 (by omega)
        · rcases hir with ⟨c, c'⟩ | ⟨c, c'⟩
          · omega
          · rw [← c']; exact hb
    · intro H1 ⟨o, h1, h2⟩ e01 _
      have h1 := h1 (by show 0 < 2; decide)
      have h2 := h2 (by show 1 < 2; decide)
      refine wr_if (jt_of (j_call c3 (hr.mono (by decide)) (k0 _) (ja_cons (j_v 0) (ja_cons (j_own (j_v 2) o (k0 _)) ja_nil)) (b, flat ms) rfl (fun _ _ _ => by show (flat ms).length ≤ 900; omega) (fun a h => ⟨by subst h; rfl, h⟩))) (fun hb => ?_) (fun hb => wr_go ?_)
      · have hb : brK b (flat ms) = true := hb
        exact wr_ret (k0 _) j_int fun a v H2 φ e _ ax => fin 3 (by unfold brk; rw [h1, h2, hb]; rfl) a v H2 φ e ax
      · have h3 : brK b (flat ms) = false := hb
        refine wr_if (jt_of (j_call c4 (hr.mono (by decide)) (k0 _) (ja_cons (j_v 0) (ja_cons (j_v 1) (ja_cons j_int ja_nil))) (b, ms, 4) rfl (fun _ _ _ => hW) (fun a h => ⟨by subst h; rfl, h⟩))) (fun hb => ?_) (fun hb => wr_go ?_)
        · have hb : brE b ms 4 = true := hb
          exact wr_ret (k0 _) j_int fun a v H2 φ e _ ax => fin 4 (by unfold brk; rw [h1, h2, h3, hb]; rfl) a v H2 φ e ax
        · have h4 : brE b ms 4 = false := hb
          refine wr_if (jt_of (j_call c5 (hr.mono (by decide)) (k0 _) (ja_cons (j_v 1) ja_nil) ms rfl (fun _ _ _ => hW) (fun a h => ⟨by subst h; rfl, h⟩))) (fun hb => ?_) (fun hb => wr_go ?_)
          · have hb : brP ms = true := hb
            exact wr_ret (k0 _) j_int fun a v H2 φ e _ ax => fin 5 (by unfold brk; rw [h1, h2, h3, h4, hb]; rfl) a v H2 φ e ax
          · have h5 : brP ms = false := hb
            refine wr_ret (k0 _) (j_mul j_int (j_intB B.int (j_call c4 (hr.mono (by decide)) (k0 _) (ja_cons (j_v 0) (ja_cons (j_v 1) (ja_cons j_int ja_nil))) (b, ms, 6) rfl (fun _ _ _ => hW) (fun a h => ⟨by subst h; rfl, h⟩))) ?_) fun a v H2 φ e _ ax => fin _ ?_ a v H2 φ e ax
            · exact .inl ⟨by decide, by decide⟩
            · unfold brk; rw [h1, h2, h3, h4, h5]; rfl
/-! ### secrets, open -/
abbrev sp_secs (K : PySem.W.Frag) : Sp := spOf K (fun x _ => x.length ≤ 12 ∧ ∀ m ∈ x, m.2.length ≤ 20) (fun x : List Msg => [.i (eMs x)]) (fun x a => .n ((secsOf x).map eT) = a)
theorem ok_secs (D : Dh K mg "_law_secrets" s__law_secrets) : Cal P w K mg base 1 "_law_secrets" ["_law_messages_here"] (sp_secs K) := by
  refine cal_mk D sc__law_secrets (fun _ _ _ _ _ _ us hl => match us, hl with | [_], _ => rfl) (fun _ => rfl) (fun x a h => ?_) fun x f cdv Ar outer s H E Dd hr hp hD hN => ?_
  · simp at h; subst h; rfl
  · obtain ⟨few, hm20⟩ : x.length ≤ 12 ∧ ∀ m ∈ x, m.2.length ≤ 20 := hp
    have k0 : ∀ H, Mok none H := Mok.none
    have nd := sc__law_secrets.nd
    refine wr_setN 1 nd (j_lst (ds := []) ja_nil) (fun l H1 nl e1 k1 e01 o => ?_) (k0 _)
    refine wr_forT (j_v 0) (fun _ => [some (.i (eMs x)), some (.r (.ref l)), none, none]) (fun i H' => Own none K H' l ((secsOf (x.take i)).map eT)) rfl (Sub.refl _) (fun H2 e2 _ => (o.ek e2 k1)) ?_ ?_
    · intro i d g H2 hd hI e02 k2 fg
      rw [List.getElem?_map] at hd
      cases hm : x[i]? with
      | none => rw [hm] at hd; cases hd
      | some m =>
        rw [hm] at hd
        cases hd
        have mm : m ∈ x := List.mem_of_getElem? hm
        refine ⟨_, jg_name 2 nd, ?_⟩
        refine wr_forT (j_ixT (k0 _) (j_v (a := .i (eM m)) 2) j_int (d := eTs m.2) rfl) (fun _ => [some (.i (eMs x)), some (.r (.ref l)), some (.i (eM m)), none])
          (fun j H' => Own none K H' l ((secsOf (x.take i) ++ (m.2.take j).filter Tk.sec).map eT)) rfl (Sub.refl _) (fun H3 e3 k3 => by rw [List.take_zero, List.filter_nil, List.append_nil]; exact hI.ek e3 k2) ?_ ?_
        · intro j d g2 H3 hd hI3 e03 k3 fg2
          rw [List.getElem?_map] at hd
          cases ht : m.2[j]? with
          | none => rw [ht] at hd; cases hd
          | some t =>
            rw [ht] at hd
            cases hd
            refine ⟨_, jg_name 3 nd, ?_⟩
            have stp : (m.2.take (j + 1)).filter Tk.sec = (m.2.take j).filter Tk.sec ++ [t].filter Tk.sec := by rw [take_snoc _ _ _ ht, List.filter_append]
            refine wr_if ((c_inS (x := t.z) (xs := [Tk.ee, Tk.es, Tk.se, Tk.ss].map Tk.z) (k0 _) (j_v 3) (J.sk (j_tup (ds := ([Tk.ee, Tk.es, Tk.se, Tk.ss].map Tk.z).map I.str) (ja_cons j_str (ja_cons j_str (ja_cons j_str (ja_cons j_str ja_nil))))) .t)).is (secs_mem2 t)).t (fun h => ?_) (fun h => ?_)
            · refine wr_app (k0 _) (j_v 1) hI3 nl k3 (d := eT t) (j_v 3) ?_ (fun H4 g4 e04 k4 o4 => ?_) rfl (gf_cons fg2 (gf_cons fg rfl))
              · have h2 : (secsOf (x.take i)).length ≤ 20 * (x.take i).length := len_secsOf fun m hm => hm20 m (List.mem_of_mem_take hm)
                have h4 := len_take_le x i
                have h3 : ((m.2.take j).filter Tk.sec).length ≤ 20 := Nat.le_trans (List.length_filter_le _ _) (Nat.le_trans (by rw [List.length_take]; exact Nat.min_le_right _ _) (hm20 m mm))
                rw [List.length_map, List.length_append]; omega
              · refine wr_go (wr_next (fun H5 e5 k5 => ?_) (Sub.keep (.keep (.keep (.drop .nil)))))
                have ef : [t].filter Tk.sec = [t] := by rw [List.filter_cons, if_pos h]; rfl
                rw [stp, ef, ← List.append_assoc, List.map_append]
                exact o4.ek e5 k4
            · refine wr_go (wr_next (fun H5 e5 k5 => ?_) (Sub.keep (.keep (.keep (.drop .nil)))))
              have ef : [t].filter Tk.sec = [] := by rw [List.filter_cons, if_neg (by rw [h]; decide)]; rfl
              rw [stp, ef, List.append_nil]
              exact hI3.ek e5 k3
        · intro H3 hI3 e03 k3
          refine wr_next (fun H5 e5 k5 => ?_) (Sub.keep (.keep (.drop (.drop .nil))))
          rw [take_snoc _ _ _ hm, secsOf_snoc]
          have hl : m.2.take (m.2.map eT).length = m.2 := by rw [List.length_map]; exact List.take_length
          rw [hl] at hI3
          exact hI3.ek e5 k3
    · intro H2 hI e02 k2
      have hl : x.take (x.map eM).length = x := by rw [List.length_map]; exact List.take_length
      rw [hl] at hI
      exact wr_retO (k0 _) (j_v 1) hI k2 nl fun v H3 e03 _ ax => hD _ v H3 rfl e03 ax
theorem ko_lo (t : Tk) (h : t.sec = true) : "o" ++ t.lo.z = t.ko ∧ "a" ++ t.la.z = t.ka := by
  cases t with
  | ee => decide +kernel
  | es => decide +kernel
  | se => decide +kernel
  | ss => decide +kernel
  | e => cases h
  | s => cases h
  | psk => cases h
theorem len_lo (t : Tk) (h : t.sec = true) : t.lo.z.length = 1 ∧ t.la.z.length = 1 := by
  cases t with
  | ee => decide +kernel
  | es => decide +kernel
  | se => decide +kernel
  | ss => decide +kernel
  | e => cases h
  | s => cases h
  | psk => cases h
abbrev sp_lop (K : PySem.W.Frag) : Sp := spOf K (fun x _ => ∀ t ∈ x.1, t.sec = true) (fun x : List Tk × List Str => [.b (x.1.map eT), .b (x.2.map I.str)]) (fun x a => .i (.bl (opn x.1 x.2)) = a)
theorem ok_lop (D : Dh K mg "_law_open" s__law_open) : Cal P w K mg base 1 "_law_open" ["_law_secrets_here", "_law_keys"] (sp_lop K) := by
  refine cal_mk D sc__law_open (fun _ _ _ _ _ _ us hl => match us, hl with | [_, _], _ => rfl) (fun _ => rfl) (fun x a h => ?_) fun x f cdv Ar outer s H E Dd hr hp hD hN => ?_
  · simp at h; rcases h with h | h <;> (subst h; rfl)
  · obtain ⟨T, ks⟩ := x
    have hp : ∀ t ∈ T, t.sec = true := hp
    have k0 : ∀ H, Mok none H := Mok.none
    have nd := sc__law_open.nd
    refine wr_forB (k0 _) (j_v 0) (fun _ => [some (.b (T.map eT)), some (.b (ks.map I.str)), none]) (fun i _ => ∀ j t, j < i → T[j]? = some t → cc t ks = true) rfl (Sub.refl _) (fun _ _ _ j t h => by omega) ?_ ?_
    · intro i d H1 hd hI e0 _
      rw [List.getElem?_map] at hd
      cases ht : T[i]? with
      | none => rw [ht] at hd; cases hd
      | some t =>
        rw [ht] at hd
        cases hd
        have tm : t ∈ T := List.mem_of_getElem? ht
        have hs := hp t tm
        refine ⟨_, jg_name 2 nd, ?_⟩
        obtain ⟨lz, c1', c2', a1, a2, z1, z2⟩ := lo_z t hs
        obtain ⟨o1, o2⟩ := ko_lo t hs
        obtain ⟨l1, l2⟩ := len_lo t hs
        refine wr_if (jt_and (p := !decide (t.ko ∈ ks)) (q := !decide (t.ka ∈ ks))
          ((c_niS (x := t.ko) (k0 _) ((j_adds (i := "o") (j := t.lo.z) j_str ((j_ixS (j_v 2) j_int lz a1).is (d' := eT t.lo) (by rw [z1]; rfl)) (by rw [len_o, l1]; decide)).is (by rw [o1])) (J.sk (j_v (a := .b (ks.map I.str)) 1) .b))).t
          fun _ => ((c_niS (x := t.ka) (k0 _) ((j_adds (i := "a") (j := t.la.z) j_str ((j_ixS (j_v 2) j_int lz a2).is (d' := eT t.la) (by rw [z2]; rfl)) (by rw [len_a, l2]; decide)).is (by rw [o2])) (J.sk (j_v (a := .b (ks.map I.str)) 1) .b))).t) (fun h => ?_) (fun h => ?_)
        · have hf : cc t ks = false := by
            unfold cc
            cases q1 : decide (t.ko ∈ ks) <;> cases q2 : decide (t.ka ∈ ks) <;> rw [q1, q2] at h <;> first | rfl | cases h
          refine wr_ret (k0 _) j_bl fun a v H2 φ e _ ax => hD a v H2 ?_ e ax
          have : opn T ks = false := List.all_eq_false.mpr ⟨t, tm, by rw [hf]; decide⟩
          rw [← φ]; show A.i (.bl (opn T ks)) = _; rw [this]
        · have ht' : cc t ks = true := by
            unfold cc
            cases q1 : decide (t.ko ∈ ks) <;> cases q2 : decide (t.ka ∈ ks) <;> rw [q1, q2] at h <;> first | rfl | cases h
          refine wr_go (wr_next (fun _ _ _ j u hj hu => ?_) (.keep (.keep (.drop .nil))))
          by_cases c : j = i
          · subst c; rw [ht] at hu; cases hu; exact ht'
          · exact hI j u (by omega) hu
    · intro H1 hI e0 _
      refine wr_ret (k0 _) j_bl fun a v H2 φ e _ ax => hD a v H2 ?_ e ax
      have : opn T ks = true := List.all_eq_true.mpr fun t ht => by
        obtain ⟨j, hj, e⟩ := List.mem_iff_getElem.mp ht
        exact hI j t (by simpa using hj) (by rw [List.getElem?_eq_getElem hj, e])
      rw [← φ]; show A.i (.bl (opn T ks)) = _; rw [this]
/-! ### isinstance -/
abbrev sp_says (K : PySem.W.Frag) : Sp := spOf K free (fun x : Bool × Bool => [.i (.bl x.1), .i (.bl x.2)]) (fun x a => .i (.bl (decide (x.1 = x.2))) = a)
theorem ok_says (B : Bi w K mg C) (D : Dh K mg "_law_says" s__law_says) : Cal P w K mg base 1 "_law_says" ["_law_actual", "_law_expected"] (sp_says K) := by
  refine cal_mk D sc__law_says (fun _ _ _ _ _ _ us hl => match us, hl with | [_, _], _ => rfl) (fun _ => rfl) (fun x a h => ?_) fun x f cdv Ar outer s H E Dd hr hp hD hN => ?_
  · simp at h; rcases h with h | h <;> (subst h; rfl)
  · refine wr_ret (Mok.none _) (j_and2 (p := true) (j_isi (T := "bool") (N2 := "bool") B.isi B.bool (by decide +kernel) (j_v (a := .i (.bl x.1)) 0) (by decide +kernel) (fun Hs H1 v a1 _ φ Hs' ax => by subst φ; rw [un_b ax]; exact .base (.bl _))) fun _ => (c_eqB (j_v 0) (j_v 1)).j) fun a v H2 φ e _ ax => hD a v H2 φ e ax
abbrev sp_isint (K : PySem.W.Frag) : Sp := spOf K free (fun x : Int => [.i (.int x)]) (fun x a => .i (.bl true) = a)
theorem ok_isint (B : Bi w K mg C) (D : Dh K mg "_law_is_integer" s__law_is_integer) : Cal P w K mg base 1 "_law_is_integer" ["_law_actual"] (sp_isint K) := by
  refine cal_mk D sc__law_is_integer (fun _ _ _ _ _ _ us hl => match us, hl with | [_], _ => rfl) (fun _ => rfl) (fun x a h => ?_) fun x f cdv Ar outer s H E Dd hr hp hD hN => ?_
  · simp at h; subst h; rfl
  · refine wr_ret (Mok.none _) (j_and2 (p := true) (q := true) (j_isi (T := "int") (N2 := "int") B.isi B.int (by decide +kernel) (j_v (a := .i (.int x)) 0) (by decide +kernel) (fun Hs H1 v a1 _ φ Hs' ax => by subst φ; rw [un_i ax]; exact .base (.int _))) fun _ =>
      j_not (p := false) (j_isi (T := "bool") (N2 := "int") B.isi B.bool (by decide +kernel) (j_v (a := .i (.int x)) 0) (by decide +kernel) (fun Hs H1 v a1 _ φ Hs' ax => by subst φ; rw [un_i ax]; exact .base (.int _)))) fun a v H2 φ e _ ax => hD a v H2 φ e ax
theorem ty_tup {K : PySem.W.Frag} {H : Hp} {v : V} {ds : List I} (h : It K H v (.tup ds)) : TyX K H v (.type "tuple") := by
  obtain ⟨p, xs, rfl, hs, _⟩ := h.un
  rcases hs with (h | ⟨o, h⟩) | ⟨o, its, n, h1, h2, _⟩
  · exact .base (.tup h)
  · exact .fTuple h
  · exact .kTuple h1 h2
abbrev eP2 (x : Int × Int) : I := .tup [.int x.1, .int x.2]
abbrev sp_pair (K : PySem.W.Frag) : Sp := spOf K (fun x _ => (0 ≤ x.1 ∧ x.1 ≤ 2) ∧ 0 ≤ x.2 ∧ x.2 ≤ 5) (fun x : Int × Int => [.i (eP2 x)]) (fun x a => .i (.bl true) = a)
theorem ok_pair (B : Bi w K mg C) (c1 : Cal P w K mg base 1 "_law_is_integer" ["_law_actual"] (sp_isint K)) (D : Dh K mg "_law_is_pair" s__law_is_pair) : Cal P w K mg base 2 "_law_is_pair" ["_law_actual"] (sp_pair K) := by
  refine cal_mk D sc__law_is_pair (fun _ _ _ _ _ _ us hl => match us, hl with | [_], _ => rfl) (fun _ => rfl) (fun x a h => ?_) fun x f cdv Ar outer s H E Dd hr hp hD hN => ?_
  · simp at h; subst h; rfl
  · obtain ⟨x, y⟩ := x
    obtain ⟨⟨h1, h2⟩, h3, h4⟩ : (0 ≤ x ∧ x ≤ 2) ∧ 0 ≤ y ∧ y ≤ 5 := hp
    have k0 : ∀ H, Mok none H := Mok.none
    have i0 : ∀ {X : Cx} {H0 H : Hp} {ρ : Ro} {G : Gh} {e : Expr} {k pos p2}, JI X none H0 H ρ G e (eP2 (x, y)) → JI X none H0 H ρ G (.Subscript e (.Constant (.int 0) k p2) pos) (.int x) := fun h => j_ixT (k0 _) h j_int rfl
    have i1 : ∀ {X : Cx} {H0 H : Hp} {ρ : Ro} {G : Gh} {e : Expr} {k pos p2}, JI X none H0 H ρ G e (eP2 (x, y)) → JI X none H0 H ρ G (.Subscript e (.Constant (.int 1) k p2) pos) (.int y) := fun h => j_ixT (k0 _) h j_int rfl
    refine wr_if (jt_or (p := false) (q := false) (jt_not (p := true) (jt_of (j_isi (T := "tuple") (N2 := "tuple") B.isi B.tuple (by decide +kernel) (j_v (a := .i (eP2 (x, y))) 0) (by decide +kernel) (fun Hs H1 v a1 _ φ Hs' ax => by subst φ; exact ty_tup ax)))) fun _ =>
      ((c_neI (i := (2 : Nat)) (j_len (ds := [.int x, .int y]) (k0 _) B.len (J.sk (j_v (a := .i (eP2 (x, y))) 0) .t)) j_int).is (by decide)).t) (fun h => nomatch h) (fun _ => wr_go ?_)
    refine wr_if (jt_or (p := false) (q := false) (jt_not (p := true) (jt_of (j_call c1 (hr.mono (by decide)) (k0 _) (ja_cons (i0 (j_v 0)) ja_nil) x rfl (fun _ _ _ => trivial) (fun a h => ⟨by subst h; rfl, h⟩)))) fun _ =>
      jt_not (p := true) (jt_of (j_call c1 (hr.mono (by decide)) (k0 _) (ja_cons (i1 (j_v 0)) ja_nil) y rfl (fun _ _ _ => trivial) (fun a h => ⟨by subst h; rfl, h⟩)))) (fun h => nomatch h) (fun _ => wr_go ?_)
    refine wr_ret (k0 _) (j_and2 (p := true) (q := true) ((j_chain (j := x) j_int (i0 (j_v 0)) j_int).is ?_) fun _ => (j_chain (j := y) j_int (i1 (j_v 0)) j_int).is ?_) fun a v H2 φ e _ ax => hD a v H2 φ e ax
    · rw [decide_eq_true h1, decide_eq_true h2]; rfl
    · rw [decide_eq_true h3, decide_eq_true h4]; rfl
end
end K38
end
section
/-! further rules: a loop over a display of lists, a join with a witness -/
namespace K38
open PySem L2
section
variable {X : Cx} {m : Mo} {H0 H : Hp} {ρ : Ro} {G : Gh} {e a b c : Expr} {pos : Pos} {rest : List Stmt} {D : Ends}
/-- two ways that meet again, with a witness -/
abbrev Mx {α : Type} (X : Cx) (m : Mo) (H0 : Hp) (G : Gh) (ρM : α → Ro) (M : α → Hp → Prop) (D : Ends) : Ends := { D with nx := fun σ H => ∃ x, Tn X m H0 G (fun _ => ρM x) (fun _ => M x) 0 σ H }
theorem wr_ifX {α : Type} {p : Bool} {thn els : List Stmt} (ρM : α → Ro) (M : α → Hp → Prop) (hc : JT X m H0 H ρ G c (Eq p)) (ht : p = true → WR X m H0 H ρ G (Mx X m H0 G ρM M D) thn) (hf : p = false → WR X m H0 H ρ G (Mx X m H0 G ρM M D) els)
    (k : ∀ x H1, M x H1 → Ek m H0 H1 → Mok m H1 → WR X m H0 H1 (ρM x) G D rest) : WR X m H0 H ρ G D (.If c thn els pos :: rest) := fun σ H1 at_ =>
  ⟨_, Evl.pss_cut (ps_if pt_r pss_r pss_r) pss_r, fun σ H => ∃ x, Tn X m H0 G (fun _ => ρM x) (fun _ => M x) 0 σ H, hc σ H1 at_ _ fun b H2 φ e => by
    cases b with
    | true => exact iteT (ht φ.symm.symm σ H2 (at_.go e))
    | false => exact iteF (hf φ.symm.symm σ H2 (at_.go e)), fun σ' H' ⟨x, hM, e0, mo, en⟩ => k x H' hM e0 mo σ' H' ⟨.refl _, e0, mo, en⟩⟩
theorem wr_ifXn {α : Type} {Φ : Bool → Prop} {thn els : List Stmt} (ρM : α → Ro) (M : α → Hp → Prop) (hc : JT X m H0 H ρ G c Φ) (ht : Φ true → WR X m H0 H ρ G (Mx X m H0 G ρM M D) thn) (hf : Φ false → WR X m H0 H ρ G (Mx X m H0 G ρM M D) els)
    (k : ∀ x H1, M x H1 → Ek m H0 H1 → Mok m H1 → WR X m H0 H1 (ρM x) G D rest) : WR X m H0 H ρ G D (.If c thn els pos :: rest) := fun σ H1 at_ =>
  ⟨_, Evl.pss_cut (ps_if pt_r pss_r pss_r) pss_r, fun σ H => ∃ x, Tn X m H0 G (fun _ => ρM x) (fun _ => M x) 0 σ H, hc σ H1 at_ _ fun b H2 φ e => by
    cases b with
    | true => exact iteT (ht φ σ H2 (at_.go e))
    | false => exact iteF (hf φ σ H2 (at_.go e)), fun σ' H' ⟨x, hM, e0, mo, en⟩ => k x H' hM e0 mo σ' H' ⟨.refl _, e0, mo, en⟩⟩
theorem wr_meetX {α : Type} {ρM : α → Ro} {M : α → Hp → Prop} (x : α) (hM : ∀ H1, Ek m H H1 → Mok m H1 → M x H1) (s : Sub (ρM x) ρ) : WR X m H0 H ρ G (Mx X m H0 G ρM M D) [] := fun σ H1 at_ =>
  ⟨_, pss_nil, x, hM H1 at_.ek at_.mo, at_.ek0, at_.mo, at_.en.sub s⟩
theorem axl_n {K : PySem.W.Frag} {Hs : Hp} {dss : List (List I)} : ∀ {vs : List V}, AxL K m H0 Hs H vs (dss.map A.n) → vs.length = dss.length ∧ ∀ (j : Nat) v, vs[j]? = some v → ∃ l ds, v = .ref l ∧ dss[j]? = some ds ∧ Own m K H l ds := by
  induction dss with
  | nil => intro vs h; cases h; exact ⟨rfl, fun j v e => by simp at e⟩
  | cons d r ih =>
    intro vs h
    cases h with
    | cons h t =>
      obtain ⟨h1, h2⟩ := ih t
      refine ⟨by simp [h1], fun j v e => ?_⟩
      cases j with
      | zero =>
        obtain ⟨l, rfl, _, o⟩ := h
        simp at e; subst e
        exact ⟨l, d, rfl, rfl, o⟩
      | succ j => simp at e; obtain ⟨l, ds, q1, q2, q3⟩ := h2 j v e; exact ⟨l, ds, q1, by simpa using q2, q3⟩
/-- for x in [list, list, ..] -/
theorem wr_forLL {dss : List (List I)} (i : Nat) {x : Str} {es : List Expr} {px pL : Pos} {body : List Stmt} (hN : X.N.Nodup) (hit : JA X m H0 H ρ G es (Eq (dss.map A.n))) (R : Ro) (hc : X.calm = true) (h0s : Sub R ρ) (hl : dss.length ≤ 1000)
    (turn : ∀ j l ds H1 (Iv : Nat → Hp → Prop), dss[j]? = some ds → Ek m H H1 → Ek m H0 H1 → Mok m H1 → Own m X.K H1 l ds → (∀ H', Ek m H1 H' → Iv (j + 1) H') → WR X m H0 H1 (R.set i (some (.r (.ref l)))) G (Lp X m H0 G (fun _ => R) Iv (j + 1) (Dn X rest D)) body)
    (done : ∀ H1, Ek m H H1 → Ek m H0 H1 → Mok m H1 → WR X m H0 H1 R G D rest)
    (hp : PassesOwn (model X.prog X.w) X.A X.env X.xe := by exact PassesOwn.never) (hs : ∀ x, foldedSetIterable (.List es pL) X.env x = pure x := by intro _; rfl)
    (hi : X.N[i]? = some x := by rfl) (hx : Loc X.env.scope x := by first | exact Or.inl rfl | exact Or.inr rfl) (hf : X.fn x = true ∨ X.env.scope.names.lookup x = some .local := by first | exact .inl rfl | exact .inr rfl) : WR X m H0 H ρ G D (.For (.Name x px) (.List es pL) body [] pos :: rest) := fun σ H1 at_ =>
  ws_cons (ps_for hp hc (pi_list pe_r) (pg_name hN hi hx hf) pss_r hs) (⟨_, pe_lst pa_r, hit σ H1 at_ _ fun as vs H2 φ e ax => by
    subst φ
    obtain ⟨vl, va⟩ := axl_n ax
    have at2 := at_.go e
    refine ⟨by rw [vl]; exact Nat.le_trans hl (by decide), fun p hp => ?_⟩
    have nw : Ek m H2 (upd H2 p (.lst vs)) := Ek.new at2.mo hp
    have at3 := at2.go nw
    have np : m ≠ some p := at2.mo.ne hp
    refine ⟨p, rfl, ⟨vs, SqL.of upd_same⟩, for_list (K := X.K) (a := p) (xs := vs) (Tn X m H0 G (fun _ => R) (fun _ H' => Ek m (upd H2 p (.lst vs)) H')) ⟨.refl _, at3.ek0, at3.mo, at3.en.sub h0s⟩ (fun i σ' H' _ hh => SqL.of ((hh.1 p _ upd_same).1 np)) ?_ ?_⟩
    · intro j v σ' H' hv ⟨hI, ek0, mo, en⟩
      obtain ⟨l, ds, rfl, hd, o⟩ := va j v hv
      exact turn j l ds H' _ hd (at3.ek.trans hI) ek0 mo ((o.ek nw at2.mo).ek hI at3.mo) (fun H'' e'' => hI.trans e'') _ H' ⟨.refl _, ek0, mo, en.set i (a := .r (.ref l)) rfl rfl⟩
    · intro σ' H' ⟨hI, ek0, mo, en⟩
      exact done H' (at3.ek.trans hI) ek0 mo σ' H' ⟨.refl _, ek0, mo, en⟩⟩)
end
end K38
end
section
/-! walks: the law's check of the answers and of one pair of grades -/
namespace K38
open PySem L2
section
variable {P : Program} {w : World} {K : PySem.W.Frag} {mg : Str → Option Value} {base : Heap} {C : Addr}
theorem opn_swap (T : List Tk) (o : Str) (ks : List Str) : opn T (o :: ks) = opn T (ks ++ [o]) := by
  unfold opn
  congr 1
  funext t
  unfold cc
  congr 1 <;> exact decide_eq_decide.mpr (by simp [or_comm])
abbrev sp_ra (K : PySem.W.Frag) (C : Addr) : Sp := spOf K (fun x H => Pat K C H x.1.1 x.1.2.1 x.1.2.2 ∧ WF x.1.2.2 ∧ ∃ m, x.1.2.2[x.2.1]? = some m ∧ m.1 = x.2.2) (fun x : PX × Nat × Bool => [.r (.ref x.1.1), .i (.int (x.2.1 : Nat)), .b ((sc x.1.2.2 x.2.1).map eT), .i (.str (othS x.2.2)), .i (.str (ownE x.2.2))]) (fun x a => .i (.bl true) = a)
theorem ok_ra (c1 : Cal P w K mg base 3 "is_open" ["pattern", "index", "keys"] (sp_open K C)) (c2 : Cal P w K mg base 3 "can_forge" ["pattern", "index", "keys"] (sp_forge K C)) (c3 : Cal P w K mg base 1 "_law_open" ["_law_secrets_here", "_law_keys"] (sp_lop K)) (c4 : Cal P w K mg base 1 "_law_says" ["_law_actual", "_law_expected"] (sp_says K))
    (B : Bi w K mg C) (D : Dh K mg "_law_right_answers" s__law_right_answers) : Cal P w K mg base 4 "_law_right_answers" ["_law_pattern", "_law_index", "_law_secrets_here", "_law_receiver", "_law_own"] (sp_ra K C) := by
  refine cal_mk D sc__law_right_answers (fun _ _ _ _ _ _ us hl => match us, hl with | [_, _, _, _, _], _ => rfl) (fun _ => rfl) (fun x a h => ?_) fun x f cdv Ar outer s H E Dd hr hp hD hN => ?_
  · simp at h; rcases h with h | h | h | h | h <;> (subst h; rfl)
  · obtain ⟨⟨p, b, ms⟩, i, z⟩ := x
    obtain ⟨hP, hW, mm, hm, hz⟩ : Pat K C H p b ms ∧ WF ms ∧ ∃ m, ms[i]? = some m ∧ m.1 = z := hp
    have hi : i < ms.length := (List.getElem?_eq_some_iff.mp hm).1
    have hT : ∀ t ∈ sc ms i, t.sec = true := fun t ht => secsOf_sec ht
    have k0 : ∀ H, Mok none H := Mok.none
    have nd := sc__law_right_answers.nd
    generalize hTT : sc ms i = T at hT
    let kss : List (List Str) := [[], [othS z], ["os", "as"]]
    refine wr_forLL (dss := kss.map fun ks => ks.map I.str) 5 nd (ja_cons (j_lst (ds := []) ja_nil) (ja_cons (j_lst (ds := [.str (othS z)]) (ja_cons (j_v 3) ja_nil)) (ja_cons (j_lst (ds := [.str "os", .str "as"]) (ja_cons j_str (ja_cons j_str ja_nil))) ja_nil)))
      [some (.r (.ref p)), some (.i (.int (i : Nat))), some (.b (T.map eT)), some (.i (.str (othS z))), some (.i (.str (ownE z))), none] rfl (Sub.refl _) (by show 3 ≤ 1000; decide) ?_ ?_
    · intro j l ds H1 Iv hd e1 e01 _ o hI
      rw [List.getElem?_map] at hd
      cases hk : kss[j]? with
      | none => rw [hk] at hd; cases hd
      | some ks =>
        rw [hk] at hd
        cases hd
        have lk : ks.length ≤ 2 := by
          match j, hk with
          | 0, hk => cases hk; decide
          | 1, hk => cases hk; show 1 ≤ 2; decide
          | 2, hk => cases hk; decide
          | j + 3, hk => simp [kss] at hk
        refine wr_if (jt_not (p := true) (jt_of (j_call c4 (hr.mono (by decide)) (k0 _) (bs := [.i (.bl (opn T ks)), .i (.bl (opn T ks))]) (ja_cons
            (j_call c1 (hr.mono (by decide)) (k0 _) (bs := [.r (.ref p), .i (.int (i : Nat)), .n (ks.map I.str)]) (ja_cons (j_v 0) (ja_cons (j_v 1) (ja_cons (j_list (k0 _) B.list (J.sk (j_own (j_v 5) o (k0 _)) .l)) ja_nil))) ((p, b, ms), i, ks) rfl (fun H2 e2 e02 => ⟨hP.ek e02 (k0 _), hW, hi⟩) (fun a h => ⟨by subst h; rfl, by rw [← hTT]; exact h⟩))
            (ja_cons (j_call c3 (hr.mono (by decide)) (k0 _) (bs := [.b (T.map eT), .l (ks.map I.str)]) (ja_cons (j_v 2) (ja_cons (j_own (j_v 5) o (k0 _)) ja_nil)) (T, ks) rfl (fun _ _ _ => hT) (fun a h => ⟨by subst h; rfl, h⟩)) ja_nil)) (opn T ks, opn T ks) rfl (fun _ _ _ => trivial) (fun a h => ⟨by subst h; rfl, by rw [← h]; simp⟩)))) (fun h => nomatch h) (fun _ => wr_go ?_)
        refine wr_if (jt_not (p := true) (jt_of (j_call c4 (hr.mono (by decide)) (k0 _) (bs := [.i (.bl (opn T (ks ++ [ownE z]))), .i (.bl (opn T (ks ++ [ownE z])))]) (ja_cons
            (j_call c2 (hr.mono (by decide)) (k0 _) (bs := [.r (.ref p), .i (.int (i : Nat)), .n (ks.map I.str)]) (ja_cons (j_v 0) (ja_cons (j_v 1) (ja_cons (j_list (k0 _) B.list (J.sk (j_own (j_v 5) o (k0 _)) .l)) ja_nil))) ((p, b, ms), (i, z), ks) rfl (fun H2 e2 e02 => ⟨hP.ek e02 (k0 _), hW, by show ks.length ≤ 10; omega, mm, hm, hz⟩) (fun a h => ⟨by subst h; rfl, by rw [← opn_swap, ← hTT]; exact h⟩))
            (ja_cons (j_call c3 (hr.mono (by decide)) (k0 _) (bs := [.b (T.map eT), .n ((ks ++ [ownE z]).map I.str)]) (ja_cons (j_v 2) (ja_cons ((j_catL (ds := ks.map I.str) (es := [.str (ownE z)]) (k0 _) (j_own (j_v 5) o (k0 _)) .l (j_lst (ds := [.str (ownE z)]) (ja_cons (j_v 4) ja_nil)) .n (by rw [List.length_map]; show ks.length + 1 ≤ 1000; omega)).imp (fun a h => by rw [← h, List.map_append]; rfl)) ja_nil)) (T, ks ++ [ownE z]) rfl (fun _ _ _ => hT) (fun a h => ⟨by subst h; rfl, h⟩)) ja_nil)) (opn T (ks ++ [ownE z]), opn T (ks ++ [ownE z])) rfl (fun _ _ _ => trivial) (fun a h => ⟨by subst h; rfl, by rw [← h]; simp⟩)))) (fun h => nomatch h) (fun _ => wr_go ?_)
        exact wr_next (fun H2 e2 _ => hI H2 e2) (.keep (.keep (.keep (.keep (.keep (.drop .nil))))))
    · intro H1 e1 e01 _
      exact wr_ret (k0 _) j_bl fun a v H2 φ e _ ax => hD a v H2 φ e ax
/-- the conditions on one pair of grades -/
def usesL (z : Bool) (t : Tk) : Bool := decide ((if z then t.lo else t.la) = .s)
structure RG (z : Bool) (T : List Tk) (s d k : Int) : Prop where
  h1 : decide (s = 0) = opn T [ownE z]
  h2 : decide (s = 2) = !opn T [ownE z, othS z]
  h3 : decide (d = 0) = opn T []
  h4 : decide (d = 2) = (!opn T [] && opn T [othS z])
  h5 : (!decide (d ∈ ([0, 2] : List Int)) && opn T ["os", "as"]) = false
  h6 : decide (3 ≤ d) = (decide (Tk.ee ∈ T) && decide (0 < (T.filter (usesL z)).length))
  h7 : (decide (d < 3) || decide (d = 3 + k)) = true
abbrev GX := Bool × List Tk × (Int × Int) × Int
abbrev sp_rg (K : PySem.W.Frag) : Sp := spOf K (fun x _ => (∀ t ∈ x.2.1, t.sec = true) ∧ x.2.1.length ≤ 900 ∧ RG x.1 x.2.1 x.2.2.1.1 x.2.2.1.2 x.2.2.2) (fun x : GX => [.i (.bl x.1), .b (x.2.1.map eT), .i (eP x.2.2.1), .i (.int x.2.2.2)]) (fun x a => .i (.bl true) = a)
theorem la_s (z : Bool) (t : Tk) (h : t.sec = true) : ∃ c, atI t.z.cps.toList (zI (!z)) = some c ∧ decide ((⟨#[c]⟩ : Str) = "s") = usesL z t := by
  cases z <;> cases t <;> first | exact ⟨_, rfl, by decide +kernel⟩ | cases h
theorem ok_rg (B : Bi w K mg C) (c3 : Cal P w K mg base 1 "_law_open" ["_law_secrets_here", "_law_keys"] (sp_lop K)) (D : Dh K mg "_law_right_grades" s__law_right_grades) : Cal P w K mg base 2 "_law_right_grades" ["_law_answers", "_law_secrets_here", "_law_told", "_law_known"] (sp_rg K) := by
  refine cal_mk D sc__law_right_grades (fun _ _ _ _ _ _ us hl => match us, hl with | [_, _, _, _], _ => rfl) (fun _ => rfl) (fun x a h => ?_) fun x f cdv Ar outer s0 H E Dd hr hp hD hN => ?_
  · simp at h; rcases h with h | h | h | h <;> (subst h; rfl)
  · obtain ⟨z, T, ⟨s, d⟩, k⟩ := x
    obtain ⟨hT, hL, hR⟩ : (∀ t ∈ T, t.sec = true) ∧ T.length ≤ 900 ∧ RG z T s d k := hp
    have k0 : ∀ H, Mok none H := Mok.none
    have nd := sc__law_right_grades.nd
    refine wr_set 4 nd (Φ := Eq (.i (.str (othS z)))) ((j_two (z := z) (s0 := "as") (s1 := "os") (k0 _) (j_intB B.int (j_v 0))).is (by cases z <;> rfl)) fun a φ => ⟨by subst φ; rfl, ?_⟩
    subst φ
    refine wr_set 5 nd (Φ := Eq (.i (.str (ownE z)))) ((j_two (z := z) (s0 := "oe") (s1 := "ae") (k0 _) (j_intB B.int (j_v 0))).is (by cases z <;> rfl)) fun a φ => ⟨by subst φ; rfl, ?_⟩
    subst φ
    refine wr_asg (d := eP (s, d)) (j_v 2) (jg_tup rfl (jgs_cons (jg_name 6 nd) (jgs_cons (jg_name 7 nd) jgs_nil))) ?_
    refine wr_if (jt_or (p := false) (q := false)
        ((c_neB (i := decide (s = 0)) (j := opn T [ownE z]) ((c_eqI (j_v 6) j_int).j) (j_call c3 (hr.mono (by decide)) (k0 _) (bs := [.b (T.map eT), .n [.str (ownE z)]]) (ja_cons (j_v 1) (ja_cons (j_lst (ds := [.str (ownE z)]) (ja_cons (j_v 5) ja_nil)) ja_nil)) (T, [ownE z]) rfl (fun _ _ _ => hT) (fun a h => ⟨by subst h; rfl, h⟩))).is (by rw [hR.h1]; simp)).t fun _ =>
        ((c_neB (i := decide (s = 2)) (j := !opn T [ownE z, othS z]) ((c_eqI (j_v 6) j_int).j) (j_not (j_call c3 (hr.mono (by decide)) (k0 _) (bs := [.b (T.map eT), .n [.str (ownE z), .str (othS z)]]) (ja_cons (j_v 1) (ja_cons (j_lst (ds := [.str (ownE z), .str (othS z)]) (ja_cons (j_v 5) (ja_cons (j_v 4) ja_nil))) ja_nil)) (T, [ownE z, othS z]) rfl (fun _ _ _ => hT) (fun a h => ⟨by subst h; rfl, h⟩)))).is (by rw [hR.h2]; simp)).t) (fun h => nomatch h) (fun _ => wr_go ?_)
    refine wr_set 8 nd (j_call c3 (hr.mono (by decide)) (k0 _) (bs := [.b (T.map eT), .n []]) (Φ := Eq (.i (.bl (opn T [])))) (ja_cons (j_v 1) (ja_cons (j_lst (ds := []) ja_nil) ja_nil)) (T, []) rfl (fun _ _ _ => hT) (fun a h => ⟨by subst h; rfl, h⟩)) fun a φ => ⟨by subst φ; rfl, ?_⟩
    subst φ
    refine wr_if ((c_neB (i := decide (d = 0)) (j := opn T []) ((c_eqI (j_v 7) j_int).j) (j_v 8)).is (q := false) (by rw [hR.h3]; simp)).t (fun h => nomatch h) (fun _ => wr_go ?_)
    refine wr_if ((c_neB (i := decide (d = 2)) (j := !opn T [] && opn T [othS z]) ((c_eqI (j_v 7) j_int).j) (j_and2 (j_not (j_v 8)) fun _ => j_call c3 (hr.mono (by decide)) (k0 _) (bs := [.b (T.map eT), .n [.str (othS z)]]) (ja_cons (j_v 1) (ja_cons (j_lst (ds := [.str (othS z)]) (ja_cons (j_v 4) ja_nil)) ja_nil)) (T, [othS z]) rfl (fun _ _ _ => hT) (fun a h => ⟨by subst h; rfl, h⟩))).is (q := false) (by rw [hR.h4]; simp)).t (fun h => nomatch h) (fun _ => wr_go ?_)
    refine wr_if (JT.is (q := false) (jt_and (p := !decide (d ∈ ([0, 2] : List Int))) (q := opn T ["os", "as"]) (c_niI (k0 _) (j_v 7) (J.sk (j_tup (ds := [.int 0, .int 2]) (ja_cons j_int (ja_cons j_int ja_nil))) .t)).t fun _ => jt_of (j_call c3 (hr.mono (by decide)) (k0 _) (bs := [.b (T.map eT), .n [.str "os", .str "as"]]) (ja_cons (j_v 1) (ja_cons (j_lst (ds := [.str "os", .str "as"]) (ja_cons j_str (ja_cons j_str ja_nil))) ja_nil)) (T, ["os", "as"]) rfl (fun _ _ _ => hT) (fun a h => ⟨by subst h; rfl, h⟩))) hR.h5) (fun h => nomatch h) (fun _ => wr_go ?_)
    refine wr_set 10 nd (Φ := Eq (.i (.bl (decide (0 < (T.filter (usesL z)).length))))) (((c_gt (j_lenM (l := T.filter (usesL z)) (f := fun _ => .int 0) (k0 _) B.len (J.sk (j_lc1 (own := [("_law_token", 9)]) nd rfl (pi_list pe_r) (lcm_L T eT (usesL z) (fun _ => .int 0) (k0 _) (by omega) ((j_v (a := .b (T.map eT)) 1).imp (fun a φ => by subst φ; exact .b))
            (fun t ht => Lt.sel (fun s Hb C cl fp => jgw_name 9 nd (by decide)) (fun s Hb C cl fp => by
              obtain ⟨c, hc1, hc2⟩ := la_s z t (hT t ht)
              exact ((c_eqS (j_ixS (j_v (a := .i (eT t)) 9) (j_intB B.int (j_not (j_v 0))) (lo_z t (hT t ht)).1 hc1) j_str).is hc2).t) (fun _ s Hb C cl fp => j_int.imp fun a φ => ⟨_, rfl, φ⟩)))
            (fun s Hb C cl fp => pts_b s Hb C cl fp) (N := N__law_right_grades) (so := defScope s__law_right_grades) (by decide +kernel)) .n)) j_int).is (q := decide (0 < (T.filter (usesL z)).length)) (decide_eq_decide.mpr (by omega))).j) fun a φ => ⟨by subst φ; rfl, ?_⟩
    subst φ
    refine wr_if ((c_neB (i := decide (3 ≤ d)) (j := decide (Tk.ee ∈ T) && decide (0 < (T.filter (usesL z)).length)) ((c_ge (j_v 7) j_int).j) (j_and2 (((c_inS (x := "ee") (xs := T.map Tk.z) (k0 _) j_str ((j_v (a := .b (T.map eT)) 1).imp (fun a φ => by subst φ; rw [eT_map]; exact .b))).is (decide_eq_decide.mpr (mem_z .ee T))).j) fun _ => j_v 10)).is (q := false) (by rw [hR.h6]; simp)).t (fun h => nomatch h) (fun _ => wr_go ?_)
    refine wr_ret (k0 _) (j_or2 (p := decide (d < 3)) (q := decide (d = 3 + k)) (c_lt (j_v 7) j_int).j fun _ => (c_eqI (j_v 7) (j_add j_int (j_v 3))).j) fun a v H2 φ e _ ax => hD a v H2 (by rw [← φ, hR.h7]) e ax
end
end K38
end
section
/-! walks: the law's check of the grades -/
namespace K38
open PySem L2
section
variable {P : Program} {w : World} {K : PySem.W.Frag} {mg : Str → Option Value} {base : Heap} {C : Addr}
/-- every pair of grades is as the law asks -/
def GrOk (ms : List Msg) : Prop := ∀ (i : Nat) z, (sds ms)[i]? = some z → ((0 ≤ (tld ms i z).1 ∧ (tld ms i z).1 ≤ 2) ∧ 0 ≤ (tld ms i z).2 ∧ (tld ms i z).2 ≤ 5) ∧ RG z (sc ms i) (tld ms i z).1 (tld ms i z).2 (la ms i (!z)).1 ∧ (la ms i z).1 ≤ (tld ms i z).1 ∧ (la ms i z).2 ≤ (tld ms i z).2
theorem told_at (ms : List Msg) (i : Nat) (z : Bool) (h : (sds ms)[i]? = some z) : atI (toldL ms) (i : Int) = some (eP (tld ms i z)) := by
  have hi : i < (sds ms).length := (List.getElem?_eq_some_iff.mp h).1
  have e := atI_map (i := i) (tdAt ms) (l := List.range (sds ms).length) (x := i) (List.getElem?_range hi)
  have t : tdAt ms i = eP (tld ms i z) := by unfold tdAt; rw [h]
  rw [t] at e
  exact e
theorem len_told (ms : List Msg) : (toldL ms).length = (sds ms).length := by unfold toldL; rw [List.length_map, List.length_range]
theorem la_step (ms : List Msg) (i : Nat) (z : Bool) (h : (sds ms)[i]? = some z) : la ms (i + 1) false = (if z then la ms i false else tld ms i z) ∧ la ms (i + 1) true = (if z then tld ms i z else la ms i true) := by
  have e : ∀ b, la ms (i + 1) b = if (sds ms)[i]? = some b then tld ms i b else la ms i b := fun b => rfl
  cases z with
  | false => exact ⟨by rw [e, if_pos h]; rfl, by rw [e, if_neg (by rw [h]; decide)]; rfl⟩
  | true => exact ⟨by rw [e, if_neg (by rw [h]; decide)]; rfl, by rw [e, if_pos h]; rfl⟩
abbrev sp_rp (K : PySem.W.Frag) (C : Addr) : Sp := spOf K (fun x H => Pat K C H x.1 x.2.1 x.2.2 ∧ WF x.2.2 ∧ GrOk x.2.2) (fun x : PX => [.r (.ref x.1), .i (eMs x.2.2)]) (fun x a => .i (.bl true) = a)
structure RpI (K : PySem.W.Frag) (lt ls ld : Addr) (ms : List Msg) (i : Nat) (H' : Hp) : Prop where
  t : Own none K H' lt (toldL ms)
  s : Own none K H' ls ((sds ms).map eD)
  d : Od none K H' ld (eP (la ms i false)) (eP (la ms i true))
  n1 : lt ≠ ld
  n2 : ls ≠ ld
theorem RpI.ek {lt ls ld : Addr} {ms : List Msg} {i : Nat} {H H' : Hp} (g : RpI K lt ls ld ms i H) (e : Ek none H H') : RpI K lt ls ld ms i H' := ⟨g.t.ek e (Mok.none _), g.s.ek e (Mok.none _), g.d.ek e (Mok.none _), g.n1, g.n2⟩
theorem ok_rp (c1 : Cal P w K mg base 4 "grades" ["pattern"] (sp_grades K C)) (c2 : Cal P w K mg base 1 "_law_secrets" ["_law_messages_here"] (sp_secs K)) (c3 : Cal P w K mg base 2 "_law_is_pair" ["_law_actual"] (sp_pair K))
    (c4 : Cal P w K mg base 2 "_law_right_grades" ["_law_answers", "_law_secrets_here", "_law_told", "_law_known"] (sp_rg K)) (c5 : Cal P w K mg base 4 "_law_right_answers" ["_law_pattern", "_law_index", "_law_secrets_here", "_law_receiver", "_law_own"] (sp_ra K C))
    (B : Bi w K mg C) (D : Dh K mg "_law_right_pattern" s__law_right_pattern) : Cal P w K mg base 5 "_law_right_pattern" ["_law_pattern", "_law_messages_here"] (sp_rp K C) := by
  refine cal_mk D sc__law_right_pattern (fun _ _ _ _ _ _ us hl => match us, hl with | [_, _], _ => rfl) (fun _ => rfl) (fun x a h => ?_) fun x f cdv Ar outer s0 H E Dd hr hp hD hN => ?_
  · simp at h; rcases h with h | h <;> (subst h; rfl)
  · obtain ⟨p, b, ms⟩ := x
    obtain ⟨hP, hW, hG⟩ : Pat K C H p b ms ∧ WF ms ∧ GrOk ms := hp
    have k0 : ∀ H, Mok none H := Mok.none
    have nd := sc__law_right_pattern.nd
    have few := hW.few
    have fewS := hW.few_sds
    have tl := trans_len ms
    refine wr_setLc 3 (own := [("_law_message", 2)]) (ds := (ms.map (·.1)).map eD) nd rfl (pi_tup pe_r) (lc_eq (by rw [List.filter_eq_self.mpr (fun _ _ => rfl), List.map_map]; rfl) (lcm_T ms eM (fun _ => true) (fun m => eD m.1) (by omega) (j_v (a := .i (eMs ms)) 1) (fun m _ => Lt.all (fun s Hb C cl fp => jgw_name 2 nd (by decide)) (fun s Hb C cl fp => (j_ixT (k0 _) (j_v (a := .i (eM m)) 2) j_int (d := eD m.1) rfl).imp fun a φ => ⟨_, rfl, φ⟩)))) (fun s Hb C cl fp => pts_nil) (N := N__law_right_pattern) (so := defScope s__law_right_pattern) (by decide +kernel) (fun l3 H1 n3 e1 _ e01 o3 => ?_) (k0 _) (sw_true rfl rfl rfl (by decide +kernel))
    refine wr_setN 4 nd (j_lst (ds := [eD false, eD true]) (ja_cons j_str (ja_cons j_str ja_nil))) (fun l4 H2 n4 e2 _ e02 o4 => ?_) (k0 _)
    have o3 := o3.ek e2 (k0 _)
    refine wr_ifX (α := Addr) (fun le => [some (.r (.ref p)), some (.i (eMs ms)), none, some (.r (.ref l3)), some (.r (.ref le)), none, none, none, none, none, none, none, none]) (fun le H' => Own none K H' l3 ((ms.map (·.1)).map eD) ∧ Own none K H' le ((trans ms).map eD))
      ((c_eqI (i := (ms.length : Nat)) (j_lenM (k0 _) B.len (J.sk (j_v (a := .i (eMs ms)) 1) .t)) j_int).is (q := decide (ms.length = 1)) (decide_eq_decide.mpr (by omega))).t (fun hb => ?_) (fun hb => ?_) (fun le H3 ⟨o3, o4⟩ e03 _ => ?_)
    · have hb : ms.length = 1 := of_decide_eq_true hb
      obtain ⟨m0, hm0⟩ : ∃ m, ms = [m] := List.length_eq_one_iff.mp hb
      have ht : trans ms = [m0.1] := by rw [hm0]; rfl
      refine wr_setN 4 nd (j_lst (ds := [eD m0.1]) (ja_cons (j_ixT (k0 _) (j_ixT (k0 _) (j_v (a := .i (eMs ms)) 1) j_int (d := eM m0) (by rw [hm0]; rfl)) j_int rfl) ja_nil)) (fun l5 H3 n5 e3 _ e03 o5 => ?_) (k0 _)
      exact wr_meetX l5 (fun H4 e4 _ => ⟨(o3.ek e3 (k0 _)).ek e4 (k0 _), by rw [ht]; exact o5.ek e4 (k0 _)⟩) (Sub.refl _)
    · have hb : ¬ ms.length = 1 := of_decide_eq_false hb
      have ht : trans ms = [false, true] := by unfold trans; rw [if_neg hb]
      exact wr_meetX l4 (fun H4 e4 _ => ⟨o3.ek e4 (k0 _), by rw [ht]; exact o4.ek e4 (k0 _)⟩) (Sub.refl _)
    · refine wr_setN 5 nd (j_call c1 (hr.mono (by decide)) (k0 _) (ja_cons (j_v 0) ja_nil) (p, b, ms) rfl (fun H1 e e' => ⟨hP.ek e' (k0 _), hW⟩) (fun a h => ⟨by subst h; rfl, h⟩)) (fun lt H4 nt e4 _ e04 ot => ?_) (k0 _)
      have ot : Own none K H4 lt (toldL ms) := ot
      have o3 := o3.ek e4 (k0 _)
      have o4 := o4.ek e4 (k0 _)
      have lls : (sds ms).length = ms.length + (trans ms).length := by unfold sds; rw [List.length_append, List.length_map]
      refine wr_if (jt_or (p := false) (q := false) (jt_not (p := true) (jt_of (j_isi (T := "list") (N2 := "list") B.isi B.list (by decide +kernel) (j_own (j_v 5) ot (k0 _)) (by decide +kernel) (fun Hs H1 v a1 _ φ Hs' ax => by subst φ; obtain ⟨q, rfl, _, xs, hq, _⟩ := ax; exact .base (.lst hq))))) fun _ =>
        ((c_neI (i := ((sds ms).length : Nat)) (j := ((ms.length : Nat) : Int) + ((trans ms).length : Nat)) ((j_len (k0 _) B.len (J.sk (j_own (j_v 5) ot (k0 _)) .l)).is (by rw [len_told])) (j_add ((j_len (k0 _) B.len (J.sk (j_own (j_v 3) o3 (k0 _)) .l)).is (by rw [List.length_map, List.length_map])) ((j_len (k0 _) B.len (J.sk (j_own (j_v 4) o4 (k0 _)) .l)).is (by rw [List.length_map])))).is (by rw [lls]; simp)).t) (fun h => nomatch h) (fun _ => wr_go ?_)
      refine wr_setD 6 nd (f0 := eP (0, 0)) (f1 := eP (0, 0)) (j_tup (ds := [.int 0, .int 0]) (ja_cons j_int (ja_cons j_int ja_nil))) (j_tup (ds := [.int 0, .int 0]) (ja_cons j_int (ja_cons j_int ja_nil))) (k0 _) fun ld H5 nld e5 _ e05 od => ?_
      have o3 := o3.ek e5 (k0 _)
      have o4 := o4.ek e5 (k0 _)
      have ntd : lt ≠ ld := (Ow.ne ot nld).symm
      have ot := ot.ek e5 (k0 _)
      refine wr_setN 3 nd (ds := (sds ms).map eD) ((j_catL (k0 _) (j_own (j_v 3) o3 (k0 _)) .l (j_own (j_v 4) o4 (k0 _)) .l (by rw [List.length_map, List.length_map, List.length_map]; omega)).imp (fun a h => by rw [← h]; unfold sds; rw [List.map_append])) (fun ls H6 ns e6 _ e06 os => ?_) (k0 _)
      have ot := ot.ek e6 (k0 _)
      have nsd : ls ≠ ld := Od.ne od ns
      have od := od.ek e6 (k0 _)
      refine wr_forR (P := fun n => (((sds ms).length : Nat) : Int) = n) B.range (JI.n (j_lenM (k0 _) B.len (rd_own (j_v 3) os)) rfl) (fun n h => by omega) (fun _ => [some (.r (.ref p)), some (.i (eMs ms)), none, some (.r (.ref ls)), none, some (.r (.ref lt)), some (.r (.ref ld)), none, none, none, none, none, none])
        (RpI K lt ls ld ms) rfl (.keep (.keep (.keep (.keep (.drop (.keep (.keep (.keep (.keep (.keep (.keep (.keep (.keep .nil))))))))))))) (fun H7 e7 _ => RpI.ek (H := H6) ⟨ot, os, od, ntd, nsd⟩ e7) ?_ ?_
      · intro n i H7 hn hi gI e07 _
        have hi : i < (sds ms).length := by omega
        obtain ⟨z, hz⟩ : ∃ z, (sds ms)[i]? = some z := ⟨_, List.getElem?_eq_getElem hi⟩
        obtain ⟨gp, gr, g1, g2⟩ := hG i z hz
        refine ⟨_, jg_name 7 nd, ?_⟩
        have sAt : ∀ {ρ : Ro} {G : Gh} {X : Cx} {a b : Expr} {pos : Pos} {H' : Hp} (hs : PlainIx b), X.K = K → J X none H H' ρ G a (Eq (.r (.ref ls))) → Own none X.K H' ls ((sds ms).map eD) → JI X none H H' ρ G b (.int (i : Nat)) → JI X none H H' ρ G (.Subscript a b pos) (.str (sdS z)) :=
          fun hs hK ha o hb => j_ix (d := eD z) (k0 _) (rd_own ha o) hb (atI_map (i := i) eD hz) hs
        refine wr_set 8 nd (Φ := Eq (.i (.bl z))) ((c_eqS (i := sdS z) (sAt (fun _ _ => rfl) rfl (j_v 3) gI.s (j_v 7)) j_str).is (sdS_a z)).j fun a φ => ⟨by subst φ; rfl, ?_⟩
        subst φ
        have lT : (sc ms i).length ≤ 240 := hW.len_secs (i + 1)
        refine wr_setN 9 nd (ds := (sc ms i).map eT) (j_call c2 (hr.mono (by decide)) (k0 _) (ja_cons (j_takeT eM (k := i + 1) (j_v 1) (j_succ (j_v 7))) ja_nil) (ms.take (i + 1)) rfl (fun _ _ _ => ⟨Nat.le_trans (len_take_le ms _) few, fun m hm => (hW.toks m (List.mem_of_mem_take hm)).2⟩) (fun a h => ⟨by subst h; rfl, h⟩)) (fun lc H8 nc e8 _ e08 oc => ?_) (k0 _)
        have nc1 : lc ≠ ld := Od.ne gI.d nc
        have gI := gI.ek e8
        have hT : ∀ t ∈ sc ms i, t.sec = true := fun t ht => secsOf_sec ht
        refine wr_set 10 nd (Φ := Eq (.i (.str (sdS (!z))))) ((j_two (z := z) (s0 := "<-") (s1 := "->") (k0 _) (j_intB B.int (j_v 8))).is (by cases z <;> rfl)) fun a φ => ⟨by subst φ; rfl, ?_⟩
        subst φ
        have tAt : ∀ {ρ : Ro} {G : Gh} {X : Cx} {a b : Expr} {pos : Pos} {H' : Hp} (hs : PlainIx b), J X none H H' ρ G a (Eq (.r (.ref lt))) → Own none X.K H' lt (toldL ms) → JI X none H H' ρ G b (.int (i : Nat)) → JI X none H H' ρ G (.Subscript a b pos) (eP (tld ms i z)) :=
          fun hs ha o hb => j_ix (k0 _) (rd_own ha o) hb (told_at ms i z hz) hs
        have dAt : ∀ (y : Bool), (if y then eP (la ms i true) else eP (la ms i false)) = eP (la ms i y) := fun y => by cases y <;> rfl
        have hu := hr.units
        refine wr_if (jt_or (p := false) (q := false) (jt_not (p := true) (jt_of (j_call c3 (hr.mono (by decide)) (k0 _) (bs := [.i (eP (tld ms i z))]) (ja_cons (tAt (fun _ _ => rfl) (j_v 5) gI.t (j_v 7)) ja_nil) (tld ms i z) rfl (fun _ _ _ => gp) (fun a h => ⟨by subst h; rfl, h⟩)))) fun _ =>
          jt_not (p := true) (jt_of (j_call c4 (hr.mono (by decide)) (k0 _) (bs := [.i (.bl z), .l ((sc ms i).map eT), .i (eP (tld ms i z)), .i (.int (la ms i (!z)).1)]) (ja_cons (j_v 8) (ja_cons (j_own (j_v 9) oc (k0 _)) (ja_cons (tAt (fun _ _ => rfl) (j_v 5) gI.t (j_v 7)) (ja_cons
            (j_ixT (k0 _) ((j_dget (z := !z) (by omega) gI.d (k0 _) (j_v 6) (j_v 10) rfl).is (d' := eP (la ms i (!z))) (dAt _)) j_int (d := .int (la ms i (!z)).1) rfl) ja_nil)))) (z, sc ms i, tld ms i z, (la ms i (!z)).1) rfl (fun _ _ _ => ⟨hT, by show (sc ms i).length ≤ 900; omega, gr⟩) (fun a h => ⟨by subst h; rfl, h⟩)))) (fun h => nomatch h) (fun _ => wr_go ?_)
        refine wr_if (jt_or (p := false) (q := false)
            ((c_lt (i := (tld ms i z).1) (j := (la ms i z).1) (j_ixT (k0 _) (tAt (fun _ _ => rfl) (j_v 5) gI.t (j_v 7)) j_int rfl) (j_ixT (k0 _) ((j_dget (z := z) (by omega) gI.d (k0 _) (j_v 6) (sAt (fun _ _ => rfl) rfl (j_v 3) gI.s (j_v 7)) rfl).is (d' := eP (la ms i z)) (dAt _)) j_int rfl)).is (decide_eq_false (by omega))).t
            fun _ => ((c_lt (i := (tld ms i z).2) (j := (la ms i z).2) (j_ixT (k0 _) (tAt (fun _ _ => rfl) (j_v 5) gI.t (j_v 7)) j_int rfl) (j_ixT (k0 _) ((j_dget (z := z) (by omega) gI.d (k0 _) (j_v 6) (sAt (fun _ _ => rfl) rfl (j_v 3) gI.s (j_v 7)) rfl).is (d' := eP (la ms i z)) (dAt _)) j_int rfl)).is (decide_eq_false (by omega))).t) (fun h => nomatch h) (fun _ => wr_go ?_)
        refine wr_dput (z := z) (k0 _) (by omega) gI.d (Ek.back (k0 _) e04 nld) (k0 _) (tAt (fun _ _ => rfl) (j_v 5) gI.t (j_v 7)) (j_v 6) (sAt (fun _ _ => rfl) rfl (j_v 3) gI.s (j_v 7)) rfl (fun H9 g9 e09 _ o9 => ?_)
        have t9 := g9.own (k0 _) gI.t gI.n1
        have s9 := g9.own (k0 _) gI.s gI.n2
        have c9 := g9.own (k0 _) oc nc1
        obtain ⟨q1, q2⟩ := la_step ms i z hz
        have d9 : Od none K H9 ld (eP (la ms (i + 1) false)) (eP (la ms (i + 1) true)) := by
          rw [q1, q2]; cases z <;> exact o9
        refine wr_set 11 nd (Φ := Eq (.i (.str (othS z)))) ((j_two (z := z) (s0 := "as") (s1 := "os") (k0 _) (j_intB B.int (j_v 8))).is (by cases z <;> rfl)) fun a φ => ⟨by subst φ; rfl, ?_⟩
        subst φ
        refine wr_set 12 nd (Φ := Eq (.i (.str (ownE z)))) ((j_two (z := z) (s0 := "oe") (s1 := "ae") (k0 _) (j_intB B.int (j_v 8))).is (by cases z <;> rfl)) fun a φ => ⟨by subst φ; rfl, ?_⟩
        subst φ
        refine wr_if (JT.is (q := false) (jt_and (p := decide (i < ms.length)) (q := false) ((c_lt (j_v 7) (j_lenM (k0 _) B.len (J.sk (j_v (a := .i (eMs ms)) 1) .t))).is (decide_eq_decide.mpr (by omega))).t fun hlt => jt_not (p := true) (jt_of (j_call c5 (hr.mono (by decide)) (k0 _) (bs := [.r (.ref p), .i (.int (i : Nat)), .l ((sc ms i).map eT), .i (.str (othS z)), .i (.str (ownE z))])
          (ja_cons (j_v 0) (ja_cons (j_v 7) (ja_cons (j_own (j_v 9) c9 (k0 _)) (ja_cons (j_v 11) (ja_cons (j_v 12) ja_nil))))) ((p, b, ms), i, z) rfl (fun H1 e e' => ⟨hP.ek e' (k0 _), hW, by
            have hl : i < ms.length := of_decide_eq_true hlt
            have : (sds ms)[i]? = some (ms[i].1) := by
              unfold sds
              rw [List.getElem?_append_left (by rw [List.length_map]; exact hl), List.getElem?_map, List.getElem?_eq_getElem hl]; rfl
            rw [hz] at this
            exact ⟨ms[i], List.getElem?_eq_getElem hl, (Option.some.inj this).symm⟩⟩) (fun a h => ⟨by subst h; rfl, h⟩)))) (Bool.and_false _)) (fun h => nomatch h) (fun _ => wr_go ?_)
        exact wr_next (fun H10 e10 _ => RpI.ek (H := H9) ⟨t9, s9, d9, gI.n1, gI.n2⟩ e10) (.keep (.keep (.keep (.keep (.keep (.keep (.keep (.drop (.drop (.drop (.drop (.drop (.drop .nil)))))))))))))
      · intro n H7 hn gI e07 _
        exact wr_ret (k0 _) j_bl fun a v H2 φ e _ ax => hD a v H2 φ e ax
end
end K38
end
section
/-! the state: a list of two ints that is written -/
namespace K38
open PySem L2
section
variable {X : Cx} {m : Mo} {H0 H : Hp} {ρ : Ro} {G : Gh} {e a b c : Expr} {pos : Pos} {rest : List Stmt} {D : Ends} {st : Addr}
/-- some datum -/
abbrev JR (X : Cx) (m : Mo) (H0 H : Hp) (ρ : Ro) (G : Gh) (e : Expr) (R : I → Prop) : Prop := J X m H0 H ρ G e (fun x => ∃ d, R d ∧ A.i d = x)
theorem JI.r {d : I} {R : I → Prop} (h : JI X m H0 H ρ G e d) (p : R d) : JR X m H0 H ρ G e R := h.imp fun a q => ⟨d, p, q⟩
theorem JR.imp {R S : I → Prop} (h : JR X m H0 H ρ G e R) (k : ∀ d, R d → S d) : JR X m H0 H ρ G e S := J.imp h fun a ⟨d, r, q⟩ => ⟨d, k d r, q⟩
/-- an int in a range -/
def Rg (n : Int) (d : I) : Prop := ∃ i : Int, (0 ≤ i ∧ i < n) ∧ d = .int i
theorem JR.n {n : Int} (h : JR X m H0 H ρ G e (Rg n)) : JN X m H0 H ρ G e (fun i => 0 ≤ i ∧ i < n) := J.imp h fun a ⟨d, ⟨i, p, q⟩, w⟩ => ⟨i, p, by rw [← w, q]⟩
theorem JN.r {n : Int} {P : Int → Prop} (h : JN X m H0 H ρ G e P) (k : ∀ i, P i → 0 ≤ i ∧ i < n) : JR X m H0 H ρ G e (Rg n) := J.imp h fun a ⟨i, p, w⟩ => ⟨.int i, ⟨i, k i p, rfl⟩, w⟩
/-- state[0], state[1] -/
theorem j_rd {k : Int} {j pk} (hk : k = 0 ∨ k = 1) (ha : J X (some st) H0 H ρ G a (Eq (.r (.ref st)))) : JN X (some st) H0 H ρ G (.Subscript a (.Constant (.int k) j pk) pos) (fun _ => True) :=
  j_bi (fun _ _ p q => pe_ix ix_LT p q (by exact fun _ _ => rfl)) ha (j_int (i := k)) fun σ Hs H1 x y a1 a2 at_ e k0 u u' ax ay Q q => by
    subst u u'
    have ex : x = .ref st := ax
    subst ex
    rw [un_i ay]
    obtain ⟨o, ho, i, j, rfl⟩ := at_.mo st rfl
    rcases hk with rfl | rfl
    · exact .inl ⟨st, _, 0, .int i, rfl, rfl, SqL.of ho, rfl, q _ _ H1 ⟨i, trivial, rfl⟩ (.refl _) (It.int _)⟩
    · exact .inl ⟨st, _, 1, .int j, rfl, rfl, SqL.of ho, rfl, q _ _ H1 ⟨j, trivial, rfl⟩ (.refl _) (It.int _)⟩
theorem ek_st {H : Hp} {o o' : HO} (h : H st = some o) (s' : StL o') : Ek (some st) H (upd H st o') := fun a u e => by
  by_cases c : a = st
  · subst c
    exact ⟨fun n => absurd rfl n, fun _ _ => ⟨o', upd_same, s'⟩⟩
  · exact ⟨fun _ => by rw [upd_ne c]; exact e, fun n _ => absurd (Option.some.inj n).symm c⟩
/-- state[0] = e, state[1] = e -/
theorem wr_st {k : Int} {j pk pos'} {o e : Expr} (hk : k = 0 ∨ k = 1) (he : JN X (some st) H0 H ρ G e (fun _ => True)) (ho : J X (some st) H0 H ρ G o (Eq (.r (.ref st)))) (w : WR X (some st) H0 H ρ G D rest)
    (hs : swapsWithSole [.Subscript o (.Constant (.int k) j pk) pos'] e pos.line X.env = pure false := by rfl) (hw : swappedStores [.Subscript o (.Constant (.int k) j pk) pos'] e X.env = pure none := by rfl)
    (h1 : (assignEach [.Subscript o (.Constant (.int k) j pk) pos'] X.env).map (·.2) = [assign (.Subscript o (.Constant (.int k) j pk) pos') X.env] := by rfl)
    (ha : ∀ v, assign (.Subscript o (.Constant (.int k) j pk) pos') X.env v = (do
      let ov ← holding [v] (eval o X.env)
      let iv ← holding [v, ov] (eval (.Constant (.int k) j pk) X.env)
      standAt pos'
      holding [v, ov, iv] (setItem ov iv v)
      release [v, ov, iv] []) := by intro _; rfl) : WR X (some st) H0 H ρ G D (.Assign [.Subscript o (.Constant (.int k) j pk) pos'] e pos :: rest) := fun σ H1 at_ =>
  ws_cons (ps_asg pe_r (pg_sub pe_r pe_int set_list ha) hs hw h1) (he σ H1 at_ _ fun a1 v H2 ⟨i, _, φ⟩ e1 ax => ho σ H2 (at_.go e1) _ fun a2 x H3 φ2 e2 ay => by
    subst φ φ2
    have ex : x = .ref st := ay
    subst ex
    rw [un_i ax]
    have at3 := (at_.go e1).go e2
    obtain ⟨o', ho', i', j', rfl⟩ := at3.mo st rfl
    rcases hk with rfl | rfl
    · refine ⟨st, _, 0, 0, rfl, rfl, ho', rfl, ?_⟩
      exact w σ _ (at3.go (ek_st ho' ⟨i, j', rfl⟩))
    · refine ⟨st, _, 1, 1, rfl, rfl, ho', rfl, ?_⟩
      exact w σ _ (at3.go (ek_st ho' ⟨i', i, rfl⟩)))
/-! ### promises of a def that writes the state: its first argument -/
def spM (K : PySem.W.Frag) {τ : Type} (pre : τ → Prop) (as : τ → List I) (r : τ → I → Prop) : Sp := fun vs H Q _ =>
  ∃ st x, pre x ∧ Mok (some st) H ∧ AxL K (some st) H H H vs (.r (.ref st) :: (as x).map A.i) ∧ ∀ d v H1, r x d → Ek (some st) H H1 → It K H1 v d → Q v H1
theorem axl_ri {K : PySem.W.Frag} {Hs Hs' H0' : Hp} : ∀ {ds : List I} {vs : List V}, AxL K m H0 Hs H vs (ds.map A.i) → AxL K m H0' Hs' H vs (ds.map A.i)
  | [], _, h => by cases h; exact .nil
  | d :: ds, _, h => by
    cases h with
    | cons h t => exact .cons h (axl_ri t)
theorem axl_re {K : PySem.W.Frag} {Hs Hs' H0' : Hp} {w : V} {ds : List I} {vs : List V} (h : AxL K m H0 Hs H vs (.r w :: ds.map A.i)) : AxL K m H0' Hs' H vs (.r w :: ds.map A.i) := by
  cases h with
  | cons h t => exact .cons h (axl_ri t)
theorem j_callM {τ : Type} {pre : τ → Prop} {as : τ → List I} {r : τ → I → Prop} {k : Nat} {n : Str} {ps : List Str} {es : List Expr} {p : Pos} (c : Cal X.prog X.w X.K X.mg X.base k n ps (spM X.K pre as r)) (hr : Room k X.A)
    (x : τ) (ha : JA X (some st) H0 H ρ G (e :: es) (Eq (.r (.ref st) :: (as x).map A.i))) (hp : pre x)
    (hg : Gl X n := by rfl) (hdb : (n == ("__debug__" : Str)) = false := by decide) (he : starEach (e :: es) X.env = (false, eval e X.env) :: starEach es X.env := by rfl) (hpl : (backTo pos (starEach es X.env)).any (·.1) = false := by rfl) :
    JR X (some st) H0 H ρ G (.Call (.Name n p) (e :: es) [] pos) (r x) := j_call' c hr ha (fun σ Hs H1 vs as' at_ e k φ ax Q q => by
  subst φ
  exact ⟨st, x, hp, at_.mo, axl_re ax, fun d v H2 ra e2 it => q _ v H2 ⟨d, ra, rfl⟩ e2 it⟩) hg hdb he hpl
theorem en_startM {K : PySem.W.Frag} {H : Hp} {N : List Str} {vs : List V} {as : List A} (h : AxL K m H H H vs as) (k : ∀ a ∈ as, a.keep = true) : En K m H H (L2.start N vs) (stR N as) [] := by
  obtain ⟨hl, ha⟩ := axl_at h
  have key : ∀ (i : Nat) a, (stR N as)[i]? = some (some a) → as[i]? = some a := fun i a e => by
    unfold stR at e
    by_cases c : i < as.length
    · rw [List.getElem?_append_left (by simpa using c), List.getElem?_map] at e
      cases q : as[i]? with
      | none => rw [q] at e; cases e
      | some b => rw [q] at e; cases e; rfl
    · rw [List.getElem?_append_right (by simpa using c), List.getElem?_replicate] at e
      split at e <;> cases e
  refine ⟨by unfold L2.start stR; simp [hl], fun i a e => ?_, fun p hp => (nomatch hp), fun i a e => k a (List.mem_of_getElem? (key i a e)), fun p hp => (nomatch hp)⟩
  obtain ⟨v, h1, h2⟩ := ha i a (key i a e)
  refine ⟨v, ?_, h2⟩
  have hv := (List.getElem?_eq_some_iff.mp h1).1
  unfold L2.start
  rw [List.getElem?_append_left (by simpa using hv), List.getElem?_map, h1]
  rfl
end
section
variable {P : Program} {w : World} {K : PySem.W.Frag} {mg : Str → Option Value} {base : Heap} {n : Str} {sd : Stmt} {N ps : List Str} {k : Nat}
theorem cal_mkM {τ : Type} {pre : τ → Prop} {as : τ → List I} {r : τ → I → Prop} (D : Dh K mg n sd) (S : FnScope N ps (defScope sd))
    (hb : ∀ (kV doc pm : Value) (an : Option Addr) (cdv ct : Value) (us : List Value), us.length = ps.length → bindArgs (PySem.W.fnOf n n (defArgs sd) (defBody sd) (defScope sd) .none kV doc pm an cdv ct) ⟨us, []⟩ = pure (ps.zip us))
    (hl : ∀ x, (as x).length + 1 = ps.length)
    (body : ∀ (x : τ) (st : Addr) (f : Addr) (cdv : Value) (A' : Around) (outer : List Env) (s : Shared) (H : Hp) (E : XK) (Dd : Ends), Room k (XO P w K mg base N n sd f cdv A' outer s H E).A → pre x → Mok (some st) H →
      (∀ d v H1, r x d → Ek (some st) H H1 → Ax K (some st) H H H1 v (.i d) → Dd.rt v H1) →
      WR (XO P w K mg base N n sd f cdv A' outer s H E) (some st) H H (stR N (.r (.ref st) :: (as x).map A.i)) [] Dd (defBody sd)): Cal P w K mg base (k + 1) n ps (spM K pre as r) := by
  obtain ⟨f, fd, F, g⟩ := D.ex
  refine ⟨f, fd, g, F.kp, F.bindsN hb, ?_⟩
  refine F.ok S (fun vs H Q E h => ?_) (fun cdv A' outer s H vs Q E hr h => ?_)
  · obtain ⟨st, x, _, _, ha, _⟩ := h
    rw [(axl_at ha).1, List.length_cons, List.length_map, hl x]
  · obtain ⟨st, x, hp, mo, ha, q⟩ := h
    obtain ⟨t, h1, h2⟩ := body x st f cdv A' outer s H E { nx := fun _ H' => Q .non H', rt := Q } hr hp mo (fun d v H1 ra e ax => q d v H1 ra e ax) (L2.start N vs) H
      ⟨.refl _, .refl _, mo, en_startM ha (fun a h => by
        rcases List.mem_cons.mp h with rfl | h
        · rfl
        · obtain ⟨d, _, rfl⟩ := List.mem_map.mp h; rfl)⟩
    exact ⟨t, h1.nox, h2⟩
end
end K38
end
section
/-! rules where a value is only told in part -/
namespace K38
open PySem L2
section
variable {X : Cx} {m : Mo} {H0 H : Hp} {ρ : Ro} {G : Gh} {e a b c : Expr} {pos : Pos} {rest : List Stmt} {D : Ends} {st : Addr}
theorem wr_setR (i : Nat) {x : Str} {p' : Pos} {R : I → Prop} (hN : X.N.Nodup) (he : JR X m H0 H ρ G e R) (k : ∀ d, R d → WR X m H0 H (ρ.set i (some (.i d))) G D rest)
    (hi : X.N[i]? = some x := by rfl) (hx : Loc X.env.scope x := by first | exact Or.inl rfl | exact Or.inr rfl) (hs : swapsWith e (some (.Name x p')) pos.line X.env = pure false := by rfl) (hf : X.fn x = true ∨ X.env.scope.names.lookup x = some .local := by first | exact .inl rfl | exact .inr rfl) :
    WR X m H0 H ρ G D (.Assign [.Name x p'] e pos :: rest) := wr_set i hN he (fun a ⟨d, r, q⟩ => ⟨by subst q; rfl, by subst q; exact k d r⟩) hi hx hs hf
/-- a, b = e -/
theorem wr_asgR {tg : Expr} {R : I → Prop} (he : JR X m H0 H ρ G e R) (k : ∀ d, R d → ∃ ρ2, JG X m H0 tg d ρ ρ2 ∧ WR X m H0 H ρ2 G D rest) (hs : swapsWithSole [tg] e pos.line X.env = pure false := by rfl) (hw : swappedStores [tg] e X.env = pure none := by rfl) (h1 : (assignEach [tg] X.env).map (·.2) = [assign tg X.env] := by rfl) :
    WR X m H0 H ρ G D (.Assign [tg] e pos :: rest) := fun σ H1 at_ => ws_cons (ps_asg pe_r pg_r hs hw h1) (he σ H1 at_ _ fun a v H2 ⟨d, r, φ⟩ e ax => by
    subst φ
    obtain ⟨ρ2, hg, w⟩ := k d r
    exact hg σ H2 G v (at_.go e).en (at_.mo.go e) ax _ fun σ2 en2 => w σ2 H2 ⟨at_.ek.trans e, at_.ek0.trans e, at_.mo.go e, en2⟩)
/-- xs.append(e) -/
theorem wr_appR {l : Addr} {ds : List I} {R : I → Prop} {o : Expr} {apos cpos : Pos} (k0 : Mok m H0) (ho : J X m H0 H ρ G o (Eq (.r (.ref l)))) (w : Own m X.K H l ds) (h0 : H0 l = none) (kH : Mok m H) (he : JR X m H0 H ρ G e R) (hz : ds.length < 1000)
    (k : ∀ d H', R d → Go m l H H' → Ek m H0 H' → Mok m H' → Own m X.K H' l (ds ++ [d]) → WR X m H0 H' ρ G D rest) (fr : Ro.firm ρ = true := by rfl) (fg : Gh.firm G = true := by rfl)
    (hbase : attributeBase o "append" X.env (eval o X.env) = eval o X.env := by rfl)
    (hfew : ((backTo cpos (starEach (e :: []) X.env)).all (fun x => !x.1) && (backToKw cpos (keywordEach [] X.env)).all (fun x => x.1.isSome)
      && decide ((e :: []).length + ([] : List Keyword).length + (if ([] : List Keyword).isEmpty then 0 else 1) < 30)) = true := by rfl)
    (hline : (apos.endLine == cpos.line) = true := by rfl) (hs : starEach (e :: []) X.env = (false, eval e X.env) :: starEach [] X.env := by rfl) (hplain : (backTo cpos (starEach [] X.env)).any (·.1) = false := by rfl)
    (hsw : swapsWith (.Call (.Attribute o "append" apos) [e] [] cpos) none pos.line X.env = pure false := by rfl) :
    WR X m H0 H ρ G D (.Expr (.Call (.Attribute o "append" apos) [e] [] cpos) pos :: rest) := fun σ H1 at_ =>
  ws_cons (ps_expr (pe_bm PySem.F.plainAttrs_list PySem.F.slot_list_append PySem.F.type_list_append mt_append pe_r (pa_cons pe_r pa_nil hs) hbase hfew hline hs hplain) hsw) (ho σ H1 at_ _ fun a1 x H2 φ e1 ax => by
    subst φ
    have ex : x = .ref l := ax
    subst ex
    have w2 := w.ek (at_.ek.trans e1) kH
    obtain ⟨n, xs, hl, t⟩ := w2
    refine ⟨.inl ⟨rfl, xs, SqL.of hl⟩, he σ H2 (at_.go e1) _ fun a2 v H3 ⟨d, r, φ⟩ e2 ay => ?_⟩
    subst φ
    have k2 := at_.mo.go e1
    have hl3 := (e2 l _ hl).1 n
    have t3 := t.tx (e2.tx k2)
    have k3 := k2.go e2
    have e03 : Ek m H0 H3 := (at_.ek0.trans e1).trans e2
    have e0' : Ek m H0 (upd H3 l (.lst (xs ++ [v]))) := Ek.mut k0 e03 h0
    have kp : Kp l H3 (upd H3 l (.lst (xs ++ [v]))) := Kp.upd
    have tx : Tx X.K H3 (upd H3 l (.lst (xs ++ [v]))) := kp.tx hl3 trivial
    refine ⟨l, xs, v, rfl, rfl, hl3, by rw [t.1]; exact Nat.lt_of_lt_of_le hz (by decide), ?_⟩
    exact k d _ r ⟨H3, (at_.ek.trans e1).trans e2, kp, _, hl3, trivial⟩ e0' (k0.go e0') ⟨n, _, upd_same, (t3.snoc ay).tx tx⟩ σ _ ⟨.refl _, e0', k0.go e0', ((at_.go e1).go e2).en.tx tx fr fg⟩)
/-- for i in range(n), the slots told by a witness -/
abbrev Tx' {α : Type} (X : Cx) (m : Mo) (H0 : Hp) (G : Gh) (R : α → Ro) (Iv : α → Nat → Hp → Prop) (i : Nat) (σ : L2.St) (H : Hp) : Prop := ∃ x, Tn X m H0 G (fun _ => R x) (Iv x) i σ H
abbrev LpX {α : Type} (X : Cx) (m : Mo) (H0 : Hp) (G : Gh) (R : α → Ro) (Iv : α → Nat → Hp → Prop) (i : Nat) (D : Ends) : Ends := { D with nx := Tx' X m H0 G R Iv i, ct := Tx' X m H0 G R Iv i, bk := D.nx }
theorem wr_nextX {α : Type} {R : α → Ro} {Iv : α → Nat → Hp → Prop} {i : Nat} (x : α) (hI : ∀ H1, Ek m H H1 → Mok m H1 → Iv x i H1) (s : Sub (R x) ρ) : WR X m H0 H ρ G (LpX X m H0 G R Iv i D) [] := fun σ H1 at_ =>
  ⟨_, pss_nil, x, hI H1 at_.ek at_.mo, at_.ek0, at_.mo, at_.en.sub s⟩
theorem wr_forRX {α : Type} {P : Int → Prop} {tg : Expr} {body : List Stmt} {px : Pos} {px2 : Pos} (hm : X.mg "range" = none) (hit : JN X m H0 H ρ G e P) (hP : ∀ n, P n → n ≤ 100000 ∧ -100000 ≤ n) (R : α → Ro) (Iv : α → Nat → Hp → Prop) (x0 : α) (hc : X.calm = true) (h0s : Sub (R x0) ρ) (h0 : ∀ H1, Ek m H H1 → Mok m H1 → Iv x0 0 H1)
    (turn : ∀ x n i H1, P n → i < n.toNat → Iv x i H1 → Ek m H0 H1 → Mok m H1 → ∃ ρ2, JG X m H0 tg (.int (i : Int)) (R x) ρ2 ∧ WR X m H0 H1 ρ2 G (LpX X m H0 G R Iv (i + 1) (Dn X rest D)) body)
    (done : ∀ x n H1, P n → Iv x n.toNat H1 → Ek m H0 H1 → Mok m H1 → WR X m H0 H1 (R x) G D rest) (hg : Gl X "range" := by rfl) (hst : starEach [e] X.env = [(false, eval e X.env)] := by rfl) (hst2 : starEach [e] X.env = (false, eval e X.env) :: starEach [] X.env := by rfl)
    (hp : PassesOwn (model X.prog X.w) X.A X.env X.xe := by exact PassesOwn.never) (hs : ∀ x, foldedSetIterable (.Call (.Name "range" px) [e] [] px2) X.env x = pure x := by intro _; rfl) : WR X m H0 H ρ G D (.For tg (.Call (.Name "range" px) [e] [] px2) body [] pos :: rest) := fun σ H1 at_ =>
  ws_cons (ps_for hp hc (pi_range1 hg hm (pa_cons pe_r pa_nil hst2) hst) pg_r pss_r hs) (hit σ H1 at_ _ fun a1 va H2 ⟨n, pn, φ⟩ e ax => by
    subst φ
    have k2 := at_.mo.go e
    obtain ⟨hn1, hn2⟩ := hP n pn
    refine ⟨n, by rw [un_i ax], by omega, by omega, for_range (lo := 0) (n := n.toNat) (Tx' X m H0 G R Iv) ⟨x0, h0 H2 (at_.ek.trans e) k2, at_.ek0.trans e, k2, (at_.go e).en.sub h0s⟩ ?_ ?_⟩
    · intro i σ' H' hi ⟨x, hI, ek0, mo, en⟩
      obtain ⟨ρ2, hg, w⟩ := turn x n i H' pn hi hI ek0 mo
      have e0 : (0 : Int) + (i : Int) = (i : Int) := Int.zero_add _
      rw [e0]
      exact hg σ' H' _ (.int (i : Int)) en mo (It.int _) _ fun σ2 en2 => w σ2 H' ⟨.refl _, ek0, mo, en2⟩
    · intro σ' H' ⟨x, hI, ek0, mo, en⟩
      exact done x n H' pn hI ek0 mo σ' H' ⟨.refl _, ek0, mo, en⟩)
/-- [.. for x in range(e)] -/
theorem lc_Rg {P : Int → Prop} {Φ : I → Prop} {sc : Scope} {vs : List Nat} {tg elt : Expr} {tt : TT} (hit : JN X m H0 H ρ G e P) (hP : ∀ n, P n → n ≤ 900 ∧ -100000 ≤ n) (R : Nat → List I → Prop) (r0 : R 0 [])
    (hR : ∀ i es, R i es → es.length = i ∧ ∀ d', Φ d' → R (i + 1) (es ++ [d'])) (t : ∀ i : Nat, Lt X m H0 H ρ G sc vs tg elt tt (.int (i : Int)) true Φ) :
    Lc X m H0 H ρ G (tLc (iRng1 (tCons (rE X e) tNil)) (bG X sc tg) tt (bE X sc elt) vs) (fun ds => ∃ n, P n ∧ R n.toNat ds) := fun σ H1 at_ Q q => hit σ H1 at_ _ fun a1 va H2 ⟨n, pn, φ⟩ e ax => by
  subst φ
  have a2 := at_.go e
  obtain ⟨hn1, hn2⟩ := hP n pn
  refine ⟨n, by rw [un_i ax], by omega, by omega, fun Da hD => lc_range (lo := 0) (n := n.toNat) (LcW X m H2 Da fun i es => i ≤ n.toNat ∧ R i es) ⟨Ek.new a2.mo hD, [], [], upd_same, .nil, Nat.zero_le _, r0⟩ (fun i H' hi w => ?_) (fun H' w => ?_)⟩
  · have e0 : (0 : Int) + (i : Int) = (i : Int) := Int.zero_add _
    rw [e0]
    exact lc_turn (i := i) (sel := true) a2 hD w (It.int (i : Int)) (fun es r => ⟨by rw [(hR i es r.2).1]; omega, fun _ d' hd => ⟨by omega, (hR i es r.2).2 d' hd⟩, fun c => by cases c⟩) (t i)
  · obtain ⟨ek, ys, es, hy, ty, _, r⟩ := w
    exact q es Da H' ⟨n, pn, r⟩ (e.back at_.mo hD) (e.trans ek) ⟨a2.mo.ne hD, ys, hy, ty⟩
theorem cn_gt {P : Int → Prop} {j : Int} (ha : JN X m H0 H ρ G a P) (hb : JI X m H0 H ρ G b (.int j)) : Cp X m H0 H ρ G .Gt a b (fun _ => True) :=
  cp_mk op_gt (nomark _) ha hb fun σ Hs H1 x y a1 a2 at_ e k ⟨i, p, u⟩ u' ax ay Q q => by
  subst u u'
  rw [un_i ax, un_i ay]
  exact ⟨i, j, rfl, rfl, q _ H1 trivial (.refl _)⟩
/-- a def that reads, its arguments told in part -/
theorem j_callR {τ : Type} {pre : τ → Hp → Prop} {as : τ → List A} {r : τ → A → Prop} {k : Nat} {n : Str} {ps : List Str} {es : List Expr} {p : Pos} {Φ : A → Prop} (Pr : τ → Prop) (c : Cal X.prog X.w X.K X.mg X.base k n ps (spOf X.K pre as r)) (hr : Room k X.A) (k0 : Mok m H0)
    (ha : JA X m H0 H ρ G (e :: es) (fun bs => ∃ x, Pr x ∧ bs.map A.pass = as x)) (hp : ∀ x, Pr x → ∀ H1, Ek m H H1 → Ek m H0 H1 → pre x H1) (hΦ : ∀ x, Pr x → ∀ a, r x a → a.back = true ∧ Φ a)
    (hg : Gl X n := by rfl) (hdb : (n == ("__debug__" : Str)) = false := by decide) (he : starEach (e :: es) X.env = (false, eval e X.env) :: starEach es X.env := by rfl) (hpl : (backTo pos (starEach es X.env)).any (·.1) = false := by rfl) :
    J X m H0 H ρ G (.Call (.Name n p) (e :: es) [] pos) Φ := j_call' c hr ha (fun σ Hs H1 vs as' at_ e k φ ax Q q => by
  obtain ⟨x, px, hb⟩ := φ
  refine ⟨x, hp x px H1 at_.ek at_.ek0, ?_, fun a v H2 ra e2 ax2 => ?_⟩
  · rw [← hb]; exact axl_pass ax at_.ek0 k0
  · obtain ⟨b1, p1⟩ := hΦ x px a ra
    exact q a v H2 p1 e2.of_none (ax_back ax2 b1 k e)) hg hdb he hpl
/-- (a, b) -/
theorem j_pairR {x1} {Ra Rb : I → Prop} (ha : JR X m H0 H ρ G a Ra) (hb : JR X m H0 H ρ G b Rb) (h1 : starEach [a, b] X.env = (false, eval a X.env) :: starEach [b] X.env := by rfl) (h2 : starEach [b] X.env = (false, eval b X.env) :: starEach [] X.env := by rfl) :
    JR X m H0 H ρ G (.Tuple [a, b] x1 pos) (fun x => ∃ d1 d2, Ra d1 ∧ Rb d2 ∧ x = .tup [d1, d2]) := (j_tup' (R := fun ds => ∃ d1 d2, Ra d1 ∧ Rb d2 ∧ ds = [d1, d2]) (ja_cons' ha (ja_cons' hb ja_nil h2) h1) (fun as ⟨a, r, ⟨d1, q1, q2⟩, ⟨a2, r2, ⟨d2, q3, q4⟩, q5, q6⟩, q7⟩ => by
    refine ⟨[d1, d2], ⟨d1, d2, q1, q3, rfl⟩, ?_⟩
    rw [← q7, ← q6, ← q5, ← q2, ← q4]; rfl) (by show 2 ≤ 1000; decide) (fun ds ⟨d1, d2, _, _, h⟩ => by rw [h]; show 2 ≤ 1000; decide)).imp fun a ⟨ds, ⟨d1, d2, h1, h2, h3⟩, h4⟩ => ⟨.tup ds, ⟨d1, d2, h1, h2, by rw [h3]⟩, h4⟩
/-- from a fresh list of two ints on: it is the state -/
def Ro.flat (ρ : Ro) : Bool := ρ.all fun x => match x with
  | some (.i _) => true
  | some (.r _) => true
  | none => true
  | _ => false
theorem wr_sw {i j : Int} (o : Own none X.K H st [.int i, .int j]) (f : Ro.flat ρ = true) (k : ∀ H1, Ek none H H1 → Mok (some st) H1 → WR X (some st) H1 H1 ρ [] D rest) : WR X none H0 H ρ [] D rest := fun σ H1 at_ => by
  have o1 := o.ek at_.ek (Mok.none _)
  obtain ⟨_, xs, hx, t⟩ := o1
  have mo : Mok (some st) H1 := fun a c => by
    cases c
    obtain ⟨v0, w0, i0⟩ := t.get (i := 0) rfl
    obtain ⟨v1, w1, i1⟩ := t.get (i := 1) rfl
    have l2 : xs.length = 2 := t.1
    match xs, l2 with
    | [x, y], _ =>
      cases w0; cases w1
      rw [It.un_int i0, It.un_int i1] at hx
      exact ⟨_, hx, i, j, rfl⟩
  refine k H1 at_.ek mo σ H1 ⟨.refl _, .refl _, mo, ⟨at_.en.len, fun n a e => ?_, fun p hp => (nomatch hp), at_.en.kp, fun p hp => (nomatch hp)⟩⟩
  obtain ⟨v, h1, h2⟩ := at_.en.at_ n a e
  have fa := List.all_eq_true.mp f _ (List.mem_of_getElem? e)
  refine ⟨v, h1, ?_⟩
  cases a with
  | i d => exact h2
  | r w => exact h2
  | l _ => cases fa
  | b _ => cases fa
  | n _ => cases fa
  | t _ _ => cases fa
theorem Ek.lose {H0 H1 H2 : Hp} (e : Ek (some st) H1 H2) (e0 : Ek none H0 H1) (h : H0 st = none) : Ek none H0 H2 := Ek.of_same fun a o ha => by
  have h1 := (e0 a o ha).1 (by simp)
  exact (e a o h1).1 fun c => by cases c; rw [h] at ha; cases ha
/-- the law's argument: a list of ints that stood at the entry, frozen or not -/
theorem sql_ek {K : PySem.W.Frag} {H H' : Hp} {p : Addr} {xs : List V} (h : SqL K H p xs) (e : Ek none H H') : SqL K H' p xs := by
  rcases h with (h | ⟨o, h⟩) | h
  · exact .inl (.inl ((e p _ h).1 (by simp)))
  · exact .inl (.inr ⟨o, (e p _ h).1 (by simp)⟩)
  · exact .inr h
theorem j_lenS {p : Addr} {xs : List V} {px : Pos} (hs : SqL X.K H0 p xs) (hm : X.mg "len" = none) (ha : J X none H0 H ρ G a (Eq (.r (.ref p)))) (hg : Gl X "len" := by rfl)
    (he : starEach [a] X.env = (false, eval a X.env) :: starEach [] X.env := by rfl) (hpl : (backTo pos (starEach [] X.env)).any (·.1) = false := by rfl) : JI X none H0 H ρ G (.Call (.Name "len" px) [a] [] pos) (.int (xs.length : Nat)) :=
  j_cb call_len_seq hm PySem.boot_len ha (fun σ Hs H1 x a1 at_ e k0 φ ax Q q => by
    subst φ
    have ex : x = .ref p := ax
    subst ex
    exact ⟨p, xs, rfl, .inl (sql_ek hs at_.ek0), q (.i (.int (xs.length : Int))) _ H1 rfl (.refl _) (It.int _)⟩) hg (by decide) (by decide) he hpl
theorem j_ixSq {p : Addr} {xs : List Int} {i : Nat} {v : Int} (hs : SqL X.K H0 p (xs.map V.int)) (ha : J X none H0 H ρ G a (Eq (.r (.ref p)))) (hb : JI X none H0 H ρ G b (.int (i : Nat))) (hv : xs[i]? = some v) (hsx : PlainIx b := by exact fun _ _ => rfl) : JI X none H0 H ρ G (.Subscript a b pos) (.int v) :=
  j_bi (fun _ _ p q => pe_ix ix_LT p q hsx) ha hb fun σ Hs H1 x y a1 a2 at_ e k0 u u' ax ay Q q => by
    subst u u'
    have ex : x = .ref p := ax
    subst ex
    rw [un_i ay]
    exact .inl ⟨p, _, (i : Int), .int v, rfl, rfl, sql_ek hs at_.ek0, atI_nat (by rw [List.getElem?_map, hv]; rfl), q _ _ H1 rfl (.refl _) (It.int _)⟩
end
end K38
end
section
/-! walks: what is drawn, its small parts -/
namespace K38
open PySem L2
section
variable {P : Program} {w : World} {K : PySem.W.Frag} {mg : Str → Option Value} {base : Heap} {C : Addr}
abbrev sp_dig (K : PySem.W.Frag) : Sp := spM K (fun x : Int => 0 < x ∧ x < 1000) (fun x => [.int x]) (fun x => Rg x)
theorem tru {P : Int → Prop} {X : Cx} {m : Mo} {H0 H : Hp} {ρ : Ro} {G : Gh} {e : Expr} (h : JN X m H0 H ρ G e P) : JN X m H0 H ρ G e (fun _ => True) := J.imp h fun a ⟨i, _, q⟩ => ⟨i, trivial, q⟩
theorem ok_pick (D : Dh K mg "_law_pick" s__law_pick) : Cal P w K mg base 1 "_law_pick" ["_law_state_here", "_law_many"] (sp_dig K) := by
  refine cal_mkM D sc__law_pick (fun _ _ _ _ _ _ us hl => match us, hl with | [_, _], _ => rfl) (fun _ => rfl) fun x st f cdv Ar outer s H E Dd hr hp mo hD => ?_
  obtain ⟨p1, p2⟩ : 0 < x ∧ x < 1000 := hp
  refine wr_st (.inl rfl) (jn_mod (P1 := fun _ => True) (P2 := fun j => 2147483647 = j) (jn_add (P1 := fun _ => True) (P2 := fun _ => True) (jn_mul (P1 := fun _ => True) (P2 := fun j => 48271 = j) (j_rd (.inl rfl) (j_v 0)) (JI.n j_int rfl) (fun i j _ h => ⟨.inr ⟨by omega, by omega⟩, trivial⟩)) (JI.n j_int trivial) (fun _ _ _ _ => trivial)) (JI.n j_int rfl) (fun i j _ h => ⟨by omega, trivial⟩)) (j_v 0) ?_
  refine wr_ret mo (JN.r (n := x) (P := fun i => 0 ≤ i ∧ i < x) (jn_mod (P1 := fun _ => True) (P2 := fun j => x = j) (jn_fdiv (P1 := fun _ => True) (P2 := fun j => 7 = j) (j_rd (.inl rfl) (j_v 0)) (JI.n j_int rfl) (fun i j _ h => ⟨⟨by omega, by omega⟩, trivial⟩)) (JI.n (j_v 1) rfl) (fun i j _ h => by subst h; exact ⟨p1, Int.emod_nonneg _ (by omega), Int.emod_lt_of_pos _ p1⟩)) (fun i h => h)) fun a v H1 ⟨d, r, q⟩ e _ ax => hD d v H1 r e (by rw [q]; exact ax)
theorem ok_dig (c1 : Cal P w K mg base 1 "_law_pick" ["_law_state_here", "_law_many"] (sp_dig K)) (D : Dh K mg "_law_digit" s__law_digit) : Cal P w K mg base 2 "_law_digit" ["_law_state_here", "_law_many"] (sp_dig K) := by
  refine cal_mkM D sc__law_digit (fun _ _ _ _ _ _ us hl => match us, hl with | [_, _], _ => rfl) (fun _ => rfl) fun x st f cdv Ar outer s H E Dd hr hp mo hD => ?_
  obtain ⟨p1, p2⟩ : 0 < x ∧ x < 1000 := hp
  have nd := sc__law_digit.nd
  refine wr_if (cn_gt (j_rd (.inr rfl) (j_v 0)) j_int).t (fun _ => ?_) (fun _ => wr_go ?_)
  · refine wr_setR 2 nd (JN.r (n := x) (P := fun i => 0 ≤ i ∧ i < x) (jn_mod (P1 := fun _ => True) (P2 := fun j => x = j) (j_rd (.inr rfl) (j_v 0)) (JI.n (j_v 1) rfl) (fun i j _ h => by subst h; exact ⟨p1, Int.emod_nonneg _ (by omega), Int.emod_lt_of_pos _ p1⟩)) (fun i h => h)) fun d r => ?_
    refine wr_st (.inr rfl) (jn_fdiv (P1 := fun _ => True) (P2 := fun j => x = j) (j_rd (.inr rfl) (j_v 0)) (JI.n (j_v 1) rfl) (fun i j _ h => by subst h; exact ⟨⟨p1, by omega⟩, trivial⟩)) (j_v 0) ?_
    exact wr_ret mo (j_v (a := .i d) 2) fun a v H1 q e _ ax => hD d v H1 r e (by rw [q]; exact ax)
  · exact wr_ret mo (j_callM c1 (hr.mono (by decide)) x (ja_cons (j_v 0) (ja_cons (j_v 1) ja_nil)) ⟨p1, p2⟩) fun a v H1 ⟨d, r, q⟩ e _ ax => hD d v H1 r e (by rw [q]; exact ax)
abbrev cal_dig (P : Program) (w : World) (K : PySem.W.Frag) (mg : Str → Option Value) (base : Heap) : Prop := Cal P w K mg base 2 "_law_digit" ["_law_state_here", "_law_many"] (sp_dig K)
section
variable {X : Cx} {H0 H : Hp} {ρ : Ro} {G : Gh} {a e : Expr} {pos p : Pos} {st : Addr}
/-- a digit below n -/
theorem j_dig {n : Int} {k1 pk} (c : cal_dig X.prog X.w X.K X.mg X.base) (hr : Room 2 X.A) (ha : J X (some st) H0 H ρ G a (Eq (.r (.ref st)))) (p1 : 0 < n) (p2 : n < 1000)
    (hg : Gl X "_law_digit" := by rfl) (he : starEach [a, .Constant (.int n) k1 pk] X.env = (false, eval a X.env) :: starEach [.Constant (.int n) k1 pk] X.env := by rfl) (he2 : starEach [.Constant (.int n) k1 pk] X.env = (false, eval (.Constant (.int n) k1 pk) X.env) :: starEach [] X.env := by rfl) (hpl : (backTo pos (starEach [.Constant (.int n) k1 pk] X.env)).any (·.1) = false := by rfl) :
    JR X (some st) H0 H ρ G (.Call (.Name "_law_digit" p) [a, .Constant (.int n) k1 pk] [] pos) (Rg n) := j_callM c hr n (ja_cons ha (ja_cons j_int ja_nil he2) he) ⟨p1, p2⟩ hg (by decide) he hpl
end
def stF (c s : Int) : Int × Int := if (10 ^ 18 : Int) ≤ (if c < 0 then -c else c) then ((if c < 0 then -c else c) % 2147483629 + s, (if c < 0 then -c else c) - 10 ^ 18) else (((if c < 0 then -c else c) * 69621 + s * 16807 + 5) % 2147483647, 0)
abbrev sp_state (K : PySem.W.Frag) : Sp := spOf K free (fun x : Int × Int => [.i (.int x.1), .i (.int x.2)]) (fun x a => .n [.int (stF x.1 x.2).1, .int (stF x.1 x.2).2] = a)
theorem j_1018 {X : Cx} {m : Mo} {H0 H : Hp} {ρ : Ro} {G : Gh} {pos p1 p2 : Pos} {k1 k2} : JI X m H0 H ρ G (.BinOp (.Constant (.int 10) k1 p1) .Pow (.Constant (.int 18) k2 p2) pos) (.int (10 ^ 18)) := j_op op_pow j_int j_int ⟨by decide, by decide, by decide⟩
theorem ok_state (B : Bi w K mg C) (D : Dh K mg "_law_state" s__law_state) : Cal P w K mg base 1 "_law_state" ["_law_cell_here", "_law_salt"] (sp_state K) := by
  refine cal_mk D sc__law_state (fun _ _ _ _ _ _ us hl => match us, hl with | [_, _], _ => rfl) (fun _ => rfl) (fun x a h => ?_) fun x f cdv Ar outer s H E Dd hr hp hD hN => ?_
  · simp at h; rcases h with h | h <;> (subst h; rfl)
  · obtain ⟨c, t⟩ := x
    have k0 : ∀ H, Mok none H := Mok.none
    have nd := sc__law_state.nd
    refine wr_set 2 nd (Φ := Eq (.i (.int (if c < 0 then -c else c)))) (j_abs B.abs (j_v 0)) fun a φ => ⟨by subst φ; rfl, ?_⟩
    subst φ
    have ed : stF c t = if (10 ^ 18 : Int) ≤ (if c < 0 then -c else c) then ((if c < 0 then -c else c) % 2147483629 + t, (if c < 0 then -c else c) - 10 ^ 18) else (((if c < 0 then -c else c) * 69621 + t * 16807 + 5) % 2147483647, 0) := rfl
    generalize hr' : (if c < 0 then -c else c) = r at ed
    refine wr_if (c_ge (j_v 2) j_1018).t (fun hb => ?_) (fun hb => wr_go ?_)
    · have hb : (10 ^ 18 : Int) ≤ r := of_decide_eq_true hb
      refine wr_ret (k0 _) (j_lst (ds := [.int (r % 2147483629 + t), .int (r - 10 ^ 18)]) (ja_cons (j_add (j_mod (j_v 2) j_int (by decide)) (j_v 1)) (ja_cons (j_sub (j_v 2) j_1018) ja_nil))) fun a v H1 φ e _ ax => hD a v H1 (by rw [← φ]; show A.n [.int (stF c t).1, .int (stF c t).2] = _; rw [ed, if_pos hb]) e ax
    · have hb : ¬ (10 ^ 18 : Int) ≤ r := of_decide_eq_false hb
      refine wr_ret (k0 _) (j_lst (ds := [.int ((r * 69621 + t * 16807 + 5) % 2147483647), .int 0]) (ja_cons (j_mod (j_add (j_add (j_mul (j_v 2) j_int (.inr ⟨by decide, by decide⟩)) (j_mul (j_v 1) j_int (.inr ⟨by decide, by decide⟩))) j_int) j_int (by decide)) (ja_cons j_int ja_nil))) fun a v H1 φ e _ ax => hD a v H1 (by rw [← φ]; show A.n [.int (stF c t).1, .int (stF c t).2] = _; rw [ed, if_neg hb]) e ax
/-! ### before, tokens, messages -/
def Kb (d : I) : Prop := ∃ ks : List Tk, (ks.length ≤ 2 ∧ ∀ t ∈ ks, t.key = true) ∧ d = eTs ks
abbrev sp_bef (K : PySem.W.Frag) : Sp := spM K (fun _ : Unit => True) (fun _ => []) (fun _ => Kb)
theorem rg_ix {n : Int} {ds : List I} {R : I → Prop} (hn : n = ds.length) (h : ∀ d ∈ ds, R d) (i : Int) (hi : 0 ≤ i ∧ i < n) : ∃ d, atI ds i = some d ∧ R d := by
  obtain ⟨k, rfl⟩ : ∃ k : Nat, i = k := ⟨i.toNat, by omega⟩
  have hk : k < ds.length := by omega
  exact ⟨ds[k], atI_nat (List.getElem?_eq_getElem hk), h _ (List.getElem_mem hk)⟩
theorem ok_bef (c1 : cal_dig P w K mg base) (D : Dh K mg "_law_before" s__law_before) : Cal P w K mg base 3 "_law_before" ["_law_state_here"] (sp_bef K) := by
  refine cal_mkM D sc__law_before (fun _ _ _ _ _ _ us hl => match us, hl with | [_], _ => rfl) (fun _ => rfl) fun x st f cdv Ar outer s H E Dd hr hp mo hD => ?_
  refine wr_ret mo (j_ixN (R := Kb) mo (J.sk (j_lst (ds := [.tup [], .tup [.str "e"], .tup [.str "s"], .tup [.str "e", .str "s"]]) (ja_cons (j_tup (ds := []) ja_nil) (ja_cons (j_tup (ds := [.str "e"]) (ja_cons j_str ja_nil)) (ja_cons (j_tup (ds := [.str "s"]) (ja_cons j_str ja_nil)) (ja_cons (j_tup (ds := [.str "e", .str "s"]) (ja_cons j_str (ja_cons j_str ja_nil))) ja_nil))))) .n)
    (JR.n (j_dig c1 (hr.mono (by decide)) (j_v 0) (by decide) (by decide))) (rg_ix rfl fun d hd => ?_)) fun a v H1 ⟨d, r, q⟩ e _ ax => hD d v H1 r e (by rw [q]; exact ax)
  simp only [List.mem_cons, List.not_mem_nil, or_false] at hd
  rcases hd with rfl | rfl | rfl | rfl
  · exact ⟨[], by decide, rfl⟩
  · exact ⟨[.e], by decide, rfl⟩
  · exact ⟨[.s], by decide, rfl⟩
  · exact ⟨[.e, .s], by decide, rfl⟩
def Kt (d : I) : Prop := ∃ ts : List Tk, (ts ≠ [] ∧ ts.length ≤ 8) ∧ d = eTs ts
abbrev sp_tok (K : PySem.W.Frag) : Sp := spM K (fun _ : Unit => True) (fun _ => []) (fun _ => Kt)
def Kn (d : I) : Prop := ∃ t : Tk, d = eT t
theorem ok_tok (B : Bi w K mg C) (c1 : cal_dig P w K mg base) (D : Dh K mg "_law_tokens" s__law_tokens) : Cal P w K mg base 3 "_law_tokens" ["_law_state_here"] (sp_tok K) := by
  refine cal_mkM D sc__law_tokens (fun _ _ _ _ _ _ us hl => match us, hl with | [_], _ => rfl) (fun _ => rfl) fun x st f cdv Ar outer s H E Dd hr hp mo hD => ?_
  have nd := sc__law_tokens.nd
  refine wr_setN 1 nd (j_lst (ds := [Tk.e, .s, .ee, .es, .se, .ss, .psk, .e].map eT) (ja_cons j_str (ja_cons j_str (ja_cons j_str (ja_cons j_str (ja_cons j_str (ja_cons j_str (ja_cons j_str (ja_cons j_str ja_nil))))))))) (fun l H1 nl e1 mo1 e01 o => ?_) mo
  refine wr_ret mo (j_tupleL (R := fun ds => ∃ ts : List Tk, (ts ≠ [] ∧ ts.length ≤ 8) ∧ ds = ts.map eT) mo B.tuple (J.imp (j_lc (own := [("_law_k", 2)]) (R := fun ds => ∃ n : Int, (1 ≤ n ∧ n ≤ 8) ∧ ∃ ts : List Tk, ts.length = n.toNat ∧ ds = ts.map eT) nd rfl (pi_range1 (by rfl) B.range (pa_cons pe_r pa_nil)) (lc_Rg (P := fun n => 1 ≤ n ∧ n ≤ 8) (Φ := Kn) (jn_add (P1 := fun j => 1 = j) (JI.n j_int rfl) (JR.n (j_dig c1 (hr.mono (by decide)) (j_v 0) (by decide) (by decide))) (fun i j h1 h2 => by omega)) (fun n h => by omega)
      (fun i ds => ∃ ts : List Tk, ts.length = i ∧ ds = ts.map eT) ⟨[], rfl, rfl⟩ (fun i es ⟨ts, h1, h2⟩ => ⟨by rw [h2, List.length_map, h1], fun d' ⟨t, ht⟩ => ⟨ts ++ [t], by rw [List.length_append, h1]; rfl, by rw [h2, ht, List.map_append]; rfl⟩⟩)
      (fun i => Lt.all (fun s Hb C cl fp => jgw_name 2 nd (by decide)) (fun s Hb C cl fp => j_ixN (R := Kn) mo (J.sk (j_own (j_v 1) o mo1) .l) (JR.n (j_dig (X := Bk _ _ s Hb C cl fp) c1 (hr.mono (by decide)) (j_v 0) (by decide) (by decide))) (rg_ix rfl fun d hd => by
        obtain ⟨t, _, rfl⟩ := List.mem_map.mp hd; exact ⟨t, rfl⟩)))) (fun s Hb C cl fp => pts_nil) (N := N__law_tokens) (so := defScope s__law_tokens) (by decide +kernel)) fun a ⟨ds, ⟨n, hn, ts, h1, h2⟩, q⟩ => ⟨ds, ⟨ts, ⟨fun c => by rw [c] at h1; simp at h1; omega, by omega⟩, h2⟩, by rw [← q]; exact .n⟩)) fun a v H2 ⟨ds, ⟨ts, r, h⟩, q⟩ e _ ax => hD (.tup ds) v H2 ⟨ts, r, by rw [h]; rfl⟩ e (by rw [q]; exact ax)
end
end K38
end
section
/-! walks: what is drawn: messages, the twelve patterns, cells, names -/
namespace K38
open PySem L2
section
variable {P : Program} {w : World} {K : PySem.W.Frag} {mg : Str → Option Value} {base : Heap} {C : Addr}
structure WD (n : Nat) (ms : List Msg) : Prop where
  ne : ms ≠ []
  few : ms.length ≤ 12
  toks : ∀ m ∈ ms, m.2 ≠ [] ∧ m.2.length ≤ 8 + n
  alt : ∀ (i : Nat) m n, ms[i]? = some m → ms[i + 1]? = some n → n.1 = !m.1
def alt (z : Bool) : Nat → Bool
  | 0 => z
  | i + 1 => !(alt z i)
def Km (n : Nat) (d : I) : Prop := ∃ ms, WD n ms ∧ d = eMs ms
abbrev sp_msgs (K : PySem.W.Frag) : Sp := spM K (fun _ : Unit => True) (fun _ => []) (fun _ => Km 0)
theorem ok_msgs (B : Bi w K mg C) (c1 : cal_dig P w K mg base) (c2 : Cal P w K mg base 3 "_law_tokens" ["_law_state_here"] (sp_tok K)) (D : Dh K mg "_law_messages" s__law_messages) : Cal P w K mg base 4 "_law_messages" ["_law_state_here"] (sp_msgs K) := by
  refine cal_mkM D sc__law_messages (fun _ _ _ _ _ _ us hl => match us, hl with | [_], _ => rfl) (fun _ => rfl) fun x st f cdv Ar outer s H E Dd hr hp mo hD => ?_
  have nd := sc__law_messages.nd
  refine wr_setR 1 nd (R := fun d => ∃ z, d = eD z) (j_ixN mo (J.sk (j_lst (ds := [eD false, eD true]) (ja_cons j_str (ja_cons j_str ja_nil))) .n) (jn_fdiv (P := fun i => 0 ≤ i ∧ i < 2) (P2 := fun j => 7 = j) (JR.n (j_dig c1 (hr.mono (by decide)) (j_v 0) (by decide) (by decide))) (JI.n j_int rfl) (fun i j h1 h2 => by subst h2; exact ⟨⟨by omega, by omega⟩, by omega⟩)) (rg_ix rfl fun d hd => by
    simp only [List.mem_cons, List.not_mem_nil, or_false] at hd
    rcases hd with rfl | rfl
    · exact ⟨false, rfl⟩
    · exact ⟨true, rfl⟩)) fun d ⟨z, hz⟩ => ?_
  subst hz
  refine wr_setN 2 nd (j_lst (ds := []) ja_nil) (fun l H1 nl e1 mo1 e01 o => ?_) mo
  refine wr_forR (P := fun n => 1 ≤ n ∧ n ≤ 12) B.range (jn_add (P1 := fun j => 1 = j) (JI.n j_int rfl) (JR.n (j_dig c1 (hr.mono (by decide)) (j_v 0) (by decide) (by decide))) (fun i j h1 h2 => by omega)) (fun n h => by omega) (fun i => [some (.r (.ref st)), some (.i (eD (alt z i))), some (.r (.ref l)), none])
    (fun i H' => ∃ ms : List Msg, Own (some st) K H' l (ms.map eM) ∧ ms.length = i ∧ (∀ m ∈ ms, m.2 ≠ [] ∧ m.2.length ≤ 8) ∧ ∀ (j : Nat) m, ms[j]? = some m → m.1 = alt z j) rfl (Sub.refl _) (fun H2 e2 mo2 => ⟨[], o.ek e2 mo1, rfl, fun m h => by simp at h, fun j m h => by simp at h⟩) ?_ ?_
  · intro n i H2 hn hi ⟨ms, o2, hl, ht, ha⟩ e02 mo2
    refine ⟨_, jg_name 3 nd, ?_⟩
    refine wr_appR mo (j_v 2) o2 nl mo2 (j_pairR (Ra := fun d => d = eD (alt z i)) (Rb := Kt) (JI.r (j_v 1) rfl) (j_callM c2 (hr.mono (by decide)) () (ja_cons (j_v 0) ja_nil) trivial)) (by rw [List.length_map]; omega) (fun d H3 ⟨d1, d2, q1, ⟨ts, hts, q2⟩, q3⟩ g3 e03 mo3 o3 => ?_)
    refine wr_set 1 nd (Φ := Eq (.i (eD (alt z (i + 1))))) ((j_arr (z := !(alt z i)) mo (j_intB B.int ((c_eqS (i := sdS (alt z i)) (j_v 1) j_str).is (sdS_o _)).j))) fun a φ => ⟨by subst φ; rfl, ?_⟩
    subst φ
    refine wr_next (fun H4 e4 mo4 => ⟨ms ++ [(alt z i, ts)], ?_, by rw [List.length_append, hl]; rfl, fun m hm => ?_, fun j m hj => ?_⟩) (.keep (.keep (.keep (.drop .nil))))
    · rw [List.map_append]
      have ed : d = eM (alt z i, ts) := by rw [q3, q1, q2]; rfl
      rw [ed] at o3
      exact o3.ek e4 mo3
    · rcases List.mem_append.mp hm with h | h
      · exact ht m h
      · rw [List.mem_singleton.mp h]; exact hts
    · by_cases c : j < i
      · rw [List.getElem?_append_left (by omega)] at hj; exact ha j m hj
      · rw [List.getElem?_append_right (by omega)] at hj
        have : j - ms.length = 0 := by
          by_cases c2 : j - ms.length = 0
          · exact c2
          · rw [List.getElem?_eq_none (by simp; omega)] at hj; cases hj
        rw [this] at hj
        cases hj
        have : j = i := by omega
        rw [this]
  · intro n H2 hn ⟨ms, o2, hl, ht, ha⟩ e02 mo2
    refine wr_ret mo (j_tupleL (R := fun ds => ds = ms.map eM) mo B.tuple (J.imp (j_own (j_v 2) o2 mo2) fun a q => ⟨_, rfl, by rw [← q]; exact .l⟩)) fun a v H3 ⟨ds, q1, q2⟩ e _ ax => hD (.tup ds) v H3 ⟨ms, ⟨?_, ?_, fun m hm => ht m hm, fun i m1 m2 h1 h2 => ?_⟩, by rw [q1]; rfl⟩ e (by rw [q2]; exact ax)
    · intro c; rw [c] at hl; simp at hl; omega
    · omega
    · rw [ha i m1 h1, ha (i + 1) m2 h2]; rfl
/-! ### the twelve patterns -/
def baseD : List I := [.tup [.tup [], .tup []], .tup [.tup [.str "->", .tup [.str "e"]], .tup [.str "<-", .tup [.str "e", .str "ee"]]], .tup [.tup [], .tup [.str "s"]], .tup [.tup [.str "->", .tup [.str "e", .str "es"]], .tup [.str "<-", .tup [.str "e", .str "ee"]]], .tup [.tup [.str "s"], .tup []], .tup [.tup [.str "->", .tup [.str "e"]], .tup [.str "<-", .tup [.str "e", .str "ee", .str "se"]]], .tup [.tup [.str "s"], .tup [.str "s"]], .tup [.tup [.str "->", .tup [.str "e", .str "es", .str "ss"]], .tup [.str "<-", .tup [.str "e", .str "ee", .str "se"]]], .tup [.tup [], .tup []], .tup [.tup [.str "->", .tup [.str "e"]], .tup [.str "<-", .tup [.str "e", .str "ee", .str "s", .str "es"]], .tup [.str "->", .tup [.str "s", .str "se"]]], .tup [.tup [], .tup [.str "s"]], .tup [.tup [.str "->", .tup [.str "e", .str "es", .str "s", .str "ss"]], .tup [.str "<-", .tup [.str "e", .str "ee", .str "se"]]], .tup [.tup [], .tup [.str "s"]], .tup [.tup [.str "->", .tup [.str "e", .str "es"]], .tup [.str "<-", .tup [.str "e", .str "ee"]], .tup [.str "->", .tup [.str "s"]], .tup [.str "<-", .tup [.str "se"]]], .tup [.tup [.str "s"], .tup [.str "s"]], .tup [.tup [.str "->", .tup [.str "e", .str "es", .str "ss"]]], .tup [.tup [.str "e"], .tup []], .tup [.tup [.str "<-", .tup [.str "e", .str "ee", .str "s", .str "es"]], .tup [.str "->", .tup [.str "s", .str "se"]]], .tup [.tup [], .tup []], .tup [.tup [.str "->", .tup [.str "psk", .str "e"]], .tup [.str "<-", .tup [.str "e", .str "ee", .str "psk"]]], .tup [.tup [], .tup []], .tup [.tup [.str "->", .tup [.str "e", .str "s"]], .tup [.str "<-", .tup [.str "e", .str "ee", .str "se", .str "s"]], .tup [.str "->", .tup [.str "es", .str "psk"]]], .tup [.tup [], .tup [.str "s"]], .tup [.tup [.str "->", .tup [.str "e", .str "es", .str "s", .str "ss", .str "psk"]]]]
abbrev eX (x : Bef × List Msg) : I := .tup [eB x.1, eMs x.2]
abbrev sp_base (K : PySem.W.Frag) : Sp := spOf K (fun k _ => k < 12) (fun k : Nat => [.i (.int (k : Nat))]) (fun k a => ∃ x, bases[k]? = some x ∧ .i (eX x) = a)
theorem base_at : ∀ k : Nat, k < 12 → ∃ x, bases[k]? = some x ∧ atI baseD (2 * (k : Int)) = some (eB x.1) ∧ atI baseD (2 * (k : Int) + 1) = some (eMs x.2)
  | 0, _ => ⟨_, rfl, rfl, rfl⟩ | 1, _ => ⟨_, rfl, rfl, rfl⟩ | 2, _ => ⟨_, rfl, rfl, rfl⟩ | 3, _ => ⟨_, rfl, rfl, rfl⟩ | 4, _ => ⟨_, rfl, rfl, rfl⟩ | 5, _ => ⟨_, rfl, rfl, rfl⟩
  | 6, _ => ⟨_, rfl, rfl, rfl⟩ | 7, _ => ⟨_, rfl, rfl, rfl⟩ | 8, _ => ⟨_, rfl, rfl, rfl⟩ | 9, _ => ⟨_, rfl, rfl, rfl⟩ | 10, _ => ⟨_, rfl, rfl, rfl⟩ | 11, _ => ⟨_, rfl, rfl, rfl⟩
  | k + 12, h => absurd h (by omega)
theorem ok_base (D : Dh K mg "_law_base" s__law_base) : Cal P w K mg base 1 "_law_base" ["_law_number"] (sp_base K) := by
  refine cal_mk D sc__law_base (fun _ _ _ _ _ _ us hl => match us, hl with | [_], _ => rfl) (fun _ => rfl) (fun x a h => ?_) fun k f cdv Ar outer s H E Dd hr hp hD hN => ?_
  · simp at h; subst h; rfl
  · obtain ⟨x, h1, h2, h3⟩ := base_at k hp
    have nd := sc__law_base.nd
    have k0 : ∀ H, Mok none H := Mok.none
    refine wr_setN 1 nd (j_lst (ds := baseD) (ja_cons (j_tup (ds := [.tup [], .tup []]) (ja_cons (j_tup (ds := []) ja_nil) (ja_cons (j_tup (ds := []) ja_nil) ja_nil))) (ja_cons (j_tup (ds := [.tup [.str "->", .tup [.str "e"]], .tup [.str "<-", .tup [.str "e", .str "ee"]]]) (ja_cons (j_tup (ds := [.str "->", .tup [.str "e"]]) (ja_cons j_str (ja_cons (j_tup (ds := [.str "e"]) (ja_cons j_str ja_nil)) ja_nil))) (ja_cons (j_tup (ds := [.str "<-", .tup [.str "e", .str "ee"]]) (ja_cons j_str (ja_cons (j_tup (ds := [.str "e", .str "ee"]) (ja_cons j_str (ja_cons j_str ja_nil))) ja_nil))) ja_nil))) (ja_cons (j_tup (ds := [.tup [], .tup [.str "s"]]) (ja_cons (j_tup (ds := []) ja_nil) (ja_cons (j_tup (ds := [.str "s"]) (ja_cons j_str ja_nil)) ja_nil))) (ja_cons (j_tup (ds := [.tup [.str "->", .tup [.str "e", .str "es"]], .tup [.str "<-", .tup [.str "e", .str "ee"]]]) (ja_cons (j_tup (ds := [.str "->", .tup [.str "e", .str "es"]]) (ja_cons j_str (ja_cons (j_tup (ds := [.str "e", .str "es"]) (ja_cons j_str (ja_cons j_str ja_nil))) ja_nil))) (ja_cons (j_tup (ds := [.str "<-", .tup [.str "e", .str "ee"]]) (ja_cons j_str (ja_cons (j_tup (ds := [.str "e", .str "ee"]) (ja_cons j_str (ja_cons j_str ja_nil))) ja_nil))) ja_nil))) (ja_cons (j_tup (ds := [.tup [.str "s"], .tup []]) (ja_cons (j_tup (ds := [.str "s"]) (ja_cons j_str ja_nil)) (ja_cons (j_tup (ds := []) ja_nil) ja_nil))) (ja_cons (j_tup (ds := [.tup [.str "->", .tup [.str "e"]], .tup [.str "<-", .tup [.str "e", .str "ee", .str "se"]]]) (ja_cons (j_tup (ds := [.str "->", .tup [.str "e"]]) (ja_cons j_str (ja_cons (j_tup (ds := [.str "e"]) (ja_cons j_str ja_nil)) ja_nil))) (ja_cons (j_tup (ds := [.str "<-", .tup [.str "e", .str "ee", .str "se"]]) (ja_cons j_str (ja_cons (j_tup (ds := [.str "e", .str "ee", .str "se"]) (ja_cons j_str (ja_cons j_str (ja_cons j_str ja_nil)))) ja_nil))) ja_nil))) (ja_cons (j_tup (ds := [.tup [.str "s"], .tup [.str "s"]]) (ja_cons (j_tup (ds := [.str "s"]) (ja_cons j_str ja_nil)) (ja_cons (j_tup (ds := [.str "s"]) (ja_cons j_str ja_nil)) ja_nil))) (ja_cons (j_tup (ds := [.tup [.str "->", .tup [.str "e", .str "es", .str "ss"]], .tup [.str "<-", .tup [.str "e", .str "ee", .str "se"]]]) (ja_cons (j_tup (ds := [.str "->", .tup [.str "e", .str "es", .str "ss"]]) (ja_cons j_str (ja_cons (j_tup (ds := [.str "e", .str "es", .str "ss"]) (ja_cons j_str (ja_cons j_str (ja_cons j_str ja_nil)))) ja_nil))) (ja_cons (j_tup (ds := [.str "<-", .tup [.str "e", .str "ee", .str "se"]]) (ja_cons j_str (ja_cons (j_tup (ds := [.str "e", .str "ee", .str "se"]) (ja_cons j_str (ja_cons j_str (ja_cons j_str ja_nil)))) ja_nil))) ja_nil))) (ja_cons (j_tup (ds := [.tup [], .tup []]) (ja_cons (j_tup (ds := []) ja_nil) (ja_cons (j_tup (ds := []) ja_nil) ja_nil))) (ja_cons (j_tup (ds := [.tup [.str "->", .tup [.str "e"]], .tup [.str "<-", .tup [.str "e", .str "ee", .str "s", .str "es"]], .tup [.str "->", .tup [.str "s", .str "se"]]]) (ja_cons (j_tup (ds := [.str "->", .tup [.str "e"]]) (ja_cons j_str (ja_cons (j_tup (ds := [.str "e"]) (ja_cons j_str ja_nil)) ja_nil))) (ja_cons (j_tup (ds := [.str "<-", .tup [.str "e", .str "ee", .str "s", .str "es"]]) (ja_cons j_str (ja_cons (j_tup (ds := [.str "e", .str "ee", .str "s", .str "es"]) (ja_cons j_str (ja_cons j_str (ja_cons j_str (ja_cons j_str ja_nil))))) ja_nil))) (ja_cons (j_tup (ds := [.str "->", .tup [.str "s", .str "se"]]) (ja_cons j_str (ja_cons (j_tup (ds := [.str "s", .str "se"]) (ja_cons j_str (ja_cons j_str ja_nil))) ja_nil))) ja_nil)))) (ja_cons (j_tup (ds := [.tup [], .tup [.str "s"]]) (ja_cons (j_tup (ds := []) ja_nil) (ja_cons (j_tup (ds := [.str "s"]) (ja_cons j_str ja_nil)) ja_nil))) (ja_cons (j_tup (ds := [.tup [.str "->", .tup [.str "e", .str "es", .str "s", .str "ss"]], .tup [.str "<-", .tup [.str "e", .str "ee", .str "se"]]]) (ja_cons (j_tup (ds := [.str "->", .tup [.str "e", .str "es", .str "s", .str "ss"]]) (ja_cons j_str (ja_cons (j_tup (ds := [.str "e", .str "es", .str "s", .str "ss"]) (ja_cons j_str (ja_cons j_str (ja_cons j_str (ja_cons j_str ja_nil))))) ja_nil))) (ja_cons (j_tup (ds := [.str "<-", .tup [.str "e", .str "ee", .str "se"]]) (ja_cons j_str (ja_cons (j_tup (ds := [.str "e", .str "ee", .str "se"]) (ja_cons j_str (ja_cons j_str (ja_cons j_str ja_nil)))) ja_nil))) ja_nil))) (ja_cons (j_tup (ds := [.tup [], .tup [.str "s"]]) (ja_cons (j_tup (ds := []) ja_nil) (ja_cons (j_tup (ds := [.str "s"]) (ja_cons j_str ja_nil)) ja_nil))) (ja_cons (j_tup (ds := [.tup [.str "->", .tup [.str "e", .str "es"]], .tup [.str "<-", .tup [.str "e", .str "ee"]], .tup [.str "->", .tup [.str "s"]], .tup [.str "<-", .tup [.str "se"]]]) (ja_cons (j_tup (ds := [.str "->", .tup [.str "e", .str "es"]]) (ja_cons j_str (ja_cons (j_tup (ds := [.str "e", .str "es"]) (ja_cons j_str (ja_cons j_str ja_nil))) ja_nil))) (ja_cons (j_tup (ds := [.str "<-", .tup [.str "e", .str "ee"]]) (ja_cons j_str (ja_cons (j_tup (ds := [.str "e", .str "ee"]) (ja_cons j_str (ja_cons j_str ja_nil))) ja_nil))) (ja_cons (j_tup (ds := [.str "->", .tup [.str "s"]]) (ja_cons j_str (ja_cons (j_tup (ds := [.str "s"]) (ja_cons j_str ja_nil)) ja_nil))) (ja_cons (j_tup (ds := [.str "<-", .tup [.str "se"]]) (ja_cons j_str (ja_cons (j_tup (ds := [.str "se"]) (ja_cons j_str ja_nil)) ja_nil))) ja_nil))))) (ja_cons (j_tup (ds := [.tup [.str "s"], .tup [.str "s"]]) (ja_cons (j_tup (ds := [.str "s"]) (ja_cons j_str ja_nil)) (ja_cons (j_tup (ds := [.str "s"]) (ja_cons j_str ja_nil)) ja_nil))) (ja_cons (j_tup (ds := [.tup [.str "->", .tup [.str "e", .str "es", .str "ss"]]]) (ja_cons (j_tup (ds := [.str "->", .tup [.str "e", .str "es", .str "ss"]]) (ja_cons j_str (ja_cons (j_tup (ds := [.str "e", .str "es", .str "ss"]) (ja_cons j_str (ja_cons j_str (ja_cons j_str ja_nil)))) ja_nil))) ja_nil)) (ja_cons (j_tup (ds := [.tup [.str "e"], .tup []]) (ja_cons (j_tup (ds := [.str "e"]) (ja_cons j_str ja_nil)) (ja_cons (j_tup (ds := []) ja_nil) ja_nil))) (ja_cons (j_tup (ds := [.tup [.str "<-", .tup [.str "e", .str "ee", .str "s", .str "es"]], .tup [.str "->", .tup [.str "s", .str "se"]]]) (ja_cons (j_tup (ds := [.str "<-", .tup [.str "e", .str "ee", .str "s", .str "es"]]) (ja_cons j_str (ja_cons (j_tup (ds := [.str "e", .str "ee", .str "s", .str "es"]) (ja_cons j_str (ja_cons j_str (ja_cons j_str (ja_cons j_str ja_nil))))) ja_nil))) (ja_cons (j_tup (ds := [.str "->", .tup [.str "s", .str "se"]]) (ja_cons j_str (ja_cons (j_tup (ds := [.str "s", .str "se"]) (ja_cons j_str (ja_cons j_str ja_nil))) ja_nil))) ja_nil))) (ja_cons (j_tup (ds := [.tup [], .tup []]) (ja_cons (j_tup (ds := []) ja_nil) (ja_cons (j_tup (ds := []) ja_nil) ja_nil))) (ja_cons (j_tup (ds := [.tup [.str "->", .tup [.str "psk", .str "e"]], .tup [.str "<-", .tup [.str "e", .str "ee", .str "psk"]]]) (ja_cons (j_tup (ds := [.str "->", .tup [.str "psk", .str "e"]]) (ja_cons j_str (ja_cons (j_tup (ds := [.str "psk", .str "e"]) (ja_cons j_str (ja_cons j_str ja_nil))) ja_nil))) (ja_cons (j_tup (ds := [.str "<-", .tup [.str "e", .str "ee", .str "psk"]]) (ja_cons j_str (ja_cons (j_tup (ds := [.str "e", .str "ee", .str "psk"]) (ja_cons j_str (ja_cons j_str (ja_cons j_str ja_nil)))) ja_nil))) ja_nil))) (ja_cons (j_tup (ds := [.tup [], .tup []]) (ja_cons (j_tup (ds := []) ja_nil) (ja_cons (j_tup (ds := []) ja_nil) ja_nil))) (ja_cons (j_tup (ds := [.tup [.str "->", .tup [.str "e", .str "s"]], .tup [.str "<-", .tup [.str "e", .str "ee", .str "se", .str "s"]], .tup [.str "->", .tup [.str "es", .str "psk"]]]) (ja_cons (j_tup (ds := [.str "->", .tup [.str "e", .str "s"]]) (ja_cons j_str (ja_cons (j_tup (ds := [.str "e", .str "s"]) (ja_cons j_str (ja_cons j_str ja_nil))) ja_nil))) (ja_cons (j_tup (ds := [.str "<-", .tup [.str "e", .str "ee", .str "se", .str "s"]]) (ja_cons j_str (ja_cons (j_tup (ds := [.str "e", .str "ee", .str "se", .str "s"]) (ja_cons j_str (ja_cons j_str (ja_cons j_str (ja_cons j_str ja_nil))))) ja_nil))) (ja_cons (j_tup (ds := [.str "->", .tup [.str "es", .str "psk"]]) (ja_cons j_str (ja_cons (j_tup (ds := [.str "es", .str "psk"]) (ja_cons j_str (ja_cons j_str ja_nil))) ja_nil))) ja_nil)))) (ja_cons (j_tup (ds := [.tup [], .tup [.str "s"]]) (ja_cons (j_tup (ds := []) ja_nil) (ja_cons (j_tup (ds := [.str "s"]) (ja_cons j_str ja_nil)) ja_nil))) (ja_cons (j_tup (ds := [.tup [.str "->", .tup [.str "e", .str "es", .str "s", .str "ss", .str "psk"]]]) (ja_cons (j_tup (ds := [.str "->", .tup [.str "e", .str "es", .str "s", .str "ss", .str "psk"]]) (ja_cons j_str (ja_cons (j_tup (ds := [.str "e", .str "es", .str "s", .str "ss", .str "psk"]) (ja_cons j_str (ja_cons j_str (ja_cons j_str (ja_cons j_str (ja_cons j_str ja_nil)))))) ja_nil))) ja_nil)) ja_nil))))))))))))))))))))))))) (fun l H1 nl e1 _ e01 o => ?_) (k0 _)
    exact wr_ret (k0 _) (j_tup (ds := [eB x.1, eMs x.2]) (ja_cons (j_ix (k0 _) (rd_own (j_v 1) o) (j_mul j_int (j_v 0) (.inl ⟨by decide, by decide⟩)) h2) (ja_cons (j_ix (k0 _) (rd_own (j_v 1) o) (j_add (j_mul j_int (j_v 0) (.inl ⟨by decide, by decide⟩)) j_int) h3) ja_nil))) fun a v H2 φ e _ ax => hD a v H2 ⟨x, h1, φ⟩ e ax
/-! ### cells, names -/
abbrev sp_cell (K : PySem.W.Frag) : Sp := spOf K (fun x H => SqL K H x.1 (x.2.1.map V.int)) (fun x : Addr × List Int × Nat => [.r (.ref x.1), .i (.int (x.2.2 : Nat))]) (fun _ a => ∃ i, .i (.int i) = a)
theorem ok_cell (B : Bi w K mg C) (D : Dh K mg "_law_cell" s__law_cell) : Cal P w K mg base 1 "_law_cell" ["_law_script", "_law_k"] (sp_cell K) := by
  refine cal_mk D sc__law_cell (fun _ _ _ _ _ _ us hl => match us, hl with | [_, _], _ => rfl) (fun _ => rfl) (fun x a h => ?_) fun x f cdv Ar outer s H E Dd hr hp hD hN => ?_
  · simp at h; rcases h with h | h <;> (subst h; rfl)
  · obtain ⟨p, xs, k⟩ := x
    have hs : SqL K H p (xs.map V.int) := hp
    have k0 : ∀ H, Mok none H := Mok.none
    refine wr_if (c_lt (j_v 1) (j_lenS hs B.len (j_v 0))).t (fun hb => ?_) (fun _ => wr_go ?_)
    · have hk : (k : Int) < ((xs.map V.int).length : Nat) := of_decide_eq_true hb
      rw [List.length_map] at hk
      exact wr_ret (k0 _) (j_ixSq hs (j_v 0) (j_v 1) (List.getElem?_eq_getElem (show k < xs.length by omega))) fun a v H1 φ e _ ax => hD a v H1 ⟨_, φ⟩ e ax
    · exact wr_ret (k0 _) j_int fun a v H1 φ e _ ax => hD a v H1 ⟨_, φ⟩ e ax
abbrev sp_name (K : PySem.W.Frag) : Sp := spOf K free (fun x : Int => [.i (.int x)]) (fun _ a => ∃ z, .i (.str z) = a)
theorem ok_name (B : Bi w K mg C) (D : Dh K mg "_law_pattern_name" s__law_pattern_name) : Cal P w K mg base 1 "_law_pattern_name" ["_law_cell_here"] (sp_name K) := by
  refine cal_mk D sc__law_pattern_name (fun _ _ _ _ _ _ us hl => match us, hl with | [_], _ => rfl) (fun _ => rfl) (fun x a h => ?_) fun x f cdv Ar outer s H E Dd hr hp hD hN => ?_
  · simp at h; subst h; rfl
  · have nd := sc__law_pattern_name.nd
    have k0 : ∀ H, Mok none H := Mok.none
    refine wr_setN 1 nd (j_lst (ds := (["", "XX", "KK", "NN", "IKpsk2", "XXfallback+psk1", "x", "K1X1"] : List Str).map I.str) (ja_cons j_str (ja_cons j_str (ja_cons j_str (ja_cons j_str (ja_cons j_str (ja_cons j_str (ja_cons j_str (ja_cons j_str ja_nil))))))))) (fun l H1 nl e1 _ e01 o => ?_) (k0 _)
    exact wr_ret (k0 _) (j_ixN (R := fun d => ∃ z, d = .str z) (k0 _) (rd_own (j_v 1) o) (JI.n (P := fun i => 0 ≤ i ∧ i < 8) (j_mod (j_fdiv (j_abs B.abs (j_v 0)) j_int ⟨by decide, by decide⟩) j_int (by decide)) ⟨Int.emod_nonneg _ (by decide), Int.emod_lt_of_pos _ (by decide)⟩) (rg_ix rfl fun d hd => by
      obtain ⟨z, _, rfl⟩ := List.mem_map.mp hd; exact ⟨z, rfl⟩)) fun a v H2 ⟨d, ⟨z, q⟩, φ⟩ e _ ax => hD a v H2 ⟨z, by rw [← φ, q]⟩ e ax
end
end K38
end
section
/-! walks: an edit of a pattern; what is drawn -/
namespace K38
open PySem L2
/-! ### edits of lists -/
theorem WD.up {n : Nat} {ms : List Msg} (h : WD n ms) : WD (n + 1) ms := ⟨h.ne, h.few, fun m hm => ⟨(h.toks m hm).1, by have := (h.toks m hm).2; omega⟩, h.alt⟩
theorem set_parts {α : Type} : ∀ (l : List α) (a : Nat) (x : α), a < l.length → l.take a ++ [x] ++ l.drop (a + 1) = l.set a x
  | [], a, x, h => absurd h (by simp)
  | y :: l, 0, x, _ => by simp
  | y :: l, a + 1, x, h => by
    have := set_parts l a x (by simpa using h)
    simp only [List.take_succ_cons, List.cons_append, List.drop_succ_cons, List.set_cons_succ, this]
theorem WD.edit {n : Nat} {ms : List Msg} {a : Nat} {m : Msg} {ts : List Tk} (h : WD n ms) (hm : ms[a]? = some m) (h1 : ts ≠ []) (h2 : ts.length ≤ 8 + (n + 1)) : WD (n + 1) (ms.take a ++ [(m.1, ts)] ++ ms.drop (a + 1)) := by
  have ha : a < ms.length := (List.getElem?_eq_some_iff.mp hm).1
  rw [set_parts ms a _ ha]
  have key : ∀ (i : Nat) q, (ms.set a (m.1, ts))[i]? = some q → ∃ q0, ms[i]? = some q0 ∧ q0.1 = q.1 ∧ (q = q0 ∨ q = (m.1, ts)) := fun i q hq => by
    by_cases c : a = i
    · subst c
      rw [List.getElem?_set_self ha] at hq
      cases hq
      exact ⟨m, hm, rfl, .inr rfl⟩
    · rw [List.getElem?_set_ne c] at hq
      exact ⟨q, hq, rfl, .inl rfl⟩
  refine ⟨fun c => h.ne ?_, by rw [List.length_set]; exact h.few, fun q hq => ?_, fun i q r hq hr => ?_⟩
  · have := congrArg List.length c
    rw [List.length_set] at this
    exact List.length_eq_zero_iff.mp this
  · obtain ⟨i, hi, e⟩ := List.mem_iff_getElem.mp hq
    obtain ⟨q0, e1, e2, e3 | e3⟩ := key i q (by rw [List.getElem?_eq_getElem hi, e])
    · rw [e3]; exact h.up.toks q0 (List.mem_of_getElem? e1)
    · rw [e3]; exact ⟨h1, h2⟩
  · obtain ⟨q0, e1, e2, _⟩ := key i q hq
    obtain ⟨r0, f1, f2, _⟩ := key (i + 1) r hr
    rw [← e2, ← f2]
    exact h.alt i q0 r0 e1 f1
theorem WD.push {n : Nat} {ms : List Msg} {m : Msg} {ts : List Tk} (h : WD n ms) (hm : ms[ms.length - 1]? = some m) (h0 : ms.length < 12) (h1 : ts ≠ []) (h2 : ts.length ≤ 8 + (n + 1)) : WD (n + 1) (ms ++ [(!m.1, ts)]) := by
  have hl : 0 < ms.length := List.length_pos_iff.mpr h.ne
  refine ⟨fun c => by simp at c, by rw [List.length_append]; simp; omega, fun q hq => ?_, fun i q r hq hr => ?_⟩
  · rcases List.mem_append.mp hq with c | c
    · exact h.up.toks q c
    · rw [List.mem_singleton.mp c]; exact ⟨h1, h2⟩
  · have hi : i < ms.length := by
      by_cases c : i < ms.length
      · exact c
      · rw [List.getElem?_eq_none (by simp; omega)] at hr; cases hr
    rw [List.getElem?_append_left hi] at hq
    by_cases c : i + 1 < ms.length
    · rw [List.getElem?_append_left c] at hr; exact h.alt i q r hq hr
    · rw [List.getElem?_append_right (by omega)] at hr
      have e1 : i + 1 - ms.length = 0 := by omega
      have e2 : i = ms.length - 1 := by omega
      rw [e1] at hr
      rw [e2, hm] at hq
      cases hq; cases hr; rfl
section
variable {P : Program} {w : World} {K : PySem.W.Frag} {mg : Str → Option Value} {base : Heap} {C : Addr}
theorem at_last {α : Type} (f : α → I) {l : List α} {x : α} (h : l[l.length - 1]? = some x) : atI (l.map f) (-1) = some (f x) := by
  have hl : 0 < l.length := by
    cases l with
    | nil => simp at h
    | cons a r => simp
  have e : ixN (l.map f).length (-1) = some (l.length - 1) := by
    unfold ixN
    rw [if_neg (by decide), List.length_map, if_pos (by omega)]
    congr 1
    omega
  unfold atI
  rw [e]
  show (l.map f)[l.length - 1]? = _
  rw [List.getElem?_map, h]; rfl
abbrev sp_edit (K : PySem.W.Frag) : Sp := spM K (fun x : Nat × List Msg => WD x.1 x.2 ∧ x.1 ≤ 10) (fun x => [eMs x.2]) (fun x => Km (x.1 + 1))
theorem ok_edit (B : Bi w K mg C) (c1 : cal_dig P w K mg base) (D : Dh K mg "_law_edit" s__law_edit) : Cal P w K mg base 3 "_law_edit" ["_law_state_here", "_law_messages_here"] (sp_edit K) := by
  refine cal_mkM D sc__law_edit (fun _ _ _ _ _ _ us hl => match us, hl with | [_, _], _ => rfl) (fun _ => rfl) fun x st f cdv Ar outer s H E Dd hr hp mo hD => ?_
  obtain ⟨n, ms⟩ := x
  obtain ⟨hW, hn⟩ : WD n ms ∧ n ≤ 10 := hp
  have nd := sc__law_edit.nd
  have few := hW.few
  have l0 : 0 < ms.length := List.length_pos_iff.mpr hW.ne
  have fin : ∀ ms', WD (n + 1) ms' → ∀ (a : A) v H2, A.i (eMs ms') = a → Ek (some st) H H2 → Ax K (some st) H H H2 v a → Dd.rt v H2 := fun ms' h a v H2 q e ax => hD (eMs ms') v H2 ⟨ms', h, rfl⟩ e (by rw [q]; exact ax)
  refine wr_setN 2 nd (j_lst (ds := [Tk.e, .s, .ee, .es, .se, .ss, .psk].map eT) (ja_cons j_str (ja_cons j_str (ja_cons j_str (ja_cons j_str (ja_cons j_str (ja_cons j_str (ja_cons j_str ja_nil)))))))) (fun l H1 nl e1 mo1 e01 o => ?_) mo
  refine wr_setR 3 nd (JN.r (n := (ms.length : Nat)) (P := fun i => 0 ≤ i ∧ i < (ms.length : Nat)) (jn_mod (P2 := fun j => ((ms.length : Nat) : Int) = j) (JR.n (j_dig c1 (hr.mono (by decide)) (j_v 0) (by decide) (by decide))) (JI.n (j_lenM mo B.len (J.sk (j_v (a := .i (eMs ms)) 1) .t)) rfl) (fun i j _ h => by subst h; exact ⟨by omega, Int.emod_nonneg _ (by omega), Int.emod_lt_of_pos _ (by omega)⟩)) (fun i h => h)) fun d ⟨i, hi, q⟩ => ?_
  subst q
  obtain ⟨a, rfl⟩ : ∃ a : Nat, i = a := ⟨i.toNat, by omega⟩
  obtain ⟨m, hm⟩ : ∃ m, ms[a]? = some m := ⟨_, List.getElem?_eq_getElem (by omega)⟩
  have hmt := hW.toks m (List.mem_of_getElem? hm)
  have t0 : 0 < m.2.length := List.length_pos_iff.mpr hmt.1
  refine wr_asg (j_ixT mo (j_v (a := .i (eMs ms)) 1) (j_v 3) (d := eM m) (atI_map (i := a) eM hm)) (jg_tup rfl (jgs_cons (jg_name 4 nd) (jgs_cons (jg_name 5 nd) jgs_nil))) ?_
  refine wr_setR 6 nd (JN.r (n := ((m.2.length + 1 : Nat) : Int)) (P := fun i => 0 ≤ i ∧ i < ((m.2.length + 1 : Nat) : Int)) (jn_mod (P2 := fun j => ((m.2.length + 1 : Nat) : Int) = j) (JR.n (j_dig c1 (hr.mono (by decide)) (j_v 0) (by decide) (by decide))) (JI.n (j_succ (j_lenM mo B.len (J.sk (j_v (a := .i (eTs m.2)) 5) .t))) rfl) (fun i j _ h => by subst h; exact ⟨by omega, Int.emod_nonneg _ (by omega), Int.emod_lt_of_pos _ (by omega)⟩)) (fun i h => h)) fun d ⟨i, hi2, q⟩ => ?_
  subst q
  obtain ⟨p, rfl⟩ : ∃ p : Nat, i = p := ⟨i.toNat, by omega⟩
  refine wr_setR 7 nd (j_dig c1 (hr.mono (by decide)) (j_v 0) (by decide) (by decide)) fun d ⟨kd, hk, q⟩ => ?_
  subst q
  refine wr_setR 8 nd (j_ixN (R := Kn) mo (J.sk (j_own (j_v 2) o mo1) .l) (JR.n (j_dig c1 (hr.mono (by decide)) (j_v 0) (by decide) (by decide))) (rg_ix rfl fun d hd => by
    obtain ⟨t, _, rfl⟩ := List.mem_map.mp hd; exact ⟨t, rfl⟩)) fun d ⟨t, q⟩ => ?_
  subst q
  have tk : ∀ {X : Cx} {ρ : Ro} {G : Gh} {H' : Hp} {e x : Expr} {pos p2 : Pos}, JI X (some st) H H' ρ G e (eTs m.2) → JI X (some st) H H' ρ G x (.int (p : Nat)) → JI X (some st) H H' ρ G (.Subscript e (.Slice none (some x) none p2) pos) (.tup ((m.2.take p).map eT)) := fun h1 h2 => j_takeT eT h1 h2
  refine wr_ifX (α := List Tk) (fun ts => [some (.r (.ref st)), some (.i (eMs ms)), some (.r (.ref l)), some (.i (.int (a : Nat))), some (.i (.str (sdS m.1))), some (.i (eTs ts)), none, none, none, none]) (fun ts _ => ts ≠ [] ∧ ts.length ≤ 8 + (n + 1))
    (jt_and (p := decide (kd = 0)) (q := decide (1 < m.2.length)) (c_eqI (j_v 7) j_int).t fun _ => ((c_gt (j_lenM mo B.len (J.sk (j_v (a := .i (eTs m.2)) 5) .t)) j_int).is (decide_eq_decide.mpr (by omega))).t) (fun hb => ?_) (fun hb => ?_) (fun ts H2 ⟨h1, h2⟩ e02 mo2 => ?_)
  · have hb : 1 < m.2.length := by
      rw [Bool.and_eq_true] at hb; exact of_decide_eq_true hb.2
    refine wr_set 5 nd (Φ := Eq (.i (eTs (m.2.take p ++ m.2.drop (p + 1))))) (JI.is (j_catT (tk (j_v 5) (j_v 6)) (j_dropT eT (j_v 5) (j_succ (j_v 6))) ?_) ?_) fun a φ => ⟨by subst φ; rfl, ?_⟩
    · rw [List.length_map, List.length_map, List.length_take, List.length_drop]; omega
    · unfold eTs; rw [List.map_append]
    · subst φ
      refine wr_meetX (m.2.take p ++ m.2.drop (p + 1)) (fun _ _ _ => ⟨fun c => ?_, ?_⟩) (.keep (.keep (.keep (.keep (.keep (.keep (.drop (.drop (.drop (.drop .nil))))))))))
      · have := congrArg List.length c
        rw [List.length_append, List.length_take, List.length_drop] at this
        simp only [List.length_nil] at this
        omega
      · rw [List.length_append, List.length_take, List.length_drop]; omega
  · refine wr_if (c_eqI (j_v 7) j_int).t (fun _ => ?_) (fun _ => ?_)
    · refine wr_set 5 nd (Φ := Eq (.i (eTs (m.2.take p ++ [t] ++ m.2.drop (p + 1))))) (JI.is (j_catT (j_catT (es := [eT t]) (tk (j_v 5) (j_v 6)) (j_tup (ds := [eT t]) (ja_cons (j_v 8) ja_nil)) ?_) (j_dropT eT (j_v 5) (j_succ (j_v 6))) ?_) ?_) fun a φ => ⟨by subst φ; rfl, ?_⟩
      · rw [List.length_map, List.length_take]; simp only [List.length_singleton]; omega
      · rw [List.length_append, List.length_map, List.length_map, List.length_take, List.length_drop]; simp only [List.length_singleton]; omega
      · unfold eTs; rw [List.map_append, List.map_append]; rfl
      · subst φ
        refine wr_go (wr_meetX (m.2.take p ++ [t] ++ m.2.drop (p + 1)) (fun _ _ _ => ⟨fun c => by simp at c, ?_⟩) (.keep (.keep (.keep (.keep (.keep (.keep (.drop (.drop (.drop (.drop .nil)))))))))))
        rw [List.length_append, List.length_append, List.length_take, List.length_drop]; simp only [List.length_singleton]; omega
    · refine wr_if (jt_and (p := decide (kd = 2)) (q := decide (ms.length < 12)) (c_eqI (j_v 7) j_int).t fun _ => ((c_lt (j_lenM mo B.len (J.sk (j_v (a := .i (eMs ms)) 1) .t)) j_int).is (decide_eq_decide.mpr (by omega))).t) (fun hb => ?_) (fun _ => ?_)
      · have hb : ms.length < 12 := by
          rw [Bool.and_eq_true] at hb; exact of_decide_eq_true hb.2
        obtain ⟨ml, hml⟩ : ∃ q, ms[ms.length - 1]? = some q := ⟨_, List.getElem?_eq_getElem (by omega)⟩
        refine wr_set 9 nd (Φ := Eq (.i (eD (!ml.1)))) (j_arr (z := !ml.1) mo (j_intB B.int ((c_eqS (i := sdS ml.1) (j_ixT mo (j_ixT mo (j_v (a := .i (eMs ms)) 1) (j_neg j_int) (d := eM ml) (at_last eM hml)) j_int rfl) j_str).is (sdS_o _)).j)) fun a φ => ⟨by subst φ; rfl, ?_⟩
        subst φ
        refine wr_ret mo (JI.is (d' := eMs (ms ++ [(!ml.1, [t])])) (j_catT (es := [eM (!ml.1, [t])]) (j_v (a := .i (eMs ms)) 1) (j_tup (ds := [eM (!ml.1, [t])]) (ja_cons (j_tup (ds := [eD (!ml.1), eTs [t]]) (ja_cons (j_v 9) (ja_cons (j_tup (ds := [eT t]) (ja_cons (j_v 8) ja_nil)) ja_nil))) ja_nil)) ?_) ?_) fun a v H2 q e _ ax => fin _ (hW.push hml hb (by simp) (by simp; omega)) a v H2 q e ax
        · rw [List.length_map]; show ms.length + 1 ≤ 1000; omega
        · unfold eMs; rw [List.map_append]; rfl
      · refine wr_if ((c_lt (i := (m.2.length : Nat)) (j_lenM mo B.len (J.sk (j_v (a := .i (eTs m.2)) 5) .t)) j_int).is (q := decide (m.2.length < 8)) (decide_eq_decide.mpr (by omega))).t (fun hb => ?_) (fun _ => ?_)
        · have hb : m.2.length < 8 := of_decide_eq_true hb
          refine wr_set 5 nd (Φ := Eq (.i (eTs (m.2.take p ++ [t] ++ m.2.drop p)))) (JI.is (j_catT (j_catT (es := [eT t]) (tk (j_v 5) (j_v 6)) (j_tup (ds := [eT t]) (ja_cons (j_v 8) ja_nil)) ?_) (j_dropT eT (j_v 5) (j_v 6)) ?_) ?_) fun a φ => ⟨by subst φ; rfl, ?_⟩
          · rw [List.length_map, List.length_take]; simp only [List.length_singleton]; omega
          · rw [List.length_append, List.length_map, List.length_map, List.length_take, List.length_drop]; simp only [List.length_singleton]; omega
          · unfold eTs; rw [List.map_append, List.map_append]; rfl
          · subst φ
            refine wr_go (wr_go (wr_go (wr_meetX (m.2.take p ++ [t] ++ m.2.drop p) (fun _ _ _ => ⟨fun c => by simp at c, ?_⟩) (.keep (.keep (.keep (.keep (.keep (.keep (.drop (.drop (.drop (.drop .nil)))))))))))))
            rw [List.length_append, List.length_append, List.length_take, List.length_drop]; simp only [List.length_singleton]; omega
        · exact wr_go (wr_go (wr_go (wr_meetX m.2 (fun _ _ _ => ⟨hmt.1, by omega⟩) (.keep (.keep (.keep (.keep (.keep (.keep (.drop (.drop (.drop (.drop .nil)))))))))))))
  · refine wr_ret mo (JI.is (d' := eMs (ms.take a ++ [(m.1, ts)] ++ ms.drop (a + 1))) (j_catT (j_catT (es := [eM (m.1, ts)]) (j_takeT eM (j_v (a := .i (eMs ms)) 1) (j_v 3)) (j_tup (ds := [eM (m.1, ts)]) (ja_cons (j_tup (ds := [eD m.1, eTs ts]) (ja_cons (j_v 4) (ja_cons (j_v 5) ja_nil))) ja_nil)) ?_) (j_dropT eM (j_v (a := .i (eMs ms)) 1) (j_succ (j_v 3))) ?_) ?_) fun b v H2 q e _ ax => fin _ (hW.edit hm h1 h2) b v H2 q e ax
    · rw [List.length_map, List.length_take]; simp only [List.length_singleton]; omega
    · rw [List.length_append, List.length_map, List.length_map, List.length_take, List.length_drop]; simp only [List.length_singleton]; omega
    · unfold eMs; rw [List.map_append, List.map_append]; rfl
end
end K38
end
section
/-! walks: what is drawn -/
namespace K38
open PySem L2
def wdB (ms : List Msg) : Bool := !ms.isEmpty && decide (ms.length ≤ 12) && (ms.all fun m => !m.2.isEmpty && decide (m.2.length ≤ 8)) && (List.range ms.length).all fun i => match ms[i]?, ms[i + 1]? with
  | some m, some n => decide (n.1 = !m.1)
  | _, _ => true
theorem wd_of {ms : List Msg} (h : wdB ms = true) : WD 0 ms := by
  unfold wdB at h
  simp only [Bool.and_eq_true] at h
  obtain ⟨⟨⟨h1, h2⟩, h3⟩, h4⟩ := h
  refine ⟨fun c => (by rw [c] at h1; cases h1), of_decide_eq_true h2, fun m hm => ?_, fun i m n hm hn => ?_⟩
  · have := List.all_eq_true.mp h3 m hm
    simp only [Bool.and_eq_true] at this
    refine ⟨fun c => ?_, of_decide_eq_true this.2⟩
    have h5 := this.1
    rw [c] at h5; cases h5
  · have hi : i < ms.length := (List.getElem?_eq_some_iff.mp hm).1
    have := List.all_eq_true.mp h4 i (List.mem_range.mpr hi)
    rw [hm, hn] at this
    exact of_decide_eq_true this
def wbB (b : Bef) : Bool := decide (b.1.length ≤ 2) && decide (b.2.length ≤ 2) && b.1.all Tk.key && b.2.all Tk.key
theorem wb_of {b : Bef} (h : wbB b = true) : WB b := by
  unfold wbB at h
  simp only [Bool.and_eq_true] at h
  obtain ⟨⟨⟨h1, h2⟩, h3⟩, h4⟩ := h
  exact ⟨of_decide_eq_true h1, of_decide_eq_true h2, fun t ht => List.all_eq_true.mp h3 t ht, fun t ht => List.all_eq_true.mp h4 t ht⟩
theorem bases_wd : ∀ x ∈ bases, WB x.1 ∧ WD 0 x.2 := by
  have h : bases.all (fun x => wbB x.1 && wdB x.2) = true := by decide +kernel
  intro x hx
  have := List.all_eq_true.mp h x hx
  simp only [Bool.and_eq_true] at this
  exact ⟨wb_of this.1, wd_of this.2⟩
theorem WD.wf {n : Nat} {ms : List Msg} (h : WD n ms) (hn : n ≤ 12) : WF ms := ⟨h.ne, h.few, fun m hm => ⟨(h.toks m hm).1, by have := (h.toks m hm).2; omega⟩, h.alt⟩
section
variable {P : Program} {w : World} {K : PySem.W.Frag} {mg : Str → Option Value} {base : Heap} {C : Addr}
theorem JA.imp {X : Cx} {m : Mo} {H0 H : Hp} {ρ : Ro} {G : Gh} {es : List Expr} {Φ Ψ : List A → Prop} (h : JA X m H0 H ρ G es Φ) (k : ∀ a, Φ a → Ψ a) : JA X m H0 H ρ G es Ψ := fun σ H1 at_ Q q => h σ H1 at_ Q fun a v H2 φ => q a v H2 (k a φ)
def Kbb (d : I) : Prop := ∃ b, WB b ∧ d = eB b
theorem j_bb {X : Cx} {m : Mo} {H0 H : Hp} {ρ : Ro} {G : Gh} {a b : Expr} {pos : Pos} {x1} (ha : JR X m H0 H ρ G a Kb) (hb : JR X m H0 H ρ G b Kb) (h1 : starEach [a, b] X.env = (false, eval a X.env) :: starEach [b] X.env := by rfl) (h2 : starEach [b] X.env = (false, eval b X.env) :: starEach [] X.env := by rfl) :
    JR X m H0 H ρ G (.Tuple [a, b] x1 pos) Kbb := JR.imp (j_pairR ha hb h1 h2) fun d ⟨d1, d2, ⟨k1, ⟨l1, t1⟩, q1⟩, ⟨k2, ⟨l2, t2⟩, q2⟩, q⟩ => ⟨(k1, k2), ⟨l1, l2, t1, t2⟩, by rw [q, q1, q2]; rfl⟩
def Kd' (a : A) : Prop := ∃ b ms, (WB b ∧ WF ms) ∧ .i (eX (b, ms)) = a
abbrev sp_drawn (K : PySem.W.Frag) : Sp := spOf K free (fun x : Int × Int => [.i (.int x.1), .i (.int x.2)]) (fun _ => Kd')
theorem ok_drawn (B : Bi w K mg C) (c1 : cal_dig P w K mg base) (c2 : Cal P w K mg base 1 "_law_state" ["_law_cell_here", "_law_salt"] (sp_state K)) (c3 : Cal P w K mg base 3 "_law_before" ["_law_state_here"] (sp_bef K)) (c4 : Cal P w K mg base 4 "_law_messages" ["_law_state_here"] (sp_msgs K))
    (c5 : Cal P w K mg base 1 "_law_base" ["_law_number"] (sp_base K)) (c6 : Cal P w K mg base 3 "_law_edit" ["_law_state_here", "_law_messages_here"] (sp_edit K)) (D : Dh K mg "_law_drawn" s__law_drawn) : Cal P w K mg base 5 "_law_drawn" ["_law_cell_here", "_law_salt"] (sp_drawn K) := by
  refine cal_mk D sc__law_drawn (fun _ _ _ _ _ _ us hl => match us, hl with | [_, _], _ => rfl) (fun _ => rfl) (fun x a h => ?_) fun x f cdv Ar outer s H E Dd hr hp hD hN => ?_
  · simp at h; rcases h with h | h <;> (subst h; rfl)
  · obtain ⟨c, t⟩ := x
    have k0 : ∀ H, Mok none H := Mok.none
    have nd := sc__law_drawn.nd
    refine wr_setN 2 nd (ds := [.int (stF c t).1, .int (stF c t).2]) (j_call c2 (hr.mono (by decide)) (k0 _) (ja_cons (j_v 0) (ja_cons (j_v 1) ja_nil)) (c, t) rfl (fun _ _ _ => trivial) (fun a h => ⟨by subst h; rfl, h⟩)) (fun st H1 nl e1 _ e01 o => ?_) (k0 _)
    refine wr_sw o rfl fun H2 e2 mo => ?_
    have fin : ∀ b ms, WB b → WF ms → ∀ (a : A) v H3, A.i (eX (b, ms)) = a → Ek (some st) H2 H3 → Ax K (some st) H2 H2 H3 v a → Dd.rt v H3 := fun b ms h1 h2 a v H3 q e ax => hD a v H3 ⟨b, ms, ⟨h1, h2⟩, q⟩ (e.lose (e01.trans e2) nl) (by subst q; exact ax)
    refine wr_setR 3 nd (j_dig c1 (hr.mono (by decide)) (j_v 2) (by decide) (by decide)) fun d ⟨kd, hk, q⟩ => ?_
    subst q
    have jb : ∀ {X : Cx} {H' : Hp} {ρ : Ro} {G : Gh} {e : Expr} {p pos : Pos}, Cal X.prog X.w X.K X.mg X.base 3 "_law_before" ["_law_state_here"] (sp_bef X.K) → Room 3 X.A → J X (some st) H2 H' ρ G e (Eq (.r (.ref st))) → (starEach [e] X.env = (false, eval e X.env) :: starEach [] X.env) → ((backTo pos (starEach [] X.env)).any (·.1) = false) → Gl X "_law_before" → JR X (some st) H2 H' ρ G (.Call (.Name "_law_before" p) [e] [] pos) Kb :=
      fun c hr h he hpl hg => j_callM c hr () (ja_cons h ja_nil he) trivial hg (by decide) he hpl
    refine wr_if (c_eqI (j_v 3) j_int).t (fun _ => ?_) (fun _ => wr_go ?_)
    · refine wr_setR 4 nd (j_bb (jb c3 (hr.mono (by decide)) (j_v 2) rfl rfl rfl) (jb c3 (hr.mono (by decide)) (j_v 2) rfl rfl rfl)) fun d ⟨b, hb, q⟩ => ?_
      subst q
      exact wr_ret mo (j_pairR (Ra := fun d => d = eB b) (Rb := Km 0) (JI.r (j_v 4) rfl) (j_callM c4 (hr.mono (by decide)) () (ja_cons (j_v 2) ja_nil) trivial)) fun a v H3 ⟨d, ⟨d1, d2, q1, ⟨ms, hw, q2⟩, q3⟩, q⟩ e _ ax => fin b ms hb (hw.wf (by decide)) a v H3 (by rw [← q, q3, q1, q2]) e ax
    · refine wr_asgR (R := fun d => ∃ b ms, (WB b ∧ WD 0 ms) ∧ d = eX (b, ms)) (j_callR (fun k => k < 12) c5 (hr.mono (by decide)) mo (JA.imp (ja_cons' (j_dig c1 (hr.mono (by decide)) (j_v 2) (by decide) (by decide)) ja_nil) fun as ⟨a, r, ⟨d, ⟨i, hi, q1⟩, q2⟩, q3, q4⟩ => ⟨i.toNat, by omega, by
          rw [← q4, ← q3, ← q2, q1]
          show [A.i (.int i)] = [A.i (.int ((i.toNat : Nat) : Int))]
          rw [Int.toNat_of_nonneg hi.1]⟩) (fun k hk _ _ _ => hk) (fun k hk a ⟨x, hx, q⟩ => ⟨by subst q; rfl, eX x, ⟨x.1, x.2, bases_wd x (List.mem_of_getElem? hx), rfl⟩, q⟩)) (fun d ⟨b, ms, ⟨hb, hm⟩, q⟩ => ?_)
      subst q
      refine ⟨_, jg_tup rfl (jgs_cons (jg_name 4 nd) (jgs_cons (jg_name 5 nd) jgs_nil)), ?_⟩
      refine wr_ifXn (α := Bef) (Φ := fun _ => True) (fun b => [some (.i (.int c)), some (.i (.int t)), some (.r (.ref st)), some (.i (.int kd)), some (.i (eB b)), some (.i (eMs ms)), none]) (fun b _ => WB b)
        (jt_w (jw_and' (Φ := Eq (decide (kd = 2))) (Φ2 := fun _ => True) (c_eqI (j_v 3) j_int).t (fun _ => jw_and1 (cn_eq (JR.n (j_dig c1 (hr.mono (by decide)) (j_v 2) (by decide) (by decide))) j_int).t) (fun _ => trivial) (fun _ _ _ => trivial))) (fun _ => ?_) (fun _ => ?_) (fun b H3 hb e03 mo3 => ?_)
      · refine wr_setR 4 nd (j_bb (jb c3 (hr.mono (by decide)) (j_v 2) rfl rfl rfl) (jb c3 (hr.mono (by decide)) (j_v 2) rfl rfl rfl)) fun d ⟨b', hb', q⟩ => ?_
        subst q
        exact wr_meetX b' (fun _ _ _ => hb') (Sub.refl _)
      · exact wr_meetX b (fun _ _ _ => hb) (Sub.refl _)
      · refine wr_forRX (α := List Msg) (P := fun n => 0 ≤ n ∧ n < 4) B.range (JR.n (j_dig c1 (hr.mono (by decide)) (j_v 2) (by decide) (by decide))) (fun n h => by omega) (fun ms => [some (.i (.int c)), some (.i (.int t)), some (.r (.ref st)), some (.i (.int kd)), some (.i (eB b)), some (.i (eMs ms)), none]) (fun ms i _ => WD i ms) ms rfl (Sub.refl _) (fun _ _ _ => hm) ?_ ?_
        · intro ms n i H4 hn hi hw e04 mo4
          refine ⟨_, jg_name 6 nd, ?_⟩
          refine wr_setR 5 nd (j_callM c6 (hr.mono (by decide)) (i, ms) (ja_cons (j_v 2) (ja_cons (j_v 5) ja_nil)) ⟨hw, by show i ≤ 10; omega⟩) fun d ⟨ms', hw', q⟩ => ?_
          subst q
          exact wr_nextX ms' (fun _ _ _ => hw') (.keep (.keep (.keep (.keep (.keep (.keep (.drop .nil)))))))
        · intro ms n H4 hn hw e04 mo4
          exact wr_ret mo (j_tup (ds := [eB b, eMs ms]) (ja_cons (j_v 4) (ja_cons (j_v 5) ja_nil))) fun a v H5 q e _ ax => fin b ms hb (hw.wf (by omega)) a v H5 q e ax
end
end K38
end
section
/-! walks: a pattern is made; the law -/
namespace K38
open PySem L2
section
variable {P : Program} {w : World} {K : PySem.W.Frag} {mg : Str → Option Value} {base : Heap} {C : Addr}
abbrev psI : List Str := ["self", "name", "before", "messages"]
def f1 (v1 : V) : List (Str × V) := putF "name" v1 []
def f2 (v1 v2 : V) : List (Str × V) := putF "before" v2 (f1 v1)
def f3 (v1 v2 v3 : V) : List (Str × V) := putF "messages" v3 (f2 v1 v2)
def hpI (H : Hp) (a C dx : Addr) (v1 v2 v3 : V) : Hp := upd (upd (upd H a (.ins C dx (f1 v1))) a (.ins C dx (f2 v1 v2))) a (.ins C dx (f3 v1 v2 v3))
def spInit (C : Addr) : Sp := fun vs H Q _ => ∃ a dx v1 v2 v3, vs = [.ref a, v1, v2, v3] ∧ H a = some (.ins C dx []) ∧ Q .non (hpI H a C dx v1 v2 v3)
structure Mki (P : Program) (w : World) (K : PySem.W.Frag) (mg : Str → Option Value) (base : Heap) (C : Addr) : Prop where
  ex : ∃ f fd, Mk K C f ∧ FnOk P w K mg base CX0 1 f fd psI (spInit C) ∧ mg "Pattern" = some (.ref C) ∧ Binds K fd psI []
theorem rv {X : Cx} {i : Nat} {x : Str} {pos : Pos} {σ : L2.St} {H : Hp} {v : V} {Q : VK} (hs : σ[i]? = some (some v)) (hN : X.N[i]? = some x) (hv : Vis X.env.scope x) (q : Q v H) (hd : (x == ("__debug__" : Str)) = false := by decide) (hcd : (x == ("__classdict__" : Str)) = false := by decide) : rE X (.Name x pos) σ H Q := ⟨_, pe_var hN hv (hd := hd) (hcd := hcd), v, hs, q⟩
theorem ok_init (B : Bi w K mg C) {f : Addr} {fd : FuncData} (F : FunD K "__init__" "Pattern.__init__" (defArgs s_init) (defBody s_init) (defScope s_init) [] [] f fd) : FnOk P w K mg base CX0 1 f fd psI (spInit C) := by
  refine F.ok sc_init (fun vs H Q E h => ?_) (fun cdv A outer s H vs Q E hr h => ?_)
  · obtain ⟨a, dx, v1, v2, v3, rfl, _⟩ := h; rfl
  · obtain ⟨a, dx, v1, v2, v3, rfl, ha, q⟩ := h
    have key : WS (cxOf CX0 P w K mg base psI "Pattern.__init__" (defScope s_init) f cdv A outer s H E).nox (defBody s_init) { nx := fun _ H' => Q .non H', rt := Q } (L2.start psI [.ref a, v1, v2, v3]) H := by
      refine ws_cons (ps_fld pe_r pe_r rfl) (rv (v := v1) (i := 1) rfl rfl (.inl rfl) (rv (v := .ref a) (i := 0) rfl rfl (.inl rfl) ⟨a, C, dx, [], rfl, ha, B.cl, B.nN, by show 0 < 1000; decide, ?_⟩))
      refine ws_cons (ps_fld pe_r pe_r rfl) (rv (v := v2) (i := 2) rfl rfl (.inl rfl) (rv (v := .ref a) (i := 0) rfl rfl (.inl rfl) ⟨a, C, dx, f1 v1, rfl, upd_same, B.cl, B.nB, by show 1 < 1000; decide, ?_⟩))
      refine ws_cons (ps_fld pe_r pe_r rfl) (rv (v := v3) (i := 3) rfl rfl (.inl rfl) (rv (v := .ref a) (i := 0) rfl rfl (.inl rfl) ⟨a, C, dx, f2 v1 v2, rfl, upd_same, B.cl, B.nM, by show 2 < 1000; decide, ?_⟩))
      exact ⟨_, pss_nil, q⟩
    obtain ⟨t, h1, h2⟩ := key
    exact ⟨t, h1.nox, h2⟩
section
variable {X : Cx} {H0 H : Hp} {ρ : Ro} {G : Gh} {e1 e2 e3 : Expr} {pos pos2 p p' : Pos} {rest : List Stmt} {D : Ends}
theorem wr_mk (i : Nat) {x : Str} {b : Bef} {ms : List Msg} (M : Mki X.prog X.w X.K X.mg X.base C) (hr : Room 2 X.A) (hN : X.N.Nodup) (h1 : JR X none H0 H ρ G e1 (fun d => ∃ z, d = .str z)) (h2 : JI X none H0 H ρ G e2 (eB b)) (h3 : JI X none H0 H ρ G e3 (eMs ms))
    (k : ∀ p H1, Ek none H H1 → Ek none H0 H1 → Pat X.K C H1 p b ms → WR X none H0 H1 (ρ.set i (some (.r (.ref p)))) G D rest)
    (hi : X.N[i]? = some x := by rfl) (hx : Loc X.env.scope x := by first | exact Or.inl rfl | exact Or.inr rfl) (hs : swapsWith (.Call (.Name "Pattern" p) [e1, e2, e3] [] pos2) (some (.Name x p')) pos.line X.env = pure false := by rfl) (hf : X.fn x = true ∨ X.env.scope.names.lookup x = some .local := by first | exact .inl rfl | exact .inr rfl)
    (hg : Gl X "Pattern" := by rfl) (g1 : starEach [e1, e2, e3] X.env = (false, eval e1 X.env) :: starEach [e2, e3] X.env := by rfl) (g2 : starEach [e2, e3] X.env = (false, eval e2 X.env) :: starEach [e3] X.env := by rfl) (g3 : starEach [e3] X.env = (false, eval e3 X.env) :: starEach [] X.env := by rfl) (hpl : (backTo pos2 (starEach [e2, e3] X.env)).any (·.1) = false := by rfl) :
    WR X none H0 H ρ G D (.Assign [.Name x p'] (.Call (.Name "Pattern" p) [e1, e2, e3] [] pos2) pos :: rest) := by
  obtain ⟨f, fd, hM, hF, hm, hb⟩ := M.ex
  refine fun σ H1 at_ => ws_cons (ps_set hN hi hx (pe_make hM hF hr hg hm hb .nil pass0 pa_r (by decide) g1 hpl) hs hf) ?_
  refine (ja_cons' h1 (ja_cons' h2 (ja_cons' h3 ja_nil g3) g2) g1) σ H1 at_ _ fun as vs H2 φ e ax => ?_
  obtain ⟨a1, r1, ⟨d, ⟨z, hz⟩, q1⟩, ⟨a2, r2, q2, ⟨a3, r3, q3, q4, q5⟩, q6⟩, q7⟩ := φ
  subst hz
  subst q1 q2 q3 q4
  subst q5
  subst q6
  subst q7
  intro a dx ha hdx ne
  cases ax with
  | @cons v1 _ _ _ t1 ax =>
  cases ax with
  | @cons v2 _ _ _ t2 ax =>
  cases ax with
  | @cons v3 _ _ _ t3 ax =>
  cases ax
  refine ⟨a, dx, v1, v2, v3, rfl, upd_same, rfl, ?_⟩
  have old : ∀ (c : Addr) o, H2 c = some o → hpI (upd (upd H2 dx (.own a)) a (.ins C dx [])) a C dx v1 v2 v3 c = some o := fun c o hc => by
    have n1 : c ≠ a := ne_of_none hc ha
    have n2 : c ≠ dx := ne_of_none hc hdx
    unfold hpI
    rw [upd_ne n1, upd_ne n1, upd_ne n1, upd_ne n1, upd_ne n2]
    exact hc
  have ek : Ek none H2 (hpI (upd (upd H2 dx (.own a)) a (.ins C dx [])) a C dx v1 v2 v3) := Ek.of_same old
  have at2 := at_.go e
  have at3 := at2.go ek
  have tx : Tx X.K _ _ := ek.tx at2.mo
  refine k a _ at3.ek at3.ek0 ⟨dx, f3 v1 v2 v3, v2, v3, upd_same, rfl, rfl, ?_, ?_⟩ _ _ ⟨.refl _, at3.ek0, at3.mo, at3.en.set i (a := .r (.ref a)) rfl rfl⟩
  · exact It.tx tx t2
  · exact It.tx tx t3
theorem jn_abs {P : Int → Prop} {a : Expr} (hm : X.mg "abs" = none) (ha : JN X none H0 H ρ G a P) (hg : Gl X "abs" := by rfl)
    (he : starEach [a] X.env = (false, eval a X.env) :: starEach [] X.env := by rfl) (hpl : (backTo pos (starEach [] X.env)).any (·.1) = false := by rfl) : JN X none H0 H ρ G (.Call (.Name "abs" p) [a] [] pos) (fun i => 0 ≤ i) :=
  j_cb call_abs hm (by decide +kernel) ha (fun σ Hs H1 x a1 at_ e k0 ⟨i, hi, φ⟩ ax Q q => by
    subst φ
    exact ⟨i, by rw [un_i ax], q _ _ H1 ⟨if i < 0 then -i else i, by split <;> omega, rfl⟩ (.refl _) (It.int _)⟩) hg (by decide) (by decide) he hpl
end
/-- a def that reads: from its body; its function is told -/
theorem fn_mk {n : Str} {st : Stmt} {N ps : List Str} {k : Nat} {τ : Type} {pre : τ → Hp → Prop} {as : τ → List A} {r : τ → A → Prop} {f : Addr} {fd : FuncData} (F : FnP K n st f fd) (S : FnScope N ps (defScope st))
    (hl : ∀ x, (as x).length = ps.length) (hk : ∀ x, ∀ a ∈ as x, a.keep = true)
    (body : ∀ (x : τ) (f : Addr) (cdv : Value) (A : Around) (outer : List Env) (s : Shared) (H : Hp) (E : XK) (Dd : Ends), Room k (XO P w K mg base N n st f cdv A outer s H E).A → pre x H →
      (∀ a v H1, r x a → Ek none H H1 → Ax K none H H H1 v a → Dd.rt v H1) → (∀ σ H1, r x (.i .non) → Ek none H H1 → Dd.nx σ H1) →
      WR (XO P w K mg base N n st f cdv A outer s H E) none H H (stR N (as x)) [] Dd (defBody st)) : FnOk P w K mg base CX0 (k + 1) f fd ps (spOf K pre as r) := by
  refine F.ok S (fun vs H Q E h => ?_) (fun cdv A outer s H vs Q E hr h => ?_)
  · obtain ⟨x, _, ha, _⟩ := h
    rw [(axl_at ha).1, hl x]
  · obtain ⟨x, hp, ha, q⟩ := h
    obtain ⟨t, h1, h2⟩ := body x f cdv A outer s H E { nx := fun _ H' => Q .non H', rt := Q } hr hp (fun a v H1 ra e ax => q a v H1 ra e ax) (fun σ H1 ra e => q _ _ H1 ra e It.non) (L2.start N vs) H
      ⟨.refl _, .refl _, Mok.none _, en_start ha (hk x)⟩
    exact ⟨t, h1.nox, h2⟩
abbrev sp_law (K : PySem.W.Frag) : Sp := spOf K (fun x H => SqL K H x.1 (x.2.map V.int)) (fun x : Addr × List Int => [.r (.ref x.1)]) (fun _ a => .i (.bl true) = a)
theorem ok_law (math : ∀ b ms, WF ms → WB b → brk b ms = 0 → StOk (steps b ms) ∧ PskOk ms ∧ GrOk ms) (B : Bi w K mg C) (M : Mki P w K mg base C) (c1 : Cal P w K mg base 1 "_law_cell" ["_law_script", "_law_k"] (sp_cell K)) (c2 : Cal P w K mg base 5 "_law_drawn" ["_law_cell_here", "_law_salt"] (sp_drawn K))
    (c3 : Cal P w K mg base 1 "_law_base" ["_law_number"] (sp_base K)) (c4 : Cal P w K mg base 1 "_law_pattern_name" ["_law_cell_here"] (sp_name K)) (c5 : Cal P w K mg base 4 "_law_broken" ["_law_before_here", "_law_messages_here"] (sp_brk K))
    (c6 : Cal P w K mg base 3 "broken_rule" ["pattern"] (sp_broken K C)) (c7 : Cal P w K mg base 5 "_law_right_pattern" ["_law_pattern", "_law_messages_here"] (sp_rp K C)) {f : Addr} {fd : FuncData} (F : FnP K "law" s_law f fd) : FnOk P w K mg base CX0 6 f fd ["_law_script"] (sp_law K) := by
  refine fn_mk F sc_law (fun _ => rfl) (fun x a h => ?_) fun x f cdv Ar outer s H E Dd hr hp hD hN => ?_
  · simp at h; subst h; rfl
  · obtain ⟨sp, xs⟩ := x
    have hs : SqL K H sp (xs.map V.int) := hp
    have k0 : ∀ H, Mok none H := Mok.none
    have nd := sc_law.nd
    refine wr_forR (P := fun n => (7 : Int) = n) B.range (JI.n j_int rfl) (fun n h => by omega) (fun _ => [some (.r (.ref sp)), none, none, none, none]) (fun _ _ => True) rfl (Sub.refl _) (fun _ _ _ => trivial) ?_ ?_
    · intro n i H1 hn hi _ e01 _
      have hi : i < 7 := by omega
      refine ⟨_, jg_name 1 nd, ?_⟩
      have cell : ∀ {X : Cx} {H' : Hp} {ρ : Ro} {G : Gh} {a e : Expr} {p pos : Pos} {k : Nat}, Cal X.prog X.w X.K X.mg X.base 1 "_law_cell" ["_law_script", "_law_k"] (sp_cell X.K) → Room 1 X.A → SqL X.K H sp (xs.map V.int) → JA X none H H' ρ G [a, e] (Eq [.r (.ref sp), .i (.int (k : Nat))]) → (starEach [a, e] X.env = (false, eval a X.env) :: starEach [e] X.env) → ((backTo pos (starEach [e] X.env)).any (·.1) = false) → Gl X "_law_cell" →
          JN X none H H' ρ G (.Call (.Name "_law_cell" p) [a, e] [] pos) (fun _ => True) :=
        fun c hr hs ha he hpl hg => j_call c hr (k0 _) ha (sp, xs, _) rfl (fun H1 e e' => sql_ek hs e') (fun a ⟨v, h⟩ => ⟨by subst h; rfl, v, trivial, h⟩) hg (by decide) he hpl
      refine wr_ifX (α := Bef × List Msg) (fun x => [some (.r (.ref sp)), some (.i (.int (i : Nat))), some (.i (eB x.1)), some (.i (eMs x.2)), none]) (fun x _ => WB x.1 ∧ WF x.2 ∧ (i = 6 → x ∈ bases)) ((c_lt (i := (i : Nat)) (j_v 1) j_int).is (q := decide (i < 6)) (decide_eq_decide.mpr (by omega))).t (fun hb => ?_) (fun hb => ?_) (fun x H2 ⟨hB, hW, h6⟩ e02 _ => ?_)
      · have hb : i < 6 := of_decide_eq_true hb
        refine wr_asgR (R := fun d => ∃ b ms, (WB b ∧ WF ms) ∧ d = eX (b, ms)) (j_callR (fun _ => True) c2 (hr.mono (by decide)) (k0 _) (JA.imp (ja_cons' (cell c1 (hr.mono (by decide)) hs (ja_cons (j_v 0) (ja_cons (j_v 1) ja_nil)) rfl rfl rfl) (ja_cons (j_v (a := .i (.int (i : Nat))) 1) ja_nil)) fun as ⟨a, r, ⟨v, _, q1⟩, q2, q3⟩ => ⟨(v, (i : Nat)), trivial, by rw [← q3, ← q2, ← q1]; rfl⟩) (fun _ _ _ _ _ => trivial) (fun _ _ a ⟨b, ms, h, q⟩ => ⟨by subst q; rfl, _, ⟨b, ms, h, rfl⟩, q⟩)) (fun d ⟨b, ms, ⟨h1, h2⟩, q⟩ => ?_)
        subst q
        exact ⟨_, jg_tup rfl (jgs_cons (jg_name 2 nd) (jgs_cons (jg_name 3 nd) jgs_nil)), wr_meetX (b, ms) (fun _ _ _ => ⟨h1, h2, fun c => by omega⟩) (Sub.refl _)⟩
      · refine wr_asgR (R := fun d => ∃ x, x ∈ bases ∧ d = eX x) (j_callR (fun k => k < 12) c3 (hr.mono (by decide)) (k0 _) (JA.imp (ja_cons' (jn_mod (P := fun i => 0 ≤ i ∧ i < 12) (P2 := fun j => 12 = j) (jn_abs B.abs (cell (k := 6) c1 (hr.mono (by decide)) hs (ja_cons (j_v 0) (ja_cons j_int ja_nil)) rfl rfl rfl)) (JI.n j_int rfl) (fun i j h1 h2 => by subst h2; exact ⟨by decide, Int.emod_nonneg _ (by decide), Int.emod_lt_of_pos _ (by decide)⟩)) ja_nil) fun as ⟨a, r, ⟨v, hv, q1⟩, q3, q4⟩ => ⟨v.toNat, by omega, by
            rw [← q4, ← q3, ← q1]
            show [A.i (.int v)] = [A.i (.int ((v.toNat : Nat) : Int))]
            rw [Int.toNat_of_nonneg hv.1]⟩) (fun k hk _ _ _ => hk) (fun k hk a ⟨x, hx, q⟩ => ⟨by subst q; rfl, eX x, ⟨x, List.mem_of_getElem? hx, rfl⟩, q⟩)) (fun d ⟨x, hx, q⟩ => ?_)
        subst q
        obtain ⟨w1, w2⟩ := bases_wd x hx
        exact ⟨_, jg_tup rfl (jgs_cons (jg_name 2 nd) (jgs_cons (jg_name 3 nd) jgs_nil)), wr_meetX x (fun _ _ _ => ⟨w1, w2.wf (by decide), fun _ => hx⟩) (Sub.refl _)⟩
      · obtain ⟨b, ms⟩ := x
        have hB : WB b := hB
        have hW : WF ms := hW
        refine wr_mk 4 (b := b) (ms := ms) M (hr.mono (by decide)) nd (j_callR (fun _ => True) c4 (hr.mono (by decide)) (k0 _) (JA.imp (ja_cons' (cell (k := 7 + i) c1 (hr.mono (by decide)) hs (ja_cons (j_v 0) (ja_cons ((j_add (i := 7) (j := (i : Nat)) j_int (j_v 1)).is (congrArg I.int (by omega))) ja_nil)) rfl rfl rfl) ja_nil) fun as ⟨a, r, ⟨v, _, q1⟩, q2, q3⟩ => ⟨v, trivial, by rw [← q3, ← q2, ← q1]; rfl⟩) (fun _ _ _ _ _ => trivial) (fun _ _ a ⟨z, q⟩ => ⟨by subst q; rfl, _, ⟨z, rfl⟩, q⟩)) (j_v 2) (j_v 3) fun p H3 e3 e03 hP => ?_
        refine wr_if ((c_eqI (i := brk b ms) (j_call c5 (hr.mono (by decide)) (k0 _) (ja_cons (j_v 2) (ja_cons (j_v 3) ja_nil)) (b, ms) rfl (fun _ _ _ => ⟨hW, hB⟩) (fun a h => ⟨by subst h; rfl, h⟩)) j_int)).t (fun hb => ?_) (fun hb => ?_)
        · have hb : brk b ms = 0 := of_decide_eq_true hb
          obtain ⟨m1, m2, m3⟩ := math b ms hW hB hb
          refine wr_if (JT.is (q := false) (jt_or (p := false) (q := false) (c_neI (i := 0) (j := 0) (j_call c6 (hr.mono (by decide)) (k0 _) (ja_cons (j_v 4) ja_nil) (p, b, ms) rfl (fun H4 e4 _ => ⟨hP.ek e4 (k0 _), hW, hB, m1, m2⟩) (fun a h => ⟨by subst h; rfl, h⟩)) j_int).t fun _ => jt_not (p := true) (jt_of (j_call c7 (hr.mono (by decide)) (k0 _) (ja_cons (j_v 4) (ja_cons (j_v 3) ja_nil)) (p, b, ms) rfl (fun H4 e4 _ => ⟨hP.ek e4 (k0 _), hW, m3⟩) (fun a h => ⟨by subst h; rfl, h⟩)))) rfl) (fun h => nomatch h) (fun _ => wr_go (wr_go (wr_next (fun _ _ _ => trivial) (.keep (.drop (.drop (.drop (.drop .nil))))))))
        · have hb : ¬ brk b ms = 0 := of_decide_eq_false hb
          refine wr_if ((c_eqI (i := (i : Nat)) (j_v 1) j_int).is (q := false) (decide_eq_false fun c => hb (bases_ok _ (h6 (by omega))))).t (fun h => nomatch h) (fun _ => wr_go (wr_go (wr_next (fun _ _ _ => trivial) (.keep (.drop (.drop (.drop (.drop .nil))))))))
    · intro n H1 hn _ e01 _
      exact wr_ret (k0 _) j_bl fun a v H2 φ e _ ax => hD a v H2 φ e ax
end
end K38
end
section
/-! the plain law: the rules, from the law's own count to the program's steps -/
namespace K38
open PySem
theorem brk_split {b : Bef} {ms : List Msg} (h : brk b ms = 0) : brC b (flat ms) 1 = false ∧ brC b (flat ms) 2 = false ∧ brK b (flat ms) = false ∧ brE b ms 4 = false ∧ brP ms = false ∧ brE b ms 6 = false := by
  unfold brk at h
  cases h1 : brC b (flat ms) 1 <;> cases h2 : brC b (flat ms) 2 <;> cases h3 : brK b (flat ms) <;> cases h4 : brE b ms 4 <;> cases h5 : brP ms <;> cases h6 : brE b ms 6 <;> simp [h1, h2, h3, h4, h5, h6] at h ⊢
theorem psk_ok {ms : List Msg} (h : brP ms = false) : PskOk ms := by
  intro i m hm hin
  have hi : i < ms.length := (List.getElem?_eq_some_iff.mp hm).1
  have hb : brPat i m.2 = false := by
    have := (List.any_eq_false.mp h) i (List.mem_range.mpr hi)
    rw [hm] at this
    simpa using this
  have key : ∀ k, k < m.2.length - 1 → m.2[k]? = some .psk → i = 0 ∧ k = 0 := by
    intro k hk e
    have := (List.any_eq_false.mp hb) k (List.mem_range.mpr hk)
    rw [e] at this
    simp at this
    omega
  by_cases c : i = 0
  · rw [if_pos c] at hin
    obtain ⟨j, hj, e⟩ := List.mem_iff_getElem.mp hin
    have e2 : (m.2.dropLast.drop 1)[j]? = some .psk := by rw [List.getElem?_eq_getElem hj, e]
    rw [List.getElem?_drop, List.getElem?_dropLast] at e2
    by_cases c2 : 1 + j < m.2.length - 1
    · rw [if_pos c2] at e2
      have := (key _ c2 e2).2
      omega
    · rw [if_neg c2] at e2; cases e2
  · rw [if_neg c] at hin
    obtain ⟨j, hj, e⟩ := List.mem_iff_getElem.mp hin
    have e2 : (m.2.dropLast)[j]? = some .psk := by rw [List.getElem?_eq_getElem hj, e]
    rw [List.getElem?_dropLast] at e2
    by_cases c2 : j < m.2.length - 1
    · rw [if_pos c2] at e2
      exact c (key _ c2 e2).1
    · rw [if_neg c2] at e2; cases e2
/-! ### the flat list -/
theorem flM_snoc (z : Bool) (ts : List Tk) (t : Tk) : flM (z, ts ++ [t]) = ts.map (fun u => (z, u, false)) ++ [(z, t, true)] := by
  apply List.ext_getElem?
  intro k
  unfold flM
  rw [List.getElem?_map]
  by_cases h1 : k < ts.length
  · rw [List.getElem?_range (by simp; omega), List.getElem?_append_left (by simpa using h1), List.getElem?_map, List.getElem?_eq_getElem h1]
    simp only [Option.map_some, List.getD_eq_getElem?_getD, List.getElem?_append_left h1, List.getElem?_eq_getElem h1, Option.getD_some, List.length_append, List.length_singleton]
    congr 3
    exact decide_eq_false (by omega)
  · by_cases h2 : k = ts.length
    · rw [List.getElem?_range (by simp; omega), List.getElem?_append_right (by simp; omega), h2]
      simp
    · rw [List.getElem?_eq_none (by simp; omega), List.getElem?_append_right (by simp; omega), List.getElem?_eq_none (by simp; omega)]; rfl
theorem msg_cut (m : Msg) (h : m.2 ≠ []) : ∃ z ts t, m = (z, ts ++ [t]) := ⟨m.1, m.2.dropLast, m.2.getLast h, by rw [List.dropLast_concat_getLast]⟩
theorem flM_toks (m : Msg) : (flM m).map (fun p => p.2.1) = m.2 := by
  by_cases h : m.2 = []
  · unfold flM; rw [h]; rfl
  · obtain ⟨z, ts, t, rfl⟩ := msg_cut m h
    rw [flM_snoc, List.map_append, List.map_map]
    show ts.map (fun u => u) ++ [t] = _
    rw [List.map_id']
theorem flat_toks (l : List Msg) : (flat l).map (fun p => p.2.1) = l.flatMap (fun m => m.2) := by
  induction l with
  | nil => rfl
  | cons m r ih =>
    have e : flat (m :: r) = flM m ++ flat r := by unfold flat; simp
    rw [e, List.map_append, flM_toks, ih]; simp
theorem flat_app (l r : List Msg) : flat (l ++ r) = flat l ++ flat r := by unfold flat; simp
def flF (st : List Step × Bool) (p : Fl) : List Step × Bool :=
  let st' := tokF p.1 st p.2.1
  if p.2.2 && st'.2 then (st'.1 ++ [(Kd.enc, p.1, none)], st'.2) else st'
theorem fold_in (z : Bool) (ts : List Tk) (st : List Step × Bool) : (ts.map (fun u => (z, u, false))).foldl flF st = ts.foldl (tokF z) st := by
  induction ts generalizing st with
  | nil => rfl
  | cons t r ih =>
    have e : flF st (z, t, false) = tokF z st t := by unfold flF; simp
    simp only [List.map_cons, List.foldl_cons, e]
    exact ih _
theorem fold_msg (st : List Step × Bool) (m : Msg) (h : m.2 ≠ []) : msgF st m = (flM m).foldl flF st := by
  obtain ⟨z, ts, t, rfl⟩ := msg_cut m h
  rw [flM_snoc, List.foldl_append, fold_in]
  unfold msgF flF
  simp only [List.foldl_append, List.foldl_cons, List.foldl_nil, Bool.true_and]
theorem fold_flat (ms : List Msg) (h : ∀ m ∈ ms, m.2 ≠ []) (st : List Step × Bool) : ms.foldl msgF st = (flat ms).foldl flF st := by
  induction ms generalizing st with
  | nil => rfl
  | cons m r ih =>
    have e : flat (m :: r) = flM m ++ flat r := by unfold flat; simp
    rw [e, List.foldl_append, ← fold_msg st m (h m List.mem_cons_self), List.foldl_cons]
    exact ih (fun x hx => h x (List.mem_cons_of_mem _ hx)) _
/-! ### keys, mixes -/
def keysFl (fl : List Fl) : List (Bool × Tk) := fl.filterMap fun p => if p.2.1.key then some (p.1, p.2.1) else none
def bkeys (b : Bef) : List (Bool × Tk) := b.1.map (fun t => (false, t)) ++ b.2.map (fun t => (true, t))
theorem bkeys_mem (b : Bef) (z : Bool) (l : Tk) : (z, l) ∈ bkeys b ↔ l ∈ bside b z := by
  unfold bkeys bside
  cases z <;> simp
theorem keysFl_mem (fl : List Fl) (z : Bool) (l : Tk) (hl : l.key = true) : (z, l) ∈ keysFl fl ↔ ∃ p ∈ fl, p.1 = z ∧ p.2.1 = l := by
  unfold keysFl
  rw [List.mem_filterMap]
  constructor
  · rintro ⟨p, hp, e⟩
    by_cases c : p.2.1.key = true
    · rw [if_pos c] at e
      cases e
      exact ⟨p, hp, rfl, rfl⟩
    · rw [if_neg c] at e; cases e
  · rintro ⟨p, hp, rfl, rfl⟩
    exact ⟨p, hp, by rw [if_pos hl]⟩
theorem sent_iff (b : Bef) (fl : List Fl) (z : Bool) (l : Tk) (hl : l.key = true) : sent b fl z l = true ↔ (z, l) ∈ bkeys b ++ keysFl fl := by
  rw [List.mem_append, bkeys_mem, keysFl_mem fl z l hl]
  unfold sent
  rw [Bool.or_eq_true, decide_eq_true_iff, List.any_eq_true]
  simp only [Bool.and_eq_true, decide_eq_true_iff]
theorem mixd_snoc (fl : List Fl) (p : Fl) : mixd (fl ++ [p]) = mixd fl ++ (if p.2.1.key then [] else [p.2.1]) := by
  unfold mixd
  rw [List.map_append, List.filter_append]
  cases h : p.2.1.key <;> simp [h]
theorem keysFl_snoc (fl : List Fl) (p : Fl) : keysFl (fl ++ [p]) = keysFl fl ++ (if p.2.1.key then [(p.1, p.2.1)] else []) := by
  unfold keysFl
  rw [List.filterMap_append]
  cases h : p.2.1.key <;> simp [h]
def EncOk (z : Bool) (mx : List Tk) (ks : List (Bool × Tk)) : Prop :=
  (((if z then Tk.es else Tk.se) ∈ mx → Tk.ee ∈ mx) ∧ (Tk.ss ∈ mx → (if z then Tk.se else Tk.es) ∈ mx)) ∧ (Tk.psk ∈ mx → (z, Tk.e) ∈ ks)
theorem enc_ok {b : Bef} {ms : List Msg} (h4 : brE b ms 4 = false) (h6 : brE b ms 6 = false) {x : Nat × Bool} (hx : x ∈ encs ms) : EncOk x.2 (mixd ((flat ms).take x.1)) (bkeys b ++ keysFl ((flat ms).take x.1)) := by
  have a4 := (List.any_eq_false.mp h4) x hx
  have a6 := (List.any_eq_false.mp h6) x hx
  unfold brEat at a4 a6
  simp only [Bool.or_eq_true, Bool.and_eq_true, decide_eq_true_iff, Bool.not_eq_true', decide_eq_false_iff_not, not_or, not_and, Decidable.not_not] at a4 a6
  refine ⟨⟨fun h => ?_, fun h => ?_⟩, fun h => ?_⟩
  · exact a4.1.1 ⟨trivial, h⟩
  · exact a4.1.2 ⟨trivial, h⟩
  · have := a6.2 ⟨trivial, h⟩
    rw [← sent_iff b _ _ _ rfl]
    simpa using this
/-! ### steps that go well -/
structure StGo (st : List Step) : Prop where
  form : ∀ x ∈ st, (x.1 = .enc ∨ ∃ t, x.2.2 = some t ∧ (x.1 = .key ∧ t.key = true ∨ x.1 = .mix ∧ t.key = false))
  r3 : ∀ (i : Nat) b t, st[i]? = some (.mix, b, some t) → t.sec = true → (false, t.lo) ∈ keysS (st.take i) ∧ (true, t.la) ∈ keysS (st.take i)
  r46 : ∀ (i : Nat) b t, st[i]? = some (.enc, b, t) → EncOk b (mixS (st.take i)) (keysS (st.take i))
def Cond (st : List Step) (x : Step) : Prop :=
  (x.1 = .enc ∨ ∃ t, x.2.2 = some t ∧ (x.1 = .key ∧ t.key = true ∨ x.1 = .mix ∧ t.key = false)) ∧ (∀ b t, x = (.mix, b, some t) → t.sec = true → (false, t.lo) ∈ keysS st ∧ (true, t.la) ∈ keysS st) ∧ ∀ b t, x = (.enc, b, t) → EncOk b (mixS st) (keysS st)
theorem StGo.snoc {st : List Step} {x : Step} (h : StGo st) (c : Cond st x) : StGo (st ++ [x]) := by
  have cut : ∀ (i : Nat) y, (st ++ [x])[i]? = some y → (st[i]? = some y ∧ (st ++ [x]).take i = st.take i) ∨ (y = x ∧ (st ++ [x]).take i = st) := by
    intro i y e
    by_cases hi : i < st.length
    · rw [List.getElem?_append_left hi] at e
      exact .inl ⟨e, by rw [List.take_append_of_le_length (by omega)]⟩
    · rw [List.getElem?_append_right (by omega)] at e
      by_cases h0 : i - st.length = 0
      · rw [h0] at e
        have hl : i = st.length := by omega
        refine .inr ⟨(Option.some.inj e).symm, ?_⟩
        rw [hl, List.take_append_of_le_length (Nat.le_refl _), List.take_length]
      · rw [List.getElem?_eq_none (by simp; omega)] at e; cases e
  refine ⟨fun y hy => ?_, fun i b t e hs => ?_, fun i b t e => ?_⟩
  · rcases List.mem_append.mp hy with q | q
    · exact h.form y q
    · rw [List.mem_singleton.mp q]; exact c.1
  · rcases cut i _ e with ⟨e1, e2⟩ | ⟨e1, e2⟩
    · rw [e2]; exact h.r3 i b t e1 hs
    · rw [e2]; exact c.2.1 b t e1.symm hs
  · rcases cut i _ e with ⟨e1, e2⟩ | ⟨e1, e2⟩
    · rw [e2]; exact h.r46 i b t e1
    · rw [e2]; exact c.2.2 b t e1.symm
theorem keysS_sn1 (st : List Step) (x : Step) : keysS (st ++ [x]) = keysS st ++ keysS [x] := by unfold keysS; rw [List.filterMap_append]
theorem mixS_sn1 (st : List Step) (x : Step) : mixS (st ++ [x]) = mixS st ++ mixS [x] := by unfold mixS; rw [List.filterMap_append]
theorem enc_keys (z : Bool) (t : Option Tk) : keysS [(Kd.enc, z, t)] = [] ∧ mixS [(Kd.enc, z, t)] = [] := ⟨rfl, rfl⟩
theorem cond_enc {st : List Step} {z : Bool} {t : Option Tk} (h : EncOk z (mixS st) (keysS st)) : Cond st (.enc, z, t) := ⟨.inl rfl, fun b u e => (by cases e), fun b u e => by cases e; exact h⟩
theorem cond_key {st : List Step} {z : Bool} {t : Tk} (h : t.key = true) : Cond st (.key, z, some t) := ⟨.inr ⟨t, rfl, .inl ⟨rfl, h⟩⟩, fun b u e => (by cases e), fun b u e => (by cases e)⟩
theorem cond_mix {st : List Step} {z : Bool} {t : Tk} (h : t.key = false) (h2 : t.sec = true → (false, t.lo) ∈ keysS st ∧ (true, t.la) ∈ keysS st) : Cond st (.mix, z, some t) := ⟨.inr ⟨t, rfl, .inr ⟨rfl, h⟩⟩, fun b u e => (by cases e; exact h2), fun b u e => (by cases e)⟩
structure Inv (b : Bef) (st : List Step × Bool) (fl : List Fl) : Prop where
  go : StGo st.1
  ks : keysS st.1 = bkeys b ++ keysFl fl
  mx : mixS st.1 = mixd fl
  md : st.2 = decide (0 < (mixd fl).length)
theorem Inv.step {b : Bef} {st : List Step × Bool} {fl : List Fl} (h : Inv b st fl) (z : Bool) (t : Tk) (last : Bool) (c1 : t = .s → 0 < (mixd fl).length → EncOk z (mixd fl) (bkeys b ++ keysFl fl))
    (c2 : t.sec = true → (false, t.lo) ∈ bkeys b ++ keysFl fl ∧ (true, t.la) ∈ bkeys b ++ keysFl fl) (c3 : last = true → 0 < (mixd (fl ++ [(z, t, last)])).length → EncOk z (mixd (fl ++ [(z, t, last)])) (bkeys b ++ keysFl (fl ++ [(z, t, last)]))) : Inv b (flF st (z, t, last)) (fl ++ [(z, t, last)]) := by
  obtain ⟨s, md⟩ := st
  obtain ⟨go, ks, mx, hmd⟩ := h
  have go : StGo s := go
  have ks : keysS s = bkeys b ++ keysFl fl := ks
  have mx : mixS s = mixd fl := mx
  have hmd : md = decide (0 < (mixd fl).length) := hmd
  -- the first step
  have h1 : ∃ s1, (if decide (t = .s) && md then s ++ [(Kd.enc, z, some t)] else s) = s1 ∧ StGo s1 ∧ keysS s1 = bkeys b ++ keysFl fl ∧ mixS s1 = mixd fl := by
    refine ⟨_, rfl, ?_⟩
    by_cases c : (decide (t = .s) && md) = true
    · rw [if_pos c]
      rw [Bool.and_eq_true, decide_eq_true_iff, hmd, decide_eq_true_iff] at c
      have e := c1 c.1 c.2
      refine ⟨go.snoc (cond_enc (by rw [mx, ks]; exact e)), ?_, ?_⟩
      · rw [keysS_sn1, (enc_keys z _).1, List.append_nil, ks]
      · rw [mixS_sn1, (enc_keys z _).2, List.append_nil, mx]
    · rw [if_neg c]; exact ⟨go, ks, mx⟩
  obtain ⟨s1, e1, g1, k1, m1⟩ := h1
  -- the second
  have h2 : ∃ s2, s1 ++ [if t.key then (Kd.key, z, some t) else (Kd.mix, z, some t)] = s2 ∧ StGo s2 ∧ keysS s2 = bkeys b ++ keysFl (fl ++ [(z, t, last)]) ∧ mixS s2 = mixd (fl ++ [(z, t, last)]) := by
    refine ⟨_, rfl, ?_⟩
    rw [keysFl_snoc, mixd_snoc]
    cases hk : t.key with
    | true =>
      refine ⟨g1.snoc (by simpa using cond_key hk), ?_, ?_⟩
      · rw [keysS_sn1, k1, List.append_assoc]; rfl
      · rw [mixS_sn1, m1]; rfl
    | false =>
      refine ⟨g1.snoc (by simpa using cond_mix hk (fun hs => by rw [k1]; exact c2 hs)), ?_, ?_⟩
      · rw [keysS_sn1, k1, List.append_assoc]; rfl
      · rw [mixS_sn1, m1]; rfl
  obtain ⟨s2, e2, g2, k2, m2⟩ := h2
  have et : tokF z (s, md) t = (s2, md || !t.key) := by
    unfold tokF
    simp only
    rw [e1, e2]
  have hmd2 : (md || !t.key) = decide (0 < (mixd (fl ++ [(z, t, last)])).length) := by
    rw [mixd_snoc, hmd]
    cases hk : t.key <;> simp
  unfold flF
  simp only
  rw [et]
  simp only
  by_cases c : (last && (md || !t.key)) = true
  · rw [if_pos c]
    rw [Bool.and_eq_true, hmd2, decide_eq_true_iff] at c
    have e := c3 c.1 c.2
    refine ⟨g2.snoc (cond_enc (by rw [m2, k2]; exact e)), ?_, ?_, hmd2⟩
    · show keysS (s2 ++ _) = _
      rw [keysS_sn1, (enc_keys z _).1, List.append_nil, k2]
    · show mixS (s2 ++ _) = _
      rw [mixS_sn1, (enc_keys z _).2, List.append_nil, m2]
  · rw [if_neg c]; exact ⟨g2, k2, m2, hmd2⟩
end K38
end
section
/-! the plain law: the program's steps break no rule -/
namespace K38
open PySem
theorem nodup_of {α : Type} [DecidableEq α] : ∀ (l : List α), (∀ a ∈ l, (l.filter fun x => decide (x = a)).length ≤ 1) → l.Nodup
  | [], _ => List.nodup_nil
  | a :: l, h => by
    refine List.nodup_cons.mpr ⟨fun ha => ?_, nodup_of l fun x hx => ?_⟩
    · have h1 := h a List.mem_cons_self
      rw [List.filter_cons, if_pos (by simp), List.length_cons] at h1
      have h2 : a ∈ l.filter fun x => decide (x = a) := List.mem_filter.mpr ⟨ha, by simp⟩
      have h3 : 0 < (l.filter fun x => decide (x = a)).length := List.length_pos_of_mem h2
      omega
    · have h1 := h x (List.mem_cons_of_mem _ hx)
      rw [List.filter_cons] at h1
      split at h1
      · rw [List.length_cons] at h1; omega
      · exact h1
theorem len_bk (z y : Bool) (l : Tk) (ts : List Tk) : ((ts.map fun t => (y, t)).filter fun x => decide (x = (z, l))).length = if y = z then (ts.filter fun t => decide (t = l)).length else 0 := by
  induction ts with
  | nil => simp
  | cons t r ih =>
    rw [List.map_cons, List.filter_cons, List.filter_cons]
    by_cases c : y = z
    · subst c
      by_cases c2 : t = l
      · subst c2; simp [ih]
      · simp [c2, ih]
    · simp [c, ih]
theorem len_kf (z : Bool) (l : Tk) (hl : l.key = true) (fl : List Fl) : ((keysFl fl).filter fun x => decide (x = (z, l))).length = (fl.filter fun p => decide (p.1 = z) && decide (p.2.1 = l)).length := by
  induction fl with
  | nil => rfl
  | cons p r ih =>
    have e : keysFl (p :: r) = (if p.2.1.key then [(p.1, p.2.1)] else []) ++ keysFl r := by
      unfold keysFl
      rw [List.filterMap_cons]
      cases h : p.2.1.key <;> simp [h]
    obtain ⟨y, t, la⟩ := p
    rw [e, List.filter_append, List.length_append, ih, List.filter_cons]
    cases h : t.key with
    | true =>
      by_cases c1 : y = z
      · by_cases c2 : t = l
        · simp [h, c1, c2]; omega
        · simp [h, c1, c2]
      · simp [h, c1]
    | false =>
      have c2 : ¬ t = l := fun c => by rw [c, hl] at h; cases h
      simp [h, c2]
theorem r1_ok {b : Bef} {fl : List Fl} (hB : WB b) (h : brC b fl 1 = false) : (bkeys b ++ keysFl fl).Nodup := by
  refine nodup_of _ fun a ha => ?_
  obtain ⟨z, l⟩ := a
  have hl : l.key = true := by
    rcases List.mem_append.mp ha with q | q
    · rw [bkeys_mem] at q
      cases z
      · exact hB.ko l q
      · exact hB.ka l q
    · unfold keysFl at q
      obtain ⟨p, hp, e⟩ := List.mem_filterMap.mp q
      by_cases c : p.2.1.key = true
      · rw [if_pos c] at e
        cases e
        exact c
      · rw [if_neg c] at e; cases e
  have hc : cnt b fl z l ≤ 1 := by
    unfold brC at h
    rw [Bool.or_eq_false_iff] at h
    have h1 := (List.any_eq_false.mp h.1) z (by cases z <;> simp)
    rw [Bool.not_eq_true] at h1
    have h2 := (List.any_eq_false.mp h1) l (by cases l <;> first | (cases hl; done) | simp)
    simp at h2
    omega
  have e : ((bkeys b ++ keysFl fl).filter fun x => decide (x = (z, l))).length = cnt b fl z l := by
    rw [List.filter_append, List.length_append, len_kf z l hl]
    unfold bkeys cnt bside
    rw [List.filter_append, List.length_append, len_bk, len_bk]
    cases z <;> simp
  rw [e]; exact hc
theorem len_mx (t : Tk) (ht : t.sec = true) (fl : List Fl) : (((mixd fl).filter Tk.sec).filter fun x => decide (x = t)).length = cntT fl t := by
  unfold mixd cntT
  rw [List.filter_filter, List.filter_filter, List.filter_map, List.length_map]
  congr 1
  apply List.filter_congr
  intro p _
  simp only [Function.comp]
  by_cases c : p.2.1 = t
  · have : t.key = false := by cases t <;> first | rfl | cases ht
    simp [c, ht, this]
  · simp [c]
theorem r2_ok {b : Bef} {fl : List Fl} (h : brC b fl 2 = false) : ((mixd fl).filter Tk.sec).Nodup := by
  refine nodup_of _ fun t ht => ?_
  have hs : t.sec = true := (List.mem_filter.mp ht).2
  rw [len_mx t hs]
  unfold brC at h
  rw [Bool.or_eq_false_iff] at h
  have h2 := (List.any_eq_false.mp h.2) t (by cases t <;> first | (cases hs; done) | simp)
  simp at h2
  exact h2
/-! ### the ends that send -/
theorem trans_mem {ms : List Msg} (hW : WF ms) {z : Bool} (hz : z ∈ trans ms) (hm : 0 < (mixd (flat ms)).length) : ((flat ms).length, z) ∈ encs ms := by
  have e : encs ms = (List.range (flat ms).length).flatMap (encAt (flat ms)) ++ (if 0 < (mixd (flat ms)).length then ((ms.take 1).map fun m => ((flat ms).length, m.1)) ++ (if 1 < ms.length then ((ms.drop 1).take 1).map fun m => ((flat ms).length, m.1) else []) else []) := rfl
  rw [e, if_pos hm]
  refine List.mem_append_right _ ?_
  cases ms with
  | nil => exact absurd rfl hW.ne
  | cons m0 r =>
    cases r with
    | nil =>
      have : z = m0.1 := by simpa [trans] using hz
      rw [this]; simp
    | cons m1 r =>
      have ha : m1.1 = !m0.1 := hW.alt 0 m0 m1 rfl rfl
      have : z = m0.1 ∨ z = m1.1 := by
        rw [ha]
        cases z <;> cases m0.1 <;> simp
      rcases this with q | q
      · rw [q]; simp
      · rw [q]; simp
theorem enc_at {ms : List Msg} {k : Nat} {x : Nat × Bool} (hk : k < (flat ms).length) (hx : x ∈ encAt (flat ms) k) : x ∈ encs ms := by
  refine List.mem_append_left _ ?_
  exact List.mem_flatMap.mpr ⟨k, List.mem_range.mpr hk, hx⟩
theorem inv_all {b : Bef} {ms : List Msg} (hB : WB b) (h3 : brK b (flat ms) = false) (h4 : brE b ms 4 = false) (h6 : brE b ms 6 = false) : ∀ k, k ≤ (flat ms).length → Inv b (((flat ms).take k).foldl flF (befSteps b, false)) ((flat ms).take k)
  | 0, _ => by
    rw [List.take_zero, List.foldl_nil]
    have hf : ∀ x ∈ befSteps b, ∃ z t, x = (Kd.key, z, some t) ∧ t.key = true := fun x hx => by
      unfold befSteps at hx
      rcases List.mem_append.mp hx with q | q
      · obtain ⟨t, ht, rfl⟩ := List.mem_map.mp q; exact ⟨false, t, rfl, hB.ko t ht⟩
      · obtain ⟨t, ht, rfl⟩ := List.mem_map.mp q; exact ⟨true, t, rfl, hB.ka t ht⟩
    have kb : ∀ (z : Bool) (l : List Tk), keysS (l.map fun t => (Kd.key, z, some t)) = l.map (fun t => (z, t)) ∧ mixS (l.map fun t => (Kd.key, z, some t)) = [] := fun z l => by
      induction l with
      | nil => exact ⟨rfl, rfl⟩
      | cons t r ih =>
        have e1 : keysS ((t :: r).map fun t => (Kd.key, z, some t)) = (z, t) :: keysS (r.map fun t => (Kd.key, z, some t)) := rfl
        have e2 : mixS ((t :: r).map fun t => (Kd.key, z, some t)) = mixS (r.map fun t => (Kd.key, z, some t)) := rfl
        exact ⟨by rw [e1, ih.1]; rfl, by rw [e2, ih.2]⟩
    have k1 : keysS (befSteps b) = bkeys b := by
      unfold befSteps bkeys
      have : ∀ a c, keysS (a ++ c) = keysS a ++ keysS c := fun a c => by unfold keysS; rw [List.filterMap_append]
      rw [this, (kb _ _).1, (kb _ _).1]
    have m1 : mixS (befSteps b) = [] := by
      unfold befSteps
      have : ∀ a c, mixS (a ++ c) = mixS a ++ mixS c := fun a c => by unfold mixS; rw [List.filterMap_append]
      rw [this, (kb _ _).2, (kb _ _).2]; rfl
    refine ⟨⟨fun x hx => ?_, fun i z t e => ?_, fun i z t e => ?_⟩, ?_, m1, rfl⟩
    · obtain ⟨z, t, rfl, h⟩ := hf x hx
      exact .inr ⟨t, rfl, .inl ⟨rfl, h⟩⟩
    · obtain ⟨_, _, q, _⟩ := hf _ (List.mem_of_getElem? e)
      cases q
    · obtain ⟨_, _, q, _⟩ := hf _ (List.mem_of_getElem? e)
      cases q
    · show keysS (befSteps b) = bkeys b ++ []
      rw [k1, List.append_nil]
  | k + 1, hk => by
    have ih := inv_all hB h3 h4 h6 k (by omega)
    obtain ⟨⟨z, t, last⟩, hp⟩ : ∃ p, (flat ms)[k]? = some p := ⟨_, List.getElem?_eq_getElem (by omega)⟩
    rw [foldl_take _ _ _ _ _ hp, take_snoc _ _ _ hp]
    have ea : encAt (flat ms) k = (if decide (t = .s) && decide (0 < (mixd ((flat ms).take k)).length) then [(k, z)] else []) ++ (if last && decide (0 < (mixd ((flat ms).take (k + 1))).length) then [(k + 1, z)] else []) := by unfold encAt; rw [hp]
    refine ih.step z t last (fun c1 c2 => ?_) (fun hs => ?_) (fun c1 c2 => ?_)
    · have hx : (k, z) ∈ encs ms := enc_at (k := k) (by omega) (by rw [ea, if_pos (by simp [c1, c2])]; simp)
      exact enc_ok h4 h6 hx
    · have := (List.any_eq_false.mp h3) k (List.mem_range.mpr (by omega))
      unfold brKat at this
      rw [hp] at this
      have hl : t.lo.key = true ∧ t.la.key = true := by cases t <;> first | exact ⟨rfl, rfl⟩ | cases hs
      rw [← sent_iff b _ _ _ hl.1, ← sent_iff b _ _ _ hl.2]
      simp [hs] at this
      exact this
    · subst c1
      have hx : (k + 1, z) ∈ encs ms := enc_at (k := k) (by omega) (by
        rw [ea]
        refine List.mem_append_right _ ?_
        rw [take_snoc _ _ _ hp, if_pos (by simp only [Bool.true_and]; exact decide_eq_true c2)]
        simp)
      have := enc_ok h4 h6 hx
      rw [take_snoc _ _ _ hp] at this
      exact this
theorem go_tr {ks : List (Bool × Tk)} {mx : List Tk} (mixed : Bool) : ∀ (l : List Bool) (st : List Step), StGo st → keysS st = ks → mixS st = mx → (∀ z ∈ l, mixed = true → EncOk z mx ks) → StGo (l.foldl (trF mixed) st) ∧ keysS (l.foldl (trF mixed) st) = ks ∧ mixS (l.foldl (trF mixed) st) = mx
  | [], st, g, h1, h2, _ => ⟨g, h1, h2⟩
  | z :: l, st, g, h1, h2, h => by
    rw [List.foldl_cons]
    unfold trF
    cases hm : mixed with
    | false =>
      have := go_tr mixed l st g h1 h2 fun y hy => h y (List.mem_cons_of_mem _ hy)
      rw [hm] at this
      exact this
    | true =>
      have e := h z List.mem_cons_self hm
      have := go_tr mixed l (st ++ [(Kd.enc, z, none)]) (g.snoc (cond_enc (by rw [h1, h2]; exact e))) (by rw [keysS_sn1, (enc_keys z _).1, List.append_nil, h1]) (by rw [mixS_sn1, (enc_keys z _).2, List.append_nil, h2]) fun y hy => h y (List.mem_cons_of_mem _ hy)
      rw [hm] at this
      exact this
theorem st_ok {b : Bef} {ms : List Msg} (hW : WF ms) (hB : WB b) (h1 : brC b (flat ms) 1 = false) (h2 : brC b (flat ms) 2 = false) (h3 : brK b (flat ms) = false) (h4 : brE b ms 4 = false) (h6 : brE b ms 6 = false) : StOk (steps b ms) := by
  have iv := inv_all hB h3 h4 h6 (flat ms).length (Nat.le_refl _)
  rw [List.take_length] at iv
  have ef : ms.foldl msgF (befSteps b, false) = (flat ms).foldl flF (befSteps b, false) := fold_flat ms (fun m hm => (hW.toks m hm).1) _
  have es : steps b ms = (trans ms).foldl (trF ((flat ms).foldl flF (befSteps b, false)).2) ((flat ms).foldl flF (befSteps b, false)).1 := by
    unfold steps
    simp only
    rw [ef]
  obtain ⟨go, ks, mx⟩ := go_tr ((flat ms).foldl flF (befSteps b, false)).2 (trans ms) _ iv.go iv.ks iv.mx (fun z hz hm => by
    rw [iv.md, decide_eq_true_iff] at hm
    have := enc_ok h4 h6 (trans_mem hW hz hm)
    rw [List.take_length] at this
    exact this)
  rw [← es] at go ks mx
  refine ⟨go.form, by rw [ks]; exact r1_ok hB h1, by rw [mx]; exact r2_ok h2, go.r3, fun i z t e => (go.r46 i z t e).1, fun i z t e => (go.r46 i z t e).2⟩
end K38
end
section
/-! the plain law: the grades are as the law asks -/
namespace K38
open PySem
theorem sec_mix {l : List Msg} {t : Tk} (ht : t.sec = true) : t ∈ secsOf l ↔ t ∈ mixd (flat l) := by
  have hk : t.key = false := by cases t <;> first | rfl | cases ht
  unfold secsOf mixd
  rw [flat_toks, List.mem_filter, List.mem_flatMap, List.mem_flatMap]
  constructor
  · rintro ⟨m, hm, h⟩
    exact ⟨⟨m, hm, (List.mem_filter.mp h).1⟩, by rw [hk]; rfl⟩
  · rintro ⟨⟨m, hm, h⟩, _⟩
    exact ⟨m, hm, List.mem_filter.mpr ⟨h, ht⟩⟩
def lone (z : Bool) : Tk := if z then .es else .se
theorem flat_take {ms : List Msg} {i : Nat} : (flat ms).take (flat (ms.take i)).length = flat (ms.take i) := by
  have e : flat ms = flat (ms.take i) ++ flat (ms.drop i) := by rw [← flat_app, List.take_append_drop]
  rw [e, List.take_append_of_le_length (Nat.le_refl _), List.take_length]
theorem sds_cut {ms : List Msg} {i : Nat} {z : Bool} (h : (sds ms)[i]? = some z) : (∃ m, ms[i]? = some m ∧ m.1 = z) ∨ (ms.length ≤ i ∧ z ∈ trans ms) := by
  unfold sds at h
  by_cases c : i < ms.length
  · rw [List.getElem?_append_left (by simpa using c), List.getElem?_map, List.getElem?_eq_getElem c] at h
    exact .inl ⟨ms[i], List.getElem?_eq_getElem c, Option.some.inj h⟩
  · rw [List.getElem?_append_right (by simp; omega)] at h
    exact .inr ⟨by omega, List.mem_of_getElem? h⟩
/-- the payload i is encrypted, where anything is mixed -/
theorem enc_pay {ms : List Msg} (hW : WF ms) {i : Nat} {z : Bool} (h : (sds ms)[i]? = some z) (hm : 0 < (mixd (flat (ms.take (i + 1)))).length) : ((flat (ms.take (i + 1))).length, z) ∈ encs ms := by
  rcases sds_cut h with ⟨m, h1, rfl⟩ | ⟨h1, h2⟩
  · have hne := (hW.toks m (List.mem_of_getElem? h1)).1
    obtain ⟨y, ts, t, rfl⟩ := msg_cut m hne
    have e1 : flat (ms.take (i + 1)) = flat (ms.take i) ++ ts.map (fun u => (y, u, false)) ++ [(y, t, true)] := by
      rw [take_snoc _ _ _ h1, flat_app, List.append_assoc]
      have : flat [(y, ts ++ [t])] = flM (y, ts ++ [t]) := by unfold flat; simp
      rw [this, flM_snoc]
    have e2 : flat ms = flat (ms.take (i + 1)) ++ flat (ms.drop (i + 1)) := by rw [← flat_app, List.take_append_drop]
    let k := (flat (ms.take i) ++ ts.map (fun u => (y, u, false))).length
    have hl : (flat (ms.take (i + 1))).length = k + 1 := by rw [e1, List.length_append]; rfl
    have hp : (flat ms)[k]? = some (y, t, true) := by
      rw [e2, List.getElem?_append_left (by omega), e1, List.getElem?_append_right (Nat.le_refl _), Nat.sub_self]; rfl
    rw [hl]
    refine enc_at (k := k) (List.getElem?_eq_some_iff.mp hp).1 ?_
    have ht : (flat ms).take (k + 1) = flat (ms.take (i + 1)) := by rw [← hl]; exact flat_take
    unfold encAt
    rw [hp]
    refine List.mem_append_right _ ?_
    rw [ht, if_pos (by simp only [Bool.true_and]; exact decide_eq_true hm)]
    simp
  · have e : ms.take (i + 1) = ms := List.take_of_length_le (by omega)
    rw [e] at hm ⊢
    exact trans_mem hW h2 hm
/-- rule 4 at a payload -/
theorem pay4 {b : Bef} {ms : List Msg} (hW : WF ms) (h4 : brE b ms 4 = false) (h6 : brE b ms 6 = false) {i : Nat} {z : Bool} (h : (sds ms)[i]? = some z) : lone z ∈ sc ms i → Tk.ee ∈ sc ms i := by
  intro hl
  have ls : (lone z).sec = true := by cases z <;> rfl
  have hl := (sec_mix ls).mp hl
  have := (enc_ok h4 h6 (enc_pay hW h (List.length_pos_of_mem hl))).1.1
  rw [flat_take] at this
  exact (sec_mix rfl).mpr (this hl)
/-! ### open, and the grades -/
theorem opn_keys {T : List Tk} {k1 k2 : List Str} (h : ∀ x ∈ k1, x ∈ k2) (o : opn T k1 = true) : opn T k2 = true := by
  unfold opn at o ⊢
  rw [List.all_eq_true] at o ⊢
  intro t ht
  have := o t ht
  unfold cc at this ⊢
  simp only [Bool.or_eq_true, decide_eq_true_iff] at this ⊢
  rcases this with q | q
  · exact .inl (h _ q)
  · exact .inr (h _ q)
theorem opn_sub {T U : List Tk} {ks : List Str} (h : ∀ x ∈ T, x ∈ U) (o : opn U ks = true) : opn T ks = true := by
  unfold opn at o ⊢
  rw [List.all_eq_true] at o ⊢
  exact fun t ht => o t (h t ht)
theorem src_mono (z : Bool) {T U : List Tk} (h : ∀ x ∈ T, x ∈ U) : src z T ≤ src z U := by
  unfold src
  by_cases c1 : opn U [ownE z] = true
  · rw [if_pos (opn_sub h c1), if_pos c1]; exact Int.le_refl _
  · rw [if_neg c1]
    by_cases c2 : opn U [ownE z, othS z] = true
    · rw [if_pos c2, if_pos (opn_sub h c2)]
      split <;> decide
    · rw [if_neg c2]
      split
      · decide
      · split <;> decide
theorem src_rg (z : Bool) (T : List Tk) : 0 ≤ src z T ∧ src z T ≤ 2 := by
  unfold src
  split
  · decide
  · split <;> decide
theorem sc_sub (ms : List Msg) {i j : Nat} (h : j ≤ i) : ∀ x ∈ sc ms j, x ∈ sc ms i := by
  intro x hx
  unfold sc secsOf at hx ⊢
  obtain ⟨m, h1, h2⟩ := List.mem_flatMap.mp hx
  refine List.mem_flatMap.mpr ⟨m, ?_, h2⟩
  have e : ms.take (j + 1) = (ms.take (i + 1)).take (j + 1) := by rw [List.take_take, Nat.min_eq_left (by omega)]
  rw [e] at h1
  exact List.mem_of_mem_take h1
theorem kn_le (ms : List Msg) : ∀ i b, 0 ≤ kn ms i b ∧ kn ms i b ≤ src b (sc ms i)
  | 0, b => ⟨Int.le_refl _, (src_rg b _).1⟩
  | i + 1, b => by
    have m := src_mono b (sc_sub ms (Nat.le_succ i))
    show 0 ≤ (if (sds ms)[i]? = some b then src b (sc ms i) else kn ms i b) ∧ (if (sds ms)[i]? = some b then src b (sc ms i) else kn ms i b) ≤ _
    split
    · exact ⟨(src_rg b _).1, m⟩
    · exact ⟨(kn_le ms i b).1, Int.le_trans (kn_le ms i b).2 m⟩
theorem kn_up (ms : List Msg) (b : Bool) : ∀ i j, j ≤ i → kn ms j b ≤ kn ms i b
  | 0, j, h => by rw [Nat.le_zero.mp h]; exact Int.le_refl _
  | i + 1, j, h => by
    by_cases c : j = i + 1
    · rw [c]; exact Int.le_refl _
    · refine Int.le_trans (kn_up ms b i j (by omega)) ?_
      show _ ≤ (if (sds ms)[i]? = some b then src b (sc ms i) else kn ms i b)
      split
      · exact (kn_le ms i b).2
      · exact Int.le_refl _
theorem la_kn (ms : List Msg) (b : Bool) : ∀ i, (la ms i b).1 = kn ms i b
  | 0 => rfl
  | i + 1 => by
    show (if (sds ms)[i]? = some b then tld ms i b else la ms i b).1 = (if (sds ms)[i]? = some b then src b (sc ms i) else kn ms i b)
    split
    · rfl
    · exact la_kn ms b i
theorem la_from (ms : List Msg) (b : Bool) : ∀ i, la ms i b = (0, 0) ∨ ∃ j, j < i ∧ (sds ms)[j]? = some b ∧ la ms i b = tld ms j b
  | 0 => .inl rfl
  | i + 1 => by
    have e : la ms (i + 1) b = if (sds ms)[i]? = some b then tld ms i b else la ms i b := rfl
    by_cases c : (sds ms)[i]? = some b
    · rw [if_pos c] at e
      exact .inr ⟨i, Nat.lt_succ_self _, c, e⟩
    · rw [if_neg c] at e
      rcases la_from ms b i with q | ⟨j, h1, h2, h3⟩
      · exact .inl (by rw [e, q])
      · exact .inr ⟨j, by omega, h2, by rw [e, h3]⟩
/-! ### the receiver's static key -/
theorem uses_cc (z : Bool) (t : Tk) : uses z t = cc t [othS z] := by cases z <;> cases t <;> decide +kernel
theorem uses_L (z : Bool) (t : Tk) (h : t.sec = true) : uses z t = usesL z t := by cases z <;> cases t <;> first | decide +kernel | cases h
theorem uses_all (z : Bool) (t : Tk) (h : t.sec = true) : t = .ee ∨ t = lone z ∨ uses z t = true := by
  cases z <;> cases t <;> first | exact .inl rfl | exact .inr (.inl rfl) | exact .inr (.inr (by decide +kernel)) | cases h
theorem ee_no (z : Bool) : uses z .ee = false := by cases z <;> decide +kernel
theorem ee_os : cc .ee ["os", "as"] = false := by decide +kernel
theorem opn_nil (T : List Tk) : opn T [] = decide (T = []) := by
  cases T with
  | nil => rfl
  | cons t r =>
    have : cc t [] = false := by unfold cc; simp
    unfold opn
    rw [List.all_cons, this]; simp
/-- the destination grade, told apart -/
inductive DG (z : Bool) (T : List Tk) (k : Int) : Int → Prop
  | d0 : T = [] → DG z T k 0
  | d2 : T ≠ [] → Tk.ee ∉ T → DG z T k 2
  | d1 : Tk.ee ∈ T → T.any (uses z) = false → DG z T k 1
  | d3 : Tk.ee ∈ T → T.any (uses z) = true → DG z T k (3 + k)
theorem dg (z : Bool) (T : List Tk) (k : Int) : DG z T k (dst z T k) := by
  unfold dst
  by_cases c1 : T = []
  · rw [if_pos c1]; exact .d0 c1
  · rw [if_neg c1]
    by_cases c2 : Tk.ee ∈ T
    · rw [if_pos c2]
      cases c3 : T.any (uses z) with
      | true => rw [if_pos rfl]; exact .d3 c2 c3
      | false => rw [if_neg (by decide)]; exact .d1 c2 c3
    · rw [if_neg c2]; exact .d2 c1 c2
theorem all_use {z : Bool} {T : List Tk} (hs : ∀ t ∈ T, t.sec = true) (h4 : lone z ∈ T → Tk.ee ∈ T) (he : Tk.ee ∉ T) : ∀ t ∈ T, uses z t = true := fun t ht => by
  rcases uses_all z t (hs t ht) with q | q | q
  · rw [q] at ht; exact absurd ht he
  · rw [q] at ht; exact absurd (h4 ht) he
  · exact q
theorem opn_oth {z : Bool} {T : List Tk} : opn T [othS z] = T.all (uses z) := by
  unfold opn
  congr 1
  funext t
  rw [uses_cc]
theorem len_use {z : Bool} {T : List Tk} (hs : ∀ t ∈ T, t.sec = true) : decide (0 < (T.filter (usesL z)).length) = T.any (uses z) := by
  cases c : T.any (uses z) with
  | true =>
    obtain ⟨t, ht, hu⟩ := List.any_eq_true.mp c
    exact decide_eq_true (List.length_pos_of_mem (List.mem_filter.mpr ⟨ht, by rw [← uses_L z t (hs t ht)]; exact hu⟩))
  | false =>
    refine decide_eq_false fun h => ?_
    obtain ⟨t, ht⟩ := List.exists_mem_of_length_pos h
    obtain ⟨h1, h2⟩ := List.mem_filter.mp ht
    have := List.any_eq_false.mp c t h1
    rw [uses_L z t (hs t h1), h2] at this
    exact this rfl
theorem rg_ok {z : Bool} {T : List Tk} {k : Int} (hk : 0 ≤ k) (hs : ∀ t ∈ T, t.sec = true) (h4 : lone z ∈ T → Tk.ee ∈ T) : RG z T (src z T) (dst z T k) k := by
  have hD := dg z T k
  have own2 : opn T [ownE z] = true → opn T [ownE z, othS z] = true := opn_keys fun x hx => by simp at hx ⊢; exact .inl hx
  have s1 : decide (src z T = 0) = opn T [ownE z] := by
    unfold src
    cases c1 : opn T [ownE z] <;> cases c2 : opn T [ownE z, othS z] <;> simp
  have s2 : decide (src z T = 2) = !opn T [ownE z, othS z] := by
    unfold src
    cases c1 : opn T [ownE z] with
    | true => rw [own2 c1]; simp
    | false => cases c2 : opn T [ownE z, othS z] <;> simp
  generalize dst z T k = d at hD
  refine ⟨s1, s2, ?_, ?_, ?_, ?_, ?_⟩
  · rw [opn_nil]
    cases hD with
    | d0 h => simp [h]
    | d2 h _ => simp [h]
    | d1 h _ => rw [decide_eq_false (by decide), decide_eq_false (fun c => by rw [c] at h; simp at h)]
    | d3 h _ => rw [decide_eq_false (by omega), decide_eq_false (fun c => by rw [c] at h; simp at h)]
  · rw [opn_nil, opn_oth]
    cases hD with
    | d0 h => simp [h]
    | d2 h he =>
      have : T.all (uses z) = true := List.all_eq_true.mpr (all_use hs h4 he)
      rw [this, decide_eq_false h]; rfl
    | d1 h _ =>
      have : T.all (uses z) = false := List.all_eq_false.mpr ⟨_, h, by rw [ee_no]; decide⟩
      rw [this, Bool.and_false]; decide
    | d3 h _ =>
      have : T.all (uses z) = false := List.all_eq_false.mpr ⟨_, h, by rw [ee_no]; decide⟩
      rw [this, Bool.and_false]; exact decide_eq_false (by omega)
  · have ho : Tk.ee ∈ T → opn T ["os", "as"] = false := fun h => List.all_eq_false.mpr ⟨_, h, by rw [ee_os]; decide⟩
    cases hD with
    | d0 h => simp
    | d2 h he => simp
    | d1 h _ => rw [ho h, Bool.and_false]
    | d3 h _ => rw [ho h, Bool.and_false]
  · rw [len_use hs]
    cases hD with
    | d0 h => simp [h]
    | d2 h he => simp [he]
    | d1 h hu => simp [hu]
    | d3 h hu => rw [hu, decide_eq_true h]; exact decide_eq_true (by omega)
  · cases hD with
    | d0 h => simp
    | d2 h he => simp
    | d1 h hu => simp
    | d3 h hu => simp
theorem dst_mono {z : Bool} {T U : List Tk} {k l : Int} (hk : 0 ≤ k) (hl : k ≤ l) (hs : ∀ t ∈ T, t.sec = true) (h4 : lone z ∈ T → Tk.ee ∈ T) (h : ∀ x ∈ T, x ∈ U) : dst z T k ≤ dst z U l := by
  have hT := dg z T k
  have hU := dg z U l
  have up : T.any (uses z) = true → U.any (uses z) = true := fun c => by
    obtain ⟨t, ht, hu⟩ := List.any_eq_true.mp c
    exact List.any_eq_true.mpr ⟨t, h t ht, hu⟩
  generalize dst z T k = d at hT
  generalize dst z U l = e at hU
  cases hT with
  | d0 h0 => cases hU <;> omega
  | d2 h0 he =>
    obtain ⟨t, ht⟩ := List.exists_mem_of_ne_nil T h0
    cases hU with
    | d0 g => rw [g] at h; exact absurd (h t ht) (by simp)
    | d2 _ _ => decide
    | d1 _ g =>
      have := up (List.any_eq_true.mpr ⟨t, ht, all_use hs h4 he t ht⟩)
      rw [g] at this; cases this
    | d3 _ _ => omega
  | d1 h0 _ =>
    cases hU with
    | d0 g => rw [g] at h; exact absurd (h _ h0) (by simp)
    | d2 _ g => exact absurd (h _ h0) g
    | d1 _ _ => decide
    | d3 _ _ => omega
  | d3 h0 hu =>
    cases hU with
    | d0 g => rw [g] at h; exact absurd (h _ h0) (by simp)
    | d2 _ g => exact absurd (h _ h0) g
    | d1 _ g => rw [up hu] at g; cases g
    | d3 _ _ => omega
theorem dst_rg {z : Bool} {T : List Tk} {k : Int} (h0 : 0 ≤ k) (h2 : k ≤ 2) : 0 ≤ dst z T k ∧ dst z T k ≤ 5 := by
  have := dg z T k
  generalize dst z T k = d at this
  cases this <;> omega
theorem gr_ok {b : Bef} {ms : List Msg} (hW : WF ms) (h4 : brE b ms 4 = false) (h6 : brE b ms 6 = false) : GrOk ms := by
  intro i z hz
  have hs : ∀ j, ∀ t ∈ sc ms j, t.sec = true := fun j t ht => secsOf_sec ht
  have k2 : ∀ i y, kn ms i y ≤ 2 := fun i y => Int.le_trans (kn_le ms i y).2 (src_rg y _).2
  refine ⟨⟨src_rg z _, dst_rg (kn_le ms i _).1 (k2 i _)⟩, ?_, ?_, ?_⟩
  · rw [la_kn]
    exact rg_ok (kn_le ms i _).1 (hs i) (pay4 hW h4 h6 hz)
  · rw [la_kn]
    exact (kn_le ms i z).2
  · rcases la_from ms z i with q | ⟨j, h1, h2, h3⟩
    · rw [q]; exact (dst_rg (kn_le ms i _).1 (k2 i _)).1
    · rw [h3]
      exact dst_mono (kn_le ms j _).1 (kn_up ms _ i j (by omega)) (hs j) (pay4 hW h4 h6 h2) (sc_sub ms (by omega))
theorem math : ∀ b ms, WF ms → WB b → brk b ms = 0 → StOk (steps b ms) ∧ PskOk ms ∧ GrOk ms := fun b ms hW hB h => by
  obtain ⟨h1, h2, h3, h4, h5, h6⟩ := brk_split h
  exact ⟨st_ok hW hB h1 h2 h3 h4 h6, psk_ok h5, gr_ok hW h4 h6⟩
end K38
end
section
/-! the head: what stands behind the program's top, by names (printed by gen_head.py) -/
namespace K38
open PySem PySem.Spec PyProof.Rows L2
def d_transport_senders : He.DefD := ⟨("transport_senders", none), "transport_senders", "transport_senders", defArgs s_transport_senders, defBody s_transport_senders, defScope s_transport_senders, [], []⟩
def d_pattern_steps : He.DefD := ⟨("pattern_steps", none), "pattern_steps", "pattern_steps", defArgs s_pattern_steps, defBody s_pattern_steps, defScope s_pattern_steps, [], []⟩
def d_repeats_key : He.DefD := ⟨("repeats_key", none), "repeats_key", "repeats_key", defArgs s_repeats_key, defBody s_repeats_key, defScope s_repeats_key, [], []⟩
def d_repeats_secret : He.DefD := ⟨("repeats_secret", none), "repeats_secret", "repeats_secret", defArgs s_repeats_secret, defBody s_repeats_secret, defScope s_repeats_secret, [], []⟩
def d_misses_key : He.DefD := ⟨("misses_key", none), "misses_key", "misses_key", defArgs s_misses_key, defBody s_misses_key, defScope s_misses_key, [], []⟩
def d_misses_ephemeral : He.DefD := ⟨("misses_ephemeral", none), "misses_ephemeral", "misses_ephemeral", defArgs s_misses_ephemeral, defBody s_misses_ephemeral, defScope s_misses_ephemeral, [], []⟩
def d_misplaces_psk : He.DefD := ⟨("misplaces_psk", none), "misplaces_psk", "misplaces_psk", defArgs s_misplaces_psk, defBody s_misplaces_psk, defScope s_misplaces_psk, [], []⟩
def d_psk_without_key : He.DefD := ⟨("psk_without_key", none), "psk_without_key", "psk_without_key", defArgs s_psk_without_key, defBody s_psk_without_key, defScope s_psk_without_key, [], []⟩
def d_broken_rule : He.DefD := ⟨("broken_rule", none), "broken_rule", "broken_rule", defArgs s_broken_rule, defBody s_broken_rule, defScope s_broken_rule, [], []⟩
def d_can_compute : He.DefD := ⟨("can_compute", none), "can_compute", "can_compute", defArgs s_can_compute, defBody s_can_compute, defScope s_can_compute, [], []⟩
def d_processed_before : He.DefD := ⟨("processed_before", none), "processed_before", "processed_before", defArgs s_processed_before, defBody s_processed_before, defScope s_processed_before, [], []⟩
def d_can_compute_all : He.DefD := ⟨("can_compute_all", none), "can_compute_all", "can_compute_all", defArgs s_can_compute_all, defBody s_can_compute_all, defScope s_can_compute_all, [], []⟩
def d_own_key : He.DefD := ⟨("own_key", none), "own_key", "own_key", defArgs s_own_key, defBody s_own_key, defScope s_own_key, [], []⟩
def d_other_key : He.DefD := ⟨("other_key", none), "other_key", "other_key", defArgs s_other_key, defBody s_other_key, defScope s_other_key, [], []⟩
def d_check_index : He.DefD := ⟨("check_index", none), "check_index", "check_index", defArgs s_check_index, defBody s_check_index, defScope s_check_index, [], []⟩
def d_is_open : He.DefD := ⟨("is_open", none), "is_open", "is_open", defArgs s_is_open, defBody s_is_open, defScope s_is_open, [], []⟩
def d_can_forge : He.DefD := ⟨("can_forge", none), "can_forge", "can_forge", defArgs s_can_forge, defBody s_can_forge, defScope s_can_forge, [], []⟩
def d_source_grade : He.DefD := ⟨("source_grade", none), "source_grade", "source_grade", defArgs s_source_grade, defBody s_source_grade, defScope s_source_grade, [], []⟩
def d_destination_grade : He.DefD := ⟨("destination_grade", none), "destination_grade", "destination_grade", defArgs s_destination_grade, defBody s_destination_grade, defScope s_destination_grade, [], []⟩
def d_grades : He.DefD := ⟨("grades", none), "grades", "grades", defArgs s_grades, defBody s_grades, defScope s_grades, [], []⟩
def d__law_cell : He.DefD := ⟨("_law_cell", none), "_law_cell", "_law_cell", defArgs s__law_cell, defBody s__law_cell, defScope s__law_cell, [], []⟩
def d__law_is_integer : He.DefD := ⟨("_law_is_integer", none), "_law_is_integer", "_law_is_integer", defArgs s__law_is_integer, defBody s__law_is_integer, defScope s__law_is_integer, [], []⟩
def d__law_pick : He.DefD := ⟨("_law_pick", none), "_law_pick", "_law_pick", defArgs s__law_pick, defBody s__law_pick, defScope s__law_pick, [], []⟩
def d__law_digit : He.DefD := ⟨("_law_digit", none), "_law_digit", "_law_digit", defArgs s__law_digit, defBody s__law_digit, defScope s__law_digit, [], []⟩
def d__law_state : He.DefD := ⟨("_law_state", none), "_law_state", "_law_state", defArgs s__law_state, defBody s__law_state, defScope s__law_state, [], []⟩
def d__law_before : He.DefD := ⟨("_law_before", none), "_law_before", "_law_before", defArgs s__law_before, defBody s__law_before, defScope s__law_before, [], []⟩
def d__law_tokens : He.DefD := ⟨("_law_tokens", none), "_law_tokens", "_law_tokens", defArgs s__law_tokens, defBody s__law_tokens, defScope s__law_tokens, [], []⟩
def d__law_messages : He.DefD := ⟨("_law_messages", none), "_law_messages", "_law_messages", defArgs s__law_messages, defBody s__law_messages, defScope s__law_messages, [], []⟩
def d__law_base : He.DefD := ⟨("_law_base", none), "_law_base", "_law_base", defArgs s__law_base, defBody s__law_base, defScope s__law_base, [], []⟩
def d__law_edit : He.DefD := ⟨("_law_edit", none), "_law_edit", "_law_edit", defArgs s__law_edit, defBody s__law_edit, defScope s__law_edit, [], []⟩
def d__law_drawn : He.DefD := ⟨("_law_drawn", none), "_law_drawn", "_law_drawn", defArgs s__law_drawn, defBody s__law_drawn, defScope s__law_drawn, [], []⟩
def d__law_flat : He.DefD := ⟨("_law_flat", none), "_law_flat", "_law_flat", defArgs s__law_flat, defBody s__law_flat, defScope s__law_flat, [], []⟩
def d__law_sent : He.DefD := ⟨("_law_sent", none), "_law_sent", "_law_sent", defArgs s__law_sent, defBody s__law_sent, defScope s__law_sent, [], []⟩
def d__law_mixed : He.DefD := ⟨("_law_mixed", none), "_law_mixed", "_law_mixed", defArgs s__law_mixed, defBody s__law_mixed, defScope s__law_mixed, [], []⟩
def d__law_encryptions : He.DefD := ⟨("_law_encryptions", none), "_law_encryptions", "_law_encryptions", defArgs s__law_encryptions, defBody s__law_encryptions, defScope s__law_encryptions, [], []⟩
def d__law_breaks_counts : He.DefD := ⟨("_law_breaks_counts", none), "_law_breaks_counts", "_law_breaks_counts", defArgs s__law_breaks_counts, defBody s__law_breaks_counts, defScope s__law_breaks_counts, [], []⟩
def d__law_breaks_keys : He.DefD := ⟨("_law_breaks_keys", none), "_law_breaks_keys", "_law_breaks_keys", defArgs s__law_breaks_keys, defBody s__law_breaks_keys, defScope s__law_breaks_keys, [], []⟩
def d__law_breaks_encryption : He.DefD := ⟨("_law_breaks_encryption", none), "_law_breaks_encryption", "_law_breaks_encryption", defArgs s__law_breaks_encryption, defBody s__law_breaks_encryption, defScope s__law_breaks_encryption, [], []⟩
def d__law_breaks_psk : He.DefD := ⟨("_law_breaks_psk", none), "_law_breaks_psk", "_law_breaks_psk", defArgs s__law_breaks_psk, defBody s__law_breaks_psk, defScope s__law_breaks_psk, [], []⟩
def d__law_broken : He.DefD := ⟨("_law_broken", none), "_law_broken", "_law_broken", defArgs s__law_broken, defBody s__law_broken, defScope s__law_broken, [], []⟩
def d__law_pattern_name : He.DefD := ⟨("_law_pattern_name", none), "_law_pattern_name", "_law_pattern_name", defArgs s__law_pattern_name, defBody s__law_pattern_name, defScope s__law_pattern_name, [], []⟩
def d__law_secrets : He.DefD := ⟨("_law_secrets", none), "_law_secrets", "_law_secrets", defArgs s__law_secrets, defBody s__law_secrets, defScope s__law_secrets, [], []⟩
def d__law_open : He.DefD := ⟨("_law_open", none), "_law_open", "_law_open", defArgs s__law_open, defBody s__law_open, defScope s__law_open, [], []⟩
def d__law_says : He.DefD := ⟨("_law_says", none), "_law_says", "_law_says", defArgs s__law_says, defBody s__law_says, defScope s__law_says, [], []⟩
def d__law_right_answers : He.DefD := ⟨("_law_right_answers", none), "_law_right_answers", "_law_right_answers", defArgs s__law_right_answers, defBody s__law_right_answers, defScope s__law_right_answers, [], []⟩
def d__law_right_grades : He.DefD := ⟨("_law_right_grades", none), "_law_right_grades", "_law_right_grades", defArgs s__law_right_grades, defBody s__law_right_grades, defScope s__law_right_grades, [], []⟩
def d__law_is_pair : He.DefD := ⟨("_law_is_pair", none), "_law_is_pair", "_law_is_pair", defArgs s__law_is_pair, defBody s__law_is_pair, defScope s__law_is_pair, [], []⟩
def d__law_right_pattern : He.DefD := ⟨("_law_right_pattern", none), "_law_right_pattern", "_law_right_pattern", defArgs s__law_right_pattern, defBody s__law_right_pattern, defScope s__law_right_pattern, [], []⟩
def d_law : He.DefD := ⟨("law", none), "law", "law", defArgs s_law, defBody s_law, defScope s_law, [], []⟩
def d_init : He.DefD := ⟨("Pattern", some "__init__"), "__init__", "Pattern.__init__", defArgs s_init, defBody s_init, defScope s_init, [], []⟩
def fn1 : List He.DefD := [d_transport_senders, d_pattern_steps, d_repeats_key, d_repeats_secret, d_misses_key, d_misses_ephemeral, d_misplaces_psk, d_psk_without_key, d_broken_rule, d_can_compute, d_processed_before, d_can_compute_all, d_own_key, d_other_key, d_check_index, d_is_open, d_can_forge, d_source_grade, d_destination_grade, d_grades, d__law_cell, d__law_is_integer, d__law_pick, d__law_digit, d__law_state]
def fn2 : List He.DefD := [d__law_before, d__law_tokens, d__law_messages, d__law_base, d__law_edit, d__law_drawn, d__law_flat, d__law_sent, d__law_mixed, d__law_encryptions, d__law_breaks_counts, d__law_breaks_keys, d__law_breaks_encryption, d__law_breaks_psk, d__law_broken, d__law_pattern_name, d__law_secrets, d__law_open, d__law_says, d__law_right_answers, d__law_right_grades, d__law_is_pair, d__law_right_pattern, d_law, d_init]
def fn : List He.DefD := fn1 ++ fn2
def fa1 : List He.Fa := [.glo "transport_senders", .glo "pattern_steps", .glo "repeats_key", .glo "repeats_secret", .glo "misses_key", .glo "misses_ephemeral", .glo "misplaces_psk", .glo "psk_without_key", .glo "broken_rule", .glo "can_compute", .glo "processed_before", .glo "can_compute_all", .glo "own_key", .glo "other_key", .glo "check_index", .glo "is_open", .glo "can_forge", .glo "source_grade", .glo "destination_grade", .glo "grades", .glo "_law_cell", .glo "_law_is_integer", .glo "_law_pick", .glo "_law_digit", .glo "_law_state"]
def fa2 : List He.Fa := [.glo "_law_before", .glo "_law_tokens", .glo "_law_messages", .glo "_law_base", .glo "_law_edit", .glo "_law_drawn", .glo "_law_flat", .glo "_law_sent", .glo "_law_mixed", .glo "_law_encryptions", .glo "_law_breaks_counts", .glo "_law_breaks_keys", .glo "_law_breaks_encryption", .glo "_law_breaks_psk", .glo "_law_broken", .glo "_law_pattern_name", .glo "_law_secrets", .glo "_law_open", .glo "_law_says", .glo "_law_right_answers", .glo "_law_right_grades", .glo "_law_is_pair", .glo "_law_right_pattern", .glo "law"]
def fa3 : List He.Fa := [.glo "Pattern", .glo "SECRETS", .glo "USED_KEYS", .str "OPENER" "->", .str "ANSWERER" "<-", .cls "Pattern", .noat "Pattern" "name", .noat "Pattern" "before", .noat "Pattern" "messages", .mkr "Pattern", .free "len", .free "range", .free "zip", .free "enumerate", .free "list", .free "tuple", .free "int", .free "isinstance", .free "bool", .free "abs"]
def fa : List He.Fa := fa1 ++ fa2 ++ fa3
/-- where the pair of the secret k stands in the table -/
def kAt (k : Str) (K : PySem.W.Frag) : Addr := match PySem.W.nsIn K (He.ga K "USED_KEYS") k with
  | some (some (.ref a)) => a
  | _ => 0
def pairB (K : PySem.W.Frag) (a : Addr) (vs : List V) : Bool := match K.lookup a with
  | some ⟨.type c, _, .seq its _, _⟩ => decide (c = "tuple") && (decide (its.size ≤ sizeLine) && He.relAll vs its.toList)
  | _ => false
theorem pairB_ok {K : PySem.W.Frag} {a : Addr} {vs : List V} (h : pairB K a vs = true) (H : Hp) : SqT K H a vs := by
  unfold pairB at h
  split at h
  · rename_i c dd its n sl hl
    rw [Bool.and_eq_true, Bool.and_eq_true] at h
    have hc : c = "tuple" := of_decide_eq_true h.1
    subst hc
    exact .inr ⟨_, its, n, hl, rfl, rfl, of_decide_eq_true h.2.1, He.relAll_ok h.2.2⟩
  · cases h
def ts : List He.Tab := [(fun K => He.ga K "USED_KEYS", ["ee", "es", "se", "ss"])]
def ex (K : PySem.W.Frag) : Bool := He.valsB K (He.ga K "USED_KEYS") [("ee", .adr (kAt "ee")), ("es", .adr (kAt "es")), ("se", .adr (kAt "se")), ("ss", .adr (kAt "ss"))] &&
  (pairB K (kAt "ee" K) [.str "oe", .str "ae"] && (pairB K (kAt "es" K) [.str "oe", .str "as"] && (pairB K (kAt "se" K) [.str "os", .str "ae"] && (pairB K (kAt "ss" K) [.str "os", .str "as"] &&
  pairB K (He.ga K "SECRETS") [.str "ee", .str "es", .str "se", .str "ss"]))))
abbrev R : PySem.W.OpenRow := PySem.W.OpenLaw.row PySem.Challenge.rw_hushlink_k38_whole_grades_of_valid_patte
abbrev hk : PySem.W.Hook := He.hookX 5 fa fn ts [] ex
def ob (s : PySem.W.SharedT) : He.AlX := He.obsX 5 fa fn ts [] ex (HandSHeadRun.getT s)
theorem ob_eq (s : PySem.W.SharedT) : ob s = hk.obs s.abs := He.obsX_eq (HandSHeadRun.getT_eq s)
def nm1 : List Str := ["HushError", "OutOfRange", "OPENER", "ANSWERER", "Pattern", "SECRETS", "transport_senders", "pattern_steps", "repeats_key", "repeats_secret", "misses_key", "misses_ephemeral", "misplaces_psk", "psk_without_key", "broken_rule", "USED_KEYS", "can_compute", "processed_before", "can_compute_all", "own_key", "other_key", "check_index", "is_open", "can_forge", "source_grade", "destination_grade", "grades", "_law_cell", "_law_is_integer", "_law_pick"]
def nm2 : List Str := ["_law_digit", "_law_state", "_law_before", "_law_tokens", "_law_messages", "_law_base", "_law_edit", "_law_drawn", "_law_flat", "_law_sent", "_law_mixed", "_law_encryptions", "_law_breaks_counts", "_law_breaks_keys", "_law_breaks_encryption", "_law_breaks_psk", "_law_broken", "_law_pattern_name", "_law_secrets", "_law_open", "_law_says", "_law_right_answers", "_law_right_grades", "_law_is_pair", "_law_right_pattern"]
def nm : List Str := nm1 ++ nm2
theorem run0 (w : World) : HandSHeadRun.RunEq R (PySem.W.view R.prog [60]) hk ob 4000 nm (w.withFollow "special-get-raises" false) := by
  intro os
  kernel_rfl
theorem run1 (w : World) : HandSHeadRun.RunEq R (PySem.W.view R.prog [60]) hk ob 4000 nm (w.withFollow "special-get-raises" true) := by
  intro os
  kernel_rfl
theorem run (w : World) : HandSHeadRun.RunEq R (PySem.W.view R.prog [60]) hk ob 4000 nm w :=
  PySem.W.byRow2 "special-get-raises" (P := fun w => HandSHeadRun.RunEq R (PySem.W.view R.prog [60]) hk ob 4000 nm w) run0 run1 w
end K38
end
section
/-! the joining: what the top has left, the promises, the law (printed by gen_end.py) -/
namespace K38
open PySem PySem.Spec PyProof.Rows L2
section
variable {P : Program} {w : World} {K : PySem.W.Frag} {mg : Str → Option Value} {base h : Heap} {f : Addr}
theorem dh (X : K.In h) (G : h.Ns mainGlobals mg) (c : He.SaysX fa fn ts [] ex w h K) (i : Nat) (n : Str) (st : Stmt) (hd : fn[i]? = some ⟨(n, none), n, n, defArgs st, defBody st, defScope st, [], []⟩ := by rfl) (hf : fa[i]? = some (.glo n) := by rfl) : Dh K mg n st := by
  obtain ⟨fd, F⟩ := c.t.d.def_ i hd
  exact ⟨_, fd, F, He.glo_ok X G (c.t.d.fact i hf)⟩
theorem kdct (c : He.SaysX fa fn ts [] ex w h K) {k : Str} {a : Addr} (hv : ∃ u, PySem.W.nsIn K (He.ga K "USED_KEYS") k = some (some u) ∧ RelV (.ref a) u) : KDct K w (He.ga K "USED_KEYS") k (.ref a) := by
  obtain ⟨es, n, hk⟩ := c.t.tab 0
  obtain ⟨u, h1, h2⟩ := hv
  exact ⟨es, n, u, hk.1, hk.2, h1, h2⟩
theorem bi (X : K.In h) (G : h.Ns mainGlobals mg) (c : He.SaysX fa fn ts [] ex w h K) : Bi w K mg (He.ga K "Pattern") := by
  have m := c.more
  unfold ex at m
  obtain ⟨m0, m⟩ := Bool.and_eq_true_iff.mp m
  obtain ⟨m1, m⟩ := Bool.and_eq_true_iff.mp m
  obtain ⟨m2, m⟩ := Bool.and_eq_true_iff.mp m
  obtain ⟨m3, m⟩ := Bool.and_eq_true_iff.mp m
  obtain ⟨m4, m5⟩ := Bool.and_eq_true_iff.mp m
  have hv : ∀ (q : Str × He.Dv), q ∈ ([("ee", .adr (kAt "ee")), ("es", .adr (kAt "es")), ("se", .adr (kAt "se")), ("ss", .adr (kAt "ss"))] : List (Str × He.Dv)) → ∃ u, PySem.W.nsIn K (He.ga K "USED_KEYS") q.1 = some (some u) ∧ RelV (q.2.v K) u := fun q hq => He.valsB_ok m0 hq
  exact {
    opener := He.str_ok X G (c.t.d.fact 52 (f := .str "OPENER" "->") rfl)
    answerer := He.str_ok X G (c.t.d.fact 53 (f := .str "ANSWERER" "<-") rfl)
    secrets := ⟨_, He.glo_ok X G (c.t.d.fact 50 (f := .glo "SECRETS") rfl), fun H => pairB_ok m5 H⟩
    used := ⟨_, He.glo_ok X G (c.t.d.fact 51 (f := .glo "USED_KEYS") rfl), ⟨_, kdct c (hv ("ee", .adr (kAt "ee")) (by simp)), fun H => pairB_ok m1 H⟩, ⟨_, kdct c (hv ("es", .adr (kAt "es")) (by simp)), fun H => pairB_ok m2 H⟩, ⟨_, kdct c (hv ("se", .adr (kAt "se")) (by simp)), fun H => pairB_ok m3 H⟩, ⟨_, kdct c (hv ("ss", .adr (kAt "ss")) (by simp)), fun H => pairB_ok m4 H⟩⟩
    len := He.free_ok X G (c.t.d.fact 59 (f := .free "len") rfl)
    range := He.free_ok X G (c.t.d.fact 60 (f := .free "range") rfl)
    zip := He.free_ok X G (c.t.d.fact 61 (f := .free "zip") rfl)
    enum := He.free_ok X G (c.t.d.fact 62 (f := .free "enumerate") rfl)
    list := He.free_ok X G (c.t.d.fact 63 (f := .free "list") rfl)
    tuple := He.free_ok X G (c.t.d.fact 64 (f := .free "tuple") rfl)
    int := He.free_ok X G (c.t.d.fact 65 (f := .free "int") rfl)
    isi := He.free_ok X G (c.t.d.fact 66 (f := .free "isinstance") rfl)
    bool := He.free_ok X G (c.t.d.fact 67 (f := .free "bool") rfl)
    abs := He.free_ok X G (c.t.d.fact 68 (f := .free "abs") rfl)
    cl := He.cls_ok (c.t.d.fact 54 (f := .cls "Pattern") rfl)
    nN := He.noat_ok (c.t.d.fact 55 (f := .noat "Pattern" "name") rfl)
    nB := He.noat_ok (c.t.d.fact 56 (f := .noat "Pattern" "before") rfl)
    nM := He.noat_ok (c.t.d.fact 57 (f := .noat "Pattern" "messages") rfl) }
theorem mki (X : K.In h) (G : h.Ns mainGlobals mg) (c : He.SaysX fa fn ts [] ex w h K) : Mki P w K mg base (He.ga K "Pattern") := by
  obtain ⟨fd, F⟩ := c.t.d.def_ 49 (d := d_init) rfl
  exact ⟨_, fd, He.mkr_ok (c.t.d.fact 58 (f := .mkr "Pattern") rfl), ok_init (bi X G c) F, He.glo_ok X G (c.t.d.fact 49 (f := .glo "Pattern") rfl), F.bindsN fun _ _ _ _ _ _ us hl => match us, hl with | [_, _, _, _], _ => rfl⟩
theorem facts (X : K.In h) (G : h.Ns mainGlobals mg) (hfa : mg ("law" : Str) = some (.ref f)) (c : He.SaysX fa fn ts [] ex w h K) :
    ∃ fd : FuncData, (∀ (s : Shared) (v : Value), BindsTo s fd ⟨[v], []⟩ [("_law_script", v)]) ∧ ∀ base : Heap, K.In base → base.Ns mainGlobals mg → FnOk P w K mg base CX0 6 f fd ["_law_script"] (sp_law K) := by
  obtain ⟨fd, F⟩ := c.t.d.def_ 48 (d := d_law) rfl
  have e := hfa.symm.trans (He.glo_ok X G (c.t.d.fact 48 (f := .glo "law") rfl))
  cases e
  have b := FunD.bindsA (ps := ["_law_script"]) F fun _ _ _ _ _ _ us hl => match us, hl with | [_], _ => rfl
  refine ⟨fd, fun s v => b s [v] rfl, fun base _ _ => ?_⟩
  have B := bi X G c
  have own := ok_own_key (P := P) (w := w) (base := base) B (dh X G c 12 "own_key" s_own_key)
  have oth := ok_other_key (P := P) (w := w) (base := base) B (dh X G c 13 "other_key" s_other_key)
  have cco := ok_can_compute (P := P) (w := w) (base := base) B (dh X G c 9 "can_compute" s_can_compute)
  have cca := ok_can_compute_all (P := P) (w := w) (base := base) cco (dh X G c 11 "can_compute_all" s_can_compute_all)
  have pro := ok_processed (P := P) (w := w) (base := base) B (dh X G c 10 "processed_before" s_processed_before)
  have chk := ok_check (P := P) (w := w) (base := base) B (dh X G c 14 "check_index" s_check_index)
  have opn_ := ok_open (P := P) (w := w) (base := base) B chk pro cca (dh X G c 15 "is_open" s_is_open)
  have frg := ok_forge (P := P) (w := w) (base := base) B chk pro cca own (dh X G c 16 "can_forge" s_can_forge)
  have src_ := ok_src (P := P) (w := w) (base := base) cca own oth (dh X G c 17 "source_grade" s_source_grade)
  have dst_ := ok_dst (P := P) (w := w) (base := base) B oth (dh X G c 18 "destination_grade" s_destination_grade)
  have tra := ok_trans (P := P) (w := w) (base := base) B (dh X G c 0 "transport_senders" s_transport_senders)
  have gra := ok_grades (P := P) (w := w) (base := base) B tra pro src_ dst_ (dh X G c 19 "grades" s_grades)
  have stp := ok_steps (P := P) (w := w) (base := base) B tra (dh X G c 1 "pattern_steps" s_pattern_steps)
  have rke := ok_rkey (P := P) (w := w) (base := base) (dh X G c 2 "repeats_key" s_repeats_key)
  have rse := ok_rsec (P := P) (w := w) (base := base) B (dh X G c 3 "repeats_secret" s_repeats_secret)
  have mke := ok_mkey (P := P) (w := w) (base := base) B (dh X G c 4 "misses_key" s_misses_key)
  have mep := ok_meph (P := P) (w := w) (base := base) B (dh X G c 5 "misses_ephemeral" s_misses_ephemeral)
  have mis := ok_mis (P := P) (w := w) (base := base) B (dh X G c 6 "misplaces_psk" s_misplaces_psk)
  have pwk := ok_pwk (P := P) (w := w) (base := base) (dh X G c 7 "psk_without_key" s_psk_without_key)
  have bro := ok_broken (P := P) (w := w) (base := base) stp rke rse mke mep mis pwk (dh X G c 8 "broken_rule" s_broken_rule)
  have fla := ok_flat (P := P) (w := w) (base := base) B (dh X G c 31 "_law_flat" s__law_flat)
  have sen := ok_sent (P := P) (w := w) (base := base) (dh X G c 32 "_law_sent" s__law_sent)
  have mix := ok_mixed (P := P) (w := w) (base := base) (dh X G c 33 "_law_mixed" s__law_mixed)
  have enc := ok_encs (P := P) (w := w) (base := base) B fla mix (dh X G c 34 "_law_encryptions" s__law_encryptions)
  have brc := ok_brC (P := P) (w := w) (base := base) B (dh X G c 35 "_law_breaks_counts" s__law_breaks_counts)
  have brk_ := ok_brK (P := P) (w := w) (base := base) B sen (dh X G c 36 "_law_breaks_keys" s__law_breaks_keys)
  have bre := ok_brE (P := P) (w := w) (base := base) B sen fla mix enc (dh X G c 37 "_law_breaks_encryption" s__law_breaks_encryption)
  have brp := ok_brP (P := P) (w := w) (base := base) B (dh X G c 38 "_law_breaks_psk" s__law_breaks_psk)
  have lbr := ok_brk (P := P) (w := w) (base := base) B fla brc brk_ bre brp (dh X G c 39 "_law_broken" s__law_broken)
  have sec := ok_secs (P := P) (w := w) (base := base) (dh X G c 41 "_law_secrets" s__law_secrets)
  have lop := ok_lop (P := P) (w := w) (base := base) (dh X G c 42 "_law_open" s__law_open)
  have say := ok_says (P := P) (w := w) (base := base) B (dh X G c 43 "_law_says" s__law_says)
  have isi := ok_isint (P := P) (w := w) (base := base) B (dh X G c 21 "_law_is_integer" s__law_is_integer)
  have par := ok_pair (P := P) (w := w) (base := base) B isi (dh X G c 46 "_law_is_pair" s__law_is_pair)
  have ran := ok_ra (P := P) (w := w) (base := base) opn_ frg lop say B (dh X G c 44 "_law_right_answers" s__law_right_answers)
  have rgr := ok_rg (P := P) (w := w) (base := base) B lop (dh X G c 45 "_law_right_grades" s__law_right_grades)
  have rpa := ok_rp (P := P) (w := w) (base := base) gra sec par rgr ran B (dh X G c 47 "_law_right_pattern" s__law_right_pattern)
  have pic := ok_pick (P := P) (w := w) (base := base) (dh X G c 22 "_law_pick" s__law_pick)
  have dig := ok_dig (P := P) (w := w) (base := base) pic (dh X G c 23 "_law_digit" s__law_digit)
  have sta := ok_state (P := P) (w := w) (base := base) B (dh X G c 24 "_law_state" s__law_state)
  have bef := ok_bef (P := P) (w := w) (base := base) dig (dh X G c 25 "_law_before" s__law_before)
  have tok := ok_tok (P := P) (w := w) (base := base) B dig (dh X G c 26 "_law_tokens" s__law_tokens)
  have mes := ok_msgs (P := P) (w := w) (base := base) B dig tok (dh X G c 27 "_law_messages" s__law_messages)
  have bas := ok_base (P := P) (w := w) (base := base) (dh X G c 28 "_law_base" s__law_base)
  have cel := ok_cell (P := P) (w := w) (base := base) B (dh X G c 20 "_law_cell" s__law_cell)
  have nam := ok_name (P := P) (w := w) (base := base) B (dh X G c 40 "_law_pattern_name" s__law_pattern_name)
  have edi := ok_edit (P := P) (w := w) (base := base) B dig (dh X G c 29 "_law_edit" s__law_edit)
  have dra := ok_drawn (P := P) (w := w) (base := base) B dig sta bef mes bas edi (dh X G c 30 "_law_drawn" s__law_drawn)
  exact ok_law math B (mki X G c) cel dra bas nam lbr bro rpa F
end
end K38
open PySem PySem.W PySem.Calls PyProof.Rows
theorem PySem.Challenge.cw_hushlink_k38_whole_grades_of_valid_patte_holds : PySem.Challenge.rw_hushlink_k38_whole_grades_of_valid_patte.Holds := by
  w_on; o_law
  refine HandSHeadRun.head_any (r := OpenLaw.row PySem.Challenge.rw_hushlink_k38_whole_grades_of_valid_patte) (q := view (OpenLaw.row PySem.Challenge.rw_hushlink_k38_whole_grades_of_valid_patte).prog [60]) (H := K38.hk) (ob := K38.ob) (M := 4000) (loose := K38.nm) (d := HandSHeadRun.topDef (OpenLaw.row PySem.Challenge.rw_hushlink_k38_whole_grades_of_valid_patte).prog 60) (kwd := []) K38.ob_eq
    (by kernel_rfl) (fun s => by kernel_rfl) K38.run (by kernel_rfl) (by kernel_rfl) (by kernel_rfl) (by rfl) (by first | assumption | decide +kernel) (by decide +kernel) ⟨rfl, rfl, rfl, rfl, rfl, by decide +kernel⟩ ?hw ?hc
  case hw => w_witness2
  case hc =>
    refine L2.walk_ofE (l := PySem.Challenge.rw_hushlink_k38_whole_grades_of_valid_patte) (n := 63) (k := 6) (x := "_law_script") (CX := L2.CX0) rfl (by decide) (by kernel_rfl) ⟨rfl, by decide, by decide⟩ ?F (fun _ _ _ _ z => z)
    intro w mg fa h Y G hmg0
    obtain ⟨K, KX, c⟩ := Y
    have hmg : mg ("law" : PySem.Str) = some (.ref fa) := by
      have e : (HandSHeadRun.topDef (OpenLaw.row PySem.Challenge.rw_hushlink_k38_whole_grades_of_valid_patte).prog 60).name = ("law" : PySem.Str) := by kernel_rfl
      rw [← e]
      exact hmg0
    obtain ⟨fd, hb, hF⟩ := K38.facts (P := (PySem.Challenge.rw_hushlink_k38_whole_grades_of_valid_patte).prog) (w := w) KX G hmg c
    exact ⟨K, fd, K38.sp_law K, KX, hb, fun H a ns hl _ hS => ⟨(a, ns), hS, .cons rfl .nil, fun b v H1 q e ax => by subst q; exact K38.It.un_bl ax⟩, hF⟩
end
