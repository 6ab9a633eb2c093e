import PyProof.Rows.All
import Wide.All
import OpenK.AllK
import Wide.FinOn
import KE.KStateDown
import HandS.ForMost
import HandS.Defaults
import HandS.Property
import HandS.Codes
import HandS.Head0
import HandS.Head1
import HandS.Head2
import HandS.HeadEnd
import HandS.HeadHook1
import HandS.HeadHook2
import HandS.TupSets
import PyProof.WalksMore
import KE.SortData
import HandS.SetKeys
import HandS.Zip
import KE.KDictKeyed
import HandS.DictComp
import HandS.TupMul
import HandS.IsInst
import HandS.Flow
import HandS.Conv
import HandS.TupAny
import HandS.TupLe
import HandS.Steps
import PySem.Challenge.RW_pilereach_k23_whole_set_expressions
/-! K23Text -/
set_option Elab.async false
set_option linter.all false
set_option maxRecDepth 100000
set_option maxHeartbeats 4000000
namespace K23
open PySem L2
/-! the text by places -/
def topAt (i : Nat) : Stmt := PySem.Challenge.pw_pilereach_k23_whole_set_expressions.main.body.getD i (.Pass ⟨0, 0, 0, 0⟩)

abbrev s_fits : Stmt := topAt 5
abbrev s_Net_init : Stmt := inClass (topAt 6) 0
abbrev s_Net_eq : Stmt := inClass (topAt 6) 1
abbrev s_Net_is_plain : Stmt := inClass (topAt 6) 2
abbrev s_Net_goals : Stmt := inClass (topAt 6) 3
abbrev s_Net_moved : Stmt := inClass (topAt 6) 4
abbrev s_Net_has_end : Stmt := inClass (topAt 6) 5
abbrev s_Net_accepts : Stmt := inClass (topAt 6) 6
abbrev s_plain : Stmt := topAt 7
abbrev s_need_alike : Stmt := topAt 9
abbrev s_shifted : Stmt := topAt 10
abbrev s_union : Stmt := topAt 11
abbrev s_goal_pairs : Stmt := topAt 12
abbrev s_paired : Stmt := topAt 13
abbrev s_both : Stmt := topAt 14
abbrev s_deterministic : Stmt := topAt 16
abbrev s_other : Stmt := topAt 17
abbrev s_minus : Stmt := topAt 18
abbrev s_closer : Stmt := topAt 20
abbrev s_distances : Stmt := topAt 21
abbrev s_leads_on : Stmt := topAt 22
abbrev s_least_letter : Stmt := topAt 23
abbrev s_first : Stmt := topAt 24
abbrev s_L_numbers : Stmt := topAt 26
abbrev s_L_parts : Stmt := topAt 27
abbrev s_L_net : Stmt := topAt 28
abbrev s_L_is_number : Stmt := topAt 29
abbrev s_L_are_numbers : Stmt := topAt 30
abbrev s_L_once : Stmt := topAt 31
abbrev s_L_kept : Stmt := topAt 32
abbrev s_L_is_plain : Stmt := topAt 33
abbrev s_L_is_configuration : Stmt := topAt 34
abbrev s_L_moved : Stmt := topAt 35
abbrev s_L_has_end : Stmt := topAt 36
abbrev s_L_piles : Stmt := topAt 37
abbrev s_L_tells : Stmt := topAt 38
abbrev s_L_graph : Stmt := topAt 39
abbrev s_L_distances : Stmt := topAt 40
abbrev s_L_least : Stmt := topAt 41
abbrev s_L_nets : Stmt := topAt 42
abbrev s_L_term : Stmt := topAt 43
abbrev s_L_truth : Stmt := topAt 44
abbrev s_L_value : Stmt := topAt 45
abbrev s_L_meaning : Stmt := topAt 46
abbrev s_L_agree : Stmt := topAt 47
abbrev s_law : Stmt := topAt 48
end K23
/-! K23Head -/
set_option Elab.async false
set_option linter.all false
set_option maxRecDepth 100000
set_option maxHeartbeats 0
namespace K23
open PySem PySem.Spec PyProof.Rows L2
/-! the head: facts by names -/
def prA (K : PySem.W.Frag) : Addr := He.ma K (He.ga K "Net") "is_plain"
def grA (K : PySem.W.Frag) : Addr := match PySem.W.recIn K (prA K) "property" with
  | some (.ref g :: _) => g
  | _ => 0
def propB (K : PySem.W.Frag) : Bool := decide (PySem.W.findIn K (.ref (He.ga K "Net")) "is_plain" = some (some (.ref (prA K)))) && (decide (PySem.W.specialIn K (.ref (prA K)) "__get__" = some (some (.builtin "property.__get__"))) &&
  (decide (PySem.W.takesIn K (.ref (prA K)) = some true) && match PySem.W.recIn K (prA K) "property" with
    | some (.ref _ :: _) => true
    | _ => false))
def insB (K : PySem.W.Frag) : Bool := decide (PySem.W.findIn K (.ref (He.ga K "Net")) "__class__" = some (some (.builtin "object.__class__"))) && (decide (PySem.W.specialIn K (.builtin "object.__class__") "__get__" = some (some (.builtin "getset_descriptor.__get__"))) &&
  (decide (PySem.W.takesIn K (.builtin "object.__class__") = some true) && (decide (PySem.W.mroIn K (He.ga K "Net") (.type "object") = some true) && decide (PySem.W.kitOne K (.ref (He.ga K "Net")) (.ref (He.ga K "Net")) = some true))))
def getOk (K : PySem.W.Frag) (a : Addr) (q : Str) : Bool := PySem.W.keepIn K (.ref a) && match K.lookup a with
  | some ⟨_, _, .func fd, _⟩ => PySem.W.codeIn K fd.code q && (decide (fd.defaults = Value.none))
  | _ => false
def getW (K : PySem.W.Frag) (a : Addr) : He.FnW := match K.lookup a with
  | some ⟨_, _, .func fd, _⟩ => some (fd.name, fd.qualname, fd.params, fd.body, fd.scope, fd.globals, fd.closure, fd.builtins)
  | _ => none

def d_fits : He.DefD := ⟨("fits", none), "fits", "fits", defArgs s_fits, defBody s_fits, defScope s_fits, [], []⟩
def d_Net_init : He.DefD := ⟨("Net", some "__init__"), "__init__", "Net.__init__", defArgs s_Net_init, defBody s_Net_init, defScope s_Net_init, [], []⟩
def d_Net_goals : He.DefD := ⟨("Net", some "goals"), "goals", "Net.goals", defArgs s_Net_goals, defBody s_Net_goals, defScope s_Net_goals, [], []⟩
def d_Net_moved : He.DefD := ⟨("Net", some "moved"), "moved", "Net.moved", defArgs s_Net_moved, defBody s_Net_moved, defScope s_Net_moved, [], []⟩
def d_Net_has_end : He.DefD := ⟨("Net", some "has_end"), "has_end", "Net.has_end", defArgs s_Net_has_end, defBody s_Net_has_end, defScope s_Net_has_end, [], []⟩
def d_Net_accepts : He.DefD := ⟨("Net", some "accepts"), "accepts", "Net.accepts", defArgs s_Net_accepts, defBody s_Net_accepts, defScope s_Net_accepts, [], []⟩
def d_plain : He.DefD := ⟨("plain", none), "plain", "plain", defArgs s_plain, defBody s_plain, defScope s_plain, [], []⟩
def d_need_alike : He.DefD := ⟨("need_alike", none), "need_alike", "need_alike", defArgs s_need_alike, defBody s_need_alike, defScope s_need_alike, [], []⟩
def d_shifted : He.DefD := ⟨("shifted", none), "shifted", "shifted", defArgs s_shifted, defBody s_shifted, defScope s_shifted, [], []⟩
def d_union : He.DefD := ⟨("union", none), "union", "union", defArgs s_union, defBody s_union, defScope s_union, [], []⟩
def d_goal_pairs : He.DefD := ⟨("goal_pairs", none), "goal_pairs", "goal_pairs", defArgs s_goal_pairs, defBody s_goal_pairs, defScope s_goal_pairs, [], []⟩
def d_paired : He.DefD := ⟨("paired", none), "paired", "paired", defArgs s_paired, defBody s_paired, defScope s_paired, [], []⟩
def d_both : He.DefD := ⟨("both", none), "both", "both", defArgs s_both, defBody s_both, defScope s_both, [], []⟩
def d_deterministic : He.DefD := ⟨("deterministic", none), "deterministic", "deterministic", defArgs s_deterministic, defBody s_deterministic, defScope s_deterministic, [], []⟩
def d_other : He.DefD := ⟨("other", none), "other", "other", defArgs s_other, defBody s_other, defScope s_other, [], []⟩
def d_minus : He.DefD := ⟨("minus", none), "minus", "minus", defArgs s_minus, defBody s_minus, defScope s_minus, [], []⟩
def d_closer : He.DefD := ⟨("closer", none), "closer", "closer", defArgs s_closer, defBody s_closer, defScope s_closer, [], []⟩
def d_distances : He.DefD := ⟨("distances", none), "distances", "distances", defArgs s_distances, defBody s_distances, defScope s_distances, [], []⟩
def d_leads_on : He.DefD := ⟨("leads_on", none), "leads_on", "leads_on", defArgs s_leads_on, defBody s_leads_on, defScope s_leads_on, [], []⟩
def d_least_letter : He.DefD := ⟨("least_letter", none), "least_letter", "least_letter", defArgs s_least_letter, defBody s_least_letter, defScope s_least_letter, [], []⟩
def d_first : He.DefD := ⟨("first", none), "first", "first", defArgs s_first, defBody s_first, defScope s_first, [], []⟩
def d_L_numbers : He.DefD := ⟨("_law_numbers", none), "_law_numbers", "_law_numbers", defArgs s_L_numbers, defBody s_L_numbers, defScope s_L_numbers, [], []⟩
def d_L_parts : He.DefD := ⟨("_law_parts", none), "_law_parts", "_law_parts", defArgs s_L_parts, defBody s_L_parts, defScope s_L_parts, [], []⟩
def d_L_net : He.DefD := ⟨("_law_net", none), "_law_net", "_law_net", defArgs s_L_net, defBody s_L_net, defScope s_L_net, [], []⟩
def d_L_is_number : He.DefD := ⟨("_law_is_number", none), "_law_is_number", "_law_is_number", defArgs s_L_is_number, defBody s_L_is_number, defScope s_L_is_number, [], []⟩
def d_L_are_numbers : He.DefD := ⟨("_law_are_numbers", none), "_law_are_numbers", "_law_are_numbers", defArgs s_L_are_numbers, defBody s_L_are_numbers, defScope s_L_are_numbers, [], []⟩
def d_L_once : He.DefD := ⟨("_law_once", none), "_law_once", "_law_once", defArgs s_L_once, defBody s_L_once, defScope s_L_once, [], []⟩
def d_L_kept : He.DefD := ⟨("_law_kept", none), "_law_kept", "_law_kept", defArgs s_L_kept, defBody s_L_kept, defScope s_L_kept, [], []⟩
def d_L_is_plain : He.DefD := ⟨("_law_is_plain", none), "_law_is_plain", "_law_is_plain", defArgs s_L_is_plain, defBody s_L_is_plain, defScope s_L_is_plain, [], []⟩
def d_L_is_configuration : He.DefD := ⟨("_law_is_configuration", none), "_law_is_configuration", "_law_is_configuration", defArgs s_L_is_configuration, defBody s_L_is_configuration, defScope s_L_is_configuration, [], []⟩
def d_L_moved : He.DefD := ⟨("_law_moved", none), "_law_moved", "_law_moved", defArgs s_L_moved, defBody s_L_moved, defScope s_L_moved, [], []⟩
def d_L_has_end : He.DefD := ⟨("_law_has_end", none), "_law_has_end", "_law_has_end", defArgs s_L_has_end, defBody s_L_has_end, defScope s_L_has_end, [], []⟩
def d_L_piles : He.DefD := ⟨("_law_piles", none), "_law_piles", "_law_piles", defArgs s_L_piles, defBody s_L_piles, defScope s_L_piles, [], []⟩
def d_L_tells : He.DefD := ⟨("_law_tells", none), "_law_tells", "_law_tells", defArgs s_L_tells, defBody s_L_tells, defScope s_L_tells, [], []⟩
def d_L_graph : He.DefD := ⟨("_law_graph", none), "_law_graph", "_law_graph", defArgs s_L_graph, defBody s_L_graph, defScope s_L_graph, [], []⟩
def d_L_distances : He.DefD := ⟨("_law_distances", none), "_law_distances", "_law_distances", defArgs s_L_distances, defBody s_L_distances, defScope s_L_distances, [], []⟩
def d_L_least : He.DefD := ⟨("_law_least", none), "_law_least", "_law_least", defArgs s_L_least, defBody s_L_least, defScope s_L_least, [], []⟩
def d_L_nets : He.DefD := ⟨("_law_nets", none), "_law_nets", "_law_nets", defArgs s_L_nets, defBody s_L_nets, defScope s_L_nets, [], []⟩
def d_L_term : He.DefD := ⟨("_law_term", none), "_law_term", "_law_term", defArgs s_L_term, defBody s_L_term, defScope s_L_term, [], []⟩
def d_L_truth : He.DefD := ⟨("_law_truth", none), "_law_truth", "_law_truth", defArgs s_L_truth, defBody s_L_truth, defScope s_L_truth, [], []⟩
def d_L_value : He.DefD := ⟨("_law_value", none), "_law_value", "_law_value", defArgs s_L_value, defBody s_L_value, defScope s_L_value, [], []⟩
def d_L_meaning : He.DefD := ⟨("_law_meaning", none), "_law_meaning", "_law_meaning", defArgs s_L_meaning, defBody s_L_meaning, defScope s_L_meaning, [], []⟩
def d_L_agree : He.DefD := ⟨("_law_agree", none), "_law_agree", "_law_agree", defArgs s_L_agree, defBody s_L_agree, defScope s_L_agree, [], []⟩
def d_law : He.DefD := ⟨("law", none), "law", "law", defArgs s_law, defBody s_law, defScope s_law, [], []⟩
def fnL : List He.DefD := [d_fits, d_Net_init, d_Net_goals, d_Net_moved, d_Net_has_end, d_Net_accepts, d_plain, d_need_alike, d_shifted, d_union, d_goal_pairs, d_paired, d_both, d_deterministic, d_other, d_minus, d_closer, d_distances, d_leads_on, d_least_letter, d_first, d_L_numbers, d_L_parts, d_L_net, d_L_is_number, d_L_are_numbers, d_L_once, d_L_kept, d_L_is_plain, d_L_is_configuration, d_L_moved, d_L_has_end, d_L_piles, d_L_tells, d_L_graph, d_L_distances, d_L_least, d_L_nets, d_L_term, d_L_truth, d_L_value, d_L_meaning, d_L_agree, d_law]
def faL : List He.Fa := [.glo "fits", .glo "plain", .glo "need_alike", .glo "shifted", .glo "union", .glo "goal_pairs", .glo "paired", .glo "both", .glo "deterministic", .glo "other", .glo "minus", .glo "closer", .glo "distances", .glo "leads_on", .glo "least_letter", .glo "first", .glo "_law_numbers", .glo "_law_parts", .glo "_law_net", .glo "_law_is_number", .glo "_law_are_numbers", .glo "_law_once", .glo "_law_kept", .glo "_law_is_plain", .glo "_law_is_configuration", .glo "_law_moved", .glo "_law_has_end", .glo "_law_piles", .glo "_law_tells", .glo "_law_graph", .glo "_law_distances", .glo "_law_least", .glo "_law_nets", .glo "_law_term", .glo "_law_truth", .glo "_law_value", .glo "_law_meaning", .glo "_law_agree", .glo "law", .glo "Net", .free "len", .free "range", .free "tuple", .free "sorted", .free "set", .free "list", .free "isinstance", .free "int", .free "bool", .free "all", .free "any", .free "min", .free "enumerate", .cls "Net", .noat "Net" "states", .noat "Net" "letters", .noat "Net" "nodes", .noat "Net" "edges", .noat "Net" "ends", .noat "Net" "_goals", .meth "Net" "goals", .meth "Net" "moved", .meth "Net" "has_end", .meth "Net" "accepts", .mkr "Net"]

abbrev AlK : Type := (Bool × He.FnW) × He.AlD
def obsK (K : PySem.W.Frag) : AlK := ((propB K && (getOk K (grA K) "Net.is_plain" && (PySem.W.isClsIn K (He.ga K "Net") && insB K)), getW K (grA K)), He.obsD faL fnL K)
def valK : AlK := ((true, some ("is_plain", "Net.is_plain", defArgs s_Net_is_plain, .stmts (defBody s_Net_is_plain), defScope s_Net_is_plain, mainGlobals, [], builtinsNs)), He.valD fnL)
def obsKG (g : Addr → Option Obj) : AlK := obsK (He.frG g (He.asD g 6))
def hookK : PySem.W.Hook where
  α := AlK
  obs := fun s => obsKG s.heap.get?
  val := fun _ => valK
  says := fun _ h => ∃ K : PySem.W.Frag, K.In h ∧ obsK K = valK
  of := fun _ _ e => ⟨_, He.frG_in, e⟩
  keeps := fun _ _ _ ⟨K, hK, c⟩ k => ⟨K, PySem.W.Frag.In.keeps hK k, c⟩
theorem obsKG_eq {g : Addr → Option Obj} {s : Shared} (h : ∀ a, g a = s.heap.get? a) : obsKG g = hookK.obs s := by
  have e : g = s.heap.get? := funext h
  rw [e] <;> rfl
abbrev RowK : PySem.W.OpenRow := PySem.W.OpenLaw.row PySem.Challenge.rw_pilereach_k23_whole_set_expressions
def obK (s : PySem.W.SharedT) : AlK := obsKG (HandSHeadRun.getT s)
theorem obK_eq (s : PySem.W.SharedT) : obK s = hookK.obs s.abs := obsKG_eq (HandSHeadRun.getT_eq s)

def looseA : List PySem.Str := ["PileError", "InvalidNet", "Mismatch", "fits", "Net", "plain", "need_alike", "shifted", "union", "goal_pairs", "paired", "both", "deterministic", "other", "minus", "closer", "distances", "leads_on", "least_letter", "first", "_law_numbers", "_law_parts", "_law_net", "_law_is_number"]
def looseB : List PySem.Str := ["_law_are_numbers", "_law_once", "_law_kept", "_law_is_plain", "_law_is_configuration", "_law_moved", "_law_has_end", "_law_piles", "_law_tells", "_law_graph", "_law_distances", "_law_least", "_law_nets", "_law_term", "_law_truth", "_law_value", "_law_meaning", "_law_agree"]
def looseK : List PySem.Str := looseA ++ looseB
theorem runK (w : World) : HandSHeadRun.RunEq RowK (PySem.W.view RowK.prog [48]) hookK obK 20000 looseK w := by
  intro os
  kernel_rfl
end K23
/-! K23SetA -/
set_option Elab.async false
set_option linter.all false
set_option maxRecDepth 100000
set_option maxHeartbeats 4000000
/-! Hash tables of any size: masks 2^k - 1, the probing way meets every slot, few visits a slot. -/
namespace K23
open PySem PySem.Spec PyProof.Rows L2

/-! ### the round i -> 5 i + 1 modulo a power of two -/
def ln : Nat → Nat
  | 0 => 0
  | n + 1 => 5 * ln n + 1
theorem ln_add (m : Nat) : ∀ n, ln (n + m) = ln n * (4 * ln m + 1) + ln m
  | 0 => by
    rw [Nat.zero_add]
    show ln m = 0 * (4 * ln m + 1) + ln m
    rw [Nat.zero_mul, Nat.zero_add]
  | n + 1 => by
    have e : n + 1 + m = n + m + 1 := by omega
    rw [e]
    show 5 * ln (n + m) + 1 = (5 * ln n + 1) * (4 * ln m + 1) + ln m
    rw [ln_add m n, Nat.add_mul, Nat.mul_add, Nat.mul_assoc]
    omega
theorem ln_pow : ∀ k, ∃ q, ln (2 ^ k) = 2 ^ k * (2 * q + 1)
  | 0 => ⟨0, rfl⟩
  | k + 1 => by
    obtain ⟨q, hq⟩ := ln_pow k
    have e : (2 : Nat) ^ (k + 1) = 2 ^ k + 2 ^ k := by rw [Nat.pow_succ]; omega
    refine ⟨q * (2 * ln (2 ^ k) + 1) + ln (2 ^ k), ?_⟩
    have h1 : ln (2 ^ (k + 1)) = 2 * (ln (2 ^ k) * (2 * ln (2 ^ k) + 1)) := by
      rw [e, ln_add]
      have a1 : ln (2 ^ k) * (4 * ln (2 ^ k) + 1) = 2 * (ln (2 ^ k) * (2 * ln (2 ^ k))) + ln (2 ^ k) := by
        rw [Nat.mul_add, Nat.mul_one]
        have : ln (2 ^ k) * (4 * ln (2 ^ k)) = 2 * (ln (2 ^ k) * (2 * ln (2 ^ k))) := by
          rw [show 4 * ln (2 ^ k) = 2 * (2 * ln (2 ^ k)) by omega, Nat.mul_left_comm]
        omega
      rw [a1, Nat.mul_add, Nat.mul_one]
      omega
    have h2 : 2 * (q * (2 * ln (2 ^ k) + 1) + ln (2 ^ k)) + 1 = (2 * q + 1) * (2 * ln (2 ^ k) + 1) := by
      rw [Nat.add_mul, Nat.one_mul, Nat.mul_assoc]
      omega
    rw [h1, h2]
    generalize ln (2 ^ k) = x at hq
    subst hq
    rw [Nat.pow_succ, Nat.mul_comm (2 ^ k) 2, Nat.mul_assoc, Nat.mul_assoc]
theorem ln_all : ∀ k j, j < 2 ^ k → ∃ b, b < 2 ^ k ∧ ln b % 2 ^ k = j
  | 0, j, h => ⟨0, Nat.one_pos, by
    have : j = 0 := by simpa using h
    subst this
    rfl⟩
  | k + 1, j, h => by
    have hp : 0 < 2 ^ k := Nat.pow_pos (by decide)
    have e : (2 : Nat) ^ (k + 1) = 2 * 2 ^ k := by rw [Nat.pow_succ]; omega
    obtain ⟨b, hb, hj⟩ := ln_all k (j % 2 ^ k) (Nat.mod_lt _ hp)
    obtain ⟨q, hq⟩ := ln_pow k
    rw [e] at h ⊢
    have d1 := Nat.div_add_mod (ln b) (2 ^ k)
    have d2 := Nat.div_add_mod j (2 ^ k)
    rw [hj] at d1
    have dj : j / 2 ^ k < 2 := (Nat.div_lt_iff_lt_mul hp).2 (by omega)
    -- ln b modulo the double
    have m1 : ∀ x r t, x = 2 ^ k * (2 * t + r) + j % 2 ^ k → r < 2 → x % (2 * 2 ^ k) = 2 ^ k * r + j % 2 ^ k := fun x r t hx hr => by
      have hl : 2 ^ k * r + j % 2 ^ k < 2 * 2 ^ k := by
        have := Nat.mod_lt j hp
        rcases (show r = 0 ∨ r = 1 by omega) with z | z <;> subst z <;> omega
      have ex : x = (2 ^ k * r + j % 2 ^ k) + 2 * 2 ^ k * t := by
        rw [hx, Nat.mul_add]
        have : 2 ^ k * (2 * t) = 2 * 2 ^ k * t := by rw [← Nat.mul_assoc, Nat.mul_comm (2 ^ k) 2]
        omega
      rw [ex, Nat.add_mul_mod_self_left, Nat.mod_eq_of_lt hl]
    have db := Nat.div_add_mod (ln b / 2 ^ k) 2
    have rb := Nat.mod_lt (ln b / 2 ^ k) (show 0 < 2 by decide)
    have hx : ln b = 2 ^ k * (2 * (ln b / 2 ^ k / 2) + ln b / 2 ^ k % 2) + j % 2 ^ k := by
      rw [db]
      omega
    by_cases c : ln b / 2 ^ k % 2 = j / 2 ^ k
    · refine ⟨b, by omega, ?_⟩
      rw [m1 _ _ _ hx rb, c]
      exact d2
    · refine ⟨b + 2 ^ k, by omega, ?_⟩
      have ex : ln (b + 2 ^ k) = 2 ^ k * (2 * (ln b / 2 ^ k / 2 + 2 * (ln b * (2 * q + 1)) + q + ln b / 2 ^ k % 2) + j / 2 ^ k) + j % 2 ^ k := by
        rw [ln_add, hq, Nat.mul_add (ln b) _ 1, Nat.mul_one]
        have g1 : ln b * (4 * (2 ^ k * (2 * q + 1))) = 2 ^ k * (4 * (ln b * (2 * q + 1))) := by
          rw [Nat.mul_left_comm (ln b) 4, Nat.mul_left_comm (ln b) (2 ^ k), Nat.mul_left_comm 4 (2 ^ k)]
        rw [g1]
        generalize ln b * (2 * q + 1) = X
        have f2 : 2 * (ln b / 2 ^ k / 2 + 2 * X + q + ln b / 2 ^ k % 2) + j / 2 ^ k = 4 * X + (2 * (ln b / 2 ^ k / 2) + ln b / 2 ^ k % 2) + (2 * q + 1) := by
          clear hx d1 d2 m1
          generalize j / 2 ^ k = J at c dj ⊢
          generalize ln b / 2 ^ k = B at c rb db ⊢
          omega
        rw [f2, Nat.mul_add (2 ^ k) _ (2 * q + 1), Nat.mul_add (2 ^ k) (4 * X) _]
        omega
      rw [m1 _ _ _ ex dj]
      exact d2

/-- the masks of the tables -/
def MaskG (m : Nat) : Prop := ∃ k, 3 ≤ k ∧ m + 1 = 2 ^ k
theorem mg7 : MaskG 7 := ⟨3, Nat.le_refl _, rfl⟩
theorem MaskG.odd {m : Nat} (h : MaskG m) : m % 2 = 1 := by
  obtain ⟨k, hk, e⟩ := h
  obtain ⟨j, rfl⟩ : ∃ j, k = j + 1 := ⟨k - 1, by omega⟩
  rw [Nat.pow_succ] at e
  omega
theorem lcgN_ln (m : Nat) : ∀ n, lcgN m n = ln n % (m + 1)
  | 0 => (Nat.zero_mod _).symm
  | n + 1 => by
    show (lcgN m n * 5 + 1) % (m + 1) = (5 * ln n + 1) % (m + 1)
    rw [lcgN_ln m n, Nat.add_mod, Nat.mul_mod, Nat.mod_mod, ← Nat.mul_mod, ← Nat.add_mod, Nat.mul_comm]
theorem lcg_allG {m : Nat} (hm : MaskG m) {j : Nat} (hj : j ≤ m) : ∃ b, b ≤ m ∧ lcgN m b = j := by
  obtain ⟨k, _, e⟩ := hm
  obtain ⟨b, hb, h⟩ := ln_all k j (by omega)
  exact ⟨b, by omega, by rw [lcgN_ln, e]; exact h⟩
theorem lcg_roundG {m : Nat} (hm : MaskG m) : lcgN m (m + 1) = 0 := by
  obtain ⟨k, _, e⟩ := hm
  obtain ⟨q, hq⟩ := ln_pow k
  rw [lcgN_ln, e, hq, Nat.mul_mod_right]
theorem lcgN_modG {m : Nat} (hm : MaskG m) (k : Nat) : lcgN m (m + 1 + k) = lcgN m k := by
  induction k with
  | zero => exact lcg_roundG hm
  | succ k ih => exact congrArg (fun z => (z * 5 + 1) % (m + 1)) ih
theorem lcgI_allG {m : Nat} (hm : MaskG m) {i j : Nat} (hi : i ≤ m) (hj : j ≤ m) : ∃ k, k ≤ m ∧ lcgI m i k = j := by
  obtain ⟨a, ha, ea⟩ := lcg_allG hm hi
  obtain ⟨b, hb, eb⟩ := lcg_allG hm hj
  subst ea
  by_cases c : a ≤ b
  · exact ⟨b - a, by omega, by rw [lcgN_add, show a + (b - a) = b by omega, eb]⟩
  · exact ⟨b + (m + 1) - a, by omega, by rw [lcgN_add, show a + (b + (m + 1) - a) = m + 1 + b by omega, lcgN_modG hm, eb]⟩
/-- within a round no start comes twice -/
theorem lcgI_inj {m : Nat} (hm : MaskG m) {i : Nat} (hi : i ≤ m) {k k' : Nat} (hk : k ≤ m) (hk' : k' ≤ m) (e : lcgI m i k = lcgI m i k') : k = k' := by
  rcases Classical.em (k = k') with c | c
  · exact c
  · exfalso
    have hl : ((List.range (m + 1)).erase k').length = m := by
      rw [List.length_erase_of_mem (List.mem_range.mpr (Nat.lt_succ_of_le hk')), List.length_range]
      rfl
    have q := nat_nodup_len (List.range (m + 1)) (((List.range (m + 1)).erase k').map (lcgI m i)) List.nodup_range fun x hx => by
      obtain ⟨r, hr, er⟩ := lcgI_allG hm hi (Nat.le_of_lt_succ (List.mem_range.mp hx))
      by_cases z : r = k'
      · exact List.mem_map.mpr ⟨k, (List.mem_erase_of_ne c).2 (List.mem_range.mpr (Nat.lt_succ_of_le hk)), by rw [e, ← z, er]⟩
      · exact List.mem_map.mpr ⟨r, (List.mem_erase_of_ne z).2 (List.mem_range.mpr (Nat.lt_succ_of_le hr)), er⟩
    rw [List.length_range, List.length_map, hl] at q
    omega
theorem run_meetsG {m : Nat} (hm : MaskG m) (h : Int) {j : Nat} (hj : j ≤ m) : ∃ n, n ≤ m + 12 ∧ runI m (SetTable.bits h) n = j := by
  obtain ⟨k, hk, e⟩ := lcgI_allG hm (runI_le m (SetTable.bits h) 12) hj
  exact ⟨12 + k, by omega, (runI_tail (bits_lt h) k).trans e⟩

/-! ### the way by runs -/
/-- where the n-th run begins on the way -/
abbrev offW (m : Nat) (h : Int) (n : Nat) : Nat := off m (SetTable.bits h % (m + 1)) (SetTable.bits h) n
theorem off_succ (m : Nat) : ∀ (n i b : Nat), off m i b (n + 1) = off m i b n + (SetTable.runEnd m (itL m i b n).1 - (itL m i b n).1 + 1)
  | 0, i, b => by
    show (SetTable.runEnd m i - i + 1) + 0 = 0 + (SetTable.runEnd m i - i + 1)
    omega
  | n + 1, i, b => by
    have h := off_succ m n (SetTable.leap m i b).1 (SetTable.leap m i b).2
    show (SetTable.runEnd m i - i + 1) + off m (SetTable.leap m i b).1 (SetTable.leap m i b).2 (n + 1) = (SetTable.runEnd m i - i + 1) + off m (SetTable.leap m i b).1 (SetTable.leap m i b).2 n + _
    rw [h]
    show _ = (SetTable.runEnd m i - i + 1) + off m (SetTable.leap m i b).1 (SetTable.leap m i b).2 n + (SetTable.runEnd m (itL m (SetTable.leap m i b).1 (SetTable.leap m i b).2 n).1 - (itL m (SetTable.leap m i b).1 (SetTable.leap m i b).2 n).1 + 1)
    omega
theorem offW_succ (m : Nat) (h : Int) (n : Nat) : offW m h (n + 1) = offW m h n + (SetTable.runEnd m (runI m (SetTable.bits h) n) - runI m (SetTable.bits h) n + 1) := by
  show off m _ _ (n + 1) = _
  rw [off_succ, itL_run]
theorem offW_ge (m : Nat) (h : Int) : ∀ n, n ≤ offW m h n
  | 0 => Nat.zero_le _
  | n + 1 => by
    have := offW_ge m h n
    rw [offW_succ]
    omega
/-- in the n-th run -/
theorem way_run (m : Nat) (h : Int) (n c : Nat) (hc : c ≤ SetTable.runEnd m (runI m (SetTable.bits h) n) - runI m (SetTable.bits h) n) : way m h (offW m h n + c) = runI m (SetTable.bits h) n + c := by
  show (nth m (runAt m (SetTable.bits h % (m + 1)) (SetTable.bits h)) (off m _ _ n + c)).j = _
  rw [nth_add, nth_off, itL_run]
  show (nth m (runAt m (runI m (SetTable.bits h) n) (SetTable.bits h / 32 ^ n)) c).j = _
  rw [nth_run m _ _ c hc]
/-- each step belongs to a run -/
theorem way_in (m : Nat) (h : Int) (q : Nat) : ∃ n, offW m h n ≤ q ∧ q < offW m h (n + 1) := by
  induction q with
  | zero =>
    refine ⟨0, Nat.le_refl _, ?_⟩
    rw [offW_succ]
    show 0 < 0 + _
    omega
  | succ q ih =>
    obtain ⟨n, h1, h2⟩ := ih
    by_cases c : q + 1 < offW m h (n + 1)
    · exact ⟨n, by omega, c⟩
    · refine ⟨n + 1, by omega, ?_⟩
      rw [offW_succ m h (n + 1)]
      omega
theorem offW_mono (m : Nat) (h : Int) {a b : Nat} (hab : a ≤ b) : offW m h a ≤ offW m h b := by
  induction b with
  | zero =>
    obtain rfl : a = 0 := by omega
    exact Nat.le_refl _
  | succ b ih =>
    by_cases c : a = b + 1
    · rw [c]
      exact Nat.le_refl _
    · have := ih (by omega)
      rw [offW_succ]
      omega
theorem nth_meetsG {m : Nat} (hm : MaskG m) (h : Int) {j : Nat} (hj : j ≤ m) : ∃ n, n ≤ m + 12 ∧ way m h (offW m h n) = j ∧ offW m h n < 10 * SetTable.turns m := by
  obtain ⟨n, hn, e⟩ := run_meetsG hm h hj
  refine ⟨n, hn, (way_run m h n 0 (Nat.zero_le _)).trans e, ?_⟩
  have key : ∀ n, offW m h n ≤ 10 * n := by
    intro n
    induction n with
    | zero => exact Nat.le_refl _
    | succ n ih =>
      have r := runEnd_bd (runI_le m (SetTable.bits h) n)
      rw [offW_succ]
      omega
  have := key n
  unfold SetTable.turns
  omega
/-- the tag of a visit: one of 22, told apart at one slot -/
theorem visits {m : Nat} (hm : MaskG m) (h : Int) {N : Nat} (hN : N ≤ m + 12) : ∃ tag : Nat → Nat, (∀ q, q < offW m h N → tag q < 22) ∧
    ∀ q q', q < offW m h N → q' < offW m h N → way m h q = way m h q' → tag q = tag q' → q = q' := by
  let rn : Nat → Nat := fun q => (way_in m h q).choose
  have r1 : ∀ q, offW m h (rn q) ≤ q ∧ q < offW m h (rn q + 1) := fun q => (way_in m h q).choose_spec
  have wy : ∀ q, way m h q = runI m (SetTable.bits h) (rn q) + (q - offW m h (rn q)) ∧ q - offW m h (rn q) ≤ 9 := fun q => by
    obtain ⟨a, b⟩ := r1 q
    rw [offW_succ] at b
    have rb := runEnd_bd (runI_le m (SetTable.bits h) (rn q))
    have := way_run m h (rn q) (q - offW m h (rn q)) (by omega)
    rw [show offW m h (rn q) + (q - offW m h (rn q)) = q by omega] at this
    exact ⟨this, by omega⟩
  have rl : ∀ q, q < offW m h N → rn q < N := fun q hq => by
    rcases Nat.lt_or_ge (rn q) N with c | c
    · exact c
    · have := offW_mono m h c
      have := (r1 q).1
      omega
  refine ⟨fun q => if rn q < 12 then rn q else 12 + (q - offW m h (rn q)), fun q hq => ?_, fun q q' hq hq' hw ht => ?_⟩
  · have := (wy q).2
    show (if rn q < 12 then rn q else 12 + (q - offW m h (rn q))) < 22
    split <;> omega
  · have w1 := (wy q).1
    have w2 := (wy q').1
    have p1 := (r1 q).1
    have p2 := (r1 q').1
    have ht' : (if rn q < 12 then rn q else 12 + (q - offW m h (rn q))) = (if rn q' < 12 then rn q' else 12 + (q' - offW m h (rn q'))) := ht
    have same : rn q = rn q' := by
      by_cases c : rn q < 12
      · rw [if_pos c] at ht'
        by_cases c' : rn q' < 12
        · rw [if_pos c'] at ht'
          exact ht'
        · rw [if_neg c'] at ht'
          omega
      · rw [if_neg c] at ht'
        by_cases c' : rn q' < 12
        · rw [if_pos c'] at ht'
          omega
        · rw [if_neg c'] at ht'
          have er : runI m (SetTable.bits h) (rn q) = runI m (SetTable.bits h) (rn q') := by omega
          have l1 := rl q hq
          have l2 := rl q' hq'
          have t1 := runI_tail (m := m) (bits_lt h) (rn q - 12)
          have t2 := runI_tail (m := m) (bits_lt h) (rn q' - 12)
          rw [show 12 + (rn q - 12) = rn q by omega] at t1
          rw [show 12 + (rn q' - 12) = rn q' by omega] at t2
          have := lcgI_inj hm (runI_le m (SetTable.bits h) 12) (k := rn q - 12) (k' := rn q' - 12) (by omega) (by omega) (by rw [← t1, ← t2]; exact er)
          omega
    rw [same] at w1 p1
    omega
end K23
/-! K23SetB -/
set_option Elab.async false
set_option linter.all false
set_option maxRecDepth 100000
set_option maxHeartbeats 4000000
/-! Hash tables of any size: what stands in a table is found; putting in; laying anew. -/
namespace K23
open PySem PySem.Spec PyProof.Rows L2

/-- every hash is found again on its way; the table's mask is 2^k - 1 -/
structure TabG (t : SetTable) (hs : List Int) : Prop where
  up : Ris t.place.toList
  nod : t.dummies = #[]
  size : t.place.size = hs.length
  mask : MaskG t.mask
  le : ∀ x ∈ t.place.toList, x ≤ t.mask
  found : ∀ (i : Nat) (z : Int) (j : Nat), hs[i]? = some z → t.place.toList[i]? = some j → ∃ c, way t.mask z c = j ∧ ∀ c', c' < c → way t.mask z c' ∈ t.place.toList
theorem way_leG {m : Nat} {h : Int} {k : Nat} : way m h k ≤ m := by
  have a : SetTable.bits h % (m + 1) ≤ m := Nat.le_of_lt_succ (Nat.mod_lt _ (Nat.succ_pos _))
  have b := runEnd_bd a
  have c := nth_in (m := m) k (runAt m (SetTable.bits h % (m + 1)) (SetTable.bits h)) (show SetTable.bits h % (m + 1) + (SetTable.runEnd m (SetTable.bits h % (m + 1)) - SetTable.bits h % (m + 1)) ≤ m by omega)
  exact Nat.le_trans (Nat.le_add_right _ _) c
section
variable {t : SetTable} {hs : List Int}
/-- the first empty slot of a way, within the first m + 12 runs -/
theorem TabG.empty (T : TabG t hs) (hl : hs.length ≤ t.mask) (h : Int) : ∃ K N, N ≤ t.mask + 12 ∧ K ≤ offW t.mask h N ∧ K < 10 * SetTable.turns t.mask ∧ way t.mask h K ∉ t.place.toList ∧ ∀ c, c < K → way t.mask h c ∈ t.place.toList := by
  obtain ⟨j, hj, hn⟩ := st_missing t.place.toList (t.mask + 1) (by rw [Array.length_toList, T.size]; omega)
  obtain ⟨N, hN, e, hlt⟩ := nth_meetsG T.mask h (Nat.le_of_lt_succ hj)
  obtain ⟨K, k1, k2, k3⟩ := st_least (p := fun c => way t.mask h c ∉ t.place.toList) (offW t.mask h N) (show way t.mask h (offW t.mask h N) ∉ t.place.toList by rw [e]; exact hn)
  exact ⟨K, N, hN, k1, Nat.lt_of_le_of_lt k1 hlt, k2, fun c hc => Classical.not_not.mp (k3 c hc)⟩
theorem TabG.ahead (T : TabG t hs) {h : Int} {K i j : Nat} (hK : way t.mask h K ∉ t.place.toList) (hi : hs[i]? = some h) (hj : t.place.toList[i]? = some j) : ∃ c, c < K ∧ way t.mask h c = j := by
  obtain ⟨c, e, b⟩ := T.found i h j hi hj
  by_cases lt : c < K
  · exact ⟨c, lt, e⟩
  · exfalso
    by_cases eq : c = K
    · subst eq
      rw [e] at hK
      exact hK (List.mem_of_getElem? hj)
    · exact hK (b K (by omega))
theorem TabG.put (T : TabG t hs) {h : Int} {K : Nat} (hK : way t.mask h K ∉ t.place.toList) (hb : ∀ c, c < K → way t.mask h c ∈ t.place.toList) :
    ∃ p, (t.put (way t.mask h K)).2 = p ∧ p ≤ hs.length ∧ TabG (t.put (way t.mask h K)).1 (hs.take p ++ h :: hs.drop p) ∧ (t.put (way t.mask h K)).1.mask = t.mask ∧ (t.put (way t.mask h K)).1.led = t.led ∧ (t.put (way t.mask h K)).1.plain = t.plain ∧
      (t.put (way t.mask h K)).1.fill = hs.length + 1 := by
  have hjm : way t.mask h K ≤ t.mask := way_leG
  have hw : ∃ j, j = way t.mask h K := ⟨_, rfl⟩
  obtain ⟨j, hj⟩ := hw
  rw [← hj] at hK hjm ⊢
  have hz : t.place.toList.length = hs.length := T.size
  have cut := (below_cut T.up j).1
  have p1 : SetTable.below t.place j ≤ hs.length := by rw [← T.size]; exact cut
  have p2 : SetTable.below t.place j ≤ t.place.toList.length := by rw [hz]; exact p1
  have place := put_place t j
  have grow : ∀ {x : Nat}, x ∈ t.place.toList → x ∈ (t.put j).1.place.toList := fun {x} hx => by
    rw [place]
    exact mem_ins.2 (Or.inr hx)
  have sz : (t.put j).1.place.size = hs.length + 1 := by
    rw [← Array.length_toList, place, len_ins _ p2, hz]
  refine ⟨_, rfl, p1, ?_, rfl, rfl, rfl, ?_⟩
  · show TabG (t.put j).1 (hs.take (SetTable.below t.place j) ++ h :: hs.drop (SetTable.below t.place j))
    refine ⟨ris_insert T.up fun e => hK (List.mem_of_getElem? ((Array.getElem?_toList ..).trans e)), put_dm T.nod j, sz.trans (len_ins _ p1 _).symm, T.mask, fun x hx => ?_, fun i z y h1 h2 => ?_⟩
    · rw [place] at hx
      rcases mem_ins.1 hx with e | hx
      · exact e ▸ hjm
      · exact T.le x hx
    · rw [tins_get hs p1] at h1
      rw [place, tins_get _ p2] at h2
      show ∃ c, way t.mask z c = y ∧ _
      by_cases c1 : i < SetTable.below t.place j
      · rw [if_pos c1] at h1 h2
        obtain ⟨c, e, f⟩ := T.found i z y h1 h2
        exact ⟨c, e, fun c' l => grow (f c' l)⟩
      · rw [if_neg c1] at h1 h2
        by_cases c2 : i = SetTable.below t.place j
        · rw [if_pos c2] at h1 h2
          cases h1
          cases h2
          exact ⟨K, hj.symm, fun c' l => grow (hb c' l)⟩
        · rw [if_neg c2] at h1 h2
          obtain ⟨c, e, f⟩ := T.found (i - 1) z y h1 h2
          exact ⟨c, e, fun c' l => grow (f c' l)⟩
  · show (t.put j).1.place.size + (t.put j).1.dummies.size = _
    rw [sz, put_dm T.nod j]
    rfl
end

/-! ### laying anew -/
theorem free_findG {m : Nat} (hm : MaskG m) (owner : Array (Option Nat)) (h : Int) {j : Nat} (hj : j ≤ m) (hf : oAt owner j = none) :
    ∃ K, SetTable.layClean.free m owner (SetTable.turns m) (SetTable.bits h % (m + 1)) (SetTable.bits h) = some (way m h K) ∧ oAt owner (way m h K) = none ∧ ∀ c, c < K → oAt owner (way m h c) ≠ none := by
  obtain ⟨N, hN, e, _⟩ := nth_meetsG hm h hj
  obtain ⟨K, k1, k2, k3⟩ := st_least (p := fun c => oAt owner (way m h c) = none) (offW m h N) (show oAt owner (way m h (offW m h N)) = none by rw [e]; exact hf)
  refine ⟨K, free_spec m owner _ N _ _ K (Nat.lt_of_le_of_lt hN (by unfold SetTable.turns; omega)) k1 (fun c hc => ?_) (Option.isNone_iff_eq_none.mpr k2), k2, k3⟩
  cases q : (oAt owner (nth m (runAt m (SetTable.bits h % (m + 1)) (SetTable.bits h)) c).j).isNone with
  | false => rfl
  | true => exact absurd (Option.isNone_iff_eq_none.mp q) (k3 c hc)
theorem own_stepG {m : Nat} (hm : MaskG m) {done : List Int} {owner : Array (Option Nat)} (W : Own m done owner) (hl : done.length ≤ m) (h : Int) :
    ∃ j, SetTable.layClean.free m owner (SetTable.turns m) (SetTable.bits h % (m + 1)) (SetTable.bits h) = some j ∧ Own m (done ++ [h]) (owner.setIfInBounds j (some done.length)) := by
  obtain ⟨ps, hps, hin⟩ := W.ps
  obtain ⟨j0, l0, n0⟩ := st_missing ps (m + 1) (by omega)
  have f0 : oAt owner j0 = none := Classical.byContradiction fun z => n0 (hin j0 (Nat.le_of_lt_succ l0) z)
  obtain ⟨K, e1, e2, e3⟩ := free_findG hm owner h (Nat.le_of_lt_succ l0) f0
  have wle : way m h K ≤ m := way_leG
  have self : oAt (owner.setIfInBounds (way m h K) (some done.length)) (way m h K) = some done.length := oAt_set_self _ (by rw [W.sz]; exact Nat.lt_succ_of_le wle)
  have taken : ∀ {i : Nat}, oAt owner i ≠ none → oAt (owner.setIfInBounds (way m h K) (some done.length)) i = oAt owner i := fun {i} hi => oAt_set_ne _ fun z => hi (z ▸ e2)
  refine ⟨_, e1, ⟨(Array.size_setIfInBounds ..).trans W.sz, fun j k hj e => ?_, fun k hk => ?_, way m h K :: ps, by rw [List.length_cons, hps, List.length_append]; rfl, fun j hj e => ?_⟩⟩
  · have keepOcc : ∀ i, oAt owner i ≠ none → oAt (owner.setIfInBounds (way m h K) (some done.length)) i ≠ none := fun i hi => by rw [taken hi]; exact hi
    by_cases c : j = way m h K
    · rw [c, self] at e
      cases e
      exact ⟨h, K, by rw [List.getElem?_append_right (Nat.le_refl _), Nat.sub_self]; rfl, c.symm, fun c' l => keepOcc _ (e3 c' l)⟩
    · rw [oAt_set_ne _ c] at e
      obtain ⟨z, K', a1, a2, a3⟩ := W.at_ j k hj e
      exact ⟨z, K', by rw [List.getElem?_append_left (List.getElem?_eq_some_iff.mp a1).1]; exact a1, a2, fun c' l => keepOcc _ (a3 c' l)⟩
  · by_cases c : k < done.length
    · obtain ⟨j, hj, e⟩ := W.all k c
      exact ⟨j, hj, by rw [taken (by rw [e]; exact Option.some_ne_none _)]; exact e⟩
    · obtain rfl : k = done.length := by
        rw [List.length_append] at hk
        have : ([h] : List Int).length = 1 := rfl
        omega
      exact ⟨_, wle, self⟩
  · by_cases c : j = way m h K
    · rw [c]
      exact List.mem_cons_self
    · rw [oAt_set_ne _ c] at e
      exact List.mem_cons_of_mem _ (hin j hj e)
theorem layG {m : Nat} (hm : MaskG m) {hs : Array Int} (hn : hs.size ≤ m) : ∃ owner, SetTable.layClean m hs = some owner ∧ Own m hs.toList owner := by
  have run : ∀ (rest done : List Int) (owner : Array (Option Nat)), Own m done owner → (done ++ rest).length ≤ m → ∃ o', rest.foldl (stepF m) (some (owner, done.length)) = some (o', (done ++ rest).length) ∧ Own m (done ++ rest) o' := by
    intro rest
    induction rest with
    | nil =>
      intro done owner W _
      rw [List.append_nil]
      exact ⟨owner, rfl, W⟩
    | cons z rest ih =>
      intro done owner W hl
      have l2 : (done ++ z :: rest).length = done.length + rest.length + 1 := by
        rw [List.length_append, List.length_cons]
        omega
      obtain ⟨j, e, W'⟩ := own_stepG hm W (by omega) z
      have ha : done ++ [z] ++ rest = done ++ z :: rest := by simp
      obtain ⟨o', f, W2⟩ := ih (done ++ [z]) _ W' (by rw [ha]; exact hl)
      rw [ha] at f W2
      refine ⟨o', ?_, W2⟩
      rw [List.foldl_cons, stepF_some e]
      rw [List.length_append] at f
      exact f
  obtain ⟨o', f, W⟩ := run hs.toList [] _ (Own.init m) hn
  refine ⟨o', ?_, W⟩
  rw [layClean_eq, show (some (Array.replicate (m + 1) none, 0) : Option (Array (Option Nat) × Nat)) = some (Array.replicate (m + 1) none, ([] : List Int).length) from rfl, f]
  rfl
theorem relaidG (t : SetTable) {hs : Array Int} {wanted M : Nat} (hw : SetTable.sizeAbove wanted = M + 1) (hM : MaskG M) (hn : hs.size ≤ M) :
    ∃ t' order, t.relaid hs wanted = some (t', order) ∧ order.toList.Perm (List.range hs.size) ∧ TabG t' (order.toList.map fun i => hs.getD i 0) ∧ t'.mask = M ∧ t'.led = t.led ∧ t'.plain = t.plain := by
  obtain ⟨owner, e, W⟩ := layG hM hn
  have ris := ris_live (fun j => owner.getD j none) (List.range (M + 1)) (show (List.range (M + 1)).Pairwise (· < ·) by first | exact List.pairwise_lt_range | exact List.pairwise_lt_range _)
  have up : Ris ((liveOf M owner).map (·.1)) := ris.1
  have inr : ∀ x ∈ (liveOf M owner).map (·.1), x ∈ List.range (M + 1) := ris.2
  have live := fun {j k : Nat} => mem_live (m := M) (owner := owner) W.sz (j := j) (k := k)
  have cover : ∀ k, k < hs.size → k ∈ (liveOf M owner).map (·.2) := fun k hk => by
    obtain ⟨j, a, b⟩ := W.all k hk
    exact List.mem_map.mpr ⟨(j, k), live.2 ⟨a, b⟩, rfl⟩
  have hlen : ((liveOf M owner).map (·.2)).length = hs.size := by
    obtain ⟨ps, p1, p2⟩ := W.ps
    have nd1 : ((liveOf M owner).map (·.1)).Nodup := List.Pairwise.imp (fun {a b} z => Nat.ne_of_lt z) up
    have most := nat_nodup_len ((liveOf M owner).map (·.1)) ps nd1 fun x hx => by
      obtain ⟨⟨y, k⟩, hq, rfl⟩ := List.mem_map.mp hx
      obtain ⟨b1, b2⟩ := live.1 hq
      exact p2 y b1 (by rw [b2]; exact Option.some_ne_none _)
    have least := nat_nodup_len (List.range hs.size) ((liveOf M owner).map (·.2)) List.nodup_range fun k hk => cover k (List.mem_range.mp hk)
    rw [List.length_map] at most least ⊢
    rw [List.length_range] at least
    have : ps.length = hs.size := p1
    omega
  have hM1 : SetTable.sizeAbove wanted - 1 = M := by rw [hw]; rfl
  refine ⟨tabOf t M owner, ((liveOf M owner).map (·.2)).toArray, by rw [relaid_eq, hM1, e]; rfl, perm_range _ _ hlen cover, ⟨up, rfl, ?_, hM, fun x hx => Nat.le_of_lt_succ (List.mem_range.mp (inr x hx)), fun i z j h1 h2 => ?_⟩, rfl, rfl, rfl⟩
  · show ((liveOf M owner).map (·.1)).length = (((liveOf M owner).map (·.2)).map _).length
    rw [List.length_map, List.length_map, List.length_map]
  · have h1' : (((liveOf M owner).map (·.2)).map fun i => hs.getD i 0)[i]? = some z := h1
    have h2' : ((liveOf M owner).map (·.1))[i]? = some j := h2
    rw [List.getElem?_map, List.getElem?_map] at h1'
    rw [List.getElem?_map] at h2'
    obtain ⟨⟨y, k⟩, hq⟩ : ∃ q, (liveOf M owner)[i]? = some q := by
      cases c : (liveOf M owner)[i]? with
      | none =>
        rw [c] at h2'
        cases h2'
      | some q => exact ⟨q, rfl⟩
    rw [hq] at h1' h2'
    obtain rfl : y = j := Option.some.inj h2'
    have ez : hs.getD k 0 = z := Option.some.inj h1'
    obtain ⟨b1, b2⟩ := live.1 (List.mem_of_getElem? hq)
    obtain ⟨z0, c, a1, a2, a3⟩ := W.at_ y k b1 b2
    have ez0 : z0 = z := by
      rw [← ez, Array.getD_eq_getD_getElem?, ← Array.getElem?_toList, a1]
      rfl
    subst ez0
    refine ⟨c, a2, fun c' l => ?_⟩
    show way M z0 c' ∈ (liveOf M owner).map (·.1)
    cases q : oAt owner (way M z0 c') with
    | none => exact absurd q (a3 c' l)
    | some k2 => exact List.mem_map.mpr ⟨(way M z0 c', k2), live.2 ⟨way_leG, q⟩, rfl⟩

/-! ### the sizes that come -/
theorem sizeAbove_go (n : Nat) : ∀ f j, 3 ≤ j → n < 2 ^ (j + f) → ∃ k, 3 ≤ k ∧ SetTable.sizeAbove.go n f (2 ^ j) = 2 ^ k ∧ n < 2 ^ k ∧ (k = j ∨ 2 ^ k ≤ 2 * n)
  | 0, j, hj, h => ⟨j, hj, rfl, by simpa using h, Or.inl rfl⟩
  | f + 1, j, hj, h => by
    have e : SetTable.sizeAbove.go n (f + 1) (2 ^ j) = if 2 ^ j ≤ n then SetTable.sizeAbove.go n f (2 ^ j * 2) else 2 ^ j := rfl
    by_cases c : 2 ^ j ≤ n
    · obtain ⟨k, h1, h2, h3, h4⟩ := sizeAbove_go n f (j + 1) (by omega) (by rw [show j + 1 + f = j + (f + 1) by omega]; exact h)
      refine ⟨k, h1, by rw [e, if_pos c, ← Nat.pow_succ]; exact h2, h3, ?_⟩
      rcases h4 with rfl | h4
      · right
        rw [Nat.pow_succ]
        omega
      · exact Or.inr h4
    · exact ⟨j, hj, by rw [e, if_neg c], by omega, Or.inl rfl⟩
theorem sizeAbove_ok (n : Nat) (h : n < 2 ^ 60) : ∃ M, SetTable.sizeAbove n = M + 1 ∧ MaskG M ∧ n ≤ M ∧ (M = 7 ∨ M + 1 ≤ 2 * n) := by
  obtain ⟨k, h1, h2, h3, h4⟩ := sizeAbove_go n 64 3 (Nat.le_refl _) (Nat.lt_of_lt_of_le h (Nat.pow_le_pow_right (by decide) (by decide)))
  have hp : 0 < 2 ^ k := Nat.pow_pos (by decide)
  have e1 : 2 ^ k - 1 + 1 = 2 ^ k := by omega
  refine ⟨2 ^ k - 1, ?_, ⟨k, h1, e1⟩, by omega, ?_⟩
  · rw [e1]
    exact h2
  · rcases h4 with rfl | h4
    · exact Or.inl rfl
    · exact Or.inr (by omega)
/-- the table that a full one is laid into -/
theorem grown_ok (n : Nat) (h : n < 8388608) : ∃ M, SetTable.sizeAbove (SetTable.grown n) = M + 1 ∧ MaskG M ∧ n ≤ M ∧ n * 5 < M * 3 ∧ M + 1 ≤ sizeLine := by
  have hg : SetTable.grown n = if n > 50000 then n * 2 else n * 4 := rfl
  obtain ⟨M, e, hm, hl, hb⟩ := sizeAbove_ok (SetTable.grown n) (by
    rw [hg]
    have : (2 : Nat) ^ 60 = 1152921504606846976 := by decide
    split <;> omega)
  have two : (2 : Nat) ^ 24 = 16777216 := by decide
  obtain ⟨k, hk, ek⟩ := id hm
  refine ⟨M, e, hm, ?_, ?_, ?_⟩
  · rw [hg] at hl
    split at hl <;> omega
  · obtain ⟨k, hk, ek⟩ := id hm
    have h8 : 8 ≤ 2 ^ k := Nat.le_trans (by decide) (Nat.pow_le_pow_right (by decide) hk : 2 ^ 3 ≤ 2 ^ k)
    rw [hg] at hl
    split at hl <;> omega
  · show M + 1 ≤ 2 ^ 24
    rcases hb with rfl | hb
    · decide
    · have lt : M + 1 < 2 ^ 25 := by
        have two5 : (2 : Nat) ^ 25 = 33554432 := by decide
        rw [hg] at hb
        split at hb <;> omega
      rw [ek] at lt ⊢
      have := (Nat.pow_lt_pow_iff_right (a := 2) (by decide)).mp lt
      exact Nat.pow_le_pow_right (by decide) (by omega)
end K23
/-! K23SetC -/
set_option Elab.async false
set_option linter.all false
set_option maxRecDepth 100000
set_option maxHeartbeats 4000000
/-! Sets of any size, of elements of a kind: the search, putting one in. -/
namespace K23
open PySem PySem.Spec PyProof.Rows L2

/-- a kind of elements: U are those that come; few of them share a hash -/
structure EKind (P : Program) (w : World) (κ : Type) where
  is : Heap → κ → Value → Prop
  hash : κ → Int
  U : κ → Prop
  sc : Bool
  few : ∀ (l : List κ) (z : Int), l.Nodup → (∀ k ∈ l, U k ∧ hash k = z) → l.length ≤ 4500
  scn : ∀ {h k v}, is h k v → v.scannable = sc
  nostr : ∀ {h k v}, is h k v → ∀ z t, v ≠ .str z t
  inj : ∀ {h k k' v}, is h k v → is h k' v → k = k'
  keep : ∀ {h h' k v}, is h k v → (∀ c o, h.get? c = some o → (∀ es ep t, o.data ≠ .set es ep t) → h'.get? c = some o) → is h' k v
  eqB : ∀ {A : Around} {E : Value → Shared → Prop} {s : Shared} {Q : Bool → Shared → Prop} {k k' : κ} {v v' : Value}, A.units < cLine → is s.heap k v → is s.heap k' v' → (∀ b, (b = true ↔ k = k') → Q b s) → wpAny (model P w) A (eqBool v v') Q E s
  same : ∀ {A : Around} {E : Value → Shared → Prop} {s : Shared} {Q : Bool → Shared → Prop} {k k' : κ} {v : Value}, is s.heap k v → U k → U k' → hash k = hash k' → k ≠ k' → Q true s → wpAny (model P w) A (isSame v v) Q E s
  seen : ∀ {A : Around} {E : Value → Shared → Prop} {s : Shared} {Q : Bool → Shared → Prop} {k : κ} {v : Value} {ys : List Value}, is s.heap k v → (∀ y ∈ ys, ∃ k', is s.heap k' y) → Q false s → wpAny (model P w) A (searchCouldBeSeen v ys) Q E s
  byv : ∀ {A : Around} {E : Value → Shared → Prop} {s : Shared} {Q : Bool → Shared → Prop} {k : κ} {v : Value}, is s.heap k v → Q true s → wpAny (model P w) A (hashByValue 8 v) Q E s
  pyh : ∀ {A : Around} {E : Value → Shared → Prop} {s : Shared} {Q : Int → Shared → Prop} {k : κ} {v : Value}, A.units < cLine → is s.heap k v → (∀ tk, s.toks ≤ tk → Q (hash k) { s with toks := tk }) → wpAny (model P w) A (pyHash v) Q E s

section
variable {P : Program} {w : World} {κ : Type} {A : Around} {E : Value → Shared → Prop} {s : Shared}
def rowsG (K : EKind P w κ) (L : List (Value × κ)) : List (Int × Value) := L.map fun p => (K.hash p.2, p.1)
def hashesG (K : EKind P w κ) (L : List (Value × κ)) : List Int := L.map fun p => K.hash p.2
/-- the set at a holds L (its rows es in the table's order) -/
structure SetG (K : EKind P w κ) (h : Heap) (a : Addr) (L : List (Value × κ)) (es : Array (Int × Value)) (ep : Nat) (t : SetTable) : Prop where
  ob : ∃ o, h.get? a = some o ∧ o.ExactSet ∧ o.data = .set es ep t
  rows : es.toList = rowsG K L
  tab : TabG t (hashesG K L)
  nd : (L.map (·.2)).Nodup
  el : ∀ p ∈ L, K.is h p.2 p.1
  us : ∀ p ∈ L, K.U p.2
  plain : t.plain = true
  led : w.params.followText "set-order" = true ∨ t.led = true
  room : L.length * 5 < t.mask * 3
variable {K : EKind P w κ} {a : Addr} {L : List (Value × κ)} {es : Array (Int × Value)} {ep : Nat} {t : SetTable}
theorem SetG.size (R : SetG K s.heap a L es ep t) : es.size = L.length := by
  have h := congrArg List.length R.rows
  unfold rowsG at h
  rwa [List.length_map, Array.length_toList] at h
theorem SetG.tsize (R : SetG K s.heap a L es ep t) : t.place.size = L.length := by
  have h := R.tab.size
  unfold hashesG at h
  rwa [List.length_map] at h
theorem fits_of {t : SetTable} {n : Nat} (h1 : t.place.size = n) (h2 : t.dummies = #[]) (h3 : n ≤ t.mask) : t.fits n = true := by
  unfold SetTable.fits SetTable.fill
  rw [h2, Bool.and_eq_true, beq_iff_eq, decide_eq_true_eq]
  exact ⟨h1, by show t.place.size + 0 ≤ t.mask; omega⟩
theorem SetG.fits (R : SetG K s.heap a L es ep t) : t.fits es.size = true :=
  fits_of (R.tsize.trans R.size.symm) R.tab.nod (by have := R.size; have := R.room; omega)
theorem SetG.at (R : SetG K s.heap a L es ep t) {i : Nat} {p : Value × κ} (h : L[i]? = some p) : es[i]? = some (K.hash p.2, p.1) := by
  rw [← Array.getElem?_toList, R.rows]
  unfold rowsG
  rw [List.getElem?_map, h]
  rfl
theorem SetG.hat (R : SetG K s.heap a L es ep t) {i : Nat} {p : Value × κ} (h : L[i]? = some p) : (fun i => (es[i]?.map (·.1)).getD 0) i = K.hash p.2 := by
  show (es[i]?.map (·.1)).getD 0 = _
  rw [R.at h]
  rfl

/-! ### how often a search meets an equal hash -/
/-- the steps from c on, before K, at which an entry of hash z stands -/
noncomputable def vis (t : SetTable) (hs : List Int) (z : Int) (K c : Nat) : List Nat := open Classical in (List.range K).filter fun q => decide (c ≤ q ∧ ∃ i : Nat, t.place.toList[i]? = some (way t.mask z q) ∧ hs[i]? = some z)
theorem mem_vis {t : SetTable} {hs : List Int} {z : Int} {K c q : Nat} : q ∈ vis t hs z K c ↔ q < K ∧ c ≤ q ∧ ∃ i : Nat, t.place.toList[i]? = some (way t.mask z q) ∧ hs[i]? = some z := by
  unfold vis
  rw [List.mem_filter, List.mem_range, @decide_eq_true_eq]
theorem vis_less {t : SetTable} {hs : List Int} {z : Int} {K c q : Nat} (hq : q ∈ vis t hs z K c) : (vis t hs z K (q + 1)).length < (vis t hs z K c).length := by
  obtain ⟨a1, a2, a3⟩ := mem_vis.1 hq
  have nd : (vis t hs z K (q + 1)).Nodup := by unfold vis; exact List.nodup_range.filter _
  have := nat_nodup_len (q :: vis t hs z K (q + 1)) (vis t hs z K c) (List.nodup_cons.mpr ⟨fun m => by have := (mem_vis.1 m).2.1; omega, nd⟩) fun x hx => by
    rcases List.mem_cons.mp hx with rfl | hx
    · exact hq
    · obtain ⟨b1, b2, b3⟩ := mem_vis.1 hx
      exact mem_vis.2 ⟨b1, by omega, b3⟩
  rw [List.length_cons] at this
  exact this
theorem SetG.few (R : SetG K s.heap a L es ep t) {z : Int} {K' N : Nat} (hN : N ≤ t.mask + 12) (hK : K' ≤ offW t.mask z N) : (vis t (hashesG K L) z K' 0).length < 100000 := by
  classical
  obtain ⟨tag, tg1, tg2⟩ := visits R.tab.mask z hN
  -- the entries of hash z, by place
  have ix : ∀ q, q ∈ vis t (hashesG K L) z K' 0 → ∃ i : Nat, t.place.toList[i]? = some (way t.mask z q) ∧ (hashesG K L)[i]? = some z := fun q hq => (mem_vis.1 hq).2.2
  let f : Nat → Nat := fun q => if hq : q ∈ vis t (hashesG K L) z K' 0 then (ix q hq).choose * 22 + tag q else 0
  have fe : ∀ q (hq : q ∈ vis t (hashesG K L) z K' 0), f q = (ix q hq).choose * 22 + tag q := fun q hq => dif_pos hq
  let I : List Nat := (List.range L.length).filter fun i => decide ((hashesG K L)[i]? = some z)
  have hI : I.length ≤ 4500 := by
    have e := K.few (I.filterMap fun i => (L[i]?).map (·.2)) z ?_ ?_
    · have : (I.filterMap fun i => (L[i]?).map (·.2)).length = I.length := by
        have key : ∀ l : List Nat, (∀ i ∈ l, i < L.length) → (l.filterMap fun i => (L[i]?).map (·.2)).length = l.length := by
          intro l
          induction l with
          | nil => intro _; rfl
          | cons i l ih =>
            intro hl
            have := hl i List.mem_cons_self
            rw [List.filterMap_cons_some (b := (L[i]).2) (by rw [List.getElem?_eq_getElem this]; rfl), List.length_cons, List.length_cons, ih fun j hj => hl j (List.mem_cons_of_mem _ hj)]
        exact key I fun i hi => List.mem_range.mp (List.mem_filter.mp hi).1
      omega
    · have nI : I.Nodup := List.nodup_range.filter _
      have nd := R.nd
      have key : ∀ l : List Nat, l.Nodup → (l.filterMap fun i => (L[i]?).map (·.2)).Nodup := by
        intro l
        induction l with
        | nil => intro _; exact List.nodup_nil
        | cons i l ih =>
          intro hl
          obtain ⟨h1, h2⟩ := List.nodup_cons.mp hl
          rw [List.filterMap_cons]
          cases c : (L[i]?).map (·.2) with
          | none => exact ih h2
          | some k =>
            refine List.nodup_cons.mpr ⟨fun hm => ?_, ih h2⟩
            obtain ⟨j, hj, ej⟩ := List.mem_filterMap.mp hm
            have e1 : (L.map (·.2))[i]? = some k := by rw [List.getElem?_map]; exact c
            have e2 : (L.map (·.2))[j]? = some k := by rw [List.getElem?_map]; exact ej
            have ne : i ≠ j := fun e => h1 (e ▸ hj)
            obtain ⟨li, _⟩ := List.getElem?_eq_some_iff.mp e1
            exact ne ((List.getElem?_inj li nd).mp (e1.trans e2.symm))
      exact key I nI
    · intro k hk
      obtain ⟨i, hi, ei⟩ := List.mem_filterMap.mp hk
      obtain ⟨p, hp, rfl⟩ := Option.map_eq_some_iff.mp ei
      refine ⟨R.us p (List.mem_of_getElem? hp), ?_⟩
      have := of_decide_eq_true (List.mem_filter.mp hi).2
      unfold hashesG at this
      rw [List.getElem?_map, hp] at this
      exact Option.some.inj this
  let D : List Nat := I.flatMap fun i => (List.range 22).map fun c => i * 22 + c
  have hD : D.length = I.length * 22 := by
    have key : ∀ l : List Nat, (l.flatMap fun i => (List.range 22).map fun c => i * 22 + c).length = l.length * 22 := by
      intro l
      induction l with
      | nil => rfl
      | cons i l ih =>
        rw [List.flatMap_cons, List.length_append, ih, List.length_map, List.length_range, List.length_cons]
        omega
    exact key I
  have nv : (vis t (hashesG K L) z K' 0).Nodup := by unfold vis; exact List.nodup_range.filter _
  have nf : ((vis t (hashesG K L) z K' 0).map f).Nodup := by
    refine List.pairwise_map.mpr (List.Pairwise.imp_of_mem (fun {q q'} hq hq' hne e => hne ?_) nv)
    rw [fe q hq, fe q' hq'] at e
    have l1 := tg1 q (by have := (mem_vis.1 hq).1; omega)
    have l2 := tg1 q' (by have := (mem_vis.1 hq').1; omega)
    have ei : (ix q hq).choose = (ix q' hq').choose := by omega
    have et : tag q = tag q' := by omega
    have s1 := (ix q hq).choose_spec.1
    have s2 := (ix q' hq').choose_spec.1
    rw [ei, s2] at s1
    exact tg2 q q' (by have := (mem_vis.1 hq).1; omega) (by have := (mem_vis.1 hq').1; omega) (Option.some.inj s1).symm et
  have := nat_nodup_len _ D nf fun x hx => by
    obtain ⟨q, hq, rfl⟩ := List.mem_map.mp hx
    rw [fe q hq]
    have sp := (ix q hq).choose_spec
    refine List.mem_flatMap.mpr ⟨(ix q hq).choose, List.mem_filter.mpr ⟨List.mem_range.mpr ?_, decide_eq_true sp.2⟩, List.mem_map.mpr ⟨tag q, List.mem_range.mpr (tg1 q (by have := (mem_vis.1 hq).1; omega)), rfl⟩⟩
    have := (List.getElem?_eq_some_iff.mp sp.2).1
    unfold hashesG at this
    rwa [List.length_map] at this
  rw [List.length_map, hD] at this
  omega

/-! ### the search -/
theorem nth_nodummy (m : Nat) : ∀ (n : Nat) (p : SetTable.Probe), p.dummy = none → (nth m p n).dummy = none
  | 0, _, h => h
  | n + 1, p, h => nth_nodummy m n (adv m p) (by unfold adv; split <;> exact h)
theorem SetG.search (R : SetG K s.heap a L es ep t) {x : Value} {k : κ} (hx : K.is s.heap k x) (ux : K.U k) (hu : A.units < cLine) {N : Nat} (hN : N < 10 * SetTable.turns t.mask)
    (hK : way t.mask (K.hash k) N ∉ t.place.toList) (hKb : ∀ c, c < N → way t.mask (K.hash k) c ∈ t.place.toList) {Q : SetFound → Shared → Prop}
    (hin : k ∈ L.map (·.2) → Q (.there none) s) (hout : k ∉ L.map (·.2) → Q (.free (way t.mask (K.hash k) N) false) s) :
    ∀ (f c : Nat) (stand : Option SetTable.Probe), stand.getD (t.probeStart (K.hash k)) = nth t.mask (runAt t.mask (SetTable.bits (K.hash k) % (t.mask + 1)) (SetTable.bits (K.hash k))) c → c ≤ N → (vis t (hashesG K L) (K.hash k) N c).length < f →
      (∀ (i : Nat) p, L[i]? = some p → p.2 = k → ∃ c', c ≤ c' ∧ c' < N ∧ t.place.toList[i]? = some (way t.mask (K.hash k) c')) →
      wpAny (model P w) A (setSearchFrom a x (K.hash k) true f stand) Q E s
  | 0, _, _, _, _, hf, _ => absurd hf (Nat.not_lt_zero _)
  | f + 1, c, stand, hst, hc, hf, hre => by
    obtain ⟨o, ho, hex, hd⟩ := R.ob
    rw [setSearchFrom_succ]
    refine wpAny_bind (wpAny_setState_of ho hd R.fits ?_)
    dsimp only
    refine wp_if_neg (by unfold SetTable.gaveWay; rw [R.tab.mask.odd]; decide) ?_
    try refine wpAny_bind (wpAny_pure ?_)
    have e1 : ∀ q, (nth t.mask (nth t.mask (runAt t.mask (SetTable.bits (K.hash k) % (t.mask + 1)) (SetTable.bits (K.hash k))) c) q).j = way t.mask (K.hash k) (c + q) := fun q => congrArg SetTable.Probe.j (nth_add t.mask c _ q).symm
    have answer := go_spec t R.tab.up R.tab.nod (fun i => (es[i]?.map (·.1)).getD 0) (K.hash k) (10 * SetTable.turns t.mask) (N - c) _ (nth_nodummy t.mask c _ rfl) (by omega)
      (fun q hq => by rw [e1]; exact hKb _ (by omega)) (by rw [e1, show c + (N - c) = N by omega]; exact hK)
    rcases answer with ⟨q, i, hq, hi, hh, hno, hpr⟩ | ⟨hno, hpr⟩
    · rw [e1, ← nth_add, ← hst] at hpr
      have hpr' : t.probe (fun i => (es[i]?.map (·.1)).getD 0) (K.hash k) (stand.getD (t.probeStart (K.hash k))) = _ := hpr
      rw [hpr']
      dsimp only
      rw [e1] at hi
      have hil : i < L.length := by
        have z := (List.getElem?_eq_some_iff.mp hi).1
        rw [Array.length_toList, R.tsize] at z
        exact z
      obtain ⟨p, hp⟩ : ∃ p, L[i]? = some p := ⟨_, List.getElem?_eq_getElem hil⟩
      have pm := List.mem_of_getElem? hp
      have hhp : K.hash p.2 = K.hash k := (R.hat hp).symm.trans hh
      have step : wpAny (model P w) A (searchRest a x (K.hash k) true f es t (way t.mask (K.hash k) (c + q)) i (nth t.mask (runAt t.mask (SetTable.bits (K.hash k) % (t.mask + 1)) (SetTable.bits (K.hash k))) (c + (q + 1)))) Q E s := by
        unfold searchRest
        rw [R.at hp]
        dsimp only
        refine wpAny_bind (wpAny_holding (K.eqB hu (R.el p pm) hx fun b hb => ?_))
        refine wpAny_bind (wpAny_setState_of ho hd R.fits ?_)
        dsimp only
        by_cases hkk : p.2 = k
        · obtain rfl := hb.2 hkk
          refine wp_if_pos rfl ?_
          exact wpAny_pure (hin (List.mem_map.mpr ⟨p, pm, hkk⟩))
        · obtain rfl : b = false := by
            cases b with
            | false => rfl
            | true => exact absurd (hb.1 rfl) hkk
          refine wp_if_neg (by decide) ?_
          try refine wpAny_bind (wpAny_pure ?_)
          rw [sameMem]
          dsimp only
          have live : t.slot (way t.mask (K.hash k) (c + q)) = .live i := slot_live R.tab.up hi
          simp only [if_true, live, R.at hp]
          refine wpAny_bind (K.same (R.el p pm) (R.us p pm) ux hhp hkk (wpAny_bind (wpAny_pure ?_)))
          simp only [if_true]
          refine wp_if_neg (by decide) ?_
          have hv : c + q ∈ vis t (hashesG K L) (K.hash k) N c := mem_vis.2 ⟨by omega, Nat.le_add_right _ _, i, hi, by
            unfold hashesG
            rw [List.getElem?_map, hp]
            exact congrArg some hhp⟩
          refine R.search hx ux hu hN hK hKb hin hout f (c + (q + 1)) _ rfl (by omega) (Nat.lt_of_lt_of_le (vis_less hv) (Nat.le_of_lt_succ hf)) fun i0 p0 h0 hk0 => ?_
          obtain ⟨c', a1, a2, a3⟩ := hre i0 p0 h0 hk0
          refine ⟨c', ?_, a2, a3⟩
          by_cases lt : c' < c + q
          · exact absurd ((R.hat h0).trans (congrArg K.hash hk0)) (hno (c' - c) i0 (by omega) (by rw [e1, show c + (c' - c) = c' by omega]; exact a3))
          · by_cases eq : c' = c + q
            · exfalso
              rw [eq] at a3
              have s0 := (slot_live R.tab.up a3).symm.trans live
              injection s0 with s0
              rw [s0, hp] at h0
              exact hkk (Option.some.inj h0 ▸ hk0)
            · omega
      by_cases hl : t.led = true
      · refine wp_if_neg (by rw [hl]; decide) ?_
        try refine wpAny_bind (wpAny_pure ?_)
        exact step
      · refine wp_if_pos (by simpa using hl) ?_
        refine wpAny_bind (K.seen hx (fun y hy => ?_) ?_)
        · obtain ⟨e, he, rfl⟩ := List.mem_map.mp hy
          have he2 : e ∈ es.toList := by simpa using (show e ∈ es ∧ e.1 = K.hash k by simpa using he).1
          rw [R.rows] at he2
          obtain ⟨p2, hp2, rfl⟩ := List.mem_map.mp he2
          exact ⟨p2.2, R.el p2 hp2⟩
        · refine wp_if_neg (by decide) ?_
          try refine wpAny_bind (wpAny_pure ?_)
          exact step
    · rw [e1, show c + (N - c) = N by omega, ← hst] at hpr
      have hpr' : t.probe (fun i => (es[i]?.map (·.1)).getD 0) (K.hash k) (stand.getD (t.probeStart (K.hash k))) = _ := hpr
      rw [hpr']
      dsimp only
      refine wpAny_pure (hout fun hm => ?_)
      obtain ⟨p0, h0, hk0⟩ := List.mem_map.mp hm
      obtain ⟨i0, h00⟩ := List.getElem?_of_mem h0
      obtain ⟨c', a1, a2, a3⟩ := hre i0 p0 h00 hk0
      exact hno (c' - c) i0 (by omega) (by rw [e1, show c + (c' - c) = c' by omega]; exact a3) ((R.hat h00).trans (congrArg K.hash hk0))
theorem SetG.searchAt (R : SetG K s.heap a L es ep t) {x : Value} {k : κ} (hx : K.is s.heap k x) (ux : K.U k) (hu : A.units < cLine) {Q : SetFound → Shared → Prop}
    (hin : k ∈ L.map (·.2) → Q (.there none) s)
    (hout : ∀ N, k ∉ L.map (·.2) → way t.mask (K.hash k) N ∉ t.place.toList → (∀ c, c < N → way t.mask (K.hash k) c ∈ t.place.toList) → Q (.free (way t.mask (K.hash k) N) false) s) :
    wpAny (model P w) A (setSearch a x (K.hash k) true) Q E s := by
  have hroom := R.room
  have hl : (hashesG K L).length ≤ t.mask := by
    unfold hashesG
    rw [List.length_map]
    omega
  obtain ⟨N, r, hr, hNr, hNt, hK, hKb⟩ := R.tab.empty hl (K.hash k)
  unfold setSearch
  refine R.search hx ux hu hNt hK hKb hin (fun hn => hout N hn hK hKb) 100000 0 none rfl (Nat.zero_le _) (R.few hr hNr) fun i p hp hk => ?_
  have hi : (hashesG K L)[i]? = some (K.hash k) := by
    unfold hashesG
    rw [List.getElem?_map, hp, ← hk]
    rfl
  have hil : i < t.place.toList.length := by
    rw [Array.length_toList, R.tsize]
    exact (List.getElem?_eq_some_iff.mp hp).1
  obtain ⟨c, hc, e⟩ := R.tab.ahead hK hi (List.getElem?_eq_getElem hil)
  exact ⟨c, Nat.zero_le _, hc, by rw [e]; exact List.getElem?_eq_getElem hil⟩
end
end K23
/-! K23SetD -/
set_option Elab.async false
set_option linter.all false
set_option maxRecDepth 100000
set_option maxHeartbeats 4000000
/-! Sets of any size: adding. -/
namespace K23
open PySem PySem.Spec PyProof.Rows L2
section
variable {P : Program} {w : World} {κ : Type} {A : Around} {E : Value → Shared → Prop} {s : Shared} {K : EKind P w κ} {a : Addr} {L : List (Value × κ)} {es : Array (Int × Value)} {ep : Nat} {t : SetTable}
theorem el_same {h h' : Heap} {k : κ} {v : Value} {o : Obj} (hb : K.is h k v) (ho : h.get? a = some o) (hd : o.data = .set es ep t) (hs : Heap.SameBut a h h') : K.is h' k v :=
  K.keep hb fun c u e nd => by
    have ne : c ≠ a := fun z => by
      subst z
      rw [ho] at e
      exact nd es ep t (Option.some.inj e ▸ hd)
    exact (hs.2 c ne).trans e
theorem rowsG_put (L : List (Value × κ)) (p : Nat) (x : Value) (k : κ) : rowsG K (L.take p ++ (x, k) :: L.drop p) = (rowsG K L).take p ++ (K.hash k, x) :: (rowsG K L).drop p := by
  unfold rowsG
  rw [List.map_append, List.map_cons, List.map_take, List.map_drop]
theorem hashesG_put (L : List (Value × κ)) (p : Nat) (x : Value) (k : κ) : hashesG K (L.take p ++ (x, k) :: L.drop p) = (hashesG K L).take p ++ K.hash k :: (hashesG K L).drop p := by
  unfold hashesG
  rw [List.map_append, List.map_cons, List.map_take, List.map_drop]
theorem orderG (L : List (Value × κ)) (es : Array (Int × Value)) (order : Array Nat) (hr : es.toList = rowsG K L) (hp : order.toList.Perm (List.range L.length)) :
    ∃ L2, (order.filterMap (es[·]?)).toList = rowsG K L2 ∧ L2.Perm L ∧ hashesG K L2 = order.toList.map fun i => (es.map (·.1)).getD i 0 := by
  have ent : ∀ i (h : i < L.length), es[i]? = some (K.hash (L[i]).2, (L[i]).1) := fun i h => by
    rw [← Array.getElem?_toList, hr]
    unfold rowsG
    rw [List.getElem?_map, List.getElem?_eq_getElem h]
    rfl
  have go : ∀ l : List Nat, (∀ i ∈ l, i < L.length) → l.filterMap (fun i => es[i]?) = rowsG K (l.filterMap fun i => L[i]?) ∧ hashesG K (l.filterMap fun i => L[i]?) = l.map fun i => (es.map (·.1)).getD i 0 := by
    intro l
    induction l with
    | nil => intro _; exact ⟨rfl, rfl⟩
    | cons i l ih =>
      intro hl
      have hi := hl i List.mem_cons_self
      obtain ⟨e1, e2⟩ := ih fun j hj => hl j (List.mem_cons_of_mem _ hj)
      have e3 : (es.map (·.1)).getD i 0 = K.hash (L[i]).2 := by
        rw [Array.getD_eq_getD_getElem?, Array.getElem?_map, ent i hi]
        rfl
      rw [List.filterMap_cons_some (ent i hi), List.filterMap_cons_some (List.getElem?_eq_getElem hi), e1, List.map_cons, e3, ← e2]
      exact ⟨rfl, rfl⟩
  obtain ⟨e1, e2⟩ := go order.toList fun i hi => List.mem_range.mp (hp.mem_iff.mp hi)
  refine ⟨order.toList.filterMap fun i => L[i]?, by first | (rw [Array.toList_filterMap]; exact e1) | simpa using e1, ?_, e2⟩
  have all : ∀ M : List (Value × κ), (List.range M.length).filterMap (fun i => M[i]?) = M := by
    intro M
    have key : ∀ n, n ≤ M.length → (List.range n).filterMap (fun i => M[i]?) = M.take n := by
      intro n
      induction n with
      | zero => intro _; rfl
      | succ n ih =>
        intro hn
        rw [List.range_succ, List.filterMap_append, ih (Nat.le_of_succ_le hn), List.take_succ, List.getElem?_eq_getElem hn, List.filterMap_cons_some (List.getElem?_eq_getElem hn)]
        rfl
    rw [key _ (Nat.le_refl _), List.take_length]
  have := hp.filterMap fun i => L[i]?
  rwa [all L] at this

/-- what laying anew leaves -/
theorem SetG.anew {o : Obj} {h : Heap} (ho : h.get? a = some o) (hex : o.ExactSet) (hd : o.data = .set es ep t) (hrows : es.toList = rowsG K L) (nd : (L.map (·.2)).Nodup) (el : ∀ p ∈ L, K.is h p.2 p.1) (us : ∀ p ∈ L, K.U p.2)
    (pl : t.plain = true) (ld : w.params.followText "set-order" = true ∨ t.led = true) (hn : L.length < 8388608) :
    ∃ t' order, t.relaid (es.map (·.1)) (SetTable.grown L.length) = some (t', order) ∧ (order.filterMap (es[·]?)).size = es.size ∧ order.toList.Perm (List.range es.size) ∧ t'.fits es.size = true ∧ SetTable.sizeAbove (SetTable.grown L.length) ≤ sizeLine ∧
      ∀ h' ep' o', h'.get? a = some o' → o'.ExactSet → o'.data = .set (order.filterMap (es[·]?)) ep' t' → Heap.SameBut a h h' → ∃ L', SetG K h' a L' (order.filterMap (es[·]?)) ep' t' ∧ L'.Perm L := by
  obtain ⟨M, e1, hM, h1, h2, h3⟩ := grown_ok L.length hn
  have hsl : es.size = L.length := by
    have h := congrArg List.length hrows
    unfold rowsG at h
    rwa [List.length_map, Array.length_toList] at h
  obtain ⟨t', order, e, hp, T, em, el', ep'⟩ := relaidG t (hs := es.map (·.1)) e1 hM (by rw [Array.size_map, hsl]; exact h1)
  rw [Array.size_map] at hp
  have hp' := hp
  rw [hsl] at hp'
  obtain ⟨L2, r1, r2, r3⟩ := orderG L es order hrows hp'
  have sz : (order.filterMap (es[·]?)).size = es.size := by
    have h := congrArg List.length r1
    unfold rowsG at h
    rwa [List.length_map, Array.length_toList, r2.length_eq, ← hsl] at h
  have tz : t'.place.size = es.size := by
    have h := T.size
    rw [← r3] at h
    unfold hashesG at h
    rw [List.length_map, r2.length_eq, ← hsl] at h
    exact h
  refine ⟨t', order, e, sz, hp, fits_of tz T.nod (by rw [em, hsl]; exact h1), by rw [e1]; exact h3, fun h' epx o' ho' hex' hd' sb => ⟨L2, ⟨⟨o', ho', hex', hd'⟩, r1, by rw [r3]; exact T, (r2.map (·.2)).nodup_iff.mpr nd,
    fun p hpm => el_same (el p (r2.mem_iff.mp hpm)) ho hd sb, fun p hpm => us p (r2.mem_iff.mp hpm), by rw [ep']; exact pl, by rw [el']; exact ld, by rw [r2.length_eq, em]; exact h2⟩, r2⟩⟩

/-- a table with one more: the way to the end of both roads -/
theorem SetG.more (R : SetG K s.heap a L es ep t) {x : Value} {k : κ} (hx : K.is s.heap k x) (ux : K.U k) (hn : L.length + 1 < 8388608) (hm : k ∉ L.map (·.2)) {N : Nat}
    (hK : way t.mask (K.hash k) N ∉ t.place.toList) (hKb : ∀ c, c < N → way t.mask (K.hash k) c ∈ t.place.toList) :
    ∃ p t1, t.put (way t.mask (K.hash k) N) = (t1, p) ∧ t1.plain = true ∧ (w.params.followText "set-order" = true ∨ t1.led = true) ∧ (SetTable.insertAt es p (K.hash k, x)).size = L.length + 1 ∧ t1.fits (L.length + 1) = true ∧
      ∃ L1 : List (Value × κ), L1.Perm ((x, k) :: L) ∧ (SetTable.insertAt es p (K.hash k, x)).toList = rowsG K L1 ∧ TabG t1 (hashesG K L1) ∧ (L1.map (·.2)).Nodup ∧ (t1.tooFull = false → L1.length * 5 < t1.mask * 3) := by
  obtain ⟨p, q1, q2, q3, q4, q5, q6, q7⟩ := R.tab.put hK hKb
  have hlh : (hashesG K L).length = L.length := by unfold hashesG; rw [List.length_map]
  rw [hlh] at q2 q7
  have pm := put_perm L p (x, k)
  have hlen : (L.take p ++ (x, k) :: L.drop p).length = L.length + 1 := pm.length_eq
  have rows : (SetTable.insertAt es p (K.hash k, x)).toList = rowsG K (L.take p ++ (x, k) :: L.drop p) := by
    rw [SetTable.toList_insertAt, rowsG_put, R.rows]
  have hes : (SetTable.insertAt es p (K.hash k, x)).size = L.length + 1 := by
    have h := congrArg List.length rows
    unfold rowsG at h
    rwa [List.length_map, Array.length_toList, hlen] at h
  rw [← hashesG_put] at q3
  have tz : (t.put (way t.mask (K.hash k) N)).1.place.size = L.length + 1 := by
    have h := q3.size
    unfold hashesG at h
    rwa [List.length_map, hlen] at h
  have room := R.room
  refine ⟨p, (t.put (way t.mask (K.hash k) N)).1, by rw [← q1], by rw [q6]; exact R.plain, by rw [q5]; exact R.led, hes, fits_of tz q3.nod (by rw [q4]; omega), _, pm, rows, q3, (pm.map (·.2)).nodup_iff.mpr (List.nodup_cons.mpr ⟨hm, R.nd⟩), fun hf => ?_⟩
  unfold SetTable.tooFull at hf
  rw [decide_eq_false_iff_not, q7] at hf
  rw [hlen]
  omega
/-- through the table's own search -/
theorem SetG.addHash (R : SetG K s.heap a L es ep t) {x : Value} {k : κ} (hx : K.is s.heap k x) (ux : K.U k) (hu : A.units < cLine) (hn : L.length + 1 < 8388608) {fuel : Nat} {Q : Bool → Shared → Prop} (hsc : byScan x es = false)
    (hQ : ∀ b h' L' es' ep' t', Heap.SameBut a s.heap h' → SetG K h' a L' es' ep' t' → (k ∈ L.map (·.2) → L' = L) → (k ∉ L.map (·.2) → L'.Perm ((x, k) :: L)) → Q b { s with heap := h' }) :
    wpAny (model P w) A (setAddHashedIn a x (K.hash k) (fuel + 1)) Q E s := by
  obtain ⟨o, ho, hex, hd⟩ := R.ob
  rw [setAddHashedIn_succ]
  refine wpAny_bind (wpAny_setState_of ho hd R.fits ?_)
  dsimp only
  refine wp_if_neg (by rw [hsc]; decide) ?_
  try refine wpAny_bind (wpAny_pure ?_)
  refine wpAny_bind (R.searchAt hx ux hu (fun hm => ?_) fun N hm hK hKb => ?_)
  · dsimp only
    exact wpAny_pure (hQ false s.heap L es ep t (Heap.SameBut.refl a s.heap) R (fun _ => rfl) fun z => absurd hm z)
  · dsimp only
    refine wpAny_bind (wpAny_setState_of ho hd R.fits ?_)
    dsimp only
    obtain ⟨p, t1, e1, pl1, ld1, sz1, ft1, L1, pm, rows, T1, nd1, rm1⟩ := R.more hx ux hn hm hK hKb
    rw [e1]
    dsimp only
    first
      | (refine wpAny_bind ?_; refine wp_if_pos pl1 ?_; refine K.byv hx ?_)
      | refine wp_if_pos pl1 (wpAny_bind (K.byv hx ?_))
    simp only [if_true]
    have hsl := R.size
    generalize SetTable.insertAt es p (K.hash k, x) = es1 at sz1 rows ⊢
    refine wpAny_bind (wpAny_storeSet_of ho hd ?_ (by rw [sz1, sizeLine_eq]; omega))
    have sb : Heap.SameBut a s.heap (s.heap.update a (Obj.putSet es1 t1)) := Heap.SameBut.update ..
    have ho1 := store_at (es' := es1) (t' := t1) ho hd
    generalize s.heap.update a (Obj.putSet es1 t1) = h1 at sb ho1 ⊢
    have hl1 : L1.length = L.length + 1 := pm.length_eq
    have el1 : ∀ p ∈ L1, K.is h1 p.2 p.1 := fun p hp => by
      rcases List.mem_cons.mp (pm.mem_iff.mp hp) with rfl | hp
      · exact el_same hx ho hd sb
      · exact el_same (R.el p hp) ho hd sb
    have us1 : ∀ p ∈ L1, K.U p.2 := fun p hp => by
      rcases List.mem_cons.mp (pm.mem_iff.mp hp) with rfl | hp
      · exact ux
      · exact R.us p hp
    have hex1 : Obj.ExactSet { o with data := .set es1 (ep + 1) t1 } := ⟨hex.1, hex.2.1, hex.2.2⟩
    rw [← hl1] at sz1 ft1
    by_cases hf : t1.tooFull = true
    · first
        | (refine wpAny_bind ?_; refine wp_if_pos (by simp [hf]) ?_)
        | (refine wp_if_pos (by simp [hf]) ?_; refine wpAny_bind ?_)
      rw [hsl, ← hl1]
      obtain ⟨t2, order, r1, r2, r3, r4, r5, r6⟩ := SetG.anew (h := h1) ho1 hex1 rfl rows nd1 el1 us1 pl1 ld1 (by omega)
      rw [setRelay_eq]
      refine wpAny_bind (wpAny_setState_of (s := { s with heap := h1 }) ho1 rfl (by rw [sz1]; exact ft1) ?_)
      dsimp only
      refine wp_if_neg (by omega) ?_
      try refine wpAny_bind (wpAny_pure ?_)
      rw [r1]
      dsimp only
      refine wpAny_bind ?_
      refine wp_if_neg (by rw [r2]; simp) ?_
      try refine wpAny_bind (wpAny_pure ?_)
      refine wpAny_pure ?_
      dsimp only
      refine wpAny_storeSet_of (s := { s with heap := h1 }) ho1 rfl ?_ (by rw [r2, sz1, sizeLine_eq]; omega)
      have sb2 : Heap.SameBut a h1 (h1.update a (Obj.putSet (order.filterMap (es1[·]?)) t2)) := Heap.SameBut.update ..
      obtain ⟨L2, R2, p2⟩ := r6 _ (ep + 1 + 1) _ (store_at ho1 rfl) ⟨hex.1, hex.2.1, hex.2.2⟩ rfl sb2
      exact wpAny_pure (hQ true _ L2 _ _ t2 (sb.trans sb2) R2 (fun z => absurd z hm) fun _ => p2.trans pm)
    · first
        | refine wp_if_neg (by simp [hf]) ?_
        | (refine wpAny_bind ?_; refine wp_if_neg (by simp [hf]) ?_; refine wpAny_pure ?_)
      exact wpAny_pure (hQ true h1 L1 es1 (ep + 1) t1 sb ⟨⟨_, ho1, hex1, rfl⟩, rows, T1, nd1, el1, us1, pl1, ld1, rm1 (by simpa using hf)⟩ (fun z => absurd z hm) fun _ => pm)

/-! ### by a scan -/
theorem SetG.scanFrom (R : SetG K s.heap a L es ep t) {x : Value} {k : κ} (hx : K.is s.heap k x) (hu : A.units < cLine) {Q : ScanMet → Shared → Prop} : ∀ (rows : List (Value × κ)) (i : Nat), (∀ p ∈ rows, K.is s.heap p.2 p.1) →
    (k ∈ rows.map (·.2) → ∀ j, Q (.found j) s) → (k ∉ rows.map (·.2) → Q .absent s) → wpAny (model P w) A (setScanFrom a x (K.hash k) true (rowsG K rows) i) Q E s
  | [], i, _, _, hout => wpAny_pure (hout fun z => nomatch z)
  | p :: rows, i, hel, hin, hout => by
    obtain ⟨o, ho, hex, hd⟩ := R.ob
    have rest : p.2 ≠ k → wpAny (model P w) A (setScanFrom a x (K.hash k) true (rowsG K rows) (i + 1)) Q E s := fun hne =>
      R.scanFrom hx hu rows (i + 1) (fun q hq => hel q (List.mem_cons_of_mem _ hq)) (fun z => hin (List.mem_cons_of_mem _ z)) fun z => hout fun y => by
        rcases List.mem_cons.mp y with y | y
        · exact hne y.symm
        · exact z y
    show wpAny (model P w) A (setScanFrom a x (K.hash k) true ((K.hash p.2, p.1) :: rowsG K rows) i) Q E s
    unfold setScanFrom
    by_cases hh : (K.hash p.2 == K.hash k) = true
    · refine wp_if_pos hh ?_
      unfold setEpoch
      refine wpAny_bind (wpAny_bind (wpAny_setState_of ho hd R.fits ?_))
      refine wpAny_pure ?_
      refine wpAny_bind (K.eqB hu (hel p List.mem_cons_self) hx fun b hb => ?_)
      cases b with
      | true =>
        refine wp_if_pos rfl ?_
        exact wpAny_pure (hin (by rw [List.map_cons, hb.1 rfl]; exact List.mem_cons_self) i)
      | false =>
        refine wp_if_neg (by decide) ?_
        try refine wpAny_bind (wpAny_pure ?_)
        refine wpAny_bind (wpAny_bind (wpAny_setState_of ho hd R.fits ?_))
        refine wpAny_pure ?_
        refine wp_if_neg (by simp) ?_
        try refine wpAny_bind (wpAny_pure ?_)
        exact rest fun e => by
          have := hb.2 e
          cases this
    · refine wp_if_neg hh ?_
      try refine wpAny_bind (wpAny_pure ?_)
      exact rest fun e => hh (by rw [e]; exact beq_self_eq_true _)
theorem scan_nostr {x : Value} (h : ∀ z t, x ≠ .str z t) (z : Int) (b : Bool) : setScan a x z b es = setScanFrom a x z b es.toList 0 := by
  cases x <;> first | rfl | exact absurd rfl (h _ _)
theorem SetG.addScan (R : SetG K s.heap a L es ep t) {x : Value} {k : κ} (hx : K.is s.heap k x) (ux : K.U k) (hu : A.units < cLine) (hn : L.length + 1 < 8388608) {fuel : Nat} {Q : Bool → Shared → Prop} (hsc : byScan x es = true)
    (hQ : ∀ b h' L' es' ep' t', Heap.SameBut a s.heap h' → SetG K h' a L' es' ep' t' → (k ∈ L.map (·.2) → L' = L) → (k ∉ L.map (·.2) → L'.Perm ((x, k) :: L)) → Q b { s with heap := h' }) :
    wpAny (model P w) A (setAddHashedIn a x (K.hash k) (fuel + 1)) Q E s := by
  obtain ⟨o, ho, hex, hd⟩ := R.ob
  rw [setAddHashedIn_succ]
  refine wpAny_bind (wpAny_setState_of ho hd R.fits ?_)
  dsimp only
  refine wp_if_pos hsc ?_
  unfold setAddByScan
  refine wpAny_bind ?_
  refine wpAny_bind (wpAny_rule ?_)
  rw [scan_nostr (K.nostr hx), R.rows]
  refine wpAny_bind (R.scanFrom hx hu L 0 R.el (fun hm j => ?_) fun hm => ?_)
  · dsimp only
    refine wpAny_pure (wpAny_pure ?_)
    exact hQ false s.heap L es ep t (Heap.SameBut.refl a s.heap) R (fun _ => rfl) fun z => absurd hm z
  · dsimp only
    have hroom := R.room
    have hl : (hashesG K L).length ≤ t.mask := by
      unfold hashesG
      rw [List.length_map]
      omega
    obtain ⟨N, r, hr, hNr, hNt, hK, hKb⟩ := R.tab.empty hl (K.hash k)
    obtain ⟨p, t1, e1, pl1, ld1, sz1, ft1, L1, pm, rows, T1, nd1, rm1⟩ := R.more hx ux hn hm hK hKb
    have free : t.freeSlot (K.hash k) = some (way t.mask (K.hash k) N, false) := by
      unfold SetTable.freeSlot
      have hno : ∀ z : Int, z + 1 ≠ z := fun z => by omega
      rcases go_spec t R.tab.up R.tab.nod (fun _ => K.hash k + 1) (K.hash k) (10 * SetTable.turns t.mask) N (runAt t.mask (SetTable.bits (K.hash k) % (t.mask + 1)) (SetTable.bits (K.hash k))) rfl hNt hKb hK with ⟨q, i, _, _, hh, _, _⟩ | ⟨_, hpr⟩
      · exact absurd hh (hno _)
      · have hpr' : t.probe (fun _ => K.hash k + 1) (K.hash k) (t.probeStart (K.hash k)) = _ := hpr
        rw [hpr']
        rfl
    have new : layNew t es (K.hash k) x = (SetTable.insertAt es p (K.hash k, x), t1, false, false) := by
      unfold layNew
      rw [free]
      dsimp only
      rw [e1]
      dsimp only
      unfold SetTable.orStandIn
      rw [sz1, ft1]
      rfl
    rw [new]
    dsimp only
    refine wpAny_bind (wpAny_pure ?_)
    have hsl := R.size
    generalize SetTable.insertAt es p (K.hash k, x) = es1 at sz1 rows ⊢
    first
      | (refine wpAny_bind ?_; refine wp_if_pos pl1 ?_; refine K.byv hx ?_)
      | refine wp_if_pos pl1 (wpAny_bind (K.byv hx ?_))
    simp only [if_true]
    refine wpAny_bind (wpAny_storeSet_of ho hd ?_ (by rw [sz1, sizeLine_eq]; omega))
    have sb : Heap.SameBut a s.heap (s.heap.update a (Obj.putSet es1 t1)) := Heap.SameBut.update ..
    have ho1 := store_at (es' := es1) (t' := t1) ho hd
    generalize s.heap.update a (Obj.putSet es1 t1) = h1 at sb ho1 ⊢
    have hl1 : L1.length = L.length + 1 := pm.length_eq
    have el1 : ∀ p ∈ L1, K.is h1 p.2 p.1 := fun p hp => by
      rcases List.mem_cons.mp (pm.mem_iff.mp hp) with rfl | hp
      · exact el_same hx ho hd sb
      · exact el_same (R.el p hp) ho hd sb
    have us1 : ∀ p ∈ L1, K.U p.2 := fun p hp => by
      rcases List.mem_cons.mp (pm.mem_iff.mp hp) with rfl | hp
      · exact ux
      · exact R.us p hp
    have hex1 : Obj.ExactSet { o with data := .set es1 (ep + 1) t1 } := ⟨hex.1, hex.2.1, hex.2.2⟩
    rw [← hl1] at sz1 ft1
    by_cases hf : t1.tooFull = true
    · refine wp_if_pos (by simp [hf]) ?_
      obtain ⟨t2, order, r1, r2, r3, r4, r5, r6⟩ := SetG.anew (h := h1) ho1 hex1 rfl rows nd1 el1 us1 pl1 ld1 (by omega)
      have ra : relayAll t1 es1 (SetTable.grown es1.size) = (order.filterMap (es1[·]?), t2, false) := by
        unfold relayAll
        rw [sz1, r1]
        dsimp only
        have c1 : coversAll order L1.length = true := by
          unfold coversAll
          rw [List.isPerm_iff, ← sz1]
          exact r3
        rw [c1, r2, r4]
        rfl
      rw [ra]
      dsimp only
      refine wpAny_bind (wpAny_pure ?_)
      refine wpAny_bind (wpAny_storeSet_of (s := { s with heap := h1 }) ho1 rfl ?_ (by rw [r2, sz1, sizeLine_eq]; omega))
      have sb2 : Heap.SameBut a h1 (h1.update a (Obj.putSet (order.filterMap (es1[·]?)) t2)) := Heap.SameBut.update ..
      obtain ⟨L2, R2, p2⟩ := r6 _ (ep + 1 + 1) _ (store_at ho1 rfl) ⟨hex.1, hex.2.1, hex.2.2⟩ rfl sb2
      exact wpAny_pure (wpAny_pure (hQ true _ L2 _ _ t2 (sb.trans sb2) R2 (fun z => absurd z hm) fun _ => p2.trans pm))
    · refine wp_if_neg (by simp [hf]) ?_
      exact wpAny_pure (wpAny_pure (hQ true h1 L1 es1 (ep + 1) t1 sb ⟨⟨_, ho1, hex1, rfl⟩, rows, T1, nd1, el1, us1, pl1, ld1, rm1 (by simpa using hf)⟩ (fun z => absurd z hm) fun _ => pm))
/-- adding, by whichever road -/
theorem SetG.add (R : SetG K s.heap a L es ep t) {x : Value} {k : κ} (hx : K.is s.heap k x) (ux : K.U k) (hu : A.units < cLine) (hn : L.length + 1 < 8388608) {Q : Bool → Shared → Prop}
    (hQ : ∀ b h' L' es' ep' t', Heap.SameBut a s.heap h' → SetG K h' a L' es' ep' t' → (k ∈ L.map (·.2) → L' = L) → (k ∉ L.map (·.2) → L'.Perm ((x, k) :: L)) → Q b { s with heap := h' }) :
    wpAny (model P w) A (setAddHashed a x (K.hash k)) Q E s := by
  unfold setAddHashed
  refine wpAny_holding ?_
  rw [show (100000 : Nat) = 99999 + 1 from rfl]
  cases hsc : byScan x es with
  | false => exact R.addHash hx ux hu hn hsc hQ
  | true => exact R.addScan hx ux hu hn hsc hQ
end
end K23
/-! K23SetE -/
set_option Elab.async false
set_option linter.all false
set_option maxRecDepth 100000
set_option maxHeartbeats 4000000
/-! Sets of any size: set(list), set(tuple). -/
namespace K23
open PySem PySem.Spec PyProof.Rows L2
/-- what stands in the set behind the first i items -/
structure GotG {κ : Type} (ks : List (Value × κ)) (i : Nat) (L : List (Value × κ)) : Prop where
  sub : ∀ p ∈ L, p ∈ ks.take i
  all : ∀ p ∈ ks.take i, p.2 ∈ L.map (·.2)
  len : L.length ≤ i
theorem GotG.none {κ : Type} (ks : List (Value × κ)) : GotG ks 0 [] := ⟨fun p h => (nomatch h), fun p h => (by simp at h), Nat.le_refl _⟩
theorem GotG.step {κ : Type} {ks L L' : List (Value × κ)} {i : Nat} {x : Value × κ} (g : GotG ks i L) (h : ks[i]? = some x) (c1 : x.2 ∈ L.map (·.2) → L' = L) (c2 : x.2 ∉ L.map (·.2) → L'.Perm (x :: L)) : GotG ks (i + 1) L' := by
  have e : ks.take (i + 1) = ks.take i ++ [x] := take_next h
  rcases Classical.em (x.2 ∈ L.map (·.2)) with c | c
  · obtain rfl := c1 c
    refine ⟨fun p hp => by rw [e]; exact List.mem_append_left _ (g.sub p hp), fun p hp => ?_, Nat.le_succ_of_le g.len⟩
    rw [e] at hp
    rcases List.mem_append.mp hp with z | z
    · exact g.all p z
    · obtain rfl := List.mem_singleton.mp z
      exact c
  · have pm := c2 c
    refine ⟨fun p hp => ?_, fun p hp => (pm.map (·.2)).mem_iff.mpr ?_, by rw [pm.length_eq]; exact Nat.succ_le_succ g.len⟩
    · rw [e]
      rcases List.mem_cons.mp (pm.mem_iff.mp hp) with rfl | z
      · exact List.mem_append_right _ (List.mem_singleton.mpr rfl)
      · exact List.mem_append_left _ (g.sub p z)
    · rw [e] at hp
      rcases List.mem_append.mp hp with z | z
      · exact List.mem_cons_of_mem _ (g.all p z)
      · obtain rfl := List.mem_singleton.mp z
        exact List.mem_cons_self
section
variable {P : Program} {w : World} {κ : Type} {A : Around} {E : Value → Shared → Prop} {s : Shared} {K : EKind P w κ}
abbrev newSetO (w : World) : Obj := { cls := .type "set", dict := none, data := .set #[] 0 (.fresh 0 0 (!w.params.followText "set-order")) }
theorem SetG.fresh {h : Heap} {a : Addr} (ho : h.get? a = some (newSetO w)) : SetG K h a [] #[] 0 (.fresh 0 0 (!w.params.followText "set-order")) where
  ob := ⟨_, ho, ⟨rfl, rfl, rfl⟩, rfl⟩
  rows := rfl
  tab := ⟨List.Pairwise.nil, rfl, rfl, mg7, fun x hx => (nomatch hx), fun i z j hi => (by unfold hashesG at hi; simp at hi)⟩
  nd := List.nodup_nil
  el := fun p hp => nomatch hp
  us := fun p hp => nomatch hp
  plain := rfl
  led := by
    show _ ∨ (!w.params.followText "set-order") = true
    cases w.params.followText "set-order" <;> simp
  room := by
    show 0 * 5 < 7 * 3
    decide
theorem SetG.keepH {h h' : Heap} {a : Addr} {L : List (Value × κ)} {es : Array (Int × Value)} {ep : Nat} {t : SetTable} (R : SetG K h a L es ep t) (ha : ∀ o, h.get? a = some o → h'.get? a = some o) (hel : ∀ p ∈ L, K.is h' p.2 p.1) : SetG K h' a L es ep t := by
  obtain ⟨o, ho, r⟩ := R.ob
  exact ⟨⟨o, ha o ho, r⟩, R.rows, R.tab, R.nd, hel, R.us, R.plain, R.led, R.room⟩
theorem el_keep {h h' : Heap} {k : κ} {v : Value} (x : K.is h k v) (hk : ∀ c o, h.get? c = some o → h'.get? c = some o) : K.is h' k v := K.keep x fun c o e _ => hk c o e

theorem update_loopG {I : Addr} {fp wr : List Addr} {G : Array GenState → Array GenState → Prop} {n : Nat} {Pv : Nat → Value → Prop} {St : Nat → Shared → Prop} {R : Result → Shared → Prop}
    (W : WalksS P w A.in1 I fp wr G n Pv St) (S : Addr) (hSf : S ∉ fp) (ks : List (Value × κ)) (hn : n = ks.length) (hfew : ks.length < 8388607) (hval : ∀ i v, Pv i v → ∃ p, ks[i]? = some p ∧ v = p.1)
    (h0 : Heap) (hk : ∀ p ∈ ks, K.is h0 p.2 p.1) (hU : ∀ p ∈ ks, K.U p.2) (hS0 : h0.get? S = none) (hw0 : ∀ b ∈ wr, h0.get? b = none) (hu : A.in1.units < cLine) :
    ∀ (k i : Nat) (s : Shared), n - i = k → i ≤ n → St i s → (∀ b o, h0.get? b = some o → s.heap.get? b = some o) → (∃ L es ep t, SetG K s.heap S L es ep t ∧ GotG ks i L) →
      (∀ s' L es ep t, Moved (S :: wr) G s s' → SetG K s'.heap S L es ep t → GotG ks n L → (∀ b o, h0.get? b = some o → s'.heap.get? b = some o) → R (.ok (.ret .none)) s') →
      codeAny (model P w) A (.builtin "set.update.loop" ⟨[.ref S, .ref I], []⟩) R s := by
  have hSw : S ∉ wr := fun h => hSf (W.sub _ h)
  have inS : ∀ b ∈ wr, b ∈ S :: wr := fun b hb => List.mem_cons_of_mem _ hb
  have old : ∀ {s s' : Shared}, Moved wr G s s' → (∀ b o, h0.get? b = some o → s.heap.get? b = some o) → ∀ b o, h0.get? b = some o → s'.heap.get? b = some o := fun hm hkp b o e =>
    hm.heap b o (fun hb => by have := hw0 b hb; rw [e] at this; cases this) (hkp b o e)
  intro k
  induction k with
  | zero =>
    intro i s hk' hi hst hkp ⟨L, es, ep, t, hS, g⟩ hR
    obtain rfl : i = n := by omega
    refine codeAny_builtin F.entry_set_update_loop ?_
    rw [Around.under_plainId F.plain_set_update_loop _]
    show wpAny _ A.in1 (pyNext (.ref I) >>= _) _ _ s
    refine wpAny_bind (W.done s _ _ hst fun s' hm => ?_)
    show wpAny _ A.in1 (ret Value.none) _ _ s'
    have kp := old hm hkp
    exact wpAny_pure (hR s' L es ep t (hm.mono inS) (hS.keepH (fun o e => hm.heap S o hSw e) fun p hp => el_keep (hk p (List.mem_of_mem_take (g.sub p hp))) kp) g kp)
  | succ k ih =>
    intro i s hk' hi hst hkp ⟨L, es, ep, t, hS, g⟩ hR
    have hlt : i < n := by omega
    refine codeAny_builtin F.entry_set_update_loop ?_
    rw [Around.under_plainId F.plain_set_update_loop _]
    show wpAny _ A.in1 (pyNext (.ref I) >>= _) _ _ s
    refine wpAny_bind (W.item i s _ _ hlt hst fun v s' hP hst' hm => ?_)
    obtain ⟨p, hp, rfl⟩ := hval i v hP
    have pm := List.mem_of_getElem? hp
    have kp := old hm hkp
    have hS' : SetG K s'.heap S L es ep t := hS.keepH (fun o e => hm.heap S o hSw e) fun q hq => el_keep (hk q (List.mem_of_mem_take (g.sub q hq))) kp
    have hx : K.is s'.heap p.2 p.1 := el_keep (hk p pm) kp
    show wpAny _ A.in1 (holding [p.1] (setAdd S p.1) >>= _) _ _ s'
    refine wpAny_bind (wpAny_holding ?_)
    unfold setAdd
    refine wpAny_holding ?_
    refine wpAny_bind (K.pyh hu hx fun tk htk => ?_)
    refine SetG.add (s := { s' with toks := tk }) hS' hx (hU p pm) hu (by have := g.len; omega) fun b h' L' es' ep' t' hsb hS2 c1 c2 => ?_
    have kp2 : ∀ b o, h0.get? b = some o → h'.get? b = some o := fun b o e => (hsb.2 b (fun z => by subst z; rw [hS0] at e; cases e)).trans (kp b o e)
    refine wpAny_pure ⟨plainId_quiet F.plain_set_update_loop _, ih (i + 1) _ (by omega) hlt (W.frame _ s' _ _ hst' htk fun b hb o e => ?_) kp2 ⟨L', es', ep', t', hS2, g.step hp c1 c2⟩ fun s'' L2 es2 ep2 t2 hm'' hS'' g'' kp'' => ?_⟩
    · rw [hsb.2 b (fun h : b = S => hSf (h ▸ hb))]
      exact e
    · refine hR s'' L2 es2 ep2 t2 (Moved.trans W.gtrans ((hm.mono inS).then_heap htk fun b o hb e => ?_) hm'') hS'' g'' kp''
      rw [hsb.2 b (fun h : b = S => hb (h ▸ List.mem_cons_self))]
      exact e

set_option maxHeartbeats 4000000 in
/-- set(xs) of a list -/
theorem set_of_list {l : Addr} {items : Array Value} (ks : List (Value × κ)) {Q : Value → Shared → Prop} (hh : A.handled = none) (hl : s.heap.IsList l items) (hit : items.toList = ks.map fun p => p.1)
    (hk : ∀ p ∈ ks, K.is s.heap p.2 p.1) (hU : ∀ p ∈ ks, K.U p.2) (hfew : ks.length < 8388607) (hu : A.units + 3 < cLine)
    (h : ∀ (h' : Heap) (tk : Nat) L es ep t, SetG K h' s.heap.objs.size L es ep t → GotG ks ks.length L → (∀ b o, s.heap.get? b = some o → h'.get? b = some o) → Q (.ref s.heap.objs.size) { s with heap := h', toks := tk }) :
    wpAny (model P w) A (call (.type "set") [.ref l]) Q E s := by
  have hisz : items.size = ks.length := by
    have q := congrArg List.length hit
    rwa [Array.length_toList, List.length_map] at q
  obtain ⟨c, tl, hmro⟩ := F.called_set.mro
  have hmade := F.called_set.made
  have hsub := F.called_set.sub
  refine wpAny_call (codeAny_of_tree ?_)
  show wpAny _ _ (callAny (.type "set") _) _ _ _
  refine wpAny_pure ⟨Code.quiet_builtin _ (by decide +kernel), codeAny_builtin F.entry_type_call ?_⟩
  rw [Around.under_plain (weight_type_call_type "set" [.ref l] []) rfl]
  have h1 := F.called_set.notType
  have h2 := F.called_set.canCreate
  have hct := F.typeCall_set_1 (.ref l)
  repeat (any_goals (first | assumption | wp_step))
  refine codeAny_mono (code_set_led1 (.ref l) (E := E) (Q₁ := fun obj s₁ => obj = .ref s.heap.objs.size ∧ s₁ = { s with heap := s.heap.push (newSetO w) }) ⟨rfl, rfl⟩) fun r s₁ hr => ?_
  cases r with
  | error e => exact hr
  | ok fl =>
    cases fl with
    | ret obj =>
      obtain ⟨rfl, rfl⟩ := hr
      have hS : (s.heap.push (newSetO w)).get? s.heap.objs.size = some (newSetO w) := Heap.get?_push_size _ rfl
      have hT : Shared.TypeIs { s with heap := s.heap.push (newSetO w) } (.ref s.heap.objs.size) "set" := ⟨_, hS, rfl⟩
      have hli := F.called_set.init.lookup
      have hbi := F.called_set.init.bind (.ref s.heap.objs.size)
      repeat (any_goals (first | assumption | wp_step))
      refine codeAny_mono (codeAny_call_builtin (R := wants (fun r s₂ => r = .none ∧ ∃ h' tk L es ep t, s₂ = { s with heap := h', toks := tk } ∧ SetG K h' s.heap.objs.size L es ep t ∧ GotG ks ks.length L ∧
          (∀ b o, s.heap.get? b = some o → h'.get? b = some o)) E) F.called_set.init.plain F.entry_set_init (check_set_init_1 hT ?_)) fun r₂ s₂ hr₂ => ?_
      · obtain ⟨ol, hol, hcl, nl, hdl⟩ := hl
        obtain ⟨ocls, odict, odata, oslots⟩ := ol
        simp only at hcl hdl
        subst hcl; subst hdl
        have hol' : (s.heap.push (newSetO w)).get? l = some { cls := .type "list", dict := odict, data := .seq items nl, slots := oslots } := Heap.get?_push_of_some _ hol
        have hsls := F.sub_list_set
        have hslf := F.sub_list_frozenset
        have hne : (Value.type "list" == Value.type "dict") = false := by decide
        have hl1 : (s.heap.push (newSetO w)).IsList l items := ⟨_, hol', rfl, nl, rfl⟩
        unfold Builtin.«set.__init__» noKeywords Builtin.Frozenset.updateFrom
        generalize hPI : pyIter = PI
        wp_walk
        subst hPI
        refine wpAny_pyIter_list hl1 ?_
        refine wpAny_bind (wpAny_runValue ?_)
        have hlS : l < s.heap.objs.size := Heap.lt_size hol
        have hh3 : A.in1.in1.in1.handled = none := by simp [hh]
        have hneI : l ≠ (s.heap.push (newSetO w)).objs.size := by
          rw [Heap.size_push]; exact Nat.ne_of_lt (Nat.lt_succ_of_lt hlS)
        have hSf : s.heap.objs.size ∉ [(s.heap.push (newSetO w)).objs.size, l] := by
          rw [Heap.size_push]; simp only [List.mem_cons, List.mem_singleton, List.not_mem_nil, or_false, not_or]
          exact ⟨Nat.ne_of_lt (Nat.lt_succ_self _), Nat.ne_of_gt hlS⟩
        have hval : ∀ (i : Nat) (v : Value), items[i]? = some v → ∃ p, ks[i]? = some p ∧ v = p.1 := fun i v hv => by
          have q : items.toList[i]? = some v := (Array.getElem?_toList ..).trans hv
          rw [hit, List.getElem?_map] at q
          obtain ⟨p, a, b⟩ := Option.map_eq_some_iff.mp q
          exact ⟨p, a, b.symm⟩
        have off : ∀ b, s.heap.objs.size ≤ b → s.heap.get? b = none := fun b hb => by
          cases q : s.heap.get? b with
          | none => rfl
          | some o => exact absurd (Nat.lt_of_lt_of_le (Heap.lt_size q) hb) (Nat.lt_irrefl _)
        refine update_loopG (K := K) ((Walks.list hh3 _ l hneI items).toS) s.heap.objs.size
          hSf ks hisz hfew hval s.heap hk hU (off _ (Nat.le_refl _)) (fun b hb => off b (by
            rw [List.mem_singleton.mp hb, Heap.size_push]
            exact Nat.le_succ _)) hu (items.size - 0) 0 _ (by omega) (Nat.zero_le _)
          ⟨⟨_, Heap.get?_push_size _ rfl, rfl, rfl⟩, hl1.push _⟩ (fun b o e => Heap.get?_push_of_some _ (Heap.get?_push_of_some _ e)) ?hS0 ?hR
        case hS0 =>
          have hget : ((s.heap.push (newSetO w)).push { cls := .type "list_iterator", data := .fields #[.ref l, .int 0 0] }).get? s.heap.objs.size = some (newSetO w) := Heap.get?_push_of_some _ hS
          exact ⟨[], #[], 0, _, SetG.fresh hget, GotG.none ks⟩
        case hR =>
          intro s' L es ep t hm hS' g' hkp
          obtain ⟨h', g2, d', tk', os'⟩ := s'
          obtain rfl : g2 = s.gens := hm.gens
          obtain rfl : d' = s.drawn := hm.drawn
          obtain rfl : os' = s.os := hm.os
          show wpAny _ _ _ _ _ _
          refine wpAny_pure ?_
          show wpAny _ _ (ret Value.none) _ _ _
          rw [hisz] at g'
          exact wpAny_pure ⟨rfl, h', tk', L, es, ep, t, rfl, hS', g', hkp⟩
      · cases r₂ with
        | error e => exact hr₂
        | ok fl₂ =>
          cases fl₂ with
          | ret r =>
            obtain ⟨rfl, h', tk, L, es, ep, t, rfl, hS', g', hk'⟩ := hr₂
            repeat (any_goals (first | assumption | wp_step))
            exact h _ _ _ _ _ _ hS' g' hk'
          | _ => exact hr₂.elim
    | _ => exact hr.elim

set_option maxHeartbeats 4000000 in
/-- set(xs) of a tuple -/
theorem set_of_tuple {l : Addr} {items : Array Value} (ks : List (Value × κ)) {Q : Value → Shared → Prop} (hh : A.handled = none) (hl : s.heap.IsTuple l items) (hit : items.toList = ks.map fun p => p.1)
    (hk : ∀ p ∈ ks, K.is s.heap p.2 p.1) (hU : ∀ p ∈ ks, K.U p.2) (hfew : ks.length < 8388607) (hu : A.units + 3 < cLine)
    (h : ∀ (h' : Heap) (tk : Nat) L es ep t, SetG K h' s.heap.objs.size L es ep t → GotG ks ks.length L → (∀ b o, s.heap.get? b = some o → h'.get? b = some o) → Q (.ref s.heap.objs.size) { s with heap := h', toks := tk }) :
    wpAny (model P w) A (call (.type "set") [.ref l]) Q E s := by
  have hisz : items.size = ks.length := by
    have q := congrArg List.length hit
    rwa [Array.length_toList, List.length_map] at q
  obtain ⟨c, tl, hmro⟩ := F.called_set.mro
  have hmade := F.called_set.made
  have hsub := F.called_set.sub
  refine wpAny_call (codeAny_of_tree ?_)
  show wpAny _ _ (callAny (.type "set") _) _ _ _
  refine wpAny_pure ⟨Code.quiet_builtin _ (by decide +kernel), codeAny_builtin F.entry_type_call ?_⟩
  rw [Around.under_plain (weight_type_call_type "set" [.ref l] []) rfl]
  have h1 := F.called_set.notType
  have h2 := F.called_set.canCreate
  have hct := F.typeCall_set_1 (.ref l)
  repeat (any_goals (first | assumption | wp_step))
  refine codeAny_mono (code_set_led1 (.ref l) (E := E) (Q₁ := fun obj s₁ => obj = .ref s.heap.objs.size ∧ s₁ = { s with heap := s.heap.push (newSetO w) }) ⟨rfl, rfl⟩) fun r s₁ hr => ?_
  cases r with
  | error e => exact hr
  | ok fl =>
    cases fl with
    | ret obj =>
      obtain ⟨rfl, rfl⟩ := hr
      have hS : (s.heap.push (newSetO w)).get? s.heap.objs.size = some (newSetO w) := Heap.get?_push_size _ rfl
      have hT : Shared.TypeIs { s with heap := s.heap.push (newSetO w) } (.ref s.heap.objs.size) "set" := ⟨_, hS, rfl⟩
      have hli := F.called_set.init.lookup
      have hbi := F.called_set.init.bind (.ref s.heap.objs.size)
      repeat (any_goals (first | assumption | wp_step))
      refine codeAny_mono (codeAny_call_builtin (R := wants (fun r s₂ => r = .none ∧ ∃ h' tk L es ep t, s₂ = { s with heap := h', toks := tk } ∧ SetG K h' s.heap.objs.size L es ep t ∧ GotG ks ks.length L ∧
          (∀ b o, s.heap.get? b = some o → h'.get? b = some o)) E) F.called_set.init.plain F.entry_set_init (check_set_init_1 hT ?_)) fun r₂ s₂ hr₂ => ?_
      · obtain ⟨ol, hol, hcl, nl, hdl⟩ := hl
        obtain ⟨ocls, odict, odata, oslots⟩ := ol
        simp only at hcl hdl
        subst hcl; subst hdl
        have hol' : (s.heap.push (newSetO w)).get? l = some { cls := .type "tuple", dict := odict, data := .seq items nl, slots := oslots } := Heap.get?_push_of_some _ hol
        have hsls := F.sub_tuple_set
        have hslf := F.sub_tuple_frozenset
        have hne : (Value.type "tuple" == Value.type "dict") = false := by decide
        have hl1 : (s.heap.push (newSetO w)).IsTuple l items := ⟨_, hol', rfl, nl, rfl⟩
        unfold Builtin.«set.__init__» noKeywords Builtin.Frozenset.updateFrom
        generalize hPI : pyIter = PI
        wp_walk
        subst hPI
        refine wpAny_pyIter_tuple hl1 ?_
        refine wpAny_bind (wpAny_runValue ?_)
        have hlS : l < s.heap.objs.size := Heap.lt_size hol
        have hh3 : A.in1.in1.in1.handled = none := by simp [hh]
        have hneI : l ≠ (s.heap.push (newSetO w)).objs.size := by
          rw [Heap.size_push]; exact Nat.ne_of_lt (Nat.lt_succ_of_lt hlS)
        have hSf : s.heap.objs.size ∉ [(s.heap.push (newSetO w)).objs.size, l] := by
          rw [Heap.size_push]; simp only [List.mem_cons, List.mem_singleton, List.not_mem_nil, or_false, not_or]
          exact ⟨Nat.ne_of_lt (Nat.lt_succ_self _), Nat.ne_of_gt hlS⟩
        have hval : ∀ (i : Nat) (v : Value), items[i]? = some v → ∃ p, ks[i]? = some p ∧ v = p.1 := fun i v hv => by
          have q : items.toList[i]? = some v := (Array.getElem?_toList ..).trans hv
          rw [hit, List.getElem?_map] at q
          obtain ⟨p, a, b⟩ := Option.map_eq_some_iff.mp q
          exact ⟨p, a, b.symm⟩
        have off : ∀ b, s.heap.objs.size ≤ b → s.heap.get? b = none := fun b hb => by
          cases q : s.heap.get? b with
          | none => rfl
          | some o => exact absurd (Nat.lt_of_lt_of_le (Heap.lt_size q) hb) (Nat.lt_irrefl _)
        refine update_loopG (K := K) ((Walks.tuple hh3 _ l hneI items).toS) s.heap.objs.size
          hSf ks hisz hfew hval s.heap hk hU (off _ (Nat.le_refl _)) (fun b hb => off b (by
            rw [List.mem_singleton.mp hb, Heap.size_push]
            exact Nat.le_succ _)) hu (items.size - 0) 0 _ (by omega) (Nat.zero_le _)
          ⟨⟨_, Heap.get?_push_size _ rfl, rfl, rfl⟩, by obtain ⟨o, e, r⟩ := hl1; exact ⟨o, Heap.get?_push_of_some _ e, r⟩⟩ (fun b o e => Heap.get?_push_of_some _ (Heap.get?_push_of_some _ e)) ?hS0 ?hR
        case hS0 =>
          have hget : ((s.heap.push (newSetO w)).push { cls := .type "tuple_iterator", data := .fields #[.ref l, .int 0 0] }).get? s.heap.objs.size = some (newSetO w) := Heap.get?_push_of_some _ hS
          exact ⟨[], #[], 0, _, SetG.fresh hget, GotG.none ks⟩
        case hR =>
          intro s' L es ep t hm hS' g' hkp
          obtain ⟨h', g2, d', tk', os'⟩ := s'
          obtain rfl : g2 = s.gens := hm.gens
          obtain rfl : d' = s.drawn := hm.drawn
          obtain rfl : os' = s.os := hm.os
          show wpAny _ _ _ _ _ _
          refine wpAny_pure ?_
          show wpAny _ _ (ret Value.none) _ _ _
          rw [hisz] at g'
          exact wpAny_pure ⟨rfl, h', tk', L, es, ep, t, rfl, hS', g', hkp⟩
      · cases r₂ with
        | error e => exact hr₂
        | ok fl₂ =>
          cases fl₂ with
          | ret r =>
            obtain ⟨rfl, h', tk, L, es, ep, t, rfl, hS', g', hk'⟩ := hr₂
            repeat (any_goals (first | assumption | wp_step))
            exact h _ _ _ _ _ _ hS' g' hk'
          | _ => exact hr₂.elim
    | _ => exact hr.elim
end
end K23
/-! K23SetF -/
set_option Elab.async false
set_option linter.all false
set_option maxRecDepth 100000
set_option maxHeartbeats 4000000
/-! sorted(..) of sets, lists, tuples of any size. -/
namespace K23
open PySem PySem.Spec PySem.W PyProof.Rows L2
section
variable {P : Program} {w : World} {A : Around} {E : Value → Shared → Prop} {s : Shared}
/-- all that was there is as it was -/
structure Ext1 (s s1 : Shared) : Prop where
  kept : ∀ b o, s.heap.get? b = some o → s1.heap.get? b = some o
  size : s.heap.objs.size ≤ s1.heap.objs.size
  gens : s1.gens = s.gens
  os : s1.os = s.os
theorem iterP {a : Addr} {es : Array (Int × Value)} {ep : Nat} {t : SetTable} {Q : Value → Shared → Prop} (ha : SetAt s.heap a es ep t) (hf : t.fits es.size = true) (pl : t.plain = true) (r : Ris t.place.toList)
    (hl : w.params.followText "set-order" = true ∨ t.led = true) (hQ : ∀ s₂ I, SetIt P w s a es s₂ I → Q (.ref I) s₂) : wpAny (model P w) A (pyIter (.ref a)) Q E s := by
  obtain ⟨o, ho, hc, hd⟩ := id ha
  have hT : s.TypeIs (.ref a) "set" := ⟨o, ho, hc⟩
  have hne : a ≠ s.heap.objs.size := Nat.ne_of_lt (Heap.lt_size ho)
  refine wpAny_pyIter_slot hT F.slot_set_iter (wpAny_call_entry F.slot_set_iter hT entry_s_iter ?_ (F.args_set_iter_1 _))
  unfold Builtin.«frozenset.__iter__»
  refine wpAny_bind (m := Builtin.Frozenset.slot0 "__iter__" _) (wpAny_of_eq (a := a) (by rfl) ?_)
  refine wpAny_bind (m := Builtin.Frozenset.sizeOf a) ?_
  unfold Builtin.Frozenset.sizeOf
  refine wpAny_bind (wpAny_setEntries_of ho hd hf (wpAny_pure ?_))
  first | refine wpAny_bind (setDrawn_at ha hf ?_) | refine wpAny_bind (wpAny_bind (setDrawn_at ha hf ?_))
  refine wp_if_neg (by rw [pl]; simp) ?_
  first | refine wpAny_bind (wpAny_pure ?_) | refine wpAny_pure ?_
  refine wpAny_bind (wpAny_setEpoch_of ho hd hf ?_)
  refine wpAny_bind (wpAny_newObj_type (wpAny_pure ⟨_, rfl, "set_iterator", _, ⟨_, Heap.get?_push_size _ rfl, rfl⟩, slot_si_next.lookup, ?_⟩))
  have fpo : ∀ b ∈ [s.heap.objs.size, a], b = a ∨ s.heap.objs.size ≤ b := fun b hb => by
    rcases List.mem_cons.mp hb with z | z
    · exact .inr (Nat.le_of_eq z.symm)
    · exact .inl (List.mem_singleton.mp z)
  cases hb : w.params.followText "set-order" with
  | true =>
    have hlen : ((pickOrder (w.params.setOrder a ep) es).toList.map (·.2)).length = (pickOrder (w.params.setOrder a ep) es).size := by rw [List.length_map, Array.length_toList]
    exact hQ _ _ (SetIt.of (fun A' hA' => walks_text (P := P) (ep := ep) hA' hne hf hb) hlen (fun b u e => Heap.get?_push_of_some _ e) rfl rfl rfl (Nat.le_refl _) fpo ((pick_perm (w.params.setOrder a ep) es).map _)
      (fun j v q => by rw [List.getElem?_map, Array.getElem?_toList]; exact q) ⟨⟨_, Heap.get?_push_size _ rfl, rfl, rfl⟩, ha.at fun u e => Heap.get?_push_of_some _ e⟩)
  | false =>
    have hled : t.led = true := hl.resolve_left (by rw [hb]; exact Bool.false_ne_true)
    have hlen : (es.toList.map (·.2)).length = es.size := by rw [List.length_map, Array.length_toList]
    exact hQ _ _ (SetIt.of (fun A' hA' => walks_led (P := P) (ep := ep) hA' hne hf r hb (by rw [pl]; rfl) hled) hlen (fun b u e => Heap.get?_push_of_some _ e) rfl rfl rfl (Nat.le_refl _) fpo (List.Perm.refl _)
      (fun j v q => by rw [List.getElem?_map, Array.getElem?_toList]; exact q) ⟨⟨_, Heap.get?_push_size _ rfl, rfl, rfl⟩, ha.at fun u e => Heap.get?_push_of_some _ e⟩)
/-- list(set) as the built-ins ask for it -/
theorem collectP {a : Addr} {es : Array (Int × Value)} {ep : Nat} {t : SetTable} {Q : List Value → Shared → Prop} (hh : A.handled = none) (ha : SetAt s.heap a es ep t) (hf : t.fits es.size = true) (pl : t.plain = true) (hsz : es.size ≤ sizeLine)
    (r : Ris t.place.toList) (hl : w.params.followText "set-order" = true ∨ t.led = true) (hQ : ∀ s' out, Ext1 s s' → out.Perm (es.toList.map (·.2)) → Q out s') :
    wpAny (model P w) A (collect (.ref a)) Q E s := by
  obtain ⟨o, ho, hc, hd⟩ := id ha
  have hlt : a < s.heap.objs.size := Heap.lt_size ho
  have hSa : s.heap.objs.size ≠ a := Nat.ne_of_gt hlt
  unfold collect
  refine wpAny_bind (wpAny_runValue (codeAny_builtin F.entry_proto_collect ?_))
  rw [Around.under_plainId F.plain_proto_collect _]
  show wpAny _ A.in1 (newList [] >>= fun l => again (.builtin "list.__iadd__" ⟨[l, .ref a], []⟩)) _ _ s
  refine wpAny_bind (wpAny_newObj_type ?_)
  refine wpAny_pure ⟨plainId_quiet F.plain_list_iadd _, codeAny_builtin F.entry_list_iadd ?_⟩
  rw [Around.under_plainId F.plain_list_iadd _]
  have hS : (s.heap.push { cls := .type "list", data := .seq ([] : List Value).toArray }).get? s.heap.objs.size = some { cls := .type "list", data := .seq ([] : List Value).toArray } := Heap.get?_push_size _ rfl
  have ha1 : SetAt (s.heap.push { cls := .type "list", data := .seq ([] : List Value).toArray }) a es ep t := ha.at fun u e => Heap.get?_push_of_some _ e
  have hz1 : (s.heap.push { cls := .type "list", data := .seq ([] : List Value).toArray }).objs.size = s.heap.objs.size + 1 := size_push' _ _
  show wpAny _ A.in1 (Builtin.List.listExtendWith (.ref s.heap.objs.size) (.ref a) (.ref s.heap.objs.size)) _ _ _
  unfold Builtin.List.listExtendWith
  refine wpAny_bind (wpAny_typeOf (T := "set") ⟨o, Heap.get?_push_of_some _ ho, hc⟩ ?_)
  have h1 : Builtin.List.listSameRef (.ref s.heap.objs.size) (.ref a) = false := by simp [Builtin.List.listSameRef, hSa]
  have h2 : (Value.type "set" == Value.type "list") = false := by decide
  have h3 : (Value.type "set" == Value.type "tuple") = false := by decide
  simp only [h1, h2, h3, Bool.or_false, Bool.false_eq_true, if_false]
  refine wpAny_bind (iterP (s := { s with heap := s.heap.push { cls := .type "list", data := .seq ([] : List Value).toArray } }) ha1 hf pl r hl fun s₂ I hit => ?_)
  obtain ⟨fp, St, out, Pv, k2, g2, o2, t2, hI, hfp, hp, hW, hPv, hst⟩ := hit
  rw [hz1] at hI
  have hSf : s.heap.objs.size ∉ fp := fun hm => by
    rcases hfp _ hm with z | z
    · exact hSa z
    · rw [hz1] at z
      exact absurd z (Nat.not_succ_le_self _)
  have ho2 := k2 a o (Heap.get?_push_of_some _ ho)
  have hT2 : s₂.TypeIs (.ref a) "set" := ⟨o, ho2, hc⟩
  refine wpAny_bind (wpAny_holding ?_)
  unfold Builtin.List.listLengthHint
  refine wpAny_bind (wpAny_specialOf hT2 F.slot_set_len.lookup ?_)
  (generalize hid : ("set.__len__" : String) = id0; (fail_if_success (clear hid id0)); wp_delta; rw [show splitId id0 = some ("set", "__len__") from by subst hid; decide +kernel]; subst hid)
  refine wpAny_bind (wpAny_isInstance (b := true) hT2 sub_set_self ?_)
  show wpAny _ A.in1 (typeOf (.ref a) >>= _) _ _ _
  refine wpAny_bind (wpAny_typeOf hT2 ?_)
  refine wpAny_pure ?_
  show wpAny _ A.in1 (rule "list.extend.makes-room" >>= fun _ => Builtin.List.listTouch (.ref s.heap.objs.size) >>= fun _ =>
    again (.builtin "list.extend.loop" ⟨[.ref s.heap.objs.size, .ref I, .ref s.heap.objs.size], []⟩)) _ _ _
  refine wpAny_bind (wpAny_rule ?_)
  have hS2 := k2 _ _ hS
  refine wpAny_bind ?_
  show wpAny _ A.in1 (updateSeq s.heap.objs.size (·.push .none) >>= fun _ => updateSeq s.heap.objs.size (·.pop)) _ _ _
  refine wpAny_bind (wpAny_updateSeq hS2 rfl ?_)
  have hS3 := Heap.get?_update_self (Obj.mapSeq (·.push Value.none)) hS2 rfl
  refine wpAny_updateSeq hS3 rfl ?_
  have hS4 := Heap.get?_update_self (Obj.mapSeq (·.pop)) hS3 rfl
  have oth : ∀ b u, b ≠ s.heap.objs.size → s₂.heap.get? b = some u → ((s₂.heap.update s.heap.objs.size (Obj.mapSeq (·.push Value.none))).update s.heap.objs.size (Obj.mapSeq (·.pop))).get? b = some u :=
    fun b u hb e => (Heap.get?_update_other _ _ (Ne.symm hb)).trans ((Heap.get?_update_other _ _ (Ne.symm hb)).trans e)
  have hn : out.length ≤ sizeLine := by
    rw [hp.length_eq, List.length_map, Array.length_toList]
    exact hsz
  have W := hW A.in1 hh
  have hst2 : St 0 ((s₂.heap.update s.heap.objs.size (Obj.mapSeq (·.push Value.none))).update s.heap.objs.size (Obj.mapSeq (·.pop))) :=
    W.frame 0 _ _ hst fun b hb u e => oth b u (fun z => hSf (z ▸ hb)) e
  refine wpAny_pure ⟨plainId_quiet F.plain_extend_loop _, codeAny_extend_loopS W.toS hn _ hSf _ out.length 0 _ _ _ rfl (Nat.zero_le _) hst2 hS4 (ItemsOf.nil Pv) fun s' acc' c' hm hS' hacc => ?_⟩
  show wpAny _ A (load s.heap.objs.size >>= _) _ _ s'
  refine wpAny_bind (wpAny_load hS' ?_)
  refine wpAny_pure ?_
  show Q acc'.toList s'
  rw [items_out hacc hPv]
  refine hQ s' out ⟨fun b u e => ?_, Nat.le_of_lt (Heap.lt_size hS'), Eq.trans hm.gens g2, Eq.trans hm.os o2⟩ hp
  have hbl : b < s.heap.objs.size := Heap.lt_size e
  refine hm.heap b u (fun z => ?_) (oth b u (Nat.ne_of_lt hbl) (k2 b u (Heap.get?_push_of_some _ e)))
  rcases List.mem_cons.mp z with z | z
  · exact absurd z (Nat.ne_of_lt hbl)
  · have z : b = I := List.mem_singleton.mp z
    have hI' : s.heap.objs.size + 1 ≤ I := hI
    exact absurd z (Nat.ne_of_lt (Nat.lt_of_lt_of_le hbl (Nat.le_of_succ_le hI')))
/-- list(tuple) as the built-ins ask for it -/
theorem collectT {l : Addr} {vs : List Value} {Q : List Value → Shared → Prop} (hl : s.heap.IsTuple l vs.toArray) (hsz : vs.length ≤ sizeLine)
    (h : Q vs { s with heap := (s.heap.push (seqObj "list" #[] 0)).update s.heap.objs.size (Obj.mapSeq (· ++ vs.toArray)) }) :
    wpAny (model P w) A (collect (.ref l)) Q E s := by
  obtain ⟨o, ho, hc, n, hd⟩ := id hl
  unfold collect
  refine wpAny_bind (wpAny_runValue (codeAny_builtin entry_proto_collect' ?_))
  show wpAny _ _ (do again (.builtin "list.__iadd__" ⟨[← newList [], .ref l], []⟩)) _ _ s
  refine wpAny_bind (wpAny_newList (wpAny_pure ⟨Code.quiet_builtin _ (by decide +kernel), codeAny_builtin entry_list_iadd' ?_⟩))
  show wpAny _ _ (Builtin.List.listExtendWith (.ref s.heap.objs.size) (.ref l) (.ref s.heap.objs.size)) _ _ { s with heap := s.heap.push (seqObj "list" #[] 0) }
  unfold Builtin.List.listExtendWith
  have ho' : (s.heap.push (seqObj "list" #[] 0)).get? l = some o := Heap.get?_push_of_some _ ho
  refine wpAny_bind (wpAny_typeOf (T := "tuple") ⟨o, ho', hc⟩ ?_)
  have ht : (Value.type "tuple" == Value.type "tuple") = true := by rfl
  rw [if_pos (by rw [ht, Bool.or_true])]
  refine wpAny_bind (listItems_at ho' hd ?_)
  refine wpAny_bind (listItems_at (xs := #[]) (n := 0) (Heap.get?_push_size _ rfl) rfl ?_)
  rw [if_neg (by simp)]
  refine wpAny_bind (listUpdate_at (xs := #[]) (n := 0) (Heap.get?_push_size _ rfl) rfl ?_ (Nat.zero_le _) (by show (#[] ++ vs.toArray).size ≤ sizeLine + 1; simp only [Array.size_append, List.size_toArray, List.length_nil]; omega))
  refine wpAny_pure ?_
  refine wpAny_bind (wpAny_load (get?_update_seq (Heap.get?_push_size _ rfl) _) ?_)
  show wpAny _ _ (pure ((#[] : Array Value) ++ vs.toArray).toList) Q E _
  rw [show ((#[] : Array Value) ++ vs.toArray).toList = vs by simp]
  exact wpAny_pure h
theorem ext_copy (s : Shared) (vs : List Value) : Ext1 s { s with heap := (s.heap.push (seqObj "list" #[] 0)).update s.heap.objs.size (Obj.mapSeq (· ++ vs.toArray)) } := by
  refine ⟨fun b o e => ?_, by rw [Heap.size_update, size_push']; exact Nat.le_succ _, rfl, rfl⟩
  rw [Heap.get?_update_ne _ _ _ _ (Nat.ne_of_lt (Heap.lt_size e))]
  exact Heap.get?_push_of_some _ e

theorem reads_ext {s s1 : Shared} (x : Ext1 s s1) {v : Value} {d : PyData} {as : List Addr} (r : Reads s.heap v d as) : Reads s1.heap v d as := PyProof.Rows.Reads.keeps x.kept r
/-- THE SORT: whatever gives its items by collect -/
theorem sortedBy {x : Value} {β : Type} {R : Value → β → Prop} {enc : β → PyData} {B : List β} {Q : Value → Shared → Prop}
    (hcol : ∀ (Q' : List Value → Shared → Prop), (∀ s1 vs bs, Ext1 s s1 → EachIs R vs bs → EachIs (fun v b => Reads s1.heap v (enc b) []) vs bs → bs.Perm B → Q' vs s1) → wpAny (model P w) A.in1 (collect x) Q' E s)
    (hal : AllAlike (B.map enc)) (hk : Sortable (B.map enc)) (hL : B.length ≤ sizeLine) (hu : ∀ b, b ∈ B → A.units + 2 + (enc b).depth < cLine)
    (h : ∀ s' p (out : Array Value) (c : Nat) (bs' : List β), Ext1 s s' → s.heap.objs.size ≤ p → s'.heap.get? p = some (seqObj "list" out c) → EachIs R out.toList bs' → bs'.Perm B → bs'.Pairwise (fun b b' => dataLe false enc b b' = true) → Q (.ref p) s') :
    wpAny (model P w) A (call (.builtin "sorted") [x]) Q E s := by
  refine Calls.call_function_entry kind_sorted plain_sorted entry_sorted (args_sorted1 _) ?_
  unfold Builtin.«sorted»
  refine wpAny_bind (m := checkCount "sorted" 1 1 _) (wpAny_pure ?_)
  refine wpAny_bind (hcol _ fun s1 vs bs x1 e er pm => ?_)
  have hlen : bs.length ≤ sizeLine := by rw [pm.length_eq]; exact hL
  refine wpAny_bind (wpAny_newList ?_ (by rw [e.length]; exact hlen))
  have hoL : (s1.heap.push (seqObj "list" vs.toArray 0)).get? s1.heap.objs.size = some (seqObj "list" vs.toArray 0) := Heap.get?_push_size _ rfl
  have x2 : Ext1 s { s1 with heap := s1.heap.push (seqObj "list" vs.toArray 0) } := ⟨fun b o q => Heap.get?_push_of_some _ (x1.kept b o q), by rw [size_push']; exact Nat.le_succ_of_le x1.size, x1.gens, x1.os⟩
  have er2 : EachIs (fun v b => ∃ as, Reads (s1.heap.push (seqObj "list" vs.toArray 0)) v (enc b) as ∧ s1.heap.objs.size ∉ as) vs bs := er.mono fun v b r => ⟨[], PyProof.Rows.Reads.keeps (fun c o q => Heap.get?_push_of_some _ q) r, fun z => nomatch z⟩
  have pme := pm.map enc
  have hal' : AllAlike (bs.map enc) := fun d hd d' hd' => hal d (pme.mem_iff.mp hd) d' (pme.mem_iff.mp hd')
  have hk' : Sortable (bs.map enc) := hk.imp (fun z d hd => z d (pme.mem_iff.mp hd)) fun z d hd => z d (pme.mem_iff.mp hd)
  refine wpAny_bind (wpAny_holding (list_sort_data (s := { s1 with heap := s1.heap.push (seqObj "list" vs.toArray 0) }) (A := A.in1) hoL e er2 hal' hk' hlen (fun b hb => by have := hu b (pm.mem_iff.mp hb); show A.units + 1 + 1 + _ < _; omega) fun out hout eo => ?_))
  obtain ⟨c, hc⟩ := sortedHeap_at (vs := vs) (out := List.toArray out) hoL
  refine wpAny_pure ⟨_, rfl, h _ s1.heap.objs.size (List.toArray out) c (bs.mergeSort (dataLe false enc)) ⟨fun b u q => ?_, ?_, x1.gens, x1.os⟩ x1.size hc (by simpa using eo) ((List.mergeSort_perm _ _).trans pm) ?_⟩
  · have q1 := x1.kept b u q
    have hlt := Heap.lt_size q1
    show (sortedHeap (s1.heap.push (seqObj "list" vs.toArray 0)) s1.heap.objs.size vs (List.toArray out)).get? b = some u
    rw [sortedHeap_old (Nat.ne_of_lt hlt) (by rw [size_push']; exact Nat.lt_succ_of_lt hlt)]
    exact Heap.get?_push_of_some _ q1
  · exact Nat.le_trans x1.size (Nat.le_of_lt (Heap.lt_size hc))
  · exact sort_pairwise (sortLe_total _ _ _) _
end
end K23
/-! K23Hash -/
set_option Elab.async false
set_option linter.all false
set_option maxRecDepth 100000
set_option maxHeartbeats 4000000
/-! Few triples of small numbers share a tuple's hash: a histogram of 98,304 values, by the kernel. -/
namespace K23
open PySem PySem.Spec PyProof.Rows L2
/-- one item's turn of a tuple's hash -/
def hst (acc h : Nat) : Nat := ((acc + h * 14029467366897019727) % 18446744073709551616 * 2147483648 % 18446744073709551616 + (acc + h * 14029467366897019727) % 18446744073709551616 / 8589934592) * 11400714785074694791 % 18446744073709551616
/-- the bucket of the pair with number i -/
def yOf (i : Nat) : Nat := hst (hst 2870177450012600261 (i / 2)) (i % 2) * 839798700976720815 % 18446744073709551616
def bkt (i : Nat) : Nat := yOf i / 72057594037927936
/-- k n, n reckoned first -/
def frc (n : Nat) (k : Nat → Nat) : Nat := Nat.rec (k (nat_lit 0)) (fun m _ => k (Nat.succ m)) n
theorem frc_eq (n : Nat) (k : Nat → Nat) : frc n k = k n := by cases n <;> rfl
def hstF (acc h : Nat) (k : Nat → Nat) : Nat := frc (Nat.mod (Nat.add acc (Nat.mul h (nat_lit 14029467366897019727))) (nat_lit 18446744073709551616)) fun a => frc (Nat.mod (Nat.mul (Nat.add (Nat.mod (Nat.mul a (nat_lit 2147483648)) (nat_lit 18446744073709551616)) (Nat.div a (nat_lit 8589934592))) (nat_lit 11400714785074694791)) (nat_lit 18446744073709551616)) k
theorem hstF_eq (acc h : Nat) (k : Nat → Nat) : hstF acc h k = k (hst acc h) := by
  unfold hstF
  rw [frc_eq, frc_eq]
  rfl
def oneF (i : Nat) : Nat := hstF (nat_lit 2870177450012600261) (Nat.div i (nat_lit 2)) fun a => hstF a (Nat.mod i (nat_lit 2)) fun b => Nat.pow (nat_lit 2) (Nat.mul (nat_lit 20) (Nat.div (Nat.mod (Nat.mul b (nat_lit 839798700976720815)) (nat_lit 18446744073709551616)) (nat_lit 72057594037927936)))
theorem oneF_eq (i : Nat) : oneF i = 2 ^ (20 * bkt i) := by
  unfold oneF
  rw [hstF_eq, hstF_eq]
  rfl
/-- the histogram of base, .., base + 2^k - 1 -/
def hist (k : Nat) : Nat → Nat := Nat.rec (fun base => frc base oneF) (fun k ih base => frc (ih base) fun a => frc (ih (Nat.add base (Nat.pow (nat_lit 2) k))) fun b => Nat.add a b) k
def smallH (h : Nat) : Bool := (List.range 256).all fun b => Nat.ble (h / 2 ^ (20 * b) % 1048576) 24
def okH (base : Nat) : Nat := frc (hist 12 base) fun h => cond (smallH h) 1 0
theorem ok_0 : okH (nat_lit 0) = 1 := by decide +kernel
theorem ok_1 : okH (nat_lit 4096) = 1 := by decide +kernel
theorem ok_2 : okH (nat_lit 8192) = 1 := by decide +kernel
theorem ok_3 : okH (nat_lit 12288) = 1 := by decide +kernel
theorem ok_4 : okH (nat_lit 16384) = 1 := by decide +kernel
theorem ok_5 : okH (nat_lit 20480) = 1 := by decide +kernel
theorem ok_6 : okH (nat_lit 24576) = 1 := by decide +kernel
theorem ok_7 : okH (nat_lit 28672) = 1 := by decide +kernel
theorem ok_8 : okH (nat_lit 32768) = 1 := by decide +kernel
theorem ok_9 : okH (nat_lit 36864) = 1 := by decide +kernel
theorem ok_10 : okH (nat_lit 40960) = 1 := by decide +kernel
theorem ok_11 : okH (nat_lit 45056) = 1 := by decide +kernel
theorem ok_12 : okH (nat_lit 49152) = 1 := by decide +kernel
theorem ok_13 : okH (nat_lit 53248) = 1 := by decide +kernel
theorem ok_14 : okH (nat_lit 57344) = 1 := by decide +kernel
theorem ok_15 : okH (nat_lit 61440) = 1 := by decide +kernel
theorem ok_16 : okH (nat_lit 65536) = 1 := by decide +kernel
theorem ok_17 : okH (nat_lit 69632) = 1 := by decide +kernel
theorem ok_18 : okH (nat_lit 73728) = 1 := by decide +kernel
theorem ok_19 : okH (nat_lit 77824) = 1 := by decide +kernel
theorem ok_20 : okH (nat_lit 81920) = 1 := by decide +kernel
theorem ok_21 : okH (nat_lit 86016) = 1 := by decide +kernel
theorem ok_22 : okH (nat_lit 90112) = 1 := by decide +kernel
theorem ok_23 : okH (nat_lit 94208) = 1 := by decide +kernel
theorem ok_all : ∀ c, c < 24 → okH (c * 4096) = 1
  | 0, _ => ok_0
  | 1, _ => ok_1
  | 2, _ => ok_2
  | 3, _ => ok_3
  | 4, _ => ok_4
  | 5, _ => ok_5
  | 6, _ => ok_6
  | 7, _ => ok_7
  | 8, _ => ok_8
  | 9, _ => ok_9
  | 10, _ => ok_10
  | 11, _ => ok_11
  | 12, _ => ok_12
  | 13, _ => ok_13
  | 14, _ => ok_14
  | 15, _ => ok_15
  | 16, _ => ok_16
  | 17, _ => ok_17
  | 18, _ => ok_18
  | 19, _ => ok_19
  | 20, _ => ok_20
  | 21, _ => ok_21
  | 22, _ => ok_22
  | 23, _ => ok_23
  | n + 24, h => absurd h (by omega)

/-! ### digits -/
def dsum (f : Nat → Nat) : Nat → Nat
  | 0 => 0
  | n + 1 => dsum f n + f n * 2 ^ (20 * n)
theorem dsum_congr {f g : Nat → Nat} : ∀ n, (∀ b, b < n → f b = g b) → dsum f n = dsum g n
  | 0, _ => rfl
  | n + 1, h => by
    show dsum f n + f n * _ = dsum g n + g n * _
    rw [dsum_congr n fun b hb => h b (by omega), h n (by omega)]
theorem dsum_add (f g : Nat → Nat) : ∀ n, dsum (fun b => f b + g b) n = dsum f n + dsum g n
  | 0 => rfl
  | n + 1 => by
    show dsum (fun b => f b + g b) n + (f n + g n) * _ = (dsum f n + f n * _) + (dsum g n + g n * _)
    rw [dsum_add f g n, Nat.add_mul]
    omega
theorem dsum_one {c : Nat} : ∀ n, c < n → dsum (fun b => if b = c then 1 else 0) n = 2 ^ (20 * c)
  | 0, h => absurd h (Nat.not_lt_zero _)
  | n + 1, h => by
    show dsum _ n + (if n = c then 1 else 0) * _ = _
    by_cases e : n = c
    · subst e
      have z : dsum (fun b => if b = n then 1 else 0) n = 0 := by
        have key : ∀ k, k ≤ n → dsum (fun b => if b = n then 1 else 0) k = 0 := by
          intro k
          induction k with
          | zero => intro _; rfl
          | succ k ih =>
            intro hk
            show dsum _ k + (if k = n then 1 else 0) * _ = 0
            rw [ih (by omega), if_neg (by omega), Nat.zero_mul]
        exact key n (Nat.le_refl _)
      rw [z, if_pos rfl, Nat.zero_add, Nat.one_mul]
    · rw [dsum_one n (by omega), if_neg e, Nat.zero_mul, Nat.add_zero]
theorem dsum_lt {f : Nat → Nat} : ∀ n, (∀ b, b < n → f b < 1048576) → dsum f n < 2 ^ (20 * n)
  | 0, _ => Nat.one_pos
  | n + 1, h => by
    have a := dsum_lt n fun b hb => h b (by omega)
    have b := h n (by omega)
    have e : (2 : Nat) ^ (20 * (n + 1)) = 1048576 * 2 ^ (20 * n) := by
      rw [show 20 * (n + 1) = 20 + 20 * n by omega, Nat.pow_add]
    have c : f n * 2 ^ (20 * n) ≤ 1048575 * 2 ^ (20 * n) := Nat.mul_le_mul_right _ (by omega)
    show dsum f n + f n * _ < _
    rw [e]
    omega
theorem dsum_digit {f : Nat → Nat} : ∀ n b, b < n → (∀ b, b < n → f b < 1048576) → dsum f n / 2 ^ (20 * b) % 1048576 = f b
  | 0, b, hb, _ => absurd hb (Nat.not_lt_zero _)
  | n + 1, b, hb, h => by
    show (dsum f n + f n * 2 ^ (20 * n)) / 2 ^ (20 * b) % 1048576 = f b
    have hp : 0 < (2 : Nat) ^ (20 * b) := Nat.pow_pos (by decide)
    by_cases e : b = n
    · subst e
      rw [Nat.add_mul_div_right _ _ hp, Nat.div_eq_of_lt (dsum_lt b fun c hc => h c (by omega)), Nat.zero_add, Nat.mod_eq_of_lt (h b (by omega))]
    · have lt : b < n := by omega
      have ep : (2 : Nat) ^ (20 * n) = 1048576 * 2 ^ (20 * (n - b - 1)) * 2 ^ (20 * b) := by
        rw [Nat.mul_assoc, ← Nat.pow_add, show (1048576 : Nat) = 2 ^ 20 from rfl, ← Nat.pow_add]
        congr 1
        omega
      rw [ep, ← Nat.mul_assoc, Nat.add_mul_div_right _ _ hp, ← Nat.mul_assoc, Nat.mul_comm (f n) 1048576, Nat.mul_assoc, Nat.add_mul_mod_self_left]
      exact dsum_digit n b lt fun c hc => h c (by omega)
def lsum : List Nat → Nat
  | [] => 0
  | i :: l => 2 ^ (20 * bkt i) + lsum l
theorem lsum_append : ∀ a b, lsum (a ++ b) = lsum a + lsum b
  | [], b => (Nat.zero_add _).symm
  | i :: a, b => by
    show 2 ^ _ + lsum (a ++ b) = 2 ^ _ + lsum a + lsum b
    rw [lsum_append a b]
    omega
theorem hist_eq (k : Nat) : ∀ base, hist k base = lsum (List.range' base (2 ^ k)) := by
  induction k with
  | zero =>
    intro base
    have e : List.range' base (2 ^ 0) = [base] := rfl
    have e2 : hist 0 base = frc base oneF := rfl
    rw [e, e2, frc_eq, oneF_eq, lsum, lsum, Nat.add_zero]
  | succ k ih =>
    intro base
    have e2 : hist (k + 1) base = frc (hist k base) (fun a => frc (hist k (base + 2 ^ k)) fun b => a + b) := rfl
    have e3 : List.range' base (2 ^ (k + 1)) = List.range' base (2 ^ k) ++ List.range' (base + 2 ^ k) (2 ^ k) := by
      rw [Nat.pow_succ, show 2 ^ k * 2 = 2 ^ k + 2 ^ k by omega, List.range'_append_1]
    rw [e2, frc_eq, frc_eq, ih base, ih (base + 2 ^ k), ← lsum_append, e3]
theorem bkt_lt (i : Nat) : bkt i < 256 := by
  unfold bkt yOf
  have := Nat.mod_lt (hst (hst 2870177450012600261 (i / 2)) (i % 2) * 839798700976720815) (show 0 < 18446744073709551616 by decide)
  omega
theorem lsum_dsum : ∀ l, lsum l = dsum (fun b => l.countP fun i => decide (bkt i = b)) 256
  | [] => by
    show 0 = dsum (fun _ => 0) 256
    decide +kernel
  | i :: l => by
    show 2 ^ (20 * bkt i) + lsum l = _
    rw [lsum_dsum l, ← dsum_one 256 (bkt_lt i), ← dsum_add]
    refine dsum_congr 256 fun b _ => ?_
    rw [List.countP_cons]
    by_cases e : bkt i = b
    · rw [if_pos e.symm, if_pos (decide_eq_true e)]
      omega
    · rw [if_neg (fun z => e z.symm), if_neg (by simpa using e)]
      omega
/-- in each stretch of 4,096 few are in one bucket -/
theorem bucket_few {c : Nat} (hc : c < 24) (b : Nat) : ((List.range' (c * 4096) 4096).countP fun i => decide (bkt i = b)) ≤ 24 := by
  by_cases hb : b < 256
  · have h := ok_all c hc
    unfold okH at h
    rw [frc_eq, hist_eq, lsum_dsum] at h
    have h2 : smallH (dsum (fun b => (List.range' (c * 4096) (2 ^ 12)).countP fun i => decide (bkt i = b)) 256) = true := by
      cases q : smallH (dsum (fun b => (List.range' (c * 4096) (2 ^ 12)).countP fun i => decide (bkt i = b)) 256) with
      | true => rfl
      | false =>
        rw [q] at h
        cases h
    have h3 := List.all_eq_true.mp h2 b (List.mem_range.mpr hb)
    have h4 := Nat.le_of_ble_eq_true h3
    rw [dsum_digit 256 b hb fun c' _ => Nat.lt_of_le_of_lt (List.countP_le_length) (by rw [List.length_range']; decide)] at h4
    exact h4
  · rw [List.countP_eq_zero.mpr fun i _ => by have := bkt_lt i; simp; omega]
    exact Nat.zero_le _
theorem bucket_all (b : Nat) : ∀ n, n ≤ 24 → ((List.range (n * 4096)).countP fun i => decide (bkt i = b)) ≤ 24 * n
  | 0, _ => Nat.le_refl _
  | n + 1, h => by
    have e : List.range ((n + 1) * 4096) = List.range (n * 4096) ++ List.range' (n * 4096) 4096 := by
      rw [List.range_eq_range', List.range_eq_range', show (n + 1) * 4096 = n * 4096 + 4096 by omega]
      have := List.range'_append_1 (s := 0) (m := n * 4096) (n := 4096)
      rw [Nat.zero_add] at this
      exact this.symm
    have a := bucket_all b n (by omega)
    have c := bucket_few (c := n) (by omega) b
    rw [e, List.countP_append]
    omega

/-! ### equal hashes -/
theorem mul_inj (p q : Nat) (h : p * q % 18446744073709551616 = 1) {a b : Nat} (ha : a < 18446744073709551616) (hb : b < 18446744073709551616) (e : a * p % 18446744073709551616 = b * p % 18446744073709551616) : a = b := by
  have key : ∀ x, x < 18446744073709551616 → x * p % 18446744073709551616 * q % 18446744073709551616 = x := fun x hx => by
    rw [Nat.mod_mul_mod, Nat.mul_assoc, Nat.mul_mod, h, Nat.mul_one, Nat.mod_mod, Nat.mod_eq_of_lt hx]
  rw [← key a ha, ← key b hb, e]
theorem rot_inj {a b : Nat} (ha : a < 18446744073709551616) (hb : b < 18446744073709551616) (e : a * 2147483648 % 18446744073709551616 + a / 8589934592 = b * 2147483648 % 18446744073709551616 + b / 8589934592) : a = b := by
  have key : ∀ x : Nat, x * 2147483648 % 18446744073709551616 = x % 8589934592 * 2147483648 := fun x => by
    rw [show (18446744073709551616 : Nat) = 8589934592 * 2147483648 from rfl, Nat.mul_mod_mul_right]
  rw [key, key] at e
  omega
theorem hst_lt (acc h : Nat) : hst acc h < 18446744073709551616 := Nat.mod_lt _ (by decide)
theorem hst_back {a a' g g' : Nat} (e : hst a g = hst a' g') : (a + g * 14029467366897019727) % 18446744073709551616 = (a' + g' * 14029467366897019727) % 18446744073709551616 := by
  have l1 := Nat.mod_lt (a + g * 14029467366897019727) (show 0 < 18446744073709551616 by decide)
  have l2 := Nat.mod_lt (a' + g' * 14029467366897019727) (show 0 < 18446744073709551616 by decide)
  refine rot_inj l1 l2 (mul_inj 11400714785074694791 614540362697595703 (by decide +kernel) ?_ ?_ e)
  · omega
  · omega
/-- the same third turn: the second turns' values lie near each other -/
theorem near {a a' g g' : Nat} (e : hst a g = hst a' g') : (a * 839798700976720815 % 18446744073709551616 + g) % 18446744073709551616 = (a' * 839798700976720815 % 18446744073709551616 + g') % 18446744073709551616 := by
  have h := hst_back e
  have key : ∀ x y : Nat, (x + y * 14029467366897019727) % 18446744073709551616 * 839798700976720815 % 18446744073709551616 = (x * 839798700976720815 % 18446744073709551616 + y) % 18446744073709551616 := fun x y => by
    rw [Nat.mod_mul_mod, Nat.add_mul, Nat.mul_assoc, Nat.add_mod, Nat.mul_mod y, show 14029467366897019727 * 839798700976720815 % 18446744073709551616 = 1 by decide +kernel, Nat.mul_one, Nat.mod_mod, ← Nat.add_mod_mod, Nat.mod_mod, Nat.add_mod_mod]
  rw [← key a g, ← key a' g', h]
end K23
/-! K23Few -/
set_option Elab.async false
set_option linter.all false
set_option maxRecDepth 100000
set_option maxHeartbeats 4000000
/-! Of the triples that come at most 4,500 share a hash; the two kinds of elements. -/
namespace K23
open PySem PySem.Spec PyProof.Rows L2
/-- the triples that come: node, letter, node -/
def UT (k : List Int) : Prop := ∃ n l g : Nat, k = [(n : Int), (l : Int), (g : Int)] ∧ n < 49152 ∧ l < 2 ∧ g < 49152
/-- the three turns -/
def x3 (k : List Int) : Nat := match k with
  | [n, l, g] => hst (hst (hst 2870177450012600261 n.toNat) l.toNat) g.toNat
  | _ => 0
def ix3 (k : List Int) : Nat := match k with
  | [n, l, _] => 2 * n.toNat + l.toNat
  | _ => 0
theorem same_x {l : List (List Int)} (nd : l.Nodup) (hU : ∀ k ∈ l, UT k) {X : Nat} (hX : ∀ k ∈ l, x3 k = X) : l.length ≤ 1152 := by
  cases l with
  | nil => exact Nat.zero_le _
  | cons k0 l0 =>
    obtain ⟨n0, l0', g0, e0, b0⟩ := hU k0 List.mem_cons_self
    have X0 := hX k0 List.mem_cons_self
    generalize hl : k0 :: l0 = l at *
    have dv : ∀ n a : Nat, a < 2 → (2 * n + a) / 2 = n ∧ (2 * n + a) % 2 = a := fun n a ha => by omega
    have xv : ∀ n a g : Nat, x3 [(n : Int), (a : Int), (g : Int)] = hst (hst (hst 2870177450012600261 n) a) g := fun n a g => rfl
    have yv : ∀ n a : Nat, a < 2 → yOf (2 * n + a) = hst (hst 2870177450012600261 n) a * 839798700976720815 % 18446744073709551616 := fun n a ha => by
      unfold yOf
      rw [(dv n a ha).1, (dv n a ha).2]
    -- all lie in a short window
    obtain ⟨B, hB⟩ : ∃ B, B = (yOf (2 * n0 + l0') + g0) % 18446744073709551616 := ⟨_, rfl⟩
    have win : ∀ n a g : Nat, a < 2 → x3 [(n : Int), (a : Int), (g : Int)] = X → (yOf (2 * n + a) + g) % 18446744073709551616 = B := fun n a g ha e => by
      rw [e0, xv] at X0
      rw [xv] at e
      rw [hB, yv n a ha, yv n0 l0' b0.2.1]
      exact near (e.trans X0.symm)
    have hyl : ∀ i, yOf i < 18446744073709551616 := fun i => Nat.mod_lt _ (by decide)
    let D : List Nat := ((List.range (24 * 4096)).filter fun i => decide (bkt i = B / 72057594037927936)) ++ (List.range (24 * 4096)).filter fun i => decide (bkt i = (B / 72057594037927936 + 255) % 256)
    have hD : D.length ≤ 1152 := by
      show (_ ++ _ : List Nat).length ≤ _
      rw [List.length_append, ← List.countP_eq_length_filter, ← List.countP_eq_length_filter]
      have a := bucket_all (B / 72057594037927936) 24 (Nat.le_refl _)
      have b := bucket_all ((B / 72057594037927936 + 255) % 256) 24 (Nat.le_refl _)
      omega
    have ni : (l.map ix3).Nodup := by
      refine List.pairwise_map.mpr (List.Pairwise.imp_of_mem (fun {k k'} hk hk' hne e => hne ?_) nd)
      obtain ⟨n, a, g, rfl, q1, q2, q3⟩ := hU k hk
      obtain ⟨n', a', g', rfl, r1, r2, r3⟩ := hU k' hk'
      have e' : 2 * n + a = 2 * n' + a' := e
      obtain rfl : n = n' := by omega
      obtain rfl : a = a' := by omega
      have w1 := win n a g q2 (hX _ hk)
      have w2 := win n a g' q2 (hX _ hk')
      have := hyl (2 * n + a)
      obtain rfl : g = g' := by omega
      rfl
    have := nat_nodup_len _ D ni fun x hx => by
      obtain ⟨k, hk, rfl⟩ := List.mem_map.mp hx
      obtain ⟨n, a, g, rfl, q1, q2, q3⟩ := hU k hk
      have w1 := win n a g q2 (hX _ hk)
      have yl := hyl (2 * n + a)
      have Bl : B < 18446744073709551616 := by rw [hB]; exact Nat.mod_lt _ (by decide)
      have ei : ix3 [(n : Int), (a : Int), (g : Int)] = 2 * n + a := rfl
      have eb : bkt (2 * n + a) = yOf (2 * n + a) / 72057594037927936 := rfl
      rw [ei]
      have mr : 2 * n + a ∈ List.range (24 * 4096) := List.mem_range.mpr (by omega)
      by_cases c : bkt (2 * n + a) = B / 72057594037927936
      · exact List.mem_append_left _ (List.mem_filter.mpr ⟨mr, decide_eq_true c⟩)
      · refine List.mem_append_right _ (List.mem_filter.mpr ⟨mr, decide_eq_true ?_⟩)
        rw [eb] at c ⊢
        generalize yOf (2 * n + a) = y at *
        omega
    rw [List.length_map] at this
    omega
section
variable {P : Program} {w : World}
theorem filter_two {α : Type} (p : α → Bool) : ∀ l : List α, (l.filter p).length + (l.filter fun k => !p k).length = l.length
  | [] => rfl
  | k :: l => by
    have ih := filter_two p l
    rw [List.filter_cons, List.filter_cons, List.length_cons]
    cases p k
    · show (l.filter p).length + ((l.filter fun k => !p k).length + 1) = _
      omega
    · show (l.filter p).length + 1 + (l.filter fun k => !p k).length = _
      omega
theorem hashInt_nat (n : Nat) (h : n < 2000000000) : hashInt (n : Int) = (n : Int) := by
  have hm : n % (2 ^ 61 - 1) = n := Nat.mod_eq_of_lt (by omega)
  have e : rawHash (n : Int) = (n : Int) := by
    unfold rawHash
    have : ¬ ((n : Int) < 0) := by omega
    have h2 : ((n : Int) == -1) = false := by
      rw [beq_eq_false_iff_ne]
      omega
    have h3 : ((n : Int) % 2305843009213693951) = (n : Int) := by omega
    have h4 : ¬ ((n : Int) = -1) := by omega
    simp [Int.natAbs_natCast, hm, this, h2, h3, h4]
  unfold hashInt
  rw [e, if_neg (by rw [beq_iff_eq]; omega)]
def hstM (acc h : Nat) : Nat := ((acc + h * 14029467366897019727) % 2 ^ 64 * 2 ^ 31 % 2 ^ 64 + (acc + h * 14029467366897019727) % 2 ^ 64 / 2 ^ 33) * 11400714785074694791 % 2 ^ 64
theorem hstM_eq (acc h : Nat) : hstM acc h = hst acc h := by
  unfold hstM hst
  simp only [Nat.reducePow]
/-- the end of a hash -/
def finH (x : Nat) : Int := if x == 2 ^ 64 - 1 then 1546275796 else if x < 2 ^ 63 then (x : Int) else (x : Int) - ((2 ^ 64 : Nat) : Int)
def cH : Nat := 3 ^^^ (2870177450012600261 ^^^ 3527539)
theorem hash_ofs (hs : List Int) : Builtin.Tuple.tupleHashOf hs = finH ((hs.foldl (fun acc h => hstM acc (h % ((2 ^ 64 : Nat) : Int)).toNat) 2870177450012600261 + (hs.length ^^^ (2870177450012600261 ^^^ 3527539))) % 2 ^ 64) := by
  unfold Builtin.Tuple.tupleHashOf finH hstM
  rfl
theorem len3 (a b c : Int) : [a, b, c].length = 3 := rfl
theorem hash_of3 (a b c : Int) : Builtin.Tuple.tupleHashOf [a, b, c] = finH ((hstM (hstM (hstM 2870177450012600261 (a % ((2 ^ 64 : Nat) : Int)).toNat) (b % ((2 ^ 64 : Nat) : Int)).toNat) (c % ((2 ^ 64 : Nat) : Int)).toNat + cH) % 2 ^ 64) := by
  rw [hash_ofs, len3, List.foldl_cons, List.foldl_cons, List.foldl_cons, List.foldl_nil, cH]
theorem hash_vals (n l g : Nat) (q1 : n < 49152) (q2 : l < 2) (q3 : g < 49152) : ([(n : Int), (l : Int), (g : Int)].map (intKind P w).hash) = [(n : Int), (l : Int), (g : Int)] := by
  have e : ([(n : Int), (l : Int), (g : Int)].map (intKind P w).hash) = [hashInt n, hashInt l, hashInt g] := rfl
  rw [e, hashInt_nat n (by omega), hashInt_nat l (by omega), hashInt_nat g (by omega)]
theorem mod64 (n : Nat) (hn : n < 49152) : ((n : Int) % ((2 ^ 64 : Nat) : Int)).toNat = n := by
  simp only [Nat.reducePow]
  omega
theorem x3_eq (n l g : Nat) : x3 [(n : Int), (l : Int), (g : Int)] = hst (hst (hst 2870177450012600261 n) l) g := by
  unfold x3
  dsimp only
  rw [Int.toNat_natCast, Int.toNat_natCast, Int.toNat_natCast]
theorem hash_of3n (n l g : Nat) (q1 : n < 49152) (q2 : l < 2) (q3 : g < 49152) : Builtin.Tuple.tupleHashOf [(n : Int), (l : Int), (g : Int)] = finH ((x3 [(n : Int), (l : Int), (g : Int)] + cH) % 2 ^ 64) := by
  rw [hash_of3, mod64 n q1, mod64 l (by omega), mod64 g q3, hstM_eq, hstM_eq, hstM_eq, x3_eq]
/-- the hash by its three turns -/
theorem thash3 {k : List Int} (h : UT k) : tupleKeyHash (intKind P w) k = reduceHash (finH ((x3 k + cH) % 2 ^ 64)) := by
  obtain ⟨n, l, g, rfl, q1, q2, q3⟩ := h
  have e : tupleKeyHash (intKind P w) [(n : Int), (l : Int), (g : Int)] = reduceHash (Builtin.Tuple.tupleHashOf ([(n : Int), (l : Int), (g : Int)].map (intKind P w).hash)) := rfl
  rw [e, hash_vals n l g q1 q2 q3, hash_of3n n l g q1 q2 q3]
theorem fin_red (u : Nat) (hu : u < 18446744073709551616) (hne : u ≠ 18446744073709551615) : reduceHash (finH u) = if u < 9223372036854775808 then (u : Int) else (u : Int) - 18446744073709551616 := by
  unfold finH reduceHash
  simp only [Nat.reducePow, Int.reducePow, Nat.reduceSub, Int.reduceNeg]
  rw [if_neg (show ¬ (u == 18446744073709551615) = true by rw [beq_iff_eq]; exact hne)]
  by_cases c : u < 9223372036854775808
  · simp only [if_pos c]
    rw [if_pos (by rw [Bool.and_eq_true, decide_eq_true_eq, decide_eq_true_eq]; omega), if_neg (by rw [beq_iff_eq]; omega)]
  · simp only [if_neg c]
    rw [if_pos (by rw [Bool.and_eq_true, decide_eq_true_eq, decide_eq_true_eq]; omega), if_neg (by rw [beq_iff_eq]; omega)]
    omega
theorem fewT (l : List (List Int)) (z : Int) (nd : l.Nodup) (h : ∀ k ∈ l, UT k ∧ tupleKeyHash (intKind P w) k = z) : l.length ≤ 4500 := by
  classical
  let c : Nat := cH
  let A : List Int → Nat := fun k => (x3 k + c) % 18446744073709551616
  have Al : ∀ k, A k < 18446744073709551616 := fun k => Nat.mod_lt _ (by decide)
  have xl : ∀ k, UT k → x3 k < 18446744073709551616 := fun k hk => by
    obtain ⟨n, a, g, rfl, _⟩ := hk
    exact hst_lt _ _
  have same : ∀ m : List (List Int), m.Nodup → (∀ k ∈ m, UT k) → (∀ k ∈ m, ∀ k' ∈ m, A k = A k') → m.length ≤ 1152 := by
    intro m nm um hm
    cases m with
    | nil => exact Nat.zero_le _
    | cons k0 m0 =>
      refine same_x nm um (X := x3 k0) fun k hk => ?_
      have e := hm k hk k0 List.mem_cons_self
      have a := xl k (um k hk)
      have b := xl k0 (um k0 List.mem_cons_self)
      have e' : (x3 k + c) % 18446744073709551616 = (x3 k0 + c) % 18446744073709551616 := e
      have hc : c < 18446744073709551616 := by decide +kernel
      generalize c = d at *
      generalize x3 k = u at *
      generalize x3 k0 = v at *
      omega
  have p1 := same (l.filter fun k => decide (A k = 18446744073709551615)) (nd.filter _) (fun k hk => (h k (List.mem_filter.mp hk).1).1) fun k hk k' hk' => by
    rw [of_decide_eq_true (List.mem_filter.mp hk).2, of_decide_eq_true (List.mem_filter.mp hk').2]
  have p2 := same (l.filter fun k => !decide (A k = 18446744073709551615)) (nd.filter _) (fun k hk => (h k (List.mem_filter.mp hk).1).1) fun k hk k' hk' => by
    obtain ⟨m1, d1⟩ := List.mem_filter.mp hk
    obtain ⟨m2, d2⟩ := List.mem_filter.mp hk'
    have n1 : A k ≠ 18446744073709551615 := by simpa using d1
    have n2 : A k' ≠ 18446744073709551615 := by simpa using d2
    have e1 := (h k m1).2
    have e2 := (h k' m2).2
    rw [thash3 (h k m1).1] at e1
    rw [thash3 (h k' m2).1] at e2
    have e1' := (fin_red (A k) (Al k) n1).symm.trans e1
    have e2' := (fin_red (A k') (Al k') n2).symm.trans e2
    have a := Al k
    have b := Al k'
    have q := e1'.trans e2'.symm
    split at q <;> split at q <;> omega
  have tot := filter_two (fun k => decide (A k = 18446744073709551615)) l
  omega
end
end K23
/-! K23Kinds -/
set_option Elab.async false
set_option linter.all false
set_option maxRecDepth 100000
set_option maxHeartbeats 4000000
/-! The two kinds of elements (triples, small ints); set(..), sorted(..) as rules of the layer. -/
namespace K23
open PySem PySem.Spec PySem.W PyProof.Rows L2
section
variable {P : Program} {w : World}
/-- triples of small numbers -/
def kT (P : Program) (w : World) : EKind P w (List Int) where
  is := fun h k v => ∃ b, v = .ref b ∧ IsT P w h k b
  hash := tupleKeyHash (intKind P w)
  U := UT
  sc := false
  few := fewT
  scn := by
    rintro h k v ⟨b, rfl, _⟩
    rfl
  nostr := by
    rintro h k v ⟨b, rfl, _⟩ z t e
    cases e
  inj := by
    rintro h k k' v ⟨b, rfl, x⟩ ⟨b', e, y⟩
    cases e
    exact x.inj y
  keep := by
    rintro h h' k v ⟨b, rfl, o, items, n, ho, hc, hd, hi⟩ kp
    exact ⟨b, rfl, o, items, n, kp b o ho (fun es ep t e => by rw [hd] at e; cases e), hc, hd, hi⟩
  eqB := by
    rintro A E s Q k k' v v' hu ⟨b, rfl, x⟩ ⟨b', rfl, y⟩ hQ
    exact wpAny_eqBool_tuple hu x y (hQ _ decide_eq_true_iff)
  same := by
    rintro A E s Q k k' v ⟨b, rfl, x⟩ _ _ _ _ q
    exact wpAny_isSame_ref_self q
  seen := by
    rintro A E s Q k v ys ⟨b, rfl, x⟩ hy q
    exact seen_tup x (fun y hm => by
      obtain ⟨k', c, e, z⟩ := hy y hm
      exact ⟨k', c, e, z⟩) q
  byv := by
    rintro A E s Q k v ⟨b, rfl, x⟩ q
    exact hashBy_tup x q
  pyh := by
    rintro A E s Q k v hu ⟨b, rfl, x⟩ q
    exact wpAny_pyHash_tuple hu x (q _ (Nat.le_add_right _ _))
theorem seen_int {A : Around} {E : Value → Shared → Prop} {s : Shared} {Q : Bool → Shared → Prop} {k : Int} {t : Tok} : ∀ (ys : List Value), (∀ y ∈ ys, ∃ j u, y = Value.int j u) → Q false s → wpAny (model P w) A (searchCouldBeSeen (.int k t) ys) Q E s := by
  intro ys hy h
  unfold searchCouldBeSeen
  refine wpAny_bind ?_
  refine wpAny_forIn_list _ (fun rest r s' => r.1 = none ∧ s' = s ∧ ∀ y ∈ rest, ∃ j u, y = Value.int j u) _ ?_ ?_ _ _ ⟨rfl, rfl, hy⟩
  · rintro v rest r s' ⟨hr, rfl, hall⟩
    obtain ⟨j, u, rfl⟩ := hall v List.mem_cons_self
    refine wp_if_pos (by rfl) ?_
    exact wpAny_pure ⟨rfl, rfl, fun z hz => hall z (List.mem_cons_of_mem _ hz)⟩
  · rintro ⟨r1, r2⟩ s' ⟨hr, rfl, _⟩
    simp only at hr
    subst hr
    exact wpAny_pure h
def UI (k : Int) : Prop := ∃ n : Nat, k = n ∧ n < 2000000000
theorem UI.hash {k : Int} (h : UI k) : hashInt k = k := by
  obtain ⟨n, rfl, hn⟩ := h
  exact hashInt_nat n hn
/-- small numbers -/
def kI (P : Program) (w : World) : EKind P w Int where
  is := fun _ k v => ∃ t, v = .int k t
  hash := hashInt
  U := UI
  sc := true
  few := fun l z nd h => by
    match l, nd, h with
    | [], _, _ => exact Nat.zero_le _
    | [_], _, _ => exact (by decide : 1 ≤ 4500)
    | a :: b :: r, nd, h =>
      exfalso
      obtain ⟨ua, ha⟩ := h a List.mem_cons_self
      obtain ⟨ub, hb⟩ := h b (List.mem_cons_of_mem _ List.mem_cons_self)
      have : a = b := by rw [← ua.hash, ← ub.hash, ha, hb]
      exact (List.nodup_cons.mp nd).1 (this ▸ List.mem_cons_self)
  scn := by
    rintro h k v ⟨t, rfl⟩
    rfl
  nostr := by
    rintro h k v ⟨t, rfl⟩ z u e
    cases e
  inj := by
    rintro h k k' v ⟨t, rfl⟩ ⟨u, e⟩
    cases e
    rfl
  keep := fun x _ => x
  eqB := by
    rintro A E s Q k k' v v' hu ⟨t, rfl⟩ ⟨u, rfl⟩ hQ
    exact wpAny_eqBool_int (hQ _ beq_iff_eq)
  same := by
    rintro A E s Q k k' v ⟨t, rfl⟩ u u' e ne _
    exact absurd (by rw [← u.hash, ← u'.hash]; exact e) ne
  seen := by
    rintro A E s Q k v ys ⟨t, rfl⟩ hy q
    exact seen_int ys (fun y hm => by
      obtain ⟨k', u, e⟩ := hy y hm
      exact ⟨k', u, e⟩) q
  byv := by
    rintro A E s Q k v ⟨t, rfl⟩ q
    rw [hashByValue_scannable 8 rfl]
    exact wpAny_pure q
  pyh := by
    rintro A E s Q k v hu ⟨t, rfl⟩ q
    exact wpAny_pyHash_int (q _ (Nat.le_succ _))

/-- a set, but for its elements' own objects -/
structure SetG0 {κ : Type} (K : EKind P w κ) (h : Heap) (a : Addr) (L : List (Value × κ)) : Prop where
  ex : ∃ (es : Array (Int × Value)) (ep : Nat) (t : SetTable), (∃ o, h.get? a = some o ∧ o.ExactSet ∧ o.data = .set es ep t) ∧ es.toList = rowsG K L ∧ TabG t (hashesG K L) ∧ (L.map (·.2)).Nodup ∧ (∀ p ∈ L, K.U p.2) ∧ t.plain = true ∧
    (w.params.followText "set-order" = true ∨ t.led = true) ∧ L.length * 5 < t.mask * 3
theorem SetG.g0 {κ : Type} {K : EKind P w κ} {h : Heap} {a : Addr} {L : List (Value × κ)} {es : Array (Int × Value)} {ep : Nat} {t : SetTable} (R : SetG K h a L es ep t) : SetG0 K h a L :=
  ⟨es, ep, t, R.ob, R.rows, R.tab, R.nd, R.us, R.plain, R.led, R.room⟩
theorem SetG0.full {κ : Type} {K : EKind P w κ} {h : Heap} {a : Addr} {L : List (Value × κ)} (R : SetG0 K h a L) (he : ∀ p ∈ L, K.is h p.2 p.1) : ∃ es ep t, SetG K h a L es ep t := by
  obtain ⟨es, ep, t, h1, h2, h3, h4, h5, h6, h7, h8⟩ := R.ex
  exact ⟨es, ep, t, h1, h2, h3, h4, he, h5, h6, h7, h8⟩
/-- the set at a, as an object of the abstract heap -/
def SetGO {κ : Type} (K : EKind P w κ) (a : Addr) (L : List (Value × κ)) : HO := .ext fun h => SetG0 K h a L
theorem setGO_new {κ : Type} {K : EKind P w κ} {H : Hp} {h : Heap} {a : Addr} {L : List (Value × κ)} (R : SetG0 K h a L) : ObjOk P w H h a (SetGO K a L) := by
  have ⟨es, ep, t, ⟨o, ho, r⟩, q⟩ := R.ex
  refine ⟨R, ⟨o, ho⟩, fun h1 h2 p k => ?_⟩
  have ⟨es', ep', t', ⟨o', ho', r'⟩, q'⟩ := SetG0.ex p
  exact ⟨es', ep', t', ⟨o', k o' ho', r'⟩, q'⟩
theorem dataLe_tups {β : Type} (x : β → List Int) : dataLe false (fun b => .tuple ((x b).map .int)) = fun p q => decide (x p ≤ x q) := by
  funext p q
  have e : dataLe false (fun b => .tuple ((x b).map .int)) p q = !dataLt (.tuple ((x q).map .int)) (.tuple ((x p).map .int)) := rfl
  rw [e, dataLt_tuple]
  show (!rowLt ((x q).map .int) ((x p).map .int)) = _
  rw [dataLt_ints]
  by_cases c : x q < x p
  · simp [c, fun r => List.not_lt.mpr r c]
  · simp [c, List.not_lt.mp c]
end
end K23
/-! K23Rules -/
set_option Elab.async false
set_option linter.all false
set_option maxRecDepth 100000
set_option maxHeartbeats 4000000
/-! set(..), sorted(..) as rules of the layer. -/
namespace K23
open PySem PySem.Spec PySem.W PyProof.Rows L2
theorem perm_back {α β : Type} (f : α → β) {l m : List β} (h : l.Perm m) : ∀ L : List α, m = L.map f → ∃ L' : List α, L'.Perm L ∧ L'.map f = l := by
  induction h with
  | nil =>
    intro L e
    have : L = [] := by simpa using e.symm
    subst this
    exact ⟨[], .refl _, rfl⟩
  | @cons x l m _ ih =>
    intro L e
    cases L with
    | nil => cases e
    | cons b L0 =>
      rw [List.map_cons] at e
      injection e with e1 e2
      obtain ⟨L', p, q⟩ := ih L0 e2
      exact ⟨b :: L', p.cons b, by rw [List.map_cons, q, e1]⟩
  | swap x y l =>
    intro L e
    cases L with
    | nil => cases e
    | cons b L0 =>
      cases L0 with
      | nil => cases e
      | cons c L1 =>
        rw [List.map_cons, List.map_cons] at e
        injection e with e1 e2
        injection e2 with e2 e3
        exact ⟨c :: b :: L1, .swap _ _ _, by rw [List.map_cons, List.map_cons, ← e1, ← e2, ← e3]⟩
  | trans _ _ ih1 ih2 =>
    intro L e
    obtain ⟨L2, p2, q2⟩ := ih2 L e
    obtain ⟨L1, p1, q1⟩ := ih1 L2 q2.symm
    exact ⟨L1, p1.trans p2, q1⟩
theorem each_of_map {α β : Type} {R : α → β → Prop} (f : β → α) : ∀ (bs : List β), (∀ b ∈ bs, R (f b) b) → EachIs R (bs.map f) bs
  | [], _ => .nil
  | b :: bs, h => .cons (h b List.mem_cons_self) (each_of_map f bs fun c hc => h c (List.mem_cons_of_mem _ hc))
theorem each_eq {α β : Type} {f : β → α} : ∀ {as : List α} {bs : List β}, EachIs (fun a b => a = f b) as bs → as = bs.map f
  | _, _, .nil => rfl
  | _, _, .cons h t => by rw [h, each_eq t]; rfl
section
variable {P : Program} {w : World} {h : Heap}
theorem reads_ints : ∀ {k : List Int} {vs : List Value}, ItemsAre (intKind P w) k vs → ReadsAll h vs (k.map .int) []
  | _, _, .nil => .nil
  | _, _, .cons h1 t => by
    obtain ⟨u, rfl⟩ := Value.isInt_shape h1
    exact .cons (.int _ _) (reads_ints t)
theorem reads_tup {k : List Int} {b : Addr} (x : IsT P w h k b) : Reads h (.ref b) (.tuple (k.map .int)) [] := by
  obtain ⟨o, items, n, ho, hc, hd, hi⟩ := x
  exact .tuple ho hc hd (reads_ints hi)
theorem depth_tup (k : List Int) : (PyData.tuple (k.map .int)).depth ≤ 1 := by
  have : PyData.depthAll (k.map .int) = 0 := depth_ints k
  show PyData.depth (.tuple (k.map .int)) ≤ 1
  unfold PyData.depth
  omega
end

section
variable {X : Cx}
/-- a new list, laid behind what was there -/
theorem new_list {pins : List (Addr × Obj)} {σ : L2.St} {H : Hp} {s s' : Shared} {Q : VK} {xs : List V} {out : Array Value} {p : Addr} {c : Nat} (I : Inv X pins σ H s) (x : Ext1 s s') (hp : s.heap.objs.size ≤ p) (hg : s'.heap.get? p = some (seqObj "list" out c))
    (hv : Vals xs out.toList) (hl : xs.length ≤ sizeLine) (q : ∀ p, H p = none → Q (.ref p) (upd H p (.lst xs))) : EP X pins σ Q (.ref p) s' := by
  have hn : H p = none := I.hok.fresh hp
  have J : Inv X pins σ (upd H p (.lst xs)) { s with heap := s'.heap, gens := s'.gens, drawn := s'.drawn, toks := s'.toks } :=
    I.call (ch := []) (Un.laid x.kept hp hn) (I.hok.laid x.kept hp ⟨hl, out.toList, c, hv, hg⟩) (by rw [x.gens]; exact I.bare) (fun _ z => nomatch z)
  have e : s' = { s with heap := s'.heap, gens := s'.gens, drawn := s'.drawn, toks := s'.toks } := by
    have o := x.os
    cases s'
    cases s
    cases o
    rfl
  rw [e]
  exact ⟨.ref p, _, J, rfl, q p hn⟩
abbrev setT (P : Program) (w : World) (a : Addr) (L : List (Addr × List Int)) : HO := SetGO (kT P w) a (L.map fun p => (.ref p.1, p.2))
/-- a list or a tuple -/
def SqA (K : PySem.W.Frag) (H : Hp) (l : Addr) (xs : List V) : Prop := SqL K H l xs ∨ SqT K H l xs
/-- set(xs) of triples -/
def rSetT (K : PySem.W.Frag) (P : Program) (w : World) : List V → Hp → VK → Prop := fun xs H Q => ∃ (l : Addr) (ks : List (Addr × List Int)), xs = [V.ref l] ∧ SqA K H l (ks.map fun p => V.ref p.1) ∧ (∀ p ∈ ks, SqT K H p.1 (p.2.map V.int)) ∧ (∀ p ∈ ks, UT p.2) ∧ ks.length < 8388607 ∧
  ∀ a L, H a = none → (∀ p ∈ L, p ∈ ks) → (∀ p ∈ ks, p.2 ∈ L.map (·.2)) → (L.map (·.2)).Nodup → Q (.ref a) (upd H a (setT P w a L))
theorem cr_setT (hc : X.calm = true) (hu : X.A.units + 64 < cLine) : CallR X (.type "set") (rSetT X.K X.prog X.w) := by
  intro pins s σ H xs us Q I r h
  obtain ⟨l, ks, rfl, hl, hk, hU, hf, q⟩ := h
  rw [Vals.ref1 r]
  have hn : H s.heap.objs.size = none := I.hok.fresh (Nat.le_refl _)
  let ks' : List (Value × List Int) := ks.map fun p => (Value.ref p.1, p.2)
  have len' : ks'.length = ks.length := List.length_map _
  have el' : ∀ p ∈ ks', (kT X.prog X.w).is s.heap p.2 p.1 := fun p hp => by
    obtain ⟨z, hz, rfl⟩ := List.mem_map.mp hp
    exact ⟨z.1, rfl, I.isT (hk z hz)⟩
  have us' : ∀ p ∈ ks', (kT X.prog X.w).U p.2 := fun p hp => by
    obtain ⟨z, hz, rfl⟩ := List.mem_map.mp hp
    exact hU z hz
  have fin : ∀ (h' : Heap) (tk : Nat) L es ep t, SetG (kT X.prog X.w) h' s.heap.objs.size L es ep t → GotG ks' ks'.length L → (∀ b o, s.heap.get? b = some o → h'.get? b = some o) → EP X pins σ Q (.ref s.heap.objs.size) { s with heap := h', toks := tk } := by
    intro h' tk L es ep t R g k
    have sub : ∀ p ∈ L, p ∈ ks' := fun p hp => by
      have := g.sub p hp
      rwa [List.take_length] at this
    obtain ⟨L0, e0, m0⟩ : ∃ L0 : List (Addr × List Int), L0.map (fun p => (Value.ref p.1, p.2)) = L ∧ ∀ p ∈ L0, p ∈ ks := by
      clear g R
      induction L with
      | nil => exact ⟨[], rfl, fun p hp => nomatch hp⟩
      | cons p L ih =>
        obtain ⟨L0, e, m⟩ := ih fun z hz => sub z (List.mem_cons_of_mem _ hz)
        obtain ⟨z, hz, ez⟩ := List.mem_map.mp (sub p List.mem_cons_self)
        exact ⟨z :: L0, by rw [List.map_cons, e, ez], fun y hy => by
          rcases List.mem_cons.mp hy with rfl | hy
          · exact hz
          · exact m y hy⟩
    subst e0
    have em : ∀ M : List (Addr × List Int), (M.map fun p => (Value.ref p.1, p.2)).map (·.2) = M.map (·.2) := fun M => by rw [List.map_map]; rfl
    refine ⟨.ref s.heap.objs.size, _, I.laid (t' := tk) k (Nat.le_refl _) (setGO_new R.g0), rfl, q _ L0 hn m0 (fun p hp => ?_) ?_⟩
    · have := g.all (Value.ref p.1, p.2) (by rw [List.take_length]; exact List.mem_map.mpr ⟨p, hp, rfl⟩)
      rwa [em] at this
    · have := R.nd
      rwa [em] at this
  rcases hl with hl | hl
  · obtain ⟨its, rv, pl, hz⟩ := I.list hl
    exact set_of_list ks' (I.ok.hd hc) pl.isList (by rw [show its.toArray.toList = its by simp, refs_of_vals rv, List.map_map]; rfl) el' us' (by rw [len']; exact hf) (by omega) fin
  · obtain ⟨its, rv, pl, hz⟩ := I.tuple hl
    exact set_of_tuple ks' (I.ok.hd hc) pl (by rw [show its.toArray.toList = its by simp, refs_of_vals rv, List.map_map]; rfl) el' us' (by rw [len']; exact hf) (by omega) fin
/-- sorted(set) of triples -/
def rSortST (K : PySem.W.Frag) (P : Program) (w : World) : List V → Hp → VK → Prop := fun vs H Q => ∃ (a : Addr) (L : List (Addr × List Int)), vs = [V.ref a] ∧ H a = some (setT P w a L) ∧ (∀ p ∈ L, SqT K H p.1 (p.2.map V.int)) ∧ (∀ p ∈ L, UT p.2) ∧ L.length ≤ 8388607 ∧
  ∀ (L' : List (Addr × List Int)) (p : Addr), L'.Perm L → (L'.map (·.2)).Pairwise (· ≤ ·) → H p = none → Q (.ref p) (upd H p (.lst (L'.map fun q => V.ref q.1)))
theorem ut_shape {k : List Int} (h : UT k) : ∃ n l g : Int, k = [n, l, g] := by
  obtain ⟨n, l, g, rfl, _⟩ := h
  exact ⟨_, _, _, rfl⟩
theorem alike3 {β : Type} {f : β → List Int} {B : List β} (h : ∀ b ∈ B, UT (f b)) : AllAlike (B.map fun b => PyData.tuple ((f b).map .int)) ∧ Sortable (B.map fun b => PyData.tuple ((f b).map .int)) := by
  refine ⟨fun d hd d' hd' => ?_, .inl fun d hd => ?_⟩
  · obtain ⟨b, hb, rfl⟩ := List.mem_map.mp hd
    obtain ⟨b', hb', rfl⟩ := List.mem_map.mp hd'
    obtain ⟨n, l, g, e⟩ := ut_shape (h b hb)
    obtain ⟨n', l', g', e'⟩ := ut_shape (h b' hb')
    rw [e, e']
    simp [alike, alikeAll]
  · obtain ⟨b, hb, rfl⟩ := List.mem_map.mp hd
    obtain ⟨n, l, g, e⟩ := ut_shape (h b hb)
    rw [e]
    exact ⟨_, _, rfl⟩
theorem le_line {n : Nat} (h : n ≤ 8388607) : n ≤ sizeLine := by
  rw [sizeLine_eq]
  omega
/-- the sorted list's pairs -/
theorem sorted_pairs {out : Array Value} {bs : List (Addr × List Int)} (e : EachIs (fun v (b : Addr × List Int) => v = Value.ref b.1) out.toList bs) : Vals (bs.map fun q => V.ref q.1) out.toList := by
  rw [each_eq (f := fun b : Addr × List Int => Value.ref b.1) e]
  exact vals_of_refs bs
theorem pairwise_tups {bs : List (Addr × List Int)} (h : bs.Pairwise fun b b' => dataLe false (fun b : Addr × List Int => PyData.tuple (b.2.map .int)) b b' = true) : (bs.map (·.2)).Pairwise (· ≤ ·) := by
  rw [List.pairwise_map]
  refine h.imp fun {a b} q => ?_
  rw [dataLe_tups] at q
  exact of_decide_eq_true q
theorem cr_sortST (hc : X.calm = true) (hu : X.A.units + 64 < cLine) : CallR X (.builtin "sorted") (rSortST X.K X.prog X.w) := by
  intro pins s σ H vs us Q I r h
  obtain ⟨a, L, rfl, ha, hk, hU, hlen, q⟩ := h
  rw [Vals.ref1 r]
  have R0 : SetG0 (kT X.prog X.w) s.heap a _ := (I.hok a _ ha).1
  have isT : ∀ p ∈ L, IsT X.prog X.w s.heap p.2 p.1 := fun p hp => I.isT (hk p hp)
  obtain ⟨es, ep, t, R⟩ := R0.full fun p hp => by
    obtain ⟨z, hz, rfl⟩ := List.mem_map.mp hp
    exact ⟨z.1, rfl, isT z hz⟩
  obtain ⟨o, ho, hex, hd⟩ := R.ob
  have hsz : es.size = L.length := R.size.trans (List.length_map _)
  obtain ⟨al, so⟩ := alike3 (f := fun b : Addr × List Int => b.2) hU
  refine sortedBy (R := fun v (b : Addr × List Int) => v = Value.ref b.1) (enc := fun b => .tuple (b.2.map .int)) (B := L) (fun Q' hq => ?_) al so (le_line hlen) (fun b hb => by have := depth_tup b.2; omega) fun s' p out c bs' x hp hg e pm pw => ?_
  · refine collectP (A := X.A.in1) (by show X.A.handled = none; exact I.ok.hd hc) ⟨o, ho, hex.1, hd⟩ R.fits R.plain (by rw [hsz]; exact le_line hlen) R.tab.up R.led fun s1 out x pm => ?_
    have e2 : es.toList.map (·.2) = L.map fun p => Value.ref p.1 := by
      rw [R.rows]
      unfold rowsG
      rw [List.map_map, List.map_map]
      rfl
    rw [e2] at pm
    obtain ⟨bs, pb, eb⟩ := perm_back (fun p : Addr × List Int => Value.ref p.1) pm L rfl
    subst eb
    exact hq s1 _ bs x (each_of_map _ bs fun b _ => rfl) (each_of_map _ bs fun b hb => PyProof.Rows.Reads.keeps x.kept (reads_tup (isT b (pb.mem_iff.mp hb)))) pb
  · exact new_list I x hp hg (sorted_pairs e) (by rw [List.length_map, pm.length_eq]; exact le_line hlen) fun p hn => q bs' p pm (pairwise_tups pw) hn
/-- sorted(xs), a list or tuple of triples -/
def rSortT (K : PySem.W.Frag) : List V → Hp → VK → Prop := fun vs H Q => ∃ (a : Addr) (L : List (Addr × List Int)), vs = [V.ref a] ∧ SqA K H a (L.map fun p => V.ref p.1) ∧ (∀ p ∈ L, SqT K H p.1 (p.2.map V.int)) ∧ (∀ p ∈ L, UT p.2) ∧ L.length ≤ 8388607 ∧
  ∀ (L' : List (Addr × List Int)) (p : Addr), L'.Perm L → (L'.map (·.2)).Pairwise (· ≤ ·) → H p = none → Q (.ref p) (upd H p (.lst (L'.map fun q => V.ref q.1)))
theorem cr_sortT2 (hu : X.A.units + 64 < cLine) : CallR X (.builtin "sorted") (rSortT X.K) := by
  intro pins s σ H vs us Q I r h
  obtain ⟨a, L, rfl, ha, hk, hU, hlen, q⟩ := h
  rw [Vals.ref1 r]
  have isT : ∀ p ∈ L, IsT X.prog X.w s.heap p.2 p.1 := fun p hp => I.isT (hk p hp)
  obtain ⟨al, so⟩ := alike3 (f := fun b : Addr × List Int => b.2) hU
  refine sortedBy (R := fun v (b : Addr × List Int) => v = Value.ref b.1) (enc := fun b => .tuple (b.2.map .int)) (B := L) (fun Q' hq => ?_) al so (le_line hlen) (fun b hb => by have := depth_tup b.2; omega) fun s' p out c bs' x hp hg e pm pw => ?_
  · have fin : ∀ its : List Value, Vals (L.map fun p => V.ref p.1) its → Q' its { s with heap := (s.heap.push (seqObj "list" #[] 0)).update s.heap.objs.size (Obj.mapSeq (· ++ its.toArray)) } := fun its rv => by
      have x := ext_copy s its
      have e := refs_of_vals rv
      subst e
      exact hq _ _ L x (each_of_map _ L fun b _ => rfl) (each_of_map _ L fun b hb => PyProof.Rows.Reads.keeps x.kept (reads_tup (isT b hb))) (.refl _)
    rcases ha with ha | ha
    · obtain ⟨its, rv, pl, hz⟩ := I.list ha
      exact collect_list pl.isList (fin its rv) (by rw [← rv.length, List.length_map]; exact le_line hlen)
    · obtain ⟨its, rv, pl, hz⟩ := I.tuple ha
      exact collectT pl (by rw [← rv.length, List.length_map]; exact le_line hlen) (fin its rv)
  · exact new_list I x hp hg (sorted_pairs e) (by rw [List.length_map, pm.length_eq]; exact le_line hlen) fun p hn => q bs' p pm (pairwise_tups pw) hn

/-! ### ints -/
theorem vals_ints_of : ∀ {ns : List Int} {us : List Value}, Vals (ns.map V.int) us → ∃ L : List (Value × Int), L.map (·.1) = us ∧ L.map (·.2) = ns ∧ ∀ p ∈ L, ∃ t, p.1 = .int p.2 t
  | [], _, .nil => ⟨[], rfl, rfl, fun p hp => nomatch hp⟩
  | n :: ns, _, .cons r t => by
    obtain ⟨u, rfl⟩ := r
    obtain ⟨L, a, b, c⟩ := vals_ints_of t
    exact ⟨(.int n u, n) :: L, by rw [List.map_cons, a], by rw [List.map_cons, b], fun p hp => by
      rcases List.mem_cons.mp hp with rfl | hp
      · exact ⟨u, rfl⟩
      · exact c p hp⟩
theorem ints_vals : ∀ {L : List (Value × Int)}, (∀ p ∈ L, ∃ t, p.1 = .int p.2 t) → Vals ((L.map (·.2)).map V.int) (L.map (·.1))
  | [], _ => .nil
  | p :: L, h => .cons (h p List.mem_cons_self) (ints_vals fun q hq => h q (List.mem_cons_of_mem _ hq))
/-- a set of ints, its members -/
def SetI (P : Program) (w : World) (a : Addr) (H : Hp) (ns : List Int) : Prop := ∃ L : List (Value × Int), H a = some (SetGO (kI P w) a L) ∧ (∀ p ∈ L, ∃ t, p.1 = .int p.2 t) ∧ L.map (·.2) = ns
def rSetI (K : PySem.W.Frag) (P : Program) (w : World) : List V → Hp → VK → Prop := fun xs H Q => ∃ (l : Addr) (ks : List Int), xs = [V.ref l] ∧ SqA K H l (ks.map V.int) ∧ (∀ k ∈ ks, UI k) ∧ ks.length < 8388607 ∧
  ∀ a H' ns, H a = none → Same H H' → SetI P w a H' ns → (∀ n, n ∈ ns ↔ n ∈ ks) → ns.Nodup → ns.length ≤ ks.length → Q (.ref a) H'
theorem cr_setI (hc : X.calm = true) (hu : X.A.units + 64 < cLine) : CallR X (.type "set") (rSetI X.K X.prog X.w) := by
  intro pins s σ H xs us Q I r h
  obtain ⟨l, ks, rfl, hl, hU, hf, q⟩ := h
  rw [Vals.ref1 r]
  have hn : H s.heap.objs.size = none := I.hok.fresh (Nat.le_refl _)
  have go : ∀ its : List Value, Vals (ks.map V.int) its → ∃ ks' : List (Value × Int), its = ks'.map (fun p => p.1) ∧ ks'.length = ks.length ∧ (∀ p ∈ ks', (kI X.prog X.w).is s.heap p.2 p.1) ∧ (∀ p ∈ ks', (kI X.prog X.w).U p.2) ∧
      ∀ (h' : Heap) (tk : Nat) L es ep t, SetG (kI X.prog X.w) h' s.heap.objs.size L es ep t → GotG ks' ks'.length L → (∀ b o, s.heap.get? b = some o → h'.get? b = some o) → EP X pins σ Q (.ref s.heap.objs.size) { s with heap := h', toks := tk } := by
    intro its rv
    obtain ⟨ks', e1, e2, e3⟩ := vals_ints_of rv
    refine ⟨ks', e1.symm, by rw [← List.length_map (·.2), e2], fun p hp => e3 p hp, fun p hp => hU _ (by rw [← e2]; exact List.mem_map.mpr ⟨p, hp, rfl⟩), fun h' tk L es ep t R g k => ?_⟩
    have sub : ∀ p ∈ L, p ∈ ks' := fun p hp => by
      have := g.sub p hp
      rwa [List.take_length] at this
    refine ⟨.ref s.heap.objs.size, _, I.laid (t' := tk) k (Nat.le_refl _) (setGO_new R.g0), rfl, q _ _ (L.map (·.2)) hn (fun b o z => ?_) ⟨L, upd_same, fun p hp => e3 p (sub p hp), rfl⟩ (fun n => ⟨fun m => ?_, fun m => ?_⟩) R.nd ?_⟩
    · rw [upd_ne (ne_of_none z hn)]
      exact z
    · obtain ⟨p, hp, rfl⟩ := List.mem_map.mp m
      rw [← e2]
      exact List.mem_map.mpr ⟨p, sub p hp, rfl⟩
    · rw [← e2] at m
      obtain ⟨p, hp, rfl⟩ := List.mem_map.mp m
      exact g.all p (by rw [List.take_length]; exact hp)
    · rw [List.length_map, ← e2, List.length_map]
      exact g.len
  rcases hl with hl | hl
  · obtain ⟨its, rv, pl, hz⟩ := I.list hl
    obtain ⟨ks', e, el, ei, eu, fin⟩ := go its rv
    exact set_of_list ks' (I.ok.hd hc) pl.isList (by rw [show its.toArray.toList = its by simp, e]) ei eu (by rw [el]; exact hf) (by omega) fin
  · obtain ⟨its, rv, pl, hz⟩ := I.tuple hl
    obtain ⟨ks', e, el, ei, eu, fin⟩ := go its rv
    exact set_of_tuple ks' (I.ok.hd hc) pl (by rw [show its.toArray.toList = its by simp, e]) ei eu (by rw [el]; exact hf) (by omega) fin
theorem alikeI {B : List (Value × Int)} : AllAlike (B.map fun b => PyData.int b.2) ∧ Sortable (B.map fun b => PyData.int b.2) := by
  refine ⟨fun d hd d' hd' => ?_, .inr fun d hd => ?_⟩
  · obtain ⟨b, hb, rfl⟩ := List.mem_map.mp hd
    obtain ⟨b', hb', rfl⟩ := List.mem_map.mp hd'
    simp [alike]
  · obtain ⟨b, hb, rfl⟩ := List.mem_map.mp hd
    exact ⟨PyData.noConfusion, fun _ => PyData.noConfusion⟩
theorem pairwise_ints {bs : List (Value × Int)} (h : bs.Pairwise fun b b' => dataLe false (fun b : Value × Int => PyData.int b.2) b b' = true) : (bs.map (·.2)).Pairwise (· ≤ ·) := by
  rw [List.pairwise_map]
  refine h.imp fun {a b} q => ?_
  rw [dataLe_int] at q
  exact of_decide_eq_true q
/-- the rest of sorted, ints -/
theorem sort_ints {pins : List (Addr × Obj)} {σ : L2.St} {H : Hp} {s : Shared} {Q : VK} {x : Value} {B : List (Value × Int)} (I : Inv X pins σ H s) (hu : X.A.units + 64 < cLine) (hB : ∀ p ∈ B, ∃ t, p.1 = .int p.2 t) (hlen : B.length ≤ 8388607)
    (hcol : ∀ (Q' : List Value → Shared → Prop), (∀ (s1 : Shared) (bs : List (Value × Int)), Ext1 s s1 → bs.Perm B → Q' (bs.map (·.1)) s1) → wpAny (model X.prog X.w) X.A.in1 (collect x) Q' X.xe s)
    (q : ∀ (ns : List Int) (p : Addr), ns.Perm (B.map (·.2)) → ns.Pairwise (· ≤ ·) → H p = none → Q (.ref p) (upd H p (.lst (ns.map V.int)))) : wpAny (model X.prog X.w) X.A (call (.builtin "sorted") [x]) (EP X pins σ Q) X.xe s := by
  obtain ⟨al, so⟩ := alikeI (B := B)
  refine sortedBy (R := fun v (b : Value × Int) => v = b.1) (enc := fun b => .int b.2) (B := B) (fun Q' hq => ?_) al so (le_line hlen) (fun b hb => by show X.A.units + 2 + 0 < _; omega) fun s' p out c bs' x hp hg e pm pw => ?_
  · refine hcol Q' fun s1 bs x pm => hq s1 _ bs x (each_of_map _ bs fun b _ => rfl) (each_of_map _ bs fun b hb => ?_) pm
    obtain ⟨t, e⟩ := hB b (pm.mem_iff.mp hb)
    rw [e]
    exact .int _ _
  · have ev : Vals ((bs'.map (·.2)).map V.int) out.toList := by
      rw [each_eq (f := fun b : Value × Int => b.1) e]
      exact ints_vals fun p hp => hB p (pm.mem_iff.mp hp)
    exact new_list I x hp hg ev (by rw [List.length_map, List.length_map, pm.length_eq]; exact le_line hlen) fun p hn => q _ p (pm.map _) (pairwise_ints pw) hn
def rSortSI (P : Program) (w : World) : List V → Hp → VK → Prop := fun vs H Q => ∃ (a : Addr) (ns : List Int), vs = [V.ref a] ∧ SetI P w a H ns ∧ ns.length ≤ 8388607 ∧
  ∀ (ns' : List Int) (p : Addr), ns'.Perm ns → ns'.Pairwise (· ≤ ·) → H p = none → Q (.ref p) (upd H p (.lst (ns'.map V.int)))
theorem cr_sortSI (hc : X.calm = true) (hu : X.A.units + 64 < cLine) : CallR X (.builtin "sorted") (rSortSI X.prog X.w) := by
  intro pins s σ H vs us Q I r h
  obtain ⟨a, ns, rfl, ⟨L, ha, hL, rfl⟩, hlen, q⟩ := h
  rw [List.length_map] at hlen
  rw [Vals.ref1 r]
  have R0 : SetG0 (kI X.prog X.w) s.heap a L := (I.hok a _ ha).1
  obtain ⟨es, ep, t, R⟩ := R0.full fun p hp => hL p hp
  obtain ⟨o, ho, hex, hd⟩ := R.ob
  refine sort_ints I hu hL hlen (fun Q' hq => ?_) q
  refine collectP (A := X.A.in1) (by show X.A.handled = none; exact I.ok.hd hc) ⟨o, ho, hex.1, hd⟩ R.fits R.plain (by rw [R.size]; exact le_line hlen) R.tab.up R.led fun s1 out x pm => ?_
  have e2 : es.toList.map (·.2) = L.map (·.1) := by
    rw [R.rows]
    unfold rowsG
    rw [List.map_map]
    rfl
  rw [e2] at pm
  obtain ⟨bs, pb, eb⟩ := perm_back (fun p : Value × Int => p.1) pm L rfl
  subst eb
  exact hq s1 bs x pb
def rSortI2 (K : PySem.W.Frag) : List V → Hp → VK → Prop := fun vs H Q => ∃ (a : Addr) (ns : List Int), vs = [V.ref a] ∧ SqA K H a (ns.map V.int) ∧ ns.length ≤ 8388607 ∧
  ∀ (ns' : List Int) (p : Addr), ns'.Perm ns → ns'.Pairwise (· ≤ ·) → H p = none → Q (.ref p) (upd H p (.lst (ns'.map V.int)))
theorem cr_sortI2 (hu : X.A.units + 64 < cLine) : CallR X (.builtin "sorted") (rSortI2 X.K) := by
  intro pins s σ H vs us Q I r h
  obtain ⟨a, ns, rfl, ha, hlen, q⟩ := h
  rw [Vals.ref1 r]
  have go : ∀ its : List Value, Vals (ns.map V.int) its → ∃ B : List (Value × Int), B.map (·.1) = its ∧ B.map (·.2) = ns ∧ (∀ p ∈ B, ∃ t, p.1 = .int p.2 t) ∧ B.length ≤ 8388607 := fun its rv => by
    obtain ⟨B, e1, e2, e3⟩ := vals_ints_of rv
    exact ⟨B, e1, e2, e3, by rw [← List.length_map (·.2), e2]; exact hlen⟩
  rcases ha with ha | ha
  · obtain ⟨its, rv, pl, hz⟩ := I.list ha
    obtain ⟨B, rfl, e2, e3, e4⟩ := go its rv
    refine sort_ints I hu e3 e4 (fun Q' hq => collect_list pl.isList (hq _ B (ext_copy s _) (.refl _)) (by rw [List.length_map]; exact le_line e4)) fun ns' p pm pw hn => q ns' p (by rw [← e2]; exact pm) pw hn
  · obtain ⟨its, rv, pl, hz⟩ := I.tuple ha
    obtain ⟨B, rfl, e2, e3, e4⟩ := go its rv
    refine sort_ints I hu e3 e4 (fun Q' hq => collectT pl (by rw [List.length_map]; exact le_line e4) (hq _ B (ext_copy s _) (.refl _))) fun ns' p pm pw hn => q ns' p (by rw [← e2]; exact pm) pw hn
end
end K23
/-! K23Dict -/
set_option Elab.async false
set_option linter.all false
set_option maxRecDepth 100000
set_option maxHeartbeats 4000000
/-! Dicts whose keys are tuples of ints, and tuples of such. -/
namespace K23
open PySem PySem.Spec PyProof.Rows L2
/-! ### keys over the abstract heap -/
mutual
inductive KeyV (K : PySem.W.Frag) (H : Hp) : NestedKey → V → Prop
  | num (i : Int) : KeyV K H (.num i) (.int i)
  | tup {b : Addr} {xs : List V} {ks : List NestedKey} : SqT K H b xs → KeyVs K H ks xs → KeyV K H (.tup ks) (.ref b)
inductive KeyVs (K : PySem.W.Frag) (H : Hp) : List NestedKey → List V → Prop
  | nil : KeyVs K H [] []
  | cons {k : NestedKey} {v : V} {ks : List NestedKey} {vs : List V} : KeyV K H k v → KeyVs K H ks vs → KeyVs K H (k :: ks) (v :: vs)
end
/-- tuples stay -/
def TK1 (K : PySem.W.Frag) (H H' : Hp) : Prop := ∀ b xs, SqT K H b xs → SqT K H' b xs
mutual
theorem KeyV.keep {K : PySem.W.Frag} {H H' : Hp} (t : TK1 K H H') : ∀ {k : NestedKey} {v : V}, KeyV K H k v → KeyV K H' k v
  | _, _, .num i => .num i
  | _, _, .tup h r => .tup (t _ _ h) (KeyVs.keep t r)
theorem KeyVs.keep {K : PySem.W.Frag} {H H' : Hp} (t : TK1 K H H') : ∀ {ks : List NestedKey} {vs : List V}, KeyVs K H ks vs → KeyVs K H' ks vs
  | _, _, .nil => .nil
  | _, _, .cons h r => .cons (KeyV.keep t h) (KeyVs.keep t r)
end
theorem sameT {K : PySem.W.Frag} {H H' : Hp} (e : Same H H') : TK1 K H H' := fun b xs h => by
  rcases h with (h | ⟨o, h⟩) | h
  · exact .inl (.inl (e _ _ h))
  · exact .inl (.inr ⟨o, e _ _ h⟩)
  · exact .inr h
theorem updT {K : PySem.W.Frag} {H : Hp} {a : Addr} {o : HO} (h : Mut (H a) ∨ H a = none) : TK1 K H (upd H a o) := fun b xs z => by
  rcases z with (z | ⟨ob, z⟩) | z
  · refine .inl (.inl ?_)
    rw [upd_ne (fun e => by
      subst e
      rw [z] at h
      rcases h with h | h
      · exact h
      · cases h)]
    exact z
  · refine .inl (.inr ⟨ob, ?_⟩)
    rw [upd_ne (fun e => by
      subst e
      rw [z] at h
      rcases h with h | h
      · exact h
      · cases h)]
    exact z
  · exact .inr z
theorem TK1.trans {K : PySem.W.Frag} {H H1 H2 : Hp} (a : TK1 K H H1) (b : TK1 K H1 H2) : TK1 K H H2 := fun c xs h => b c xs (a c xs h)
/-- a tuple of ints as a key -/
def nkI (ks : List Int) : NestedKey := .tup (ks.map .num)
theorem nkI_inj {a b : List Int} (e : nkI a = nkI b) : a = b := by
  unfold nkI at e
  injection e with e
  induction a generalizing b with
  | nil =>
    cases b with
    | nil => rfl
    | cons y b => cases e
  | cons x a ih =>
    cases b with
    | nil => cases e
    | cons y b =>
      rw [List.map_cons, List.map_cons] at e
      injection e with e1 e2
      injection e1 with e1
      rw [e1, ih e2]
theorem keyVs_ints {K : PySem.W.Frag} {H : Hp} : ∀ ks : List Int, KeyVs K H (ks.map .num) (ks.map V.int)
  | [] => .nil
  | k :: ks => .cons (.num k) (keyVs_ints ks)
theorem keyI {K : PySem.W.Frag} {H : Hp} {b : Addr} {ks : List Int} (h : SqT K H b (ks.map V.int)) : KeyV K H (nkI ks) (.ref b) := .tup h (keyVs_ints ks)
theorem depthAll_ints : ∀ ks : List Int, NestedKey.depthAll (ks.map .num) = 0
  | [] => rfl
  | k :: ks => by
    show max 0 (NestedKey.depthAll (ks.map .num)) = 0
    rw [depthAll_ints ks]
    rfl
theorem depthI (ks : List Int) : (nkI ks).depth ≤ 8 := by
  show NestedKey.depthAll (ks.map .num) + 1 ≤ 8
  rw [depthAll_ints]
  decide
section
variable {X : Cx} {pins : List (Addr × Obj)} {σ : L2.St} {H : Hp} {s : Shared}
mutual
theorem key_is (I : Inv X pins σ H s) : ∀ {k : NestedKey} {v : V} {u : Value}, KeyV X.K H k v → RelV v u → NestedIs s.heap k u
  | _, _, _, .num i, r => by
    obtain ⟨t, rfl⟩ := r
    exact .int i t
  | _, _, _, .tup h ks, r => by
    cases r
    obtain ⟨its, rv, ⟨o, ho, hc, n, hd⟩, _⟩ := I.tuple h
    exact .tup ho hc hd (by simpa using keys_are I ks rv)
theorem keys_are (I : Inv X pins σ H s) : ∀ {ks : List NestedKey} {vs : List V} {us : List Value}, KeyVs X.K H ks vs → Vals vs us → NestedAll s.heap ks us
  | _, _, _, .nil, .nil => .nil
  | _, _, _, .cons h t, .cons r rt => .cons (key_is I h r) (keys_are I t rt)
end
end

/-! ### the dict -/
abbrev NE := NestedKey × Addr × V
def prN (e : NE) : NestedKey × V := (e.1, e.2.2)
abbrev RN : List NE → List (NestedKey × Addr × Value) → Prop := Paired fun p q => p.1 = q.1 ∧ p.2.1 = q.2.1 ∧ RelV p.2.2 q.2.2
def storeN (es : List NE) (k : NestedKey) (b : Addr) (v : V) : List NE :=
  if (valV (es.map prN) k).isSome = true then es.map (fun e => if e.1 = k then (e.1, e.2.1, v) else e) else es ++ [(k, b, v)]
theorem storeN_pr (es : List NE) (k : NestedKey) (b : Addr) (v : V) : (storeN es k b v).map prN = putK (es.map prN) k v := by
  unfold storeN putK
  rw [valV_any]
  by_cases e : (valV (es.map prN) k).isSome = true
  · rw [if_pos e, if_pos e, List.map_map, List.map_map]
    refine List.map_congr_left fun x _ => ?_
    by_cases h : x.1 = k <;> simp [prN, h]
  · rw [if_neg e, if_neg e, List.map_append]
    rfl
theorem RN.val : ∀ {es : List NE} {xs : List (NestedKey × Addr × Value)}, RN es xs → ∀ k, RelO (valV (es.map prN) k) ((atKey xs k).map (·.2))
  | _, _, .nil, k => by
    rw [List.map_nil, valV_nil]
    trivial
  | p :: es, q :: xs, .cons ⟨e1, e2, r⟩ t, k => by
    rw [List.map_cons]
    by_cases h : p.1 = k
    · rw [valV_pos (show (prN p).1 = k from h)]
      have : atKey (q :: xs) k = some q.2 := by simp [atKey, List.find?_cons, e1 ▸ h]
      rw [this]
      exact r
    · rw [valV_neg (show ¬ (prN p).1 = k from h)]
      have : atKey (q :: xs) k = atKey xs k := by simp [atKey, List.find?_cons, e1 ▸ h]
      rw [this]
      exact RN.val t k
theorem RN.put {es : List NE} {xs : List (NestedKey × Addr × Value)} (r : RN es xs) (k : NestedKey) (b : Addr) {y : V} {u : Value} (ry : RelV y u) : RN (storeN es k b y) (storedH xs k b u) := by
  unfold storeN storedH
  have e : (valV (es.map prN) k).isSome = (atKey xs k).isSome := by
    rw [(r.val k).isSome_eq, Option.isSome_map]
  rw [e]
  by_cases c : (atKey xs k).isSome = true
  · rw [if_pos c, if_pos c]
    have key : ∀ {es : List NE} {xs : List (NestedKey × Addr × Value)}, RN es xs → RN (es.map fun e => if e.1 = k then (e.1, e.2.1, y) else e) (xs.map (putAt k u)) := by
      intro es xs r
      induction r with
      | nil => exact .nil
      | @cons p q es xs h t ih =>
        obtain ⟨e1, e2, e3⟩ := h
        refine .cons ?_ ih
        show (if p.1 = k then (p.1, p.2.1, y) else p).1 = _ ∧ (if p.1 = k then (p.1, p.2.1, y) else p).2.1 = _ ∧ RelV (if p.1 = k then (p.1, p.2.1, y) else p).2.2 _
        unfold putAt
        by_cases h : p.1 = k
        · rw [if_pos h, if_pos (e1 ▸ h)]
          exact ⟨e1, e2, ry⟩
        · rw [if_neg h, if_neg (e1 ▸ h)]
          exact ⟨e1, e2, e3⟩
    exact key r
  · rw [if_neg c, if_neg c]
    exact Paired.snoc r ⟨rfl, rfl, ry⟩
def NDphi (P : Program) (w : World) (a : Addr) (es : List NE) (h : Heap) : Prop := es.length ≤ sizeLine ∧ (a == sysModules) = false ∧ ∃ xs, RN es xs ∧ ∃ o ess ep, h.get? a = some o ∧ o.ExactDict ∧ o.data = .dict ess ep ∧
  ess.toList = xs.map (entryOfKey (nestedKind P w)) ∧ (xs.map (·.1)).Nodup
def NDO (P : Program) (w : World) (a : Addr) (es : List NE) : HO := .ext (NDphi P w a es)
theorem ndo_ok {P : Program} {w : World} {H : Hp} {h : Heap} {a : Addr} {es : List NE} (x : NDphi P w a es h) : ObjOk P w H h a (NDO P w a es) := by
  have ⟨_, _, _, _, o, _, _, ho, _⟩ := x
  refine ⟨x, ⟨o, ho⟩, fun h1 h2 p k => ?_⟩
  obtain ⟨h1, h2, xs, r, o, ess, ep, ho, q⟩ := (show NDphi P w a es _ from p)
  exact ⟨h1, h2, xs, r, o, ess, ep, k o ho, q⟩
/-- at a stands a dict with these keys and values, in the order of insertion -/
def ND (P : Program) (w : World) (K : PySem.W.Frag) (H : Hp) (a : Addr) (kvs : List (NestedKey × V)) : Prop :=
  ∃ es, H a = some (NDO P w a es) ∧ (∀ e ∈ es, KeyV K H e.1 (.ref e.2.1) ∧ e.1.depth ≤ 8) ∧ es.map prN = kvs
theorem ND.keep {P : Program} {w : World} {K : PySem.W.Frag} {H H' : Hp} {a : Addr} {kvs : List (NestedKey × V)} (d : ND P w K H a kvs) (t : TK1 K H H') (ha : H' a = H a) : ND P w K H' a kvs := by
  obtain ⟨es, h1, h2, h3⟩ := d
  exact ⟨es, ha.trans h1, fun e he => ⟨(h2 e he).1.keep t, (h2 e he).2⟩, h3⟩
theorem ND.same {P : Program} {w : World} {K : PySem.W.Frag} {H H' : Hp} {a : Addr} {kvs : List (NestedKey × V)} (d : ND P w K H a kvs) (e : Same H H') : ND P w K H' a kvs := by
  obtain ⟨es, h1, h2, h3⟩ := d
  exact ⟨es, e _ _ h1, fun e' he => ⟨(h2 e' he).1.keep (sameT e), (h2 e' he).2⟩, h3⟩
theorem ND.mut {P : Program} {w : World} {K : PySem.W.Frag} {H : Hp} {a : Addr} {kvs : List (NestedKey × V)} (d : ND P w K H a kvs) : Mut (H a) := by
  obtain ⟨es, h1, _⟩ := d
  rw [h1]
  exact True.intro
section
variable {X : Cx} {pins : List (Addr × Obj)} {σ : L2.St} {H : Hp} {s : Shared} {a : Addr} {kvs : List (NestedKey × V)} {k : NestedKey} {y : V} {u : Value} {E : Value → Shared → Prop}
/-- the dict in the heap -/
theorem nd_of (I : Inv X pins σ H s) {es : List NE} (h1 : H a = some (NDO X.prog X.w a es)) (h2 : ∀ e ∈ es, KeyV X.K H e.1 (.ref e.2.1) ∧ e.1.depth ≤ 8) :
    es.length ≤ sizeLine ∧ (a == sysModules) = false ∧ ∃ xs, RN es xs ∧ s.heap.DictOfH (nestedKind X.prog X.w) a xs := by
  obtain ⟨z, hd, xs, r, o, ess, ep, ho, hx, hdat, hes, nd⟩ := (show NDphi X.prog X.w a es s.heap from (I.hok a _ h1).1)
  refine ⟨z, hd, xs, r, o, ess, ep, ho, hx, hdat, hes, ?_, nd⟩
  have key : ∀ {es : List NE} {xs : List (NestedKey × Addr × Value)}, RN es xs → (∀ e ∈ es, KeyV X.K H e.1 (.ref e.2.1) ∧ e.1.depth ≤ 8) → ∀ x ∈ xs, (nestedKind X.prog X.w).is s.heap x.1 x.2.1 := by
    intro es xs r
    induction r with
    | nil => exact fun _ x hx => nomatch hx
    | @cons p q es xs h t ih =>
      intro he x hx
      obtain ⟨e1, e2, _⟩ := h
      rcases List.mem_cons.mp hx with rfl | hx
      · obtain ⟨k1, k2⟩ := he p List.mem_cons_self
        rw [← e1, ← e2]
        exact ⟨key_is I k1 rfl, k2⟩
      · exact ih (fun e he' => he e (List.mem_cons_of_mem _ he')) x hx
  exact key r h2
theorem nroom {A : Around} (hu : A.units + 64 < cLine) : (nestedKind X.prog X.w).room A.in1 := by
  show A.units + 1 + 8 < cLine
  omega
theorem key_ref {K : PySem.W.Frag} {H : Hp} {k : NestedKey} {b : Addr} (h : KeyV K H k (.ref b)) (r : RelV (.ref b) u) : u = .ref b := r

def tNIn (P : Program) (w : World) (K : PySem.W.Frag) (neg : Bool) (ty td : TE) : TE := fun σ H Q => ty σ H fun y H1 => td σ H1 fun x H2 => ∃ a kvs k b, x = .ref a ∧ y = .ref b ∧ ND P w K H2 a kvs ∧ KeyV K H2 k y ∧ k.depth ≤ 8 ∧
  Q (.bl (if neg = true then !(valV kvs k).isSome else (valV kvs k).isSome)) H2
variable {i o e f : Expr} {ty td tx tv : TE} {pos pos' apos cpos : Pos}
theorem pc_nin (hu : X.A.units + 64 < cLine) (hi : PE X i ty) (ho : PE X o td) : PC X .In i o (tNIn X.prog X.w X.K false ty td) := by
  refine ⟨fun pins s σ H Q I h => ?_⟩
  refine thn (hi.run pins s σ H _ I h) fun iv s1 ⟨y, H1, I1, ry, q1⟩ => thn (ho.run pins s1 σ H1 _ I1 q1) fun u s2 ⟨x, H2, I2, rx, a, kvs, k, b, ex, ey, ⟨es, h1, h2, ek⟩, kv, dp, q2⟩ => ?_
  subst ex ey ek
  obtain rfl : u = Value.ref a := rx
  obtain rfl : iv = Value.ref b := ry
  obtain ⟨z, hd, xs, r, dd⟩ := nd_of I2 h1 h2
  refine wpAny_in_heap (knd := nestedKind X.prog X.w) (nroom (X := X) hu) ⟨key_is I2 kv rfl, dp⟩ hd dd ?_
  have e : (atKey xs k).isSome = (valV (es.map prN) k).isSome := by rw [(r.val k).isSome_eq, Option.isSome_map]
  exact ⟨_, H2, I2.tok _, by rw [e]; rfl, q2⟩
theorem pc_nnotin (hu : X.A.units + 64 < cLine) (hi : PE X i ty) (ho : PE X o td) : PC X .NotIn i o (tNIn X.prog X.w X.K true ty td) := by
  refine ⟨fun pins s σ H Q I h => ?_⟩
  refine thn (hi.run pins s σ H _ I h) fun iv s1 ⟨y, H1, I1, ry, q1⟩ => thn (ho.run pins s1 σ H1 _ I1 q1) fun u s2 ⟨x, H2, I2, rx, a, kvs, k, b, ex, ey, ⟨es, h1, h2, ek⟩, kv, dp, q2⟩ => ?_
  subst ex ey ek
  obtain rfl : u = Value.ref a := rx
  obtain rfl : iv = Value.ref b := ry
  obtain ⟨z, hd, xs, r, dd⟩ := nd_of I2 h1 h2
  refine notIn_keyed (knd := nestedKind X.prog X.w) (nroom (X := X) hu) ⟨key_is I2 kv rfl, dp⟩ hd ⟨xs, dd, rfl⟩ ?_
  have e : (valueAt (pairsH xs) k).isSome = (valV (es.map prN) k).isSome := by rw [(r.val k).isSome_eq, valueAt_pairsH]
  exact ⟨_, H2, I2.tok _, by rw [e]; rfl, q2⟩
/-- d[k] -/
def tNGet (P : Program) (w : World) (K : PySem.W.Frag) (td ty : TE) : TE := fun σ H Q => td σ H fun x H1 => ty σ H1 fun y H2 => ∃ a kvs k b v, x = .ref a ∧ y = .ref b ∧ ND P w K H2 a kvs ∧ KeyV K H2 k y ∧ k.depth ≤ 8 ∧ valV kvs k = some v ∧ Q v H2
theorem nd_typeIs (I : Inv X pins σ H s) {es : List NE} (h1 : H a = some (NDO X.prog X.w a es)) : s.TypeIs (.ref a) "dict" := by
  obtain ⟨_, _, _, _, o, _, _, ho, hx, _⟩ := (show NDphi X.prog X.w a es s.heap from (I.hok a _ h1).1)
  exact ⟨o, ho, hx.1⟩
theorem pe_nget (hu : X.A.units + 64 < cLine) (ho : PE X o td) (hi : PE X i ty) (hs : NoSl i) : PE X (.Subscript o i pos) (tNGet X.prog X.w X.K td ty) := by
  refine ⟨fun pins s σ H Q I h => ?_⟩
  refine subD_of PySem.F.slot_dict_getitem.lookup hs (thn (ho.run pins s σ H _ I h) fun u s1 ⟨x, H1, I1, rx, q1⟩ => thn (hi.run pins s1 σ H1 _ I1 q1) fun iv s2 ⟨y, H2, I2, ry, a, kvs, k, b, v, ex, ey, ⟨es, h1, h2, ek⟩, kv, dp, hv, q2⟩ => ?_)
  subst ex ey ek
  obtain rfl : u = Value.ref a := rx
  obtain rfl : iv = Value.ref b := ry
  obtain ⟨z, hd, xs, r, dd⟩ := nd_of I2 h1 h2
  refine ⟨nd_typeIs I2 h1, ?_⟩
  have rv := r.val k
  rw [hv] at rv
  obtain ⟨w', e', rw'⟩ := rv.some_of
  obtain ⟨p, hp, rfl⟩ := Option.map_eq_some_iff.mp e'
  exact wpAny_getItem_heap (knd := nestedKind X.prog X.w) (nroom (X := X) hu) ⟨key_is I2 kv rfl, dp⟩ dd hp ⟨v, H2, I2.tok _, rw', q2⟩
/-- d.get(k, x) -/
def tNGet2 (P : Program) (w : World) (K : PySem.W.Frag) (td ty tx : TE) : TE := fun σ H Q => td σ H fun x H1 => ∃ a, x = .ref a ∧ (∃ es, H1 a = some (NDO P w a es)) ∧ ty σ H1 fun y H2 => tx σ H2 fun z H3 => ∃ kvs k b, y = .ref b ∧ ND P w K H3 a kvs ∧ KeyV K H3 k y ∧ k.depth ≤ 8 ∧
  Q ((valV kvs k).getD z) H3
theorem nd_is (I : Inv X pins σ H s) {es : List NE} (h1 : H a = some (NDO X.prog X.w a es)) : ∀ b, Value.ref a = .ref b → ∃ ob, s.heap.get? b = some ob ∧ ob.dict = none := by
  obtain ⟨_, _, _, _, o, _, _, ho, hx, _⟩ := (show NDphi X.prog X.w a es s.heap from (I.hok a _ h1).1)
  intro b q
  cases q
  exact ⟨o, ho, hx.2.1⟩
theorem pe_nget2 (hu : X.A.units + 64 < cLine) (ho : PE X o td) (he : PE X e ty) (hf : PE X f tx) (m : M2 X o "get" apos e f cpos) : PE X (.Call (.Attribute o "get" apos) [e, f] [] cpos) (tNGet2 X.prog X.w X.K td ty tx) := by
  refine ⟨fun pins s σ H Q I h => ?_⟩
  refine wpAny_Call_method m.base m.few m.line PySem.F.plainAttrs_dict PySem.F.slot_dict_get PySem.F.type_dict_get (thn (ho.run pins s σ H _ I h) fun u s1 ⟨x, H1, I1, rx, a, ex, ⟨es0, d0⟩, q1⟩ => ?_)
  subst ex
  obtain rfl : u = Value.ref a := rx
  refine ⟨nd_typeIs I1 d0, nd_is I1 d0, ?_⟩
  rw [m.trees]
  refine Calls.callWith_builtin rfl (Calls.evalArgs_plain (Calls.spliced_cons (thn (he.run pins s1 σ H1 _ I1 q1) fun iv s2 ⟨y, H2, I2, ry, q2⟩ =>
    Calls.spliced_cons (thn (hf.run pins s2 σ H2 _ I2 q2) fun fv s3 ⟨z, H3, I3, rz, kvs, k, b, ey, ⟨es, h1, h2, ek⟩, kv, dp, q3⟩ => Calls.spliced_nil ?_))))
  subst ey ek
  obtain rfl : iv = Value.ref b := ry
  obtain ⟨z', hd, xs, r, dd⟩ := nd_of I3 h1 h2
  refine call_meetsIn PySem.F.slot_dict_get dd.typeIs PySem.F.entry_dict_get (PySem.F.args_dict_get_3 _ _ _) (meetsH_dict_get_default (nestedKind X.prog X.w) a b hd fv) ⟨nroom (X := X) hu, k, xs, ⟨key_is I3 kv rfl, dp⟩, dd, ?_⟩
  exact ⟨_, H3, I3.tok _, (r.val k).getD rz, q3⟩
/-- a store's end -/
theorem nd_stored {t' : Nat} {h' : Heap} (I : Inv X pins σ H s) {es : List NE} {b : Addr} {v : V} {xs : List (NestedKey × Addr × Value)} {r : Value} (h1 : H a = some (NDO X.prog X.w a es)) (hl : es.length < sizeLine) (hd : (a == sysModules) = false) (rel : RN es xs) (rv : RelV v r)
    (dd : h'.DictOfH (nestedKind X.prog X.w) a (storedH xs k b r)) (hs : Heap.SameBut a s.heap h') : Inv X pins σ (upd H a (NDO X.prog X.w a (storeN es k b v))) { s with heap := h', toks := t' } := by
  obtain ⟨q, ess, ep, hq, h2, h3, h4, _, h5⟩ := dd
  refine d_write I (by rw [h1]; exact True.intro) hs ⟨q, hq⟩ (ndo_ok ⟨?_, hd, _, rel.put k b rv, q, ess, ep, hq, h2, h3, h4, h5⟩)
  have : (storeN es k b v).length ≤ es.length + 1 := by
    unfold storeN
    split
    · rw [List.length_map]
      exact Nat.le_succ _
    · rw [List.length_append]
      exact Nat.le_refl _
  omega
theorem nd_put {K : PySem.W.Frag} {P : Program} {w : World} {es : List NE} {b : Addr} {v : V} (h1 : H a = some (NDO P w a es)) (h2 : ∀ e ∈ es, KeyV K H e.1 (.ref e.2.1) ∧ e.1.depth ≤ 8) (kv : KeyV K H k (.ref b)) (dp : k.depth ≤ 8) :
    ND P w K (upd H a (NDO P w a (storeN es k b v))) a (putK (es.map prN) k v) := by
  have t : TK1 K H (upd H a (NDO P w a (storeN es k b v))) := updT (.inl (by rw [h1]; exact True.intro))
  refine ⟨_, upd_same, fun e he => ?_, storeN_pr es k b v⟩
  unfold storeN at he
  split at he
  · obtain ⟨e0, m, rfl⟩ := List.mem_map.mp he
    obtain ⟨k1, k2⟩ := h2 e0 m
    split
    · exact ⟨k1.keep t, k2⟩
    · exact ⟨k1.keep t, k2⟩
  · rcases List.mem_append.mp he with m | m
    · exact ⟨(h2 e m).1.keep t, (h2 e m).2⟩
    · obtain rfl := List.mem_singleton.mp m
      exact ⟨kv.keep t, dp⟩
/-- the heap behind a store: the dict, all else as it was -/
def NPut (P : Program) (w : World) (K : PySem.W.Frag) (H : Hp) (a : Addr) (kvs : List (NestedKey × V)) (H' : Hp) : Prop := ND P w K H' a kvs ∧ (∀ b, b ≠ a → H' b = H b)
/-- d[k] = v -/
def sNPut (P : Program) (w : World) (K : PySem.W.Frag) (td ty tv : TE) : TS := fun D σ H => tv σ H fun v H1 => td σ H1 fun x H2 => ty σ H2 fun y H3 => ∃ a kvs k b, x = .ref a ∧ y = .ref b ∧ ND P w K H3 a kvs ∧ KeyV K H3 k y ∧ k.depth ≤ 8 ∧ kvs.length < sizeLine ∧
  ∀ H4, NPut P w K H3 a (putK kvs k v) H4 → D.nx σ H4
theorem ps_nput {value : Expr} (hu : X.A.units + 64 < cLine) (ho : PE X o td) (hi : PE X i ty) (hv : PE X value tv) (hs : swapsWith value (some (.Subscript o i pos')) pos.line X.env = pure false) :
    PS X (.Assign [.Subscript o i pos'] value pos) (sNPut X.prog X.w X.K td ty tv) := by
  refine ⟨fun pins s σ H D I h => ?_⟩
  refine wpAny_Assign_Subscript (thn (hv.run pins s σ H _ I h) fun r s1 ⟨v, H1, I1, rv, q1⟩ => thn (ho.run pins s1 σ H1 _ I1 q1) fun u s2 ⟨x, H2, I2, rx, q2⟩ => thn (hi.run pins s2 σ H2 _ I2 q2) fun iv s3 ⟨y, H3, I3, ry, a, kvs, k, b, ex, ey, ⟨es, h1, h2, ek⟩, kv, dp, hl, q3⟩ => ?_) hs
  subst ex ey ek
  obtain rfl : u = Value.ref a := rx
  obtain rfl : iv = Value.ref b := ry
  obtain ⟨z, hd, xs, rel, dd⟩ := nd_of I3 h1 h2
  rw [List.length_map] at hl
  refine wpAny_setItem_heap (knd := nestedKind X.prog X.w) (hsz := by rw [← Paired.length rel]; exact z) (nroom (X := X) hu) ⟨key_is I3 kv rfl, dp⟩ dd fun h' dd' hs' => ?_
  exact ⟨σ, _, nd_stored I3 h1 hl hd rel rv dd' hs', q3 _ ⟨nd_put h1 h2 kv dp, fun c hc => upd_ne hc⟩⟩
/-- d.setdefault(k, x) -/
def tNSetd (P : Program) (w : World) (K : PySem.W.Frag) (td ty tx : TE) : TE := fun σ H Q => td σ H fun x H1 => ∃ a, x = .ref a ∧ (∃ es, H1 a = some (NDO P w a es)) ∧ ty σ H1 fun y H2 => tx σ H2 fun z H3 => ∃ kvs k b, y = .ref b ∧ ND P w K H3 a kvs ∧ KeyV K H3 k y ∧ k.depth ≤ 8 ∧ kvs.length < sizeLine ∧
  (∀ v, valV kvs k = some v → Q v H3) ∧ (valV kvs k = none → ∀ H4, NPut P w K H3 a (putK kvs k z) H4 → Q z H4)
theorem pe_nsetd (hu : X.A.units + 64 < cLine) (ho : PE X o td) (he : PE X e ty) (hf : PE X f tx) (m : M2 X o "setdefault" apos e f cpos) : PE X (.Call (.Attribute o "setdefault" apos) [e, f] [] cpos) (tNSetd X.prog X.w X.K td ty tx) := by
  refine ⟨fun pins s σ H Q I h => ?_⟩
  refine wpAny_Call_method m.base m.few m.line PySem.F.plainAttrs_dict PySem.F.slot_dict_setdefault PySem.F.type_dict_setdefault (thn (ho.run pins s σ H _ I h) fun u s1 ⟨x, H1, I1, rx, a, ex, ⟨es0, d0⟩, q1⟩ => ?_)
  subst ex
  obtain rfl : u = Value.ref a := rx
  refine ⟨nd_typeIs I1 d0, nd_is I1 d0, ?_⟩
  rw [m.trees]
  refine Calls.callWith_builtin rfl (Calls.evalArgs_plain (Calls.spliced_cons (thn (he.run pins s1 σ H1 _ I1 q1) fun iv s2 ⟨y, H2, I2, ry, q2⟩ =>
    Calls.spliced_cons (thn (hf.run pins s2 σ H2 _ I2 q2) fun fv s3 ⟨z, H3, I3, rz, kvs, k, b, ey, ⟨es, h1, h2, ek⟩, kv, dp, hl, q3, q4⟩ => Calls.spliced_nil ?_))))
  subst ey ek
  obtain rfl : iv = Value.ref b := ry
  obtain ⟨z', hd, xs, r, dd⟩ := nd_of I3 h1 h2
  rw [List.length_map] at hl
  have rv := r.val k
  refine call_setdefault_heap (knd := nestedKind X.prog X.w) (hsz := by rw [← Paired.length r]; exact z') (nroom (X := X) hu) ⟨key_is I3 kv rfl, dp⟩ hd dd (fun p hp => ?_) fun hn h' dd' hs' => ?_
  · cases e : valV (es.map prN) k with
    | none =>
      rw [e, hp] at rv
      exact rv.elim
    | some v =>
      rw [e, hp] at rv
      exact ⟨v, H3, I3.tok _, rv, q3 v e⟩
  · have e : valV (es.map prN) k = none := by
      cases e : valV (es.map prN) k with
      | none => rfl
      | some v =>
        rw [e, hn] at rv
        exact rv.elim
    exact ⟨z, _, nd_stored I3 h1 hl hd r rz dd' hs', rz, q4 e _ ⟨nd_put h1 h2 kv dp, fun c hc => upd_ne hc⟩⟩
/-- {} -/
def tNNew (P : Program) (w : World) (K : PySem.W.Frag) : TE := fun _ H Q => ∀ p, H p = none → ∀ H', NPut P w K H p [] H' → Q (.ref p) H'
theorem ndo_empty {P : Program} {w : World} {H : Hp} {h : Heap} {p : Addr} (hp : h.get? p = some { cls := .type "dict", data := .dict #[] }) (big : (p == sysModules) = false) : ObjOk P w H h p (NDO P w p []) :=
  ndo_ok ⟨Nat.zero_le _, big, [], .nil, _, _, _, hp, ⟨rfl, rfl, rfl⟩, rfl, rfl, List.nodup_nil⟩
theorem pe_nnew : PE X (.Dict [] [] pos) (tNNew X.prog X.w X.K) := ⟨fun pins s σ H Q I h => by
  have big : (s.heap.objs.size == sysModules) = false := beq_eq_false_iff_ne.mpr (Nat.ne_of_gt I.big)
  have hn := I.hok.fresh (Nat.le_refl s.heap.objs.size)
  exact wpAny_Dict_empty ⟨.ref s.heap.objs.size, _, I.laid (a := s.heap.objs.size) (o := NDO X.prog X.w s.heap.objs.size []) (t' := s.toks) (fun _ _ q => Heap.get?_push_of_some _ q) (Nat.le_refl _) (ndo_empty (Heap.get?_push_size _ rfl) big), rfl,
    h _ hn _ ⟨⟨[], upd_same, fun e he => (nomatch he), rfl⟩, fun b hb => upd_ne hb⟩⟩⟩
end
end K23
/-! K23DictC -/
set_option Elab.async false
set_option linter.all false
set_option maxRecDepth 100000
set_option maxHeartbeats 4000000
/-! A dict comprehension whose keys are tuples. -/
namespace K23
open PySem PySem.Spec PyProof.Rows L2
section
variable {X : Cx}
/-- a comprehension's store -/
theorem nd_dictSet {pins : List (Addr × Obj)} {σ : L2.St} {H : Hp} {s : Shared} {E : Value → Shared → Prop} {D b : Addr} {kvs : List (NestedKey × V)} {k : NestedKey} {v : V} {u r : Value} {Q : Unit → Shared → Prop} (hu : X.A.units + 64 < cLine) (I : Inv X pins σ H s)
    (hD : ND X.prog X.w X.K H D kvs) (kv : KeyV X.K H k (.ref b)) (dp : k.depth ≤ 8) (hl : kvs.length < sizeLine) (rk : RelV (.ref b) u) (rv : RelV v r)
    (h : ∀ s' H', NPut X.prog X.w X.K H D (putK kvs k v) H' → Inv X pins σ H' s' → Q () s') : wpAny (model X.prog X.w) X.A (dictSet D u r) Q E s := by
  obtain ⟨es, h1, h2, ek⟩ := hD
  subst ek
  rw [List.length_map] at hl
  obtain rfl : u = Value.ref b := rk
  obtain ⟨z, hd, xs, rel, dd⟩ := nd_of I h1 h2
  have room : (nestedKind X.prog X.w).room X.A := by
    show X.A.units + 8 < cLine
    omega
  refine wpAny_dictSet_heap (knd := nestedKind X.prog X.w) (hsz := by rw [← Paired.length rel]; exact z) room ⟨key_is I kv rfl, dp⟩ dd fun h' dd' hs' => ?_
  exact h _ _ ⟨nd_put h1 h2 kv dp, fun c hc => upd_ne hc⟩ (nd_stored I h1 hl hd rel rv dd' hs')
/-- {k: v for target in iter}, keys tuples -/
def tNDc (P : Program) (w : World) (K : PySem.W.Frag) (wi : TI) (g : TG) (tk tv : TE) (vs : List Nat) : TE := fun σ H Q => wi σ H fun J Ha => ∀ D Hb, Ha D = none → NPut P w K Ha D [] Hb → ∃ W : Nat → Nat → Hp → Prop, (∃ m, W 0 m Hb) ∧ ∀ i m H, W i m H →
  (J.stop i H ∧ Q (.ref D) H) ∨ (J.go i H ∧ ∃ Z : Hp → Prop, (∀ H', Z H' → ∃ m', m' < m ∧ W (i + 1) m' H') ∧ ∀ x Hc, J.yld i H x Hc → g x (wipe σ vs) Hc fun σ2 Hd => wipe σ2 vs = wipe σ vs ∧
    tk σ2 Hd fun y He => tv σ2 He fun z Hf => ∃ kvs k b, y = .ref b ∧ ND P w K Hf D kvs ∧ KeyV K Hf k y ∧ k.depth ≤ 8 ∧ kvs.length < sizeLine ∧ ∀ Hg, NPut P w K Hf D (putK kvs k z) Hg → Z Hg)
theorem ndc_core {pins : List (Addr × Obj)} {s : Shared} {σ : L2.St} {H : Hp} {Q : VK} {kx vx tg iter : Expr} {scope : Scope} {own : List (Str × Nat)} {pos pos2 : Pos} {wi : TI} {g : TG} {tk tv : TE} {use : Option (Value → Sem Unit)} {F : Value → Shared → Prop}
    (hu : X.A.units + 64 < cLine) (hc : X.calm = true) (hN : X.N.Nodup) (I : Inv X pins σ H s) (hi : PI X tg iter wi) (ok : BlkOk X.N X.env.scope scope own)
    (hg : ∀ (s : Shared) (H : Hp) (C : Addr) (cl : List (Str × Addr)) (fp : List Addr), PG (X.blk s H scope (compEnvC scope cl C X.env) fp) tg g)
    (hk : ∀ (s : Shared) (H : Hp) (C : Addr) (cl : List (Str × Addr)) (fp : List Addr), PE (X.blk s H scope (compEnvC scope cl C X.env) fp) kx tk)
    (he : ∀ (s : Shared) (H : Hp) (C : Addr) (cl : List (Str × Addr)) (fp : List Addr), PE (X.blk s H scope (compEnvC scope cl C X.env) fp) vx tv) (hs : ∀ x, foldedSetIterable iter X.env x = pure x)
    (h : tNDc X.prog X.w X.K wi g tk tv (own.map (·.2)) σ H Q)
    (fin0 : ∀ D C sf m Hf, Inv X pins σ Hf sf → Q (.ref D) Hf → sf.heap.Ns C m → FpOk X pins Hf C → compPost (model X.prog X.w) X.A X.xe use F (.ref D) C (.ok .next) sf) :
    wpAny (model X.prog X.w) X.A (comprehension (.DictComp kx vx [⟨tg, iter, [], 0⟩] scope pos) scope X.env pos2 newDict false (eval iter X.env) use) F X.xe s := by
  have clo : ∀ y ∈ scope.names, y.2 = .free → ∃ c, X.env.cells.lookup y.1 = some c := fun y hy e => (ok.free y hy e).elim (fun k => I.ok.has _ (.inl k)) fun k => I.ok.has _ (.inr k)
  refine wpAny_comprehension_free (use := use) rfl hs (closure_ok clo) ok.kind (fun y hy e => (ok.uniq y hy).trans (congrArg some e)) (thn (hi.run pins s σ H _ I h) fun xv sa hx => thn hx fun itv sb hb => ?_)
  obtain ⟨it, fp, tn, J, Hb, rfl, Ib, T, stb, fb, q⟩ := hb
  refine wpAny_newObj_type (newEnv_comp ?_)
  obtain ⟨D, hD⟩ : ∃ D, sb.heap.objs.size = D := ⟨_, rfl⟩
  have fresh : Hb D = none := Ib.hok.fresh (Nat.le_of_eq hD)
  have nsys : (D == sysModules) = false := beq_eq_false_iff_ne.mpr (hD ▸ Nat.ne_of_gt Ib.big)
  have np : NPut X.prog X.w X.K Hb D [] (upd Hb D (NDO X.prog X.w D [])) := ⟨⟨[], upd_same, fun e he => (nomatch he), rfl⟩, fun c hc => upd_ne hc⟩
  obtain ⟨W, ⟨m0, w0⟩, turn⟩ := q D _ fresh np
  obtain ⟨Hc, hHc⟩ : ∃ Hc, upd Hb D (NDO X.prog X.w D []) = Hc := ⟨_, rfl⟩
  obtain ⟨sc, hsc⟩ : ∃ sc : Shared, { sb with heap := sb.heap.push { cls := .type "dict", data := .dict #[] } } = sc := ⟨_, rfl⟩
  have hsc' : sc.heap = sb.heap.push { cls := .type "dict", data := .dict #[] } := hsc ▸ rfl
  have Ic : Inv X pins σ Hc sc := by
    rw [← hsc, ← hHc]
    refine Ib.laid (t' := sb.toks) (fun _ _ e => Heap.get?_push_of_some _ e) (Nat.le_of_eq hD) ?_
    subst hD
    exact ndo_empty (Heap.get?_push_size _ rfl) nsys
  have young : ∀ b ∈ fp, b < sb.heap.objs.size := fun b hb => let ⟨_, e, _⟩ := T.obj _ _ stb b hb; Heap.lt_size e
  have fc : ∀ b ∈ fp, FpOk X pins Hc b ∧ b < sc.heap.objs.size := fun b hb =>
    ⟨⟨by rw [← hHc, upd_ne (fun e => Nat.lt_irrefl D (by have := young b hb; rw [hD, e] at this; exact this))]; exact (fb b hb).1, (fb b hb).2⟩, by rw [hsc', Heap.size_push]; exact Nat.lt_succ_of_lt (young b hb)⟩
  have stc : tn 0 sc.heap := T.keep _ _ _ stb fun b _ o e => by rw [hsc']; exact Heap.get?_push_of_some _ e
  have Id := block_start Ic ok hN fc
  rw [hHc] at w0
  obtain ⟨cl, hcl⟩ : ∃ cl, cellsFrom (sc.heap.objs.size + 1) scope.names (cloFrom X.env.cells scope.names []) = cl := ⟨_, rfl⟩
  rw [hcl] at Id
  have pg := hg sc Hc sc.heap.objs.size cl fp
  have pk := hk sc Hc sc.heap.objs.size cl fp
  have pe := he sc Hc sc.heap.objs.size cl fp
  obtain ⟨R, hR⟩ : ∃ R : Result → Shared → Prop, compPost (model X.prog X.w) X.A X.xe use F (.ref D) sc.heap.objs.size = R := ⟨_, rfl⟩
  obtain ⟨ce, hce⟩ : ∃ ce, compEnvC scope cl sc.heap.objs.size X.env = ce := ⟨_, rfl⟩
  rw [hce] at Id pg pk pe
  have ceL : ce.locals = sc.heap.objs.size := hce ▸ rfl
  obtain ⟨sd, hsd⟩ : ∃ sd : Shared, { sc with heap := pushCells (sc.heap.push { cls := .type "dict", data := .dict #[] }) scope.names } = sd := ⟨_, rfl⟩
  rw [hsd] at Id
  have std : tn 0 sd.heap := T.keep _ _ _ stc fun b _ o e => by rw [← hsd]; exact pushCells_keeps _ _ _ _ (Heap.get?_push_of_some _ e)
  have fpn : ∀ b ∈ fp, Hc b = none := fun b hb => (fc b hb).1.1
  have fpok : ∀ {σ' : L2.St} {H' : Hp} {s' : Shared}, Inv (X.blk sc Hc scope ce fp) [] σ' H' s' → (∀ b ∈ fp, H' b = none) → ∀ b ∈ fp, FpOk (X.blk sc Hc scope ce fp) [] H' b := fun I' hn b hb =>
    ⟨hn b hb, (I'.ok.exf b hb).1, I'.ok.exfs b hb, .inl hb, fun x c e => (I'.ok.exf b hb).2 x c e, fun p hp => by cases hp⟩
  have loop : codeAny (model X.prog X.w) X.A (.compLoop (.DictComp kx vx [⟨tg, iter, [], 0⟩] scope pos) 0 (.ref it) (.ref D) ce) R sd := by
    refine compLoop_anyD (fun n s' => ∃ i H', Inv (X.blk sc Hc scope ce fp) [] (wipe σ (own.map (·.2))) H' s' ∧ tn i s'.heap ∧ (∀ b ∈ fp, H' b = none) ∧ W i n H') ?_ m0 ⟨0, Hc, Id, std, fpn, w0⟩
    rintro n se ⟨i, He, Ie, ste, ne, we⟩
    rcases turn i n He we with ⟨stop, qq⟩ | ⟨go, Z, hZ, step⟩
    · refine thnF (T.done (X.blk sc Hc scope ce fp) rfl rfl rfl hc i [] se _ He (fun _ _ => False) Ie (fpok Ie ne) ste stop) fun r sf ⟨hr, If⟩ => ?_
      subst hr
      have Ig : Inv X pins σ He sf := Ic.call' (ch := fp) If.os If.base If.hok If.bare fun b hb => ⟨(fc b hb).1.2.2.2.1, (fc b hb).1.2.1, (fc b hb).1.2.2.2.2.1, (fc b hb).1.2.2.2.2.2⟩
      have nC : He sc.heap.objs.size = none := ceL ▸ (show He ce.locals = none from If.free)
      obtain ⟨m, hn, _⟩ := If.loc
      have hn : sf.heap.Ns sc.heap.objs.size m := ceL ▸ (show sf.heap.Ns ce.locals m from hn)
      rw [← hR]
      exact fin0 D _ sf m He Ig qq hn (Ic.fpOk (H' := He) (Nat.le_refl _) nC)
    · refine thnF (T.item (X.blk sc Hc scope ce fp) rfl rfl rfl hc i [] se _ He (fun _ _ => False) Ie (fpok Ie ne) ste go) fun r sf ⟨u, hr, hf⟩ => ?_
      subst hr
      refine thnF hf fun _ sg ⟨x, Hg, Ig, rg, yg, stg, ng⟩ => ?_
      refine thnF (pg.run _ sg _ Hg x u _ (Ig.pinned (fpok Ig ng) (T.obj _ _ stg)) rg (step x Hg yg)) fun _ sh ⟨σh, Hh, Ih, hwh, qh⟩ => ?_
      have fin : ∀ {s' : Shared} {H' : Hp}, Inv (X.blk sc Hc scope ce fp) ([] ++ pinsAt fp sg.heap) σh H' s' → Z H' → ∃ m, m < n ∧ ∃ i H', Inv (X.blk sc Hc scope ce fp) [] (wipe σ (own.map (·.2))) H' s' ∧ tn i s'.heap ∧ (∀ b ∈ fp, H' b = none) ∧ W i m H' := fun {s' H'} I' zz => by
        obtain ⟨m', lt, w'⟩ := hZ H' zz
        have pinned : ∀ b ∈ fp, ∀ o, sg.heap.get? b = some o → s'.heap.get? b = some o ∧ H' b = none := fun b hb o e =>
          have z := I'.pin (b, o) (List.mem_append_right _ (List.mem_append_right _ (mem_pinsAt hb e)))
          ⟨z.1, z.2.1⟩
        refine ⟨m', lt, i + 1, H', (I'.unpinned (pins := [])).weak (by rw [← hwh, wipe_length]) (fun j v e => (wipe_some (hwh ▸ e)).1), T.keep _ _ _ stg fun b hb o e => (pinned b hb o e).1, fun b hb => ?_, w'⟩
        obtain ⟨o, e, _⟩ := T.obj _ _ stg b hb
        exact (pinned b hb o e).2
      refine wpAny_pure ?_
      rw [if_pos rfl]
      refine thnF (pk.run _ sh σh Hh _ Ih qh) fun yv si ⟨y, Hi, Ii, ri, qi⟩ => ?_
      refine thnF (pe.run _ si σh Hi _ Ii qi) fun zv sj ⟨z, Hj, Ij, rj, kvs, k, b, ey, nd, kv, dp, hl, nx⟩ => ?_
      subst ey
      exact nd_dictSet (X := X.blk sc Hc scope ce fp) hu Ij nd kv dp hl ri rj fun s' H' np' I' => fin I' (nx H' np')
  have final := codeAny_compStart_dict loop (T.self X.A 0 _ _ _ std loop)
  rw [← hR, ← hce, ← hcl, ← hsd] at final
  subst hsc
  subst hD
  exact final
theorem pe_ndc {kx vx tg iter : Expr} {scope : Scope} {own : List (Str × Nat)} {pos : Pos} {wi : TI} {g : TG} {tk tv : TE} (hu : X.A.units + 64 < cLine) (hc : X.calm = true) (hN : X.N.Nodup) (hi : PI X tg iter wi) (ok : BlkOk X.N X.env.scope scope own)
    (hg : ∀ (s : Shared) (H : Hp) (C : Addr) (cl : List (Str × Addr)) (fp : List Addr), PG (X.blk s H scope (compEnvC scope cl C X.env) fp) tg g)
    (hk : ∀ (s : Shared) (H : Hp) (C : Addr) (cl : List (Str × Addr)) (fp : List Addr), PE (X.blk s H scope (compEnvC scope cl C X.env) fp) kx tk)
    (he : ∀ (s : Shared) (H : Hp) (C : Addr) (cl : List (Str × Addr)) (fp : List Addr), PE (X.blk s H scope (compEnvC scope cl C X.env) fp) vx tv) (hs : ∀ x, foldedSetIterable iter X.env x = pure x := by intro _; rfl) :
    PE X (.DictComp kx vx [⟨tg, iter, [], 0⟩] scope pos) (tNDc X.prog X.w X.K wi g tk tv (own.map (·.2))) := by
  refine ⟨fun pins s σ H Q I h => ?_⟩
  rw [arm_eval_DictComp]
  exact ndc_core (use := none) hu hc hN I hi ok hg hk he hs h fun D C sf m Hf If q hn ⟨f0, f1, f2, f3, f4, f5⟩ =>
    ⟨m, hn, fun h'' sbt => ⟨.ref D, Hf, If.turned (t' := sf.toks) (fun b o hb e => (sbt.2 b hb).trans e) f0 f1 f3 f4 f5, rfl, q⟩⟩
theorem sw_dict {kx vx : Expr} {gs : List Comprehension} {scope : Scope} {pos py : Pos} {y : Str} {l : Nat} {env : Env} (hk : env.scope.kind = .function) (hy : env.scope.names.lookup y = some .local) (hl : (py.line == pos.line) = true)
    (ha : (scope.names.any fun (n, k) => n == y && (k == .local || k == .cell)) = false) : swapsWith (.DictComp kx vx gs scope pos) (some (.Name y py)) l env = pure true := by
  unfold swapsWith Env.blockKind
  have ky : env.kindOf y = some .local := hy
  simp only [hk, ky, ha, Expr.pos, hl] <;> rfl
/-- name = {..} on one line, the name a local -/
theorem ps_setNDc {i : Nat} {y : Str} {py : Pos} {kx vx tg iter : Expr} {scope : Scope} {own : List (Str × Nat)} {pos spos : Pos} {wi : TI} {g : TG} {tk tv : TE} (hu : X.A.units + 64 < cLine) (hc : X.calm = true) (hN : X.N.Nodup) (hy : X.N[i]? = some y) (hyl : X.env.scope.names.lookup y = some .local)
    (hsw : swapsWith (.DictComp kx vx [⟨tg, iter, [], 0⟩] scope pos) (some (.Name y py)) spos.line X.env = pure true) (hi : PI X tg iter wi) (ok : BlkOk X.N X.env.scope scope own)
    (hg : ∀ (s : Shared) (H : Hp) (C : Addr) (cl : List (Str × Addr)) (fp : List Addr), PG (X.blk s H scope (compEnvC scope cl C X.env) fp) tg g)
    (hk : ∀ (s : Shared) (H : Hp) (C : Addr) (cl : List (Str × Addr)) (fp : List Addr), PE (X.blk s H scope (compEnvC scope cl C X.env) fp) kx tk)
    (he : ∀ (s : Shared) (H : Hp) (C : Addr) (cl : List (Str × Addr)) (fp : List Addr), PE (X.blk s H scope (compEnvC scope cl C X.env) fp) vx tv) (hs : ∀ x, foldedSetIterable iter X.env x = pure x := by intro _; rfl) :
    PS X (.Assign [.Name y py] (.DictComp kx vx [⟨tg, iter, [], 0⟩] scope pos) spos) (tAsg (tNDc X.prog X.w X.K wi g tk tv (own.map (·.2))) (gName i)) := by
  refine ⟨fun pins s σ H D I h => ?_⟩
  rw [exec_Assign_Name_used _ _ _ _ hsw]
  refine wpAny_bind (wpAny_standAt (wpAny_bind ?_))
  show wpAny _ X.A (do let _ ← comprehension (.DictComp kx vx [⟨tg, iter, [], 0⟩] scope pos) scope X.env (firstIterPos [⟨tg, iter, [], 0⟩] pos) newDict false (eval iter X.env) (some (assign (.Name y py) X.env))) _ _ s
  refine wpAny_bind (thn (ndc_core (F := fun _ sz => SP X pins D .next sz) (Q := fun x H1 => gName i x σ H1 D.nx) hu hc hN I hi ok hg hk he hs h fun L C sf m Hf If q hn ⟨f0, f1, f2, f3, f4, f5⟩ => ?_) fun _ sz hq => wpAny_pure (wpAny_pure hq))
  show wpAny _ _ (assign (.Name y py) X.env (.ref L)) _ _ _
  refine wpAny_assign_Name (store_ok2 (v := V.ref L) If hN hy (.inl hyl) rfl (fun sg Ig ⟨a, sb, ha⟩ => ?_) (.inr hyl))
  have apart : C ≠ a := ha.elim (fun z => z ▸ f1) fun z e => f4 y a z e.symm
  exact ⟨m, hn.sameBut sb apart, fun h3 sb3 => ⟨_, Hf, Ig.turned (t' := sg.toks) (fun b o hb e => (sb3.2 b hb).trans e) f0 f1 f3 f4 f5, q⟩⟩
/-- over a list that stays -/
theorem ndc_list {P : Program} {w : World} {K : PySem.W.Frag} {a : Addr} {xs : List V} {g : TG} {tk tv : TE} {vs : List Nat} {σ : L2.St} {D : Addr} {Hb : Hp} {Qd : Hp → Prop} (Pv : Nat → Hp → Prop) (h0 : Pv 0 Hb) (hl : ∀ i H, i ≤ xs.length → Pv i H → SqL K H a xs)
    (hs : ∀ i x H, xs[i]? = some x → Pv i H → g x (wipe σ vs) H fun σ2 Hd => wipe σ2 vs = wipe σ vs ∧ tk σ2 Hd fun y He => tv σ2 He fun z Hf => ∃ kvs k b, y = .ref b ∧ ND P w K Hf D kvs ∧ KeyV K Hf k y ∧ k.depth ≤ 8 ∧ kvs.length < sizeLine ∧
      ∀ Hg, NPut P w K Hf D (putK kvs k z) Hg → Pv (i + 1) Hg) (hd : ∀ H, Pv xs.length H → Qd H) :
    ∃ W : Nat → Nat → Hp → Prop, (∃ m, W 0 m Hb) ∧ ∀ i m H, W i m H → ((Itl K a).stop i H ∧ Qd H) ∨ ((Itl K a).go i H ∧ ∃ Z : Hp → Prop, (∀ H', Z H' → ∃ m', m' < m ∧ W (i + 1) m' H') ∧ ∀ x Hc, (Itl K a).yld i H x Hc → g x (wipe σ vs) Hc fun σ2 Hd => wipe σ2 vs = wipe σ vs ∧
      tk σ2 Hd fun y He => tv σ2 He fun z Hf => ∃ kvs k b, y = .ref b ∧ ND P w K Hf D kvs ∧ KeyV K Hf k y ∧ k.depth ≤ 8 ∧ kvs.length < sizeLine ∧ ∀ Hg, NPut P w K Hf D (putK kvs k z) Hg → Z Hg) := by
  refine ⟨fun i m H => (m = xs.length - i ∧ i ≤ xs.length) ∧ Pv i H, ⟨xs.length, ⟨rfl, Nat.zero_le _⟩, h0⟩, ?_⟩
  rintro i m H ⟨⟨rfl, hi⟩, p⟩
  have sq := hl i H hi p
  rcases Nat.lt_or_ge i xs.length with lt | ge
  · refine .inr ⟨⟨xs, xs[i], sq, by simp [lt]⟩, Pv (i + 1), fun H' p' => ⟨xs.length - (i + 1), by omega, ⟨rfl, lt⟩, p'⟩, fun x Hc y => ?_⟩
    obtain ⟨e, y⟩ := y
    subst e
    exact hs i x _ (y xs sq) p
  · have e : i = xs.length := Nat.le_antisymm hi ge
    subst e
    exact .inl ⟨⟨xs, sq, Nat.le_refl _⟩, hd H p⟩
end
end K23
/-! K23Mul -/
set_option Elab.async false
set_option linter.all false
set_option maxRecDepth 100000
set_option maxHeartbeats 4000000
/-! tuple * int, all counts from 1. -/
namespace K23
open PySem PySem.Spec PyProof.Rows L2
theorem mul_same (l : Addr) (items : Array Value) (n : Nat) (dd : Option Addr) (sl : Array (Option Value)) (x : Int) (u : Tok) (c0 : (decide (x < -(2 ^ 63)) || decide (x ≥ 2 ^ 63)) = false) (c1 : (items.isEmpty || x == 1) = true) :
    Meets (Builtin.«tuple.__mul__» ⟨[.ref l, .int x u], []⟩) (fun _ R s => s.heap.get? l = some { cls := .type "tuple", dict := dd, data := .seq items n, slots := sl } ∧ R (.ok (.ret (Value.ref l))) s) :=
  .of_wp fun prog w A R s h => by
    obtain ⟨hp, g, d, tk, os⟩ := s
    obtain ⟨hl, h⟩ := h
    have f1 := AutoSeq1.idx_int
    wp_walk using wpAny_loadPart' hl
    repeat (first
      | (refine wpAny_ite_false (decide_eq_false (by rw [c0]; exact Bool.false_ne_true)) ?_; wp_walk using wpAny_loadPart' hl)
      | (refine wpAny_ite_true (decide_eq_true (by rw [c1])) ?_; wp_walk using wpAny_loadPart' hl))
    exact ⟨_, rfl, h⟩
theorem flat_rep_nil : ∀ m : Nat, (List.replicate m ([] : List V)).flatten = []
  | 0 => rfl
  | m + 1 => by
    rw [List.replicate_succ, List.flatten_cons, flat_rep_nil m]
    rfl
/-- tuple * int -/
def rRepA (K : PySem.W.Frag) : R2 := fun x y H Q => ∃ l k xs, x = .ref l ∧ y = .int k ∧ SqT K H l xs ∧ 1 ≤ k ∧ k ≤ 1000 ∧ xs.length ≤ 1000 ∧ ∀ p H', Same H H' → SqT K H' p (List.replicate k.toNat xs).flatten → Q (.ref p) H'
section
variable {X : Cx}
theorem op_repA : OpR X (binaryOp .Mult) (rRepA X.K) := by
  intro pins s σ H x y v u Q I rx ry h
  obtain ⟨l, k, xs, rfl, rfl, hT, h1, h2, hz, q⟩ := h
  by_cases c : xs ≠ [] ∧ 2 ≤ k
  · exact op_repT (X := X) pins s σ H _ _ v u Q I rx ry ⟨l, k, xs, rfl, rfl, hT, c.1, c.2, h2, hz, fun p hp => q p _ (fun a o e => by rw [upd_ne (ne_of_none e hp)]; exact e) (SqT.of upd_same)⟩
  · have same : (List.replicate k.toNat xs).flatten = xs := by
      by_cases e : xs = []
      · subst e
        exact flat_rep_nil _
      · have : k = 1 := by
          have : ¬ 2 ≤ k := fun z => c ⟨e, z⟩
          omega
        subst this
        show xs ++ [] = xs
        exact List.append_nil xs
    cases rx
    obtain ⟨t, rfl⟩ := ry
    obtain ⟨its, r, ⟨⟨cls, dd, data, sl⟩, ho, hc, n, hd⟩, hs⟩ := I.tuple hT
    simp only at hc hd
    subst hc hd
    have c0 : (decide (k < -(2 ^ 63)) || decide (k ≥ 2 ^ 63)) = false := by
      rw [decide_eq_false (by omega), decide_eq_false (by omega)] <;> rfl
    have c1 : (its.toArray.isEmpty || k == 1) = true := by
      by_cases e : xs = []
      · subst e
        have : its = [] := List.eq_nil_of_length_eq_zero r.length.symm
        subst this
        rfl
      · have : k = 1 := by
          have : ¬ 2 ≤ k := fun z => c ⟨e, z⟩
          omega
        subst this
        exact Bool.or_true _
    refine wpAny_binaryOp_repeat_ref (T := "tuple") (U := "int") (by decide) ⟨_, ho, rfl⟩ (fun s' => typeIs_int s' k t) noFill_tuple_mul F.fills_int_mul F.slot_int_rmul repeat_tuple F.slot_int_index.lookup
      (call_meets F.slot_int_rmul (typeIs_int s k t) F.entry_int_rmul (F.args_int_rmul_2 _ _) (int_rmul_tuple k t l its.toArray n dd sl)
        ⟨ho, rfl, ⟨_, ho, rfl⟩, call_meets F.slot_tuple_mul ⟨_, ho, rfl⟩ F.entry_tuple_mul (F.args_tuple_mul_2 _ _) (mul_same l its.toArray n dd sl k t c0 c1) ⟨ho, ?_⟩⟩)
    exact ⟨.ref l, H, I.tok _, rfl, q l H (fun _ _ e => e) (by rw [same]; exact hT)⟩
end
end K23
/-! K23Base -/
set_option Elab.async false
set_option linter.all false
set_option maxRecDepth 100000
set_option maxHeartbeats 4000000
/-! The table of the top's facts, callables, nets. -/
namespace K23
open PySem PySem.Spec PyProof.Rows L2
abbrev NetC (K : PySem.W.Frag) : Addr := He.ga K "Net"
abbrev FD (K : PySem.W.Frag) (d : He.DefD) : Prop := ∃ fd, FunD K d.name d.qual d.params d.body d.scope [] [] (He.fAd K d.at_) fd
def glo0 : List Str := ["fits", "plain", "need_alike", "shifted", "union", "goal_pairs", "paired", "both", "deterministic", "other", "minus", "closer"]
def glo1 : List Str := ["distances", "leads_on", "least_letter", "first", "_law_numbers", "_law_parts", "_law_net", "_law_is_number", "_law_are_numbers", "_law_once", "_law_kept", "_law_is_plain"]
def glo2 : List Str := ["_law_is_configuration", "_law_moved", "_law_has_end", "_law_piles", "_law_tells", "_law_graph", "_law_distances", "_law_least", "_law_nets", "_law_term", "_law_truth", "_law_value"]
def glo3 : List Str := ["_law_meaning", "_law_agree", "law", "Net"]
def gloL : List Str := glo0 ++ glo1 ++ glo2 ++ glo3
def freL : List Str := ["len", "range", "tuple", "sorted", "set", "list", "isinstance", "int", "bool", "all", "any", "min", "enumerate"]
def noaL : List Str := ["states", "letters", "nodes", "edges", "ends", "_goals"]
def metL : List Str := ["goals", "moved", "has_end", "accepts"]
structure Tb (K : PySem.W.Frag) (mg : Str → Option Value) : Prop where
  glo : ∀ (i : Nat) (x : Str), gloL[i]? = some x → mg x = some (.ref (He.ga K x))
  fre : ∀ (i : Nat) (x : Str), freL[i]? = some x → mg x = none
  dfs : ∀ (i : Nat) (d : He.DefD), fnL[i]? = some d → FD K d
  cl : Cls K (NetC K)
  noa : ∀ (i : Nat) (x : Str), noaL[i]? = some x → NoAttr K (NetC K) x
  met : ∀ (i : Nat) (x : Str), metL[i]? = some x → Meth K (NetC K) x (He.ma K (NetC K) x)
  mkr : Mk K (NetC K) (He.ma K (NetC K) "__init__")
  pro : PropOf K (NetC K) "is_plain" (prA K) (grA K)
  get : ∃ fd, FunD K "is_plain" "Net.is_plain" (defArgs s_Net_is_plain) (defBody s_Net_is_plain) (defScope s_Net_is_plain) [] [] (grA K) fd
  ins : C8.InsC K (NetC K)
/-- a promise of a def from which nothing is raised -/
abbrev SpN := List V → Hp → VK → Prop
def Cal (P : Program) (w : World) (K : PySem.W.Frag) (mg : Str → Option Value) (base : Heap) (f : Addr) (k : Nat) (ps : List Str) (sp : SpN) : Prop :=
  ∃ fd, FnOk P w K mg base CX0 k f fd ps (fun vs H Q _ => sp vs H Q) ∧ PySem.W.keepIn K (.ref f) = true ∧ Binds K fd ps []
theorem cal_of {P : Program} {w : World} {K : PySem.W.Frag} {mg : Str → Option Value} {base : Heap} {x qual : Str} {params : Arguments} {bd : List Stmt} {sc : Scope} {f : Addr} {fd : FuncData} {N ps : List Str} {k : Nat} {sp : SpN} (F : FunD K x qual params bd sc [] [] f fd) (S : FnScope N ps sc)
    (hb : Binds K fd ps []) (len : ∀ vs H Q, sp vs H Q → vs.length = ps.length)
    (body : ∀ (cdv : Value) (A : Around) (outer : List Env) (s : Shared) (H : Hp) (vs : List V) (Q : VK) (E : XK), Room k (A.deeper (envOfC qual sc s.heap.objs.size f cdv)) → sp vs H Q →
      ∃ t, PSs (cxOf CX0 P w K mg base N qual sc f cdv A outer s H E).nox bd t ∧ t { nx := fun _ H' => Q .non H', rt := Q } (start N vs) H) : Cal P w K mg base f (k + 1) ps sp :=
  ⟨fd, F.ok S (fun vs H Q _ h => len vs H Q h) (fun cdv A outer s H vs Q E hr h => let ⟨t, h1, h2⟩ := body cdv A outer s H vs Q E hr h; ⟨t, h1.nox, h2⟩), F.kp, hb⟩
def tDo (sp : SpN) (t : TA) : TE := fun σ H Q => t σ H fun vs H1 => sp vs H1 Q
def tMe (K : PySem.W.Frag) (m : Str) (sp : SpN) (ta : TE) (t : TA) : TE := fun σ H Q => ta σ H fun x H1 => ∃ a dx fs, x = .ref a ∧ H1 a = some (.ins (NetC K) dx fs) ∧ fs.lookup m = none ∧ t σ H1 fun vs H2 => sp (x :: vs) H2 Q
def tMk (K : PySem.W.Frag) (sp : SpN) (t : TA) : TE := fun σ H Q => t σ H fun vs H1 => ∀ x dx, H1 x = none → H1 dx = none → dx ≠ x → sp (.ref x :: vs) (upd (upd H1 dx (.own x)) x (.ins (NetC K) dx [])) (fun v H2 => v = .non ∧ Q (.ref x) H2)
def tPr (K : PySem.W.Frag) (sp : SpN) (ta : TE) : TE := fun σ H Q => ta σ H fun x H1 => ∃ a dx fs, x = .ref a ∧ H1 a = some (.ins (NetC K) dx fs) ∧ sp [.ref a] H1 Q
theorem PE.to {X : Cx} {e : Expr} {t t' : TE} (h : PE X e t) (i : ∀ σ H Q, t' σ H Q → t σ H Q) : PE X e t' := ⟨fun pins s σ H Q I q => h.run pins s σ H Q I (i σ H Q q)⟩
section
variable {X : Cx} {f : Addr} {k : Nat} {ps : List Str} {sp : SpN} {x m : Str} {p pos apos : Pos} {e o : Expr} {es : List Expr} {t : TA} {ta : TE}
theorem app_nil_fun {A : Type} {vs : List A} {F : List A → Prop} (h : F vs) : F (vs ++ []) := by rw [List.append_nil]; exact h
theorem pcal (c : Cal X.prog X.w X.K X.mg X.base f k ps sp) (hr : Room k X.A) (hm : X.mg x = some (.ref f)) (ha : PA X (e :: es) t) (hg : Gl X x := by rfl) (hdb : (x == ("__debug__" : Str)) = false := by decide)
    (he : starEach (e :: es) X.env = (false, eval e X.env) :: starEach es X.env := by rfl) (hpl : (backTo pos (starEach es X.env)).any (·.1) = false := by rfl) : PE X (.Call (.Name x p) (e :: es) [] pos) (tDo sp t) := by
  obtain ⟨fd, F, kp, hb⟩ := c
  refine PE.to (pe_call F hr hg hm kp hb .nil pass0 ha hdb he hpl) fun σ H Q q => ?_
  unfold tDo at q
  unfold tCall
  have e : (fun (vs : List V) (H1 : Hp) => sp (vs ++ []) H1 Q) = fun vs H1 => sp vs H1 Q := by
    funext vs H1
    rw [List.append_nil]
  rw [e]
  exact q
theorem pmet {K : PySem.W.Frag} (hK : X.K = K) {pl : Sem Bool} (he : PE X o ta) (cl : Cls X.K (NetC K)) (hm : Meth X.K (NetC K) m f) (c : Cal X.prog X.w X.K X.mg X.base f k ps sp) (hr : Room k X.A) (ha : PA X (e :: es) t)
    (hst : starEach (e :: es) X.env = (false, eval e X.env) :: starEach es X.env := by rfl) (hpl : (backTo pos (starEach es X.env)).any (·.1) = false := by rfl)
    (ht : eval (.Call (.Attribute o m apos) (e :: es) [] pos) X.env = (do
      let ov ← eval o X.env
      standAt apos.atName
      let (f, first) ← holding [ov] (getMethod ov m pl)
      callWith pos f first (backTo pos (starEach (e :: es) X.env)) (backToKw pos (keywordEach [] X.env))) := by rfl) : PE X (.Call (.Attribute o m apos) (e :: es) [] pos) (tMe K m sp ta t) := by
  obtain ⟨fd, F, kp, hb⟩ := c
  refine PE.to (pe_meth he cl hm F hr hb .nil pass0 ha hst hpl ht) fun σ H Q q => ?_
  have e : (fun (x : V) (vs : List V) (H2 : Hp) => sp (x :: (vs ++ [])) H2 Q) = fun x vs H2 => sp (x :: vs) H2 Q := by
    funext x vs H2
    rw [List.append_nil]
  unfold tMeth
  show ta σ H fun x H1 => ∃ a dx fs, x = .ref a ∧ H1 a = some (.ins (NetC K) dx fs) ∧ fs.lookup m = none ∧ t σ H1 fun vs H2 => (fun (x : V) (vs : List V) (H2 : Hp) => sp (x :: (vs ++ [])) H2 Q) x vs H2
  rw [e]
  exact q
theorem pmak {K : PySem.W.Frag} (hK : X.K = K) (M : Mk X.K (NetC K) f) (c : Cal X.prog X.w X.K X.mg X.base f k ps sp) (hr : Room (k + 1) X.A) (hm : X.mg x = some (.ref (NetC K))) (ha : PA X (e :: es) t) (hg : Gl X x := by rfl) (hdb : (x == ("__debug__" : Str)) = false := by decide)
    (he : starEach (e :: es) X.env = (false, eval e X.env) :: starEach es X.env := by rfl) (hpl : (backTo pos (starEach es X.env)).any (·.1) = false := by rfl) : PE X (.Call (.Name x p) (e :: es) [] pos) (tMk K sp t) := by
  obtain ⟨fd, F, kp, hb⟩ := c
  refine PE.to (pe_make M F hr hg hm hb .nil pass0 ha hdb he hpl) fun σ H Q q => ?_
  unfold tMk at q
  unfold tMake
  have e : (fun (vs : List V) (H1 : Hp) => ∀ x dx, H1 x = none → H1 dx = none → dx ≠ x → sp (.ref x :: (vs ++ [])) (upd (upd H1 dx (.own x)) x (.ins (NetC K) dx [])) (fun v H2 => v = .non ∧ Q (.ref x) H2)) =
      fun vs H1 => ∀ x dx, H1 x = none → H1 dx = none → dx ≠ x → sp (.ref x :: vs) (upd (upd H1 dx (.own x)) x (.ins (NetC K) dx [])) (fun v H2 => v = .non ∧ Q (.ref x) H2) := by
    funext vs H1
    rw [List.append_nil]
  show t σ H (fun (vs : List V) (H1 : Hp) => ∀ x dx, H1 x = none → H1 dx = none → dx ≠ x → sp (.ref x :: (vs ++ [])) (upd (upd H1 dx (.own x)) x (.ins (NetC K) dx [])) (fun v H2 => v = .non ∧ Q (.ref x) H2))
  rw [e]
  exact q
theorem ppro {K : PySem.W.Frag} (hK : X.K = K) {p : Addr} (he : PE X e ta) (cl : Cls X.K (NetC K)) (hp : PropOf X.K (NetC K) m p f) (c : Cal X.prog X.w X.K X.mg X.base f k ps sp) (hr : Room (k + 1) X.A) (hab : attributeBase e m X.env (eval e X.env) = eval e X.env := by rfl) :
    PE X (.Attribute e m pos) (tPr K sp ta) := by
  obtain ⟨fd, F, kp, hb⟩ := c
  exact PE.to (pe_prop he cl hp F hr hb .nil pass0 hab) fun σ H Q q => q
theorem pfld {K : PySem.W.Frag} (hK : X.K = K) (he : PE X e ta) (hb : attributeBase e m X.env (eval e X.env) = eval e X.env := by rfl) : PE X (.Attribute e m pos) (tFld K ta m) := by
  subst hK
  exact pe_fld he hb
end
/-! ### readings by names -/
abbrev rPl : R2 := rI0 fun i j => .int (i + j)
abbrev rMi : R2 := rI0 fun i j => .int (i - j)
abbrev rTi : R2 := rI CMul fun i j => .int (i * j)
abbrev rFd : R2 := rI CDiv fun i j => .int (i / j)
abbrev rMo : R2 := rI (fun _ j => 0 < j) fun i j => .int (i % j)
abbrev rPw : R2 := rI CPow fun i j => .int (i ^ j.toNat)
abbrev rLt : R2 := rI0 fun i j => .bl (decide (i < j))
abbrev rLe : R2 := rI0 fun i j => .bl (decide (i ≤ j))
abbrev rEqI : R2 := rI0 fun i j => .bl (decide (i = j))
abbrev rNeI : R2 := rI0 fun i j => .bl (!decide (i = j))
section
variable {X : Cx}
theorem op_eqI : OpR X (compareOp .Eq) rEqI := opB0 fun _ _ _ _ _ _ _ q => eq_int (by rw [Bool.beq_eq_decide_eq]; exact q)
theorem op_neI : OpR X (compareOp .NotEq) rNeI := opB0 fun _ _ _ _ _ _ _ q => ne_int (by rw [bne, Bool.beq_eq_decide_eq]; exact q)
end
/-! ### builtins by names -/
def rLen2 (K : PySem.W.Frag) : List V → Hp → VK → Prop := fun xs H Q => ∃ p ys, xs = [.ref p] ∧ SqA K H p ys ∧ Q (.int ys.length) H
def rInt1 : List V → Hp → VK → Prop := fun xs H Q => (∃ i, xs = [.int i] ∧ Q (.int i) H) ∨ ∃ k, xs = [.bl k] ∧ Q (.int (if k then 1 else 0)) H
def rMin2 : List V → Hp → VK → Prop := fun xs H Q => ∃ i j, xs = [.int i, .int j] ∧ Q (.int (if j < i then j else i)) H
def rTupOf (K : PySem.W.Frag) : List V → Hp → VK → Prop := fun xs H Q => ∃ p ys, xs = [.ref p] ∧ SqA K H p ys ∧ ∀ l H', Same H H' → SqT K H' l ys → Q (.ref l) H'
def rListOf (K : PySem.W.Frag) : List V → Hp → VK → Prop := fun xs H Q => ∃ p ys, xs = [.ref p] ∧ SqA K H p ys ∧ ∀ l H', Same H H' → H l = none → H' l = some (.lst ys) → Q (.ref l) H'
def rIsNet (K : PySem.W.Frag) : List V → Hp → VK → Prop := fun xs H Q => ∃ a dx fs, xs = [.ref a, .ref (NetC K)] ∧ H a = some (.ins (NetC K) dx fs) ∧ Q (.bl true) H
def rIsntB : R2 := fun x y H Q => ∃ a b, x = .bl a ∧ y = .bl b ∧ Q (.bl (!decide (a = b))) H
theorem same_new {H : Hp} {p : Addr} {o : HO} (h : H p = none) : Same H (upd H p o) := fun a u e => by rw [upd_ne (ne_of_none e h)]; exact e
section
variable {X : Cx}
theorem call_len2 : CallR X (.builtin "len") (rLen2 X.K) := fun pins s σ H xs us Q I r h => call_len_seq pins s σ H xs us Q I r h
theorem call_int1n : CallR X (.type "int") rInt1 := fun pins s σ H xs us Q I r h => call_int1 pins s σ H xs us Q I r h
theorem call_min2n (hc : X.calm = true) : CallR X (.builtin "min") rMin2 := fun pins s σ H xs us Q I r h => call_min2 hc pins s σ H xs us Q I r h
theorem call_tuple_ofn : CallR X (.type "tuple") (rTupOf X.K) := fun pins s σ H xs us Q I r ⟨p, ys, e, h, q⟩ => call_tuple_of pins s σ H xs us Q I r ⟨p, ys, e, h.elim (fun z => .inl ⟨z, fun l hl => q l _ (same_new hl) (SqT.of upd_same)⟩) fun z => .inr ⟨z, q p H (Same.refl H) z⟩⟩
theorem call_list_ofn : CallR X (.type "list") (rListOf X.K) := fun pins s σ H xs us Q I r ⟨p, ys, e, h, q⟩ => call_list_of pins s σ H xs us Q I r ⟨p, ys, e, h, fun l hl => q l _ (same_new hl) hl upd_same⟩
theorem call_isNet (c : C8.InsC X.K (NetC X.K)) : CallR X (.builtin "isinstance") (rIsNet X.K) := fun pins s σ H xs us Q I r h => C8.call_isC c pins s σ H xs us Q I r h
theorem op_isntB : OpR X (compareOp .IsNot) rIsntB := fun pins s σ H x y v u Q I rx ry h => op_isnot_bl pins s σ H x y v u Q I rx ry h
end
theorem kb_len : bootBuiltins ("len" : Str) = some (.builtin "len") := by decide +kernel
theorem kb_tuple : bootBuiltins ("tuple" : Str) = some (.type "tuple") := by decide +kernel
theorem kb_sorted : bootBuiltins ("sorted" : Str) = some (.builtin "sorted") := by decide +kernel
theorem kb_set : bootBuiltins ("set" : Str) = some (.type "set") := by decide +kernel
theorem kb_list : bootBuiltins ("list" : Str) = some (.type "list") := by decide +kernel
theorem kb_isinstance : bootBuiltins ("isinstance" : Str) = some (.builtin "isinstance") := by decide +kernel
theorem kb_int : bootBuiltins ("int" : Str) = some (.type "int") := by decide +kernel
theorem kb_bool : bootBuiltins ("bool" : Str) = some (.type "bool") := by decide +kernel
theorem kb_all : bootBuiltins ("all" : Str) = some (.builtin "all") := by decide +kernel
theorem kb_any : bootBuiltins ("any" : Str) = some (.builtin "any") := by decide +kernel
theorem kb_min : bootBuiltins ("min" : Str) = some (.builtin "min") := by decide +kernel
theorem qbl {Q : VK} {c d : Bool} {H : Hp} (h : c = d) (q : Q (.bl d) H) : Q (.bl c) H := by rw [h]; exact q
theorem qin {Q : VK} {c d : Int} {H : Hp} (h : c = d) (q : Q (.int d) H) : Q (.int c) H := by rw [h]; exact q
theorem iteY {c : Bool} {A B : Prop} (h : c = true) (a : A) : if c = true then A else B := by rw [if_pos h]; exact a
theorem iteN {c : Bool} {A B : Prop} (h : c = false) (b : B) : if c = true then A else B := by rw [if_neg (by rw [h]; decide)]; exact b
theorem iteB {c : Bool} {A B : Prop} (h1 : c = true → A) (h2 : c = false → B) : if c = true then A else B := by
  cases c with
  | true => exact iteY rfl (h1 rfl)
  | false => exact iteN rfl (h2 rfl)
/-! ### heaps -/
theorem same_put {H0 H : Hp} {p : Addr} {o : HO} (s : Same H0 H) (h : H0 p = none) : Same H0 (upd H p o) := fun a u e => by rw [upd_ne (ne_of_none e h)]; exact s a u e
theorem Same.tup {K : PySem.W.Frag} {H H' : Hp} {a : Addr} {xs : List V} (e : Same H H') (h : SqT K H a xs) : SqT K H' a xs := sameT e a xs h
theorem same_nput {P : Program} {w : World} {K : PySem.W.Frag} {H0 H H' : Hp} {p : Addr} {kvs : List (NestedKey × V)} (s : Same H0 H) (h : H0 p = none) (n : NPut P w K H p kvs H') : Same H0 H' := fun a u e => by rw [n.2 a (ne_of_none e h)]; exact s a u e
theorem sz1000 {n : Nat} (h : n ≤ 1000) : n ≤ sizeLine := Nat.le_of_lt (small1000 h)
end K23
/-! K23Net -/
set_option Elab.async false
set_option linter.all false
set_option maxRecDepth 100000
set_option maxHeartbeats 4000000
/-! Nets: the plain data, what stands in the heap. -/
namespace K23
open PySem PySem.Spec PyProof.Rows L2
abbrev Tr := Nat × Nat × Nat
structure Net where
  S : Nat
  L : Nat
  n : Nat
  E : List Tr
  F : List Nat
def trV (e : Tr) : List V := [.int e.1, .int e.2.1, .int e.2.2]
def trI (e : Tr) : List Int := [e.1, e.2.1, e.2.2]
def nV (ns : List Nat) : List V := ns.map fun (n : Nat) => V.int (n : Int)
def nI (ns : List Nat) : List Int := ns.map fun (n : Nat) => (n : Int)
theorem nV_I (ns : List Nat) : nV ns = (nI ns).map V.int := by
  unfold nV nI
  rw [List.map_map]
  rfl
/-- the goals of a node by a letter -/
def goalsE (E : List Tr) (x l : Nat) : List Nat := (E.filter fun e => decide (e.1 = x ∧ e.2.1 = l)).map (·.2.2)
theorem mem_goalsE {E : List Tr} {x l y : Nat} : y ∈ goalsE E x l ↔ (x, l, y) ∈ E := by
  unfold goalsE
  rw [List.mem_map]
  constructor
  · rintro ⟨⟨a, b, c⟩, h, rfl⟩
    rw [List.mem_filter] at h
    obtain ⟨h1, h2⟩ := h
    obtain ⟨rfl, rfl⟩ := of_decide_eq_true h2
    exact h1
  · intro h
    exact ⟨(x, l, y), List.mem_filter.mpr ⟨h, decide_eq_true ⟨rfl, rfl⟩⟩, rfl⟩
theorem goalsE_len (E : List Tr) (x l : Nat) : (goalsE E x l).length ≤ E.length := by
  unfold goalsE
  rw [List.length_map]
  exact List.length_filter_le _ _
/-- sorted, each once -/
def insS (y : Nat) : List Nat → List Nat
  | [] => [y]
  | z :: r => if y < z then y :: z :: r else if y = z then z :: r else z :: insS y r
theorem mem_insS {y x : Nat} : ∀ {r : List Nat}, x ∈ insS y r ↔ x = y ∨ x ∈ r
  | [] => by simp [insS]
  | z :: r => by
    unfold insS
    split
    · simp
    · split
      · rename_i h1 h2
        subst h2
        simp
      · rw [List.mem_cons, mem_insS, List.mem_cons]
        constructor
        · rintro (h | h | h)
          · exact .inr (.inl h)
          · exact .inl h
          · exact .inr (.inr h)
        · rintro (h | h | h)
          · exact .inr (.inl h)
          · exact .inl h
          · exact .inr (.inr h)
theorem insS_sorted {y : Nat} : ∀ {r : List Nat}, r.Pairwise (· < ·) → (insS y r).Pairwise (· < ·)
  | [], _ => List.pairwise_singleton _ _
  | z :: r, h => by
    obtain ⟨h1, h2⟩ := List.pairwise_cons.mp h
    unfold insS
    split
    · rename_i lt
      refine List.pairwise_cons.mpr ⟨fun a ha => ?_, h⟩
      rcases List.mem_cons.mp ha with rfl | ha
      · exact lt
      · exact Nat.lt_trans lt (h1 a ha)
    · split
      · exact h
      · rename_i n1 n2
        refine List.pairwise_cons.mpr ⟨fun a ha => ?_, insS_sorted h2⟩
        rcases mem_insS.mp ha with rfl | ha
        · omega
        · exact h1 a ha
def sortS (l : List Nat) : List Nat := l.foldr insS []
theorem mem_sortS {x : Nat} : ∀ {l : List Nat}, x ∈ sortS l ↔ x ∈ l
  | [] => Iff.rfl
  | y :: l => by
    show x ∈ insS y (sortS l) ↔ _
    rw [mem_insS, mem_sortS, List.mem_cons]
theorem sortS_sorted : ∀ l : List Nat, (sortS l).Pairwise (· < ·)
  | [] => List.Pairwise.nil
  | y :: l => insS_sorted (sortS_sorted l)
/-- two sorted lists of the same members -/
theorem sorted_ext : ∀ {a b : List Nat}, a.Pairwise (· < ·) → b.Pairwise (· < ·) → (∀ x, x ∈ a ↔ x ∈ b) → a = b
  | [], [], _, _, _ => rfl
  | [], y :: b, _, _, h => absurd ((h y).mpr List.mem_cons_self) (by simp)
  | x :: a, [], _, _, h => absurd ((h x).mp List.mem_cons_self) (by simp)
  | x :: a, y :: b, ha, hb, h => by
    obtain ⟨a1, a2⟩ := List.pairwise_cons.mp ha
    obtain ⟨b1, b2⟩ := List.pairwise_cons.mp hb
    have e : x = y := by
      have h1 := (h x).mp List.mem_cons_self
      have h2 := (h y).mpr List.mem_cons_self
      rcases List.mem_cons.mp h1 with e | m
      · exact e
      · rcases List.mem_cons.mp h2 with e | m2
        · exact e.symm
        · have := b1 x m
          have := a1 y m2
          omega
    subst e
    refine congrArg _ (sorted_ext a2 b2 fun z => ?_)
    constructor
    · intro m
      rcases List.mem_cons.mp ((h z).mp (List.mem_cons_of_mem _ m)) with e | m2
      · subst e
        have := a1 z m
        omega
      · exact m2
    · intro m
      rcases List.mem_cons.mp ((h z).mpr (List.mem_cons_of_mem _ m)) with e | m2
      · subst e
        have := b1 z m
        omega
      · exact m2
/-- the nodes that a letter leads to -/
def mvE (E : List Tr) (g : List Nat) (l : Nat) : List Nat := sortS (g.flatMap fun x => goalsE E x l)
theorem mem_mvE {E : List Tr} {g : List Nat} {l y : Nat} : y ∈ mvE E g l ↔ ∃ x ∈ g, (x, l, y) ∈ E := by
  unfold mvE
  rw [mem_sortS, List.mem_flatMap]
  exact ⟨fun ⟨x, h1, h2⟩ => ⟨x, h1, mem_goalsE.mp h2⟩, fun ⟨x, h1, h2⟩ => ⟨x, h1, mem_goalsE.mpr h2⟩⟩
theorem mvE_sorted (E : List Tr) (g : List Nat) (l : Nat) : (mvE E g l).Pairwise (· < ·) := sortS_sorted _
def runE (E : List Tr) (g : List Nat) (w : List Nat) : List Nat := w.foldl (mvE E) g
/-- the configuration is accepted -/
def Net.acc (N : Net) (s : Nat) (w : List Nat) : Bool := (runE N.E [s] w).any fun x => decide (x ∈ N.F)
def trLt (a b : Tr) : Prop := a.1 < b.1 ∨ (a.1 = b.1 ∧ (a.2.1 < b.2.1 ∨ (a.2.1 = b.2.1 ∧ a.2.2 < b.2.2)))
instance (a b : Tr) : Decidable (trLt a b) := by unfold trLt; infer_instance
structure Wf (N : Net) : Prop where
  s1 : 1 ≤ N.S
  l1 : 1 ≤ N.L
  l2 : N.L ≤ 2
  sn : N.S ≤ N.n
  n1 : N.n ≤ 49152
  en : N.E.length ≤ 8388606
  es : N.E.Pairwise trLt
  ef : ∀ e ∈ N.E, e.1 < N.n ∧ e.2.1 < N.L ∧ e.2.2 < N.n
  fs : N.F.Pairwise (· < ·)
  ff : ∀ x ∈ N.F, x < N.n
/-! ### in the heap -/
abbrev TrsAt (K : PySem.W.Frag) (H : Hp) (ps : List Addr) (es : List Tr) : Prop := Paired (fun p e => SqT K H p (trV e)) ps es
def EdT (K : PySem.W.Frag) (H : Hp) (a : Addr) (es : List Tr) : Prop := ∃ ps, SqT K H a (ps.map V.ref) ∧ TrsAt K H ps es
def EdL (K : PySem.W.Frag) (H : Hp) (a : Addr) (es : List Tr) : Prop := ∃ ps, SqL K H a (ps.map V.ref) ∧ TrsAt K H ps es
/-- at b a tuple of two ints (as a key) -/
def GoalsAt (P : Program) (w : World) (K : PySem.W.Frag) (H : Hp) (d : Addr) (E : List Tr) : Prop := ∃ kvs, ND P w K H d kvs ∧
  ∀ x l : Nat, (valV kvs (nkI [x, l]) = none ∧ goalsE E x l = []) ∨ ∃ b, valV kvs (nkI [x, l]) = some (.ref b) ∧ SqL K H b (nV (goalsE E x l))
def fsN (N : Net) (pe pf pd : Addr) : List (Str × V) := [("states", .int N.S), ("letters", .int N.L), ("nodes", .int N.n), ("edges", .ref pe), ("ends", .ref pf), ("_goals", .ref pd)]
def NetAt (P : Program) (w : World) (K : PySem.W.Frag) (H : Hp) (a : Addr) (N : Net) : Prop := Wf N ∧ ∃ dx pe pf pd, H a = some (.ins (NetC K) dx (fsN N pe pf pd)) ∧ EdT K H pe N.E ∧ SqT K H pf (nV N.F) ∧ GoalsAt P w K H pd N.E
section
variable {P : Program} {w : World} {K : PySem.W.Frag} {H H' : Hp}
theorem Paired.imp {α β : Type} {R S : α → β → Prop} (h : ∀ a b, R a b → S a b) : ∀ {l : List α} {m : List β}, Paired R l m → Paired S l m
  | _, _, .nil => .nil
  | _, _, .cons r t => .cons (h _ _ r) (Paired.imp h t)
theorem trs_same (s : Same H H') {ps : List Addr} {es : List Tr} (h : TrsAt K H ps es) : TrsAt K H' ps es := Paired.imp (fun _ _ r => Same.tup s r) h
theorem EdT.same {a : Addr} {es : List Tr} (h : EdT K H a es) (s : Same H H') : EdT K H' a es := let ⟨ps, h1, h2⟩ := h; ⟨ps, Same.tup s h1, trs_same s h2⟩
theorem EdL.same {a : Addr} {es : List Tr} (h : EdL K H a es) (s : Same H H') : EdL K H' a es := let ⟨ps, h1, h2⟩ := h; ⟨ps, s.seq h1, trs_same s h2⟩
theorem GoalsAt.same {d : Addr} {E : List Tr} (h : GoalsAt P w K H d E) (s : Same H H') : GoalsAt P w K H' d E := by
  obtain ⟨kvs, h1, h2⟩ := h
  refine ⟨kvs, h1.same s, fun x l => ?_⟩
  rcases h2 x l with h | ⟨b, h, q⟩
  · exact .inl h
  · exact .inr ⟨b, h, s.seq q⟩
theorem NetAt.same {a : Addr} {N : Net} (h : NetAt P w K H a N) (s : Same H H') : NetAt P w K H' a N := by
  obtain ⟨hw, dx, pe, pf, pd, h1, h2, h3, h4⟩ := h
  exact ⟨hw, dx, pe, pf, pd, s _ _ h1, h2.same s, Same.tup s h3, h4.same s⟩
theorem trs_get : ∀ {ps : List Addr} {es : List Tr} {i : Nat} {v : V}, TrsAt K H ps es → (ps.map V.ref)[i]? = some v → ∃ p e, v = .ref p ∧ es[i]? = some e ∧ SqT K H p (trV e)
  | _, _, _, _, .nil, h => by simp at h
  | _, _, 0, v, .cons r t, h => by
    simp at h
    subst h
    exact ⟨_, _, rfl, rfl, r⟩
  | _, _, i + 1, v, .cons r t, h => by
    obtain ⟨p, e, h1, h2, h3⟩ := trs_get (i := i) (v := v) t (by simpa using h)
    exact ⟨p, e, h1, by simpa using h2, h3⟩
theorem trs_len {ps : List Addr} {es : List Tr} (h : TrsAt K H ps es) : (ps.map V.ref).length = es.length := by
  rw [List.length_map]
  exact Paired.length h
theorem nV_get {ns : List Nat} {i : Nat} {v : V} (h : (nV ns)[i]? = some v) : ∃ n : Nat, v = .int (n : Int) ∧ ns[i]? = some n := by
  unfold nV at h
  rw [List.getElem?_map] at h
  cases e : ns[i]? with
  | none => rw [e] at h; cases h
  | some n =>
    rw [e] at h
    exact ⟨n, (Option.some.inj h).symm, rfl⟩
theorem nV_len (ns : List Nat) : (nV ns).length = ns.length := by unfold nV; exact List.length_map _
theorem nV_snoc (ns : List Nat) (n : Nat) : nV ns ++ [V.int n] = nV (ns ++ [n]) := by
  unfold nV
  rw [List.map_append]
  rfl
theorem take_snoc {α : Type} {xs : List α} {i : Nat} {x : α} (h : xs[i]? = some x) : xs.take (i + 1) = xs.take i ++ [x] := by
  obtain ⟨lt, e⟩ := List.getElem?_eq_some_iff.mp h
  rw [List.take_add_one, h]
  rfl
theorem flatV_nV (ns : List Nat) : (nV ns).all flatV = true := by
  rw [List.all_eq_true]
  intro v hv
  obtain ⟨n, _, rfl⟩ := List.mem_map.mp hv
  rfl
theorem inV_nV (x : Nat) (ns : List Nat) : inV (.int x) (nV ns) = decide (x ∈ ns) := by
  unfold inV nV
  rw [List.any_map]
  by_cases h : x ∈ ns
  · rw [decide_eq_true h, List.any_eq_true]
    exact ⟨x, h, by simp [eqV]⟩
  · rw [decide_eq_false h, List.any_eq_false]
    intro y hy e
    have e2 : eqV (V.int y) (V.int x) = true := e
    have : y = x := by
      simp [eqV] at e2
      exact Int.ofNat.inj e2
    subst this
    exact h hy
end
end K23
/-! K23Loop -/
set_option Elab.async false
set_option linter.all false
set_option maxRecDepth 100000
set_option maxHeartbeats 4000000
/-! Walks over a list or a tuple, comprehensions by what is made, sorted sets of nets. -/
namespace K23
open PySem PySem.Spec PyProof.Rows L2
def iOr (a b : TI) : TI := fun σ H R => a σ H R ∨ b σ H R
theorem pi_or {X : Cx} {tg iter : Expr} {a b : TI} (h1 : PI X tg iter a) (h2 : PI X tg iter b) : PI X tg iter (iOr a b) := ⟨fun pins s σ H R I h => h.elim (h1.run pins s σ H R I) (h2.run pins s σ H R I)⟩
section
variable {P : Program} {w : World} {K : PySem.W.Frag} {a : Addr} {xs : List V} {g : TG} {tt : TT} {te : TE} {vs : List Nat} {σ : L2.St} {H1 : Hp} {D : Addr} {Qd : Hp → Prop}
/-- a turn of a comprehension: from what is made to what is made then -/
def Trn (H1 : Hp) (D : Addr) (g : TG) (tt : TT) (te : TE) (vs : List Nat) (σ : L2.St) (x : V) (G : Hp) (to : List V) : Prop := g x (wipe σ vs) G fun σ2 H2 => wipe σ2 vs = wipe σ vs ∧ tt σ2 H2 fun b H3 =>
  if b = true then te σ2 H3 fun y H4 => ∃ acc, H4 D = some (.lst acc) ∧ acc.length < sizeLine ∧ Same H1 (upd H4 D (.lst (acc ++ [y]))) ∧ acc ++ [y] = to else Same H1 H3 ∧ H3 D = some (.lst to)
theorem lcL (acc : Nat → List V) (hD : H1 D = none) (hx : SqL K H1 a xs) (h0 : acc 0 = []) (hs : ∀ i x G, xs[i]? = some x → Same H1 G → G D = some (.lst (acc i)) → Trn H1 D g tt te vs σ x G (acc (i + 1))) (hd : ∀ G, Same H1 G → G D = some (.lst (acc xs.length)) → Qd G) :
    ∃ W : Nat → Nat → Hp → Prop, (∃ m, W 0 m (upd H1 D (.lst []))) ∧ ∀ i m H, W i m H →
      ((Itl K a).stop i H ∧ Qd H) ∨ ((Itl K a).go i H ∧ ∃ Nx : Hp → Prop, (∀ H', Nx H' → ∃ m', m' < m ∧ W (i + 1) m' H') ∧ ∀ x H', (Itl K a).yld i H x H' → g x (wipe σ vs) H' fun σ2 H2 => wipe σ2 vs = wipe σ vs ∧ tt σ2 H2 fun b H3 =>
        if b = true then te σ2 H3 fun y H4 => ∃ acc, H4 D = some (.lst acc) ∧ acc.length < sizeLine ∧ Nx (upd H4 D (.lst (acc ++ [y]))) else Nx H3) := by
  refine ⟨fun i m G => (m = xs.length - i ∧ i ≤ xs.length) ∧ Same H1 G ∧ G D = some (.lst (acc i)), ⟨xs.length, ⟨rfl, Nat.zero_le _⟩, same_new hD, by rw [h0]; exact upd_same⟩, ?_⟩
  rintro i m G ⟨⟨rfl, hi⟩, sm, hG⟩
  have sq := sm.seq hx
  rcases Nat.lt_or_ge i xs.length with lt | ge
  · refine .inr ⟨⟨xs, xs[i], sq, by simp [lt]⟩, fun G => Same H1 G ∧ G D = some (.lst (acc (i + 1))), fun H' p' => ⟨xs.length - (i + 1), by omega, ⟨rfl, lt⟩, p'⟩, fun x Hc y => ?_⟩
    obtain ⟨e, y⟩ := y
    subst e
    have := hs i x _ (y xs sq) sm hG
    unfold Trn at this
    have conv : (fun (y : V) (H4 : Hp) => ∃ ac, H4 D = some (.lst ac) ∧ ac.length < sizeLine ∧ Same H1 (upd H4 D (.lst (ac ++ [y]))) ∧ ac ++ [y] = acc (i + 1)) = fun y H4 => ∃ ac, H4 D = some (.lst ac) ∧ ac.length < sizeLine ∧ Same H1 (upd H4 D (.lst (ac ++ [y]))) ∧ upd H4 D (.lst (ac ++ [y])) D = some (.lst (acc (i + 1))) := by
      funext y H4
      refine propext ⟨fun ⟨ac, h1, h2, h3, h4⟩ => ⟨ac, h1, h2, h3, by rw [h4]; exact upd_same⟩, fun ⟨ac, h1, h2, h3, h4⟩ => ⟨ac, h1, h2, h3, ?_⟩⟩
      rw [upd_same] at h4
      exact HO.lst.inj (Option.some.inj h4)
    rw [conv] at this
    exact this
  · have e : i = xs.length := Nat.le_antisymm hi ge
    subst e
    exact .inl ⟨⟨xs, sq, Nat.le_refl _⟩, hd G sm hG⟩
theorem lcT (acc : Nat → List V) (hD : H1 D = none) (hx : SqT K H1 a xs) (h0 : acc 0 = []) (hs : ∀ i x G, xs[i]? = some x → Same H1 G → G D = some (.lst (acc i)) → Trn H1 D g tt te vs σ x G (acc (i + 1))) (hd : ∀ G, Same H1 G → G D = some (.lst (acc xs.length)) → Qd G) :
    ∃ W : Nat → Nat → Hp → Prop, (∃ m, W 0 m (upd H1 D (.lst []))) ∧ ∀ i m H, W i m H →
      ((Itt K a).stop i H ∧ Qd H) ∨ ((Itt K a).go i H ∧ ∃ Nx : Hp → Prop, (∀ H', Nx H' → ∃ m', m' < m ∧ W (i + 1) m' H') ∧ ∀ x H', (Itt K a).yld i H x H' → g x (wipe σ vs) H' fun σ2 H2 => wipe σ2 vs = wipe σ vs ∧ tt σ2 H2 fun b H3 =>
        if b = true then te σ2 H3 fun y H4 => ∃ acc, H4 D = some (.lst acc) ∧ acc.length < sizeLine ∧ Nx (upd H4 D (.lst (acc ++ [y]))) else Nx H3) := by
  refine ⟨fun i m G => (m = xs.length - i ∧ i ≤ xs.length) ∧ Same H1 G ∧ G D = some (.lst (acc i)), ⟨xs.length, ⟨rfl, Nat.zero_le _⟩, same_new hD, by rw [h0]; exact upd_same⟩, ?_⟩
  rintro i m G ⟨⟨rfl, hi⟩, sm, hG⟩
  have sq := Same.tup sm hx
  rcases Nat.lt_or_ge i xs.length with lt | ge
  · refine .inr ⟨⟨xs, xs[i], sq, by simp [lt]⟩, fun G => Same H1 G ∧ G D = some (.lst (acc (i + 1))), fun H' p' => ⟨xs.length - (i + 1), by omega, ⟨rfl, lt⟩, p'⟩, fun x Hc y => ?_⟩
    obtain ⟨e, y⟩ := y
    subst e
    have := hs i x _ (y xs sq) sm hG
    unfold Trn at this
    have conv : (fun (y : V) (H4 : Hp) => ∃ ac, H4 D = some (.lst ac) ∧ ac.length < sizeLine ∧ Same H1 (upd H4 D (.lst (ac ++ [y]))) ∧ ac ++ [y] = acc (i + 1)) = fun y H4 => ∃ ac, H4 D = some (.lst ac) ∧ ac.length < sizeLine ∧ Same H1 (upd H4 D (.lst (ac ++ [y]))) ∧ upd H4 D (.lst (ac ++ [y])) D = some (.lst (acc (i + 1))) := by
      funext y H4
      refine propext ⟨fun ⟨ac, h1, h2, h3, h4⟩ => ⟨ac, h1, h2, h3, by rw [h4]; exact upd_same⟩, fun ⟨ac, h1, h2, h3, h4⟩ => ⟨ac, h1, h2, h3, ?_⟩⟩
      rw [upd_same] at h4
      exact HO.lst.inj (Option.some.inj h4)
    rw [conv] at this
    exact this
  · have e : i = xs.length := Nat.le_antisymm hi ge
    subst e
    exact .inl ⟨⟨xs, sq, Nat.le_refl _⟩, hd G sm hG⟩
theorem lcR {lo : Int} {n : Nat} (acc : Nat → List V) (hD : H1 D = none) (h0 : acc 0 = []) (hs : ∀ i G, i < n → Same H1 G → G D = some (.lst (acc i)) → Trn H1 D g tt te vs σ (.int (lo + (i : Nat))) G (acc (i + 1))) (hd : ∀ G, Same H1 G → G D = some (.lst (acc n)) → Qd G) :
    ∃ W : Nat → Nat → Hp → Prop, (∃ m, W 0 m (upd H1 D (.lst []))) ∧ ∀ i m H, W i m H →
      ((Itr lo n).stop i H ∧ Qd H) ∨ ((Itr lo n).go i H ∧ ∃ Nx : Hp → Prop, (∀ H', Nx H' → ∃ m', m' < m ∧ W (i + 1) m' H') ∧ ∀ x H', (Itr lo n).yld i H x H' → g x (wipe σ vs) H' fun σ2 H2 => wipe σ2 vs = wipe σ vs ∧ tt σ2 H2 fun b H3 =>
        if b = true then te σ2 H3 fun y H4 => ∃ acc, H4 D = some (.lst acc) ∧ acc.length < sizeLine ∧ Nx (upd H4 D (.lst (acc ++ [y]))) else Nx H3) := by
  refine ⟨fun i m G => (m = n - i ∧ i ≤ n) ∧ Same H1 G ∧ G D = some (.lst (acc i)), ⟨n, ⟨rfl, Nat.zero_le _⟩, same_new hD, by rw [h0]; exact upd_same⟩, ?_⟩
  rintro i m G ⟨⟨rfl, hi⟩, sm, hG⟩
  rcases Nat.lt_or_ge i n with lt | ge
  · refine .inr ⟨lt, fun G => Same H1 G ∧ G D = some (.lst (acc (i + 1))), fun H' p' => ⟨n - (i + 1), by omega, ⟨rfl, lt⟩, p'⟩, fun x Hc y => ?_⟩
    obtain ⟨e, y⟩ := y
    subst e
    subst y
    have := hs i _ lt sm hG
    unfold Trn at this
    have conv : (fun (y : V) (H4 : Hp) => ∃ ac, H4 D = some (.lst ac) ∧ ac.length < sizeLine ∧ Same H1 (upd H4 D (.lst (ac ++ [y]))) ∧ ac ++ [y] = acc (i + 1)) = fun y H4 => ∃ ac, H4 D = some (.lst ac) ∧ ac.length < sizeLine ∧ Same H1 (upd H4 D (.lst (ac ++ [y]))) ∧ upd H4 D (.lst (ac ++ [y])) D = some (.lst (acc (i + 1))) := by
      funext y H4
      refine propext ⟨fun ⟨ac, h1, h2, h3, h4⟩ => ⟨ac, h1, h2, h3, by rw [h4]; exact upd_same⟩, fun ⟨ac, h1, h2, h3, h4⟩ => ⟨ac, h1, h2, h3, ?_⟩⟩
      rw [upd_same] at h4
      exact HO.lst.inj (Option.some.inj h4)
    rw [conv] at this
    exact this
  · have e : i = n := Nat.le_antisymm hi ge
    subst e
    exact .inl ⟨Nat.le_refl _, hd G sm hG⟩
end
section
variable {P : Program} {w : World} {K : PySem.W.Frag} {a : Addr} {xs : List V} {g : TG} {tt : TT} {te tl : TE} {ta : TA} {vs : List Nat} {σ : L2.St} {H : Hp} {Q : VK}
theorem tlcL (hte : ∀ R : VK, R (.ref a) H → tl σ H R) (hx : SqL K H a xs) (acc : Nat → List V) (h0 : acc 0 = []) (hs : ∀ D, H D = none → ∀ i x G, xs[i]? = some x → Same H G → G D = some (.lst (acc i)) → Trn H D g tt te vs σ x G (acc (i + 1)))
    (hd : ∀ D, H D = none → ∀ G, Same H G → G D = some (.lst (acc xs.length)) → Q (.ref D) G) : tLc (iList K tl) g tt te vs σ H Q :=
  hte _ ⟨a, rfl, ⟨xs, hx⟩, fun D hD => lcL acc hD hx h0 (hs D hD) (hd D hD)⟩
theorem tlcT (hte : ∀ R : VK, R (.ref a) H → tl σ H R) (hx : SqT K H a xs) (acc : Nat → List V) (h0 : acc 0 = []) (hs : ∀ D, H D = none → ∀ i x G, xs[i]? = some x → Same H G → G D = some (.lst (acc i)) → Trn H D g tt te vs σ x G (acc (i + 1)))
    (hd : ∀ D, H D = none → ∀ G, Same H G → G D = some (.lst (acc xs.length)) → Q (.ref D) G) : tLc (iTup K tl) g tt te vs σ H Q :=
  hte _ ⟨a, rfl, ⟨xs, hx⟩, fun D hD => lcT acc hD hx h0 (hs D hD) (hd D hD)⟩
theorem tlcA (hte : ∀ R : VK, R (.ref a) H → tl σ H R) (hx : SqA K H a xs) (acc : Nat → List V) (h0 : acc 0 = []) (hs : ∀ D, H D = none → ∀ i x G, xs[i]? = some x → Same H G → G D = some (.lst (acc i)) → Trn H D g tt te vs σ x G (acc (i + 1)))
    (hd : ∀ D, H D = none → ∀ G, Same H G → G D = some (.lst (acc xs.length)) → Q (.ref D) G) : tLc (iOr (iList K tl) (iTup K tl)) g tt te vs σ H Q :=
  hx.elim (fun z => .inl (tlcL hte z acc h0 hs hd)) fun z => .inr (tlcT hte z acc h0 hs hd)
theorem tlcR {n : Nat} (hte : ∀ R : List V → Hp → Prop, R [.int (n : Nat)] H → ta σ H R) (hn : n < 2 ^ 62) (acc : Nat → List V) (h0 : acc 0 = []) (hs : ∀ D, H D = none → ∀ i G, i < n → Same H G → G D = some (.lst (acc i)) → Trn H D g tt te vs σ (.int (i : Nat)) G (acc (i + 1)))
    (hd : ∀ D, H D = none → ∀ G, Same H G → G D = some (.lst (acc n)) → Q (.ref D) G) : tLc (iRng1 ta) g tt te vs σ H Q := by
  refine hte _ ⟨(n : Int), rfl, by omega, by omega, fun D hD => ?_⟩
  rw [show ((n : Nat) : Int).toNat = n from Int.toNat_natCast n]
  refine lcR acc hD h0 (fun i G hi s hG => ?_) (hd D hD)
  rw [Int.zero_add]
  exact hs D hD i G hi s hG
end
/-! ### loops -/
section
variable {K : PySem.W.Frag} {a : Addr} {xs : List V} {g : TG} {tb : TS} {tl : TE} {ta : TA} {σ : L2.St} {H : Hp} {D : Ends}
theorem tforL (hte : ∀ R : VK, R (.ref a) H → tl σ H R) (Pv : Nat → L2.St → Hp → Prop) (hx : SqL K H a xs) (h0 : Pv 0 σ H) (hl : ∀ i σ G, Pv i σ G → SqL K G a xs)
    (hs : ∀ i x σ G, xs[i]? = some x → Pv i σ G → g x σ G fun σ2 H2 => tb { D with nx := Pv (i + 1), ct := Pv (i + 1), bk := D.nx } σ2 H2) (hd : ∀ σ G, Pv xs.length σ G → D.nx σ G) : tFor (iList K tl) g tb D σ H :=
  hte _ ⟨a, rfl, ⟨xs, hx⟩, for_list Pv h0 (fun i σ G _ p => hl i σ G p) hs hd⟩
theorem tforT (hte : ∀ R : VK, R (.ref a) H → tl σ H R) (Pv : Nat → L2.St → Hp → Prop) (hx : SqT K H a xs) (h0 : Pv 0 σ H) (hl : ∀ i σ G, Pv i σ G → SqT K G a xs)
    (hs : ∀ i x σ G, xs[i]? = some x → Pv i σ G → g x σ G fun σ2 H2 => tb { D with nx := Pv (i + 1), ct := Pv (i + 1), bk := D.nx } σ2 H2) (hd : ∀ σ G, Pv xs.length σ G → D.nx σ G) : tFor (iTup K tl) g tb D σ H :=
  hte _ ⟨a, rfl, ⟨xs, hx⟩, for_tup Pv h0 (fun i σ G _ p => hl i σ G p) hs hd⟩
theorem tforR {n : Nat} (hte : ∀ R : List V → Hp → Prop, R [.int (n : Nat)] H → ta σ H R) (hn : n < 2 ^ 62) (Pv : Nat → L2.St → Hp → Prop) (h0 : Pv 0 σ H)
    (hs : ∀ i σ G, i < n → Pv i σ G → g (.int (i : Nat)) σ G fun σ2 H2 => tb { D with nx := Pv (i + 1), ct := Pv (i + 1), bk := D.nx } σ2 H2) (hd : ∀ σ G, Pv n σ G → D.nx σ G) : tFor (iRng1 ta) g tb D σ H := by
  refine hte _ ⟨(n : Int), rfl, by omega, by omega, ?_⟩
  rw [show ((n : Nat) : Int).toNat = n from Int.toNat_natCast n]
  refine for_range Pv h0 (fun i σ G hi p => ?_) hd
  rw [Int.zero_add]
  exact hs i σ G hi p
end
/-! ### orders -/
theorem trI_inj {a b : Tr} (h : trI a = trI b) : a = b := by
  obtain ⟨a1, a2, a3⟩ := a
  obtain ⟨b1, b2, b3⟩ := b
  unfold trI at h
  simp only [List.cons.injEq, and_true] at h
  obtain ⟨h1, h2, h3⟩ := h
  have := Int.ofNat.inj h1
  have := Int.ofNat.inj h2
  have := Int.ofNat.inj h3
  simp_all
theorem trLt_lt {a b : Tr} (h : trLt a b) : trI a < trI b := by
  unfold trI
  rw [List.cons_lt_cons_iff, List.cons_lt_cons_iff, List.cons_lt_cons_iff]
  unfold trLt at h
  omega
theorem trLt_tri (a b : Tr) : trLt a b ∨ a = b ∨ trLt b a := by
  obtain ⟨a1, a2, a3⟩ := a
  obtain ⟨b1, b2, b3⟩ := b
  unfold trLt
  by_cases h : a1 = b1 ∧ a2 = b2 ∧ a3 = b3
  · obtain ⟨rfl, rfl, rfl⟩ := h
    exact .inr (.inl rfl)
  · have : ¬ (a1 = b1 ∧ a2 = b2 ∧ a3 = b3) := h
    simp only [Prod.mk.injEq]
    omega
theorem trLt_of_le {a b : Tr} (h : trI a ≤ trI b) (n : a ≠ b) : trLt a b := by
  rcases trLt_tri a b with h' | h' | h'
  · exact h'
  · exact absurd h' n
  · exact absurd (trLt_lt h') (List.not_lt.mpr h)
theorem trLt_irrefl (a : Tr) : ¬ trLt a a := by
  unfold trLt
  omega
theorem trLt_trans {a b c : Tr} (h1 : trLt a b) (h2 : trLt b c) : trLt a c := by
  unfold trLt at *
  omega
theorem trs_ext : ∀ {a b : List Tr}, a.Pairwise trLt → b.Pairwise trLt → (∀ x, x ∈ a ↔ x ∈ b) → a = b
  | [], [], _, _, _ => rfl
  | [], y :: b, _, _, h => absurd ((h y).mpr List.mem_cons_self) (by simp)
  | x :: a, [], _, _, h => absurd ((h x).mp List.mem_cons_self) (by simp)
  | x :: a, y :: b, ha, hb, h => by
    obtain ⟨a1, a2⟩ := List.pairwise_cons.mp ha
    obtain ⟨b1, b2⟩ := List.pairwise_cons.mp hb
    have e : x = y := by
      rcases List.mem_cons.mp ((h x).mp List.mem_cons_self) with e | m
      · exact e
      · rcases List.mem_cons.mp ((h y).mpr List.mem_cons_self) with e | m2
        · exact e.symm
        · exact absurd (trLt_trans (b1 x m) (a1 y m2)) (trLt_irrefl y)
    subst e
    refine congrArg _ (trs_ext a2 b2 fun z => ⟨fun m => ?_, fun m => ?_⟩)
    · rcases List.mem_cons.mp ((h z).mp (List.mem_cons_of_mem _ m)) with e | m2
      · subst e
        exact absurd (a1 z m) (trLt_irrefl z)
      · exact m2
    · rcases List.mem_cons.mp ((h z).mpr (List.mem_cons_of_mem _ m)) with e | m2
      · subst e
        exact absurd (b1 z m) (trLt_irrefl z)
      · exact m2
/-! ### tuple(sorted(set(..))) -/
def UTr (e : Tr) : Prop := e.1 < 49152 ∧ e.2.1 < 2 ∧ e.2.2 < 49152
theorem UTr.ut {e : Tr} (h : UTr e) : UT (trI e) := ⟨e.1, e.2.1, e.2.2, rfl, h⟩
theorem trV_I (e : Tr) : trV e = (trI e).map V.int := rfl
/-- triples in the heap as pairs -/
def prs : List Addr → List Tr → List (Addr × List Int)
  | p :: ps, e :: es => (p, trI e) :: prs ps es
  | _, _ => []
theorem prs_fst {K : PySem.W.Frag} {H : Hp} : ∀ {ps : List Addr} {es : List Tr}, TrsAt K H ps es → (prs ps es).map (fun p => V.ref p.1) = ps.map V.ref
  | _, _, .nil => rfl
  | _, _, .cons r t => congrArg _ (prs_fst t)
theorem prs_snd {K : PySem.W.Frag} {H : Hp} : ∀ {ps : List Addr} {es : List Tr}, TrsAt K H ps es → (prs ps es).map (·.2) = es.map trI
  | _, _, .nil => rfl
  | _, _, .cons r t => congrArg _ (prs_snd t)
theorem prs_at {K : PySem.W.Frag} {H : Hp} : ∀ {ps : List Addr} {es : List Tr}, TrsAt K H ps es → ∀ p ∈ prs ps es, SqT K H p.1 (p.2.map V.int) ∧ ∃ e ∈ es, p.2 = trI e
  | _, _, .nil, p, h => by cases h
  | _, _, .cons r t, p, h => by
    rcases List.mem_cons.mp h with rfl | h
    · exact ⟨r, _, List.mem_cons_self, rfl⟩
    · obtain ⟨h1, e, h2, h3⟩ := prs_at t p h
      exact ⟨h1, e, List.mem_cons_of_mem _ h2, h3⟩
/-- .. and back -/
theorem prs_back {K : PySem.W.Frag} {H : Hp} : ∀ (L : List (Addr × List Int)), (∀ p ∈ L, SqT K H p.1 (p.2.map V.int) ∧ ∃ e : Tr, p.2 = trI e) → ∃ es : List Tr, TrsAt K H (L.map (·.1)) es ∧ L.map (·.2) = es.map trI
  | [], _ => ⟨[], .nil, rfl⟩
  | p :: L, h => by
    obtain ⟨h1, e, he⟩ := h p List.mem_cons_self
    obtain ⟨es, h2, h3⟩ := prs_back L fun q hq => h q (List.mem_cons_of_mem _ hq)
    refine ⟨e :: es, .cons ?_ h2, ?_⟩
    · rw [he] at h1
      exact h1
    · rw [List.map_cons, List.map_cons, h3, he]
theorem pairwise_map_of {α β : Type} {R : β → β → Prop} {S : α → α → Prop} {f : α → β} (h : ∀ a b, R (f a) (f b) → S a b) : ∀ {l : List α}, (l.map f).Pairwise R → l.Pairwise S
  | [], _ => .nil
  | x :: l, q => by
    rw [List.map_cons] at q
    obtain ⟨q1, q2⟩ := List.pairwise_cons.mp q
    exact List.pairwise_cons.mpr ⟨fun y hy => h _ _ (q1 _ (List.mem_map_of_mem hy)), pairwise_map_of h q2⟩
theorem pairwise_two {α : Type} {R S T : α → α → Prop} (h : ∀ a b, R a b → S a b → T a b) : ∀ {l : List α}, l.Pairwise R → l.Pairwise S → l.Pairwise T
  | [], _, _ => .nil
  | x :: l, p, q => by
    obtain ⟨p1, p2⟩ := List.pairwise_cons.mp p
    obtain ⟨q1, q2⟩ := List.pairwise_cons.mp q
    exact List.pairwise_cons.mpr ⟨fun y hy => h _ _ (p1 y hy) (q1 y hy), pairwise_two h p2 q2⟩
section
variable {P : Program} {w : World} {K : PySem.W.Frag} {te : TE} {σ : L2.St} {H : Hp} {Q : VK} {eb : Addr}
def EdA (K : PySem.W.Frag) (H : Hp) (a : Addr) (es : List Tr) : Prop := ∃ ps, SqA K H a (ps.map V.ref) ∧ TrsAt K H ps es
theorem EdL.any {a : Addr} {es : List Tr} (h : EdL K H a es) : EdA K H a es := let ⟨ps, h1, h2⟩ := h; ⟨ps, .inl h1, h2⟩
theorem EdT.any {a : Addr} {es : List Tr} (h : EdT K H a es) : EdA K H a es := let ⟨ps, h1, h2⟩ := h; ⟨ps, .inr h1, h2⟩
theorem SqA.same {H H' : Hp} {a : Addr} {xs : List V} (h : SqA K H a xs) (s : Same H H') : SqA K H' a xs := h.elim (fun z => .inl (s.seq z)) fun z => .inr (Same.tup s z)
theorem sorted_done {L : List (Addr × List Int)} {L' : List (Addr × List Int)} {G : Hp} {es : List Tr} (hL : ∀ q ∈ L, SqT K G q.1 (q.2.map V.int) ∧ ∃ e : Tr, q.2 = trI e) (nd : (L.map (·.2)).Nodup) (mem : ∀ e, trI e ∈ L.map (·.2) ↔ e ∈ es) (pm : L'.Perm L) (pw : (L'.map (·.2)).Pairwise (· ≤ ·)) :
    ∃ es' : List Tr, TrsAt K G (L'.map (·.1)) es' ∧ es'.Pairwise trLt ∧ (∀ e, e ∈ es' ↔ e ∈ es) ∧ es'.length = L.length := by
  obtain ⟨es', h1, h2⟩ := prs_back L' fun q hq => hL q (pm.mem_iff.mp hq)
  have nd' : (es'.map trI).Nodup := by
    rw [← h2]
    exact (pm.map (·.2)).nodup_iff.mpr nd
  rw [h2] at pw
  refine ⟨es', h1, ?_, fun e => ?_, ?_⟩
  · refine pairwise_map_of (f := trI) (R := fun a b => a ≤ b ∧ a ≠ b) (fun a b q => trLt_of_le q.1 fun e => q.2 (by rw [e])) (pairwise_two (fun a b x y => ⟨x, y⟩) pw nd')
  · rw [← mem e]
    have : trI e ∈ es'.map trI ↔ e ∈ es' := ⟨fun h => let ⟨e', h1, h2⟩ := List.mem_map.mp h; trI_inj h2 ▸ h1, fun h => List.mem_map_of_mem h⟩
    rw [← this, ← h2]
    exact (pm.map (·.2)).mem_iff
  · have e1 := congrArg List.length h2
    rw [List.length_map, List.length_map] at e1
    rw [← e1, pm.length_eq]
/-- tuple(sorted(set(edges))) -/
theorem rd_setT {es : List Tr} (hte : ∀ R : VK, R (.ref eb) H → te σ H R) (h : EdA K H eb es) (hu : ∀ e ∈ es, UTr e) (hl : es.length ≤ 8388606) (q : ∀ p G es', Same H G → EdT K G p es' → es'.Pairwise trLt → (∀ e, e ∈ es' ↔ e ∈ es) → es'.length ≤ es.length → Q (.ref p) G) :
    tCB (rTupOf K) (tCons (tCB (rSortST K P w) (tCons (tCB (rSetT K P w) (tCons te tNil)) tNil)) tNil) σ H Q := by
  obtain ⟨ps, h1, h2⟩ := h
  have pl : (prs ps es).length = es.length := by
    have := congrArg List.length (prs_snd h2)
    rw [List.length_map, List.length_map] at this
    exact this
  refine hte _ ⟨eb, prs ps es, rfl, by rw [prs_fst h2]; exact h1, fun p hp => (prs_at h2 p hp).1, fun p hp => ?_, by omega, fun a L ha sub sup nd => ?_⟩
  · obtain ⟨_, e, he, e2⟩ := prs_at h2 p hp
    rw [e2]
    exact (hu e he).ut
  have s1 : Same H (upd H a (setT P w a L)) := same_new ha
  have hL : ∀ G, Same H G → ∀ p ∈ L, SqT K G p.1 (p.2.map V.int) ∧ ∃ e : Tr, p.2 = trI e := fun G s p hp => by
    obtain ⟨q1, e, _, q2⟩ := prs_at h2 p (sub p hp)
    exact ⟨Same.tup s q1, e, q2⟩
  have len : L.length ≤ es.length := by
    have e1 : (L.map (·.2)).length ≤ ((prs ps es).map (·.2)).length := by
      refine nd.length_le_of_subset fun x hx => ?_
      obtain ⟨p, hp, rfl⟩ := List.mem_map.mp hx
      exact List.mem_map_of_mem (sub p hp)
    rw [List.length_map, List.length_map, pl] at e1
    exact e1
  refine ⟨a, L, rfl, upd_same, fun p hp => (hL _ s1 p hp).1, fun p hp => ?_, by omega, fun L' p pm pw hp => ?_⟩
  · obtain ⟨_, e, he, e2⟩ := prs_at h2 p (sub p hp)
    rw [e2]
    exact (hu e he).ut
  have s2 := s1.trans (same_new (o := .lst (L'.map fun q => V.ref q.1)) hp)
  refine ⟨p, _, rfl, .inl (SqL.of upd_same), fun l G s hl' => ?_⟩
  have s3 := s2.trans s
  have mem : ∀ e : Tr, trI e ∈ L.map (·.2) ↔ e ∈ es := fun e => by
    constructor
    · intro m
      obtain ⟨p, hp, e1⟩ := List.mem_map.mp m
      obtain ⟨_, e', he, e2⟩ := prs_at h2 p (sub p hp)
      rw [trI_inj (a := e) (b := e') (by rw [← e2, ← e1])]
      exact he
    · intro m
      have : trI e ∈ (prs ps es).map (·.2) := by
        rw [prs_snd h2]
        exact List.mem_map_of_mem m
      obtain ⟨p, hp, e1⟩ := List.mem_map.mp this
      rw [← e1]
      exact sup p hp
  obtain ⟨es', g1, g2, g3, g4⟩ := sorted_done (hL _ s3) nd mem pm pw
  refine q l G es' s3 ⟨L'.map (·.1), ?_, g1⟩ g2 g3 (by omega)
  rw [List.map_map]
  exact hl'
theorem lt_of_sorted {l : List Nat} (h : (nI l).Pairwise (· ≤ ·)) (nd : l.Nodup) : l.Pairwise (· < ·) :=
  pairwise_two (fun a b (x : a ≤ b) (y : a ≠ b) => Nat.lt_of_le_of_ne x y) (pairwise_map_of (f := fun (n : Nat) => (n : Int)) (fun a b (q : (a : Int) ≤ b) => Int.ofNat_le.mp q) h) nd
theorem nI_back : ∀ {ns : List Int}, (∀ x ∈ ns, ∃ n : Nat, x = n) → ∃ l : List Nat, ns = nI l
  | [], _ => ⟨[], rfl⟩
  | x :: ns, h => by
    obtain ⟨n, rfl⟩ := h x List.mem_cons_self
    obtain ⟨l, rfl⟩ := nI_back fun y hy => h y (List.mem_cons_of_mem _ hy)
    exact ⟨n :: l, rfl⟩
theorem mem_nI {n : Nat} {l : List Nat} : (n : Int) ∈ nI l ↔ n ∈ l := ⟨fun h => let ⟨m, h1, h2⟩ := List.mem_map.mp h; Int.ofNat.inj h2 ▸ h1, fun h => List.mem_map_of_mem h⟩
theorem nI_len (l : List Nat) : (nI l).length = l.length := by unfold nI; exact List.length_map _
theorem nodup_of_nI {l : List Nat} (h : (nI l).Nodup) : l.Nodup := pairwise_map_of (f := fun (n : Nat) => (n : Int)) (fun a b q e => q (by rw [e])) h
/-- tuple(sorted(xs)) of numbers that are each there once -/
theorem rd_sortI {l : List Nat} (hte : ∀ R : VK, (∀ hb G, Same H G → SqA K G hb (nV l) → R (.ref hb) G) → te σ H R) (nd : l.Nodup) (hl : l.length ≤ 8388606) (q : ∀ p G, Same H G → SqT K G p (nV (sortS l)) → Q (.ref p) G) :
    tCB (rTupOf K) (tCons (tCB (rSortI2 K) (tCons te tNil)) tNil) σ H Q := by
  refine hte _ fun hb H0 s0 h => ⟨hb, nI l, rfl, by rw [← nV_I]; exact h, by rw [nI_len]; omega, fun ns p pm pw hp => ?_⟩
  obtain ⟨l', rfl⟩ := nI_back fun x hx => let ⟨n, _, e⟩ := List.mem_map.mp (pm.mem_iff.mp hx); ⟨n, e.symm⟩
  have s1 : Same H (upd H0 p (.lst ((nI l').map V.int))) := s0.trans (same_new hp)
  refine ⟨p, _, rfl, .inl (SqL.of upd_same), fun t G s ht => ?_⟩
  have nd' : l'.Nodup := nodup_of_nI (pm.nodup_iff.mpr (List.Pairwise.map _ (fun a b (x : a ≠ b) e => x (Int.ofNat.inj e)) nd))
  have e : l' = sortS l := sorted_ext (lt_of_sorted pw nd') (sortS_sorted l) fun x => by
    rw [mem_sortS, ← mem_nI, ← mem_nI (l := l)]
    exact pm.mem_iff
  refine q t G (s1.trans s) ?_
  rw [← nV_I, e] at ht
  exact ht
/-- tuple(sorted(set(xs))) -/
theorem rd_setI {l : List Nat} {hb : Addr} (hte : ∀ R : VK, R (.ref hb) H → te σ H R) (h : SqA K H hb (nV l)) (hu : ∀ x ∈ l, x < 2000000000) (hl : l.length ≤ 8388606) (q : ∀ p G, Same H G → SqT K G p (nV (sortS l)) → Q (.ref p) G) :
    tCB (rTupOf K) (tCons (tCB (rSortSI P w) (tCons (tCB (rSetI K P w) (tCons te tNil)) tNil)) tNil) σ H Q := by
  refine hte _ ⟨hb, nI l, rfl, by rw [← nV_I]; exact h, fun k hk => ?_, by rw [nI_len]; omega, fun a G ns ha s1 hset mem nd len => ?_⟩
  · obtain ⟨n, hn, rfl⟩ := List.mem_map.mp hk
    exact ⟨n, rfl, hu n hn⟩
  refine ⟨a, ns, rfl, hset, by rw [nI_len] at len; omega, fun ns' p pm pw hp => ?_⟩
  obtain ⟨l', rfl⟩ := nI_back fun x hx => let ⟨n, _, e⟩ := List.mem_map.mp ((mem x).mp (pm.mem_iff.mp hx)); ⟨n, e.symm⟩
  have s2 := s1.trans (same_new (o := .lst ((nI l').map V.int)) hp)
  refine ⟨p, _, rfl, .inl (SqL.of upd_same), fun t G' s ht => ?_⟩
  have nd' : l'.Nodup := nodup_of_nI (pm.nodup_iff.mpr nd)
  have e : l' = sortS l := sorted_ext (lt_of_sorted pw nd') (sortS_sorted l) fun x => by
    rw [mem_sortS, ← mem_nI, ← mem_nI (l := l)]
    exact pm.mem_iff.trans (mem x)
  refine q t G' (s2.trans s) ?_
  rw [← nV_I, e] at ht
  exact ht
end
end K23
/-! K23Tab -/
set_option Elab.async false
set_option linter.all false
set_option maxRecDepth 100000
set_option maxHeartbeats 4000000
/-! The table of goals, as it grows. -/
namespace K23
open PySem PySem.Spec PyProof.Rows L2
/-- all but x is as it was -/
def SameX (x : Addr) (H H' : Hp) : Prop := ∀ b o, b ≠ x → H b = some o → H' b = some o
theorem goalsE_snoc (E : List Tr) (a b c x l : Nat) : goalsE (E ++ [(a, b, c)]) x l = goalsE E x l ++ (if a = x ∧ b = l then [c] else []) := by
  unfold goalsE
  rw [List.filter_append, List.map_append]
  congr 1
  by_cases h : a = x ∧ b = l
  · simp [h]
  · simp [h]
/-- the table at d when the edges E have been gone through; G0: the heap as the table was made -/
def GD (P : Program) (w : World) (K : PySem.W.Frag) (G0 : Hp) (d : Addr) (G : Hp) (E : List Tr) (i : Nat) : Prop := SameX d G0 G ∧ ∃ kvs, ND P w K G d kvs ∧ kvs.length ≤ i ∧
  (∀ a b c e p, valV kvs (nkI [(a : Nat), (b : Nat)]) = some (.ref p) → valV kvs (nkI [(c : Nat), (e : Nat)]) = some (.ref p) → a = c ∧ b = e) ∧
  ∀ x l : Nat, (valV kvs (nkI [x, l]) = none ∧ goalsE E x l = []) ∨ ∃ b, valV kvs (nkI [x, l]) = some (.ref b) ∧ G0 b = none ∧ b ≠ d ∧ G b = some (.lst (nV (goalsE E x l)))
theorem nk2_inj {a b c e : Nat} (h : nkI [(a : Int), b] = nkI [(c : Int), e]) : a = c ∧ b = e := by
  have := nkI_inj h
  simp only [List.cons.injEq, and_true] at this
  exact ⟨Int.ofNat.inj this.1, Int.ofNat.inj this.2⟩
theorem GD.start {P : Program} {w : World} {K : PySem.W.Frag} {G0 : Hp} {d : Addr} (h : ND P w K G0 d []) : GD P w K G0 d G0 [] 0 :=
  ⟨fun _ _ _ e => e, [], h, Nat.le_refl _, fun a b c e p h => (nomatch h), fun x l => .inl ⟨rfl, rfl⟩⟩
section
variable {P : Program} {w : World} {K : PySem.W.Frag} {G0 G Gk : Hp} {d z : Addr} {E : List Tr} {i x l y : Nat}
theorem GD.same (h : GD P w K G0 d G E i) (s : Same G Gk) : GD P w K G0 d Gk E i := by
  obtain ⟨h1, kvs, h2, h3, h4, h5⟩ := h
  refine ⟨fun b o n e => s b o (h1 b o n e), kvs, h2.same s, h3, h4, fun x l => ?_⟩
  rcases h5 x l with h | ⟨b, q1, q2, q3, q4⟩
  · exact .inl h
  · exact .inr ⟨b, q1, q2, q3, s b _ q4⟩
theorem gd_app0 {kvs : List (NestedKey × V)} (h1 : SameX d G0 G) (h2 : ND P w K G d kvs) (h3 : kvs.length ≤ i)
    (h4 : ∀ a b c e p, valV kvs (nkI [(a : Nat), (b : Nat)]) = some (.ref p) → valV kvs (nkI [(c : Nat), (e : Nat)]) = some (.ref p) → a = c ∧ b = e)
    (h5 : ∀ x l : Nat, (valV kvs (nkI [x, l]) = none ∧ goalsE E x l = []) ∨ ∃ b, valV kvs (nkI [x, l]) = some (.ref b) ∧ G0 b = none ∧ b ≠ d ∧ G b = some (.lst (nV (goalsE E x l)))) :
    (∀ v, valV kvs (nkI [x, l]) = some v → ∃ b, v = .ref b ∧ G b = some (.lst (nV (goalsE E x l))) ∧ GD P w K G0 d (upd G b (.lst (nV (goalsE E x l) ++ [.int (y : Nat)]))) (E ++ [(x, l, y)]) (i + 1)) ∧
    (valV kvs (nkI [x, l]) = none → G z = some (.lst []) → G0 z = none → ∀ G4, NPut P w K G d (putK kvs (nkI [x, l]) (.ref z)) G4 → (∀ a b p, valV kvs (nkI [(a : Nat), (b : Nat)]) = some (.ref p) → p ≠ z) →
      G4 z = some (.lst []) ∧ GD P w K G0 d (upd G4 z (.lst ([] ++ [.int (y : Nat)]))) (E ++ [(x, l, y)]) (i + 1)) := by
  refine ⟨fun v hv => ?_, fun hn hz hz0 G4 hp nz => ?_⟩
  · rcases h5 x l with ⟨h, _⟩ | ⟨b, q1, q2, q3, q4⟩
    · rw [h] at hv
      cases hv
    · rw [q1] at hv
      cases hv
      have mu : Mut (G b) ∨ G b = none := .inl (by rw [q4]; exact True.intro)
      refine ⟨b, rfl, q4, fun c o n e => ?_, kvs, h2.keep (updT mu) (upd_ne (Ne.symm q3)), Nat.le_succ_of_le h3, h4, fun x' l' => ?_⟩
      · rw [upd_ne (fun z => by subst z; rw [q2] at e; cases e)]
        exact h1 c o n e
      · rw [goalsE_snoc]
        by_cases c : x = x' ∧ l = l'
        · obtain ⟨rfl, rfl⟩ := c
          rw [if_pos (⟨rfl, rfl⟩ : x = x ∧ l = l), ← nV_snoc]
          exact .inr ⟨b, q1, q2, q3, upd_same⟩
        · rw [if_neg c, List.append_nil]
          rcases h5 x' l' with h | ⟨b', r1, r2, r3, r4⟩
          · exact .inl h
          · refine .inr ⟨b', r1, r2, r3, ?_⟩
            rw [upd_ne (fun z => by subst z; exact c (h4 x l x' l' _ q1 r1))]
            exact r4
  · have nd := hp.1
    have zd : z ≠ d := fun e => by
      subst e
      obtain ⟨es, q, _⟩ := h2
      rw [hz] at q
      cases q
    have hz4 : G4 z = some (.lst []) := (hp.2 z zd).trans hz
    refine ⟨hz4, fun c o n e => ?_, _, nd.keep (updT (.inl (by rw [hz4]; exact True.intro))) (upd_ne (Ne.symm zd)), Nat.le_trans (length_putK _ _ _) (Nat.succ_le_succ h3), fun a b c e p e1 e2 => ?_, fun x' l' => ?_⟩
    · rw [upd_ne (fun z => by subst z; rw [hz0] at e; cases e), hp.2 c n]
      exact h1 c o n e
    · rw [valV_put] at e1 e2
      by_cases c1 : nkI [(a : Int), b] = nkI [(x : Int), l]
      · by_cases c2 : nkI [(c : Int), e] = nkI [(x : Int), l]
        · exact nk2_inj (c1.trans c2.symm)
        · rw [if_pos c1] at e1
          rw [if_neg c2] at e2
          cases e1
          exact absurd rfl (nz _ _ _ e2)
      · rw [if_neg c1] at e1
        by_cases c2 : nkI [(c : Int), e] = nkI [(x : Int), l]
        · rw [if_pos c2] at e2
          cases e2
          exact absurd rfl (nz _ _ _ e1)
        · rw [if_neg c2] at e2
          exact h4 _ _ _ _ _ e1 e2
    · rw [goalsE_snoc, valV_put]
      by_cases c : x = x' ∧ l = l'
      · obtain ⟨rfl, rfl⟩ := c
        rw [if_pos (⟨rfl, rfl⟩ : x = x ∧ l = l), if_pos rfl]
        rcases h5 x l with ⟨_, h⟩ | ⟨b, q1, _⟩
        · rw [h]
          exact .inr ⟨z, rfl, hz0, zd, upd_same⟩
        · rw [hn] at q1
          cases q1
      · rw [if_neg c, List.append_nil, if_neg (fun e => c (let ⟨u, v⟩ := nk2_inj e; ⟨u.symm, v.symm⟩))]
        rcases h5 x' l' with h | ⟨b', r1, r2, r3, r4⟩
        · exact .inl h
        · refine .inr ⟨b', r1, r2, r3, ?_⟩
          rw [upd_ne (nz _ _ _ r1), hp.2 b' r3]
          exact r4
/-- one edge more: the setdefault (a new list at z), then the append -/
theorem GD.app (h : GD P w K G0 d G E i) (s : Same G Gk) (hz : G z = none) (hzk : Gk z = some (.lst [])) : ∃ kvs, ND P w K Gk d kvs ∧ kvs.length ≤ i ∧
    (∀ v, valV kvs (nkI [x, l]) = some v → ∃ b, v = .ref b ∧ Gk b = some (.lst (nV (goalsE E x l))) ∧ GD P w K G0 d (upd Gk b (.lst (nV (goalsE E x l) ++ [.int (y : Nat)]))) (E ++ [(x, l, y)]) (i + 1)) ∧
    (valV kvs (nkI [x, l]) = none → ∀ G4, NPut P w K Gk d (putK kvs (nkI [x, l]) (.ref z)) G4 → G4 z = some (.lst []) ∧ GD P w K G0 d (upd G4 z (.lst ([] ++ [.int (y : Nat)]))) (E ++ [(x, l, y)]) (i + 1)) := by
  obtain ⟨g1, kvs, g2, g3, g4, g5⟩ := h
  have k5 : ∀ x l : Nat, (valV kvs (nkI [x, l]) = none ∧ goalsE E x l = []) ∨ ∃ b, valV kvs (nkI [x, l]) = some (.ref b) ∧ G0 b = none ∧ b ≠ d ∧ Gk b = some (.lst (nV (goalsE E x l))) := fun x l => by
    rcases g5 x l with h | ⟨b, q1, q2, q3, q4⟩
    · exact .inl h
    · exact .inr ⟨b, q1, q2, q3, s b _ q4⟩
  obtain ⟨a1, a2⟩ := gd_app0 (x := x) (l := l) (y := y) (z := z) (fun b o n e => s b o (g1 b o n e)) (g2.same s) g3 g4 k5
  refine ⟨kvs, g2.same s, g3, a1, fun hn G4 hp => ?_⟩
  have zd : z ≠ d := fun e => by
    subst e
    obtain ⟨es, q, _⟩ := g2
    rw [hz] at q
    cases q
  have hz0 : G0 z = none := by
    cases e : G0 z with
    | none => rfl
    | some o =>
      have := g1 z o zd e
      rw [hz] at this
      cases this
  refine a2 hn hzk hz0 G4 hp fun a b p e => ?_
  rcases g5 a b with ⟨q, _⟩ | ⟨b', r1, r2, r3, r4⟩
  · rw [q] at e
    cases e
  · rw [r1] at e
    cases e
    exact ne_of_none r4 hz
theorem SameX.tupN {H G : Hp} {pd : Addr} {kvs : List (NestedKey × V)} (s : SameX pd H G) (hd : ND P w K H pd kvs) {a : Addr} {xs : List V} (h : SqT K H a xs) : SqT K G a xs := by
  obtain ⟨es, hd, _⟩ := hd
  rcases h with (h | ⟨q, h⟩) | h
  · exact .inl (.inl (s a _ (fun e => by subst e; rw [hd] at h; cases h) h))
  · exact .inl (.inr ⟨q, s a _ (fun e => by subst e; rw [hd] at h; cases h) h⟩)
  · exact .inr h
theorem GD.dict (h : GD P w K G0 d G E i) : ∃ es, G d = some (NDO P w d es) := let ⟨_, _, ⟨es, q, _⟩, _⟩ := h; ⟨es, q⟩
theorem GD.fin (h : GD P w K G0 d G E i) : GoalsAt P w K G d E := by
  obtain ⟨h1, kvs, h2, h3, h4, h5⟩ := h
  refine ⟨kvs, h2, fun x l => ?_⟩
  rcases h5 x l with h | ⟨b', r1, r2, r3, r4⟩
  · exact .inl h
  · exact .inr ⟨b', r1, SqL.of r4⟩
end
end K23
/-! K23Wa -/
set_option Elab.async false
set_option linter.all false
set_option maxRecDepth 100000
set_option maxHeartbeats 4000000
namespace K23
open PySem PySem.Spec PyProof.Rows L2
section
variable {P : Program} {w : World} {K : PySem.W.Frag} {mg : Str → Option Value} {base : Heap}
theorem atI_n {xs : List V} {i : Int} {n : Nat} (e : i = (n : Int)) {v : V} (h : xs[n]? = some v) : atI xs i = some v := by
  subst e
  exact atI_nat h
/-- fits: it does -/
def sp_fits (K : PySem.W.Frag) : SpN := fun vs H Q => ∃ b e L n, vs = [.ref b, .int (L : Nat), .int (n : Nat)] ∧ SqT K H b (trV e) ∧ (e.1 < n ∧ e.2.1 < L ∧ e.2.2 < n) ∧ Q (.bl true) H
theorem len_fits : ∀ vs H Q, sp_fits K vs H Q → vs.length = 3 := fun _ _ _ ⟨_, _, _, _, e, _⟩ => by subst e; rfl
theorem sc_fits : FnScope ["edge", "letters", "nodes"] ["edge", "letters", "nodes"] (defScope s_fits) := ⟨rfl, rfl, rfl, by decide +kernel, rfl, by decide +kernel, by decide +kernel⟩
/- slots: 0 edge, 1 letters, 2 nodes -/
theorem ok_fits (T : Tb K mg)  : Cal P w K mg base (He.ga K "fits") 1 ["edge", "letters", "nodes"] (sp_fits K) := by
  obtain ⟨fd, F⟩ := T.dfs 0 d_fits rfl
  refine cal_of (N := ["edge", "letters", "nodes"]) F sc_fits (F.bindsN fun _ _ _ _ _ _ us hl => match us, hl with | [_, _, _], _ => rfl) (len_fits) fun cdv A outer s H vs Q E hr h => ?_
  refine ⟨(tRet (tAndV (tChain rLe rLt (tC (.int 0)) (tOp (rIxT K) (tVar 0) (tC (.int 0))) (tVar 2)) (tAndV (tChain rLe rLt (tC (.int 0)) (tOp (rIxT K) (tVar 0) (tC (.int 1))) (tVar 1)) (tChain rLe rLt (tC (.int 0)) (tOp (rIxT K) (tVar 0) (tC (.int 2))) (tVar 2))))), (pss_one (ps_ret (pe_and (pe_chain op_le op_lt pe_int (pe_ix ix_tup (pv 0) pe_int (fun _ _ => rfl)) (pv 2)) (pe_and (pe_chain op_le op_lt pe_int (pe_ix ix_tup (pv 0) pe_int (fun _ _ => rfl)) (pv 1)) (pe_one (pe_chain op_le op_lt pe_int (pe_ix ix_tup (pv 0) pe_int (fun _ _ => rfl)) (pv 2))))))), ?_⟩
  obtain ⟨b, e, L, n, rfl, hb, ⟨h1, h2, h3⟩, hQ⟩ := h
  have c : ∀ (i k : Nat), i < k → decide ((0 : Int) ≤ i) = true ∧ decide ((i : Int) < k) = true := fun i k lt => ⟨decide_eq_true (by omega), decide_eq_true (by omega)⟩
  refine ⟨_, rfl, b, _, _, _, rfl, rfl, hb, atI_n rfl rfl, _, _, rfl, rfl, _, rfl, iteY (c _ _ h1).1 ⟨_, rfl, _, _, rfl, rfl, _, rfl, iteY (c _ _ h1).2 ?_⟩⟩
  refine ⟨_, rfl, b, _, _, _, rfl, rfl, hb, atI_n rfl rfl, _, _, rfl, rfl, _, rfl, iteY (c _ _ h2).1 ⟨_, rfl, _, _, rfl, rfl, _, rfl, iteY (c _ _ h2).2 ?_⟩⟩
  refine ⟨_, rfl, b, _, _, _, rfl, rfl, hb, atI_n rfl rfl, _, _, rfl, rfl, _, rfl, iteY (c _ _ h3).1 ⟨_, rfl, _, _, rfl, rfl, ?_⟩⟩
  exact qbl (c _ _ h3).2 hQ
/-- the goals -/
def sp_Net_goals (P : Program) (w : World) (K : PySem.W.Frag) : SpN := fun vs H Q => ∃ a N x l, vs = [.ref a, .int (x : Nat), .int (l : Nat)] ∧ NetAt P w K H a N ∧ ∀ p H', Same H H' → H p = none → H' p = some (.lst (nV (goalsE N.E x l))) → Q (.ref p) H'
theorem len_Net_goals : ∀ vs H Q, sp_Net_goals P w K vs H Q → vs.length = 3 := fun _ _ _ ⟨_, _, _, _, e, _⟩ => by subst e; rfl
theorem sc_Net_goals : FnScope ["self", "node", "letter"] ["self", "node", "letter"] (defScope s_Net_goals) := ⟨rfl, rfl, rfl, by decide +kernel, rfl, by decide +kernel, by decide +kernel⟩
/- slots: 0 self, 1 node, 2 letter -/
theorem ok_Net_goals (T : Tb K mg)  : Cal P w K mg base (He.ma K (NetC K) "goals") 1 ["self", "node", "letter"] (sp_Net_goals P w K) := by
  obtain ⟨fd, F⟩ := T.dfs 2 d_Net_goals rfl
  refine cal_of (N := ["self", "node", "letter"]) F sc_Net_goals (F.bindsN fun _ _ _ _ _ _ us hl => match us, hl with | [_, _, _], _ => rfl) (len_Net_goals) fun cdv A outer s H vs Q E hr h => ?_
  refine ⟨(tRet (tCB (rListOf K) (tCons (tNGet2 P w K (tFld K (tVar 0) "_goals") (tTup (tCons (tVar 1) (tCons (tVar 2) tNil))) (tLst tNil)) tNil))), (pss_one (ps_ret (pe_callTy call_list_ofn (by rfl) (T.fre 5 "list" rfl) kb_list (pa_cons (pe_nget2 hr.units (pfld rfl (pv 0)) (pe_tup (pa_cons (pv 1) (pa_cons (pv 2) pa_nil))) (pe_lst pa_nil) ⟨rfl, rfl, rfl, rfl⟩) pa_nil)))), ?_⟩
  obtain ⟨a, N, x, l, rfl, hN, hQ⟩ := h
  have hN0 := hN
  obtain ⟨hw, dx, pe, pf, pd, h1, h2, h3, kvs, h4, h5⟩ := hN
  refine ⟨_, rfl, a, _, dx, _, _, rfl, h1, T.cl, T.noa 5 "_goals" rfl, rfl, pd, rfl, ⟨_, h4.choose_spec.1⟩, _, rfl, _, rfl, by show 2 ≤ sizeLine; decide, fun k hk => ?_⟩
  have s1 := same_new (o := .tup [.int x, .int l]) hk
  refine ⟨Nat.zero_le _, fun e he => ?_⟩
  have s2 := s1.trans (same_new (o := .lst []) he)
  refine ⟨kvs, nkI [x, l], k, rfl, h4.same s2, keyI (SqT.of (by rw [upd_ne (ne_of_none upd_same he)]; exact upd_same)), depthI _, ?_⟩
  rcases h5 x l with ⟨n1, n2⟩ | ⟨b, n1, n2⟩
  · refine ⟨e, [], by rw [n1]; rfl, .inl (SqL.of upd_same), fun p H' s hp hp' => hQ p H' (s2.trans s) ?_ (by rw [n2]; exact hp')⟩
    exact s2.free hp
  · exact ⟨b, _, by rw [n1]; rfl, .inl (s2.seq n2), fun p H' s hp hp' => hQ p H' (s2.trans s) (s2.free hp) hp'⟩
end
end K23
/-! K23Wb -/
set_option Elab.async false
set_option linter.all false
set_option maxRecDepth 100000
set_option maxHeartbeats 4000000
namespace K23
open PySem PySem.Spec PyProof.Rows L2
section
variable {P : Program} {w : World} {K : PySem.W.Frag} {mg : Str → Option Value} {base : Heap}
structure Raw (S L n : Nat) (Es : List Tr) (Fs : List Nat) : Prop where
  s1 : 1 ≤ S
  l1 : 1 ≤ L
  l2 : L ≤ 2
  sn : S ≤ n
  n1 : n ≤ 49152
  ef : ∀ e ∈ Es, e.1 < n ∧ e.2.1 < L ∧ e.2.2 < n
  ff : ∀ f ∈ Fs, f < n
  el : Es.length ≤ 8388606
  fl : Fs.length ≤ 8388606
/-- the heap without D -/
def hide (D : Addr) (H : Hp) : Hp := fun b => if b = D then none else H b
theorem hide_ne {D b : Addr} {H : Hp} (h : b ≠ D) : hide D H b = H b := by unfold hide; rw [if_neg h]
theorem tk_hide {K : PySem.W.Frag} {H : Hp} {D : Addr} {ys : List V} (h : H D = some (.lst ys)) : TK1 K H (hide D H) := fun b xs z => by
  rcases z with (z | ⟨o, z⟩) | z
  · exact .inl (.inl ((hide_ne (fun e => by rw [e, h] at z; cases z)).trans z))
  · exact .inl (.inr ⟨o, (hide_ne (fun e => by rw [e, h] at z; cases z)).trans z⟩)
  · exact .inr z
theorem hide_same {D : Addr} {H H' : Hp} (s : Same H H') : Same (hide D H) (hide D H') := fun b o e => by
  unfold hide at e ⊢
  split at e
  · cases e
  · rename_i n
    rw [if_neg n]
    exact s b o e
theorem hide_upd {D : Addr} {H : Hp} {o : HO} : hide D (upd H D o) = hide D H := by
  funext b
  unfold hide
  split
  · rfl
  · rename_i n
    exact upd_ne n
theorem hide_sub (D : Addr) (H : Hp) : Same (hide D H) H := fun b o e => by
  unfold hide at e
  split at e
  · cases e
  · exact e
/-- a net's making -/
def MadeOf (N : Net) (S L n : Nat) (Es : List Tr) (Fs : List Nat) : Prop := N.S = S ∧ N.L = L ∧ N.n = n ∧ (∀ e, e ∈ N.E ↔ e ∈ Es) ∧ N.E.length ≤ Es.length ∧ ∀ f, f ∈ N.F ↔ f ∈ Fs
def sp_Net_init (P : Program) (w : World) (K : PySem.W.Frag) : SpN := fun vs H Q => ∃ x dx eb fb S L n Es Fs, vs = [.ref x, .int (S : Nat), .int (L : Nat), .int (n : Nat), .ref eb, .ref fb] ∧ H x = some (.ins (NetC K) dx []) ∧ EdA K H eb Es ∧ SqL K H fb (nV Fs) ∧ Raw S L n Es Fs ∧
  ∀ H' N, SameX x H H' → NetAt P w K H' x N → (∀ D ys, H D = some (.lst ys) → NetAt P w K (hide D H') x N) → MadeOf N S L n Es Fs → Q .non H'
theorem len_Net_init : ∀ vs H Q, sp_Net_init P w K vs H Q → vs.length = 6 := fun _ _ _ ⟨_, _, _, _, _, _, _, _, _, e, _⟩ => by subst e; rfl
section
variable {H H' G : Hp} {x : Addr}
theorem SameX.upd {o : HO} (s : SameX x H G) : SameX x H (L2.upd G x o) := fun b u n e => by rw [upd_ne n]; exact s b u n e
theorem SameX.of (s : Same H G) : SameX x H G := fun b u _ e => s b u e
theorem SameX.same (s : SameX x H G) (t : Same G H') : SameX x H H' := fun b u n e => t b u (s b u n e)
theorem SameX.tup {o : HO} (s : SameX x H G) (hx : H x = some o) (no : ∀ ys, o ≠ .tup ys) (nf : ∀ q u, o ≠ .frz q u) {a : Addr} {xs : List V} (h : SqT K H a xs) : SqT K G a xs := by
  rcases h with (h | ⟨q, h⟩) | h
  · exact .inl (.inl (s a _ (fun e => by subst e; rw [hx] at h; exact no _ (Option.some.inj h)) h))
  · exact .inl (.inr ⟨q, s a _ (fun e => by subst e; rw [hx] at h; exact nf _ _ (Option.some.inj h)) h⟩)
  · exact .inr h
theorem SameX.lst {o : HO} (s : SameX x H G) (hx : H x = some o) (no : ∀ ys, o ≠ .lst ys) (nf : ∀ q u, o ≠ .frz q u) {a : Addr} {xs : List V} (h : SqL K H a xs) : SqL K G a xs := by
  rcases h with (h | ⟨q, h⟩) | h
  · exact .inl (.inl (s a _ (fun e => by subst e; rw [hx] at h; exact no _ (Option.some.inj h)) h))
  · exact .inl (.inr ⟨q, s a _ (fun e => by subst e; rw [hx] at h; exact nf _ _ (Option.some.inj h)) h⟩)
  · exact .inr h
theorem SameX.edA {C dx : Addr} {fs : List (Str × V)} (s : SameX x H G) (hx : H x = some (.ins C dx fs)) {a : Addr} {es : List Tr} (h : EdA K H a es) : EdA K G a es := by
  obtain ⟨ps, h1, h2⟩ := h
  exact ⟨ps, h1.elim (fun z => .inl (s.lst hx (fun _ e => by cases e) (fun _ _ e => by cases e) z)) (fun z => .inr (s.tup hx (fun _ e => by cases e) (fun _ _ e => by cases e) z)), Paired.imp (fun _ _ r => s.tup hx (fun _ e => by cases e) (fun _ _ e => by cases e) r) h2⟩
end
theorem l1000 {n : Nat} (m : Nat) (e : n = m) (h : m < 1000) : n < 1000 := by omega
theorem all_rep (n : Nat) : (List.replicate n true).all id = true := by
  rw [List.all_eq_true]
  intro b hb
  exact (List.mem_replicate.mp hb).2
theorem rep_bl (n : Nat) : (List.replicate n true).map V.bl = List.replicate n (V.bl true) := List.map_replicate
theorem rep_snoc {α : Type} (n : Nat) (x : α) : List.replicate n x ++ [x] = List.replicate (n + 1) x := by rw [List.replicate_succ']
theorem line_lt {n : Nat} (h : n ≤ 16777215) : n < sizeLine := by rw [sizeLine_eq]; omega
theorem sc_Net_init : FnScope ["self", "states", "letters", "nodes", "edges", "ends", "node", "letter", "goal", "edge", "end"] ["self", "states", "letters", "nodes", "edges", "ends"] (defScope s_Net_init) := ⟨rfl, rfl, rfl, by decide +kernel, rfl, by decide +kernel, by decide +kernel⟩
/- slots: 0 self, 1 states, 2 letters, 3 nodes, 4 edges, 5 ends, 6 node, 7 letter, 8 goal, 9 edge, 10 end -/
theorem ok_Net_init (T : Tb K mg) (c_fits : Cal P w K mg base (He.ga K "fits") 1 ["edge", "letters", "nodes"] (sp_fits K)) : Cal P w K mg base (He.ma K (NetC K) "__init__") 2 ["self", "states", "letters", "nodes", "edges", "ends"] (sp_Net_init P w K) := by
  obtain ⟨fd, F⟩ := T.dfs 1 d_Net_init rfl
  refine cal_of (N := ["self", "states", "letters", "nodes", "edges", "ends", "node", "letter", "goal", "edge", "end"]) F sc_Net_init (F.bindsN fun _ _ _ _ _ _ us hl => match us, hl with | [_, _, _, _, _, _], _ => rfl) (len_Net_init) fun cdv A outer s H vs Q E hr h => ?_
  refine ⟨(tSeq (tIfS (tOr (tTest (tOp rLt (tVar 1) (tC (.int 1)))) (tOr (tTest (tOp rLt (tVar 2) (tC (.int 1)))) (tTest (tOp rLt (tVar 3) (tVar 1))))) tNever tNext) (tSeq (tIfS (tOr (tNot (tB (tCB (rAll K) (tCons (tLc (iOr (iList K (tVar 4)) (iTup K (tVar 4))) (gName 9) tYes (tDo (sp_fits K) (tCons (tVar 9) (tCons (tVar 2) (tCons (tVar 3) tNil)))) [9]) tNil)))) (tNot (tB (tCB (rAll K) (tCons (tLc (iList K (tVar 5)) (gName 10) tYes (tChain rLe rLt (tC (.int 0)) (tVar 10) (tVar 3)) [10]) tNil))))) tNever tNext) (tSeq (sFld K (tVar 0) (tVar 1) "states") (tSeq (sFld K (tVar 0) (tVar 2) "letters") (tSeq (sFld K (tVar 0) (tVar 3) "nodes") (tSeq (sFld K (tVar 0) (tCB (rTupOf K) (tCons (tCB (rSortST K P w) (tCons (tCB (rSetT K P w) (tCons (tVar 4) tNil)) tNil)) tNil)) "edges") (tSeq (sFld K (tVar 0) (tCB (rTupOf K) (tCons (tCB (rSortSI P w) (tCons (tCB (rSetI K P w) (tCons (tVar 5) tNil)) tNil)) tNil)) "ends") (tSeq (sFld K (tVar 0) (tNNew P w K) "_goals") (tFor (iTup K (tFld K (tVar 0) "edges")) (gTup K 3 (gCons (gName 6) (gCons (gName 7) (gCons (gName 8) gNil)))) (tDrop (tBM K "list" rAppend (tNSetd P w K (tFld K (tVar 0) "_goals") (tTup (tCons (tVar 6) (tCons (tVar 7) tNil))) (tLst tNil)) (tCons (tVar 8) tNil)))))))))))), (pss_cons (ps_if ((pw_or (pt_cmpR op_lt (pv 1) pe_int (nomark _)) (pw_or (pt_cmpR op_lt (pv 2) pe_int (nomark _)) (pw_or1 (pt_cmpR op_lt (pv 3) (pv 1) (nomark _)))))).pt (pss_one ps_never) pss_nil) (pss_cons (ps_if ((pw_or (pt_not (pt_val (pe_callB (cr_all rfl) (by rfl) (T.fre 9 "all" rfl) kb_all (pa_cons (pe_lc (own := [("edge", 9)]) (g := (gName 9)) (tt := tYes) (te := (tDo (sp_fits K) (tCons (tVar 9) (tCons (tVar 2) (tCons (tVar 3) tNil))))) rfl sc_Net_init.nd (pi_or (pi_list (pv 4)) (pi_tup (pv 4))) (blkOk_by (N := ["self", "states", "letters", "nodes", "edges", "ends", "node", "letter", "goal", "edge", "end"]) (sc := defScope s_Net_init) (by decide +kernel)) (fun _ _ _ _ _ => (pg_name (i := 9) sc_Net_init.nd rfl (by first | exact Or.inl rfl | exact Or.inr rfl))) (fun _ _ _ _ _ => pts_nil) (fun _ _ _ _ _ => (pcal c_fits (hr.mono (by decide)) (T.glo 0 "fits" rfl) (pa_cons (pv 9) (pa_cons (pv 2) (pa_cons (pv 3) pa_nil)))))) pa_nil)) (by intro _; rfl))) (pw_or1 (pt_not (pt_val (pe_callB (cr_all rfl) (by rfl) (T.fre 9 "all" rfl) kb_all (pa_cons (pe_lc (own := [("end", 10)]) (g := (gName 10)) (tt := tYes) (te := (tChain rLe rLt (tC (.int 0)) (tVar 10) (tVar 3))) rfl sc_Net_init.nd (pi_list (pv 5)) (blkOk_by (N := ["self", "states", "letters", "nodes", "edges", "ends", "node", "letter", "goal", "edge", "end"]) (sc := defScope s_Net_init) (by decide +kernel)) (fun _ _ _ _ _ => (pg_name (i := 10) sc_Net_init.nd rfl (by first | exact Or.inl rfl | exact Or.inr rfl))) (fun _ _ _ _ _ => pts_nil) (fun _ _ _ _ _ => (pe_chain op_le op_lt pe_int (pv 10) (pv 3)))) pa_nil)) (by intro _; rfl)))))).pt (pss_one ps_never) pss_nil) (pss_cons (ps_fld (pv 0) (pv 1) rfl) (pss_cons (ps_fld (pv 0) (pv 2) rfl) (pss_cons (ps_fld (pv 0) (pv 3) rfl) (pss_cons (ps_fld (pv 0) (pe_callTy call_tuple_ofn (by rfl) (T.fre 2 "tuple" rfl) kb_tuple (pa_cons (pe_callB (cr_sortST rfl hr.units) (by rfl) (T.fre 3 "sorted" rfl) kb_sorted (pa_cons (pe_callTy (cr_setT rfl hr.units) (by rfl) (T.fre 4 "set" rfl) kb_set (pa_cons (pv 4) pa_nil)) pa_nil)) pa_nil)) rfl) (pss_cons (ps_fld (pv 0) (pe_callTy call_tuple_ofn (by rfl) (T.fre 2 "tuple" rfl) kb_tuple (pa_cons (pe_callB (cr_sortSI rfl hr.units) (by rfl) (T.fre 3 "sorted" rfl) kb_sorted (pa_cons (pe_callTy (cr_setI rfl hr.units) (by rfl) (T.fre 4 "set" rfl) kb_set (pa_cons (pv 5) pa_nil)) pa_nil)) pa_nil)) rfl) (pss_cons (ps_fld (pv 0) pe_nnew rfl) (pss_one (ps_for PassesOwn.never rfl (pi_tup (pfld rfl (pv 0))) (pg_tup rfl (pgs_cons (pg_name (i := 6) sc_Net_init.nd rfl (by first | exact Or.inl rfl | exact Or.inr rfl)) (pgs_cons (pg_name (i := 7) sc_Net_init.nd rfl (by first | exact Or.inl rfl | exact Or.inr rfl)) (pgs_cons (pg_name (i := 8) sc_Net_init.nd rfl (by first | exact Or.inl rfl | exact Or.inr rfl)) pgs_nil)))) (pss_one (ps_expr (pe_bm PySem.F.plainAttrs_list PySem.F.slot_list_append PySem.F.type_list_append mt_append (pe_nsetd hr.units (pfld rfl (pv 0)) (pe_tup (pa_cons (pv 6) (pa_cons (pv 7) pa_nil))) (pe_lst pa_nil) ⟨rfl, rfl, rfl, rfl⟩) (pa_cons (pv 8) pa_nil)))))))))))))), ?_⟩
  obtain ⟨x, dx, eb, fb, S, L, n, Es, Fs, rfl, hx, hE, hF, R, hQ⟩ := h
  have r1 := R.s1
  have r2 := R.l1
  have r3 := R.sn
  -- the first test
  refine ⟨_, rfl, _, _, rfl, rfl, _, rfl, iteN (decide_eq_false (by omega)) ?_⟩
  refine ⟨_, rfl, _, _, rfl, rfl, _, rfl, iteN (decide_eq_false (by omega)) ?_⟩
  refine ⟨_, rfl, _, rfl, _, _, rfl, rfl, _, rfl, iteN (decide_eq_false (by omega)) ?_⟩
  -- the second
  obtain ⟨ps, hE1, hE2⟩ := id hE
  dsimp only [tSeq, tIfS, tOr, tAnd, tNot, tB, tTest, tCB, tCons, tNil, tNext, tAsg, tRet, tDrop, tDo, gName]
  refine tlcA (fun R h => ⟨_, rfl, h⟩) hE1 (fun i => List.replicate i (.bl true)) rfl (fun D hD i v G hv sm hG => ?_) fun D1 hD1 G1 s1 hG1 => ?_
  · obtain ⟨p, e, rfl, he, hp⟩ := trs_get hE2 hv
    obtain ⟨e1, e2, e3⟩ := R.ef e (List.mem_of_getElem? he)
    exact ⟨rfl, ⟨_, rfl, _, rfl, _, rfl, p, e, L, n, rfl, Same.tup sm hp, ⟨e1, e2, e3⟩, _, hG, by rw [List.length_replicate]; have := (List.getElem?_eq_some_iff.mp he).1; have := R.el; exact line_lt (by omega), same_put sm hD, rep_snoc _ _⟩⟩
  refine ⟨D1, List.replicate (ps.map V.ref).length true, rfl, .inl (.inl (by rw [rep_bl]; exact hG1)), _, rfl, iteN (by rw [all_rep]; rfl) ?_⟩
  refine tlcL (fun R h => ⟨_, rfl, h⟩) (s1.seq hF) (fun i => List.replicate i (.bl true)) rfl (fun D hD i v G hv sm hG => ?_) fun D2 hD2 G2 s2 hG2 => ?_
  · obtain ⟨f, rfl, hf⟩ := nV_get hv
    have f1 := R.ff f (List.mem_of_getElem? hf)
    refine ⟨rfl, ⟨_, rfl, _, _, rfl, rfl, _, rfl, iteY (decide_eq_true (by omega)) ⟨_, rfl, _, _, rfl, rfl, _, hG, ?_, same_put sm hD, ?_⟩⟩⟩
    · rw [List.length_replicate]
      have := (List.getElem?_eq_some_iff.mp hf).1
      have := R.fl
      exact line_lt (by omega)
    · show List.replicate i (V.bl true) ++ [V.bl (decide ((f : Int) < (n : Int)))] = _
      rw [decide_eq_true (by omega)]
      exact rep_snoc _ _
  refine ⟨D2, List.replicate (nV Fs).length true, rfl, .inl (.inl (by rw [rep_bl]; exact hG2)), _, rfl, iteN (by rw [all_rep]; rfl) ?_⟩
  have s12 := s1.trans s2
  -- the fields
  refine ⟨_, rfl, _, rfl, x, _, dx, _, rfl, s12 _ _ hx, T.cl, T.noa 0 "states" rfl, l1000 0 rfl (by decide), ?_⟩
  refine ⟨_, rfl, _, rfl, x, _, dx, _, rfl, upd_same, T.cl, T.noa 1 "letters" rfl, l1000 1 rfl (by decide), ?_⟩
  refine ⟨_, rfl, _, rfl, x, _, dx, _, rfl, upd_same, T.cl, T.noa 2 "nodes" rfl, l1000 2 rfl (by decide), ?_⟩
  have sx : ∀ {o1 o2 o3 : HO}, SameX x H (L2.upd (L2.upd (L2.upd G2 x o1) x o2) x o3) := (SameX.of s12).upd.upd.upd
  dsimp only [tSeq, sFld]
  refine rd_setT (fun R h => ⟨_, rfl, h⟩) (sx.edA hx hE) (fun e he => ?_) R.el (fun p1 G4 es' s4 hp1 pw1 mem1 len1 => ?_)
  · have := R.ef e he
    have := R.n1
    have := R.l2
    unfold UTr
    omega
  have x4 : SameX x H G4 := sx.same s4
  refine ⟨_, rfl, x, _, dx, _, rfl, s4 _ _ upd_same, T.cl, T.noa 3 "edges" rfl, l1000 3 rfl (by decide), ?_⟩
  refine rd_setI (fun R h => ⟨_, rfl, h⟩) (.inl (x4.upd.lst hx (fun _ e => by cases e) (fun _ _ e => by cases e) hF)) (fun f hf => ?_) R.fl (fun p2 G5 s5 hp2 => ?_)
  · have := R.ff f hf
    have := R.n1
    omega
  have x5 : SameX x H G5 := x4.upd.same s5
  refine ⟨_, rfl, x, _, dx, _, rfl, s5 _ _ upd_same, T.cl, T.noa 4 "ends" rfl, l1000 4 rfl (by decide), ?_⟩
  refine fun pd hpd G6 n6 => ⟨_, rfl, x, _, dx, _, rfl, (n6.2 x (ne_of_none upd_same hpd)).trans upd_same, T.cl, T.noa 5 "_goals" rfl, l1000 5 rfl (by decide), ?_⟩
  have x6 : SameX x H G6 := fun b o nb hb => (n6.2 b (ne_of_none (x5.upd b o nb hb) hpd)).trans (x5.upd b o nb hb)
  have pdx : pd ≠ x := fun e => by
    subst e
    rw [upd_same] at hpd
    cases hpd
  have wf : Wf ⟨S, L, n, es', sortS Fs⟩ := ⟨R.s1, R.l1, R.l2, R.sn, R.n1, Nat.le_trans len1 R.el, pw1, fun e he => R.ef e ((mem1 e).mp he), sortS_sorted _, fun f hf => R.ff f (mem_sortS.mp hf)⟩
  obtain ⟨G7, hG7⟩ : ∃ G7, L2.upd G6 x (.ins (NetC K) dx (fsN ⟨S, L, n, es', sortS Fs⟩ p1 p2 pd)) = G7 := ⟨_, rfl⟩
  have x7 : G7 x = some (.ins (NetC K) dx (fsN ⟨S, L, n, es', sortS Fs⟩ p1 p2 pd)) := by rw [← hG7]; exact upd_same
  have t46 : TK1 K G4 G6 := ((updT (.inl (by rw [s4 _ _ upd_same]; exact True.intro))).trans (sameT s5)).trans ((updT (.inl (by rw [s5 _ _ upd_same]; exact True.intro))).trans (fun b xs h => by
    have key : ∀ o, (∀ es, o ≠ NDO P w pd es) → L2.upd G5 x _ b = some o → G6 b = some o := fun o no hb => (n6.2 b (ne_of_none hb hpd)).trans hb
    rcases h with (h | ⟨q, h⟩) | h
    · exact .inl (.inl (key _ (fun _ e => by cases e) h))
    · exact .inl (.inr ⟨q, key _ (fun _ e => by cases e) h⟩)
    · exact .inr h))
  have x66 : Mut (G6 x) ∨ G6 x = none := .inl (by rw [(n6.2 x (ne_of_none upd_same hpd)).trans upd_same]; exact True.intro)
  have t67 : TK1 K G6 G7 := by
    rw [← hG7]
    exact updT x66
  have e7 : EdT K G7 p1 es' := let ⟨ps, z1, z2⟩ := hp1; ⟨ps, t67 _ _ (t46 _ _ z1), Paired.imp (fun _ _ r => t67 _ _ (t46 _ _ r)) z2⟩
  have f7 : SqT K G7 p2 (nV (sortS Fs)) := by
    refine t67 _ _ ?_
    have t56 : TK1 K G5 G6 := (updT (.inl (by rw [s5 _ _ upd_same]; exact True.intro))).trans (fun b xs h => by
      have key : ∀ o, (∀ es, o ≠ NDO P w pd es) → L2.upd G5 x _ b = some o → G6 b = some o := fun o no hb => (n6.2 b (ne_of_none hb hpd)).trans hb
      rcases h with (h | ⟨q, h⟩) | h
      · exact .inl (.inl (key _ (fun _ e => by cases e) h))
      · exact .inl (.inr ⟨q, key _ (fun _ e => by cases e) h⟩)
      · exact .inr h)
    exact t56 _ _ hp2
  have d7 : ND P w K G7 pd [] := n6.1.keep t67 (by rw [← hG7]; exact upd_ne pdx)
  have sx7 : SameX x H G7 := by
    rw [← hG7]
    exact x6.upd
  show tFor _ _ _ _ _ (L2.upd G6 x (.ins (NetC K) dx (fsN ⟨S, L, n, es', sortS Fs⟩ p1 p2 pd)))
  rw [hG7]
  obtain ⟨qs, e71, e72⟩ := id e7
  refine tforT (a := p1) (xs := qs.map V.ref) (fun R h => ⟨_, rfl, x, _, dx, _, _, rfl, x7, T.cl, T.noa 3 "edges" rfl, rfl, h⟩)
    (fun i σ G => (∃ v6 v7 v8, σ = [some (.ref x), some (.int S), some (.int L), some (.int n), some (.ref eb), some (.ref fb), v6, v7, v8, none, none]) ∧ GD P w K G7 pd G (es'.take i) i) e71 ⟨⟨_, _, _, rfl⟩, GD.start d7⟩
    (fun i σ G p => ?_) (fun i v σ G hv ⟨⟨v6, v7, v8, hσ⟩, hG⟩ => ?_) (fun σ G ⟨⟨v6, v7, v8, hσ⟩, hG⟩ => ?_)
  · exact p.2.1.tupN d7 e71
  · obtain ⟨q, e, rfl, he, hq⟩ := trs_get e72 hv
    subst hσ
    have gx : G x = some (.ins (NetC K) dx (fsN ⟨S, L, n, es', sortS Fs⟩ p1 p2 pd)) := hG.1 x _ (Ne.symm pdx) x7
    refine ⟨q, _, rfl, hG.1.tupN d7 hq, rfl, _, _, rfl, _, _, rfl, _, _, rfl, rfl, ?_⟩
    refine ⟨_, rfl, x, _, dx, _, _, rfl, gx, T.cl, T.noa 5 "_goals" rfl, rfl, pd, rfl, hG.dict, _, rfl, _, rfl, by show 2 ≤ sizeLine; decide, fun k hk => ⟨Nat.zero_le _, fun z hz => ?_⟩⟩
    have sk := same_new (o := .tup [.int (e.1 : Nat), .int (e.2.1 : Nat)]) hk
    have lt := (List.getElem?_eq_some_iff.mp he).1
    have el := R.el
    obtain ⟨kvs, h1, h2, h3, h4⟩ := hG.app (x := e.1) (l := e.2.1) (y := e.2.2) (sk.trans (same_new (o := .lst []) hz)) (sk.free hz) upd_same
    refine ⟨kvs, nkI [(e.1 : Int), e.2.1], k, rfl, h1, keyI (SqT.of (by rw [upd_ne (ne_of_none upd_same hz)]; exact upd_same)), depthI _, line_lt (by omega), fun v hv => ?_, fun hn G4 hp => ?_⟩
    · obtain ⟨b, rfl, b1, b2⟩ := h3 v hv
      refine ⟨.inl ⟨rfl, _, SqL.of b1⟩, _, rfl, b, _, _, rfl, rfl, b1, ?_, ⟨_, _, _, rfl⟩, ?_⟩
      · rw [nV_len]
        have := goalsE_len (es'.take i) e.1 e.2.1
        rw [List.length_take] at this
        exact line_lt (by omega)
      · rw [take_snoc he]
        exact b2
    · obtain ⟨b1, b2⟩ := h4 hn G4 hp
      refine ⟨.inl ⟨rfl, _, SqL.of b1⟩, _, rfl, z, _, _, rfl, rfl, b1, line_lt (Nat.zero_le _), ⟨_, _, _, rfl⟩, ?_⟩
      rw [take_snoc he]
      exact b2
  · have ln : (qs.map V.ref).length = es'.length := trs_len e72
    rw [ln, List.take_length] at hG
    have eT : EdT K G p1 es' := ⟨qs, hG.1.tupN d7 e71, Paired.imp (fun _ _ r => hG.1.tupN d7 r) e72⟩
    have gx := hG.1 x _ (Ne.symm pdx) x7
    have hpdH : H pd = none := by
      cases q : H pd with
      | none => rfl
      | some o =>
        have z := x5 pd o pdx q
        rw [upd_ne pdx, z] at hpd
        cases hpd
    refine hQ G ⟨S, L, n, es', sortS Fs⟩ (fun b o nb hb => hG.1 b o (fun e => ?_) (sx7 b o nb hb)) ⟨wf, dx, p1, p2, pd, gx, eT, hG.1.tupN d7 f7, hG.fin⟩ (fun D ys hD => ?_) ⟨rfl, rfl, rfl, mem1, len1, fun f => mem_sortS⟩
    · subst e
      rw [hpdH] at hb
      cases hb
    · have Dx : D ≠ x := fun e => by
        subst e
        rw [hx] at hD
        cases hD
      have Dpd : D ≠ pd := ne_of_none hD hpdH
      have D7 : G7 D = some (.lst ys) := sx7 D _ Dx hD
      have DG : G D = some (.lst ys) := hG.1 D _ Dpd D7
      have tk : TK1 K G (hide D G) := tk_hide DG
      refine ⟨wf, dx, p1, p2, pd, (hide_ne (Ne.symm Dx)).trans gx, let ⟨z, z1, z2⟩ := eT; ⟨z, tk _ _ z1, Paired.imp (fun _ _ r => tk _ _ r) z2⟩, tk _ _ (hG.1.tupN d7 f7), ?_⟩
      obtain ⟨g1, kvs, g2, g3, g4, g5⟩ := hG
      refine ⟨kvs, g2.keep tk (hide_ne (Ne.symm Dpd)), fun x l => ?_⟩
      rcases g5 x l with z | ⟨b, z1, z2, z3, z4⟩
      · exact .inl z
      · exact .inr ⟨b, z1, SqL.of ((hide_ne (fun e => by rw [e, D7] at z2; cases z2)).trans z4)⟩
end
end K23
/-! K23Wc -/
set_option Elab.async false
set_option linter.all false
set_option maxRecDepth 100000
set_option maxHeartbeats 4000000
namespace K23
open PySem PySem.Spec PyProof.Rows L2
section
variable {P : Program} {w : World} {K : PySem.W.Frag} {mg : Str → Option Value} {base : Heap}
def Net.plB (N : Net) : Bool := N.E.all fun e => decide (N.S ≤ e.2.2)
theorem map_bl {α : Type} (f : α → Bool) (l : List α) : (l.map f).map V.bl = l.map fun x => V.bl (f x) := by rw [List.map_map]; rfl
theorem map_take_snoc {α β : Type} {f : α → β} {l : List α} {i : Nat} {x : α} (h : l[i]? = some x) : (l.take i).map f ++ [f x] = (l.take (i + 1)).map f := by
  rw [take_snoc h, List.map_append]
  rfl
theorem take_map_lt {α β : Type} {f : α → β} {l : List α} {i : Nat} {x : α} (h : l[i]? = some x) (hl : l.length ≤ 16777215) : ((l.take i).map f).length < sizeLine := by
  have := (List.getElem?_eq_some_iff.mp h).1
  rw [List.length_map, List.length_take]
  exact line_lt (by omega)
def sp_Net_is_plain (P : Program) (w : World) (K : PySem.W.Frag) : SpN := fun vs H Q => ∃ a N, vs = [.ref a] ∧ NetAt P w K H a N ∧ ∀ H', Same H H' → Q (.bl N.plB) H'
theorem len_Net_is_plain : ∀ vs H Q, sp_Net_is_plain P w K vs H Q → vs.length = 1 := fun _ _ _ ⟨_, _, e, _⟩ => by subst e; rfl
theorem sc_Net_is_plain : FnScope ["self", "edge"] ["self"] (defScope s_Net_is_plain) := ⟨rfl, rfl, rfl, by decide +kernel, rfl, by decide +kernel, by decide +kernel⟩
/- slots: 0 self, 1 edge -/
theorem ok_Net_is_plain (T : Tb K mg)  : Cal P w K mg base (grA K) 1 ["self"] (sp_Net_is_plain P w K) := by
  obtain ⟨fd, F⟩ := T.get
  refine cal_of (N := ["self", "edge"]) F sc_Net_is_plain (F.bindsN fun _ _ _ _ _ _ us hl => match us, hl with | [_], _ => rfl) (len_Net_is_plain) fun cdv A outer s H vs Q E hr h => ?_
  refine ⟨(tRet (tCB (rAll K) (tCons (tLc (iTup K (tFld K (tVar 0) "edges")) (gName 1) tYes (tOp rGe (tOp (rIxT K) (tVar 1) (tC (.int 2))) (tFld K (tVar 0) "states")) [1]) tNil))), (pss_one (ps_ret (pe_callB (cr_all rfl) (by rfl) (T.fre 9 "all" rfl) kb_all (pa_cons (pe_lc (own := [("edge", 1)]) (g := (gName 1)) (tt := tYes) (te := (tOp rGe (tOp (rIxT K) (tVar 1) (tC (.int 2))) (tFld K (tVar 0) "states"))) rfl sc_Net_is_plain.nd (pi_tup (pfld rfl (pv 0))) (blkOk_by (N := ["self", "edge"]) (sc := defScope s_Net_is_plain) (by decide +kernel)) (fun _ _ _ _ _ => (pg_name (i := 1) sc_Net_is_plain.nd rfl (by first | exact Or.inl rfl | exact Or.inr rfl))) (fun _ _ _ _ _ => pts_nil) (fun _ _ _ _ _ => (pe_cmpR op_ge (pe_ix ix_tup (pv 1) pe_int (fun _ _ => rfl)) (pfld rfl (pv 0)) (nomark _)))) pa_nil)))), ?_⟩
  obtain ⟨a, N, rfl, ⟨hw, dx, pe, pf, pd, h1, ⟨ps, h2, h2'⟩, h3, h4⟩, hQ⟩ := h
  have el := hw.en
  dsimp only [tSeq, tIfS, tOr, tAnd, tNot, tB, tTest, tCB, tCons, tNil, tNext, tAsg, tRet, tDrop, tDo, gName]
  refine tlcT (fun R h => ⟨_, rfl, a, _, dx, _, _, rfl, h1, T.cl, T.noa 3 "edges" rfl, rfl, h⟩) h2 (fun i => (N.E.take i).map fun e => V.bl (decide (N.S ≤ e.2.2))) rfl (fun D hD i v G hv sm hG => ?_) fun D hD G sm hG => ?_
  · obtain ⟨p, e, rfl, he, hp⟩ := trs_get h2' hv
    refine ⟨rfl, ⟨_, rfl, p, _, _, _, rfl, rfl, Same.tup sm hp, atI_n (n := 2) rfl rfl, _, rfl, a, _, dx, _, _, rfl, sm _ _ h1, T.cl, T.noa 0 "states" rfl, rfl, _, _, rfl, rfl, _, hG, take_map_lt he (by omega), same_put sm hD, ?_⟩⟩
    rw [← map_take_snoc he]
    have c : decide ((N.S : Int) ≤ (e.2.2 : Int)) = decide (N.S ≤ e.2.2) := decide_eq_decide.mpr Int.ofNat_le
    show _ ++ [V.bl (decide ((N.S : Int) ≤ (e.2.2 : Int)))] = _
    rw [c]
  · rw [trs_len h2', List.take_length, ← map_bl] at hG
    refine ⟨D, _, rfl, SqL.of hG, ?_⟩
    rw [List.all_map]
    exact hQ G sm
/-- has_end -/
def hasE (F g : List Nat) : Bool := g.any fun x => decide (x ∈ F)
def sp_Net_has_end (P : Program) (w : World) (K : PySem.W.Frag) : SpN := fun vs H Q => ∃ a N b g, vs = [.ref a, .ref b] ∧ NetAt P w K H a N ∧ SqT K H b (nV g) ∧ g.length ≤ 16777215 ∧ ∀ H', Same H H' → Q (.bl (hasE N.F g)) H'
theorem len_Net_has_end : ∀ vs H Q, sp_Net_has_end P w K vs H Q → vs.length = 2 := fun _ _ _ ⟨_, _, _, _, e, _⟩ => by subst e; rfl
theorem sc_Net_has_end : FnScope ["self", "nodes", "node"] ["self", "nodes"] (defScope s_Net_has_end) := ⟨rfl, rfl, rfl, by decide +kernel, rfl, by decide +kernel, by decide +kernel⟩
/- slots: 0 self, 1 nodes, 2 node -/
theorem ok_Net_has_end (T : Tb K mg)  : Cal P w K mg base (He.ma K (NetC K) "has_end") 1 ["self", "nodes"] (sp_Net_has_end P w K) := by
  obtain ⟨fd, F⟩ := T.dfs 4 d_Net_has_end rfl
  refine cal_of (N := ["self", "nodes", "node"]) F sc_Net_has_end (F.bindsN fun _ _ _ _ _ _ us hl => match us, hl with | [_, _], _ => rfl) (len_Net_has_end) fun cdv A outer s H vs Q E hr h => ?_
  refine ⟨(tRet (tCB (rAny K) (tCons (tLc (iTup K (tVar 1)) (gName 2) tYes (tOp (rIn K false) (tVar 2) (tFld K (tVar 0) "ends")) [2]) tNil))), (pss_one (ps_ret (pe_callB (cr_any rfl) (by rfl) (T.fre 10 "any" rfl) kb_any (pa_cons (pe_lc (own := [("node", 2)]) (g := (gName 2)) (tt := tYes) (te := (tOp (rIn K false) (tVar 2) (tFld K (tVar 0) "ends"))) rfl sc_Net_has_end.nd (pi_tup (pv 1)) (blkOk_by (N := ["self", "nodes", "node"]) (sc := defScope s_Net_has_end) (by decide +kernel)) (fun _ _ _ _ _ => (pg_name (i := 2) sc_Net_has_end.nd rfl (by first | exact Or.inl rfl | exact Or.inr rfl))) (fun _ _ _ _ _ => pts_nil) (fun _ _ _ _ _ => (pe_cmpR op_in_seq (pv 2) (pfld rfl (pv 0)) (by with_unfolding_all rfl)))) pa_nil)))), ?_⟩
  obtain ⟨a, N, b, g, rfl, ⟨hw, dx, pe, pf, pd, h1, h2, h3, h4⟩, hb, hl, hQ⟩ := h
  dsimp only [tSeq, tIfS, tOr, tAnd, tNot, tB, tTest, tCB, tCons, tNil, tNext, tAsg, tRet, tDrop, tDo, gName]
  refine tlcT (fun R h => ⟨_, rfl, h⟩) hb (fun i => (g.take i).map fun x => V.bl (decide (x ∈ N.F))) rfl (fun D hD i v G hv sm hG => ?_) fun D hD G sm hG => ?_
  · obtain ⟨x, rfl, hx⟩ := nV_get hv
    refine ⟨rfl, ⟨_, rfl, _, rfl, a, _, dx, _, _, rfl, sm _ _ h1, T.cl, T.noa 4 "ends" rfl, rfl, pf, _, rfl, .inr (Same.tup sm h3), rfl, flatV_nV _, _, hG, take_map_lt hx hl, same_put sm hD, ?_⟩⟩
    rw [← map_take_snoc hx]
    show _ ++ [V.bl (inV (.int x) (nV N.F))] = _
    rw [inV_nV]
  · rw [nV_len, List.take_length, ← map_bl] at hG
    refine ⟨D, _, rfl, SqL.of hG, ?_⟩
    rw [List.any_map]
    exact hQ G sm
/-! moved -/
def addU (ks : List Nat) (y : Nat) : List Nat := if y ∈ ks then ks else ks ++ [y]
def kvU (ks : List Nat) : List (Key × V) := ks.map fun (k : Nat) => (Sum.inl (k : Int), V.bl true)
theorem valV_kvU (ks : List Nat) (y : Nat) : (valV (kvU ks) (Sum.inl (y : Int))).isSome = decide (y ∈ ks) := by
  rw [← valV_any]
  unfold kvU
  rw [List.any_map]
  by_cases h : y ∈ ks
  · rw [decide_eq_true h, List.any_eq_true]
    exact ⟨y, h, decide_eq_true rfl⟩
  · rw [decide_eq_false h, List.any_eq_false]
    intro x hx e
    have e2 : (Sum.inl (x : Int) : Key) = Sum.inl (y : Int) := of_decide_eq_true e
    injection e2 with e2
    exact h (Int.ofNat.inj e2 ▸ hx)
theorem put_kvU (ks : List Nat) (y : Nat) : putK (kvU ks) (Sum.inl (y : Int)) (V.bl true) = kvU (addU ks y) := by
  unfold putK addU
  rw [valV_any, valV_kvU]
  by_cases h : y ∈ ks
  · rw [if_pos (decide_eq_true h), if_pos h]
    unfold kvU
    rw [List.map_map]
    refine List.map_congr_left fun x _ => ?_
    show (if (Sum.inl (x : Int) : Key) = Sum.inl (y : Int) then ((Sum.inl (x : Int) : Key), V.bl true) else ((Sum.inl (x : Int) : Key), V.bl true)) = _
    split <;> rfl
  · rw [if_neg (by rw [decide_eq_false h]; decide), if_neg h]
    unfold kvU
    rw [List.map_append]
    rfl
theorem addU_nodup {ks : List Nat} {y : Nat} (h : ks.Nodup) : (addU ks y).Nodup := by
  unfold addU
  split
  · exact h
  · rename_i n
    exact List.nodup_append.mpr ⟨h, List.pairwise_singleton _ _, fun a ha b hb e => n (by rw [← List.mem_singleton.mp hb, ← e]; exact ha)⟩
theorem mem_addU {ks : List Nat} {y x : Nat} : x ∈ addU ks y ↔ x ∈ ks ∨ x = y := by
  unfold addU
  split
  · rename_i h
    exact ⟨.inl, fun z => z.elim id fun e => e ▸ h⟩
  · rw [List.mem_append, List.mem_singleton]
theorem goals_sub {E : List Tr} {ks : List Nat} (h : ∀ y ∈ ks, ∃ x l, (x, l, y) ∈ E) (nd : ks.Nodup) : ks.length ≤ E.length := by
  rw [← List.length_map (f := fun e : Tr => e.2.2) (as := E)]
  refine nd.length_le_of_subset fun y hy => ?_
  obtain ⟨x, l, h⟩ := h y hy
  exact List.mem_map.mpr ⟨_, h, rfl⟩
def sp_Net_moved (P : Program) (w : World) (K : PySem.W.Frag) : SpN := fun vs H Q => ∃ a N b g l, vs = [.ref a, .ref b, .int (l : Nat)] ∧ NetAt P w K H a N ∧ SqT K H b (nV g) ∧ ∀ p H', Same H H' → SqT K H' p (nV (mvE N.E g l)) → Q (.ref p) H'
theorem len_Net_moved : ∀ vs H Q, sp_Net_moved P w K vs H Q → vs.length = 3 := fun _ _ _ ⟨_, _, _, _, _, e, _⟩ => by subst e; rfl
theorem sc_Net_moved : FnScope ["self", "nodes", "letter", "found", "node", "goal"] ["self", "nodes", "letter"] (defScope s_Net_moved) := ⟨rfl, rfl, rfl, by decide +kernel, rfl, by decide +kernel, by decide +kernel⟩
/- slots: 0 self, 1 nodes, 2 letter, 3 found, 4 node, 5 goal -/
theorem ok_Net_moved (T : Tb K mg) (c_Net_goals : Cal P w K mg base (He.ma K (NetC K) "goals") 1 ["self", "node", "letter"] (sp_Net_goals P w K)) : Cal P w K mg base (He.ma K (NetC K) "moved") 2 ["self", "nodes", "letter"] (sp_Net_moved P w K) := by
  obtain ⟨fd, F⟩ := T.dfs 3 d_Net_moved rfl
  refine cal_of (N := ["self", "nodes", "letter", "found", "node", "goal"]) F sc_Net_moved (F.bindsN fun _ _ _ _ _ _ us hl => match us, hl with | [_, _, _], _ => rfl) (len_Net_moved) fun cdv A outer s H vs Q E hr h => ?_
  refine ⟨(tSeq (tAsg tDNewK (gName 3)) (tSeq (tFor (iTup K (tVar 1)) (gName 4) (tFor (iList K (tMe K "goals" (sp_Net_goals P w K) (tVar 0) (tCons (tVar 4) (tCons (tVar 2) tNil)))) (gName 5) (sDPut (tVar 3) (tVar 5) (tC (.bl true))))) (tRet (tCB (rTupOf K) (tCons (tCB (rSortI2 K) (tCons (tCB rListD (tCons (tVar 3) tNil)) tNil)) tNil))))), (pss_cons (ps_set (i := 3) sc_Net_moved.nd rfl (by first | exact Or.inl rfl | exact Or.inr rfl) pe_dnewK) (pss_cons (ps_for PassesOwn.never rfl (pi_tup (pv 1)) (pg_name (i := 4) sc_Net_moved.nd rfl (by first | exact Or.inl rfl | exact Or.inr rfl)) (pss_one (ps_for PassesOwn.never rfl (pi_list (pmet rfl (pv 0) T.cl (T.met 0 "goals" rfl) c_Net_goals (hr.mono (by decide)) (pa_cons (pv 4) (pa_cons (pv 2) pa_nil)))) (pg_name (i := 5) sc_Net_moved.nd rfl (by first | exact Or.inl rfl | exact Or.inr rfl)) (pss_one (ps_dput (hu_of hr) (pv 3) (pv 5) pe_bl rfl))))) (pss_one (ps_ret (pe_callTy call_tuple_ofn (by rfl) (T.fre 2 "tuple" rfl) kb_tuple (pa_cons (pe_callB (cr_sortI2 hr.units) (by rfl) (T.fre 3 "sorted" rfl) kb_sorted (pa_cons (pe_callTy (call_list_dK rfl) (by rfl) (T.fre 5 "list" rfl) kb_list (pa_cons (pv 3) pa_nil)) pa_nil)) pa_nil)))))), ?_⟩
  obtain ⟨a, N, b, g, l, rfl, hN, hb, hQ⟩ := h
  have el := hN.1.en
  refine fun d hd => ?_
  have s0 := same_new (o := .dK []) hd
  have keep : ∀ {G : Hp}, Same H G → ∀ o, Same H (upd G d o) := fun s o => same_put s hd
  have sub : ∀ {k : Nat} {ks : List Nat}, (∀ y, y ∈ ks → ∃ x ∈ g.take k, y ∈ goalsE N.E x l) → ∀ y ∈ ks, ∃ x l, (x, l, y) ∈ N.E := fun h y hy => let ⟨x, _, h2⟩ := h y hy; ⟨x, l, mem_goalsE.mp h2⟩
  dsimp only [tSeq, tIfS, tOr, tAnd, tNot, tB, tTest, tCB, tCons, tNil, tNext, tAsg, tRet, tDrop, tDo, gName]
  refine tforT (fun R h => ⟨_, rfl, h⟩) (fun i σ G => (∃ v4 v5, σ = [some (.ref a), some (.ref b), some (.int l), some (.ref d), v4, v5]) ∧ Same H G ∧ ∃ ks, G d = some (.dK (kvU ks)) ∧ ks.Nodup ∧ ∀ y, y ∈ ks ↔ ∃ x ∈ g.take i, y ∈ goalsE N.E x l)
    (Same.tup s0 hb) ⟨⟨_, _, rfl⟩, s0, [], upd_same, List.nodup_nil, fun y => ⟨fun h => (nomatch h), fun ⟨x, h, _⟩ => (nomatch h)⟩⟩ (fun i σ G p => Same.tup p.2.1 hb) (fun i v σ G hv ⟨⟨v4, v5, hσ⟩, sG, ks, hG, nd, mem⟩ => ?_) (fun σ G ⟨⟨v4, v5, hσ⟩, sG, ks, hG, nd, mem⟩ => ?_)
  · obtain ⟨x, rfl, hx⟩ := nV_get hv
    subst hσ
    have hN2 := hN.same sG
    obtain ⟨hw, dx, pe, pf, pd, h1, h2, h3, h4⟩ := id hN2
    refine ⟨_, rfl, a, dx, _, rfl, h1, rfl, _, rfl, _, rfl, a, N, x, l, rfl, hN2, fun p G2 s2 hp hp2 => ⟨p, rfl, ⟨_, SqL.of hp2⟩, ?_⟩⟩
    have dp : d ≠ p := ne_of_none hG hp
    refine for_list (fun j σ G => (∃ v5, σ = [some (.ref a), some (.ref b), some (.int l), some (.ref d), some (.int x), v5]) ∧ Same H G ∧ G p = some (.lst (nV (goalsE N.E x l))) ∧ ∃ ks, G d = some (.dK (kvU ks)) ∧ ks.Nodup ∧ ∀ y, y ∈ ks ↔ (∃ x ∈ g.take i, y ∈ goalsE N.E x l) ∨ y ∈ (goalsE N.E x l).take j)
      ⟨⟨_, rfl⟩, sG.trans s2, hp2, ks, s2 _ _ hG, nd, fun y => by rw [mem y]; simp⟩ (fun j σ G _ q => SqL.of q.2.2.1) (fun j u σ G hu ⟨⟨v5, hσ⟩, sG, hGp, ks, hG, nd, mem⟩ => ?_) (fun σ G ⟨⟨v5, hσ⟩, sG, hGp, ks, hG, nd, mem⟩ => ?_)
    · obtain ⟨y, rfl, hy⟩ := nV_get hu
      subst hσ
      have mem' : ∀ z, z ∈ addU ks y ↔ (∃ x ∈ g.take i, z ∈ goalsE N.E x l) ∨ z ∈ (goalsE N.E x l).take (j + 1) := fun z => by
        rw [mem_addU, mem z, take_snoc hy, List.mem_append, List.mem_singleton]
        exact or_assoc
      have lk : ks.length ≤ N.E.length := goals_sub (fun z hz => by
        rcases (mem z).mp hz with ⟨x', _, h⟩ | h
        · exact ⟨x', l, mem_goalsE.mp h⟩
        · exact ⟨x, l, mem_goalsE.mp (List.mem_of_mem_take h)⟩) nd
      refine ⟨_, rfl, _, rfl, d, _, rfl, DPut.k (k := Sum.inl (y : Int)) hG (by unfold kvU; rw [List.length_map]; exact line_lt (by omega)), ⟨_, rfl⟩, keep sG _, (upd_ne (Ne.symm dp)).trans hGp, addU ks y, ?_, addU_nodup nd, mem'⟩
      rw [put_kvU]
      exact upd_same
    · subst hσ
      refine ⟨⟨_, _, rfl⟩, sG, ks, hG, nd, fun y => ?_⟩
      rw [mem y, nV_len, List.take_length, take_snoc hx]
      constructor
      · rintro (⟨x', h1, h2⟩ | h)
        · exact ⟨x', List.mem_append_left _ h1, h2⟩
        · exact ⟨x, List.mem_append_right _ List.mem_cons_self, h⟩
      · rintro ⟨x', h1, h2⟩
        rcases List.mem_append.mp h1 with h1 | h1
        · exact .inl ⟨x', h1, h2⟩
        · rw [List.mem_singleton.mp h1] at h2
          exact .inr h2
  · subst hσ
    have lk : ks.length ≤ N.E.length := goals_sub (fun z hz => let ⟨x', _, h⟩ := (mem z).mp hz; ⟨x', l, mem_goalsE.mp h⟩) nd
    have e : sortS ks = mvE N.E g l := sorted_ext (sortS_sorted _) (mvE_sorted _ _ _) fun y => by
      rw [mem_sortS, mem y, mem_mvE, nV_len, List.take_length]
      exact ⟨fun ⟨x, h1, h2⟩ => ⟨x, h1, mem_goalsE.mp h2⟩, fun ⟨x, h1, h2⟩ => ⟨x, h1, mem_goalsE.mpr h2⟩⟩
    dsimp only [tRet]
    refine rd_sortI (l := ks) (fun R h => ⟨_, rfl, d, _, rfl, hG, fun q hq => h q _ (same_new hq) (.inl (SqL.of ?_))⟩) nd (by omega) fun p G2 s2 hp => hQ p G2 (sG.trans s2) (by rw [← e]; exact hp)
    rw [upd_same]
    unfold kvU nV
    rw [List.map_map]
    rfl
/-! accepts -/
def sp_Net_accepts (P : Program) (w : World) (K : PySem.W.Frag) : SpN := fun vs H Q => ∃ a N c b s0 wd, vs = [.ref a, .ref c] ∧ NetAt P w K H a N ∧ SqT K H c [.int (s0 : Nat), .ref b] ∧ SqT K H b (nV wd) ∧ ∀ H', Same H H' → Q (.bl (N.acc s0 wd)) H'
theorem len_Net_accepts : ∀ vs H Q, sp_Net_accepts P w K vs H Q → vs.length = 2 := fun _ _ _ ⟨_, _, _, _, _, _, e, _⟩ => by subst e; rfl
theorem runE_snoc (E : List Tr) (g w : List Nat) (l : Nat) : runE E g (w ++ [l]) = mvE E (runE E g w) l := by
  unfold runE
  rw [List.foldl_append]
  rfl
theorem mv_len {E : List Tr} {g : List Nat} {l : Nat} : (mvE E g l).length ≤ E.length := goals_sub (fun y hy => let ⟨x, _, h⟩ := mem_mvE.mp hy; ⟨x, l, h⟩) (List.Pairwise.imp (fun h => Nat.ne_of_lt h) (mvE_sorted E g l))
theorem run_len {E : List Tr} {s : Nat} {w : List Nat} : (runE E [s] w).length ≤ E.length + 1 := by
  rcases List.eq_nil_or_concat w with rfl | ⟨w', l, rfl⟩
  · exact Nat.le_add_left _ _
  · rw [List.concat_eq_append, runE_snoc]
    exact Nat.le_succ_of_le mv_len
theorem sc_Net_accepts : FnScope ["self", "configuration", "state", "pile", "nodes", "letter"] ["self", "configuration"] (defScope s_Net_accepts) := ⟨rfl, rfl, rfl, by decide +kernel, rfl, by decide +kernel, by decide +kernel⟩
/- slots: 0 self, 1 configuration, 2 state, 3 pile, 4 nodes, 5 letter -/
theorem ok_Net_accepts (T : Tb K mg) (c_Net_moved : Cal P w K mg base (He.ma K (NetC K) "moved") 2 ["self", "nodes", "letter"] (sp_Net_moved P w K)) (c_Net_has_end : Cal P w K mg base (He.ma K (NetC K) "has_end") 1 ["self", "nodes"] (sp_Net_has_end P w K)) : Cal P w K mg base (He.ma K (NetC K) "accepts") 3 ["self", "configuration"] (sp_Net_accepts P w K) := by
  obtain ⟨fd, F⟩ := T.dfs 5 d_Net_accepts rfl
  refine cal_of (N := ["self", "configuration", "state", "pile", "nodes", "letter"]) F sc_Net_accepts (F.bindsN fun _ _ _ _ _ _ us hl => match us, hl with | [_, _], _ => rfl) (len_Net_accepts) fun cdv A outer s H vs Q E hr h => ?_
  refine ⟨(tSeq (tAsg (tVar 1) (gTup K 2 (gCons (gName 2) (gCons (gName 3) gNil)))) (tSeq (tAsg (tTup (tCons (tVar 2) tNil)) (gName 4)) (tSeq (tFor (iTup K (tVar 3)) (gName 5) (tAsg (tMe K "moved" (sp_Net_moved P w K) (tVar 0) (tCons (tVar 4) (tCons (tVar 5) tNil))) (gName 4))) (tRet (tMe K "has_end" (sp_Net_has_end P w K) (tVar 0) (tCons (tVar 4) tNil)))))), (pss_cons (ps_asg (pv 1) (pg_tup rfl (pgs_cons (pg_name (i := 2) sc_Net_accepts.nd rfl (by first | exact Or.inl rfl | exact Or.inr rfl)) (pgs_cons (pg_name (i := 3) sc_Net_accepts.nd rfl (by first | exact Or.inl rfl | exact Or.inr rfl)) pgs_nil)))) (pss_cons (ps_set (i := 4) sc_Net_accepts.nd rfl (by first | exact Or.inl rfl | exact Or.inr rfl) (pe_tup (pa_cons (pv 2) pa_nil))) (pss_cons (ps_for PassesOwn.never rfl (pi_tup (pv 3)) (pg_name (i := 5) sc_Net_accepts.nd rfl (by first | exact Or.inl rfl | exact Or.inr rfl)) (pss_one (ps_set (i := 4) sc_Net_accepts.nd rfl (by first | exact Or.inl rfl | exact Or.inr rfl) (pmet rfl (pv 0) T.cl (T.met 1 "moved" rfl) c_Net_moved (hr.mono (by decide)) (pa_cons (pv 4) (pa_cons (pv 5) pa_nil)))))) (pss_one (ps_ret (pmet rfl (pv 0) T.cl (T.met 2 "has_end" rfl) c_Net_has_end (hr.mono (by decide)) (pa_cons (pv 4) pa_nil))))))), ?_⟩
  obtain ⟨a, N, c, b, s0, wd, rfl, hN, hc, hb, hQ⟩ := h
  have el := hN.1.en
  refine ⟨_, rfl, c, _, rfl, hc, rfl, _, _, rfl, _, _, rfl, rfl, _, rfl, (by show 1 ≤ sizeLine; decide), fun q hq => ?_⟩
  have sq := same_new (o := .tup [.int (s0 : Nat)]) hq
  dsimp only [tSeq, tIfS, tOr, tAnd, tNot, tB, tTest, tCB, tCons, tNil, tNext, tAsg, tRet, tDrop, tDo, gName]
  refine tforT (fun R h => ⟨_, rfl, h⟩) (fun i σ G => (∃ p v5, σ = [some (.ref a), some (.ref c), some (.int s0), some (.ref b), some (.ref p), v5] ∧ SqT K G p (nV (runE N.E [s0] (wd.take i)))) ∧ Same H G)
    (Same.tup sq hb) ⟨⟨q, _, rfl, SqT.of upd_same⟩, sq⟩ (fun i σ G p => Same.tup p.2 hb) (fun i v σ G hv ⟨⟨p, v5, hσ, hp⟩, sG⟩ => ?_) (fun σ G ⟨⟨p, v5, hσ, hp⟩, sG⟩ => ?_)
  · obtain ⟨l, rfl, hl⟩ := nV_get hv
    subst hσ
    have hN2 := hN.same sG
    obtain ⟨hw, dx, pe, pf, pd, h1, h2, h3, h4⟩ := id hN2
    refine ⟨_, rfl, a, dx, _, rfl, h1, rfl, _, rfl, _, rfl, a, N, p, _, l, rfl, hN2, hp, fun p2 G2 s2 hp2 => ⟨⟨p2, _, rfl, ?_⟩, sG.trans s2⟩⟩
    rw [take_snoc hl, runE_snoc]
    exact hp2
  · subst hσ
    have hN2 := hN.same sG
    obtain ⟨hw, dx, pe, pf, pd, h1, h2, h3, h4⟩ := id hN2
    rw [nV_len, List.take_length] at hp
    have := run_len (E := N.E) (s := s0) (w := wd)
    exact ⟨_, rfl, a, dx, _, rfl, h1, rfl, _, rfl, a, N, p, _, rfl, hN2, hp, by omega, fun G2 s2 => hQ G2 (sG.trans s2)⟩
end
end K23
/-! K23Wd -/
set_option Elab.async false
set_option linter.all false
set_option maxRecDepth 100000
set_option maxHeartbeats 4000000
namespace K23
open PySem PySem.Spec PyProof.Rows L2
/-! ### lists that grow -/
/-- a list of references at d, to be written -/
def LM {α : Type} (R : Hp → Addr → α → Prop) (G : Hp) (d : Addr) (es : List α) : Prop := ∃ ps : List Addr, G d = some (.lst (ps.map V.ref)) ∧ Paired (R G) ps es
/-- .. to be read -/
def LR {α : Type} (K : PySem.W.Frag) (R : Hp → Addr → α → Prop) (G : Hp) (d : Addr) (es : List α) : Prop := ∃ ps : List Addr, SqL K G d (ps.map V.ref) ∧ Paired (R G) ps es
def Stb {α : Type} (K : PySem.W.Frag) (R : Hp → Addr → α → Prop) : Prop := ∀ G G' p e, TK1 K G G' → R G p e → R G' p e
section
variable {α : Type} {K : PySem.W.Frag} {R : Hp → Addr → α → Prop} {G G1 : Hp} {d t : Addr} {es : List α} {e : α}
theorem LM.read (h : LM R G d es) : LR K R G d es := let ⟨ps, h1, h2⟩ := h; ⟨ps, SqL.of h1, h2⟩
theorem LM.same (hR : Stb K R) (h : LM R G d es) (s : Same G G1) : LM R G1 d es := let ⟨ps, h1, h2⟩ := h; ⟨ps, s _ _ h1, Paired.imp (fun _ _ r => hR _ _ _ _ (sameT s) r) h2⟩
theorem LR.same (hR : Stb K R) (h : LR K R G d es) (s : Same G G1) : LR K R G1 d es := let ⟨ps, h1, h2⟩ := h; ⟨ps, s.seq h1, Paired.imp (fun _ _ r => hR _ _ _ _ (sameT s) r) h2⟩
theorem LM.new (d : Addr) (G : Hp) : LM R (upd G d (.lst [])) d [] := ⟨[], upd_same, .nil⟩
theorem LM.app (hR : Stb K R) (h : LM R G d es) (s : Same G G1) (ht : R G1 t e) : ∃ ps : List Addr, G1 d = some (.lst (ps.map V.ref)) ∧ (ps.map V.ref).length = es.length ∧ LM R (upd G1 d (.lst (ps.map V.ref ++ [.ref t]))) d (es ++ [e]) := by
  obtain ⟨ps, h1, h2⟩ := h
  have h3 := s _ _ h1
  refine ⟨ps, h3, by rw [List.length_map]; exact Paired.length h2, ps ++ [t], ?_, ?_⟩
  · rw [upd_same, List.map_append]
    rfl
  · have u := updT (K := K) (H := G1) (a := d) (o := .lst (ps.map V.ref ++ [.ref t])) (.inl (by rw [h3]; exact True.intro))
    exact Paired.snoc (Paired.imp (fun _ _ r => hR _ _ _ _ u (hR _ _ _ _ (sameT s) r)) h2) (hR _ _ _ _ u ht)
theorem pr_get : ∀ {ps : List Addr} {es : List α} {i : Nat} {v : V}, Paired (R G) ps es → (ps.map V.ref)[i]? = some v → ∃ p e, v = .ref p ∧ es[i]? = some e ∧ R G p e
  | _, _, _, _, .nil, h => by simp at h
  | _, _, 0, v, .cons r t, h => by
    simp at h
    subst h
    exact ⟨_, _, rfl, rfl, r⟩
  | _, _, i + 1, v, .cons r t, h => by
    obtain ⟨p, e, h1, h2, h3⟩ := pr_get (i := i) (v := v) t (by simpa using h)
    exact ⟨p, e, h1, by simpa using h2, h3⟩
theorem pr_ix : ∀ {ps : List Addr} {es : List α} {i : Nat} {e : α}, Paired (R G) ps es → es[i]? = some e → ∃ p, (ps.map V.ref)[i]? = some (.ref p) ∧ R G p e
  | _, _, _, _, .nil, h => by simp at h
  | _, _, 0, v, .cons r t, h => by
    simp at h
    subst h
    exact ⟨_, rfl, r⟩
  | _, _, i + 1, v, .cons r t, h => by
    obtain ⟨p, h1, h2⟩ := pr_ix (i := i) (e := v) t (by simpa using h)
    exact ⟨p, by simpa using h1, h2⟩
theorem pr_len {ps : List Addr} {es : List α} (h : Paired (R G) ps es) : (ps.map V.ref).length = es.length := by
  rw [List.length_map]
  exact Paired.length h
end
abbrev rTr (K : PySem.W.Frag) : Hp → Addr → Tr → Prop := fun G p e => SqT K G p (trV e)
theorem stb_tr (K : PySem.W.Frag) : Stb K (rTr K) := fun _ _ _ _ t h => t _ _ h
section
variable {P : Program} {w : World} {K : PySem.W.Frag} {mg : Str → Option Value} {base : Heap}
/-! ### shifted, need_alike -/
def shN (x S k : Nat) : Nat := if x < S then x else x + k
def sp_shifted : SpN := fun vs H Q => ∃ x S k, vs = [.int (x : Nat), .int (S : Nat), .int (k : Nat)] ∧ Q (.int (shN x S k : Nat)) H
theorem len_shifted : ∀ vs H Q, sp_shifted vs H Q → vs.length = 3 := fun _ _ _ ⟨_, _, _, e, _⟩ => by subst e; rfl
theorem sc_shifted : FnScope ["node", "states", "shift"] ["node", "states", "shift"] (defScope s_shifted) := ⟨rfl, rfl, rfl, by decide +kernel, rfl, by decide +kernel, by decide +kernel⟩
/- slots: 0 node, 1 states, 2 shift -/
theorem ok_shifted (T : Tb K mg)  : Cal P w K mg base (He.ga K "shifted") 1 ["node", "states", "shift"] (sp_shifted) := by
  obtain ⟨fd, F⟩ := T.dfs 8 d_shifted rfl
  refine cal_of (N := ["node", "states", "shift"]) F sc_shifted (F.bindsN fun _ _ _ _ _ _ us hl => match us, hl with | [_, _, _], _ => rfl) (len_shifted) fun cdv A outer s H vs Q E hr h => ?_
  refine ⟨(tSeq (tIfS (tTest (tOp rLt (tVar 0) (tVar 1))) (tRet (tVar 0)) tNext) (tRet (tOp rPl (tVar 0) (tVar 2)))), (pss_cons (ps_if (pt_cmpR op_lt (pv 0) (pv 1) (nomark _)) (pss_one (ps_ret (pv 0))) pss_nil) (pss_one (ps_ret (pe_op op_add (pv 0) (pv 2))))), ?_⟩
  obtain ⟨x, S, k, rfl, hQ⟩ := h
  unfold shN at hQ
  refine ⟨_, rfl, _, rfl, _, _, rfl, rfl, _, rfl, iteB (fun c => ?_) fun c => ?_⟩
  · have : x < S := Int.ofNat_lt.mp (of_decide_eq_true c)
    rw [if_pos this] at hQ
    exact ⟨_, rfl, hQ⟩
  · have : ¬ x < S := fun z => of_decide_eq_false c (Int.ofNat_lt.mpr z)
    rw [if_neg this] at hQ
    exact ⟨_, rfl, _, rfl, _, _, rfl, rfl, qin (Int.natCast_add x k).symm hQ⟩
def sp_need_alike (P : Program) (w : World) (K : PySem.W.Frag) : SpN := fun vs H Q => ∃ a b A B, vs = [.ref a, .ref b] ∧ NetAt P w K H a A ∧ NetAt P w K H b B ∧ A.S = B.S ∧ A.L = B.L ∧ Q .non H
theorem len_need_alike : ∀ vs H Q, sp_need_alike P w K vs H Q → vs.length = 2 := fun _ _ _ ⟨_, _, _, _, e, _⟩ => by subst e; rfl
theorem sc_need_alike : FnScope ["a", "b"] ["a", "b"] (defScope s_need_alike) := ⟨rfl, rfl, rfl, by decide +kernel, rfl, by decide +kernel, by decide +kernel⟩
/- slots: 0 a, 1 b -/
theorem ok_need_alike (T : Tb K mg)  : Cal P w K mg base (He.ga K "need_alike") 1 ["a", "b"] (sp_need_alike P w K) := by
  obtain ⟨fd, F⟩ := T.dfs 7 d_need_alike rfl
  refine cal_of (N := ["a", "b"]) F sc_need_alike (F.bindsN fun _ _ _ _ _ _ us hl => match us, hl with | [_, _], _ => rfl) (len_need_alike) fun cdv A outer s H vs Q E hr h => ?_
  refine ⟨(tIfS (tOr (tTest (tOp rNeI (tFld K (tVar 0) "states") (tFld K (tVar 1) "states"))) (tTest (tOp rNeI (tFld K (tVar 0) "letters") (tFld K (tVar 1) "letters")))) tNever tNext), (pss_one (ps_if ((pw_or (pt_cmpR op_neI (pfld rfl (pv 0)) (pfld rfl (pv 1)) (nomark _)) (pw_or1 (pt_cmpR op_neI (pfld rfl (pv 0)) (pfld rfl (pv 1)) (nomark _))))).pt (pss_one ps_never) pss_nil)), ?_⟩
  obtain ⟨a, b, A, B, rfl, ⟨_, dx, pe, pf, pd, ha, _⟩, ⟨_, dx', pe', pf', pd', hb, _⟩, e1, e2, hQ⟩ := h
  refine ⟨_, rfl, a, _, dx, _, _, rfl, ha, T.cl, T.noa 0 "states" rfl, rfl, _, rfl, b, _, dx', _, _, rfl, hb, T.cl, T.noa 0 "states" rfl, rfl, _, _, rfl, rfl, _, rfl, iteN (by rw [e1, decide_eq_true rfl]; rfl) ?_⟩
  exact ⟨_, rfl, a, _, dx, _, _, rfl, ha, T.cl, T.noa 1 "letters" rfl, rfl, _, rfl, b, _, dx', _, _, rfl, hb, T.cl, T.noa 1 "letters" rfl, rfl, _, _, rfl, rfl, _, rfl, iteN (by rw [e2, decide_eq_true rfl]; rfl) hQ⟩
/-! ### plain -/
def Net.inn (N : Net) (g : Nat) : Nat := if g < N.S then N.n + g else g
def Net.plS (N : Net) (e : Tr) : List Tr := (e.1, e.2.1, N.inn e.2.2) :: (if e.1 < N.S then [(N.n + e.1, e.2.1, N.inn e.2.2)] else [])
def Net.plE (N : Net) : List Tr := N.E.flatMap N.plS
def Net.plF (N : Net) : List Nat := N.F ++ (N.F.filter fun f => decide (f < N.S)).map (N.n + ·)
def PlainPre (N : Net) : Prop := N.plB = true ∨ (2 * N.E.length ≤ 8388606 ∧ Raw N.S N.L (N.n + N.S) N.plE N.plF)
def PlainOf (N M : Net) : Prop := (N.plB = true ∧ M = N) ∨ (N.plB = false ∧ MadeOf M N.S N.L (N.n + N.S) N.plE N.plF)
def sp_plain (P : Program) (w : World) (K : PySem.W.Frag) : SpN := fun vs H Q => ∃ a N, vs = [.ref a] ∧ NetAt P w K H a N ∧ PlainPre N ∧ ∀ b H' M, Same H H' → NetAt P w K H' b M → PlainOf N M → Q (.ref b) H'
theorem len_plain : ∀ vs H Q, sp_plain P w K vs H Q → vs.length = 1 := fun _ _ _ ⟨_, _, e, _⟩ => by subst e; rfl
theorem mk_same {G : Hp} {x dx : Addr} {o o' : HO} (hx : G x = none) (hdx : G dx = none) : Same G (upd (upd G dx o) x o') := fun b u e => by
  rw [upd_ne (ne_of_none e hx), upd_ne (ne_of_none e hdx)]
  exact e
theorem make_same {G H' : Hp} {x dx : Addr} {o o' : HO} (hx : G x = none) (hdx : G dx = none) (s : SameX x (upd (upd G dx o) x o') H') : Same G H' := fun b u e => s b u (ne_of_none e hx) (mk_same hx hdx b u e)
theorem plS_len (N : Net) (e : Tr) : (N.plS e).length ≤ 2 := by
  unfold Net.plS
  split <;> simp
theorem flat_len {α β : Type} (f : α → List β) (k : Nat) (h : ∀ x, (f x).length ≤ k) : ∀ l : List α, (l.flatMap f).length ≤ k * l.length
  | [] => by simp
  | x :: l => by
    rw [List.flatMap_cons, List.length_append, List.length_cons, Nat.mul_succ]
    have := h x
    have := flat_len f k h l
    omega
theorem flat_snoc {α β : Type} (f : α → List β) {l : List α} {i : Nat} {x : α} (h : l[i]? = some x) : (l.take (i + 1)).flatMap f = (l.take i).flatMap f ++ f x := by
  rw [take_snoc h, List.flatMap_append]
  simp
theorem sc_plain : FnScope ["net", "edges", "node", "letter", "goal", "inner", "ends", "end"] ["net"] (defScope s_plain) := ⟨rfl, rfl, rfl, by decide +kernel, rfl, by decide +kernel, by decide +kernel⟩
/- slots: 0 net, 1 edges, 2 node, 3 letter, 4 goal, 5 inner, 6 ends, 7 end -/
theorem ok_plain (T : Tb K mg) (c_Net_is_plain : Cal P w K mg base (grA K) 1 ["self"] (sp_Net_is_plain P w K)) (c_Net_init : Cal P w K mg base (He.ma K (NetC K) "__init__") 2 ["self", "states", "letters", "nodes", "edges", "ends"] (sp_Net_init P w K)) : Cal P w K mg base (He.ga K "plain") 4 ["net"] (sp_plain P w K) := by
  obtain ⟨fd, F⟩ := T.dfs 6 d_plain rfl
  refine cal_of (N := ["net", "edges", "node", "letter", "goal", "inner", "ends", "end"]) F sc_plain (F.bindsN fun _ _ _ _ _ _ us hl => match us, hl with | [_], _ => rfl) (len_plain) fun cdv A outer s H vs Q E hr h => ?_
  refine ⟨(tSeq (tIfS (tB (tPr K (sp_Net_is_plain P w K) (tVar 0))) (tRet (tVar 0)) tNext) (tSeq (tAsg (tLst tNil) (gName 1)) (tSeq (tFor (iTup K (tFld K (tVar 0) "edges")) (gTup K 3 (gCons (gName 2) (gCons (gName 3) (gCons (gName 4) gNil)))) (tSeq (tAsg (tVar 4) (gName 5)) (tSeq (tIfS (tTest (tOp rLt (tVar 4) (tFld K (tVar 0) "states"))) (tAsg (tOp rPl (tFld K (tVar 0) "nodes") (tVar 4)) (gName 5)) tNext) (tSeq (tDrop (tBM K "list" rAppend (tVar 1) (tCons (tTup (tCons (tVar 2) (tCons (tVar 3) (tCons (tVar 5) tNil)))) tNil))) (tIfS (tTest (tOp rLt (tVar 2) (tFld K (tVar 0) "states"))) (tDrop (tBM K "list" rAppend (tVar 1) (tCons (tTup (tCons (tOp rPl (tFld K (tVar 0) "nodes") (tVar 2)) (tCons (tVar 3) (tCons (tVar 5) tNil)))) tNil))) tNext))))) (tSeq (tAsg (tOp rCat (tCB (rListOf K) (tCons (tFld K (tVar 0) "ends") tNil)) (tLc (iTup K (tFld K (tVar 0) "ends")) (gName 7) (tTest (tOp rLt (tVar 7) (tFld K (tVar 0) "states"))) (tOp rPl (tFld K (tVar 0) "nodes") (tVar 7)) [7])) (gName 6)) (tRet (tMk K (sp_Net_init P w K) (tCons (tFld K (tVar 0) "states") (tCons (tFld K (tVar 0) "letters") (tCons (tOp rPl (tFld K (tVar 0) "nodes") (tFld K (tVar 0) "states")) (tCons (tVar 1) (tCons (tVar 6) tNil))))))))))), (pss_cons (ps_if (pt_val (ppro rfl (pv 0) T.cl T.pro c_Net_is_plain (hr.mono (by decide))) (by intro _; rfl)) (pss_one (ps_ret (pv 0))) pss_nil) (pss_cons (ps_set (i := 1) sc_plain.nd rfl (by first | exact Or.inl rfl | exact Or.inr rfl) (pe_lst pa_nil)) (pss_cons (ps_for PassesOwn.never rfl (pi_tup (pfld rfl (pv 0))) (pg_tup rfl (pgs_cons (pg_name (i := 2) sc_plain.nd rfl (by first | exact Or.inl rfl | exact Or.inr rfl)) (pgs_cons (pg_name (i := 3) sc_plain.nd rfl (by first | exact Or.inl rfl | exact Or.inr rfl)) (pgs_cons (pg_name (i := 4) sc_plain.nd rfl (by first | exact Or.inl rfl | exact Or.inr rfl)) pgs_nil)))) (pss_cons (ps_set (i := 5) sc_plain.nd rfl (by first | exact Or.inl rfl | exact Or.inr rfl) (pv 4)) (pss_cons (ps_if (pt_cmpR op_lt (pv 4) (pfld rfl (pv 0)) (nomark _)) (pss_one (ps_set (i := 5) sc_plain.nd rfl (by first | exact Or.inl rfl | exact Or.inr rfl) (pe_op op_add (pfld rfl (pv 0)) (pv 4)))) pss_nil) (pss_cons (ps_expr (pe_bm PySem.F.plainAttrs_list PySem.F.slot_list_append PySem.F.type_list_append mt_append (pv 1) (pa_cons (pe_tup (pa_cons (pv 2) (pa_cons (pv 3) (pa_cons (pv 5) pa_nil)))) pa_nil))) (pss_one (ps_if (pt_cmpR op_lt (pv 2) (pfld rfl (pv 0)) (nomark _)) (pss_one (ps_expr (pe_bm PySem.F.plainAttrs_list PySem.F.slot_list_append PySem.F.type_list_append mt_append (pv 1) (pa_cons (pe_tup (pa_cons (pe_op op_add (pfld rfl (pv 0)) (pv 2)) (pa_cons (pv 3) (pa_cons (pv 5) pa_nil)))) pa_nil)))) pss_nil)))))) (pss_cons (ps_set (i := 6) sc_plain.nd rfl (by first | exact Or.inl rfl | exact Or.inr rfl) (pe_op op_cat (pe_callTy call_list_ofn (by rfl) (T.fre 5 "list" rfl) kb_list (pa_cons (pfld rfl (pv 0)) pa_nil)) (pe_lc (own := [("end", 7)]) (g := (gName 7)) (tt := (tTest (tOp rLt (tVar 7) (tFld K (tVar 0) "states")))) (te := (tOp rPl (tFld K (tVar 0) "nodes") (tVar 7))) rfl sc_plain.nd (pi_tup (pfld rfl (pv 0))) (blkOk_by (N := ["net", "edges", "node", "letter", "goal", "inner", "ends", "end"]) (sc := defScope s_plain) (by decide +kernel)) (fun _ _ _ _ _ => (pg_name (i := 7) sc_plain.nd rfl (by first | exact Or.inl rfl | exact Or.inr rfl))) (fun _ _ _ _ _ => (pts_one (pt_cmpR op_lt (pv 7) (pfld rfl (pv 0)) (nomark _)))) (fun _ _ _ _ _ => (pe_op op_add (pfld rfl (pv 0)) (pv 7)))))) (pss_one (ps_ret (pmak rfl T.mkr c_Net_init (hr.mono (by decide)) (T.glo 39 "Net" rfl) (pa_cons (pfld rfl (pv 0)) (pa_cons (pfld rfl (pv 0)) (pa_cons (pe_op op_add (pfld rfl (pv 0)) (pfld rfl (pv 0))) (pa_cons (pv 1) (pa_cons (pv 6) pa_nil)))))))))))), ?_⟩
  obtain ⟨a, N, rfl, hN, pre, hQ⟩ := h
  obtain ⟨hw, dx, pe, pf, pd, h1, ⟨ps, h2, h2'⟩, h3, h4⟩ := id hN
  refine ⟨_, rfl, a, dx, _, rfl, h1, a, N, rfl, hN, fun H1 s1 => ⟨_, rfl, iteB (fun c => ⟨_, rfl, hQ a H1 N s1 (hN.same s1) (.inl ⟨c, rfl⟩)⟩) fun c => ?_⟩⟩
  rcases pre with c' | ⟨lim, R⟩
  · rw [c] at c'
    cases c'
  refine ⟨Nat.zero_le _, fun d hd => ?_⟩
  have s2 : Same H (upd H1 d (.lst [])) := s1.trans (same_new hd)
  have hd0 : H d = none := s1.free hd
  dsimp only [tSeq, tIfS, tOr, tAnd, tNot, tB, tTest, tCB, tCons, tNil, tNext, tAsg, tRet, tDrop, tDo, gName]
  have el := hw.en
  have gN : ∀ {G : Hp}, Same H G → G a = some (.ins (NetC K) dx (fsN N pe pf pd)) := fun s => s _ _ h1
  refine tforT (fun R h => ⟨_, rfl, a, _, dx, _, _, rfl, gN s2, T.cl, T.noa 3 "edges" rfl, rfl, h⟩) (fun i σ G => (∃ v2 v3 v4 v5, σ = [some (.ref a), some (.ref d), v2, v3, v4, v5, none, none]) ∧ Same H G ∧ LM (rTr K) G d ((N.E.take i).flatMap N.plS)) (Same.tup s2 h2)
    ⟨⟨_, _, _, _, rfl⟩, s2, LM.new d _⟩ (fun i σ G p => Same.tup p.2.1 h2) (fun i v σ G hv ⟨⟨v2, v3, v4, v5, hσ⟩, sG, hG⟩ => ?_) (fun σ G ⟨⟨v2, v3, v4, v5, hσ⟩, sG, hG⟩ => ?_)
  · obtain ⟨q, e, rfl, he, hq⟩ := trs_get h2' hv
    subst hσ
    have lt := (List.getElem?_eq_some_iff.mp he).1
    have lim2 : ((N.E.take i).flatMap N.plS).length + 2 < sizeLine := by
      have := flat_len N.plS 2 (plS_len N) (N.E.take i)
      rw [List.length_take] at this
      exact line_lt (by omega)
    refine ⟨q, _, rfl, Same.tup sG hq, rfl, _, _, rfl, _, _, rfl, _, _, rfl, rfl, ?_⟩
    -- inner
    have body : ∀ (D : Ends) (z : Int), z = ((N.inn e.2.2 : Nat) : Int) → (∀ v5, ∀ G2, Same H G2 → LM (rTr K) G2 d ((N.E.take i).flatMap N.plS ++ N.plS e) → D.nx [some (.ref a), some (.ref d), some (.int e.1), some (.int e.2.1), some (.int e.2.2), v5, none, none] G2) →
        tSeq (tDrop (tBM K "list" rAppend (tVar 1) (tCons (tTup (tCons (tVar 2) (tCons (tVar 3) (tCons (tVar 5) tNil)))) tNil))) (tIfS (tTest (tOp rLt (tVar 2) (tFld K (tVar 0) "states"))) (tDrop (tBM K "list" rAppend (tVar 1) (tCons (tTup (tCons (tOp rPl (tFld K (tVar 0) "nodes") (tVar 2)) (tCons (tVar 3) (tCons (tVar 5) tNil)))) tNil))) tNext) D
          [some (.ref a), some (.ref d), some (.int e.1), some (.int e.2.1), some (.int e.2.2), some (.int z), none, none] G := fun D z hz hD => by
      subst hz
      have hG0 := hG
      obtain ⟨ps0, g1, _⟩ := hG0
      refine ⟨_, rfl, .inl ⟨rfl, _, SqL.of g1⟩, _, rfl, _, rfl, _, rfl, (sz1000 (n := 3) (by decide) : 3 ≤ sizeLine), fun t ht => ?_⟩
      have st := same_new (o := .tup [.int (e.1 : Nat), .int (e.2.1 : Nat), .int (N.inn e.2.2 : Nat)]) ht
      obtain ⟨ps, q1, q2, q3⟩ := hG.app (t := t) (e := (e.1, e.2.1, N.inn e.2.2)) (stb_tr K) st (SqT.of upd_same)
      refine ⟨d, _, _, rfl, rfl, q1, by rw [q2]; omega, ?_⟩
      have s3 := same_put (o := .lst (ps.map V.ref ++ [.ref t])) (sG.trans st) hd0
      refine ⟨_, rfl, _, rfl, a, _, dx, _, _, rfl, gN s3, T.cl, T.noa 0 "states" rfl, rfl, _, _, rfl, rfl, _, rfl, iteB (fun c => ?_) fun c => ?_⟩
      · have c' : e.1 < N.S := Int.ofNat_lt.mp (of_decide_eq_true c)
        obtain ⟨ps1, r1, _⟩ := id q3
        refine ⟨_, rfl, .inl ⟨rfl, _, SqL.of r1⟩, _, rfl, a, _, dx, _, _, rfl, gN s3, T.cl, T.noa 2 "nodes" rfl, rfl, _, rfl, _, _, rfl, rfl, _, rfl, _, rfl, (sz1000 (n := 3) (by decide) : 3 ≤ sizeLine), fun t2 ht2 => ?_⟩
        have st2 := same_new (o := .tup [.int ((N.n : Int) + (e.1 : Int)), .int (e.2.1 : Nat), .int (N.inn e.2.2 : Nat)]) ht2
        obtain ⟨ps2, u1, u2, u3⟩ := q3.app (t := t2) (e := (N.n + e.1, e.2.1, N.inn e.2.2)) (stb_tr K) st2 (SqT.of (by rw [upd_same]; unfold trV; rw [Int.natCast_add]))
        refine ⟨d, _, _, rfl, rfl, u1, by rw [u2, List.length_append]; show _ + 1 < sizeLine; omega, hD _ _ (same_put (s3.trans st2) hd0) ?_⟩
        unfold Net.plS
        rw [if_pos c']
        rw [List.append_assoc] at u3
        exact u3
      · have c' : ¬ e.1 < N.S := fun z => of_decide_eq_false c (Int.ofNat_lt.mpr z)
        refine hD _ _ s3 ?_
        unfold Net.plS
        rw [if_neg c']
        exact q3
    refine ⟨_, rfl, _, rfl, _, rfl, a, _, dx, _, _, rfl, gN sG, T.cl, T.noa 0 "states" rfl, rfl, _, _, rfl, rfl, _, rfl, iteB (fun c => ?_) fun c => ?_⟩
    · have c' : e.2.2 < N.S := Int.ofNat_lt.mp (of_decide_eq_true c)
      refine ⟨_, rfl, a, _, dx, _, _, rfl, gN sG, T.cl, T.noa 2 "nodes" rfl, rfl, _, rfl, _, _, rfl, rfl, ?_⟩
      have e1 : ((N.n : Int) + (e.2.2 : Int)) = ((N.inn e.2.2 : Nat) : Int) := by
        unfold Net.inn
        rw [if_pos c', Int.natCast_add]
      exact body _ _ e1 fun v5 G2 z1 z2 => ⟨⟨_, _, _, _, rfl⟩, z1, by rw [flat_snoc _ he]; exact z2⟩
    · have c' : ¬ e.2.2 < N.S := fun z => of_decide_eq_false c (Int.ofNat_lt.mpr z)
      have e1 : ((e.2.2 : Nat) : Int) = ((N.inn e.2.2 : Nat) : Int) := by
        unfold Net.inn
        rw [if_neg c']
      exact body _ _ e1 fun v5 G2 z1 z2 => ⟨⟨_, _, _, _, rfl⟩, z1, by rw [flat_snoc _ he]; exact z2⟩
  · subst hσ
    rw [trs_len h2', List.take_length] at hG
    have fl := R.fl
    unfold Net.plF at fl
    rw [List.length_append] at fl
    refine ⟨_, rfl, a, _, dx, _, _, rfl, gN sG, T.cl, T.noa 4 "ends" rfl, rfl, pf, _, rfl, .inr (Same.tup sG h3), fun l G1 s1 hl hl1 => ?_⟩
    refine tlcT (fun R h => ⟨_, rfl, a, _, dx, _, _, rfl, gN (sG.trans s1), T.cl, T.noa 4 "ends" rfl, rfl, h⟩) (Same.tup (sG.trans s1) h3) (fun i => nV (((N.F.take i).filter fun f => decide (f < N.S)).map (N.n + ·))) rfl (fun D hD i v G hv sm hG => ?_) fun D hD G2 s2 hG2 => ?_
    · obtain ⟨f, rfl, hf⟩ := nV_get hv
      have sH := (sG.trans s1).trans sm
      refine ⟨rfl, ⟨_, rfl, _, rfl, a, _, dx, _, _, rfl, gN sH, T.cl, T.noa 0 "states" rfl, rfl, _, _, rfl, rfl, _, rfl, iteB (fun c => ?_) fun c => ?_⟩⟩
      · have c' : f < N.S := Int.ofNat_lt.mp (of_decide_eq_true c)
        refine ⟨_, rfl, a, _, dx, _, _, rfl, gN sH, T.cl, T.noa 2 "nodes" rfl, rfl, _, rfl, _, _, rfl, rfl, _, hG, ?_, same_put sm hD, ?_⟩
        · have b1 : ((N.F.take i).filter fun f => decide (f < N.S)).length ≤ (N.F.take i).length := List.length_filter_le _ _
          rw [nV_len, List.length_map]
          rw [List.length_take] at b1
          exact line_lt (by omega)
        · rw [take_snoc hf, List.filter_append, List.map_append, show [f].filter (fun f => decide (f < N.S)) = [f] by simp [c']]
          show _ ++ [V.int ((N.n : Int) + (f : Int))] = _
          rw [← Int.natCast_add]
          exact nV_snoc _ _
      · have c' : ¬ f < N.S := fun z => of_decide_eq_false c (Int.ofNat_lt.mpr z)
        refine ⟨sm, ?_⟩
        rw [take_snoc hf, List.filter_append, show [f].filter (fun f => decide (f < N.S)) = [] by simpa using c', List.append_nil]
        exact hG
    · rw [nV_len, List.take_length] at hG2
      refine ⟨l, D, _, _, rfl, rfl, s2 _ _ hl1, hG2, ?_, fun p hp => ?_⟩
      · rw [nV_len, nV_len, sizeLine_eq]
        omega
      have s3 := (s1.trans s2).trans (same_new (o := .lst (nV N.F ++ nV ((N.F.filter fun f => decide (f < N.S)).map (N.n + ·)))) hp)
      have sH := sG.trans s3
      refine ⟨_, rfl, a, _, dx, _, _, rfl, gN sH, T.cl, T.noa 0 "states" rfl, rfl, _, rfl, a, _, dx, _, _, rfl, gN sH, T.cl, T.noa 1 "letters" rfl, rfl, _, rfl, a, _, dx, _, _, rfl, gN sH, T.cl, T.noa 2 "nodes" rfl, rfl,
        _, rfl, a, _, dx, _, _, rfl, gN sH, T.cl, T.noa 0 "states" rfl, rfl, _, _, rfl, rfl, _, rfl, _, rfl, fun x dy hx hdy ne => ?_⟩
      have sm := mk_same (o := .own x) (o' := .ins (NetC K) dy []) hx hdy
      obtain ⟨qs, g1, g2⟩ := (hG.same (stb_tr K) s3).same (stb_tr K) sm
      refine ⟨x, dy, d, p, N.S, N.L, N.n + N.S, N.plE, N.plF, by rw [Int.natCast_add], upd_same, ⟨qs, .inl (SqL.of g1), g2⟩, SqL.of ?_, R, fun H' M sx hM hid made => ⟨rfl, hQ x H' M ((sH.trans (make_same hx hdy sx))) hM (.inr ⟨c, made⟩)⟩⟩
      refine sm _ _ ?_
      rw [upd_same]
      unfold Net.plF nV
      rw [List.map_append]
end
end K23
/-! K23We -/
set_option Elab.async false
set_option linter.all false
set_option maxRecDepth 100000
set_option maxHeartbeats 4000000
namespace K23
open PySem PySem.Spec PyProof.Rows L2
section
variable {P : Program} {w : World} {K : PySem.W.Frag} {mg : Str → Option Value} {base : Heap}
def shE (S k : Nat) (e : Tr) : Tr := (shN e.1 S k, e.2.1, e.2.2 + k)
def unE (A B : Net) : List Tr := A.E ++ B.E.map (shE B.S (A.n - A.S))
def unF (A B : Net) : List Nat := A.F ++ B.F.map fun f => shN f B.S (A.n - A.S)
def UnionPre (A B : Net) : Prop := A.S = B.S ∧ A.L = B.L ∧ PlainPre A ∧ PlainPre B ∧ ∀ A' B', Wf A' → Wf B' → PlainOf A A' → PlainOf B B' → Raw A'.S A'.L (B'.n + (A'.n - A'.S)) (unE A' B') (unF A' B')
def UnionOf (A B M : Net) : Prop := ∃ A' B', Wf A' ∧ Wf B' ∧ PlainOf A A' ∧ PlainOf B B' ∧ MadeOf M A'.S A'.L (B'.n + (A'.n - A'.S)) (unE A' B') (unF A' B')
def sp_union (P : Program) (w : World) (K : PySem.W.Frag) : SpN := fun vs H Q => ∃ a b A B, vs = [.ref a, .ref b] ∧ NetAt P w K H a A ∧ NetAt P w K H b B ∧ UnionPre A B ∧ ∀ p H' M, Same H H' → NetAt P w K H' p M → UnionOf A B M → Q (.ref p) H'
theorem len_union : ∀ vs H Q, sp_union P w K vs H Q → vs.length = 2 := fun _ _ _ ⟨_, _, _, _, e, _⟩ => by subst e; rfl
theorem map_take_cons {α β : Type} {f : α → β} {l : List α} {i : Nat} {x : α} (h : l[i]? = some x) : (l.take (i + 1)).map f = (l.take i).map f ++ [f x] := (map_take_snoc h).symm
theorem sc_union : FnScope ["a", "b", "first", "second", "shift", "edges", "node", "letter", "goal", "ends", "end"] ["a", "b"] (defScope s_union) := ⟨rfl, rfl, rfl, by decide +kernel, rfl, by decide +kernel, by decide +kernel⟩
/- slots: 0 a, 1 b, 2 first, 3 second, 4 shift, 5 edges, 6 node, 7 letter, 8 goal, 9 ends, 10 end -/
theorem ok_union (T : Tb K mg) (c_need_alike : Cal P w K mg base (He.ga K "need_alike") 1 ["a", "b"] (sp_need_alike P w K)) (c_plain : Cal P w K mg base (He.ga K "plain") 4 ["net"] (sp_plain P w K)) (c_shifted : Cal P w K mg base (He.ga K "shifted") 1 ["node", "states", "shift"] (sp_shifted)) (c_Net_init : Cal P w K mg base (He.ma K (NetC K) "__init__") 2 ["self", "states", "letters", "nodes", "edges", "ends"] (sp_Net_init P w K)) : Cal P w K mg base (He.ga K "union") 5 ["a", "b"] (sp_union P w K) := by
  obtain ⟨fd, F⟩ := T.dfs 9 d_union rfl
  refine cal_of (N := ["a", "b", "first", "second", "shift", "edges", "node", "letter", "goal", "ends", "end"]) F sc_union (F.bindsN fun _ _ _ _ _ _ us hl => match us, hl with | [_, _], _ => rfl) (len_union) fun cdv A outer s H vs Q E hr h => ?_
  refine ⟨(tSeq (tDrop (tDo (sp_need_alike P w K) (tCons (tVar 0) (tCons (tVar 1) tNil)))) (tSeq (tAsg (tDo (sp_plain P w K) (tCons (tVar 0) tNil)) (gName 2)) (tSeq (tAsg (tDo (sp_plain P w K) (tCons (tVar 1) tNil)) (gName 3)) (tSeq (tAsg (tOp rMi (tFld K (tVar 2) "nodes") (tFld K (tVar 2) "states")) (gName 4)) (tSeq (tAsg (tCB (rListOf K) (tCons (tFld K (tVar 2) "edges") tNil)) (gName 5)) (tSeq (tFor (iTup K (tFld K (tVar 3) "edges")) (gTup K 3 (gCons (gName 6) (gCons (gName 7) (gCons (gName 8) gNil)))) (tDrop (tBM K "list" rAppend (tVar 5) (tCons (tTup (tCons (tDo (sp_shifted) (tCons (tVar 6) (tCons (tFld K (tVar 3) "states") (tCons (tVar 4) tNil)))) (tCons (tVar 7) (tCons (tOp rPl (tVar 8) (tVar 4)) tNil)))) tNil)))) (tSeq (tAsg (tOp rCat (tCB (rListOf K) (tCons (tFld K (tVar 2) "ends") tNil)) (tLc (iTup K (tFld K (tVar 3) "ends")) (gName 10) tYes (tDo (sp_shifted) (tCons (tVar 10) (tCons (tFld K (tVar 3) "states") (tCons (tVar 4) tNil)))) [10])) (gName 9)) (tRet (tMk K (sp_Net_init P w K) (tCons (tFld K (tVar 2) "states") (tCons (tFld K (tVar 2) "letters") (tCons (tOp rPl (tFld K (tVar 3) "nodes") (tVar 4)) (tCons (tVar 5) (tCons (tVar 9) tNil)))))))))))))), (pss_cons (ps_expr (pcal c_need_alike (hr.mono (by decide)) (T.glo 2 "need_alike" rfl) (pa_cons (pv 0) (pa_cons (pv 1) pa_nil)))) (pss_cons (ps_set (i := 2) sc_union.nd rfl (by first | exact Or.inl rfl | exact Or.inr rfl) (pcal c_plain (hr.mono (by decide)) (T.glo 1 "plain" rfl) (pa_cons (pv 0) pa_nil))) (pss_cons (ps_set (i := 3) sc_union.nd rfl (by first | exact Or.inl rfl | exact Or.inr rfl) (pcal c_plain (hr.mono (by decide)) (T.glo 1 "plain" rfl) (pa_cons (pv 1) pa_nil))) (pss_cons (ps_set (i := 4) sc_union.nd rfl (by first | exact Or.inl rfl | exact Or.inr rfl) (pe_op op_sub (pfld rfl (pv 2)) (pfld rfl (pv 2)))) (pss_cons (ps_set (i := 5) sc_union.nd rfl (by first | exact Or.inl rfl | exact Or.inr rfl) (pe_callTy call_list_ofn (by rfl) (T.fre 5 "list" rfl) kb_list (pa_cons (pfld rfl (pv 2)) pa_nil))) (pss_cons (ps_for PassesOwn.never rfl (pi_tup (pfld rfl (pv 3))) (pg_tup rfl (pgs_cons (pg_name (i := 6) sc_union.nd rfl (by first | exact Or.inl rfl | exact Or.inr rfl)) (pgs_cons (pg_name (i := 7) sc_union.nd rfl (by first | exact Or.inl rfl | exact Or.inr rfl)) (pgs_cons (pg_name (i := 8) sc_union.nd rfl (by first | exact Or.inl rfl | exact Or.inr rfl)) pgs_nil)))) (pss_one (ps_expr (pe_bm PySem.F.plainAttrs_list PySem.F.slot_list_append PySem.F.type_list_append mt_append (pv 5) (pa_cons (pe_tup (pa_cons (pcal c_shifted (hr.mono (by decide)) (T.glo 3 "shifted" rfl) (pa_cons (pv 6) (pa_cons (pfld rfl (pv 3)) (pa_cons (pv 4) pa_nil)))) (pa_cons (pv 7) (pa_cons (pe_op op_add (pv 8) (pv 4)) pa_nil)))) pa_nil))))) (pss_cons (ps_set (i := 9) sc_union.nd rfl (by first | exact Or.inl rfl | exact Or.inr rfl) (pe_op op_cat (pe_callTy call_list_ofn (by rfl) (T.fre 5 "list" rfl) kb_list (pa_cons (pfld rfl (pv 2)) pa_nil)) (pe_lc (own := [("end", 10)]) (g := (gName 10)) (tt := tYes) (te := (tDo (sp_shifted) (tCons (tVar 10) (tCons (tFld K (tVar 3) "states") (tCons (tVar 4) tNil))))) rfl sc_union.nd (pi_tup (pfld rfl (pv 3))) (blkOk_by (N := ["a", "b", "first", "second", "shift", "edges", "node", "letter", "goal", "ends", "end"]) (sc := defScope s_union) (by decide +kernel)) (fun _ _ _ _ _ => (pg_name (i := 10) sc_union.nd rfl (by first | exact Or.inl rfl | exact Or.inr rfl))) (fun _ _ _ _ _ => pts_nil) (fun _ _ _ _ _ => (pcal c_shifted (hr.mono (by decide)) (T.glo 3 "shifted" rfl) (pa_cons (pv 10) (pa_cons (pfld rfl (pv 3)) (pa_cons (pv 4) pa_nil)))))))) (pss_one (ps_ret (pmak rfl T.mkr c_Net_init (hr.mono (by decide)) (T.glo 39 "Net" rfl) (pa_cons (pfld rfl (pv 2)) (pa_cons (pfld rfl (pv 2)) (pa_cons (pe_op op_add (pfld rfl (pv 3)) (pv 4)) (pa_cons (pv 5) (pa_cons (pv 9) pa_nil))))))))))))))), ?_⟩
  obtain ⟨a, b, A, B, rfl, hA, hB, ⟨e1, e2, preA, preB, pre⟩, hQ⟩ := h
  refine ⟨_, rfl, _, rfl, a, b, A, B, rfl, hA, hB, e1, e2, ?_⟩
  refine ⟨_, rfl, a, A, rfl, hA, preA, fun a' H1 A' s1 hA' pA => ?_⟩
  refine ⟨_, rfl, b, B, rfl, hB.same s1, preB, fun b' H2 B' s2 hB' pB => ?_⟩
  have hA2 := hA'.same s2
  have R := pre A' B' hA'.1 hB'.1 pA pB
  obtain ⟨wA, dx, pe, pf, pd, h1, ⟨ps, h2, h2'⟩, h3, h4⟩ := id hA2
  obtain ⟨wB, dy, qe, qf, qd, k1, ⟨qs, k2, k2'⟩, k3, k4⟩ := id hB'
  have s12 := s1.trans s2
  have gA : ∀ {G : Hp}, Same H2 G → G a' = some (.ins (NetC K) dx (fsN A' pe pf pd)) := fun s => s _ _ h1
  have gB : ∀ {G : Hp}, Same H2 G → G b' = some (.ins (NetC K) dy (fsN B' qe qf qd)) := fun s => s _ _ k1
  have rf := Same.refl H2
  have el : A'.E.length + B'.E.length ≤ 8388606 := by
    have := R.el
    unfold unE at this
    rw [List.length_append, List.length_map] at this
    exact this
  have fl : A'.F.length + B'.F.length ≤ 8388606 := by
    have := R.fl
    unfold unF at this
    rw [List.length_append, List.length_map] at this
    exact this
  have sub : ((A'.n : Int) - (A'.S : Int)) = ((A'.n - A'.S : Nat) : Int) := (Int.ofNat_sub wA.sn).symm
  -- shift
  refine ⟨_, rfl, a', _, dx, _, _, rfl, h1, T.cl, T.noa 2 "nodes" rfl, rfl, _, rfl, a', _, dx, _, _, rfl, h1, T.cl, T.noa 0 "states" rfl, rfl, _, _, rfl, rfl, ?_⟩
  refine ⟨_, rfl, a', _, dx, _, _, rfl, h1, T.cl, T.noa 3 "edges" rfl, rfl, pe, _, rfl, .inr h2, fun d H3 s3 hd hd3 => ?_⟩
  dsimp only [tSeq, tIfS, tOr, tAnd, tNot, tB, tTest, tCB, tCons, tNil, tNext, tAsg, tRet, tDrop, tDo, gName]
  refine tforT (fun R h => ⟨_, rfl, b', _, dy, _, _, rfl, gB s3, T.cl, T.noa 3 "edges" rfl, rfl, h⟩) (fun i σ G => (∃ v6 v7 v8, σ = [some (.ref a), some (.ref b), some (.ref a'), some (.ref b'), some (.int (A'.n - A'.S : Nat)), some (.ref d), v6, v7, v8, none, none]) ∧ Same H2 G ∧ LM (rTr K) G d (A'.E ++ (B'.E.take i).map (shE B'.S (A'.n - A'.S)))) (Same.tup s3 k2)
    ⟨⟨none, none, none, ?_⟩, s3, ?_⟩ (fun i σ G p => Same.tup p.2.1 k2) (fun i v σ G hv ⟨⟨v6, v7, v8, hσ⟩, sG, hG⟩ => ?_) (fun σ G ⟨⟨v6, v7, v8, hσ⟩, sG, hG⟩ => ?_)
  · rw [← sub]
    rfl
  · rw [List.take_zero, List.map_nil, List.append_nil]
    exact ⟨ps, hd3, trs_same s3 h2'⟩
  · obtain ⟨q, e, rfl, he, hq⟩ := trs_get k2' hv
    subst hσ
    have lt := (List.getElem?_eq_some_iff.mp he).1
    refine ⟨q, _, rfl, Same.tup sG hq, rfl, _, _, rfl, _, _, rfl, _, _, rfl, rfl, ?_⟩
    obtain ⟨ps0, g1, _⟩ := id hG
    refine ⟨_, rfl, .inl ⟨rfl, _, SqL.of g1⟩, _, rfl, _, rfl, b', _, dy, _, _, rfl, gB sG, T.cl, T.noa 0 "states" rfl, rfl, _, rfl, _, _, _, rfl, _, rfl, _, rfl, _, rfl, _, _, rfl, rfl, (sz1000 (n := 3) (by decide) : 3 ≤ sizeLine), fun t ht => ?_⟩
    have st := same_new (o := .tup [.int (shN e.1 B'.S (A'.n - A'.S) : Nat), .int (e.2.1 : Nat), .int ((e.2.2 : Int) + (A'.n - A'.S : Nat))]) ht
    obtain ⟨ps, q1, q2, q3⟩ := hG.app (t := t) (e := shE B'.S (A'.n - A'.S) e) (stb_tr K) st (SqT.of (by rw [upd_same]; unfold trV shE; rw [Int.natCast_add]))
    refine ⟨d, _, _, rfl, rfl, q1, ?_, ⟨_, _, _, rfl⟩, same_put (sG.trans st) hd, ?_⟩
    · rw [q2, List.length_append, List.length_map, List.length_take]
      exact line_lt (by omega)
    · rw [map_take_cons he, ← List.append_assoc]
      exact q3
  · subst hσ
    rw [trs_len k2', List.take_length] at hG
    refine ⟨_, rfl, a', _, dx, _, _, rfl, gA sG, T.cl, T.noa 4 "ends" rfl, rfl, pf, _, rfl, .inr (Same.tup sG h3), fun l G1 s4 hl hl1 => ?_⟩
    refine tlcT (fun R h => ⟨_, rfl, b', _, dy, _, _, rfl, gB (sG.trans s4), T.cl, T.noa 4 "ends" rfl, rfl, h⟩) (Same.tup (sG.trans s4) k3) (fun i => nV ((B'.F.take i).map fun f => shN f B'.S (A'.n - A'.S))) rfl (fun D hD i v G hv sm hG => ?_) fun D hD G2 s5 hG2 => ?_
    · obtain ⟨f, rfl, hf⟩ := nV_get hv
      have sH := (sG.trans s4).trans sm
      refine ⟨rfl, ⟨_, rfl, _, rfl, b', _, dy, _, _, rfl, gB sH, T.cl, T.noa 0 "states" rfl, rfl, _, rfl, _, _, _, rfl, _, hG, ?_, same_put sm hD, ?_⟩⟩
      · rw [nV_len]
        exact take_map_lt hf (by omega)
      · rw [map_take_cons hf]
        exact nV_snoc _ _
    · rw [nV_len, List.take_length] at hG2
      refine ⟨l, D, _, _, rfl, rfl, s5 _ _ hl1, hG2, ?_, fun p hp => ?_⟩
      · rw [nV_len, nV_len, List.length_map, sizeLine_eq]
        omega
      have s6 := (s4.trans s5).trans (same_new (o := .lst (nV A'.F ++ nV (B'.F.map fun f => shN f B'.S (A'.n - A'.S)))) hp)
      have sH := sG.trans s6
      refine ⟨_, rfl, a', _, dx, _, _, rfl, gA sH, T.cl, T.noa 0 "states" rfl, rfl, _, rfl, a', _, dx, _, _, rfl, gA sH, T.cl, T.noa 1 "letters" rfl, rfl, _, rfl, b', _, dy, _, _, rfl, gB sH, T.cl, T.noa 2 "nodes" rfl, rfl,
        _, rfl, _, _, rfl, rfl, _, rfl, _, rfl, fun x dz hx hdz ne => ?_⟩
      have sm := mk_same (o := .own x) (o' := .ins (NetC K) dz []) hx hdz
      obtain ⟨qs, g1, g2⟩ := (hG.same (stb_tr K) s6).same (stb_tr K) sm
      refine ⟨x, dz, d, p, A'.S, A'.L, B'.n + (A'.n - A'.S), unE A' B', unF A' B', by rw [Int.natCast_add], upd_same, ⟨qs, .inl (SqL.of g1), g2⟩, SqL.of ?_, R, fun H' M sx hM hid made => ⟨rfl, hQ x H' M (s12.trans (sH.trans (make_same hx hdz sx))) hM ⟨A', B', wA, wB, pA, pB, made⟩⟩⟩
      refine sm _ _ ?_
      rw [upd_same]
      unfold unF nV
      rw [List.map_append]
end
end K23
/-! K23Expl -/
set_option Elab.async false
set_option linter.all false
set_option maxRecDepth 100000
set_option maxHeartbeats 4000000
/-! Going through what is found, each once: the numbers, the edges. -/
namespace K23
open PySem PySem.Spec PyProof.Rows L2
section
variable {α : Type} {kf : α → NestedKey}
def numA (kf : α → NestedKey) : Nat → List α → List (NestedKey × V)
  | _, [] => []
  | k, p :: ps => (kf p, V.int (k : Nat)) :: numA kf (k + 1) ps
abbrev numK (kf : α → NestedKey) (ps : List α) : List (NestedKey × V) := numA kf 0 ps
theorem numA_snoc (p : α) : ∀ (ps : List α) (k : Nat), numA kf k (ps ++ [p]) = numA kf k ps ++ [(kf p, V.int ((k + ps.length : Nat) : Int))]
  | [], k => rfl
  | q :: ps, k => by
    show (kf q, V.int (k : Nat)) :: numA kf (k + 1) (ps ++ [p]) = (kf q, V.int (k : Nat)) :: (numA kf (k + 1) ps ++ _)
    rw [numA_snoc p ps (k + 1), List.length_cons, show k + 1 + ps.length = k + (ps.length + 1) by omega]
theorem numA_len : ∀ (ps : List α) (k : Nat), (numA kf k ps).length = ps.length
  | [], _ => rfl
  | q :: ps, k => congrArg (· + 1) (numA_len ps (k + 1))
theorem num_none (inj : ∀ a b, kf a = kf b → a = b) {q : α} : ∀ {ps : List α} {k : Nat}, q ∉ ps → valV (numA kf k ps) (kf q) = none
  | [], _, _ => rfl
  | p :: ps, k, h => by
    rw [List.mem_cons] at h
    show valV ((kf p, V.int (k : Nat)) :: numA kf (k + 1) ps) (kf q) = none
    rw [valV_neg (fun e => h (.inl (inj _ _ e).symm))]
    exact num_none inj fun z => h (.inr z)
theorem num_some (inj : ∀ a b, kf a = kf b → a = b) {q : α} : ∀ {ps : List α} {k z : Nat}, ps.Nodup → ps[z]? = some q → valV (numA kf k ps) (kf q) = some (.int ((k + z : Nat) : Int))
  | [], _, _, _, h => by simp at h
  | p :: ps, k, 0, _, h => by
    simp at h
    subst h
    exact valV_pos rfl
  | p :: ps, k, z + 1, nd, h => by
    obtain ⟨n1, n2⟩ := List.nodup_cons.mp nd
    have h' : ps[z]? = some q := by simpa using h
    show valV ((kf p, V.int (k : Nat)) :: numA kf (k + 1) ps) (kf q) = _
    rw [valV_neg (fun e => n1 (by have := inj _ _ e; rw [show p = q from this]; exact List.mem_of_getElem? h')), num_some inj n2 h', show k + 1 + z = k + (z + 1) by omega]
theorem num_get (inj : ∀ a b, kf a = kf b → a = b) {q : α} {ps : List α} (nd : ps.Nodup) : (q ∉ ps ∧ valV (numK kf ps) (kf q) = none) ∨ ∃ z, ps[z]? = some q ∧ valV (numK kf ps) (kf q) = some (.int (z : Nat)) := by
  by_cases h : q ∈ ps
  · obtain ⟨z, hz⟩ := List.mem_iff_getElem?.mp h
    refine .inr ⟨z, hz, ?_⟩
    have := num_some inj (k := 0) nd hz
    rw [Nat.zero_add] at this
    exact this
  · exact .inl ⟨h, num_none inj h⟩
theorem put_new {kvs : List (NestedKey × V)} {k : NestedKey} {v : V} (h : valV kvs k = none) : putK kvs k v = kvs ++ [(k, v)] := by
  unfold putK
  rw [valV_any, h]
  rfl
theorem put_num (inj : ∀ a b, kf a = kf b → a = b) {q : α} {ps : List α} (h : q ∉ ps) : putK (numK kf ps) (kf q) (.int (ps.length : Nat)) = numK kf (ps ++ [q]) := by
  rw [put_new (num_none inj h)]
  have := numA_snoc (kf := kf) q ps 0
  rw [Nat.zero_add] at this
  exact this.symm
end
section
variable {α : Type}
structure Ex (evs : α → Nat → List α) (L : Nat) (st : List α) (R : α → Prop) (ps : List α) (es : List Tr) (ev : Nat → Nat → α → Prop) : Prop where
  nod : ps.Nodup
  pre : ∃ r, ps = st ++ r
  rch : ∀ p ∈ ps, R p
  esn : es.Nodup
  eb : ∀ t l z, (t, l, z) ∈ es ↔ ∃ q, ev t l q ∧ ps[z]? = some q
  evd : ∀ t l q, ev t l q → q ∈ ps ∧ l < L ∧ ∃ p, ps[t]? = some p ∧ q ∈ evs p l
variable {evs : α → Nat → List α} {L : Nat} {st : List α} {R : α → Prop} {ps : List α} {es : List Tr} {ev : Nat → Nat → α → Prop} {t l z : Nat} {p q : α}
theorem Ex.cong {ev' : Nat → Nat → α → Prop} (h : Ex evs L st R ps es ev) (e : ∀ t l q, ev t l q ↔ ev' t l q) : Ex evs L st R ps es ev' := by
  have : ev = ev' := by
    funext t l q
    exact propext (e t l q)
  rw [← this]
  exact h
theorem nodup_at {ps : List α} (nd : ps.Nodup) {i j : Nat} {x : α} (a : ps[i]? = some x) (b : ps[j]? = some x) : i = j := by
  obtain ⟨h1, e1⟩ := List.getElem?_eq_some_iff.mp a
  obtain ⟨h2, e2⟩ := List.getElem?_eq_some_iff.mp b
  exact (List.getElem_inj nd).mp (e1.trans e2.symm)
theorem snoc_get {ps : List α} {q x : α} {i : Nat} (h : ps[i]? = some x) : (ps ++ [q])[i]? = some x := by
  rw [List.getElem?_append_left (List.getElem?_eq_some_iff.mp h).1]
  exact h
theorem snoc_last {ps : List α} {q : α} : (ps ++ [q])[ps.length]? = some q := by
  rw [List.getElem?_append_right (Nat.le_refl _), Nat.sub_self]
  rfl
theorem nodup_snoc {β : Type} {l : List β} {x : β} (h : l.Nodup) (n : x ∉ l) : (l ++ [x]).Nodup :=
  List.nodup_append.mpr ⟨h, List.pairwise_singleton _ _, fun a ha b hb e => n (by rw [← List.mem_singleton.mp hb, ← e]; exact ha)⟩
theorem Ex.old (h : Ex evs L st R ps es ev) (hp : ps[t]? = some p) (hl : l < L) (hq : q ∈ evs p l) (n : ¬ ev t l q) (hz : ps[z]? = some q) : Ex evs L st R ps (es ++ [(t, l, z)]) (fun t' l' q' => ev t' l' q' ∨ (t' = t ∧ l' = l ∧ q' = q)) := by
  have ne : (t, l, z) ∉ es := fun m => by
    obtain ⟨q', h1, h2⟩ := (h.eb t l z).mp m
    rw [hz] at h2
    cases h2
    exact n h1
  refine ⟨h.nod, h.pre, h.rch, nodup_snoc h.esn ne, fun t' l' z' => ?_, fun t' l' q' e => ?_⟩
  · rw [List.mem_append, List.mem_singleton, h.eb]
    constructor
    · rintro (⟨q', h1, h2⟩ | e)
      · exact ⟨q', .inl h1, h2⟩
      · simp only [Prod.mk.injEq] at e
        obtain ⟨rfl, rfl, rfl⟩ := e
        exact ⟨q, .inr ⟨rfl, rfl, rfl⟩, hz⟩
    · rintro ⟨q', h1 | ⟨rfl, rfl, rfl⟩, h2⟩
      · exact .inl ⟨q', h1, h2⟩
      · exact .inr (by rw [nodup_at h.nod h2 hz])
  · rcases e with e | ⟨rfl, rfl, rfl⟩
    · exact h.evd _ _ _ e
    · exact ⟨List.mem_of_getElem? hz, hl, p, hp, hq⟩
theorem Ex.new (h : Ex evs L st R ps es ev) (hp : ps[t]? = some p) (hl : l < L) (hq : q ∈ evs p l) (hR : R q) (nm : q ∉ ps) : Ex evs L st R (ps ++ [q]) (es ++ [(t, l, ps.length)]) (fun t' l' q' => ev t' l' q' ∨ (t' = t ∧ l' = l ∧ q' = q)) := by
  have ne : ∀ t' l' z', (t', l', z') ∈ es → z' < ps.length := fun t' l' z' m => by
    obtain ⟨q', h1, h2⟩ := (h.eb t' l' z').mp m
    exact (List.getElem?_eq_some_iff.mp h2).1
  refine ⟨nodup_snoc h.nod nm, let ⟨r, e⟩ := h.pre; ⟨r ++ [q], by rw [e, List.append_assoc]⟩, fun x hx => ?_, nodup_snoc h.esn (fun m => absurd (ne _ _ _ m) (Nat.lt_irrefl _)), fun t' l' z' => ?_, fun t' l' q' e => ?_⟩
  · rcases List.mem_append.mp hx with hx | hx
    · exact h.rch x hx
    · rw [List.mem_singleton.mp hx]
      exact hR
  · rw [List.mem_append, List.mem_singleton, h.eb]
    constructor
    · rintro (⟨q', h1, h2⟩ | e)
      · exact ⟨q', .inl h1, snoc_get h2⟩
      · simp only [Prod.mk.injEq] at e
        obtain ⟨rfl, rfl, rfl⟩ := e
        exact ⟨q, .inr ⟨rfl, rfl, rfl⟩, snoc_last⟩
    · rintro ⟨q', h1 | ⟨rfl, rfl, rfl⟩, h2⟩
      · obtain ⟨m, _, _⟩ := h.evd _ _ _ h1
        obtain ⟨z2, hz2⟩ := List.mem_iff_getElem?.mp m
        have := nodup_at (nodup_snoc h.nod nm) h2 (snoc_get hz2)
        subst this
        exact .inl ⟨q', h1, hz2⟩
      · exact .inr (by rw [nodup_at (nodup_snoc h.nod nm) h2 snoc_last])
  · rcases e with e | ⟨rfl, rfl, rfl⟩
    · obtain ⟨h1, h2, p', h3, h4⟩ := h.evd _ _ _ e
      exact ⟨List.mem_append_left _ h1, h2, p', snoc_get h3, h4⟩
    · exact ⟨List.mem_append_right _ List.mem_cons_self, hl, p, snoc_get hp, hq⟩
/-- what has been gone through: the numbers below T, of T the letters below Lc, of Lc the ones in dn -/
def Stg (evs : α → Nat → List α) (L : Nat) (ps : List α) (T Lc : Nat) (dn : List α) (t l : Nat) (q : α) : Prop := ∃ p, ps[t]? = some p ∧ l < L ∧ q ∈ evs p l ∧ (t < T ∨ (t = T ∧ (l < Lc ∨ (l = Lc ∧ q ∈ dn))))
abbrev ExS (evs : α → Nat → List α) (L : Nat) (st : List α) (R : α → Prop) (ps : List α) (es : List Tr) (T Lc : Nat) (dn : List α) : Prop := Ex evs L st R ps es (Stg evs L ps T Lc dn)
variable {T Lc : Nat} {dn : List α}
theorem ExS.start (nd : st.Nodup) (hR : ∀ p ∈ st, R p) : ExS evs L st R st [] 0 0 [] := by
  refine ⟨nd, ⟨[], by simp⟩, hR, List.nodup_nil, fun t l z => ⟨fun h => (nomatch h), fun ⟨q, ⟨p, _, _, _, h⟩, _⟩ => ?_⟩, fun t l q ⟨p, _, _, _, h⟩ => ?_⟩
  · rcases h with h | ⟨_, h | ⟨_, h⟩⟩
    · omega
    · omega
    · cases h
  · rcases h with h | ⟨_, h | ⟨_, h⟩⟩
    · omega
    · omega
    · cases h
/-- one more, an old one | a new one -/
theorem ExS.old (h : ExS evs L st R ps es T Lc dn) (hp : ps[T]? = some p) (hl : Lc < L) (hq : q ∈ evs p Lc) (n : q ∉ dn) (hz : ps[z]? = some q) : ExS evs L st R ps (es ++ [(T, Lc, z)]) T Lc (dn ++ [q]) := by
  have nev : ¬ Stg evs L ps T Lc dn T Lc q := fun ⟨p', _, _, _, h⟩ => by
    rcases h with h | ⟨_, h | ⟨_, h⟩⟩
    · omega
    · omega
    · exact n h
  refine (Ex.old h hp hl hq nev hz).cong fun t l q' => ?_
  constructor
  · rintro (⟨p', h1, h2, h3, h4⟩ | ⟨rfl, rfl, rfl⟩)
    · refine ⟨p', h1, h2, h3, ?_⟩
      rcases h4 with h | ⟨h, h' | ⟨h', h''⟩⟩
      · exact .inl h
      · exact .inr ⟨h, .inl h'⟩
      · exact .inr ⟨h, .inr ⟨h', List.mem_append_left _ h''⟩⟩
    · exact ⟨p, hp, hl, hq, .inr ⟨rfl, .inr ⟨rfl, List.mem_append_right _ List.mem_cons_self⟩⟩⟩
  · rintro ⟨p', h1, h2, h3, h4⟩
    rcases h4 with h | ⟨h, h' | ⟨h', h''⟩⟩
    · exact .inl ⟨p', h1, h2, h3, .inl h⟩
    · exact .inl ⟨p', h1, h2, h3, .inr ⟨h, .inl h'⟩⟩
    · rcases List.mem_append.mp h'' with m | m
      · exact .inl ⟨p', h1, h2, h3, .inr ⟨h, .inr ⟨h', m⟩⟩⟩
      · exact .inr ⟨h, h', List.mem_singleton.mp m⟩
theorem ExS.new (h : ExS evs L st R ps es T Lc dn) (hp : ps[T]? = some p) (hl : Lc < L) (hq : q ∈ evs p Lc) (hR : R q) (nm : q ∉ ps) : ExS evs L st R (ps ++ [q]) (es ++ [(T, Lc, ps.length)]) T Lc (dn ++ [q]) := by
  have lt := (List.getElem?_eq_some_iff.mp hp).1
  refine (Ex.new h hp hl hq hR nm).cong fun t l q' => ?_
  constructor
  · rintro (⟨p', h1, h2, h3, h4⟩ | ⟨rfl, rfl, rfl⟩)
    · refine ⟨p', snoc_get h1, h2, h3, ?_⟩
      rcases h4 with h | ⟨h, h' | ⟨h', h''⟩⟩
      · exact .inl h
      · exact .inr ⟨h, .inl h'⟩
      · exact .inr ⟨h, .inr ⟨h', List.mem_append_left _ h''⟩⟩
    · exact ⟨p, snoc_get hp, hl, hq, .inr ⟨rfl, .inr ⟨rfl, List.mem_append_right _ List.mem_cons_self⟩⟩⟩
  · rintro ⟨p', h1, h2, h3, h4⟩
    have tl : t < ps.length := by
      rcases h4 with h | ⟨h, _⟩ <;> omega
    rw [List.getElem?_append_left tl] at h1
    rcases h4 with h | ⟨h, h' | ⟨h', h''⟩⟩
    · exact .inl ⟨p', h1, h2, h3, .inl h⟩
    · exact .inl ⟨p', h1, h2, h3, .inr ⟨h, .inl h'⟩⟩
    · rcases List.mem_append.mp h'' with m | m
      · exact .inl ⟨p', h1, h2, h3, .inr ⟨h, .inr ⟨h', m⟩⟩⟩
      · exact .inr ⟨h, h', List.mem_singleton.mp m⟩
/-- the letter is done, the number is done -/
theorem ExS.letter (h : ExS evs L st R ps es T Lc (evs p Lc)) (hp : ps[T]? = some p) : ExS evs L st R ps es T (Lc + 1) [] := by
  refine Ex.cong h fun t l q' => ?_
  constructor
  · rintro ⟨p', h1, h2, h3, h | ⟨rfl, h | ⟨rfl, _⟩⟩⟩
    · exact ⟨p', h1, h2, h3, .inl h⟩
    · exact ⟨p', h1, h2, h3, .inr ⟨rfl, .inl (by omega)⟩⟩
    · exact ⟨p', h1, h2, h3, .inr ⟨rfl, .inl (by omega)⟩⟩
  · rintro ⟨p', h1, h2, h3, h | ⟨rfl, h | ⟨_, h⟩⟩⟩
    · exact ⟨p', h1, h2, h3, .inl h⟩
    · refine ⟨p', h1, h2, h3, .inr ⟨rfl, ?_⟩⟩
      rcases Nat.lt_or_ge l Lc with lt | ge
      · exact .inl lt
      · have : l = Lc := by omega
        subst this
        rw [hp] at h1
        cases h1
        exact .inr ⟨rfl, h3⟩
    · cases h
theorem ExS.number (h : ExS evs L st R ps es T L []) : ExS evs L st R ps es (T + 1) 0 [] := by
  refine Ex.cong h fun t l q' => ?_
  constructor
  · rintro ⟨p', h1, h2, h3, h | ⟨rfl, _⟩⟩
    · exact ⟨p', h1, h2, h3, .inl (by omega)⟩
    · exact ⟨p', h1, h2, h3, .inl (by omega)⟩
  · rintro ⟨p', h1, h2, h3, h | ⟨_, h | ⟨_, h⟩⟩⟩
    · refine ⟨p', h1, h2, h3, ?_⟩
      rcases Nat.lt_or_ge t T with lt | ge
      · exact .inl lt
      · exact .inr ⟨by omega, .inl h2⟩
    · omega
    · cases h
/-- all has been gone through -/
structure Full (evs : α → Nat → List α) (L : Nat) (st : List α) (R : α → Prop) (ps : List α) (es : List Tr) : Prop where
  nod : ps.Nodup
  pre : ∃ r, ps = st ++ r
  rch : ∀ p ∈ ps, R p
  esn : es.Nodup
  eb : ∀ t l z, (t, l, z) ∈ es ↔ ∃ p q, ps[t]? = some p ∧ l < L ∧ q ∈ evs p l ∧ ps[z]? = some q
  cls : ∀ p ∈ ps, ∀ l, l < L → ∀ q ∈ evs p l, q ∈ ps
theorem ExS.full (h : ExS evs L st R ps es ps.length 0 []) : Full evs L st R ps es := by
  refine ⟨h.nod, h.pre, h.rch, h.esn, fun t l z => ?_, fun p hp l hl q hq => ?_⟩
  · rw [h.eb]
    constructor
    · rintro ⟨q, ⟨p, h1, h2, h3, _⟩, h5⟩
      exact ⟨p, q, h1, h2, h3, h5⟩
    · rintro ⟨p, q, h1, h2, h3, h5⟩
      exact ⟨q, ⟨p, h1, h2, h3, .inl (List.getElem?_eq_some_iff.mp h1).1⟩, h5⟩
  · obtain ⟨t, ht⟩ := List.mem_iff_getElem?.mp hp
    exact (h.evd t l q ⟨p, ht, hl, hq, .inl (List.getElem?_eq_some_iff.mp ht).1⟩).1
/-! ### how many there can be -/
theorem len_of_cover {β : Type} {l c : List β} (nd : l.Nodup) (h : ∀ x ∈ l, x ∈ c) : l.length ≤ c.length := nd.length_le_of_subset h
theorem nodup_map_on {β γ : Type} {f : β → γ} : ∀ {l : List β}, (∀ a ∈ l, ∀ b ∈ l, f a = f b → a = b) → l.Nodup → (l.map f).Nodup
  | [], _, _ => List.nodup_nil
  | x :: l, h, nd => by
    obtain ⟨n1, n2⟩ := List.nodup_cons.mp nd
    rw [List.map_cons]
    refine List.nodup_cons.mpr ⟨fun m => ?_, nodup_map_on (fun a ha b hb => h a (List.mem_cons_of_mem _ ha) b (List.mem_cons_of_mem _ hb)) n2⟩
    obtain ⟨y, hy, e⟩ := List.mem_map.mp m
    have := h y (List.mem_cons_of_mem _ hy) x List.mem_cons_self e
    subst this
    exact n1 hy
/-- the edges, by what they join: c covers all that can be joined -/
theorem Ex.es_len (h : Ex evs L st R ps es ev) {c : List (α × Nat × α)} (hc : ∀ p l q, R p → l < L → q ∈ evs p l → (p, l, q) ∈ c) : es.length ≤ c.length := by
  have get : ∀ e ∈ es, ∃ p q, ps[e.1]? = some p ∧ e.2.1 < L ∧ q ∈ evs p e.2.1 ∧ ps[e.2.2]? = some q := fun e he => by
    obtain ⟨q, h1, h2⟩ := (h.eb e.1 e.2.1 e.2.2).mp he
    obtain ⟨_, h3, p, h4, h5⟩ := h.evd _ _ _ h1
    exact ⟨p, q, h4, h3, h5, h2⟩
  have key : (es.map fun e => (ps[e.1]?, e.2.1, ps[e.2.2]?)).length ≤ (c.map fun x => (some x.1, x.2.1, some x.2.2)).length := by
    refine len_of_cover (nodup_map_on (fun a ha b hb e => ?_) h.esn) fun x hx => ?_
    · obtain ⟨p, q, a1, _, _, a2⟩ := get a ha
      simp only [Prod.mk.injEq] at e
      obtain ⟨e1, e2, e3⟩ := e
      rw [a1] at e1
      rw [a2] at e3
      have i1 := nodup_at h.nod a1 e1.symm
      have i2 := nodup_at h.nod a2 e3.symm
      obtain ⟨a, a', a''⟩ := a
      obtain ⟨b, b', b''⟩ := b
      simp only at i1 i2 e2
      subst i1 i2 e2
      rfl
    · obtain ⟨e, he, rfl⟩ := List.mem_map.mp hx
      obtain ⟨p, q, a1, a2, a3, a4⟩ := get e he
      refine List.mem_map.mpr ⟨(p, e.2.1, q), hc p _ q (h.rch p (List.mem_of_getElem? a1)) a2 a3, ?_⟩
      rw [a1, a4]
  rw [List.length_map, List.length_map] at key
  exact key
end
end K23
/-! K23Seen -/
set_option Elab.async false
set_option linter.all false
set_option maxRecDepth 100000
set_option maxHeartbeats 4000000
/-! Seen or new: the list of the found, their numbers. -/
namespace K23
open PySem PySem.Spec PyProof.Rows L2
/-- all but those in S is as it was -/
def SameL (S : List Addr) (H H' : Hp) : Prop := ∀ b o, b ∉ S → H b = some o → H' b = some o
section
variable {α : Type} {P : Program} {w : World} {K : PySem.W.Frag} {R : Hp → Addr → α → Prop} {kf : α → NestedKey} {H G G' G1 : Hp} {S : List Addr} {d d1 d2 d3 q : Addr} {es : List α} {e : α}
theorem SameL.to (s : Same H G) (t : SameL S G G') (h : ∀ d ∈ S, H d = none) : Same H G' := fun b o hb => t b o (fun m => by rw [h b m] at hb; cases hb) (s b o hb)
theorem SameL.of (s : Same H G) : SameL S H G := fun b o _ e => s b o e
theorem SameL.trans (a : SameL S H G) (b : SameL S G G') : SameL S H G' := fun c o n e => b c o n (a c o n e)
theorem SameL.put {o : HO} (a : SameL S H G) (h : d ∈ S) : SameL S H (upd G d o) := fun c u n e => by
  rw [upd_ne (fun z => n (by rw [z]; exact h))]
  exact a c u n e
theorem SameL.nput {kvs : List (NestedKey × V)} (a : SameL S H G) (h : d ∈ S) (n : NPut P w K G d kvs G') : SameL S H G' := fun c u nc e => by
  rw [n.2 c (fun z => nc (by rw [z]; exact h))]
  exact a c u nc e
theorem SameL.mono {S' : List Addr} (a : SameL S H G) (h : ∀ d ∈ S, d ∈ S') : SameL S' H G := fun c u n e => a c u (fun m => n (h c m)) e
theorem tk_nput {kvs kvs' : List (NestedKey × V)} (hd : ND P w K G d kvs) (n : NPut P w K G d kvs' G') : TK1 K G G' := fun b xs h => by
  obtain ⟨es, hd, _⟩ := hd
  rcases h with (h | ⟨o, h⟩) | h
  · refine .inl (.inl ((n.2 b fun e => ?_).trans h))
    subst e
    rw [hd] at h
    cases h
  · refine .inl (.inr ⟨o, (n.2 b fun e => ?_).trans h⟩)
    subst e
    rw [hd] at h
    cases h
  · exact .inr h
theorem LM.keep (hR : Stb K R) (h : LM R G d es) (t : TK1 K G G') (s : SameL S G G') (n : d ∉ S) : LM R G' d es := let ⟨ps, h1, h2⟩ := h; ⟨ps, s _ _ n h1, Paired.imp (fun _ _ r => hR _ _ _ _ t r) h2⟩
theorem ND.keepL {kvs : List (NestedKey × V)} (h : ND P w K G d kvs) (t : TK1 K G G') (s : SameL S G G') (n : d ∉ S) : ND P w K G' d kvs := by
  obtain ⟨es, h1, h2, h3⟩ := h
  exact ⟨es, s _ _ n h1, fun e he => ⟨(h2 e he).1.keep t, (h2 e he).2⟩, h3⟩
theorem lm_upd (h : LM R G d es) {o : HO} : TK1 K G (upd G d o) := let ⟨_, h1, _⟩ := h; updT (.inl (by rw [h1]; exact True.intro))
theorem lm_nd {kvs : List (NestedKey × V)} (h : LM R G d1 es) (n : ND P w K G d2 kvs) : d1 ≠ d2 := fun e => by
  subst e
  obtain ⟨_, h1, _⟩ := h
  obtain ⟨_, h2, _⟩ := n
  rw [h1] at h2
  cases h2
/-- what a key needs -/
structure KeyOk (K : PySem.W.Frag) (R : Hp → Addr → α → Prop) (kf : α → NestedKey) : Prop where
  stb : Stb K R
  inj : ∀ a b, kf a = kf b → a = b
  key : ∀ G p e, R G p e → KeyV K G (kf e) (.ref p)
  dep : ∀ e, (kf e).depth ≤ 8
variable {σ : L2.St} {D : Ends} {ip ik iq : Nat} {ps : List α}
theorem seen_if (ko : KeyOk K R kf) (e1 : σ[ip]? = some (some (.ref d1))) (e2 : σ[ik]? = some (some (.ref d2))) (e3 : σ[iq]? = some (some (.ref q))) (h1 : LM R G d1 ps) (h2 : ND P w K G d2 (numK kf ps)) (hq : R G q e) (nd : ps.Nodup) (hl : ps.length < 16777215)
    (old : ∀ z : Nat, ps[z]? = some e → D.nx σ G) (new : e ∉ ps → ∀ G', SameL [d1, d2] G G' → TK1 K G G' → LM R G' d1 (ps ++ [e]) → ND P w K G' d2 (numK kf (ps ++ [e])) → D.nx σ G') :
    tIfS (tB (tNIn P w K true (tVar iq) (tVar ik))) (tSeq (sNPut P w K (tVar ik) (tVar iq) (tCB (rLen2 K) (tCons (tVar ip) tNil))) (tDrop (tBM K "list" rAppend (tVar ip) (tCons (tVar iq) tNil)))) tNext D σ G := by
  refine ⟨_, e3, _, e2, d2, _, kf e, q, rfl, rfl, h2, ko.key _ _ _ hq, ko.dep e, _, rfl, ?_⟩
  rw [if_pos rfl]
  rcases num_get ko.inj (q := e) nd with ⟨n1, n2⟩ | ⟨z, n1, n2⟩
  · refine iteY (by rw [n2]; rfl) ?_
    obtain ⟨qs, g1, g2⟩ := id h1
    refine ⟨_, e1, d1, _, rfl, .inl (SqL.of g1), _, e2, _, e3, d2, _, kf e, q, rfl, rfl, h2, ko.key _ _ _ hq, ko.dep e, by rw [numA_len]; exact line_lt (by omega), fun G4 np => ?_⟩
    have t4 := tk_nput h2 np
    have ne := lm_nd h1 h2
    have g4 : G4 d1 = some (.lst (qs.map V.ref)) := (np.2 d1 ne).trans g1
    have len : (qs.map V.ref).length = ps.length := pr_len g2
    have np' := np.1
    rw [len, put_num ko.inj n1] at np'
    have lm4 : LM R G4 d1 ps := ⟨qs, g4, Paired.imp (fun _ _ r => ko.stb _ _ _ _ t4 r) g2⟩
    obtain ⟨rs, r1, r2, r3⟩ := lm4.app ko.stb (Same.refl G4) (ko.stb _ _ _ _ t4 hq)
    refine ⟨_, e1, .inl ⟨rfl, _, SqL.of r1⟩, _, e3, d1, _, _, rfl, rfl, r1, by rw [r2]; exact line_lt (by omega), ?_⟩
    have s4 : SameL [d1, d2] G G4 := (SameL.of (Same.refl G)).nput (by simp) np
    exact new n1 _ (s4.put (by simp)) (t4.trans (lm_upd lm4)) r3 (np'.keep (lm_upd lm4) (upd_ne (Ne.symm ne)))
  · exact iteN (by rw [n2]; rfl) (old z n1)
variable {ie it il : Nat} {T l z : Nat} {fs : List Tr}
theorem edge_app (ko : KeyOk K R kf) (e2 : σ[ik]? = some (some (.ref d2))) (e3 : σ[iq]? = some (some (.ref q))) (e4 : σ[ie]? = some (some (.ref d3))) (e5 : σ[it]? = some (some (.int (T : Nat)))) (e6 : σ[il]? = some (some (.int (l : Nat)))) (h2 : ND P w K G d2 (numK kf ps)) (h3 : LM (rTr K) G d3 fs)
    (hq : R G q e) (nd : ps.Nodup) (hz : ps[z]? = some e) (hl : fs.length < 16777215) (nx : ∀ G', SameL [d3] G G' → TK1 K G G' → LM (rTr K) G' d3 (fs ++ [(T, l, z)]) → D.nx σ G') :
    tDrop (tBM K "list" rAppend (tVar ie) (tCons (tTup (tCons (tVar it) (tCons (tVar il) (tCons (tNGet P w K (tVar ik) (tVar iq)) tNil)))) tNil)) D σ G := by
  obtain ⟨qs, g1, g2⟩ := id h3
  have v := num_some ko.inj (k := 0) nd hz
  rw [Nat.zero_add] at v
  refine ⟨_, e4, .inl ⟨rfl, _, SqL.of g1⟩, _, e5, _, e6, _, e2, _, e3, d2, _, kf e, q, _, rfl, rfl, h2, ko.key _ _ _ hq, ko.dep e, v, (sz1000 (n := 3) (by decide) : 3 ≤ sizeLine), fun t ht => ?_⟩
  have st := same_new (o := .tup [.int (T : Nat), .int (l : Nat), .int (z : Nat)]) ht
  obtain ⟨rs, r1, r2, r3⟩ := h3.app (t := t) (e := (T, l, z)) (stb_tr K) st (SqT.of upd_same)
  refine ⟨d3, _, _, rfl, rfl, r1, by rw [r2]; exact line_lt (by omega), nx _ ((SameL.of st).put (by simp)) ((sameT st).trans ?_) r3⟩
  exact updT (.inl (by rw [r1]; exact True.intro))
end
/-! ### pairs, groups -/
def prV (p : Nat × Nat) : List V := [.int p.1, .int p.2]
abbrev rPr (K : PySem.W.Frag) : Hp → Addr → Nat × Nat → Prop := fun G p e => SqT K G p (prV e)
def kPr (p : Nat × Nat) : NestedKey := nkI [(p.1 : Int), p.2]
theorem ko_pr (K : PySem.W.Frag) : KeyOk K (rPr K) kPr where
  stb := fun _ _ _ _ t h => t _ _ h
  inj := fun a b e => by
    have := nkI_inj e
    simp only [List.cons.injEq, and_true] at this
    exact Prod.ext (Int.ofNat.inj this.1) (Int.ofNat.inj this.2)
  key := fun _ _ _ h => keyI h
  dep := fun _ => depthI _
abbrev rGr (K : PySem.W.Frag) : Hp → Addr → List Nat → Prop := fun G p e => SqT K G p (nV e)
def kGr (g : List Nat) : NestedKey := nkI (nI g)
theorem nI_inj : ∀ {a b : List Nat}, nI a = nI b → a = b
  | [], [], _ => rfl
  | [], y :: b, h => by cases h
  | x :: a, [], h => by cases h
  | x :: a, y :: b, h => by
    have h' : (x : Int) :: nI a = (y : Int) :: nI b := h
    injection h' with h1 h2
    rw [Int.ofNat.inj h1, nI_inj h2]
theorem ko_gr (K : PySem.W.Frag) : KeyOk K (rGr K) kGr where
  stb := fun _ _ _ _ t h => t _ _ h
  inj := fun a b e => nI_inj (nkI_inj e)
  key := fun _ _ _ h => keyI (by rw [← nV_I]; exact h)
  dep := fun _ => depthI _
/-! ### a walk over a list within a comprehension -/
theorem walkL {K : PySem.W.Frag} {a : Addr} {xs : List V} {G0 : Hp} {Body : V → Hp → (Hp → Prop) → Prop} {Stop : Hp → Prop} (Pv : Nat → Hp → Prop) (h0 : Pv 0 G0) (hl : ∀ i G, Pv i G → SqL K G a xs) (hs : ∀ i x G, xs[i]? = some x → Pv i G → Body x G (Pv (i + 1))) (hd : ∀ G, Pv xs.length G → Stop G) :
    ∃ W : Nat → Nat → Hp → Prop, (∃ m, W 0 m G0) ∧ ∀ i m G, W i m G → ((Itl K a).stop i G ∧ Stop G) ∨ ((Itl K a).go i G ∧ ∃ Nx : Hp → Prop, (∀ H', Nx H' → ∃ m', m' < m ∧ W (i + 1) m' H') ∧ ∀ x H', (Itl K a).yld i G x H' → Body x H' Nx) := by
  refine ⟨fun i m G => (m = xs.length - i ∧ i ≤ xs.length) ∧ Pv i G, ⟨xs.length, ⟨rfl, Nat.zero_le _⟩, h0⟩, ?_⟩
  rintro i m G ⟨⟨rfl, hi⟩, p⟩
  have sq := hl i G p
  rcases Nat.lt_or_ge i xs.length with lt | ge
  · refine .inr ⟨⟨xs, xs[i], sq, by simp [lt]⟩, Pv (i + 1), fun H' p' => ⟨xs.length - (i + 1), by omega, ⟨rfl, lt⟩, p'⟩, fun x Hc y => ?_⟩
    obtain ⟨e, y⟩ := y
    subst e
    exact hs i x _ (y xs sq) p
  · have e : i = xs.length := Nat.le_antisymm hi ge
    subst e
    exact .inl ⟨⟨xs, sq, Nat.le_refl _⟩, hd G p⟩
theorem walkR {n : Nat} {G0 : Hp} {Body : V → Hp → (Hp → Prop) → Prop} {Stop : Hp → Prop} (Pv : Nat → Hp → Prop) (h0 : Pv 0 G0) (hs : ∀ i G, i < n → Pv i G → Body (.int (i : Nat)) G (Pv (i + 1))) (hd : ∀ G, Pv n G → Stop G) :
    ∃ W : Nat → Nat → Hp → Prop, (∃ m, W 0 m G0) ∧ ∀ i m G, W i m G → ((Itr 0 n).stop i G ∧ Stop G) ∨ ((Itr 0 n).go i G ∧ ∃ Nx : Hp → Prop, (∀ H', Nx H' → ∃ m', m' < m ∧ W (i + 1) m' H') ∧ ∀ x H', (Itr 0 n).yld i G x H' → Body x H' Nx) := by
  refine ⟨fun i m G => (m = n - i ∧ i ≤ n) ∧ Pv i G, ⟨n, ⟨rfl, Nat.zero_le _⟩, h0⟩, ?_⟩
  rintro i m G ⟨⟨rfl, hi⟩, p⟩
  rcases Nat.lt_or_ge i n with lt | ge
  · refine .inr ⟨lt, Pv (i + 1), fun H' p' => ⟨n - (i + 1), by omega, ⟨rfl, lt⟩, p'⟩, fun x Hc y => ?_⟩
    obtain ⟨e, y⟩ := y
    subst e
    subst y
    rw [Int.zero_add]
    exact hs i _ lt p
  · have e : i = n := Nat.le_antisymm hi ge
    subst e
    exact .inl ⟨Nat.le_refl _, hd G p⟩
/-- over range(n), a list of references made -/
theorem tlcRM {α : Type} {R : Hp → Addr → α → Prop} {n : Nat} {ta : TA} {g : TG} {tt : TT} {te : TE} {vs : List Nat} {σ : L2.St} {H : Hp} {Q : VK} (hte : ∀ R : List V → Hp → Prop, R [.int (n : Nat)] H → ta σ H R) (hn : n < 2 ^ 62) (es : List α) (hl : es.length = n)
    (hs : ∀ D, H D = none → ∀ i G, i < n → Same H G → LM R G D (es.take i) → g (.int (i : Nat)) (wipe σ vs) G fun σ2 H2 => wipe σ2 vs = wipe σ vs ∧ tt σ2 H2 fun b H3 => if b = true then te σ2 H3 fun y H4 => ∃ acc, H4 D = some (.lst acc) ∧ acc.length < sizeLine ∧ Same H (upd H4 D (.lst (acc ++ [y]))) ∧ LM R (upd H4 D (.lst (acc ++ [y]))) D (es.take (i + 1)) else Same H H3 ∧ LM R H3 D (es.take (i + 1)))
    (hd : ∀ D, H D = none → ∀ G, Same H G → LM R G D es → Q (.ref D) G) : tLc (iRng1 ta) g tt te vs σ H Q := by
  refine hte _ ⟨(n : Int), rfl, by omega, by omega, fun D hD => ?_⟩
  rw [show ((n : Nat) : Int).toNat = n from Int.toNat_natCast n]
  refine walkR (fun i G => Same H G ∧ LM R G D (es.take i)) ⟨same_new hD, LM.new D H⟩ (fun i G hi z => hs D hD i G hi z.1 z.2) (fun G z => ?_)
  have z2 := z.2
  rw [← hl, List.take_length] at z2
  exact hd D hD G z.1 z2
theorem walkE {K : PySem.W.Frag} {a : Addr} {xs : List V} {G0 : Hp} {Body : V → Hp → (Hp → Prop) → Prop} {Stop : Hp → Prop} (Pv : Nat → Hp → Prop) (h0 : Pv 0 G0) (hl : ∀ i G, Pv i G → SqL K G a xs) (hs : ∀ i x G t, xs[i]? = some x → Pv i G → G t = none → Body (.ref t) (upd G t (.tup [.int (i : Nat), x])) (Pv (i + 1))) (hd : ∀ G, Pv xs.length G → Stop G) :
    ∃ W : Nat → Nat → Hp → Prop, (∃ m, W 0 m G0) ∧ ∀ i m G, W i m G → ((Ite K a).stop i G ∧ Stop G) ∨ ((Ite K a).go i G ∧ ∃ Nx : Hp → Prop, (∀ H', Nx H' → ∃ m', m' < m ∧ W (i + 1) m' H') ∧ ∀ x H', (Ite K a).yld i G x H' → Body x H' Nx) := by
  refine ⟨fun i m G => (m = xs.length - i ∧ i ≤ xs.length) ∧ Pv i G, ⟨xs.length, ⟨rfl, Nat.zero_le _⟩, h0⟩, ?_⟩
  rintro i m G ⟨⟨rfl, hi⟩, p⟩
  have sq := hl i G p
  rcases Nat.lt_or_ge i xs.length with lt | ge
  · refine .inr ⟨⟨xs, xs[i], sq, by simp [lt]⟩, Pv (i + 1), fun H' p' => ⟨xs.length - (i + 1), by omega, ⟨rfl, lt⟩, p'⟩, fun x Hc y => ?_⟩
    obtain ⟨t, x', e1, e2, e3, y⟩ := y
    subst e1
    subst e3
    exact hs i x' _ t (y xs sq) p e2
  · have e : i = xs.length := Nat.le_antisymm hi ge
    subst e
    exact .inl ⟨⟨xs, sq, Nat.le_refl _⟩, hd G p⟩
/-- the places of those that are so -/
def endsA {α : Type} (f : α → Bool) : Nat → List α → List Nat
  | _, [] => []
  | k, p :: ps => if f p = true then k :: endsA f (k + 1) ps else endsA f (k + 1) ps
theorem endsA_snoc {α : Type} (f : α → Bool) (p : α) : ∀ (ps : List α) (k : Nat), endsA f k (ps ++ [p]) = endsA f k ps ++ (if f p = true then [k + ps.length] else [])
  | [], k => by
    show (if f p = true then [k] else []) = _
    rfl
  | q :: ps, k => by
    have e := endsA_snoc f p ps (k + 1)
    rw [show k + 1 + ps.length = k + (q :: ps).length by rw [List.length_cons]; omega] at e
    show (if f q = true then k :: endsA f (k + 1) (ps ++ [p]) else endsA f (k + 1) (ps ++ [p])) = (if f q = true then k :: endsA f (k + 1) ps else endsA f (k + 1) ps) ++ _
    rw [e]
    split <;> rfl
theorem endsA_len {α : Type} (f : α → Bool) : ∀ (ps : List α) (k : Nat), (endsA f k ps).length ≤ ps.length
  | [], _ => Nat.le_refl _
  | p :: ps, k => by
    have := endsA_len f ps (k + 1)
    unfold endsA
    split
    · exact Nat.succ_le_succ this
    · exact Nat.le_succ_of_le this
theorem mem_endsA {α : Type} {f : α → Bool} {i : Nat} : ∀ {ps : List α} {k : Nat}, i ∈ endsA f k ps ↔ ∃ j p, i = k + j ∧ ps[j]? = some p ∧ f p = true
  | [], k => ⟨fun h => (nomatch h), fun ⟨j, p, _, h, _⟩ => by simp at h⟩
  | q :: ps, k => by
    have ih := mem_endsA (f := f) (i := i) (ps := ps) (k := k + 1)
    unfold endsA
    constructor
    · intro h
      by_cases c : f q = true
      · rw [if_pos c] at h
        rcases List.mem_cons.mp h with e | h
        · exact ⟨0, q, e, rfl, c⟩
        · obtain ⟨j, p, e, h1, h2⟩ := ih.mp h
          exact ⟨j + 1, p, by omega, by simpa using h1, h2⟩
      · rw [if_neg c] at h
        obtain ⟨j, p, e, h1, h2⟩ := ih.mp h
        exact ⟨j + 1, p, by omega, by simpa using h1, h2⟩
    · rintro ⟨j, p, e, h1, h2⟩
      cases j with
      | zero =>
        simp at h1
        subst h1
        rw [if_pos h2]
        rw [e]
        exact List.mem_cons_self
      | succ j =>
        have := ih.mpr ⟨j, p, by omega, by simpa using h1, h2⟩
        split
        · exact List.mem_cons_of_mem _ this
        · exact this
theorem tlcE {α : Type} {K : PySem.W.Frag} {R : Hp → Addr → α → Prop} (stb : Stb K R) {d : Addr} {ps : List α} {tt : TT} {si sj : Nat} {vs : List Nat} {σ : L2.St} {H : Hp} {Q : VK} {tl : TE} (f : α → Bool) (hte : ∀ R : VK, R (.ref d) H → tl σ H R) (hd : LM R H d ps) (hl : ps.length ≤ 16777215)
    (hi : ∀ a b, (((wipe σ vs).set si a).set sj b)[si]? = some a) (hw : ∀ a b, wipe (((wipe σ vs).set si a).set sj b) vs = wipe σ vs)
    (ht : ∀ i q e G Q', ps[i]? = some e → Same H G → R G q e → (∀ G', Same G G' → Q' (f e) G') → tt (((wipe σ vs).set si (some (.int (i : Nat)))).set sj (some (.ref q))) G Q')
    (hQ : ∀ D G, Same H G → H D = none → G D = some (.lst (nV (endsA f 0 ps))) → Q (.ref D) G) : tLc (iEnum K (tCons tl tNil)) (gTup K 2 (gCons (gName si) (gCons (gName sj) gNil))) tt (tVar si) vs σ H Q := by
  obtain ⟨qs, h1, h2⟩ := id hd
  refine hte _ ⟨d, _, rfl, SqL.of h1, fun D hD => ?_⟩
  refine walkE (xs := qs.map V.ref) (fun i G => Same H G ∧ G D = some (.lst (nV (endsA f 0 (ps.take i))))) ⟨same_new hD, upd_same⟩ (fun i G z => z.1.seq (SqL.of h1)) (fun i x G t hx ⟨sG, hG⟩ ht' => ?_) (fun G ⟨sG, hG⟩ => ?_)
  · obtain ⟨q, e, rfl, he, hq⟩ := pr_get h2 hx
    have st := same_new (o := .tup [.int (i : Nat), .ref q]) ht'
    have sG1 := sG.trans st
    refine ⟨t, _, rfl, SqT.of upd_same, rfl, _, _, rfl, _, _, rfl, rfl, hw _ _, ?_⟩
    refine ht i q e _ _ he sG1 (stb _ _ _ _ (sameT sG1) hq) fun G' s' => ?_
    have hG' := s' _ _ (st _ _ hG)
    have ln : (ps.take i).length = i := by
      rw [List.length_take]
      have := (List.getElem?_eq_some_iff.mp he).1
      omega
    have es := endsA_snoc f e (ps.take i) 0
    rw [← take_snoc he, ln, Nat.zero_add] at es
    refine iteB (fun c => ⟨_, hi _ _, _, hG', ?_, same_put (sG1.trans s') hD, ?_⟩) fun c => ⟨sG1.trans s', ?_⟩
    · rw [nV_len]
      have := endsA_len f (ps.take i) 0
      rw [ln] at this
      have := (List.getElem?_eq_some_iff.mp he).1
      exact line_lt (by omega)
    · rw [upd_same, es, c]
      have := nV_snoc (endsA f 0 (ps.take i)) i
      rw [this]
      rfl
    · rw [es, c]
      show G' D = some (.lst (nV (endsA f 0 (ps.take i) ++ [])))
      rw [List.append_nil]
      exact hG'
  · rw [pr_len h2, List.take_length] at hG
    exact hQ D G sG hD hG
end K23
/-! K23Wf -/
set_option Elab.async false
set_option linter.all false
set_option maxRecDepth 100000
set_option maxHeartbeats 4000000
namespace K23
open PySem PySem.Spec PyProof.Rows L2
section
variable {P : Program} {w : World} {K : PySem.W.Frag} {mg : Str → Option Value} {base : Heap}
def gpE (A B : List Tr) (p : Nat × Nat) (l : Nat) : List (Nat × Nat) := (goalsE A p.1 l).flatMap fun x => (goalsE B p.2 l).map fun y => (x, y)
def sp_goal_pairs (P : Program) (w : World) (K : PySem.W.Frag) : SpN := fun vs H Q => ∃ a b q A B p l, vs = [.ref a, .ref b, .ref q, .int (l : Nat)] ∧ NetAt P w K H a A ∧ NetAt P w K H b B ∧ rPr K H q p ∧ (gpE A.E B.E p l).length ≤ 16777215 ∧
  ∀ d H', Same H H' → H d = none → LM (rPr K) H' d (gpE A.E B.E p l) → Q (.ref d) H'
theorem len_goal_pairs : ∀ vs H Q, sp_goal_pairs P w K vs H Q → vs.length = 4 := fun _ _ _ ⟨_, _, _, _, _, _, _, e, _⟩ => by subst e; rfl
theorem sc_goal_pairs : FnScope ["a", "b", "pair", "letter", "x", "y"] ["a", "b", "pair", "letter"] (defScope s_goal_pairs) := ⟨rfl, rfl, rfl, by decide +kernel, rfl, by decide +kernel, by decide +kernel⟩
/- slots: 0 a, 1 b, 2 pair, 3 letter, 4 x, 5 y -/
theorem ok_goal_pairs (T : Tb K mg) (c_Net_goals : Cal P w K mg base (He.ma K (NetC K) "goals") 1 ["self", "node", "letter"] (sp_Net_goals P w K)) : Cal P w K mg base (He.ga K "goal_pairs") 2 ["a", "b", "pair", "letter"] (sp_goal_pairs P w K) := by
  obtain ⟨fd, F⟩ := T.dfs 10 d_goal_pairs rfl
  refine cal_of (N := ["a", "b", "pair", "letter", "x", "y"]) F sc_goal_pairs (F.bindsN fun _ _ _ _ _ _ us hl => match us, hl with | [_, _, _, _], _ => rfl) (len_goal_pairs) fun cdv A outer s H vs Q E hr h => ?_
  refine ⟨(tRet (tLc2 (iList K (tMe K "goals" (sp_Net_goals P w K) (tVar 0) (tCons (tOp (rIxT K) (tVar 2) (tC (.int 0))) (tCons (tVar 3) tNil)))) (gName 4) tYes (iList K (tMe K "goals" (sp_Net_goals P w K) (tVar 1) (tCons (tOp (rIxT K) (tVar 2) (tC (.int 1))) (tCons (tVar 3) tNil)))) (gName 5) tYes (tTup (tCons (tVar 4) (tCons (tVar 5) tNil))) [4, 5] [5])), (pss_one (ps_ret (pe_lc2 (own := [("x", 4), ("y", 5)]) (vs1 := [5]) (g := (gName 4)) (tt := tYes) (wi1 := (iList K (tMe K "goals" (sp_Net_goals P w K) (tVar 1) (tCons (tOp (rIxT K) (tVar 2) (tC (.int 1))) (tCons (tVar 3) tNil))))) (g1 := (gName 5)) (tt1 := tYes) (te := (tTup (tCons (tVar 4) (tCons (tVar 5) tNil)))) rfl sc_goal_pairs.nd (pi_list (pmet rfl (pv 0) T.cl (T.met 0 "goals" rfl) c_Net_goals (hr.mono (by decide)) (pa_cons (pe_ix ix_tup (pv 2) pe_int (fun _ _ => rfl)) (pa_cons (pv 3) pa_nil)))) (blkOk_by (N := ["a", "b", "pair", "letter", "x", "y"]) (sc := defScope s_goal_pairs) (by decide +kernel)) (by decide) (fun _ _ _ _ _ => (pg_name (i := 4) sc_goal_pairs.nd rfl (by first | exact Or.inl rfl | exact Or.inr rfl))) (fun _ _ _ _ _ => pts_nil) (fun _ _ _ _ _ => (pi_list (pmet rfl (pv 1) T.cl (T.met 0 "goals" rfl) c_Net_goals (hr.mono (by decide)) (pa_cons (pe_ix ix_tup (pv 2) pe_int (fun _ _ => rfl)) (pa_cons (pv 3) pa_nil))))) (fun _ _ _ _ _ => (pg_name (i := 5) sc_goal_pairs.nd rfl (by first | exact Or.inl rfl | exact Or.inr rfl))) (fun _ _ _ _ _ => pts_nil) (fun _ _ _ _ _ => (pe_tup (pa_cons (pv 4) (pa_cons (pv 5) pa_nil))))))), ?_⟩
  obtain ⟨a, b, q, A, B, p, l, rfl, hA, hB, hq, hl, hQ⟩ := h
  obtain ⟨wA, dx, pe, pf, pd, h1, h2, h3, h4⟩ := id hA
  refine ⟨_, rfl, a, dx, _, rfl, h1, rfl, _, rfl, q, _, _, _, rfl, rfl, hq, atI_n (n := 0) rfl rfl, _, rfl, a, A, p.1, l, rfl, hA, fun p1 H1 s1 hp1 hp1' => ⟨p1, rfl, ⟨_, SqL.of hp1'⟩, fun D hD => ?_⟩⟩
  have hD0 : H D = none := s1.free hD
  refine walkL (xs := nV (goalsE A.E p.1 l)) (fun i G => Same H1 G ∧ LM (rPr K) G D (((goalsE A.E p.1 l).take i).flatMap fun x => (goalsE B.E p.2 l).map fun y => (x, y))) ⟨same_new hD, LM.new D H1⟩ (fun i G z => z.1.seq (SqL.of hp1')) (fun i v G hv ⟨sG, hG⟩ => ?_) (fun G ⟨sG, hG⟩ => ?_)
  · obtain ⟨x, rfl, hx⟩ := nV_get hv
    have sH := s1.trans sG
    have hB2 := hB.same sH
    obtain ⟨wB, dy, qe, qf, qd, k1, k2, k3, k4⟩ := id hB2
    refine ⟨rfl, ⟨_, rfl, b, dy, _, rfl, k1, rfl, _, rfl, q, _, _, _, rfl, rfl, Same.tup sH hq, atI_n (n := 1) rfl rfl, _, rfl, b, B, p.2, l, rfl, hB2, fun p2 H2 s2 hp2 hp2' => ⟨p2, rfl, ⟨_, SqL.of hp2'⟩, ?_⟩⟩⟩
    have nD : D ≠ p2 := by
      obtain ⟨_, z, _⟩ := hG
      exact ne_of_none z hp2
    refine walkL (xs := nV (goalsE B.E p.2 l)) (fun j G => Same H1 G ∧ G p2 = some (.lst (nV (goalsE B.E p.2 l))) ∧ LM (rPr K) G D ((((goalsE A.E p.1 l).take i).flatMap fun x => (goalsE B.E p.2 l).map fun y => (x, y)) ++ ((goalsE B.E p.2 l).take j).map fun y => (x, y)))
      ⟨sG.trans s2, hp2', by rw [List.take_zero, List.map_nil, List.append_nil]; exact hG.same (ko_pr K).stb s2⟩ (fun j G z => SqL.of z.2.1) (fun j u G hu ⟨s3, e3, hG3⟩ => ?_) (fun G ⟨s3, e3, hG3⟩ => ?_)
    · obtain ⟨y, rfl, hy⟩ := nV_get hu
      have ly := (List.getElem?_eq_some_iff.mp hy).1
      refine ⟨rfl, ⟨_, rfl, _, rfl, (sz1000 (n := 2) (by decide) : 2 ≤ sizeLine), fun t ht => ?_⟩⟩
      have st := same_new (o := .tup [.int (x : Nat), .int (y : Nat)]) ht
      obtain ⟨rs, r1, r2, r3⟩ := hG3.app (t := t) (e := (x, y)) (ko_pr K).stb st (SqT.of upd_same)
      refine ⟨_, r1, ?_, same_put (s3.trans st) hD, ?_, ?_⟩
      · have c1 : ((((goalsE A.E p.1 l).take i).flatMap fun x => (goalsE B.E p.2 l).map fun y => (x, y)) ++ ((goalsE B.E p.2 l).take j).map fun y => (x, y)).length ≤ (gpE A.E B.E p l).length := by
          have e1 : (goalsE A.E p.1 l) = (goalsE A.E p.1 l).take i ++ x :: (goalsE A.E p.1 l).drop (i + 1) := by
            obtain ⟨lt, e⟩ := List.getElem?_eq_some_iff.mp hx
            rw [← e, List.getElem_cons_drop, List.take_append_drop]
          unfold gpE
          conv => rhs; rw [e1]
          rw [List.flatMap_append, List.length_append, List.length_append, List.flatMap_cons, List.length_append, List.length_map, List.length_take, List.length_map]
          omega
        rw [r2]
        have c2 : ((((goalsE A.E p.1 l).take i).flatMap fun x => (goalsE B.E p.2 l).map fun y => (x, y)) ++ ((goalsE B.E p.2 l).take j).map fun y => (x, y)).length < 16777216 := by omega
        rw [sizeLine_eq]
        exact c2
      · rw [upd_ne (Ne.symm nD)]
        exact st _ _ e3
      · rw [map_take_cons hy, ← List.append_assoc]
        exact r3
    · refine ⟨s3, ?_⟩
      rw [nV_len, List.take_length] at hG3
      rw [flat_snoc _ hx]
      exact hG3
  · rw [nV_len, List.take_length] at hG
    exact hQ D G (s1.trans sG) hD0 hG
theorem goals_nodup {N : Net} (wf : Wf N) (x l : Nat) : (goalsE N.E x l).Nodup := by
  unfold goalsE
  refine nodup_map_on (fun a ha b hb e => ?_) (List.Pairwise.filter _ (List.Pairwise.imp (fun {a b} (h : trLt a b) (e : a = b) => by subst e; exact trLt_irrefl _ h) wf.es))
  obtain ⟨_, h1⟩ := List.mem_filter.mp ha
  obtain ⟨_, h2⟩ := List.mem_filter.mp hb
  obtain ⟨a1, a2⟩ := of_decide_eq_true h1
  obtain ⟨b1, b2⟩ := of_decide_eq_true h2
  obtain ⟨a, a', a''⟩ := a
  obtain ⟨b, b', b''⟩ := b
  simp only at a1 a2 b1 b2 e
  subst a1 a2 b1 b2 e
  rfl
theorem gp_nodup {A B : Net} (wA : Wf A) (wB : Wf B) (p : Nat × Nat) (l : Nat) : (gpE A.E B.E p l).Nodup := by
  unfold gpE
  have key : ∀ xs : List Nat, xs.Nodup → (xs.flatMap fun x => (goalsE B.E p.2 l).map fun y => (x, y)).Nodup := by
    intro xs
    induction xs with
    | nil => exact fun _ => List.nodup_nil
    | cons x xs ih =>
      intro nd
      obtain ⟨n1, n2⟩ := List.nodup_cons.mp nd
      rw [List.flatMap_cons]
      refine List.nodup_append.mpr ⟨nodup_map_on (fun a _ b _ e => (Prod.mk.inj e).2) (goals_nodup wB _ _), ih n2, fun a ha b hb e => ?_⟩
      obtain ⟨y, _, rfl⟩ := List.mem_map.mp ha
      obtain ⟨x', hx', hb⟩ := List.mem_flatMap.mp hb
      obtain ⟨y', _, rfl⟩ := List.mem_map.mp hb
      injection e with e1 e2
      subst e1
      exact n1 hx'
  exact key _ (goals_nodup wA _ _)
def tkn (σ : L2.St) (k : Nat) : Nat := match σ[k]? with
  | some (some (V.int t)) => t.toNat
  | _ => 0
def diag (S : Nat) : List (Nat × Nat) := (List.range S).map fun s => (s, s)
theorem diag_len (S : Nat) : (diag S).length = S := by unfold diag; rw [List.length_map, List.length_range]
theorem diag_get {S i : Nat} (h : i < S) : (diag S)[i]? = some (i, i) := by
  unfold diag
  rw [List.getElem?_map, List.getElem?_range h]
  rfl
theorem diag_nodup (S : Nat) : (diag S).Nodup := nodup_map_on (fun a _ b _ e => (Prod.mk.inj e).1) List.nodup_range
structure PCov (A B : Net) (R : Nat × Nat → Prop) (cp : List (Nat × Nat)) (ce : List ((Nat × Nat) × Nat × (Nat × Nat))) : Prop where
  r0 : ∀ s, s < A.S → R (s, s)
  rs : ∀ p l q, R p → l < A.L → q ∈ gpE A.E B.E p l → R q
  cpm : ∀ p, R p → p ∈ cp
  cpl : cp.length ≤ 49152
  cem : ∀ p l q, R p → l < A.L → q ∈ gpE A.E B.E p l → (p, l, q) ∈ ce
  cel : ce.length ≤ 8388606
def sp_paired (P : Program) (w : World) (K : PySem.W.Frag) : SpN := fun vs H Q => ∃ a b A B R cp ce, vs = [.ref a, .ref b] ∧ NetAt P w K H a A ∧ NetAt P w K H b B ∧ A.S = B.S ∧ A.L = B.L ∧ PCov A B R cp ce ∧
  ∀ q d1 d2 H' ps es, Same H H' → SqT K H' q [.ref d1, .ref d2] → LM (rPr K) H' d1 ps → LM (rTr K) H' d2 es → Full (gpE A.E B.E) A.L (diag A.S) R ps es → ps.length ≤ 49152 → es.length ≤ 8388606 → Q (.ref q) H'
theorem len_paired : ∀ vs H Q, sp_paired P w K vs H Q → vs.length = 2 := fun _ _ _ ⟨_, _, _, _, _, _, _, e, _⟩ => by subst e; rfl
theorem sc_paired : FnScope ["a", "b", "pairs", "numbers", "edges", "taken", "letter", "pair", "state"] ["a", "b"] (defScope s_paired) := ⟨rfl, rfl, rfl, by decide +kernel, rfl, by decide +kernel, by decide +kernel⟩
/- slots: 0 a, 1 b, 2 pairs, 3 numbers, 4 edges, 5 taken, 6 letter, 7 pair, 8 state -/
theorem ok_paired (T : Tb K mg) (c_goal_pairs : Cal P w K mg base (He.ga K "goal_pairs") 2 ["a", "b", "pair", "letter"] (sp_goal_pairs P w K)) : Cal P w K mg base (He.ga K "paired") 3 ["a", "b"] (sp_paired P w K) := by
  obtain ⟨fd, F⟩ := T.dfs 11 d_paired rfl
  refine cal_of (N := ["a", "b", "pairs", "numbers", "edges", "taken", "letter", "pair", "state"]) F sc_paired (F.bindsN fun _ _ _ _ _ _ us hl => match us, hl with | [_, _], _ => rfl) (len_paired) fun cdv A outer s H vs Q E hr h => ?_
  refine ⟨(tSeq (tAsg (tLc (iRng1 (tCons (tFld K (tVar 0) "states") tNil)) (gName 8) tYes (tTup (tCons (tVar 8) (tCons (tVar 8) tNil))) [8]) (gName 2)) (tSeq (tAsg (tNDc P w K (iList K (tVar 2)) (gName 7) (tVar 7) (tOp (rIxT K) (tVar 7) (tC (.int 0))) [7]) (gName 3)) (tSeq (tAsg (tLst tNil) (gName 4)) (tSeq (tAsg (tC (.int 0)) (gName 5)) (tSeq (tWhile (tTest (tOp rLt (tVar 5) (tCB (rLen2 K) (tCons (tVar 2) tNil)))) (tSeq (tFor (iRng1 (tCons (tFld K (tVar 0) "letters") tNil)) (gName 6) (tFor (iList K (tDo (sp_goal_pairs P w K) (tCons (tVar 0) (tCons (tVar 1) (tCons (tOp (rIxL K) (tVar 2) (tVar 5)) (tCons (tVar 6) tNil)))))) (gName 7) (tSeq (tIfS (tB (tNIn P w K true (tVar 7) (tVar 3))) (tSeq (sNPut P w K (tVar 3) (tVar 7) (tCB (rLen2 K) (tCons (tVar 2) tNil))) (tDrop (tBM K "list" rAppend (tVar 2) (tCons (tVar 7) tNil)))) tNext) (tDrop (tBM K "list" rAppend (tVar 4) (tCons (tTup (tCons (tVar 5) (tCons (tVar 6) (tCons (tNGet P w K (tVar 3) (tVar 7)) tNil)))) tNil)))))) (tAug 5 (tC (.int 1)) (ipI fun i j => i + j)))) (tRet (tTup (tCons (tVar 2) (tCons (tVar 4) tNil))))))))), (pss_cons (ps_setLc (i := 2) (own := [("state", 8)]) (g := (gName 8)) (tt := tYes) (te := (tTup (tCons (tVar 8) (tCons (tVar 8) tNil)))) rfl sc_paired.nd rfl rfl (sw_true rfl rfl rfl (by decide +kernel)) (pi_range1 (by rfl) (T.fre 1 "range" rfl) (pa_cons (pfld rfl (pv 0)) pa_nil)) (blkOk_by (N := ["a", "b", "pairs", "numbers", "edges", "taken", "letter", "pair", "state"]) (sc := defScope s_paired) (by decide +kernel)) (fun _ _ _ _ _ => (pg_name (i := 8) sc_paired.nd rfl (by first | exact Or.inl rfl | exact Or.inr rfl))) (fun _ _ _ _ _ => pts_nil) (fun _ _ _ _ _ => (pe_tup (pa_cons (pv 8) (pa_cons (pv 8) pa_nil))))) (pss_cons (ps_setNDc (i := 3) (own := [("pair", 7)]) (g := (gName 7)) (tk := (tVar 7)) (tv := (tOp (rIxT K) (tVar 7) (tC (.int 0)))) hr.units rfl sc_paired.nd rfl rfl (sw_dict rfl rfl rfl (by decide +kernel)) (pi_list (pv 2)) (blkOk_by (N := ["a", "b", "pairs", "numbers", "edges", "taken", "letter", "pair", "state"]) (sc := defScope s_paired) (by decide +kernel)) (fun _ _ _ _ _ => (pg_name (i := 7) sc_paired.nd rfl (by first | exact Or.inl rfl | exact Or.inr rfl))) (fun _ _ _ _ _ => (pv 7)) (fun _ _ _ _ _ => (pe_ix ix_tup (pv 7) pe_int (fun _ _ => rfl)))) (pss_cons (ps_set (i := 4) sc_paired.nd rfl (by first | exact Or.inl rfl | exact Or.inr rfl) (pe_lst pa_nil)) (pss_cons (ps_set (i := 5) sc_paired.nd rfl (by first | exact Or.inl rfl | exact Or.inr rfl) pe_int) (pss_cons (ps_while PassesOwn.never (pt_cmpR op_lt (pv 5) (pe_callB call_len2 (by rfl) (T.fre 0 "len" rfl) kb_len (pa_cons (pv 2) pa_nil)) (nomark _)) (pss_cons (ps_for PassesOwn.never rfl (pi_range1 (by rfl) (T.fre 1 "range" rfl) (pa_cons (pfld rfl (pv 0)) pa_nil)) (pg_name (i := 6) sc_paired.nd rfl (by first | exact Or.inl rfl | exact Or.inr rfl)) (pss_one (ps_for PassesOwn.never rfl (pi_list (pcal c_goal_pairs (hr.mono (by decide)) (T.glo 5 "goal_pairs" rfl) (pa_cons (pv 0) (pa_cons (pv 1) (pa_cons (pe_ix ix_list (pv 2) (pv 5) (fun _ _ => rfl)) (pa_cons (pv 6) pa_nil)))))) (pg_name (i := 7) sc_paired.nd rfl (by first | exact Or.inl rfl | exact Or.inr rfl)) (pss_cons (ps_if (pt_cmp (pc_nnotin hr.units (pv 7) (pv 3)) (by with_unfolding_all rfl)) (pss_cons (ps_nput hr.units (pv 3) (pv 7) (pe_callB call_len2 (by rfl) (T.fre 0 "len" rfl) kb_len (pa_cons (pv 2) pa_nil)) rfl) (pss_one (ps_expr (pe_bm PySem.F.plainAttrs_list PySem.F.slot_list_append PySem.F.type_list_append mt_append (pv 2) (pa_cons (pv 7) pa_nil))))) pss_nil) (pss_one (ps_expr (pe_bm PySem.F.plainAttrs_list PySem.F.slot_list_append PySem.F.type_list_append mt_append (pv 4) (pa_cons (pe_tup (pa_cons (pv 5) (pa_cons (pv 6) (pa_cons (pe_nget hr.units (pv 3) (pv 7) (fun _ _ => rfl)) pa_nil)))) pa_nil)))))))) (pss_one (ps_aug (i := 5) sc_paired.nd rfl (by first | exact Or.inl rfl | exact Or.inr rfl) pe_int ip_add)))) (pss_one (ps_ret (pe_tup (pa_cons (pv 2) (pa_cons (pv 4) pa_nil)))))))))), ?_⟩
  obtain ⟨a, b, A, B, R, cp, ce, rfl, hA, hB, eS, eL, pc, hQ⟩ := h
  obtain ⟨wA, dx, pe, pf, pd, h1, h2, h3, h4⟩ := id hA
  have wB := hB.1
  have wl := wA.l2
  have ws : A.S ≤ 49152 := Nat.le_trans wA.sn wA.n1
  have gA : ∀ {G : Hp}, Same H G → G a = some (.ins (NetC K) dx (fsN A pe pf pd)) := fun s => s _ _ h1
  dsimp only [tSeq, tIfS, tOr, tAnd, tNot, tB, tTest, tCB, tCons, tNil, tNext, tAsg, tRet, tDrop, tDo, gName]
  -- pairs
  refine tlcRM (R := rPr K) (n := A.S) (fun R h => ⟨_, rfl, a, _, dx, _, _, rfl, h1, T.cl, T.noa 0 "states" rfl, rfl, h⟩) (by omega) (diag A.S) (diag_len _) (fun D hD i G hi sG hG => ?_) (fun d1 hd1 G1 s1 l1 => ?_)
  · refine ⟨rfl, ⟨_, rfl, _, rfl, (sz1000 (n := 2) (by decide) : 2 ≤ sizeLine), fun t ht => ?_⟩⟩
    have st := same_new (o := .tup [.int (i : Nat), .int (i : Nat)]) ht
    obtain ⟨rs, r1, r2, r3⟩ := hG.app (t := t) (e := (i, i)) (ko_pr K).stb st (SqT.of upd_same)
    refine ⟨_, r1, ?_, same_put (sG.trans st) hD, ?_⟩
    · rw [r2, List.length_take, diag_len]
      exact line_lt (by omega)
    · rw [take_snoc (diag_get hi)]
      exact r3
  obtain ⟨qs, g1, g2⟩ := id l1
  refine ⟨_, rfl, d1, rfl, ⟨_, SqL.of g1⟩, fun d2 G2 hd2 n2 => ?_⟩
  refine walkL (xs := qs.map V.ref) (fun i G => Same G1 G ∧ ND P w K G d2 (numK kPr ((diag A.S).take i))) ⟨same_nput (Same.refl _) hd2 n2, n2.1⟩ (fun i G z => z.1.seq (SqL.of g1)) (fun i v G hv ⟨sG, nG⟩ => ?_) (fun G3 ⟨s3, n3⟩ => ?_)
  · obtain ⟨q, e, rfl, he, hq⟩ := pr_get g2 hv
    have lt : i < A.S := by
      have := (List.getElem?_eq_some_iff.mp he).1
      rw [diag_len] at this
      exact this
    rw [diag_get lt] at he
    cases he
    have hq' := Same.tup sG hq
    have len : ((diag A.S).take i).length = i := by
      rw [List.length_take, diag_len]
      omega
    refine ⟨rfl, _, rfl, _, rfl, q, _, _, _, rfl, rfl, hq', atI_n (n := 0) rfl rfl, _, kPr (i, i), q, rfl, nG, (ko_pr K).key _ _ _ hq', (ko_pr K).dep _, by rw [numA_len, len]; exact line_lt (by omega), fun Hg np => ⟨same_nput sG hd2 np, ?_⟩⟩
    have np1 := np.1
    have nm : (i, i) ∉ (diag A.S).take i := fun m => by
      obtain ⟨j, hj⟩ := List.mem_iff_getElem?.mp m
      have lj := (List.getElem?_eq_some_iff.mp hj).1
      rw [len] at lj
      rw [List.getElem?_take_of_lt lj, diag_get (by omega)] at hj
      cases hj
      omega
    have := put_num (ko_pr K).inj nm
    rw [len] at this
    rw [take_snoc (diag_get lt), ← this]
    exact np1
  have n3 : ND P w K G3 d2 (numK kPr (diag A.S)) := by
    rw [pr_len g2, List.take_length] at n3
    exact n3
  refine ⟨Nat.zero_le _, fun d3 hd3 => ?_⟩
  have hd2' : H d2 = none := s1.free hd2
  have s03 : Same H G3 := s1.trans s3
  have hd3' : H d3 = none := s03.free hd3
  have l13 : LM (rPr K) G3 d1 (diag A.S) := l1.same (ko_pr K).stb s3
  have n13 : d1 ≠ d3 := by
    obtain ⟨_, z, _⟩ := l13
    exact ne_of_none z hd3
  have n12 : d1 ≠ d2 := lm_nd l13 n3
  have n23 : d2 ≠ d3 := by
    obtain ⟨_, z, _⟩ := id n3
    exact ne_of_none z hd3
  have s34 := same_new (o := .lst []) hd3
  have all3 : ∀ d ∈ [d1, d2, d3], H d = none := fun d hd => by
    simp only [List.mem_cons, List.not_mem_nil, or_false] at hd
    rcases hd with rfl | rfl | rfl <;> assumption
  refine while_by (fun σ G => ∃ (k : Nat) (v6 v7 : Option V) (ps : List (Nat × Nat)) (es : List Tr), σ = [some (.ref a), some (.ref b), some (.ref d1), some (.ref d2), some (.ref d3), some (.int (k : Nat)), v6, v7, none] ∧ Same H G ∧ LM (rPr K) G d1 ps ∧ ND P w K G d2 (numK kPr ps) ∧ LM (rTr K) G d3 es ∧
      ExS (gpE A.E B.E) A.L (diag A.S) R ps es k 0 [] ∧ k ≤ ps.length) (fun σ _ => cp.length - tkn σ 5)
    ⟨0, none, none, diag A.S, [], rfl, s03.trans s34, l13.same (ko_pr K).stb s34, n3.same s34, LM.new d3 G3, ExS.start (diag_nodup _) (fun p hp => by obtain ⟨s, hs, rfl⟩ := List.mem_map.mp hp; exact pc.r0 s (List.mem_range.mp hs)), Nat.zero_le _⟩ (fun σ G hσ => ?_) (fun σ G Q Q' h z => ?_)
  · obtain ⟨k, v6, v7, ps, es, rfl, sG, hL1, hN2, hL3, ex, hT⟩ := hσ
    have lps : ps.length ≤ cp.length := len_of_cover ex.nod fun p hp => pc.cpm p (ex.rch p hp)
    have cpl := pc.cpl
    have cel := pc.cel
    obtain ⟨rs, r1, r2⟩ := id hL1
    refine ⟨_, rfl, _, rfl, d1, _, rfl, .inl (SqL.of r1), _, _, rfl, rfl, _, rfl, iteB (fun c => ?_) fun c => ?_⟩
    · have lt : k < ps.length := by
        rw [pr_len r2] at c
        exact Int.ofNat_lt.mp (of_decide_eq_true c)
      obtain ⟨p, hp⟩ : ∃ p, ps[k]? = some p := ⟨ps[k], by simp [lt]⟩
      dsimp only [tSeq, tIfS, tOr, tAnd, tNot, tB, tTest, tCB, tCons, tNil, tNext, tAsg, tRet, tDrop, tDo, gName]
      refine tforR (n := A.L) (fun R h => ⟨_, rfl, a, _, dx, _, _, rfl, gA sG, T.cl, T.noa 1 "letters" rfl, rfl, h⟩) (by omega)
        (fun l σ G => ∃ (v6 v7 : Option V) (ps : List (Nat × Nat)) (es : List Tr), σ = [some (.ref a), some (.ref b), some (.ref d1), some (.ref d2), some (.ref d3), some (.int (k : Nat)), v6, v7, none] ∧ Same H G ∧ LM (rPr K) G d1 ps ∧ ND P w K G d2 (numK kPr ps) ∧ LM (rTr K) G d3 es ∧
          ExS (gpE A.E B.E) A.L (diag A.S) R ps es k l [] ∧ ps[k]? = some p)
        ⟨v6, v7, ps, es, rfl, sG, hL1, hN2, hL3, ex, hp⟩ (fun l σ G hl hσ => ?_) (fun σ G hσ => ?_)
      · obtain ⟨v6, v7, ps, es, rfl, sG, hL1, hN2, hL3, ex, hp⟩ := hσ
        obtain ⟨rs, r1, r2⟩ := id hL1
        obtain ⟨q, hq1, hq2⟩ := pr_ix r2 hp
        have Rp := ex.rch p (List.mem_of_getElem? hp)
        have gl : (gpE A.E B.E p l).length ≤ 8388606 := by
          have : ((gpE A.E B.E p l).map fun q => (p, l, q)).length ≤ ce.length := len_of_cover (nodup_map_on (fun a _ b _ e => (Prod.mk.inj (Prod.mk.inj e).2).2) (gp_nodup wA wB p l)) fun x hx => by
            obtain ⟨q, hq, rfl⟩ := List.mem_map.mp hx
            exact pc.cem p l q Rp hl hq
          rw [List.length_map] at this
          omega
        refine ⟨_, rfl, _, rfl, _, rfl, _, rfl, d1, _, _, _, rfl, rfl, SqL.of r1, atI_n rfl hq1, _, rfl, a, b, q, A, B, p, l, rfl, hA.same sG, hB.same sG, hq2, by omega, fun dg G5 s5 hdg lmg => ?_⟩
        obtain ⟨us, u1, u2⟩ := id lmg
        have sG5 := sG.trans s5
        have ng : dg ∉ [d1, d2, d3] := fun m => by
          have f1 : G d1 ≠ none := by rw [r1]; exact fun z => nomatch z
          have f2 : G d2 ≠ none := by obtain ⟨_, z, _⟩ := hN2; rw [z]; exact fun z => nomatch z
          have f3 : G d3 ≠ none := by obtain ⟨_, z, _⟩ := hL3; rw [z]; exact fun z => nomatch z
          simp only [List.mem_cons, List.not_mem_nil, or_false] at m
          rcases m with rfl | rfl | rfl
          · exact f1 hdg
          · exact f2 hdg
          · exact f3 hdg
        refine ⟨dg, rfl, ⟨_, SqL.of u1⟩, ?_⟩
        refine for_list (xs := us.map V.ref) (fun j σ G => ∃ (v7 : Option V) (ps : List (Nat × Nat)) (es : List Tr), σ = [some (.ref a), some (.ref b), some (.ref d1), some (.ref d2), some (.ref d3), some (.int (k : Nat)), some (.int (l : Nat)), v7, none] ∧ Same H G ∧ LM (rPr K) G d1 ps ∧ ND P w K G d2 (numK kPr ps) ∧ LM (rTr K) G d3 es ∧
          ExS (gpE A.E B.E) A.L (diag A.S) R ps es k l ((gpE A.E B.E p l).take j) ∧ ps[k]? = some p ∧ G dg = some (.lst (us.map V.ref)) ∧ Paired (rPr K G) us (gpE A.E B.E p l))
          ⟨v7, ps, es, rfl, sG5, hL1.same (ko_pr K).stb s5, hN2.same s5, hL3.same (stb_tr K) s5, by rw [List.take_zero]; exact ex, hp, u1, u2⟩ (fun j σ G _ hσ => ?_) (fun j v σ G hv hσ => ?_) (fun σ G hσ => ?_)
        · obtain ⟨_, _, _, _, _, _, _, _, _, _, z, _⟩ := hσ
          exact SqL.of z
        · obtain ⟨v7, ps, es, rfl, sG, hL1, hN2, hL3, ex, hp, u1, u2⟩ := hσ
          obtain ⟨qe, e, rfl, he, hqe⟩ := pr_get u2 hv
          have em := List.mem_of_getElem? he
          have nin : e ∉ (gpE A.E B.E p l).take j := fun m => by
            obtain ⟨i', hi'⟩ := List.mem_iff_getElem?.mp m
            have lj := (List.getElem?_eq_some_iff.mp hi').1
            rw [List.length_take] at lj
            rw [List.getElem?_take_of_lt (by omega)] at hi'
            have := nodup_at (gp_nodup wA wB p l) hi' he
            omega
          have lps : ps.length ≤ cp.length := len_of_cover ex.nod fun p hp => pc.cpm p (ex.rch p hp)
          have les : es.length ≤ ce.length := ex.es_len pc.cem
          -- the edge, at the end
          have last : ∀ (D : Ends) (ps' : List (Nat × Nat)) (z : Nat) (G' : Hp), Same H G' → LM (rPr K) G' d1 ps' → ND P w K G' d2 (numK kPr ps') → LM (rTr K) G' d3 es → rPr K G' qe e → ps'.Nodup → ps'[z]? = some e → (∀ G2, Same H G2 → SameL [d3] G' G2 → TK1 K G' G2 → LM (rPr K) G2 d1 ps' → ND P w K G2 d2 (numK kPr ps') → LM (rTr K) G2 d3 (es ++ [(k, l, z)]) → D.nx [some (.ref a), some (.ref b), some (.ref d1), some (.ref d2), some (.ref d3), some (.int (k : Nat)), some (.int (l : Nat)), some (.ref qe), none] G2) →
              tDrop (tBM K "list" rAppend (tVar 4) (tCons (tTup (tCons (tVar 5) (tCons (tVar 6) (tCons (tNGet P w K (tVar 3) (tVar 7)) tNil)))) tNil)) D [some (.ref a), some (.ref b), some (.ref d1), some (.ref d2), some (.ref d3), some (.int (k : Nat)), some (.int (l : Nat)), some (.ref qe), none] G' := fun D ps' z G' sG' k1 k2 k3 k4 nd' hz hD =>
            edge_app (ko_pr K) rfl rfl rfl rfl rfl k2 k3 k4 nd' hz (by omega) fun G2 w1 w2 w3 => hD G2 (SameL.to sG' w1 fun d hd => all3 d (by simp only [List.mem_singleton] at hd; simp [hd])) w1 w2 (k1.keep (ko_pr K).stb w2 w1 (by simpa using n13)) (k2.keepL w2 w1 (by simpa using n23)) w3
          refine seen_if (ko_pr K) rfl rfl rfl hL1 hN2 hqe ex.nod (by omega) (fun z hz => ?_) (fun nm G1 z1 z2 z3 z4 => ?_)
          · refine last _ ps z G sG hL1 hN2 hL3 hqe ex.nod hz fun G2 w0 w1 w2 w3 w4 w5 => ⟨_, ps, _, rfl, w0, w3, w4, w5, ?_, hp, ?_, ?_⟩
            · rw [take_snoc he]
              exact ex.old hp hl em nin hz
            · exact w1 _ _ (fun m => ng (by simp only [List.mem_singleton] at m; simp [m])) u1
            · exact Paired.imp (fun _ _ r => w2 _ _ r) u2
          · have nx := ex.new hp hl em (pc.rs p l e Rp hl em) nm
            refine last _ (ps ++ [e]) ps.length G1 (SameL.to sG z1 fun d hd => all3 d (by simp only [List.mem_cons, List.not_mem_nil, or_false] at hd ⊢; exact hd.elim .inl fun z => .inr (.inl z))) z3 z4 (hL3.keep (stb_tr K) z2 z1 (by simp [Ne.symm n13, Ne.symm n23])) (z2 _ _ hqe) nx.nod snoc_last fun G2 w0 w1 w2 w3 w4 w5 => ⟨_, _, _, rfl, w0, w3, w4, w5, ?_, snoc_get hp, ?_, ?_⟩
            · rw [take_snoc he]
              exact nx
            · exact w1 _ _ (fun m => ng (by simp only [List.mem_singleton] at m; simp [m])) (z1 _ _ (fun m => ng (by simp only [List.mem_cons, List.not_mem_nil, or_false] at m ⊢; exact m.elim .inl fun z => .inr (.inl z))) u1)
            · exact Paired.imp (fun _ _ r => w2 _ _ (z2 _ _ r)) u2
        · obtain ⟨v7, ps, es, rfl, sG, hL1, hN2, hL3, ex, hp, u1, u2⟩ := hσ
          rw [pr_len u2, List.take_length] at ex
          exact ⟨_, v7, ps, es, rfl, sG, hL1, hN2, hL3, ex.letter hp, hp⟩
      · obtain ⟨v6, v7, ps', es', rfl, sG', hL1', hN2', hL3', ex', hp'⟩ := hσ
        have lps' : ps'.length ≤ cp.length := len_of_cover ex'.nod fun p hp => pc.cpm p (ex'.rch p hp)
        have lt' := (List.getElem?_eq_some_iff.mp hp').1
        refine ⟨_, rfl, _, _, rfl, rfl, ⟨k + 1, v6, v7, ps', es', ?_, sG', hL1', hN2', hL3', ex'.number, lt'⟩, ?_⟩
        · rw [Int.natCast_add]
          rfl
        · show cp.length - ((k : Int) + 1).toNat < cp.length - ((k : Int)).toNat
          omega
    · have ge : k = ps.length := by
        rw [pr_len r2] at c
        have := of_decide_eq_false c
        omega
      subst ge
      exact ⟨_, rfl, _, rfl, (sz1000 (n := 2) (by decide) : 2 ≤ sizeLine), fun q hq => hQ q d1 d3 _ ps es (sG.trans (same_new hq)) (SqT.of upd_same) (hL1.same (ko_pr K).stb (same_new hq)) (hL3.same (stb_tr K) (same_new hq)) ex.full (by omega) (Nat.le_trans (ex.es_len pc.cem) cel)⟩
  · obtain ⟨v, h1, v2, h2, p, ys, h3, h4, i, j, h5, h6, k, h7, h8⟩ := z
    exact ⟨v, h1, v2, h2, p, ys, h3, h4, i, j, h5, h6, k, h7, h _ _ h8⟩
end
end K23
/-! K23Wg -/
set_option Elab.async false
set_option linter.all false
set_option maxRecDepth 100000
set_option maxHeartbeats 4000000
namespace K23
open PySem PySem.Spec PyProof.Rows L2
section
variable {P : Program} {w : World} {K : PySem.W.Frag} {mg : Str → Option Value} {base : Heap}
theorem PlainOf.S {N M : Net} (h : PlainOf N M) : M.S = N.S := h.elim (fun z => by rw [z.2]) fun z => z.2.1
theorem PlainOf.L {N M : Net} (h : PlainOf N M) : M.L = N.L := h.elim (fun z => by rw [z.2]) fun z => z.2.2.1
theorem in_nV {K : PySem.W.Frag} {G : Hp} {p : Addr} {F : List Nat} {x : Nat} {Q : VK} (h : SqT K G p (nV F)) (q : Q (.bl (decide (x ∈ F))) G) : rIn K false (.int (x : Nat)) (.ref p) G Q := ⟨p, _, rfl, .inr h, rfl, flatV_nV _, qbl (Q := Q) (inV_nV x F) q⟩
theorem nin_nV {K : PySem.W.Frag} {G : Hp} {p : Addr} {F : List Nat} {x : Nat} {Q : VK} (h : SqT K G p (nV F)) (q : Q (.bl (!decide (x ∈ F))) G) : rIn K true (.int (x : Nat)) (.ref p) G Q := ⟨p, _, rfl, .inr h, rfl, flatV_nV _, qbl (Q := Q) (by rw [← inV_nV x F]; rfl) q⟩
def RchB (A B : Net) (p : Nat × Nat) : Prop := ∃ s wd, s < A.S ∧ (∀ l ∈ wd, l < A.L) ∧ p.1 ∈ runE A.E [s] wd ∧ p.2 ∈ runE B.E [s] wd
def BothPre (A B : Net) : Prop := A.S = B.S ∧ A.L = B.L ∧ PlainPre A ∧ PlainPre B ∧ ∀ A' B', Wf A' → Wf B' → PlainOf A A' → PlainOf B B' → ∃ R cp ce, R = RchB A' B' ∧ PCov A' B' R cp ce
def endsB (A B : Net) (p : Nat × Nat) : Bool := decide (p.1 ∈ A.F) && decide (p.2 ∈ B.F)
def BothOf (A B M : Net) : Prop := ∃ A' B' R ps es, R = RchB A' B' ∧ Wf A' ∧ Wf B' ∧ PlainOf A A' ∧ PlainOf B B' ∧ Full (gpE A'.E B'.E) A'.L (diag A'.S) R ps es ∧ ps.length ≤ 49152 ∧ es.length ≤ 8388606 ∧ MadeOf M A'.S A'.L ps.length es (endsA (endsB A' B') 0 ps) ∧ (∃ cp ce, PCov A' B' R cp ce)
def sp_both (P : Program) (w : World) (K : PySem.W.Frag) : SpN := fun vs H Q => ∃ a b A B, vs = [.ref a, .ref b] ∧ NetAt P w K H a A ∧ NetAt P w K H b B ∧ BothPre A B ∧ ∀ p H' M, Same H H' → NetAt P w K H' p M → BothOf A B M → Q (.ref p) H'
theorem len_both : ∀ vs H Q, sp_both P w K vs H Q → vs.length = 2 := fun _ _ _ ⟨_, _, _, _, e, _⟩ => by subst e; rfl
theorem Full.len {α : Type} {evs : α → Nat → List α} {L : Nat} {st ps : List α} {R : α → Prop} {es : List Tr} (h : Full evs L st R ps es) : st.length ≤ ps.length := by
  obtain ⟨r, e⟩ := h.pre
  rw [e, List.length_append]
  omega
theorem Full.rng {α : Type} {evs : α → Nat → List α} {L : Nat} {st ps : List α} {R : α → Prop} {es : List Tr} (h : Full evs L st R ps es) : ∀ e ∈ es, e.1 < ps.length ∧ e.2.1 < L ∧ e.2.2 < ps.length := fun e he => by
  obtain ⟨p, q, h1, h2, h3, h4⟩ := (h.eb e.1 e.2.1 e.2.2).mp he
  exact ⟨(List.getElem?_eq_some_iff.mp h1).1, h2, (List.getElem?_eq_some_iff.mp h4).1⟩
theorem endsA_lt {α : Type} {f : α → Bool} {ps : List α} : ∀ i ∈ endsA f 0 ps, i < ps.length := fun i hi => by
  obtain ⟨j, p, e, h, _⟩ := mem_endsA.mp hi
  have := (List.getElem?_eq_some_iff.mp h).1
  omega
theorem sc_both : FnScope ["a", "b", "first", "second", "pairs", "edges", "ends", "index", "pair"] ["a", "b"] (defScope s_both) := ⟨rfl, rfl, rfl, by decide +kernel, rfl, by decide +kernel, by decide +kernel⟩
/- slots: 0 a, 1 b, 2 first, 3 second, 4 pairs, 5 edges, 6 ends, 7 index, 8 pair -/
theorem ok_both (T : Tb K mg) (c_need_alike : Cal P w K mg base (He.ga K "need_alike") 1 ["a", "b"] (sp_need_alike P w K)) (c_plain : Cal P w K mg base (He.ga K "plain") 4 ["net"] (sp_plain P w K)) (c_paired : Cal P w K mg base (He.ga K "paired") 3 ["a", "b"] (sp_paired P w K)) (c_Net_init : Cal P w K mg base (He.ma K (NetC K) "__init__") 2 ["self", "states", "letters", "nodes", "edges", "ends"] (sp_Net_init P w K)) : Cal P w K mg base (He.ga K "both") 5 ["a", "b"] (sp_both P w K) := by
  obtain ⟨fd, F⟩ := T.dfs 12 d_both rfl
  refine cal_of (N := ["a", "b", "first", "second", "pairs", "edges", "ends", "index", "pair"]) F sc_both (F.bindsN fun _ _ _ _ _ _ us hl => match us, hl with | [_, _], _ => rfl) (len_both) fun cdv A outer s H vs Q E hr h => ?_
  refine ⟨(tSeq (tDrop (tDo (sp_need_alike P w K) (tCons (tVar 0) (tCons (tVar 1) tNil)))) (tSeq (tAsg (tDo (sp_plain P w K) (tCons (tVar 0) tNil)) (gName 2)) (tSeq (tAsg (tDo (sp_plain P w K) (tCons (tVar 1) tNil)) (gName 3)) (tSeq (tAsg (tDo (sp_paired P w K) (tCons (tVar 2) (tCons (tVar 3) tNil))) (gTup K 2 (gCons (gName 4) (gCons (gName 5) gNil)))) (tSeq (tAsg (tLc (iEnum K (tCons (tVar 4) tNil)) (gTup K 2 (gCons (gName 7) (gCons (gName 8) gNil))) (tAnd (tTest (tOp (rIn K false) (tOp (rIxT K) (tVar 8) (tC (.int 0))) (tFld K (tVar 2) "ends"))) (tTest (tOp (rIn K false) (tOp (rIxT K) (tVar 8) (tC (.int 1))) (tFld K (tVar 3) "ends")))) (tVar 7) [7, 8]) (gName 6)) (tRet (tMk K (sp_Net_init P w K) (tCons (tFld K (tVar 2) "states") (tCons (tFld K (tVar 2) "letters") (tCons (tCB (rLen2 K) (tCons (tVar 4) tNil)) (tCons (tVar 5) (tCons (tVar 6) tNil)))))))))))), (pss_cons (ps_expr (pcal c_need_alike (hr.mono (by decide)) (T.glo 2 "need_alike" rfl) (pa_cons (pv 0) (pa_cons (pv 1) pa_nil)))) (pss_cons (ps_set (i := 2) sc_both.nd rfl (by first | exact Or.inl rfl | exact Or.inr rfl) (pcal c_plain (hr.mono (by decide)) (T.glo 1 "plain" rfl) (pa_cons (pv 0) pa_nil))) (pss_cons (ps_set (i := 3) sc_both.nd rfl (by first | exact Or.inl rfl | exact Or.inr rfl) (pcal c_plain (hr.mono (by decide)) (T.glo 1 "plain" rfl) (pa_cons (pv 1) pa_nil))) (pss_cons (ps_asg (pcal c_paired (hr.mono (by decide)) (T.glo 6 "paired" rfl) (pa_cons (pv 2) (pa_cons (pv 3) pa_nil))) (pg_tup rfl (pgs_cons (pg_name (i := 4) sc_both.nd rfl (by first | exact Or.inl rfl | exact Or.inr rfl)) (pgs_cons (pg_name (i := 5) sc_both.nd rfl (by first | exact Or.inl rfl | exact Or.inr rfl)) pgs_nil)))) (pss_cons (ps_setLc (i := 6) (own := [("index", 7), ("pair", 8)]) (g := (gTup K 2 (gCons (gName 7) (gCons (gName 8) gNil)))) (tt := (tAnd (tTest (tOp (rIn K false) (tOp (rIxT K) (tVar 8) (tC (.int 0))) (tFld K (tVar 2) "ends"))) (tTest (tOp (rIn K false) (tOp (rIxT K) (tVar 8) (tC (.int 1))) (tFld K (tVar 3) "ends"))))) (te := (tVar 7)) rfl sc_both.nd rfl rfl (sw_true rfl rfl rfl (by decide +kernel)) (pi_enum (by rfl) (T.fre 12 "enumerate" rfl) (pa_cons (pv 4) pa_nil)) (blkOk_by (N := ["a", "b", "first", "second", "pairs", "edges", "ends", "index", "pair"]) (sc := defScope s_both) (by decide +kernel)) (fun _ _ _ _ _ => (pg_tup rfl (pgs_cons (pg_name (i := 7) sc_both.nd rfl (by first | exact Or.inl rfl | exact Or.inr rfl)) (pgs_cons (pg_name (i := 8) sc_both.nd rfl (by first | exact Or.inl rfl | exact Or.inr rfl)) pgs_nil)))) (fun _ _ _ _ _ => (pts_one ((pw_and (pt_cmpR op_in_seq (pe_ix ix_tup (pv 8) pe_int (fun _ _ => rfl)) (pfld rfl (pv 2)) (by with_unfolding_all rfl)) (pw_and1 (pt_cmpR op_in_seq (pe_ix ix_tup (pv 8) pe_int (fun _ _ => rfl)) (pfld rfl (pv 3)) (by with_unfolding_all rfl))))).pt)) (fun _ _ _ _ _ => (pv 7))) (pss_one (ps_ret (pmak rfl T.mkr c_Net_init (hr.mono (by decide)) (T.glo 39 "Net" rfl) (pa_cons (pfld rfl (pv 2)) (pa_cons (pfld rfl (pv 2)) (pa_cons (pe_callB call_len2 (by rfl) (T.fre 0 "len" rfl) kb_len (pa_cons (pv 4) pa_nil)) (pa_cons (pv 5) (pa_cons (pv 6) pa_nil))))))))))))), ?_⟩
  obtain ⟨a, b, A, B, rfl, hA, hB, ⟨e1, e2, preA, preB, pre⟩, hQ⟩ := h
  refine ⟨_, rfl, _, rfl, a, b, A, B, rfl, hA, hB, e1, e2, ?_⟩
  refine ⟨_, rfl, a, A, rfl, hA, preA, fun a' H1 A' s1 hA' pA => ?_⟩
  refine ⟨_, rfl, b, B, rfl, hB.same s1, preB, fun b' H2 B' s2 hB' pB => ?_⟩
  have hA2 := hA'.same s2
  obtain ⟨R, cp, ce, eR, pc⟩ := pre A' B' hA'.1 hB'.1 pA pB
  have s12 := s1.trans s2
  refine ⟨_, rfl, _, rfl, a', b', A', B', R, cp, ce, rfl, hA2, hB', by rw [pA.S, pB.S, e1], by rw [pA.L, pB.L, e2], pc, fun q d1 d2 H3 ps es s3 hq l1 l2 full lp le => ?_⟩
  refine ⟨q, _, rfl, hq, rfl, _, _, rfl, _, _, rfl, rfl, ?_⟩
  obtain ⟨wA, dx, pe, pf, pd, h1, h2, h3, h4⟩ := id (hA2.same s3)
  obtain ⟨wB, dy, qe, qf, qd, k1, k2, k3, k4⟩ := id (hB'.same s3)
  have gA : ∀ {G : Hp}, Same H3 G → G a' = some (.ins (NetC K) dx (fsN A' pe pf pd)) := fun s => s _ _ h1
  have gB : ∀ {G : Hp}, Same H3 G → G b' = some (.ins (NetC K) dy (fsN B' qe qf qd)) := fun s => s _ _ k1
  dsimp only [tSeq, tIfS, tOr, tAnd, tNot, tB, tTest, tCB, tCons, tNil, tNext, tAsg, tRet, tDrop, tDo, gName]
  refine tlcE (ko_pr K).stb (endsB A' B') (fun R h => ⟨_, rfl, h⟩) l1 (by omega) (fun _ _ => rfl) (fun _ _ => rfl) (fun i q e G Q' he sG hq hQ' => ?_) (fun d3 G sG hd3 hG3 => ?_)
  · refine ⟨_, rfl, q, _, _, _, rfl, rfl, hq, atI_n (n := 0) rfl rfl, _, rfl, a', _, dx, _, _, rfl, gA sG, T.cl, T.noa 4 "ends" rfl, rfl, in_nV (Same.tup sG h3) ⟨_, rfl, ?_⟩⟩
    refine iteB (fun c => ?_) fun c => ?_
    · refine ⟨_, rfl, q, _, _, _, rfl, rfl, hq, atI_n (n := 1) rfl rfl, _, rfl, b', _, dy, _, _, rfl, gB sG, T.cl, T.noa 4 "ends" rfl, rfl, in_nV (Same.tup sG k3) ⟨_, rfl, ?_⟩⟩
      have := hQ' G (Same.refl G)
      unfold endsB at this
      rw [c, Bool.true_and] at this
      exact this
    · have := hQ' G (Same.refl G)
      unfold endsB at this
      rw [c, Bool.false_and] at this
      exact this
  · obtain ⟨rs, r1, r2⟩ := id (l1.same (ko_pr K).stb sG)
    refine ⟨_, rfl, a', _, dx, _, _, rfl, gA sG, T.cl, T.noa 0 "states" rfl, rfl, _, rfl, a', _, dx, _, _, rfl, gA sG, T.cl, T.noa 1 "letters" rfl, rfl, _, rfl, d1, _, rfl, .inl (SqL.of r1), _, rfl, _, rfl, fun x dz hx hdz ne => ?_⟩
    have sm := mk_same (o := .own x) (o' := .ins (NetC K) dz []) hx hdz
    obtain ⟨us, u1, u2⟩ := (l2.same (stb_tr K) sG).same (stb_tr K) sm
    have fl := full.len
    rw [diag_len] at fl
    have el := endsA_len (endsB A' B') ps 0
    refine ⟨x, dz, d2, d3, A'.S, A'.L, ps.length, es, endsA (endsB A' B') 0 ps, by rw [pr_len r2], upd_same, ⟨us, .inl (SqL.of u1), u2⟩, SqL.of (sm _ _ hG3), ⟨wA.s1, wA.l1, wA.l2, fl, lp, full.rng, endsA_lt, le, by omega⟩, fun H' M sx hM hid made => ⟨rfl, hQ x H' M (s12.trans (s3.trans (sG.trans (make_same hx hdz sx)))) hM ⟨A', B', R, ps, es, eR, wA, wB, pA, pB, full, lp, le, made, cp, ce, pc⟩⟩⟩
/-! ### deterministic -/
def sing (S : Nat) : List (List Nat) := (List.range S).map fun s => [s]
theorem sing_len (S : Nat) : (sing S).length = S := by unfold sing; rw [List.length_map, List.length_range]
theorem sing_get {S i : Nat} (h : i < S) : (sing S)[i]? = some [i] := by
  unfold sing
  rw [List.getElem?_map, List.getElem?_range h]
  rfl
theorem sing_nodup (S : Nat) : (sing S).Nodup := nodup_map_on (fun a _ b _ e => (List.cons.inj e).1) List.nodup_range
def mvs (E : List Tr) (g : List Nat) (l : Nat) : List (List Nat) := [mvE E g l]
structure DCov (A : Net) (R : List Nat → Prop) (cp : List (List Nat)) : Prop where
  r0 : ∀ s, s < A.S → R [s]
  rs : ∀ g l, R g → l < A.L → R (mvE A.E g l)
  cpm : ∀ g, R g → g ∈ cp
  cpl : cp.length ≤ 49152
  gl : ∀ g, R g → g.length ≤ 16777215
def RchD (A : Net) (g : List Nat) : Prop := ∃ s wd, s < A.S ∧ (∀ l ∈ wd, l < A.L) ∧ g = runE A.E [s] wd
def DetPre (A : Net) : Prop := PlainPre A ∧ ∀ A', Wf A' → PlainOf A A' → ∃ R cp, R = RchD A' ∧ DCov A' R cp
def DetOf (A M : Net) : Prop := ∃ A' R ps es, R = RchD A' ∧ Wf A' ∧ PlainOf A A' ∧ Full (mvs A'.E) A'.L (sing A'.S) R ps es ∧ ps.length ≤ 49152 ∧ MadeOf M A'.S A'.L ps.length es (endsA (hasE A'.F) 0 ps) ∧ (∃ cp, DCov A' R cp)
def sp_deterministic (P : Program) (w : World) (K : PySem.W.Frag) : SpN := fun vs H Q => ∃ a A, vs = [.ref a] ∧ NetAt P w K H a A ∧ DetPre A ∧ ∀ p H' M, Same H H' → NetAt P w K H' p M → DetOf A M → Q (.ref p) H'
theorem len_deterministic : ∀ vs H Q, sp_deterministic P w K vs H Q → vs.length = 1 := fun _ _ _ ⟨_, _, e, _⟩ => by subst e; rfl
theorem dcov_es {A : Net} {R : List Nat → Prop} {cp : List (List Nat)} (dc : DCov A R cp) (hl : A.L ≤ 2) {ps : List (List Nat)} {es : List Tr} {ev : Nat → Nat → List Nat → Prop} (h : Ex (mvs A.E) A.L (sing A.S) R ps es ev) : es.length ≤ 98304 := by
  have := h.es_len (c := cp.flatMap fun g => (List.range A.L).map fun l => (g, l, mvE A.E g l)) fun g l q hg hl hq => by
    rw [show q = mvE A.E g l from List.mem_singleton.mp hq]
    exact List.mem_flatMap.mpr ⟨g, dc.cpm g hg, List.mem_map.mpr ⟨l, List.mem_range.mpr hl, rfl⟩⟩
  have b := flat_len (fun g => (List.range A.L).map fun l => (g, l, mvE A.E g l)) 2 (fun g => by rw [List.length_map, List.length_range]; exact hl) cp
  have := dc.cpl
  omega
theorem sc_deterministic : FnScope ["net", "flat", "groups", "numbers", "edges", "taken", "letter", "group", "ends", "state", "index"] ["net"] (defScope s_deterministic) := ⟨rfl, rfl, rfl, by decide +kernel, rfl, by decide +kernel, by decide +kernel⟩
/- slots: 0 net, 1 flat, 2 groups, 3 numbers, 4 edges, 5 taken, 6 letter, 7 group, 8 ends, 9 state, 10 index -/
theorem ok_deterministic (T : Tb K mg) (c_plain : Cal P w K mg base (He.ga K "plain") 4 ["net"] (sp_plain P w K)) (c_Net_moved : Cal P w K mg base (He.ma K (NetC K) "moved") 2 ["self", "nodes", "letter"] (sp_Net_moved P w K)) (c_Net_has_end : Cal P w K mg base (He.ma K (NetC K) "has_end") 1 ["self", "nodes"] (sp_Net_has_end P w K)) (c_Net_init : Cal P w K mg base (He.ma K (NetC K) "__init__") 2 ["self", "states", "letters", "nodes", "edges", "ends"] (sp_Net_init P w K)) : Cal P w K mg base (He.ga K "deterministic") 5 ["net"] (sp_deterministic P w K) := by
  obtain ⟨fd, F⟩ := T.dfs 13 d_deterministic rfl
  refine cal_of (N := ["net", "flat", "groups", "numbers", "edges", "taken", "letter", "group", "ends", "state", "index"]) F sc_deterministic (F.bindsN fun _ _ _ _ _ _ us hl => match us, hl with | [_], _ => rfl) (len_deterministic) fun cdv A outer s H vs Q E hr h => ?_
  refine ⟨(tSeq (tAsg (tDo (sp_plain P w K) (tCons (tVar 0) tNil)) (gName 1)) (tSeq (tAsg (tLc (iRng1 (tCons (tFld K (tVar 1) "states") tNil)) (gName 9) tYes (tTup (tCons (tVar 9) tNil)) [9]) (gName 2)) (tSeq (tAsg (tNDc P w K (iList K (tVar 2)) (gName 7) (tVar 7) (tOp (rIxT K) (tVar 7) (tC (.int 0))) [7]) (gName 3)) (tSeq (tAsg (tLst tNil) (gName 4)) (tSeq (tAsg (tC (.int 0)) (gName 5)) (tSeq (tWhile (tTest (tOp rLt (tVar 5) (tCB (rLen2 K) (tCons (tVar 2) tNil)))) (tSeq (tFor (iRng1 (tCons (tFld K (tVar 1) "letters") tNil)) (gName 6) (tSeq (tAsg (tMe K "moved" (sp_Net_moved P w K) (tVar 1) (tCons (tOp (rIxL K) (tVar 2) (tVar 5)) (tCons (tVar 6) tNil))) (gName 7)) (tSeq (tIfS (tB (tNIn P w K true (tVar 7) (tVar 3))) (tSeq (sNPut P w K (tVar 3) (tVar 7) (tCB (rLen2 K) (tCons (tVar 2) tNil))) (tDrop (tBM K "list" rAppend (tVar 2) (tCons (tVar 7) tNil)))) tNext) (tDrop (tBM K "list" rAppend (tVar 4) (tCons (tTup (tCons (tVar 5) (tCons (tVar 6) (tCons (tNGet P w K (tVar 3) (tVar 7)) tNil)))) tNil)))))) (tAug 5 (tC (.int 1)) (ipI fun i j => i + j)))) (tSeq (tAsg (tLc (iEnum K (tCons (tVar 2) tNil)) (gTup K 2 (gCons (gName 10) (gCons (gName 7) gNil))) (tB (tMe K "has_end" (sp_Net_has_end P w K) (tVar 1) (tCons (tVar 7) tNil))) (tVar 10) [10, 7]) (gName 8)) (tRet (tMk K (sp_Net_init P w K) (tCons (tFld K (tVar 1) "states") (tCons (tFld K (tVar 1) "letters") (tCons (tCB (rLen2 K) (tCons (tVar 2) tNil)) (tCons (tVar 4) (tCons (tVar 8) tNil)))))))))))))), (pss_cons (ps_set (i := 1) sc_deterministic.nd rfl (by first | exact Or.inl rfl | exact Or.inr rfl) (pcal c_plain (hr.mono (by decide)) (T.glo 1 "plain" rfl) (pa_cons (pv 0) pa_nil))) (pss_cons (ps_setLc (i := 2) (own := [("state", 9)]) (g := (gName 9)) (tt := tYes) (te := (tTup (tCons (tVar 9) tNil))) rfl sc_deterministic.nd rfl rfl (sw_true rfl rfl rfl (by decide +kernel)) (pi_range1 (by rfl) (T.fre 1 "range" rfl) (pa_cons (pfld rfl (pv 1)) pa_nil)) (blkOk_by (N := ["net", "flat", "groups", "numbers", "edges", "taken", "letter", "group", "ends", "state", "index"]) (sc := defScope s_deterministic) (by decide +kernel)) (fun _ _ _ _ _ => (pg_name (i := 9) sc_deterministic.nd rfl (by first | exact Or.inl rfl | exact Or.inr rfl))) (fun _ _ _ _ _ => pts_nil) (fun _ _ _ _ _ => (pe_tup (pa_cons (pv 9) pa_nil)))) (pss_cons (ps_setNDc (i := 3) (own := [("group", 7)]) (g := (gName 7)) (tk := (tVar 7)) (tv := (tOp (rIxT K) (tVar 7) (tC (.int 0)))) hr.units rfl sc_deterministic.nd rfl rfl (sw_dict rfl rfl rfl (by decide +kernel)) (pi_list (pv 2)) (blkOk_by (N := ["net", "flat", "groups", "numbers", "edges", "taken", "letter", "group", "ends", "state", "index"]) (sc := defScope s_deterministic) (by decide +kernel)) (fun _ _ _ _ _ => (pg_name (i := 7) sc_deterministic.nd rfl (by first | exact Or.inl rfl | exact Or.inr rfl))) (fun _ _ _ _ _ => (pv 7)) (fun _ _ _ _ _ => (pe_ix ix_tup (pv 7) pe_int (fun _ _ => rfl)))) (pss_cons (ps_set (i := 4) sc_deterministic.nd rfl (by first | exact Or.inl rfl | exact Or.inr rfl) (pe_lst pa_nil)) (pss_cons (ps_set (i := 5) sc_deterministic.nd rfl (by first | exact Or.inl rfl | exact Or.inr rfl) pe_int) (pss_cons (ps_while PassesOwn.never (pt_cmpR op_lt (pv 5) (pe_callB call_len2 (by rfl) (T.fre 0 "len" rfl) kb_len (pa_cons (pv 2) pa_nil)) (nomark _)) (pss_cons (ps_for PassesOwn.never rfl (pi_range1 (by rfl) (T.fre 1 "range" rfl) (pa_cons (pfld rfl (pv 1)) pa_nil)) (pg_name (i := 6) sc_deterministic.nd rfl (by first | exact Or.inl rfl | exact Or.inr rfl)) (pss_cons (ps_set (i := 7) sc_deterministic.nd rfl (by first | exact Or.inl rfl | exact Or.inr rfl) (pmet rfl (pv 1) T.cl (T.met 1 "moved" rfl) c_Net_moved (hr.mono (by decide)) (pa_cons (pe_ix ix_list (pv 2) (pv 5) (fun _ _ => rfl)) (pa_cons (pv 6) pa_nil)))) (pss_cons (ps_if (pt_cmp (pc_nnotin hr.units (pv 7) (pv 3)) (by with_unfolding_all rfl)) (pss_cons (ps_nput hr.units (pv 3) (pv 7) (pe_callB call_len2 (by rfl) (T.fre 0 "len" rfl) kb_len (pa_cons (pv 2) pa_nil)) rfl) (pss_one (ps_expr (pe_bm PySem.F.plainAttrs_list PySem.F.slot_list_append PySem.F.type_list_append mt_append (pv 2) (pa_cons (pv 7) pa_nil))))) pss_nil) (pss_one (ps_expr (pe_bm PySem.F.plainAttrs_list PySem.F.slot_list_append PySem.F.type_list_append mt_append (pv 4) (pa_cons (pe_tup (pa_cons (pv 5) (pa_cons (pv 6) (pa_cons (pe_nget hr.units (pv 3) (pv 7) (fun _ _ => rfl)) pa_nil)))) pa_nil))))))) (pss_one (ps_aug (i := 5) sc_deterministic.nd rfl (by first | exact Or.inl rfl | exact Or.inr rfl) pe_int ip_add)))) (pss_cons (ps_setLc (i := 8) (own := [("index", 10), ("group", 7)]) (g := (gTup K 2 (gCons (gName 10) (gCons (gName 7) gNil)))) (tt := (tB (tMe K "has_end" (sp_Net_has_end P w K) (tVar 1) (tCons (tVar 7) tNil)))) (te := (tVar 10)) rfl sc_deterministic.nd rfl rfl (sw_true rfl rfl rfl (by decide +kernel)) (pi_enum (by rfl) (T.fre 12 "enumerate" rfl) (pa_cons (pv 2) pa_nil)) (blkOk_by (N := ["net", "flat", "groups", "numbers", "edges", "taken", "letter", "group", "ends", "state", "index"]) (sc := defScope s_deterministic) (by decide +kernel)) (fun _ _ _ _ _ => (pg_tup rfl (pgs_cons (pg_name (i := 10) sc_deterministic.nd rfl (by first | exact Or.inl rfl | exact Or.inr rfl)) (pgs_cons (pg_name (i := 7) sc_deterministic.nd rfl (by first | exact Or.inl rfl | exact Or.inr rfl)) pgs_nil)))) (fun _ _ _ _ _ => (pts_one (pt_val (pmet rfl (pv 1) T.cl (T.met 2 "has_end" rfl) c_Net_has_end (hr.mono (by decide)) (pa_cons (pv 7) pa_nil)) (by intro _; rfl)))) (fun _ _ _ _ _ => (pv 10))) (pss_one (ps_ret (pmak rfl T.mkr c_Net_init (hr.mono (by decide)) (T.glo 39 "Net" rfl) (pa_cons (pfld rfl (pv 1)) (pa_cons (pfld rfl (pv 1)) (pa_cons (pe_callB call_len2 (by rfl) (T.fre 0 "len" rfl) kb_len (pa_cons (pv 2) pa_nil)) (pa_cons (pv 4) (pa_cons (pv 8) pa_nil))))))))))))))), ?_⟩
  obtain ⟨a0, A0, rfl, hA0, ⟨pre0, pre⟩, hQ⟩ := h
  refine ⟨_, rfl, a0, A0, rfl, hA0, pre0, fun a H1 A s01 hA pA => ?_⟩
  obtain ⟨R, cp, eR, dc⟩ := pre A hA.1 pA
  obtain ⟨wA, dx, pe, pf, pd, h1, h2, h3, h4⟩ := id hA
  have wl := wA.l2
  have ws : A.S ≤ 49152 := Nat.le_trans wA.sn wA.n1
  have cpl := dc.cpl
  have gA : ∀ {G : Hp}, Same H1 G → G a = some (.ins (NetC K) dx (fsN A pe pf pd)) := fun s => s _ _ h1
  dsimp only [tSeq, tIfS, tOr, tAnd, tNot, tB, tTest, tCB, tCons, tNil, tNext, tAsg, tRet, tDrop, tDo, gName]
  refine tlcRM (R := rGr K) (n := A.S) (fun R h => ⟨_, rfl, a, _, dx, _, _, rfl, h1, T.cl, T.noa 0 "states" rfl, rfl, h⟩) (by omega) (sing A.S) (sing_len _) (fun D hD i G hi sG hG => ?_) (fun d1 hd1 G1 s1 l1 => ?_)
  · refine ⟨rfl, ⟨_, rfl, (sz1000 (n := 1) (by decide) : 1 ≤ sizeLine), fun t ht => ?_⟩⟩
    have st := same_new (o := .tup [.int (i : Nat)]) ht
    obtain ⟨rs, r1, r2, r3⟩ := hG.app (t := t) (e := [i]) (ko_gr K).stb st (SqT.of upd_same)
    refine ⟨_, r1, ?_, same_put (sG.trans st) hD, ?_⟩
    · rw [r2, List.length_take, sing_len]
      exact line_lt (by omega)
    · rw [take_snoc (sing_get hi)]
      exact r3
  obtain ⟨qs, g1, g2⟩ := id l1
  refine ⟨_, rfl, d1, rfl, ⟨_, SqL.of g1⟩, fun d2 G2 hd2 n2 => ?_⟩
  refine walkL (xs := qs.map V.ref) (fun i G => Same G1 G ∧ ND P w K G d2 (numK kGr ((sing A.S).take i))) ⟨same_nput (Same.refl _) hd2 n2, n2.1⟩ (fun i G z => z.1.seq (SqL.of g1)) (fun i v G hv ⟨sG, nG⟩ => ?_) (fun G3 ⟨s3, n3⟩ => ?_)
  · obtain ⟨q, e, rfl, he, hq⟩ := pr_get g2 hv
    have lt : i < A.S := by
      have := (List.getElem?_eq_some_iff.mp he).1
      rw [sing_len] at this
      exact this
    rw [sing_get lt] at he
    cases he
    have hq' := Same.tup sG hq
    have len : ((sing A.S).take i).length = i := by
      rw [List.length_take, sing_len]
      omega
    refine ⟨rfl, _, rfl, _, rfl, q, _, _, _, rfl, rfl, hq', atI_n (n := 0) rfl rfl, _, kGr [i], q, rfl, nG, (ko_gr K).key _ _ _ hq', (ko_gr K).dep _, by rw [numA_len, len]; exact line_lt (by omega), fun Hg np => ⟨same_nput sG hd2 np, ?_⟩⟩
    have np1 := np.1
    have nm : [i] ∉ (sing A.S).take i := fun m => by
      obtain ⟨j, hj⟩ := List.mem_iff_getElem?.mp m
      have lj := (List.getElem?_eq_some_iff.mp hj).1
      rw [len] at lj
      rw [List.getElem?_take_of_lt lj, sing_get (by omega)] at hj
      cases hj
      omega
    have := put_num (ko_gr K).inj nm
    rw [len] at this
    rw [take_snoc (sing_get lt), ← this]
    exact np1
  have n3 : ND P w K G3 d2 (numK kGr (sing A.S)) := by
    rw [pr_len g2, List.take_length] at n3
    exact n3
  refine ⟨Nat.zero_le _, fun d3 hd3 => ?_⟩
  have hd2' : H1 d2 = none := s1.free hd2
  have s03 : Same H1 G3 := s1.trans s3
  have hd3' : H1 d3 = none := s03.free hd3
  have l13 : LM (rGr K) G3 d1 (sing A.S) := l1.same (ko_gr K).stb s3
  have n13 : d1 ≠ d3 := by
    obtain ⟨_, z, _⟩ := l13
    exact ne_of_none z hd3
  have n12 : d1 ≠ d2 := lm_nd l13 n3
  have n23 : d2 ≠ d3 := by
    obtain ⟨_, z, _⟩ := id n3
    exact ne_of_none z hd3
  have s34 := same_new (o := .lst []) hd3
  have all3 : ∀ d ∈ [d1, d2, d3], H1 d = none := fun d hd => by
    simp only [List.mem_cons, List.not_mem_nil, or_false] at hd
    rcases hd with rfl | rfl | rfl <;> assumption
  refine while_by (fun σ G => ∃ (k : Nat) (v6 v7 : Option V) (ps : List (List Nat)) (es : List Tr), σ = [some (.ref a0), some (.ref a), some (.ref d1), some (.ref d2), some (.ref d3), some (.int (k : Nat)), v6, v7, none, none, none] ∧ Same H1 G ∧ LM (rGr K) G d1 ps ∧ ND P w K G d2 (numK kGr ps) ∧ LM (rTr K) G d3 es ∧
      ExS (mvs A.E) A.L (sing A.S) R ps es k 0 [] ∧ k ≤ ps.length) (fun σ _ => cp.length - tkn σ 5)
    ⟨0, none, none, sing A.S, [], rfl, s03.trans s34, l13.same (ko_gr K).stb s34, n3.same s34, LM.new d3 G3, ExS.start (sing_nodup _) (fun p hp => by obtain ⟨s, hs, rfl⟩ := List.mem_map.mp hp; exact dc.r0 s (List.mem_range.mp hs)), Nat.zero_le _⟩ (fun σ G hσ => ?_) (fun σ G Q Q' h z => ?_)
  · obtain ⟨k, v6, v7, ps, es, rfl, sG, hL1, hN2, hL3, ex, hT⟩ := hσ
    have lps : ps.length ≤ cp.length := len_of_cover ex.nod fun p hp => dc.cpm p (ex.rch p hp)
    obtain ⟨rs, r1, r2⟩ := id hL1
    refine ⟨_, rfl, _, rfl, d1, _, rfl, .inl (SqL.of r1), _, _, rfl, rfl, _, rfl, iteB (fun c => ?_) fun c => ?_⟩
    · have lt : k < ps.length := by
        rw [pr_len r2] at c
        exact Int.ofNat_lt.mp (of_decide_eq_true c)
      obtain ⟨p, hp⟩ : ∃ p, ps[k]? = some p := ⟨ps[k], by simp [lt]⟩
      dsimp only [tSeq, tIfS, tOr, tAnd, tNot, tB, tTest, tCB, tCons, tNil, tNext, tAsg, tRet, tDrop, tDo, gName]
      refine tforR (n := A.L) (fun R h => ⟨_, rfl, a, _, dx, _, _, rfl, gA sG, T.cl, T.noa 1 "letters" rfl, rfl, h⟩) (by omega)
        (fun l σ G => ∃ (v6 v7 : Option V) (ps : List (List Nat)) (es : List Tr), σ = [some (.ref a0), some (.ref a), some (.ref d1), some (.ref d2), some (.ref d3), some (.int (k : Nat)), v6, v7, none, none, none] ∧ Same H1 G ∧ LM (rGr K) G d1 ps ∧ ND P w K G d2 (numK kGr ps) ∧ LM (rTr K) G d3 es ∧
          ExS (mvs A.E) A.L (sing A.S) R ps es k l [] ∧ ps[k]? = some p)
        ⟨v6, v7, ps, es, rfl, sG, hL1, hN2, hL3, ex, hp⟩ (fun l σ G hl hσ => ?_) (fun σ G hσ => ?_)
      · obtain ⟨v6, v7, ps, es, rfl, sG, hL1, hN2, hL3, ex, hp⟩ := hσ
        obtain ⟨rs, r1, r2⟩ := id hL1
        obtain ⟨q, hq1, hq2⟩ := pr_ix r2 hp
        have Rp := ex.rch p (List.mem_of_getElem? hp)
        have lps : ps.length ≤ cp.length := len_of_cover ex.nod fun p hp => dc.cpm p (ex.rch p hp)
        have les := dcov_es dc wl ex
        refine ⟨_, rfl, a, dx, _, rfl, gA sG, rfl, _, rfl, _, rfl, d1, _, _, _, rfl, rfl, SqL.of r1, atI_n rfl hq1, _, rfl, a, A, q, p, l, rfl, hA.same sG, hq2, fun qe G5 s5 hqe => ?_⟩
        have sG5 := sG.trans s5
        have em : mvE A.E p l ∈ mvs A.E p l := List.mem_singleton.mpr rfl
        have last : ∀ (D : Ends) (ps' : List (List Nat)) (z : Nat) (G' : Hp), Same H1 G' → LM (rGr K) G' d1 ps' → ND P w K G' d2 (numK kGr ps') → LM (rTr K) G' d3 es → rGr K G' qe (mvE A.E p l) → ps'.Nodup → ps'[z]? = some (mvE A.E p l) → (∀ G2, Same H1 G2 → LM (rGr K) G2 d1 ps' → ND P w K G2 d2 (numK kGr ps') → LM (rTr K) G2 d3 (es ++ [(k, l, z)]) → D.nx [some (.ref a0), some (.ref a), some (.ref d1), some (.ref d2), some (.ref d3), some (.int (k : Nat)), some (.int (l : Nat)), some (.ref qe), none, none, none] G2) →
            tDrop (tBM K "list" rAppend (tVar 4) (tCons (tTup (tCons (tVar 5) (tCons (tVar 6) (tCons (tNGet P w K (tVar 3) (tVar 7)) tNil)))) tNil)) D [some (.ref a0), some (.ref a), some (.ref d1), some (.ref d2), some (.ref d3), some (.int (k : Nat)), some (.int (l : Nat)), some (.ref qe), none, none, none] G' := fun D ps' z G' sG' k1 k2 k3 k4 nd' hz hD =>
          edge_app (ko_gr K) rfl rfl rfl rfl rfl k2 k3 k4 nd' hz (by omega) fun G2 w1 w2 w3 => hD G2 (SameL.to sG' w1 fun d hd => all3 d (by simp only [List.mem_singleton] at hd; simp [hd])) (k1.keep (ko_gr K).stb w2 w1 (by simpa using n13)) (k2.keepL w2 w1 (by simpa using n23)) w3
        refine seen_if (ko_gr K) rfl rfl rfl (hL1.same (ko_gr K).stb s5) (hN2.same s5) hqe ex.nod (by omega) (fun z hz => ?_) (fun nm G1 z1 z2 z3 z4 => ?_)
        · refine last _ ps z G5 sG5 (hL1.same (ko_gr K).stb s5) (hN2.same s5) (hL3.same (stb_tr K) s5) hqe ex.nod hz fun G2 w0 w3 w4 w5 => ⟨_, _, ps, _, rfl, w0, w3, w4, w5, ?_, hp⟩
          exact (ex.old hp hl em (fun m => nomatch m) hz).letter hp
        · have nx := ex.new hp hl em (dc.rs p l Rp hl) nm
          refine last _ (ps ++ [mvE A.E p l]) ps.length G1 (SameL.to sG5 z1 fun d hd => all3 d (by simp only [List.mem_cons, List.not_mem_nil, or_false] at hd ⊢; exact hd.elim .inl fun z => .inr (.inl z))) z3 z4 ((hL3.same (stb_tr K) s5).keep (stb_tr K) z2 z1 (by simp [Ne.symm n13, Ne.symm n23])) (z2 _ _ hqe) nx.nod snoc_last fun G2 w0 w3 w4 w5 => ⟨_, _, _, _, rfl, w0, w3, w4, w5, ?_, snoc_get hp⟩
          exact nx.letter (snoc_get hp)
      · obtain ⟨v6, v7, ps', es', rfl, sG', hL1', hN2', hL3', ex', hp'⟩ := hσ
        have lps' : ps'.length ≤ cp.length := len_of_cover ex'.nod fun p hp => dc.cpm p (ex'.rch p hp)
        have lt' := (List.getElem?_eq_some_iff.mp hp').1
        refine ⟨_, rfl, _, _, rfl, rfl, ⟨k + 1, v6, v7, ps', es', ?_, sG', hL1', hN2', hL3', ex'.number, lt'⟩, ?_⟩
        · rw [Int.natCast_add]
          rfl
        · show cp.length - ((k : Int) + 1).toNat < cp.length - ((k : Int)).toNat
          omega
    · have ge : k = ps.length := by
        rw [pr_len r2] at c
        have := of_decide_eq_false c
        omega
      subst ge
      have full := ex.full
      have les := dcov_es dc wl ex
      dsimp only [tSeq, tIfS, tOr, tAnd, tNot, tB, tTest, tCB, tCons, tNil, tNext, tAsg, tRet, tDrop, tDo, gName]
      refine tlcE (ko_gr K).stb (hasE A.F) (fun R h => ⟨_, rfl, h⟩) hL1 (by omega) (fun _ _ => rfl) (fun _ _ => rfl) (fun i q e G2 Q' he sG2 hq hQ' => ?_) (fun d4 G4 sG4 hd4 hG4 => ?_)
      · exact ⟨_, rfl, a, dx, _, rfl, gA (sG.trans sG2), rfl, _, rfl, a, A, q, e, rfl, hA.same (sG.trans sG2), hq, dc.gl e (ex.rch e (List.mem_of_getElem? he)), fun G5 s5 => ⟨_, rfl, hQ' G5 s5⟩⟩
      · obtain ⟨rs, r1, r2⟩ := id (hL1.same (ko_gr K).stb sG4)
        have s14 := sG.trans sG4
        refine ⟨_, rfl, a, _, dx, _, _, rfl, gA s14, T.cl, T.noa 0 "states" rfl, rfl, _, rfl, a, _, dx, _, _, rfl, gA s14, T.cl, T.noa 1 "letters" rfl, rfl, _, rfl, d1, _, rfl, .inl (SqL.of r1), _, rfl, _, rfl, fun x dz hx hdz ne => ?_⟩
        have sm := mk_same (o := .own x) (o' := .ins (NetC K) dz []) hx hdz
        obtain ⟨us, u1, u2⟩ := (hL3.same (stb_tr K) sG4).same (stb_tr K) sm
        have fl := full.len
        rw [sing_len] at fl
        have el := endsA_len (hasE A.F) ps 0
        refine ⟨x, dz, d3, d4, A.S, A.L, ps.length, es, endsA (hasE A.F) 0 ps, by rw [pr_len r2], upd_same, ⟨us, .inl (SqL.of u1), u2⟩, SqL.of (sm _ _ hG4), ⟨wA.s1, wA.l1, wA.l2, fl, by omega, full.rng, endsA_lt, by omega, by omega⟩, fun H' M sx hM hid made => ⟨rfl, hQ x H' M (s01.trans (s14.trans (make_same hx hdz sx))) hM ⟨A, R, ps, es, eR, wA, pA, full, by omega, made, cp, dc⟩⟩⟩
  · obtain ⟨v, h1, v2, h2, p, ys, h3, h4, i, j, h5, h6, k, h7, h8⟩ := z
    exact ⟨v, h1, v2, h2, p, ys, h3, h4, i, j, h5, h6, k, h7, h _ _ h8⟩
end
end K23
/-! K23Wh -/
set_option Elab.async false
set_option linter.all false
set_option maxRecDepth 100000
set_option maxHeartbeats 4000000
namespace K23
open PySem PySem.Spec PyProof.Rows L2
section
variable {P : Program} {w : World} {K : PySem.W.Frag} {mg : Str → Option Value} {base : Heap}
def othF (D : Net) : List Nat := (List.range D.n).filter fun x => !decide (x ∈ D.F)
def OtherOf (A M : Net) : Prop := ∃ D, Wf D ∧ DetOf A D ∧ MadeOf M D.S D.L D.n D.E (othF D)
def sp_other (P : Program) (w : World) (K : PySem.W.Frag) : SpN := fun vs H Q => ∃ a A, vs = [.ref a] ∧ NetAt P w K H a A ∧ DetPre A ∧ ∀ p H' M, Same H H' → NetAt P w K H' p M → OtherOf A M → Q (.ref p) H'
theorem len_other : ∀ vs H Q, sp_other P w K vs H Q → vs.length = 1 := fun _ _ _ ⟨_, _, e, _⟩ => by subst e; rfl
theorem oth_snoc (F : List Nat) (i : Nat) : (List.range (i + 1)).filter (fun x => !decide (x ∈ F)) = (List.range i).filter (fun x => !decide (x ∈ F)) ++ (if (!decide (i ∈ F)) = true then [i] else []) := by
  rw [List.range_succ, List.filter_append]
  congr 1
  by_cases h : i ∈ F <;> simp [h]
theorem sc_other : FnScope ["net", "fixed", "ends", "node"] ["net"] (defScope s_other) := ⟨rfl, rfl, rfl, by decide +kernel, rfl, by decide +kernel, by decide +kernel⟩
/- slots: 0 net, 1 fixed, 2 ends, 3 node -/
theorem ok_other (T : Tb K mg) (c_deterministic : Cal P w K mg base (He.ga K "deterministic") 5 ["net"] (sp_deterministic P w K)) (c_Net_init : Cal P w K mg base (He.ma K (NetC K) "__init__") 2 ["self", "states", "letters", "nodes", "edges", "ends"] (sp_Net_init P w K)) : Cal P w K mg base (He.ga K "other") 6 ["net"] (sp_other P w K) := by
  obtain ⟨fd, F⟩ := T.dfs 14 d_other rfl
  refine cal_of (N := ["net", "fixed", "ends", "node"]) F sc_other (F.bindsN fun _ _ _ _ _ _ us hl => match us, hl with | [_], _ => rfl) (len_other) fun cdv A outer s H vs Q E hr h => ?_
  refine ⟨(tSeq (tAsg (tDo (sp_deterministic P w K) (tCons (tVar 0) tNil)) (gName 1)) (tSeq (tAsg (tLc (iRng1 (tCons (tFld K (tVar 1) "nodes") tNil)) (gName 3) (tTest (tOp (rIn K true) (tVar 3) (tFld K (tVar 1) "ends"))) (tVar 3) [3]) (gName 2)) (tRet (tMk K (sp_Net_init P w K) (tCons (tFld K (tVar 1) "states") (tCons (tFld K (tVar 1) "letters") (tCons (tFld K (tVar 1) "nodes") (tCons (tFld K (tVar 1) "edges") (tCons (tVar 2) tNil))))))))), (pss_cons (ps_set (i := 1) sc_other.nd rfl (by first | exact Or.inl rfl | exact Or.inr rfl) (pcal c_deterministic (hr.mono (by decide)) (T.glo 8 "deterministic" rfl) (pa_cons (pv 0) pa_nil))) (pss_cons (ps_setLc (i := 2) (own := [("node", 3)]) (g := (gName 3)) (tt := (tTest (tOp (rIn K true) (tVar 3) (tFld K (tVar 1) "ends")))) (te := (tVar 3)) rfl sc_other.nd rfl rfl (sw_true rfl rfl rfl (by decide +kernel)) (pi_range1 (by rfl) (T.fre 1 "range" rfl) (pa_cons (pfld rfl (pv 1)) pa_nil)) (blkOk_by (N := ["net", "fixed", "ends", "node"]) (sc := defScope s_other) (by decide +kernel)) (fun _ _ _ _ _ => (pg_name (i := 3) sc_other.nd rfl (by first | exact Or.inl rfl | exact Or.inr rfl))) (fun _ _ _ _ _ => (pts_one (pt_cmpR op_notIn_seq (pv 3) (pfld rfl (pv 1)) (by with_unfolding_all rfl)))) (fun _ _ _ _ _ => (pv 3))) (pss_one (ps_ret (pmak rfl T.mkr c_Net_init (hr.mono (by decide)) (T.glo 39 "Net" rfl) (pa_cons (pfld rfl (pv 1)) (pa_cons (pfld rfl (pv 1)) (pa_cons (pfld rfl (pv 1)) (pa_cons (pfld rfl (pv 1)) (pa_cons (pv 2) pa_nil)))))))))), ?_⟩
  obtain ⟨a0, A, rfl, hA, pre, hQ⟩ := h
  refine ⟨_, rfl, a0, A, rfl, hA, pre, fun a H1 D s1 hD dof => ?_⟩
  obtain ⟨wD, dx, pe, pf, pd, h1, ⟨ps, h2, h2'⟩, h3, h4⟩ := id hD
  have n1 := wD.n1
  have gD : ∀ {G : Hp}, Same H1 G → G a = some (.ins (NetC K) dx (fsN D pe pf pd)) := fun s => s _ _ h1
  dsimp only [tSeq, tIfS, tOr, tAnd, tNot, tB, tTest, tCB, tCons, tNil, tNext, tAsg, tRet, tDrop, tDo, gName]
  refine tlcR (n := D.n) (fun R h => ⟨_, rfl, a, _, dx, _, _, rfl, h1, T.cl, T.noa 2 "nodes" rfl, rfl, h⟩) (by omega) (fun i => nV ((List.range i).filter fun x => !decide (x ∈ D.F))) rfl (fun L hL i G hi sG hG => ?_) (fun L hL G sG hG => ?_)
  · refine ⟨rfl, ⟨_, rfl, _, rfl, a, _, dx, _, _, rfl, gD sG, T.cl, T.noa 4 "ends" rfl, rfl, nin_nV (Same.tup sG h3) ⟨_, rfl, iteB (fun c => ?_) fun c => ?_⟩⟩⟩
    · refine ⟨_, rfl, _, hG, ?_, same_put sG hL, ?_⟩
      · have b := List.length_filter_le (fun x => !decide (x ∈ D.F)) (List.range i)
        rw [List.length_range] at b
        rw [nV_len]
        exact line_lt (by omega)
      · show nV _ ++ [V.int (i : Nat)] = nV ((List.range (i + 1)).filter fun x => !decide (x ∈ D.F))
        rw [oth_snoc, if_pos c]
        exact nV_snoc _ _
    · refine ⟨sG, ?_⟩
      show G L = some (.lst (nV ((List.range (i + 1)).filter fun x => !decide (x ∈ D.F))))
      rw [oth_snoc, c, if_neg (by decide), List.append_nil]
      exact hG
  · refine ⟨_, rfl, a, _, dx, _, _, rfl, gD sG, T.cl, T.noa 0 "states" rfl, rfl, _, rfl, a, _, dx, _, _, rfl, gD sG, T.cl, T.noa 1 "letters" rfl, rfl, _, rfl, a, _, dx, _, _, rfl, gD sG, T.cl, T.noa 2 "nodes" rfl, rfl,
      _, rfl, a, _, dx, _, _, rfl, gD sG, T.cl, T.noa 3 "edges" rfl, rfl, _, rfl, fun x dz hx hdz ne => ?_⟩
    have sm := mk_same (o := .own x) (o' := .ins (NetC K) dz []) hx hdz
    have sH := sG.trans sm
    have b := List.length_filter_le (fun x => !decide (x ∈ D.F)) (List.range D.n)
    rw [List.length_range] at b
    refine ⟨x, dz, pe, L, D.S, D.L, D.n, D.E, othF D, rfl, upd_same, ⟨ps, .inr (Same.tup sH h2), trs_same sH h2'⟩, SqL.of (sm _ _ hG), ⟨wD.s1, wD.l1, wD.l2, wD.sn, wD.n1, wD.ef, fun f hf => List.mem_range.mp (List.mem_filter.mp hf).1, wD.en, ?_⟩,
      fun H' M sx hM hid made => ⟨rfl, hQ x H' M (s1.trans (sG.trans (make_same hx hdz sx))) hM ⟨D, wD, dof, made⟩⟩⟩
    unfold othF
    omega
/-! ### minus -/
def MinusPre (A B : Net) : Prop := A.S = B.S ∧ A.L = B.L ∧ DetPre B ∧ ∀ O, Wf O → OtherOf B O → BothPre A O
def MinusOf (A B M : Net) : Prop := ∃ O, Wf O ∧ OtherOf B O ∧ BothOf A O M
def sp_minus (P : Program) (w : World) (K : PySem.W.Frag) : SpN := fun vs H Q => ∃ a b A B, vs = [.ref a, .ref b] ∧ NetAt P w K H a A ∧ NetAt P w K H b B ∧ MinusPre A B ∧ ∀ p H' M, Same H H' → NetAt P w K H' p M → MinusOf A B M → Q (.ref p) H'
theorem len_minus : ∀ vs H Q, sp_minus P w K vs H Q → vs.length = 2 := fun _ _ _ ⟨_, _, _, _, e, _⟩ => by subst e; rfl
theorem sc_minus : FnScope ["a", "b"] ["a", "b"] (defScope s_minus) := ⟨rfl, rfl, rfl, by decide +kernel, rfl, by decide +kernel, by decide +kernel⟩
/- slots: 0 a, 1 b -/
theorem ok_minus (T : Tb K mg) (c_need_alike : Cal P w K mg base (He.ga K "need_alike") 1 ["a", "b"] (sp_need_alike P w K)) (c_other : Cal P w K mg base (He.ga K "other") 6 ["net"] (sp_other P w K)) (c_both : Cal P w K mg base (He.ga K "both") 5 ["a", "b"] (sp_both P w K)) : Cal P w K mg base (He.ga K "minus") 7 ["a", "b"] (sp_minus P w K) := by
  obtain ⟨fd, F⟩ := T.dfs 15 d_minus rfl
  refine cal_of (N := ["a", "b"]) F sc_minus (F.bindsN fun _ _ _ _ _ _ us hl => match us, hl with | [_, _], _ => rfl) (len_minus) fun cdv A outer s H vs Q E hr h => ?_
  refine ⟨(tSeq (tDrop (tDo (sp_need_alike P w K) (tCons (tVar 0) (tCons (tVar 1) tNil)))) (tRet (tDo (sp_both P w K) (tCons (tVar 0) (tCons (tDo (sp_other P w K) (tCons (tVar 1) tNil)) tNil))))), (pss_cons (ps_expr (pcal c_need_alike (hr.mono (by decide)) (T.glo 2 "need_alike" rfl) (pa_cons (pv 0) (pa_cons (pv 1) pa_nil)))) (pss_one (ps_ret (pcal c_both (hr.mono (by decide)) (T.glo 7 "both" rfl) (pa_cons (pv 0) (pa_cons (pcal c_other (hr.mono (by decide)) (T.glo 9 "other" rfl) (pa_cons (pv 1) pa_nil)) pa_nil)))))), ?_⟩
  obtain ⟨a, b, A, B, rfl, hA, hB, ⟨e1, e2, pre, bp⟩, hQ⟩ := h
  refine ⟨_, rfl, _, rfl, a, b, A, B, rfl, hA, hB, e1, e2, ?_⟩
  refine ⟨_, rfl, _, rfl, b, B, rfl, hB, pre, fun o H1 O s1 hO oo => ?_⟩
  exact ⟨a, o, A, O, rfl, hA.same s1, hO, bp O hO.1 oo, fun p H' M s hM mo => hQ p H' M (s1.trans s) hM ⟨O, hO.1, oo, mo⟩⟩
end
end K23
/-! K23Wi -/
set_option Elab.async false
set_option linter.all false
set_option maxRecDepth 100000
set_option maxHeartbeats 4000000
namespace K23
open PySem PySem.Spec PyProof.Rows L2
section
variable {P : Program} {w : World} {K : PySem.W.Frag} {mg : Str → Option Value} {base : Heap}
def oV1 : Option Nat → V
  | none => .non
  | some k => .int k
def oV (g : List (Option Nat)) : List V := g.map oV1
theorem oV1_inj : ∀ {a b : Option Nat}, oV1 a = oV1 b → a = b
  | none, none, _ => rfl
  | none, some _, h => by cases h
  | some _, none, h => by cases h
  | some x, some y, h => by
    injection h with h
    rw [Int.ofNat.inj h]
theorem oV_get {g : List (Option Nat)} {i : Nat} {x : Option Nat} (h : g[i]? = some x) : (oV g)[i]? = some (oV1 x) := by
  unfold oV
  rw [List.getElem?_map, h]
  rfl
theorem oV_set (g : List (Option Nat)) (i : Nat) (x : Option Nat) : (oV g).set i (oV1 x) = oV (g.set i x) := by
  unfold oV
  rw [List.map_set]
theorem oV_len (g : List (Option Nat)) : (oV g).length = g.length := List.length_map _
/-- one edge of a round -/
def closeP (m : Nat) (st : List (Option Nat) × Bool) (e : Tr) : List (Option Nat) × Bool := if st.1[e.1]? = some none ∧ st.1[e.2.2]? = some (some (m - 1)) then (st.1.set e.1 (some m), true) else st
theorem closeP_len (m : Nat) (st : List (Option Nat) × Bool) (e : Tr) : (closeP m st e).1.length = st.1.length := by
  unfold closeP
  split
  · exact List.length_set
  · rfl
theorem closeF_len (m : Nat) : ∀ (E : List Tr) (st : List (Option Nat) × Bool), (E.foldl (closeP m) st).1.length = st.1.length
  | [], _ => rfl
  | e :: E, st => by rw [List.foldl_cons, closeF_len m E, closeP_len]
def sp_closer (P : Program) (w : World) (K : PySem.W.Frag) : SpN := fun vs H Q => ∃ a d N g m, vs = [.ref a, .ref d, .int (m : Nat)] ∧ NetAt P w K H a N ∧ H d = some (.lst (oV g)) ∧ g.length = N.n ∧ 1 ≤ m ∧
  ∀ H', SameX d H H' → H' d = some (.lst (oV (N.E.foldl (closeP m) (g, false)).1)) → Q (.bl (N.E.foldl (closeP m) (g, false)).2) H'
theorem len_closer : ∀ vs H Q, sp_closer P w K vs H Q → vs.length = 3 := fun _ _ _ ⟨_, _, _, _, _, e, _⟩ => by subst e; rfl
theorem SameX.tupL {H G : Hp} {d : Addr} {xs : List V} (s : SameX d H G) (hd : H d = some (.lst xs)) {a : Addr} {ys : List V} (h : SqT K H a ys) : SqT K G a ys := s.tup hd (fun _ e => by cases e) (fun _ _ e => by cases e) h
theorem ixN_nat {n i : Nat} (h : i < n) : ixN n (i : Int) = some i := by
  unfold ixN
  rw [if_pos (by omega), if_pos (by omega)]
  rfl
theorem sc_closer : FnScope ["net", "found", "number", "changed", "node", "_", "goal"] ["net", "found", "number"] (defScope s_closer) := ⟨rfl, rfl, rfl, by decide +kernel, rfl, by decide +kernel, by decide +kernel⟩
/- slots: 0 net, 1 found, 2 number, 3 changed, 4 node, 5 _, 6 goal -/
theorem ok_closer (T : Tb K mg)  : Cal P w K mg base (He.ga K "closer") 1 ["net", "found", "number"] (sp_closer P w K) := by
  obtain ⟨fd, F⟩ := T.dfs 16 d_closer rfl
  refine cal_of (N := ["net", "found", "number", "changed", "node", "_", "goal"]) F sc_closer (F.bindsN fun _ _ _ _ _ _ us hl => match us, hl with | [_, _, _], _ => rfl) (len_closer) fun cdv A outer s H vs Q E hr h => ?_
  refine ⟨(tSeq (tAsg (tC (.bl false)) (gName 3)) (tSeq (tFor (iTup K (tFld K (tVar 0) "edges")) (gTup K 3 (gCons (gName 4) (gCons (gName 5) (gCons (gName 6) gNil)))) (tIfS (tAnd (tTest (tOp rIsN (tOp (rIxL K) (tVar 1) (tVar 4)) (tC .non))) (tTest (tOp rEq (tOp (rIxL K) (tVar 1) (tVar 6)) (tOp rMi (tVar 2) (tC (.int 1)))))) (tSeq (tAsg (tVar 2) (gSub (tVar 1) (tVar 4) rSetL)) (tAsg (tC (.bl true)) (gName 3))) tNext)) (tRet (tVar 3)))), (pss_cons (ps_set (i := 3) sc_closer.nd rfl (by first | exact Or.inl rfl | exact Or.inr rfl) pe_bl) (pss_cons (ps_for PassesOwn.never rfl (pi_tup (pfld rfl (pv 0))) (pg_tup rfl (pgs_cons (pg_name (i := 4) sc_closer.nd rfl (by first | exact Or.inl rfl | exact Or.inr rfl)) (pgs_cons (pg_name (i := 5) sc_closer.nd rfl (by first | exact Or.inl rfl | exact Or.inr rfl)) (pgs_cons (pg_name (i := 6) sc_closer.nd rfl (by first | exact Or.inl rfl | exact Or.inr rfl)) pgs_nil)))) (pss_one (ps_if ((pw_and (pt_cmpR op_isN1 (pe_ix ix_list (pv 1) (pv 4) (fun _ _ => rfl)) pe_non (nomark _)) (pw_and1 (pt_cmpR op_eq (pe_ix ix_list (pv 1) (pv 6) (fun _ _ => rfl)) (pe_op op_sub (pv 2) pe_int) (nomark _))))).pt (pss_cons (ps_asg (pv 2) (pg_sub (pv 1) (pv 4) set_list)) (pss_one (ps_set (i := 3) sc_closer.nd rfl (by first | exact Or.inl rfl | exact Or.inr rfl) pe_bl))) pss_nil))) (pss_one (ps_ret (pv 3))))), ?_⟩
  obtain ⟨a, d, N, g, m, rfl, ⟨hw, dx, pe, pf, pd, h1, ⟨ps, h2, h2'⟩, h3, h4⟩, hd, hg, hm, hQ⟩ := h
  have ad : a ≠ d := fun e => by
    subst e
    rw [h1] at hd
    cases hd
  dsimp only [tSeq, tIfS, tOr, tAnd, tNot, tB, tTest, tCB, tCons, tNil, tNext, tAsg, tRet, tDrop, tDo, gName]
  refine tforT (fun R h => ⟨_, rfl, a, _, dx, _, _, rfl, h1, T.cl, T.noa 3 "edges" rfl, rfl, h⟩) (fun i σ G => (∃ v4 v5 v6, σ = [some (.ref a), some (.ref d), some (.int m), some (.bl ((N.E.take i).foldl (closeP m) (g, false)).2), v4, v5, v6]) ∧ SameX d H G ∧ G d = some (.lst (oV ((N.E.take i).foldl (closeP m) (g, false)).1)))
    h2 ⟨⟨_, _, _, rfl⟩, fun _ _ _ e => e, hd⟩ (fun i σ G p => p.2.1.tupL hd h2) (fun i v σ G hv ⟨⟨v4, v5, v6, hσ⟩, sG, hG⟩ => ?_) (fun σ G ⟨⟨v4, v5, v6, hσ⟩, sG, hG⟩ => ?_)
  · obtain ⟨q, e, rfl, he, hq⟩ := trs_get h2' hv
    subst hσ
    have ln := closeF_len m (N.E.take i) (g, false)
    obtain ⟨f1, f2, f3⟩ := hw.ef e (List.mem_of_getElem? he)
    have nxt : (N.E.take (i + 1)).foldl (closeP m) (g, false) = closeP m ((N.E.take i).foldl (closeP m) (g, false)) e := by
      rw [take_snoc he, List.foldl_append]
      rfl
    rw [nxt]
    generalize hst : (N.E.take i).foldl (closeP m) (g, false) = st at hG ln ⊢
    obtain ⟨c, ch⟩ := st
    simp only at ln hG ⊢
    obtain ⟨x1, hx1⟩ : ∃ x, c[e.1]? = some x := ⟨c[e.1]'(by omega), by simp⟩
    obtain ⟨x2, hx2⟩ : ∃ x, c[e.2.2]? = some x := ⟨c[e.2.2]'(by omega), by simp⟩
    refine ⟨q, _, rfl, sG.tupL hd hq, rfl, _, _, rfl, _, _, rfl, _, _, rfl, rfl, ?_⟩
    refine ⟨_, rfl, _, rfl, d, _, _, _, rfl, rfl, SqL.of hG, atI_n rfl (oV_get hx1), rfl, _, rfl, iteB (fun c1 => ?_) fun c1 => ?_⟩
    · have y1 : x1 = none := oV1_inj (b := none) (of_decide_eq_true c1)
      subst y1
      refine ⟨_, rfl, _, rfl, d, _, _, _, rfl, rfl, SqL.of hG, atI_n rfl (oV_get hx2), _, rfl, _, _, rfl, rfl, ?_, _, rfl, iteB (fun c2 => ?_) fun c2 => ?_⟩
      · cases x2 <;> rfl
      · have y2 : x2 = some (m - 1) := oV1_inj (b := some (m - 1)) ((of_decide_eq_true c2).trans (by show V.int ((m : Int) - 1) = V.int ((m - 1 : Nat) : Int); rw [Int.ofNat_sub hm]; rfl))
        subst y2
        have cp : closeP m (c, ch) e = (c.set e.1 (some m), true) := by
          unfold closeP
          rw [if_pos ⟨hx1, hx2⟩]
        rw [cp]
        refine ⟨_, rfl, _, rfl, _, rfl, d, _, _, e.1, rfl, rfl, hG, ixN_nat (by rw [oV_len]; omega), ⟨_, _, _, rfl⟩, fun b o nb hb => ?_, ?_⟩
        · rw [upd_ne nb]
          exact sG b o nb hb
        · rw [upd_same]
          exact congrArg (fun z => some (HO.lst z)) (oV_set c e.1 (some m))
      · have n2 : x2 ≠ some (m - 1) := fun z => of_decide_eq_false c2 (by rw [z]; show V.int ((m - 1 : Nat) : Int) = V.int ((m : Int) - 1); rw [Int.ofNat_sub hm]; rfl)
        have cp : closeP m (c, ch) e = (c, ch) := by
          unfold closeP
          rw [if_neg (fun z => n2 (by have := z.2; rw [hx2] at this; exact Option.some.inj this))]
        rw [cp]
        exact ⟨⟨_, _, _, rfl⟩, sG, hG⟩
    · have n1 : x1 ≠ none := fun z => of_decide_eq_false c1 (by rw [z]; rfl)
      have cp : closeP m (c, ch) e = (c, ch) := by
        unfold closeP
        rw [if_neg (fun z => n1 (by have := z.1; rw [hx1] at this; exact Option.some.inj this))]
      rw [cp]
      exact ⟨⟨_, _, _, rfl⟩, sG, hG⟩
  · subst hσ
    rw [trs_len h2', List.take_length] at hG
    refine ⟨_, rfl, ?_⟩
    rw [trs_len h2', List.take_length]
    exact hQ G sG hG
end
end K23
/-! K23Dist -/
set_option Elab.async false
set_option linter.all false
set_option maxRecDepth 100000
set_option maxHeartbeats 4000000
/-! How far the nodes are. -/
namespace K23
open PySem PySem.Spec PyProof.Rows L2
def rk (E : List Tr) (F : List Nat) : Nat → Nat → Prop
  | 0, x => x ∈ F
  | k + 1, x => ∃ l y, (x, l, y) ∈ E ∧ rk E F k y
def isD (E : List Tr) (F : List Nat) (k x : Nat) : Prop := rk E F k x ∧ ∀ j, j < k → ¬ rk E F j x
section
variable {E : List Tr} {F : List Nat} {k j x y l m n : Nat}
theorem isD_uniq (a : isD E F k x) (b : isD E F j x) : k = j := by
  rcases Nat.lt_trichotomy k j with h | h | h
  · exact absurd a.1 (b.2 k h)
  · exact h
  · exact absurd b.1 (a.2 j h)
theorem rk_min : ∀ k, rk E F k x → ∃ j, j ≤ k ∧ isD E F j x := by
  intro k
  induction k using Nat.strongRecOn with
  | _ k ih =>
    intro h
    by_cases c : ∃ j, j < k ∧ rk E F j x
    · obtain ⟨j, lt, hj⟩ := c
      obtain ⟨i, h1, h2⟩ := ih j lt hj
      exact ⟨i, by omega, h2⟩
    · exact ⟨k, Nat.le_refl _, h, fun j lt hj => c ⟨j, lt, hj⟩⟩
theorem isD_step (h : isD E F (k + 1) x) : ∃ l y, (x, l, y) ∈ E ∧ isD E F k y := by
  obtain ⟨⟨l, y, h1, h2⟩, h3⟩ := h
  exact ⟨l, y, h1, h2, fun j lt hj => h3 (j + 1) (by omega) ⟨l, y, h1, hj⟩⟩
theorem isD_of (he : (x, l, y) ∈ E) (h : isD E F k y) (n : ∀ j, j ≤ k → ¬ rk E F j x) : isD E F (k + 1) x := ⟨⟨l, y, he, h.1⟩, fun j lt => n j (by omega)⟩
theorem isD_down (hm : m ≤ k) (h : isD E F k x) (hx : x < n) (hE : ∀ e ∈ E, e.2.2 < n) : ∃ y, y < n ∧ isD E F m y := by
  induction k generalizing x with
  | zero =>
    have : m = 0 := by omega
    subst this
    exact ⟨x, hx, h⟩
  | succ k ih =>
    rcases Nat.lt_or_ge k m with lt | ge
    · have : m = k + 1 := by omega
      subst this
      exact ⟨x, hx, h⟩
    · obtain ⟨l, y, h1, h2⟩ := isD_step h
      exact ih ge h2 (hE _ h1)
theorem isD_lt (h : isD E F k x) (hx : x < n) (hE : ∀ e ∈ E, e.2.2 < n) : k < n := by
  have key : ∀ k x, isD E F k x → x < n → ∃ r : List Nat, r.length = k + 1 ∧ r.Nodup ∧ ∀ z ∈ r, z < n ∧ ∃ j, j ≤ k ∧ isD E F j z := by
    intro k
    induction k with
    | zero => exact fun x h hx => ⟨[x], rfl, List.pairwise_singleton _ _, fun z hz => by rw [List.mem_singleton.mp hz]; exact ⟨hx, 0, Nat.le_refl _, h⟩⟩
    | succ k ih =>
      intro x h hx
      obtain ⟨l, y, h1, h2⟩ := isD_step h
      obtain ⟨r, r1, r2, r3⟩ := ih y h2 (hE _ h1)
      refine ⟨x :: r, by rw [List.length_cons, r1], List.nodup_cons.mpr ⟨fun m => ?_, r2⟩, fun z hz => ?_⟩
      · obtain ⟨_, j, lj, dj⟩ := r3 x m
        have := isD_uniq h dj
        omega
      · rcases List.mem_cons.mp hz with rfl | hz
        · exact ⟨hx, k + 1, Nat.le_refl _, h⟩
        · obtain ⟨z1, j, lj, dj⟩ := r3 z hz
          exact ⟨z1, j, by omega, dj⟩
  obtain ⟨r, r1, r2, r3⟩ := key k x h hx
  have := r2.length_le_of_subset (l₂ := List.range n) fun z hz => List.mem_range.mpr (r3 z hz).1
  rw [List.length_range] at this
  omega
/-! ### the rounds -/
theorem foldl_inv {α β : Type} {f : α → β → α} {P : List β → α → Prop} (hs : ∀ pre e a, P pre a → P (pre ++ [e]) (f a e)) : ∀ (l pre : List β) (a : α), P pre a → P (pre ++ l) (l.foldl f a)
  | [], pre, a, h => by rw [List.append_nil]; exact h
  | e :: l, pre, a, h => by
    have := foldl_inv hs l (pre ++ [e]) (f a e) (hs pre e a h)
    rw [List.append_assoc] at this
    exact this
def DInv (E : List Tr) (F : List Nat) (n m : Nat) (g : List (Option Nat)) : Prop := g.length = n ∧ ∀ x, x < n → ∀ k, g[x]? = some (some k) ↔ (isD E F k x ∧ k < m)
def DFull (E : List Tr) (F : List Nat) (n : Nat) (g : List (Option Nat)) : Prop := g.length = n ∧ ∀ x, x < n → ∀ k, g[x]? = some (some k) ↔ isD E F k x
def hit (g : List (Option Nat)) (m : Nat) (pre : List Tr) (x : Nat) : Prop := g[x]? = some none ∧ ∃ l y, (x, l, y) ∈ pre ∧ g[y]? = some (some (m - 1))
theorem hit_snoc {g : List (Option Nat)} {pre : List Tr} {e : Tr} : hit g m (pre ++ [e]) x ↔ hit g m pre x ∨ (x = e.1 ∧ g[x]? = some none ∧ g[e.2.2]? = some (some (m - 1))) := by
  unfold hit
  constructor
  · rintro ⟨h1, l, y, h2, h3⟩
    rcases List.mem_append.mp h2 with h2 | h2
    · exact .inl ⟨h1, l, y, h2, h3⟩
    · have := List.mem_singleton.mp h2
      subst this
      exact .inr ⟨rfl, h1, h3⟩
  · rintro (⟨h1, l, y, h2, h3⟩ | ⟨rfl, h1, h3⟩)
    · exact ⟨h1, l, y, List.mem_append_left _ h2, h3⟩
    · exact ⟨h1, e.2.1, e.2.2, List.mem_append_right _ List.mem_cons_self, h3⟩
theorem close_spec (g : List (Option Nat)) (hm : 1 ≤ m) (hE : ∀ e ∈ E, e.1 < g.length ∧ e.2.2 < g.length) :
    (∀ x, (hit g m E x → (E.foldl (closeP m) (g, false)).1[x]? = some (some m)) ∧ (¬ hit g m E x → (E.foldl (closeP m) (g, false)).1[x]? = g[x]?)) ∧ ((E.foldl (closeP m) (g, false)).2 = true ↔ ∃ x, hit g m E x) := by
  have := foldl_inv (f := closeP m) (P := fun pre st => st.1.length = g.length ∧ (∀ x, (hit g m pre x → st.1[x]? = some (some m)) ∧ (¬ hit g m pre x → st.1[x]? = g[x]?)) ∧ (st.2 = true ↔ ∃ x, hit g m pre x)) (fun pre e st ⟨h0, h1, h2⟩ => ?_) E [] (g, false)
    ⟨rfl, fun x => ⟨fun h => (let ⟨_, l, y, z, _⟩ := h; nomatch z), fun _ => rfl⟩, ⟨fun h => (nomatch h), fun ⟨x, _, l, y, z, _⟩ => nomatch z⟩⟩
  · exact ⟨this.2.1, this.2.2⟩
  · have same : ∀ y, st.1[y]? = some (some (m - 1)) ↔ g[y]? = some (some (m - 1)) := fun y => by
      by_cases c : hit g m pre y
      · rw [(h1 y).1 c, c.1]
        constructor
        · intro h
          injection h with h
          injection h with h
          omega
        · intro h
          cases h
      · rw [(h1 y).2 c]
    have none_ : st.1[e.1]? = some none ↔ (g[e.1]? = some none ∧ ¬ hit g m pre e.1) := by
      by_cases c : hit g m pre e.1
      · rw [(h1 _).1 c]
        exact ⟨fun h => (nomatch h), fun h => absurd c h.2⟩
      · rw [(h1 _).2 c]
        exact ⟨fun h => ⟨h, c⟩, fun h => h.1⟩
    unfold closeP
    by_cases c : st.1[e.1]? = some none ∧ st.1[e.2.2]? = some (some (m - 1))
    · rw [if_pos c]
      obtain ⟨n1, n2⟩ := none_.mp c.1
      have g2 := (same _).mp c.2
      have lt : e.1 < st.1.length := (List.getElem?_eq_some_iff.mp c.1).1
      refine ⟨by rw [← h0]; exact List.length_set, fun x => ⟨fun h => ?_, fun h => ?_⟩, ⟨fun _ => ⟨e.1, hit_snoc.mpr (.inr ⟨rfl, n1, g2⟩)⟩, fun _ => rfl⟩⟩
      · by_cases ex : x = e.1
        · subst ex
          exact List.getElem?_set_self lt
        · show (st.1.set e.1 (some m))[x]? = _
          rw [List.getElem?_set_ne (Ne.symm ex)]
          rcases hit_snoc.mp h with h | h
          · exact (h1 x).1 h
          · exact absurd h.1 ex
      · have ex : x ≠ e.1 := fun z => h (hit_snoc.mpr (.inr ⟨z, by rw [z]; exact n1, g2⟩))
        show (st.1.set e.1 (some m))[x]? = _
        rw [List.getElem?_set_ne (Ne.symm ex)]
        exact (h1 x).2 fun z => h (hit_snoc.mpr (.inl z))
    · rw [if_neg c]
      have iff : ∀ x, hit g m (pre ++ [e]) x ↔ hit g m pre x := fun x => by
        rw [hit_snoc]
        refine ⟨fun h => h.elim id fun ⟨z1, z2, z3⟩ => ?_, .inl⟩
        subst z1
        by_cases q : hit g m pre e.1
        · exact q
        · exact absurd ⟨none_.mpr ⟨z2, q⟩, (same _).mpr z3⟩ c
      exact ⟨h0, fun x => ⟨fun h => (h1 x).1 ((iff x).mp h), fun h => (h1 x).2 fun z => h ((iff x).mpr z)⟩, h2.trans ⟨fun ⟨x, h⟩ => ⟨x, (iff x).mpr h⟩, fun ⟨x, h⟩ => ⟨x, (iff x).mp h⟩⟩⟩
theorem DInv.round {g : List (Option Nat)} (h : DInv E F n m g) (hm : 1 ≤ m) (hE : ∀ e ∈ E, e.1 < n ∧ e.2.2 < n) :
    DInv E F n (m + 1) (E.foldl (closeP m) (g, false)).1 ∧ ((E.foldl (closeP m) (g, false)).2 = false → ∀ x, x < n → ¬ isD E F m x) := by
  obtain ⟨h1, h2⟩ := h
  obtain ⟨s1, s2⟩ := close_spec g hm (E := E) (by rw [h1]; exact hE)
  have at_ : ∀ x, x < n → ∃ o, g[x]? = some o := fun x hx => ⟨g[x]'(by omega), by simp⟩
  have low : ∀ x, x < n → g[x]? = some none → ∀ j, j < m → ¬ rk E F j x := fun x hx e j lt r => by
    obtain ⟨i, li, di⟩ := rk_min j r
    have := (h2 x hx i).mpr ⟨di, by omega⟩
    rw [e] at this
    cases this
  have up : ∀ x, x < n → isD E F m x → hit g m E x := fun x hx d => by
    obtain ⟨o, ho⟩ := at_ x hx
    have on : o = none := by
      cases o with
      | none => rfl
      | some k =>
        obtain ⟨dk, lk⟩ := (h2 x hx k).mp ho
        have := isD_uniq d dk
        omega
    subst on
    obtain ⟨m', rfl⟩ : ∃ m', m = m' + 1 := ⟨m - 1, by omega⟩
    obtain ⟨l, y, he, dy⟩ := isD_step d
    exact ⟨ho, l, y, he, (h2 y (hE _ he).2 m').mpr ⟨dy, by omega⟩⟩
  refine ⟨⟨by rw [closeF_len]; exact h1, fun x hx k => ?_⟩, fun c x hx d => ?_⟩
  · by_cases c : hit g m E x
    · rw [(s1 x).1 c]
      obtain ⟨c1, l, y, he, hy⟩ := c
      have dy := ((h2 y (hE _ he).2 _).mp hy).1
      have dm : isD E F m x := by
        obtain ⟨m', rfl⟩ : ∃ m', m = m' + 1 := ⟨m - 1, by omega⟩
        exact isD_of he dy fun j lj => low x hx c1 j (by omega)
      constructor
      · intro e
        injection e with e
        injection e with e
        subst e
        exact ⟨dm, Nat.lt_succ_self _⟩
      · rintro ⟨dk, lk⟩
        rw [isD_uniq dm dk]
    · rw [(s1 x).2 c, h2 x hx k]
      refine ⟨fun ⟨a, b⟩ => ⟨a, by omega⟩, fun ⟨a, b⟩ => ⟨a, ?_⟩⟩
      rcases Nat.lt_or_ge k m with lt | ge
      · exact lt
      · have : k = m := by omega
        subst this
        exact absurd (up x hx a) c
  · have := s2.mpr ⟨x, up x hx d⟩
    rw [c] at this
    cases this
theorem DInv.full_stop {g : List (Option Nat)} (h : DInv E F n m g) (no : ∀ x, x < n → ¬ isD E F m x) (hE : ∀ e ∈ E, e.2.2 < n) : DFull E F n g :=
  ⟨h.1, fun x hx k => (h.2 x hx k).trans ⟨fun z => z.1, fun d => ⟨d, by
    rcases Nat.lt_or_ge k m with lt | ge
    · exact lt
    · obtain ⟨y, hy, dy⟩ := isD_down ge d hx hE
      exact absurd dy (no y hy)⟩⟩⟩
theorem DInv.full_end {g : List (Option Nat)} (h : DInv E F n m g) (hm : n ≤ m) (hE : ∀ e ∈ E, e.2.2 < n) : DFull E F n g :=
  ⟨h.1, fun x hx k => (h.2 x hx k).trans ⟨fun z => z.1, fun d => ⟨d, by have := isD_lt d hx hE; omega⟩⟩⟩
def setsF (g : List (Option Nat)) (F : List Nat) : List (Option Nat) := F.foldl (fun g f => g.set f (some 0)) g
theorem setsF_len (F : List Nat) (g : List (Option Nat)) : (setsF g F).length = g.length := by
  unfold setsF
  induction F generalizing g with
  | nil => rfl
  | cons f F ih => rw [List.foldl_cons, ih, List.length_set]
theorem setsF_get {g : List (Option Nat)} {F : List Nat} {x : Nat} (hx : x < g.length) : (setsF g F)[x]? = if x ∈ F then some (some 0) else g[x]? := by
  unfold setsF
  induction F generalizing g with
  | nil => rw [if_neg (by simp)]; rfl
  | cons f F ih =>
    rw [List.foldl_cons, ih (by rw [List.length_set]; exact hx)]
    by_cases c : x ∈ F
    · rw [if_pos c, if_pos (List.mem_cons_of_mem _ c)]
    · rw [if_neg c]
      by_cases e : f = x
      · subst e
        rw [if_pos List.mem_cons_self, List.getElem?_set_self hx]
      · rw [if_neg (fun m => (List.mem_cons.mp m).elim (fun z => e z.symm) c), List.getElem?_set_ne e]
theorem DInv.start (E : List Tr) (F : List Nat) (n : Nat) : DInv E F n 1 (setsF (List.replicate n none) F) := by
  refine ⟨by rw [setsF_len, List.length_replicate], fun x hx k => ?_⟩
  rw [setsF_get (by rw [List.length_replicate]; exact hx)]
  by_cases c : x ∈ F
  · rw [if_pos c]
    constructor
    · intro e
      injection e with e
      injection e with e
      subst e
      exact ⟨⟨c, fun j lt => absurd lt (Nat.not_lt_zero _)⟩, Nat.lt_succ_self _⟩
    · rintro ⟨d, lt⟩
      have : k = 0 := by omega
      subst this
      rfl
  · rw [if_neg c, List.getElem?_replicate, if_pos hx]
    constructor
    · intro e
      cases e
    · rintro ⟨d, lt⟩
      have : k = 0 := by omega
      subst this
      exact absurd d.1 c
end
end K23
/-! K23Wj -/
set_option Elab.async false
set_option linter.all false
set_option maxRecDepth 100000
set_option maxHeartbeats 4000000
namespace K23
open PySem PySem.Spec PyProof.Rows L2
section
variable {P : Program} {w : World} {K : PySem.W.Frag} {mg : Str → Option Value} {base : Heap}
def sp_distances (P : Program) (w : World) (K : PySem.W.Frag) : SpN := fun vs H Q => ∃ a N, vs = [.ref a] ∧ NetAt P w K H a N ∧ ∀ d H' g, Same H H' → H d = none → H' d = some (.lst (oV g)) → DFull N.E N.F N.n g → Q (.ref d) H'
theorem len_distances : ∀ vs H Q, sp_distances P w K vs H Q → vs.length = 1 := fun _ _ _ ⟨_, _, e, _⟩ => by subst e; rfl
theorem SameX.to {H G G' : Hp} {d : Addr} (s : Same H G) (t : SameX d G G') (h : H d = none) : Same H G' := fun b o hb => t b o (ne_of_none hb h) (s b o hb)
theorem sc_distances : FnScope ["net", "found", "end", "number", "_"] ["net"] (defScope s_distances) := ⟨rfl, rfl, rfl, by decide +kernel, rfl, by decide +kernel, by decide +kernel⟩
/- slots: 0 net, 1 found, 2 end, 3 number, 4 _ -/
theorem ok_distances (T : Tb K mg) (c_closer : Cal P w K mg base (He.ga K "closer") 1 ["net", "found", "number"] (sp_closer P w K)) : Cal P w K mg base (He.ga K "distances") 2 ["net"] (sp_distances P w K) := by
  obtain ⟨fd, F⟩ := T.dfs 17 d_distances rfl
  refine cal_of (N := ["net", "found", "end", "number", "_"]) F sc_distances (F.bindsN fun _ _ _ _ _ _ us hl => match us, hl with | [_], _ => rfl) (len_distances) fun cdv A outer s H vs Q E hr h => ?_
  refine ⟨(tSeq (tAsg (tLc (iRng1 (tCons (tFld K (tVar 0) "nodes") tNil)) (gName 4) tYes (tC .non) [4]) (gName 1)) (tSeq (tFor (iTup K (tFld K (tVar 0) "ends")) (gName 2) (tAsg (tC (.int 0)) (gSub (tVar 1) (tVar 2) rSetL))) (tSeq (tFor (iRng2 (tCons (tC (.int 1)) (tCons (tFld K (tVar 0) "nodes") tNil))) (gName 3) (tIfS (tNot (tB (tDo (sp_closer P w K) (tCons (tVar 0) (tCons (tVar 1) (tCons (tVar 3) tNil)))))) tBreak tNext)) (tRet (tVar 1))))), (pss_cons (ps_setLc (i := 1) (own := [("_", 4)]) (g := (gName 4)) (tt := tYes) (te := (tC .non)) rfl sc_distances.nd rfl rfl (sw_true rfl rfl rfl (by decide +kernel)) (pi_range1 (by rfl) (T.fre 1 "range" rfl) (pa_cons (pfld rfl (pv 0)) pa_nil)) (blkOk_by (N := ["net", "found", "end", "number", "_"]) (sc := defScope s_distances) (by decide +kernel)) (fun _ _ _ _ _ => (pg_name (i := 4) sc_distances.nd rfl (by first | exact Or.inl rfl | exact Or.inr rfl))) (fun _ _ _ _ _ => pts_nil) (fun _ _ _ _ _ => pe_non)) (pss_cons (ps_for PassesOwn.never rfl (pi_tup (pfld rfl (pv 0))) (pg_name (i := 2) sc_distances.nd rfl (by first | exact Or.inl rfl | exact Or.inr rfl)) (pss_one (ps_asg pe_int (pg_sub (pv 1) (pv 2) set_list)))) (pss_cons (ps_for PassesOwn.never rfl (pi_range2 (by rfl) (T.fre 1 "range" rfl) (pa_cons pe_int (pa_cons (pfld rfl (pv 0)) pa_nil))) (pg_name (i := 3) sc_distances.nd rfl (by first | exact Or.inl rfl | exact Or.inr rfl)) (pss_one (ps_if (pt_not (pt_val (pcal c_closer (hr.mono (by decide)) (T.glo 11 "closer" rfl) (pa_cons (pv 0) (pa_cons (pv 1) (pa_cons (pv 3) pa_nil)))) (by intro _; rfl))) (pss_one ps_break) pss_nil))) (pss_one (ps_ret (pv 1)))))), ?_⟩
  obtain ⟨a, N, rfl, hN, hQ⟩ := h
  obtain ⟨hw, dx, pe, pf, pd, h1, h2, h3, h4⟩ := id hN
  have n1 := hw.n1
  have gN : ∀ {G : Hp}, Same H G → G a = some (.ins (NetC K) dx (fsN N pe pf pd)) := fun s => s _ _ h1
  dsimp only [tSeq, tIfS, tOr, tAnd, tNot, tB, tTest, tCB, tCons, tNil, tNext, tAsg, tRet, tDrop, tDo, gName]
  refine tlcR (n := N.n) (fun R h => ⟨_, rfl, a, _, dx, _, _, rfl, h1, T.cl, T.noa 2 "nodes" rfl, rfl, h⟩) (by omega) (fun i => List.replicate i .non) rfl (fun D hD i G hi sm hG => ?_) fun d hd G1 s1 hG1 => ?_
  · refine ⟨rfl, ⟨_, hG, by rw [List.length_replicate]; exact line_lt (by omega), same_put sm hD, rep_snoc _ _⟩⟩
  have e0 : (List.replicate N.n V.non) = oV (List.replicate N.n none) := by
    unfold oV
    rw [List.map_replicate]
    rfl
  rw [e0] at hG1
  have setsN : ∀ (F : List Nat) (i : Nat) (f : Nat) (g : List (Option Nat)), F[i]? = some f → setsF g (F.take (i + 1)) = (setsF g (F.take i)).set f (some 0) := fun F i f g h => by
    unfold setsF
    rw [take_snoc h, List.foldl_append]
    rfl
  refine tforT (fun R h => ⟨_, rfl, a, _, dx, _, _, rfl, gN s1, T.cl, T.noa 4 "ends" rfl, rfl, h⟩) (fun i σ G => (∃ v2, σ = [some (.ref a), some (.ref d), v2, none, none]) ∧ Same H G ∧ G d = some (.lst (oV (setsF (List.replicate N.n none) (N.F.take i))))) (Same.tup s1 h3)
    ⟨⟨_, rfl⟩, s1, hG1⟩ (fun i σ G p => Same.tup p.2.1 h3) (fun i v σ G hv ⟨⟨v2, hσ⟩, sG, hG⟩ => ?_) (fun σ G ⟨⟨v2, hσ⟩, sG, hG⟩ => ?_)
  · obtain ⟨f, rfl, hf⟩ := nV_get hv
    subst hσ
    have fl := hw.ff f (List.mem_of_getElem? hf)
    refine ⟨_, rfl, _, rfl, d, _, _, f, rfl, rfl, hG, ixN_nat (by rw [oV_len, setsF_len, List.length_replicate]; exact fl), ⟨_, rfl⟩, same_put sG hd, ?_⟩
    rw [upd_same, setsN _ _ _ _ hf]
    exact congrArg (fun z => some (HO.lst z)) (oV_set _ f (some 0))
  · subst hσ
    rw [nV_len, List.take_length] at hG
    have d0 := DInv.start N.E N.F N.n
    have hE : ∀ e ∈ N.E, e.1 < N.n ∧ e.2.2 < N.n := fun e he => ⟨(hw.ef e he).1, (hw.ef e he).2.2⟩
    have hE2 : ∀ e ∈ N.E, e.2.2 < N.n := fun e he => (hE e he).2
    have s1n := hw.s1
    have snn := hw.sn
    have fin : ∀ v2 v3 v4 G g, Same H G → G d = some (.lst (oV g)) → DFull N.E N.F N.n g → tRet (tVar 1) { nx := fun _ H' => Q .non H', rt := Q } [some (.ref a), some (.ref d), v2, v3, v4] G := fun v2 v3 v4 G g s e f => ⟨_, rfl, hQ d G g s hd e f⟩
    refine ⟨_, rfl, a, _, dx, _, _, rfl, gN sG, T.cl, T.noa 2 "nodes" rfl, rfl, 1, (N.n : Int), rfl, ⟨by omega, by omega, by omega, by omega⟩, ?_⟩
    rw [show ((N.n : Int) - 1).toNat = N.n - 1 by omega]
    refine for_range (fun i σ G => (∃ v2 v3 v4, σ = [some (.ref a), some (.ref d), v2, v3, v4]) ∧ Same H G ∧ ∃ g, G d = some (.lst (oV g)) ∧ DInv N.E N.F N.n (1 + i) g) ⟨⟨_, _, _, rfl⟩, sG, _, hG, d0⟩ (fun i σ G hi hσ => ?_) (fun σ G hσ => ?_)
    · obtain ⟨⟨v2, v3, v4, rfl⟩, sG, g, hg, di⟩ := hσ
      obtain ⟨r1, r2⟩ := di.round (by omega) hE
      refine ⟨_, rfl, _, rfl, _, rfl, a, d, N, g, 1 + i, by rw [Int.natCast_add]; rfl, hN.same sG, hg, di.1, by omega, fun H' sx hH' => ⟨_, rfl, ?_⟩⟩
      have s' := SameX.to sG sx hd
      refine iteB (fun c => ?_) fun c => ?_
      · exact fin _ _ _ _ _ s' hH' (r1.full_stop (fun x hx dd => (r2 (by simpa using c) x hx) (by
          exfalso
          obtain ⟨y, hy, dy⟩ := isD_down (m := 1 + i) (by omega) dd hx hE2
          exact r2 (by simpa using c) y hy dy)) hE2)
      · exact ⟨⟨_, _, _, rfl⟩, s', _, hH', by rw [show 1 + (i + 1) = 1 + i + 1 by omega]; exact r1⟩
    · obtain ⟨⟨v2, v3, v4, rfl⟩, sG, g, hg, di⟩ := hσ
      exact fin _ _ _ _ _ sG hg (di.full_end (by omega) hE2)
end
end K23
/-! K23Wk -/
set_option Elab.async false
set_option linter.all false
set_option maxRecDepth 100000
set_option maxHeartbeats 4000000
namespace K23
open PySem PySem.Spec PyProof.Rows L2
section
variable {P : Program} {w : World} {K : PySem.W.Frag} {mg : Str → Option Value} {base : Heap}
def leadsB (E : List Tr) (g : List (Option Nat)) (l left : Nat) (gs : List (List Nat)) : Bool := gs.any fun gr => (mvE E gr l).any fun y => decide (g[y]? = some (some left))
def sp_leads_on (P : Program) (w : World) (K : PySem.W.Frag) : SpN := fun vs H Q => ∃ a b d N gs l g left, vs = [.ref a, .ref b, .int (l : Nat), .ref d, .int (left : Nat)] ∧ NetAt P w K H a N ∧ LM (rGr K) H b gs ∧ H d = some (.lst (oV g)) ∧ g.length = N.n ∧ ∀ H', Same H H' → Q (.bl (leadsB N.E g l left gs)) H'
theorem len_leads_on : ∀ vs H Q, sp_leads_on P w K vs H Q → vs.length = 5 := fun _ _ _ ⟨_, _, _, _, _, _, _, _, e, _⟩ => by subst e; rfl
theorem sc_leads_on : FnScope ["net", "groups", "letter", "distance", "left", "group", "node"] ["net", "groups", "letter", "distance", "left"] (defScope s_leads_on) := ⟨rfl, rfl, rfl, by decide +kernel, rfl, by decide +kernel, by decide +kernel⟩
/- slots: 0 net, 1 groups, 2 letter, 3 distance, 4 left, 5 group, 6 node -/
theorem ok_leads_on (T : Tb K mg) (c_Net_moved : Cal P w K mg base (He.ma K (NetC K) "moved") 2 ["self", "nodes", "letter"] (sp_Net_moved P w K)) : Cal P w K mg base (He.ga K "leads_on") 3 ["net", "groups", "letter", "distance", "left"] (sp_leads_on P w K) := by
  obtain ⟨fd, F⟩ := T.dfs 18 d_leads_on rfl
  refine cal_of (N := ["net", "groups", "letter", "distance", "left", "group", "node"]) F sc_leads_on (F.bindsN fun _ _ _ _ _ _ us hl => match us, hl with | [_, _, _, _, _], _ => rfl) (len_leads_on) fun cdv A outer s H vs Q E hr h => ?_
  refine ⟨(tSeq (tFor (iList K (tVar 1)) (gName 5) (tFor (iTup K (tMe K "moved" (sp_Net_moved P w K) (tVar 0) (tCons (tVar 5) (tCons (tVar 2) tNil)))) (gName 6) (tIfS (tTest (tOp rEq (tOp (rIxL K) (tVar 3) (tVar 6)) (tVar 4))) (tRet (tC (.bl true))) tNext))) (tRet (tC (.bl false)))), (pss_cons (ps_for PassesOwn.never rfl (pi_list (pv 1)) (pg_name (i := 5) sc_leads_on.nd rfl (by first | exact Or.inl rfl | exact Or.inr rfl)) (pss_one (ps_for PassesOwn.never rfl (pi_tup (pmet rfl (pv 0) T.cl (T.met 1 "moved" rfl) c_Net_moved (hr.mono (by decide)) (pa_cons (pv 5) (pa_cons (pv 2) pa_nil)))) (pg_name (i := 6) sc_leads_on.nd rfl (by first | exact Or.inl rfl | exact Or.inr rfl)) (pss_one (ps_if (pt_cmpR op_eq (pe_ix ix_list (pv 3) (pv 6) (fun _ _ => rfl)) (pv 4) (nomark _)) (pss_one (ps_ret pe_bl)) pss_nil))))) (pss_one (ps_ret pe_bl))), ?_⟩
  obtain ⟨a, b, d, N, gs, l, g, left, rfl, hN, hb, hd, hg, hQ⟩ := h
  obtain ⟨qs, b1, b2⟩ := id hb
  dsimp only [tSeq, tIfS, tOr, tAnd, tNot, tB, tTest, tCB, tCons, tNil, tNext, tAsg, tRet, tDrop, tDo, gName]
  refine tforL (fun R h => ⟨_, rfl, h⟩) (fun i σ G => (∃ v5 v6, σ = [some (.ref a), some (.ref b), some (.int l), some (.ref d), some (.int left), v5, v6]) ∧ Same H G ∧ leadsB N.E g l left (gs.take i) = false) (SqL.of b1) ⟨⟨_, _, rfl⟩, Same.refl H, rfl⟩ (fun i σ G p => p.2.1.seq (SqL.of b1))
    (fun i v σ G hv hσ => ?_) (fun σ G hσ => ?_)
  · obtain ⟨⟨v5, v6, rfl⟩, sG, no⟩ := hσ
    obtain ⟨q, gr, rfl, he, hq⟩ := pr_get b2 hv
    have hN2 := hN.same sG
    obtain ⟨hw, dx, pe, pf, pd, h1, h2, h3, h4⟩ := id hN2
    refine ⟨_, rfl, a, dx, _, rfl, h1, rfl, _, rfl, _, rfl, a, N, q, gr, l, rfl, hN2, Same.tup sG hq, fun p G1 s1 hp => ⟨p, rfl, ⟨_, hp⟩, ?_⟩⟩
    have sG1 := sG.trans s1
    refine for_tup (xs := nV (mvE N.E gr l)) (fun j σ G => (∃ v6, σ = [some (.ref a), some (.ref b), some (.int l), some (.ref d), some (.int left), some (.ref q), v6]) ∧ Same H G ∧ SqT K G p (nV (mvE N.E gr l)) ∧ ((mvE N.E gr l).take j).any (fun y => decide (g[y]? = some (some left))) = false) ⟨⟨_, rfl⟩, sG1, hp, rfl⟩ (fun j σ G _ z => z.2.2.1)
      (fun j v σ G hv hσ => ?_) (fun σ G hσ => ?_)
    · obtain ⟨⟨v6, rfl⟩, sG2, hp2, no2⟩ := hσ
      obtain ⟨y, rfl, hy⟩ := nV_get hv
      have ym := List.mem_of_getElem? hy
      obtain ⟨x, _, xe⟩ := mem_mvE.mp ym
      have yn : y < g.length := by
        rw [hg]
        exact (hw.ef _ xe).2.2
      obtain ⟨o, ho⟩ : ∃ o, g[y]? = some o := ⟨g[y], by simp⟩
      refine ⟨_, rfl, _, rfl, d, _, _, _, rfl, rfl, SqL.of (sG2 _ _ hd), atI_n rfl (oV_get ho), _, rfl, by cases o <;> rfl, _, rfl, iteB (fun c => ?_) fun c => ?_⟩
      · have : o = some left := oV1_inj (b := some left) (of_decide_eq_true c)
        subst this
        refine qbl (Q := Q) (Eq.symm ?_) (hQ _ sG2)
        unfold leadsB
        rw [List.any_eq_true]
        exact ⟨gr, List.mem_of_getElem? he, List.any_eq_true.mpr ⟨y, ym, decide_eq_true ho⟩⟩
      · have on : o ≠ some left := fun z => of_decide_eq_false c (by rw [z]; rfl)
        refine ⟨⟨_, rfl⟩, sG2, hp2, ?_⟩
        rw [take_snoc hy, List.any_append, no2, Bool.false_or, List.any_cons, List.any_nil, Bool.or_false]
        exact decide_eq_false (fun z => on (by rw [ho] at z; exact Option.some.inj z))
    · obtain ⟨⟨v6, rfl⟩, sG2, hp2, no2⟩ := hσ
      rw [nV_len, List.take_length] at no2
      refine ⟨⟨_, _, rfl⟩, sG2, ?_⟩
      unfold leadsB at no ⊢
      rw [take_snoc he, List.any_append, no, Bool.false_or, List.any_cons, List.any_nil, Bool.or_false]
      exact no2
  · obtain ⟨⟨v5, v6, rfl⟩, sG, no⟩ := hσ
    rw [pr_len b2, List.take_length] at no
    exact qbl (Q := Q) no.symm (hQ _ sG)
def IsLeast (p : Nat → Bool) (L r : Nat) : Prop := (r < L ∧ p r = true ∧ ∀ l, l < r → p l = false) ∨ ((∀ l, l < L → p l = false) ∧ r = L - 1)
def sp_least_letter (P : Program) (w : World) (K : PySem.W.Frag) : SpN := fun vs H Q => ∃ a b d N gs g left, vs = [.ref a, .ref b, .ref d, .int (left : Nat)] ∧ NetAt P w K H a N ∧ LM (rGr K) H b gs ∧ H d = some (.lst (oV g)) ∧ g.length = N.n ∧ ∀ H' r, Same H H' → IsLeast (fun l => leadsB N.E g l left gs) N.L r → Q (.int (r : Nat)) H'
theorem len_least_letter : ∀ vs H Q, sp_least_letter P w K vs H Q → vs.length = 4 := fun _ _ _ ⟨_, _, _, _, _, _, _, e, _⟩ => by subst e; rfl
theorem sc_least_letter : FnScope ["net", "groups", "distance", "left", "letter"] ["net", "groups", "distance", "left"] (defScope s_least_letter) := ⟨rfl, rfl, rfl, by decide +kernel, rfl, by decide +kernel, by decide +kernel⟩
/- slots: 0 net, 1 groups, 2 distance, 3 left, 4 letter -/
theorem ok_least_letter (T : Tb K mg) (c_leads_on : Cal P w K mg base (He.ga K "leads_on") 3 ["net", "groups", "letter", "distance", "left"] (sp_leads_on P w K)) : Cal P w K mg base (He.ga K "least_letter") 4 ["net", "groups", "distance", "left"] (sp_least_letter P w K) := by
  obtain ⟨fd, F⟩ := T.dfs 19 d_least_letter rfl
  refine cal_of (N := ["net", "groups", "distance", "left", "letter"]) F sc_least_letter (F.bindsN fun _ _ _ _ _ _ us hl => match us, hl with | [_, _, _, _], _ => rfl) (len_least_letter) fun cdv A outer s H vs Q E hr h => ?_
  refine ⟨(tSeq (tFor (iRng1 (tCons (tFld K (tVar 0) "letters") tNil)) (gName 4) (tIfS (tB (tDo (sp_leads_on P w K) (tCons (tVar 0) (tCons (tVar 1) (tCons (tVar 4) (tCons (tVar 2) (tCons (tVar 3) tNil))))))) (tRet (tVar 4)) tNext)) (tRet (tOp rMi (tFld K (tVar 0) "letters") (tC (.int 1))))), (pss_cons (ps_for PassesOwn.never rfl (pi_range1 (by rfl) (T.fre 1 "range" rfl) (pa_cons (pfld rfl (pv 0)) pa_nil)) (pg_name (i := 4) sc_least_letter.nd rfl (by first | exact Or.inl rfl | exact Or.inr rfl)) (pss_one (ps_if (pt_val (pcal c_leads_on (hr.mono (by decide)) (T.glo 13 "leads_on" rfl) (pa_cons (pv 0) (pa_cons (pv 1) (pa_cons (pv 4) (pa_cons (pv 2) (pa_cons (pv 3) pa_nil)))))) (by intro _; rfl)) (pss_one (ps_ret (pv 4))) pss_nil))) (pss_one (ps_ret (pe_op op_sub (pfld rfl (pv 0)) pe_int)))), ?_⟩
  obtain ⟨a, b, d, N, gs, g, left, rfl, hN, hb, hd, hg, hQ⟩ := h
  obtain ⟨hw, dx, pe, pf, pd, h1, h2, h3, h4⟩ := id hN
  have l1 := hw.l1
  have l2 := hw.l2
  dsimp only [tSeq, tIfS, tOr, tAnd, tNot, tB, tTest, tCB, tCons, tNil, tNext, tAsg, tRet, tDrop, tDo, gName]
  refine tforR (n := N.L) (fun R h => ⟨_, rfl, a, _, dx, _, _, rfl, h1, T.cl, T.noa 1 "letters" rfl, rfl, h⟩) (by omega) (fun i σ G => (∃ v4, σ = [some (.ref a), some (.ref b), some (.ref d), some (.int left), v4]) ∧ Same H G ∧ ∀ l, l < i → leadsB N.E g l left gs = false)
    ⟨⟨_, rfl⟩, Same.refl H, fun l h => absurd h (Nat.not_lt_zero _)⟩ (fun i σ G hi hσ => ?_) (fun σ G hσ => ?_)
  · obtain ⟨⟨v4, rfl⟩, sG, no⟩ := hσ
    refine ⟨_, rfl, _, rfl, _, rfl, _, rfl, _, rfl, a, b, d, N, gs, i, g, left, rfl, hN.same sG, hb.same (ko_gr K).stb sG, sG _ _ hd, hg, fun H' s' => ⟨_, rfl, iteB (fun c => ?_) fun c => ?_⟩⟩
    · exact ⟨_, rfl, hQ _ i (sG.trans s') (.inl ⟨hi, c, no⟩)⟩
    · refine ⟨⟨_, rfl⟩, sG.trans s', fun l hl => ?_⟩
      rcases Nat.lt_or_ge l i with lt | ge
      · exact no l lt
      · have : l = i := by omega
        subst this
        exact c
  · obtain ⟨⟨v4, rfl⟩, sG, no⟩ := hσ
    refine ⟨_, rfl, a, _, dx, _, _, rfl, sG _ _ h1, T.cl, T.noa 1 "letters" rfl, rfl, _, _, rfl, rfl, ?_⟩
    exact qin (Q := Q) (d := ((N.L - 1 : Nat) : Int)) (by omega) (hQ _ (N.L - 1) sG (.inr ⟨no, rfl⟩))
/-! ### first -/
def heightsM (g : List (Option Nat)) (S : Nat) : List Nat := (g.take S).filterMap id
def grpsOf (N : Net) (p : List Nat) : List (List Nat) := (List.range N.S).map fun s => runE N.E [s] p
inductive PileR (N : Net) (g : List (Option Nat)) (h : Nat) : Nat → List Nat → Prop
  | zero : PileR N g h 0 []
  | succ {i : Nat} {p : List Nat} {r : Nat} : PileR N g h i p → IsLeast (fun l => leadsB N.E g l (h - 1 - i) (grpsOf N p)) N.L r → PileR N g h (i + 1) (p ++ [r])
def LastOf (N : Net) (p : List Nat) (r : Option (Nat × List Nat)) : Prop := (∃ s, s < N.S ∧ hasE N.F (runE N.E [s] p) = true ∧ (∀ s', s' < s → hasE N.F (runE N.E [s'] p) = false) ∧ r = some (s, p)) ∨ ((∀ s, s < N.S → hasE N.F (runE N.E [s] p) = false) ∧ r = none)
def FirstOf (N : Net) (r : Option (Nat × List Nat)) : Prop := ∃ g, DFull N.E N.F N.n g ∧ ((heightsM g N.S = [] ∧ r = none) ∨ ∃ h p, h ∈ heightsM g N.S ∧ (∀ y ∈ heightsM g N.S, h ≤ y) ∧ PileR N g h h p ∧ LastOf N p r)
def OptAt (K : PySem.W.Frag) (H : Hp) (v : V) : Option (Nat × List Nat) → Prop
  | none => v = .non
  | some (s, p) => ∃ q b, v = .ref q ∧ SqT K H q [.int (s : Nat), .ref b] ∧ SqT K H b (nV p)
def sp_first (P : Program) (w : World) (K : PySem.W.Frag) : SpN := fun vs H Q => ∃ a N, vs = [.ref a] ∧ NetAt P w K H a N ∧ ∀ v H' r, Same H H' → OptAt K H' v r → FirstOf N r → Q v H'
theorem len_first : ∀ vs H Q, sp_first P w K vs H Q → vs.length = 1 := fun _ _ _ ⟨_, _, e, _⟩ => by subst e; rfl
theorem cat_any {H : Hp} {Q : VK} {a b : Addr} {xs ys : List V} (ha : SqT K H a xs) (hb : SqT K H b ys) (hl : xs.length + ys.length ≤ sizeLine) (q : ∀ p H', Same H H' → SqT K H' p (xs ++ ys) → Q (.ref p) H') : rCatA K (.ref a) (.ref b) H Q :=
  ⟨a, b, xs, ys, rfl, rfl, ha, hb, hl, fun e => q b H (Same.refl H) (by rw [e]; exact hb), fun _ e => q a H (Same.refl H) (by rw [e, List.append_nil]; exact ha), fun _ _ p hp => q p _ (same_new hp) (SqT.of upd_same)⟩
theorem heights_snoc {g : List (Option Nat)} {i : Nat} {o : Option Nat} (h : g[i]? = some o) : heightsM g (i + 1) = heightsM g i ++ o.toList := by
  unfold heightsM
  rw [take_snoc h, List.filterMap_append]
  cases o <;> rfl
theorem heights_len (g : List (Option Nat)) (i : Nat) : (heightsM g i).length ≤ i := by
  unfold heightsM
  have := List.length_filterMap_le id (g.take i)
  rw [List.length_take] at this
  omega
theorem grps_get {N : Net} {p : List Nat} {s : Nat} (h : s < N.S) : (grpsOf N p)[s]? = some (runE N.E [s] p) := by
  unfold grpsOf
  rw [List.getElem?_map, List.getElem?_range h]
  rfl
theorem grps_len (N : Net) (p : List Nat) : (grpsOf N p).length = N.S := by unfold grpsOf; rw [List.length_map, List.length_range]
theorem PileR.len {N : Net} {g : List (Option Nat)} {h i : Nat} {p : List Nat} (r : PileR N g h i p) : p.length = i := by
  induction r with
  | zero => rfl
  | succ _ _ ih => rw [List.length_append, ih]; rfl
theorem sc_first : FnScope ["net", "distance", "heights", "groups", "pile", "left", "letter", "state", "group"] ["net"] (defScope s_first) := ⟨rfl, rfl, rfl, by decide +kernel, rfl, by decide +kernel, by decide +kernel⟩
/- slots: 0 net, 1 distance, 2 heights, 3 groups, 4 pile, 5 left, 6 letter, 7 state, 8 group -/
theorem ok_first (T : Tb K mg) (c_distances : Cal P w K mg base (He.ga K "distances") 2 ["net"] (sp_distances P w K)) (c_least_letter : Cal P w K mg base (He.ga K "least_letter") 4 ["net", "groups", "distance", "left"] (sp_least_letter P w K)) (c_Net_moved : Cal P w K mg base (He.ma K (NetC K) "moved") 2 ["self", "nodes", "letter"] (sp_Net_moved P w K)) (c_Net_has_end : Cal P w K mg base (He.ma K (NetC K) "has_end") 1 ["self", "nodes"] (sp_Net_has_end P w K)) : Cal P w K mg base (He.ga K "first") 5 ["net"] (sp_first P w K) := by
  obtain ⟨fd, F⟩ := T.dfs 20 d_first rfl
  refine cal_of (N := ["net", "distance", "heights", "groups", "pile", "left", "letter", "state", "group"]) F sc_first (F.bindsN fun _ _ _ _ _ _ us hl => match us, hl with | [_], _ => rfl) (len_first) fun cdv A outer s H vs Q E hr h => ?_
  refine ⟨(tSeq (tAsg (tDo (sp_distances P w K) (tCons (tVar 0) tNil)) (gName 1)) (tSeq (tAsg (tLc (iRng1 (tCons (tFld K (tVar 0) "states") tNil)) (gName 7) (tTest (tOp rNotN (tOp (rIxL K) (tVar 1) (tVar 7)) (tC .non))) (tOp (rIxL K) (tVar 1) (tVar 7)) [7]) (gName 2)) (tSeq (tIfS (tTest (tOp rEqI (tCB (rLen2 K) (tCons (tVar 2) tNil)) (tC (.int 0)))) (tRet (tC .non)) tNext) (tSeq (tAsg (tLc (iRng1 (tCons (tFld K (tVar 0) "states") tNil)) (gName 7) tYes (tTup (tCons (tVar 7) tNil)) [7]) (gName 3)) (tSeq (tAsg (tTup tNil) (gName 4)) (tSeq (tFor (iRng3 (tCons (tOp rMi (tCB (rMin K) (tCons (tVar 2) tNil)) (tC (.int 1))) (tCons (tUn (rU fun i => .int (-i)) (tC (.int 1))) (tCons (tUn (rU fun i => .int (-i)) (tC (.int 1))) tNil)))) (gName 5) (tSeq (tAsg (tDo (sp_least_letter P w K) (tCons (tVar 0) (tCons (tVar 3) (tCons (tVar 1) (tCons (tVar 5) tNil))))) (gName 6)) (tSeq (tAsg (tLc (iList K (tVar 3)) (gName 8) tYes (tMe K "moved" (sp_Net_moved P w K) (tVar 0) (tCons (tVar 8) (tCons (tVar 6) tNil))) [8]) (gName 3)) (tAsg (tOp (rCatA K) (tVar 4) (tTup (tCons (tVar 6) tNil))) (gName 4))))) (tSeq (tFor (iRng1 (tCons (tFld K (tVar 0) "states") tNil)) (gName 7) (tIfS (tB (tMe K "has_end" (sp_Net_has_end P w K) (tVar 0) (tCons (tOp (rIxL K) (tVar 3) (tVar 7)) tNil))) (tRet (tTup (tCons (tVar 7) (tCons (tVar 4) tNil)))) tNext)) (tRet (tC .non))))))))), (pss_cons (ps_set (i := 1) sc_first.nd rfl (by first | exact Or.inl rfl | exact Or.inr rfl) (pcal c_distances (hr.mono (by decide)) (T.glo 12 "distances" rfl) (pa_cons (pv 0) pa_nil))) (pss_cons (ps_setLc (i := 2) (own := [("state", 7)]) (g := (gName 7)) (tt := (tTest (tOp rNotN (tOp (rIxL K) (tVar 1) (tVar 7)) (tC .non)))) (te := (tOp (rIxL K) (tVar 1) (tVar 7))) rfl sc_first.nd rfl rfl (sw_true rfl rfl rfl (by decide +kernel)) (pi_range1 (by rfl) (T.fre 1 "range" rfl) (pa_cons (pfld rfl (pv 0)) pa_nil)) (blkOk_by (N := ["net", "distance", "heights", "groups", "pile", "left", "letter", "state", "group"]) (sc := defScope s_first) (by decide +kernel)) (fun _ _ _ _ _ => (pg_name (i := 7) sc_first.nd rfl (by first | exact Or.inl rfl | exact Or.inr rfl))) (fun _ _ _ _ _ => (pts_one (pt_cmpR op_notN1 (pe_ix ix_list (pv 1) (pv 7) (fun _ _ => rfl)) pe_non (nomark _)))) (fun _ _ _ _ _ => (pe_ix ix_list (pv 1) (pv 7) (fun _ _ => rfl)))) (pss_cons (ps_if (pt_cmpR op_eqI (pe_callB call_len2 (by rfl) (T.fre 0 "len" rfl) kb_len (pa_cons (pv 2) pa_nil)) pe_int (nomark _)) (pss_one (ps_ret pe_non)) pss_nil) (pss_cons (ps_setLc (i := 3) (own := [("state", 7)]) (g := (gName 7)) (tt := tYes) (te := (tTup (tCons (tVar 7) tNil))) rfl sc_first.nd rfl rfl (sw_true rfl rfl rfl (by decide +kernel)) (pi_range1 (by rfl) (T.fre 1 "range" rfl) (pa_cons (pfld rfl (pv 0)) pa_nil)) (blkOk_by (N := ["net", "distance", "heights", "groups", "pile", "left", "letter", "state", "group"]) (sc := defScope s_first) (by decide +kernel)) (fun _ _ _ _ _ => (pg_name (i := 7) sc_first.nd rfl (by first | exact Or.inl rfl | exact Or.inr rfl))) (fun _ _ _ _ _ => pts_nil) (fun _ _ _ _ _ => (pe_tup (pa_cons (pv 7) pa_nil)))) (pss_cons (ps_set (i := 4) sc_first.nd rfl (by first | exact Or.inl rfl | exact Or.inr rfl) (pe_tup pa_nil)) (pss_cons (ps_for PassesOwn.never rfl (pi_range3 (by rfl) (T.fre 1 "range" rfl) (pa_cons (pe_op op_sub (pe_callB (cr_min rfl) (by rfl) (T.fre 11 "min" rfl) kb_min (pa_cons (pv 2) pa_nil)) pe_int) (pa_cons (pe_un un_neg pe_int) (pa_cons (pe_un un_neg pe_int) pa_nil)))) (pg_name (i := 5) sc_first.nd rfl (by first | exact Or.inl rfl | exact Or.inr rfl)) (pss_cons (ps_set (i := 6) sc_first.nd rfl (by first | exact Or.inl rfl | exact Or.inr rfl) (pcal c_least_letter (hr.mono (by decide)) (T.glo 14 "least_letter" rfl) (pa_cons (pv 0) (pa_cons (pv 3) (pa_cons (pv 1) (pa_cons (pv 5) pa_nil)))))) (pss_cons (ps_setLc (i := 3) (own := [("group", 8)]) (g := (gName 8)) (tt := tYes) (te := (tMe K "moved" (sp_Net_moved P w K) (tVar 0) (tCons (tVar 8) (tCons (tVar 6) tNil)))) rfl sc_first.nd rfl rfl (sw_true rfl rfl rfl (by decide +kernel)) (pi_list (pv 3)) (blkOk_by (N := ["net", "distance", "heights", "groups", "pile", "left", "letter", "state", "group"]) (sc := defScope s_first) (by decide +kernel)) (fun _ _ _ _ _ => (pg_name (i := 8) sc_first.nd rfl (by first | exact Or.inl rfl | exact Or.inr rfl))) (fun _ _ _ _ _ => pts_nil) (fun _ _ _ _ _ => (pmet rfl (pv 0) T.cl (T.met 1 "moved" rfl) c_Net_moved (hr.mono (by decide)) (pa_cons (pv 8) (pa_cons (pv 6) pa_nil))))) (pss_one (ps_set (i := 4) sc_first.nd rfl (by first | exact Or.inl rfl | exact Or.inr rfl) (pe_op op_catA (pv 4) (pe_tup (pa_cons (pv 6) pa_nil)))))))) (pss_cons (ps_for PassesOwn.never rfl (pi_range1 (by rfl) (T.fre 1 "range" rfl) (pa_cons (pfld rfl (pv 0)) pa_nil)) (pg_name (i := 7) sc_first.nd rfl (by first | exact Or.inl rfl | exact Or.inr rfl)) (pss_one (ps_if (pt_val (pmet rfl (pv 0) T.cl (T.met 2 "has_end" rfl) c_Net_has_end (hr.mono (by decide)) (pa_cons (pe_ix ix_list (pv 3) (pv 7) (fun _ _ => rfl)) pa_nil)) (by intro _; rfl)) (pss_one (ps_ret (pe_tup (pa_cons (pv 7) (pa_cons (pv 4) pa_nil))))) pss_nil))) (pss_one (ps_ret pe_non))))))))), ?_⟩
  obtain ⟨a, N, rfl, hN, hQ⟩ := h
  obtain ⟨hw, dx, pe, pf, pd, h1, h2, h3, h4⟩ := id hN
  have n1 := hw.n1
  have sn := hw.sn
  have en := hw.en
  have hE2 : ∀ e ∈ N.E, e.2.2 < N.n := fun e he => (hw.ef e he).2.2
  have gN : ∀ {G : Hp}, Same H G → G a = some (.ins (NetC K) dx (fsN N pe pf pd)) := fun s => s _ _ h1
  refine ⟨_, rfl, a, N, rfl, hN, fun d H1 g s1 hd hd1 df => ?_⟩
  have gl : g.length = N.n := df.1
  have hdG : ∀ {G : Hp}, Same H1 G → G d = some (.lst (oV g)) := fun s => s _ _ hd1
  dsimp only [tSeq, tIfS, tOr, tAnd, tNot, tB, tTest, tCB, tCons, tNil, tNext, tAsg, tRet, tDrop, tDo, gName]
  refine tlcR (n := N.S) (fun R h => ⟨_, rfl, a, _, dx, _, _, rfl, gN s1, T.cl, T.noa 0 "states" rfl, rfl, h⟩) (by omega) (fun i => nV (heightsM g i)) rfl (fun D hD i G hi sm hG => ?_) fun dh hdh G2 s2 hG2 => ?_
  · obtain ⟨o, ho⟩ : ∃ o, g[i]? = some o := ⟨g[i]'(by omega), by simp⟩
    have hs := heights_snoc ho
    have hl := heights_len g i
    refine ⟨rfl, ⟨_, rfl, _, rfl, d, _, _, _, rfl, rfl, SqL.of (hdG sm), atI_n rfl (oV_get ho), rfl, _, rfl, iteB (fun c => ?_) fun c => ?_⟩⟩
    · cases o with
      | none => exact nomatch c
      | some k =>
        refine ⟨_, rfl, _, rfl, d, _, _, _, rfl, rfl, SqL.of (hdG sm), atI_n rfl (oV_get ho), _, hG, by rw [nV_len]; exact line_lt (by omega), same_put sm hD, ?_⟩
        rw [hs]
        exact nV_snoc _ _
    · cases o with
      | none =>
        refine ⟨sm, ?_⟩
        rw [hs]
        show G D = some (.lst (nV (heightsM g i ++ [])))
        rw [List.append_nil]
        exact hG
      | some k => exact nomatch c
  have s12 := s1.trans s2
  have hl := heights_len g N.S
  refine ⟨_, rfl, dh, _, rfl, .inl (SqL.of hG2), _, _, rfl, rfl, _, rfl, iteB (fun c => ?_) fun c => ?_⟩
  · have e0 : heightsM g N.S = [] := by
      have := of_decide_eq_true c
      rw [nV_len] at this
      exact List.eq_nil_of_length_eq_zero (by omega)
    exact hQ .non G2 none s12 rfl ⟨g, df, .inl ⟨e0, rfl⟩⟩
  have pos : 0 < (heightsM g N.S).length := by
    have := of_decide_eq_false c
    rw [nV_len] at this
    omega
  refine tlcRM (R := rGr K) (n := N.S) (fun R h => ⟨_, rfl, a, _, dx, _, _, rfl, gN s12, T.cl, T.noa 0 "states" rfl, rfl, h⟩) (by omega) (grpsOf N []) (grps_len _ _) (fun D hD i G hi sG hG => ?_) (fun dg hdg G3 s3 lg => ?_)
  · refine ⟨rfl, ⟨_, rfl, (sz1000 (n := 1) (by decide) : 1 ≤ sizeLine), fun t ht => ?_⟩⟩
    have st := same_new (o := .tup [.int (i : Nat)]) ht
    obtain ⟨rs, r1, r2, r3⟩ := hG.app (t := t) (e := [i]) (ko_gr K).stb st (SqT.of upd_same)
    refine ⟨_, r1, ?_, same_put (sG.trans st) hD, ?_⟩
    · rw [r2, List.length_take, grps_len]
      exact line_lt (by omega)
    · rw [take_snoc (grps_get hi)]
      exact r3
  refine ⟨Nat.zero_le _, fun dp hdp => ?_⟩
  have s4 := same_new (o := .tup []) hdp
  have s23 := s2.trans (s3.trans s4)
  have s34 := s3.trans s4
  refine ⟨_, rfl, dh, nI (heightsM g N.S), rfl, SqL.of (by rw [← nV_I]; exact s34 _ _ hG2), by rw [nI_len]; exact pos, fun m hm hmin => ?_⟩
  obtain ⟨h, hh, rfl⟩ := List.mem_map.mp hm
  have hmin' : ∀ y ∈ heightsM g N.S, h ≤ y := fun y hy => Int.ofNat_le.mp (hmin y (mem_nI.mpr hy))
  have hln : h < N.n := by
    unfold heightsM at hh
    obtain ⟨o, ho1, ho2⟩ := List.mem_filterMap.mp hh
    obtain ⟨x, hx⟩ := List.mem_iff_getElem?.mp (List.mem_of_mem_take ho1)
    have : o = some h := ho2
    subst this
    have xl : x < N.n := by
      have := (List.getElem?_eq_some_iff.mp hx).1
      omega
    exact isD_lt ((df.2 x xl h).mp hx) xl hE2
  refine ⟨_, _, rfl, rfl, _, rfl, _, rfl, (h : Int) - 1, -1, -1, h, rfl, ?_, ?_⟩
  · have := RgC.neg (i := (h : Int) - 1) (j := -1) (by omega) (by omega) (by omega) (by omega)
    rw [show ((h : Int) - 1 - -1).toNat = h by omega] at this
    exact this
  refine for_rangeC (fun i σ G => (∃ dg dp v5 v6 p, σ = [some (.ref a), some (.ref d), some (.ref dh), some (.ref dg), some (.ref dp), v5, v6, none, none] ∧ LM (rGr K) G dg (grpsOf N p) ∧ SqT K G dp (nV p) ∧ PileR N g h i p) ∧ Same H1 G)
    ⟨⟨dg, dp, _, _, [], rfl, lg.same (ko_gr K).stb s4, SqT.of upd_same, .zero⟩, s23⟩ (fun i σ G hi hσ => ?_) (fun σ G hσ => ?_)
  · obtain ⟨⟨dg, dp, v5, v6, p, rfl, lg, hp, pr⟩, sG⟩ := hσ
    have left : ((h : Int) - 1 + (i : Nat) * -1) = ((h - 1 - i : Nat) : Int) := by omega
    have plen := pr.len
    refine ⟨_, rfl, _, rfl, _, rfl, _, rfl, a, dg, d, N, _, g, h - 1 - i, by rw [← left], hN.same (s1.trans sG), lg, hdG sG, gl, fun G5 r s5 il => ?_⟩
    have sG5 := sG.trans s5
    obtain ⟨qs, q1, q2⟩ := id (lg.same (ko_gr K).stb s5)
    refine ⟨_, rfl, dg, rfl, ⟨_, SqL.of q1⟩, fun D hD => ?_⟩
    refine walkL (xs := qs.map V.ref) (fun j G => Same G5 G ∧ LM (rGr K) G D ((grpsOf N (p ++ [r])).take j)) ⟨same_new hD, LM.new D G5⟩ (fun j G z => z.1.seq (SqL.of q1)) (fun j v G hv z => ?_) (fun G z => ?_)
    · obtain ⟨sG6, lG⟩ := z
      obtain ⟨q, e, rfl, he, hq⟩ := pr_get q2 hv
      have js : j < N.S := by
        have := (List.getElem?_eq_some_iff.mp he).1
        rw [grps_len] at this
        exact this
      rw [grps_get js] at he
      cases he
      have sA := sG5.trans sG6
      refine ⟨rfl, ⟨_, rfl, a, dx, _, rfl, gN (s1.trans sA), rfl, _, rfl, _, rfl, a, N, q, _, r, rfl, hN.same (s1.trans sA), Same.tup sG6 hq, fun t G7 s7 ht => ?_⟩⟩
      obtain ⟨rs, r1, r2, r3⟩ := lG.app (t := t) (e := mvE N.E (runE N.E [j] p) r) (ko_gr K).stb s7 ht
      refine ⟨_, r1, ?_, same_put (sG6.trans s7) hD, ?_⟩
      · rw [r2, List.length_take, grps_len]
        exact line_lt (by omega)
      · rw [take_snoc (grps_get js), runE_snoc]
        exact r3
    · obtain ⟨sG6, lG⟩ := z
      rw [pr_len q2, grps_len, ← grps_len N (p ++ [r]), List.take_length] at lG
      have sp : SqT K G dp (nV p) := Same.tup (s5.trans sG6) hp
      refine ⟨_, rfl, _, rfl, (sz1000 (n := 1) (by decide) : 1 ≤ sizeLine), fun t ht => ?_⟩
      have st := same_new (o := .tup [.int (r : Nat)]) ht
      have hlen : (nV p).length + 1 ≤ sizeLine := by
        rw [nV_len, plen]
        exact line_lt (by omega)
      refine cat_any (xs := nV p) (ys := [.int (r : Nat)]) (Same.tup st sp) (SqT.of upd_same) hlen fun np G8 s8 hnp => ?_
      have s68 := st.trans s8
      refine ⟨⟨D, np, _, _, p ++ [r], rfl, lG.same (ko_gr K).stb s68, by rw [← nV_snoc]; exact hnp, .succ pr il⟩, (sG5.trans sG6).trans s68⟩
  · obtain ⟨⟨dg, dp, v5, v6, p, rfl, lg, hp, pr⟩, sG⟩ := hσ
    obtain ⟨qs, q1, q2⟩ := id lg
    dsimp only [tSeq, tIfS, tOr, tAnd, tNot, tB, tTest, tCB, tCons, tNil, tNext, tAsg, tRet, tDrop, tDo, gName]
    refine tforR (n := N.S) (fun R h => ⟨_, rfl, a, _, dx, _, _, rfl, gN (s1.trans sG), T.cl, T.noa 0 "states" rfl, rfl, h⟩) (by omega) (fun i σ G => (∃ v7, σ = [some (.ref a), some (.ref d), some (.ref dh), some (.ref dg), some (.ref dp), v5, v6, v7, none]) ∧ Same H1 G ∧ LM (rGr K) G dg (grpsOf N p) ∧ SqT K G dp (nV p) ∧ ∀ s, s < i → hasE N.F (runE N.E [s] p) = false)
      ⟨⟨_, rfl⟩, sG, lg, hp, fun s h => absurd h (Nat.not_lt_zero _)⟩ (fun i σ G hi hσ => ?_) (fun σ G hσ => ?_)
    · obtain ⟨⟨v7, rfl⟩, sG, lg, hp, no⟩ := hσ
      obtain ⟨qs, q1, q2⟩ := id lg
      obtain ⟨q, hq1, hq2⟩ := pr_ix q2 (grps_get (p := p) hi)
      have rl := run_len (E := N.E) (s := i) (w := p)
      refine ⟨_, rfl, a, dx, _, rfl, gN (s1.trans sG), rfl, _, rfl, _, rfl, dg, _, _, _, rfl, rfl, SqL.of q1, atI_n rfl hq1, a, N, q, _, rfl, hN.same (s1.trans sG), hq2, by omega, fun G5 s5 => ⟨_, rfl, iteB (fun c => ?_) fun c => ?_⟩⟩
      · refine ⟨_, rfl, _, rfl, (sz1000 (n := 2) (by decide) : 2 ≤ sizeLine), fun t ht => ?_⟩
        have st := same_new (o := .tup [.int (i : Nat), .ref dp]) ht
        exact hQ _ _ (some (i, p)) (s1.trans ((sG.trans s5).trans st)) ⟨t, dp, rfl, SqT.of upd_same, Same.tup (s5.trans st) hp⟩ ⟨g, df, .inr ⟨h, p, hh, hmin', pr, .inl ⟨i, hi, c, no, rfl⟩⟩⟩
      · refine ⟨⟨_, rfl⟩, sG.trans s5, lg.same (ko_gr K).stb s5, Same.tup s5 hp, fun s hs => ?_⟩
        rcases Nat.lt_or_ge s i with lt | ge
        · exact no s lt
        · have : s = i := by omega
          subst this
          exact c
    · obtain ⟨⟨v7, rfl⟩, sG, lg, hp, no⟩ := hσ
      exact hQ .non G none (s1.trans sG) rfl ⟨g, df, .inr ⟨h, p, hh, hmin', pr, .inr ⟨no, rfl⟩⟩⟩
end
end K23
/-! K23Data -/
set_option Elab.async false
set_option linter.all false
set_option maxRecDepth 100000
set_option maxHeartbeats 4000000
/-! Data of the law: equal or not, of a class or not. -/
namespace K23
open PySem PySem.Spec PyProof.Rows L2
def dI (is : List Int) : PyData := .tuple (is.map .int)
def dT (es : List (List Int)) : PyData := .tuple (es.map dI)
theorem canI : ∀ is : List Int, PyData.canLayAll0 (is.map .int) = true
  | [] => rfl
  | i :: is => by
    show (PyData.canLay0 (.int i) && PyData.canLayAll0 (is.map .int)) = true
    rw [canI is]
    rfl
theorem depI : ∀ is : List Int, PyData.depthAll (is.map .int) = 0
  | [] => rfl
  | i :: is => by
    show max 0 (PyData.depthAll (is.map .int)) = 0
    rw [depI is]
    rfl
theorem can_dI (is : List Int) : PyData.canLay0 (dI is) = true := canI is
theorem dep_dI (is : List Int) : PyData.depth (dI is) = 1 := by
  show PyData.depthAll (is.map .int) + 1 = 1
  rw [depI]
theorem shaped_dI (is : List Int) : SeqAt.shaped (dI is) = true := by
  unfold SeqAt.shaped
  rw [can_dI, dep_dI]
  rfl
theorem canT : ∀ es : List (List Int), PyData.canLayAll0 (es.map dI) = true
  | [] => rfl
  | e :: es => by
    show (PyData.canLay0 (dI e) && PyData.canLayAll0 (es.map dI)) = true
    rw [canT es, can_dI]
    rfl
theorem depT : ∀ es : List (List Int), PyData.depthAll (es.map dI) ≤ 1
  | [] => Nat.zero_le _
  | e :: es => by
    show max (PyData.depth (dI e)) (PyData.depthAll (es.map dI)) ≤ 1
    have := depT es
    rw [dep_dI]
    omega
theorem shaped_dT (es : List (List Int)) : SeqAt.shaped (dT es) = true := by
  unfold SeqAt.shaped
  have h1 : PyData.canLay0 (dT es) = true := canT es
  have h2 : PyData.depth (dT es) ≤ 64 := by
    show PyData.depthAll (es.map dI) + 1 ≤ 64
    have := depT es
    omega
  rw [h1, decide_eq_true h2]
  rfl
theorem shaped_int (i : Int) : SeqAt.shaped (.int i) = true := rfl
theorem eqv_int (i j : Int) : PyData.eqv (.int i) (.int j) = decide (i = j) := by
  show (i == j) = _
  by_cases h : i = j <;> simp [h]
theorem eqvAll_ints : ∀ a b : List Int, PyData.eqvAll (a.map .int) (b.map .int) = decide (a = b)
  | [], [] => rfl
  | [], y :: b => rfl
  | x :: a, [] => rfl
  | x :: a, y :: b => by
    show (PyData.eqv (.int x) (.int y) && PyData.eqvAll (a.map .int) (b.map .int)) = _
    rw [eqv_int, eqvAll_ints a b]
    by_cases h1 : x = y <;> by_cases h2 : a = b <;> simp [h1, h2]
theorem eqv_dI (a b : List Int) : PyData.eqv (dI a) (dI b) = decide (a = b) := by
  show PyData.eqvAll (a.map .int) (b.map .int) = _
  exact eqvAll_ints a b
theorem eqv_dT (a : List (List Int)) : PyData.eqv (dT a) (dT a) = true := SeqAt.eqv_refl _ (canT a)
section
variable {K : PySem.W.Frag} {H : Hp}
theorem dpAll_ints : ∀ is : List Int, DpAll K H (is.map V.int) (is.map .int)
  | [] => .nil
  | i :: is => .cons (.int i) (dpAll_ints is)
theorem dp_ints {a : Addr} {is : List Int} (h : SqT K H a (is.map V.int)) : Dp K H (.ref a) (dI is) := .tup h (dpAll_ints is)
theorem dpAll_trs : ∀ {ps : List Addr} {es : List Tr}, TrsAt K H ps es → DpAll K H (ps.map V.ref) ((es.map trI).map dI)
  | _, _, .nil => .nil
  | _, _, .cons r t => .cons (dp_ints r) (dpAll_trs t)
theorem dp_trs {a : Addr} {es : List Tr} (h : EdT K H a es) : Dp K H (.ref a) (dT (es.map trI)) := let ⟨_, h1, h2⟩ := h; .tup h1 (dpAll_trs h2)
theorem eq_trs {a b : Addr} {es : List Tr} {Q : VK} (h1 : EdT K H a es) (h2 : EdT K H b es) (q : Q (.bl true) H) : rEqD K (.ref a) (.ref b) H Q := ⟨_, _, dp_trs h1, dp_trs h2, shaped_dT _, shaped_dT _, qbl (Q := Q) (eqv_dT _) q⟩
theorem eq_nV {a b : Addr} {l : List Nat} {Q : VK} (h1 : SqT K H a (nV l)) (h2 : SqT K H b (nV l)) (q : Q (.bl true) H) : rEqD K (.ref a) (.ref b) H Q := by
  rw [nV_I] at h1 h2
  exact ⟨_, _, dp_ints h1, dp_ints h2, shaped_dI _, shaped_dI _, qbl (Q := Q) (by rw [eqv_dI]; exact decide_eq_true rfl) q⟩
/-! ### classes -/
theorem kt_ii : PySem.W.kitOne K (.type "int") (.type "int") = some true := kit_ty (by decide +kernel)
theorem kt_ib : PySem.W.kitOne K (.type "int") (.type "bool") = some false := kit_ty (by decide +kernel)
theorem kt_tt : PySem.W.kitOne K (.type "tuple") (.type "tuple") = some true := kit_ty (by decide +kernel)
theorem kt_bb : PySem.W.kitOne K (.type "bool") (.type "bool") = some true := kit_ty (by decide +kernel)
theorem ty_tup {a : Addr} {xs : List V} (h : SqT K H a xs) : TyX K H (.ref a) (.type "tuple") := by
  rcases h with (h | ⟨o, h⟩) | ⟨o, its, n, h1, h2, _⟩
  · exact .base (.tup h)
  · exact .fTuple h
  · exact .kTuple h1 h2
theorem isi_tup {a : Addr} {xs : List V} {Q : VK} (h : SqT K H a xs) (q : Q (.bl true) H) : rIsi K [.ref a, .ty "tuple"] H Q := ⟨_, _, _, _, true, rfl, .ty "tuple", ty_tup h, kit_ty (by decide +kernel), q⟩
theorem isi_int {i : Int} {Q : VK} (q : Q (.bl true) H) : rIsi K [.int i, .ty "int"] H Q := ⟨_, _, _, _, true, rfl, .ty "int", .base (.int i), kit_ty (by decide +kernel), q⟩
theorem isi_nbool {i : Int} {Q : VK} (q : Q (.bl false) H) : rIsi K [.int i, .ty "bool"] H Q := ⟨_, _, _, _, false, rfl, .ty "bool", .base (.int i), kit_ty (by decide +kernel), q⟩
theorem isi_bool {b : Bool} {Q : VK} (q : Q (.bl true) H) : rIsi K [.bl b, .ty "bool"] H Q := ⟨_, _, _, _, true, rfl, .ty "bool", .base (.bl b), kit_ty (by decide +kernel), q⟩
end
end K23
/-! K23La -/
set_option Elab.async false
set_option linter.all false
set_option maxRecDepth 100000
set_option maxHeartbeats 4000000
namespace K23
open PySem PySem.Spec PyProof.Rows L2
section
variable {P : Program} {w : World} {K : PySem.W.Frag} {mg : Str → Option Value} {base : Heap}
def sp_L_numbers (P : Program) (w : World) (K : PySem.W.Frag) : SpN := fun vs H Q => ∃ (a : Addr) (ns : List Int) (c : Nat), vs = [.ref a, .int (c : Nat)] ∧ SqL K H a (ns.map V.int) ∧ c ≤ 1000 ∧
  ∀ d H' ms, Same H H' → H d = none → H' d = some (.lst (nV ms)) → ms.length = c → (∀ m ∈ ms, m < 1000000) → Q (.ref d) H'
theorem len_L_numbers : ∀ vs H Q, sp_L_numbers P w K vs H Q → vs.length = 2 := fun _ _ _ ⟨_, _, _, e, _⟩ => by subst e; rfl
theorem mod_nat (x : Int) {m : Nat} (hm : 0 < m) : ∃ k : Nat, x % (m : Int) = (k : Nat) ∧ k < m := by
  refine ⟨(x % (m : Int)).toNat, ?_, ?_⟩
  · have := Int.emod_nonneg x (b := (m : Int)) (by omega)
    omega
  · have := Int.emod_lt_of_pos x (b := (m : Int)) (by omega)
    have := Int.emod_nonneg x (b := (m : Int)) (by omega)
    omega
theorem ints_get {ns : List Int} {i : Nat} (h : i < ns.length) : ∃ x, (ns.map V.int)[i]? = some (.int x) := ⟨ns[i], by simp [h]⟩
theorem sc_L_numbers : FnScope ["_law_script", "_law_count", "_law_rest", "_law_by_digits", "_law_numbers_here", "_law_k", "_law_cell", "_law_mixed"] ["_law_script", "_law_count"] (defScope s_L_numbers) := ⟨rfl, rfl, rfl, by decide +kernel, rfl, by decide +kernel, by decide +kernel⟩
/- slots: 0 _law_script, 1 _law_count, 2 _law_rest, 3 _law_by_digits, 4 _law_numbers_here, 5 _law_k, 6 _law_cell, 7 _law_mixed -/
theorem ok_L_numbers (T : Tb K mg)  : Cal P w K mg base (He.ga K "_law_numbers") 1 ["_law_script", "_law_count"] (sp_L_numbers P w K) := by
  obtain ⟨fd, F⟩ := T.dfs 21 d_L_numbers rfl
  refine cal_of (N := ["_law_script", "_law_count", "_law_rest", "_law_by_digits", "_law_numbers_here", "_law_k", "_law_cell", "_law_mixed"]) F sc_L_numbers (F.bindsN fun _ _ _ _ _ _ us hl => match us, hl with | [_, _], _ => rfl) (len_L_numbers) fun cdv A outer s H vs Q E hr h => ?_
  refine ⟨(tSeq (tAsg (tC (.int 0)) (gName 2)) (C8.tCut (tIfS (tTest (tOp rGt (tCB (rLen2 K) (tCons (tVar 0) tNil)) (tC (.int 0)))) (tAsg (tOp (rIxL K) (tVar 0) (tC (.int 0))) (gName 2)) tNext) (tSeq (tAsg (tOp rGe (tVar 2) (tOp rPw (tC (.int 10)) (tC (.int 18)))) (gName 3)) (tSeq (tAsg (tLst tNil) (gName 4)) (tSeq (tFor (iRng1 (tCons (tVar 1) tNil)) (gName 5) (tIfS (tAnd (tB (tVar 3)) (tTest (tOp rGt (tVar 2) (tC (.int 0))))) (tSeq (tDrop (tBM K "list" rAppend (tVar 4) (tCons (tOp rMo (tCB rInt1 (tCons (tVar 2) tNil)) (tC (.int 1000000))) tNil))) (tAsg (tOp rFd (tVar 2) (tC (.int 1000000))) (gName 2))) (tSeq (tAsg (tC (.int 13)) (gName 6)) (C8.tCut (tIfS (tTest (tOp rGt (tCB (rLen2 K) (tCons (tVar 0) tNil)) (tC (.int 0)))) (tAsg (tOp rPl (tOp (rIxL K) (tVar 0) (tOp rMo (tCB rInt1 (tCons (tVar 5) tNil)) (tCB (rLen2 K) (tCons (tVar 0) tNil)))) (tOp rTi (tC (.int 7919)) (tVar 5))) (gName 6)) tNext) (tSeq (tAsg (tOp rMo (tCB rInt1 (tCons (tOp rTi (tVar 6) (tC (.int 48271))) tNil)) (tC (.int 2147483647))) (gName 7)) (tDrop (tBM K "list" rAppend (tVar 4) (tCons (tOp rMo (tCB rInt1 (tCons (tOp rMo (tCB rInt1 (tCons (tOp rTi (tVar 7) (tC (.int 69621))) tNil)) (tC (.int 2147483629))) tNil)) (tC (.int 1000000))) tNil)))))))) (tRet (tVar 4))))))), (pss_cons (ps_set (i := 2) sc_L_numbers.nd rfl (by first | exact Or.inl rfl | exact Or.inr rfl) pe_int) (C8.pss_cut (ps_if (pt_cmpR op_gt (pe_callB call_len2 (by rfl) (T.fre 0 "len" rfl) kb_len (pa_cons (pv 0) pa_nil)) pe_int (nomark _)) (pss_one (ps_set (i := 2) sc_L_numbers.nd rfl (by first | exact Or.inl rfl | exact Or.inr rfl) (pe_ix ix_list (pv 0) pe_int (fun _ _ => rfl)))) pss_nil) (pss_cons (ps_set (i := 3) sc_L_numbers.nd rfl (by first | exact Or.inl rfl | exact Or.inr rfl) (pe_cmpR op_ge (pv 2) (pe_op op_pow pe_int pe_int) (nomark _))) (pss_cons (ps_set (i := 4) sc_L_numbers.nd rfl (by first | exact Or.inl rfl | exact Or.inr rfl) (pe_lst pa_nil)) (pss_cons (ps_for PassesOwn.never rfl (pi_range1 (by rfl) (T.fre 1 "range" rfl) (pa_cons (pv 1) pa_nil)) (pg_name (i := 5) sc_L_numbers.nd rfl (by first | exact Or.inl rfl | exact Or.inr rfl)) (pss_one (ps_if ((pw_and (pt_val (pv 3) (by intro _; rfl)) (pw_and1 (pt_cmpR op_gt (pv 2) pe_int (nomark _))))).pt (pss_cons (ps_expr (pe_bm PySem.F.plainAttrs_list PySem.F.slot_list_append PySem.F.type_list_append mt_append (pv 4) (pa_cons (pe_op op_mod (pe_callTy call_int1n (by rfl) (T.fre 7 "int" rfl) kb_int (pa_cons (pv 2) pa_nil)) pe_int) pa_nil))) (pss_one (ps_set (i := 2) sc_L_numbers.nd rfl (by first | exact Or.inl rfl | exact Or.inr rfl) (pe_op op_fdiv (pv 2) pe_int)))) (pss_cons (ps_set (i := 6) sc_L_numbers.nd rfl (by first | exact Or.inl rfl | exact Or.inr rfl) pe_int) (C8.pss_cut (ps_if (pt_cmpR op_gt (pe_callB call_len2 (by rfl) (T.fre 0 "len" rfl) kb_len (pa_cons (pv 0) pa_nil)) pe_int (nomark _)) (pss_one (ps_set (i := 6) sc_L_numbers.nd rfl (by first | exact Or.inl rfl | exact Or.inr rfl) (pe_op op_add (pe_ix ix_list (pv 0) (pe_op op_mod (pe_callTy call_int1n (by rfl) (T.fre 7 "int" rfl) kb_int (pa_cons (pv 5) pa_nil)) (pe_callB call_len2 (by rfl) (T.fre 0 "len" rfl) kb_len (pa_cons (pv 0) pa_nil))) (fun _ _ => rfl)) (pe_op op_mul pe_int (pv 5))))) pss_nil) (pss_cons (ps_set (i := 7) sc_L_numbers.nd rfl (by first | exact Or.inl rfl | exact Or.inr rfl) (pe_op op_mod (pe_callTy call_int1n (by rfl) (T.fre 7 "int" rfl) kb_int (pa_cons (pe_op op_mul (pv 6) pe_int) pa_nil)) pe_int)) (pss_one (ps_expr (pe_bm PySem.F.plainAttrs_list PySem.F.slot_list_append PySem.F.type_list_append mt_append (pv 4) (pa_cons (pe_op op_mod (pe_callTy call_int1n (by rfl) (T.fre 7 "int" rfl) kb_int (pa_cons (pe_op op_mod (pe_callTy call_int1n (by rfl) (T.fre 7 "int" rfl) kb_int (pa_cons (pe_op op_mul (pv 7) pe_int) pa_nil)) pe_int) pa_nil)) pe_int) pa_nil)))))))))) (pss_one (ps_ret (pv 4)))))))), ?_⟩
  obtain ⟨a, ns, c, rfl, hS, hc, hQ⟩ := h
  refine ⟨fun σ G => (∃ r : Int, σ = [some (.ref a), some (.int c), some (.int r), none, none, none, none, none]) ∧ H = G, ?_, ?_⟩
  · refine ⟨_, rfl, a, _, rfl, .inl hS, _, _, rfl, rfl, _, rfl, iteB (fun q => ?_) fun _ => ⟨⟨_, rfl⟩, rfl⟩⟩
    have lt : 0 < ns.length := by
      have := of_decide_eq_true q
      rw [List.length_map] at this
      omega
    obtain ⟨x, hx⟩ := ints_get lt
    exact ⟨_, rfl, a, _, _, _, rfl, rfl, hS, atI_n (n := 0) rfl hx, ⟨x, rfl⟩, rfl⟩
  rintro σ G ⟨⟨r, rfl⟩, rfl⟩
  refine ⟨_, rfl, _, _, rfl, rfl, ⟨by decide, by decide, by decide⟩, _, _, rfl, rfl, ?_⟩
  refine ⟨Nat.zero_le _, fun d hd => ?_⟩
  dsimp only [tSeq, tIfS, tOr, tAnd, tNot, tB, tTest, tCB, tCons, tNil, tNext, tAsg, tRet, tDrop, tDo, gName]
  refine tforR (n := c) (fun R h => ⟨_, rfl, h⟩) (by omega) (fun i σ G => (∃ (r : Int) (b : Bool) (v5 v6 v7 : Option V), σ = [some (.ref a), some (.int c), some (.int r), some (.bl b), some (.ref d), v5, v6, v7]) ∧ Same H G ∧ ∃ ms, G d = some (.lst (nV ms)) ∧ ms.length = i ∧ ∀ m ∈ ms, m < 1000000)
    ⟨⟨_, _, _, _, _, rfl⟩, same_new hd, [], upd_same, rfl, fun m h => nomatch h⟩ (fun i σ G hi hσ => ?_) (fun σ G hσ => ?_)
  · obtain ⟨⟨r, b, v5, v6, v7, rfl⟩, sG, ms, hG, hl, hm⟩ := hσ
    have app : ∀ (x : Int), (∃ G', G' = upd G d (.lst (nV ms ++ [.int (x % 1000000)])) ∧ Same H G' ∧ ∃ ms', G' d = some (.lst (nV ms')) ∧ ms'.length = i + 1 ∧ ∀ m ∈ ms', m < 1000000) := fun x => by
      obtain ⟨k, e, lt⟩ := mod_nat x (m := 1000000) (by decide)
      refine ⟨_, rfl, same_put sG hd, ms ++ [k], ?_, by rw [List.length_append, hl]; rfl, fun m hm' => ?_⟩
      · rw [upd_same, ← nV_snoc]
        have e' : x % 1000000 = (k : Int) := e
        rw [e']
      · rcases List.mem_append.mp hm' with z | z
        · exact hm m z
        · rw [List.mem_singleton.mp z]
          exact lt
    have small : (nV ms).length < sizeLine := by
      rw [nV_len, hl]
      exact line_lt (by omega)
    have other : ∀ (r : Int), C8.tCut (tIfS (tTest (tOp rGt (tCB (rLen2 K) (tCons (tVar 0) tNil)) (tC (.int 0)))) (tAsg (tOp rPl (tOp (rIxL K) (tVar 0) (tOp rMo (tCB rInt1 (tCons (tVar 5) tNil)) (tCB (rLen2 K) (tCons (tVar 0) tNil)))) (tOp rTi (tC (.int 7919)) (tVar 5))) (gName 6)) tNext) (tSeq (tAsg (tOp rMo (tCB rInt1 (tCons (tOp rTi (tVar 6) (tC (.int 48271))) tNil)) (tC (.int 2147483647))) (gName 7)) (tDrop (tBM K "list" rAppend (tVar 4) (tCons (tOp rMo (tCB rInt1 (tCons (tOp rMo (tCB rInt1 (tCons (tOp rTi (tVar 7) (tC (.int 69621))) tNil)) (tC (.int 2147483629))) tNil)) (tC (.int 1000000))) tNil))))
        { nx := fun σ G => (∃ (r : Int) (b : Bool) (v5 v6 v7 : Option V), σ = [some (.ref a), some (.int c), some (.int r), some (.bl b), some (.ref d), v5, v6, v7]) ∧ Same H G ∧ ∃ ms, G d = some (.lst (nV ms)) ∧ ms.length = i + 1 ∧ ∀ m ∈ ms, m < 1000000, rt := Q }
        [some (.ref a), some (.int c), some (.int r), some (.bl b), some (.ref d), some (.int i), some (.int 13), v7] G := fun r => by
      refine ⟨fun σ G' => (∃ x : Int, σ = [some (.ref a), some (.int c), some (.int r), some (.bl b), some (.ref d), some (.int i), some (.int x), v7]) ∧ G = G', ?_, ?_⟩
      · refine ⟨_, rfl, a, _, rfl, .inl (sG.seq hS), _, _, rfl, rfl, _, rfl, iteB (fun q => ?_) fun _ => ⟨⟨_, rfl⟩, rfl⟩⟩
        have lt : 0 < ns.length := by
          have := of_decide_eq_true q
          rw [List.length_map] at this
          omega
        obtain ⟨k, e, kl⟩ := mod_nat (i : Int) lt
        obtain ⟨x, hx⟩ := ints_get kl
        refine ⟨_, rfl, _, rfl, .inl ⟨_, rfl, _, rfl, a, _, rfl, .inl (sG.seq hS), _, _, rfl, rfl, by rw [List.length_map]; omega, a, _, _, _, rfl, rfl, sG.seq hS, atI_n (n := k) (by rw [List.length_map]; exact e) hx, _, rfl, _, _, rfl, rfl, .inl ⟨by decide, by decide⟩, _, _, rfl, rfl, ⟨_, rfl⟩, rfl⟩⟩
      · rintro σ G' ⟨⟨x, rfl⟩, rfl⟩
        obtain ⟨G2, e2, s2, ms', g2, l2, m2⟩ := app (((x * 48271) % 2147483647 * 69621) % 2147483629)
        refine ⟨_, rfl, _, _, rfl, rfl, .inr ⟨by decide, by decide⟩, .inl ⟨_, rfl, _, _, rfl, rfl, (by show (0 : Int) < _; decide), ?_⟩⟩
        refine ⟨_, rfl, .inl ⟨rfl, _, SqL.of hG⟩, _, rfl, _, _, rfl, rfl, .inr ⟨by decide, by decide⟩, .inl ⟨_, rfl, _, _, rfl, rfl, (by show (0 : Int) < _; decide), .inl ⟨_, rfl, _, _, rfl, rfl, (by show (0 : Int) < _; decide), d, _, _, rfl, rfl, hG, small, ⟨_, _, _, _, _, rfl⟩, ?_⟩⟩⟩
        rw [← e2]
        exact ⟨s2, ms', g2, l2, m2⟩
    refine ⟨_, rfl, _, rfl, iteB (fun _ => ?_) fun _ => other r⟩
    refine ⟨_, rfl, _, _, rfl, rfl, _, rfl, iteB (fun _ => ?_) fun _ => other r⟩
    obtain ⟨G2, e2, s2, ms', g2, l2, m2⟩ := app r
    refine ⟨_, rfl, .inl ⟨rfl, _, SqL.of hG⟩, _, rfl, .inl ⟨_, rfl, _, _, rfl, rfl, (by show (0 : Int) < _; decide), d, _, _, rfl, rfl, hG, small, ?_⟩⟩
    refine ⟨_, rfl, _, _, rfl, rfl, ⟨by decide, by decide⟩, ⟨_, _, _, _, _, rfl⟩, ?_⟩
    rw [← e2]
    exact ⟨s2, ms', g2, l2, m2⟩
  · obtain ⟨⟨r, b, v5, v6, v7, rfl⟩, sG, ms, hG, hl, hm⟩ := hσ
    exact ⟨_, rfl, hQ d G ms sG hd hG hl hm⟩
end
end K23
/-! K23Lb -/
set_option Elab.async false
set_option linter.all false
set_option maxRecDepth 100000
set_option maxHeartbeats 4000000
namespace K23
open PySem PySem.Spec PyProof.Rows L2
section
variable {P : Program} {w : World} {K : PySem.W.Frag} {mg : Str → Option Value} {base : Heap}
theorem nV_at {ns : List Nat} {i n : Nat} (h : ns[i]? = some n) : (nV ns)[i]? = some (.int (n : Nat)) := by
  unfold nV
  rw [List.getElem?_map, h]
  rfl
structure PartRng (flat : Bool) (cnt : Nat) (N : Net) : Prop where
  ef : ∀ e ∈ N.E, e.1 < N.n ∧ e.2.1 < N.L ∧ e.2.2 < N.n
  fl : flat = true → ∀ e ∈ N.E, N.S ≤ e.2.2
  el : N.E.length ≤ cnt
  ff : ∀ f ∈ N.F, f < N.n
  fn : N.F.length ≤ N.n
def sp_L_parts (P : Program) (w : World) (K : PySem.W.Frag) : SpN := fun vs H Q => ∃ (a z : Addr) (ms : List Nat) (at_ S L fu cnt : Nat) (flat : Bool), vs = [.ref a, .int (at_ : Nat), .ref z, .bl flat] ∧ SqL K H a (nV ms) ∧ SqL K H z (nV [S, L, fu, cnt]) ∧ (1 ≤ S ∧ S ≤ 1000 ∧ 1 ≤ L ∧ L ≤ 1000 ∧ fu ≤ 1000 ∧ cnt ≤ 1000 ∧ at_ + cnt < ms.length) ∧
  ∀ q e f H' N, Same H H' → SqT K H' q [.int (N.S : Nat), .int (N.L : Nat), .int (N.n : Nat), .ref e, .ref f] → H e = none → LM (rTr K) H' e N.E → H f = none → H' f = some (.lst (nV N.F)) → N.S = S → N.L = L → N.n = S + fu → PartRng flat cnt N → Q (.ref q) H'
theorem len_L_parts : ∀ vs H Q, sp_L_parts P w K vs H Q → vs.length = 4 := fun _ _ _ ⟨_, _, _, _, _, _, _, _, _, e, _⟩ => by subst e; rfl
theorem sc_L_parts : FnScope ["_law_numbers_here", "_law_at", "_law_sizes", "_law_flat", "_law_states", "_law_letters", "_law_nodes", "_law_low", "_law_edges", "_law_k", "_law_number", "_law_rest", "_law_ends", "_law_node"] ["_law_numbers_here", "_law_at", "_law_sizes", "_law_flat"] (defScope s_L_parts) := ⟨rfl, rfl, rfl, by decide +kernel, rfl, by decide +kernel, by decide +kernel⟩
/- slots: 0 _law_numbers_here, 1 _law_at, 2 _law_sizes, 3 _law_flat, 4 _law_states, 5 _law_letters, 6 _law_nodes, 7 _law_low, 8 _law_edges, 9 _law_k, 10 _law_number, 11 _law_rest, 12 _law_ends, 13 _law_node -/
theorem ok_L_parts (T : Tb K mg)  : Cal P w K mg base (He.ga K "_law_parts") 1 ["_law_numbers_here", "_law_at", "_law_sizes", "_law_flat"] (sp_L_parts P w K) := by
  obtain ⟨fd, F⟩ := T.dfs 22 d_L_parts rfl
  refine cal_of (N := ["_law_numbers_here", "_law_at", "_law_sizes", "_law_flat", "_law_states", "_law_letters", "_law_nodes", "_law_low", "_law_edges", "_law_k", "_law_number", "_law_rest", "_law_ends", "_law_node"]) F sc_L_parts (F.bindsN fun _ _ _ _ _ _ us hl => match us, hl with | [_, _, _, _], _ => rfl) (len_L_parts) fun cdv A outer s H vs Q E hr h => ?_
  refine ⟨(tSeq (tAsg (tOp (rIxL K) (tVar 2) (tC (.int 0))) (gName 4)) (tSeq (tAsg (tOp (rIxL K) (tVar 2) (tC (.int 1))) (gName 5)) (tSeq (tAsg (tOp rPl (tVar 4) (tOp (rIxL K) (tVar 2) (tC (.int 2)))) (gName 6)) (tSeq (tAsg (tC (.int 0)) (gName 7)) (C8.tCut (tIfS (tB (tVar 3)) (tAsg (tVar 4) (gName 7)) tNext) (tSeq (tAsg (tLst tNil) (gName 8)) (tSeq (tFor (iRng1 (tCons (tOp (rIxL K) (tVar 2) (tC (.int 3))) tNil)) (gName 9) (tSeq (tAsg (tOp (rIxL K) (tVar 0) (tOp rPl (tOp rPl (tVar 1) (tC (.int 1))) (tVar 9))) (gName 10)) (tIfS (tTest (tOp rLt (tVar 7) (tVar 6))) (tSeq (tAsg (tOp rFd (tVar 10) (tVar 6)) (gName 11)) (tDrop (tBM K "list" rAppend (tVar 8) (tCons (tTup (tCons (tOp rMo (tCB rInt1 (tCons (tVar 10) tNil)) (tVar 6)) (tCons (tOp rMo (tCB rInt1 (tCons (tVar 11) tNil)) (tVar 5)) (tCons (tOp rPl (tVar 7) (tOp rMo (tCB rInt1 (tCons (tOp rFd (tVar 11) (tVar 5)) tNil)) (tOp rMi (tVar 6) (tVar 7)))) tNil)))) tNil)))) tNext))) (tSeq (tAsg (tLst tNil) (gName 12)) (tSeq (tAsg (tOp (rIxL K) (tVar 0) (tVar 1)) (gName 11)) (tSeq (tFor (iRng1 (tCons (tVar 6) tNil)) (gName 13) (C8.tCut (tIfS (tTest (tOp rEqI (tOp rMo (tCB rInt1 (tCons (tVar 11) tNil)) (tC (.int 2))) (tC (.int 1)))) (tDrop (tBM K "list" rAppend (tVar 12) (tCons (tVar 13) tNil))) tNext) (tSeq (tAsg (tOp rFd (tVar 11) (tC (.int 2))) (gName 11)) (tIfS (tTest (tOp rEqI (tVar 11) (tC (.int 0)))) (tAsg (tOp rPl (tOp rTi (tC (.int 5)) (tVar 13)) (tC (.int 3))) (gName 11)) tNext)))) (tRet (tTup (tCons (tVar 4) (tCons (tVar 5) (tCons (tVar 6) (tCons (tVar 8) (tCons (tVar 12) tNil))))))))))))))))), (pss_cons (ps_set (i := 4) sc_L_parts.nd rfl (by first | exact Or.inl rfl | exact Or.inr rfl) (pe_ix ix_list (pv 2) pe_int (fun _ _ => rfl))) (pss_cons (ps_set (i := 5) sc_L_parts.nd rfl (by first | exact Or.inl rfl | exact Or.inr rfl) (pe_ix ix_list (pv 2) pe_int (fun _ _ => rfl))) (pss_cons (ps_set (i := 6) sc_L_parts.nd rfl (by first | exact Or.inl rfl | exact Or.inr rfl) (pe_op op_add (pv 4) (pe_ix ix_list (pv 2) pe_int (fun _ _ => rfl)))) (pss_cons (ps_set (i := 7) sc_L_parts.nd rfl (by first | exact Or.inl rfl | exact Or.inr rfl) pe_int) (C8.pss_cut (ps_if (pt_val (pv 3) (by intro _; rfl)) (pss_one (ps_set (i := 7) sc_L_parts.nd rfl (by first | exact Or.inl rfl | exact Or.inr rfl) (pv 4))) pss_nil) (pss_cons (ps_set (i := 8) sc_L_parts.nd rfl (by first | exact Or.inl rfl | exact Or.inr rfl) (pe_lst pa_nil)) (pss_cons (ps_for PassesOwn.never rfl (pi_range1 (by rfl) (T.fre 1 "range" rfl) (pa_cons (pe_ix ix_list (pv 2) pe_int (fun _ _ => rfl)) pa_nil)) (pg_name (i := 9) sc_L_parts.nd rfl (by first | exact Or.inl rfl | exact Or.inr rfl)) (pss_cons (ps_set (i := 10) sc_L_parts.nd rfl (by first | exact Or.inl rfl | exact Or.inr rfl) (pe_ix ix_list (pv 0) (pe_op op_add (pe_op op_add (pv 1) pe_int) (pv 9)) (fun _ _ => rfl))) (pss_one (ps_if (pt_cmpR op_lt (pv 7) (pv 6) (nomark _)) (pss_cons (ps_set (i := 11) sc_L_parts.nd rfl (by first | exact Or.inl rfl | exact Or.inr rfl) (pe_op op_fdiv (pv 10) (pv 6))) (pss_one (ps_expr (pe_bm PySem.F.plainAttrs_list PySem.F.slot_list_append PySem.F.type_list_append mt_append (pv 8) (pa_cons (pe_tup (pa_cons (pe_op op_mod (pe_callTy call_int1n (by rfl) (T.fre 7 "int" rfl) kb_int (pa_cons (pv 10) pa_nil)) (pv 6)) (pa_cons (pe_op op_mod (pe_callTy call_int1n (by rfl) (T.fre 7 "int" rfl) kb_int (pa_cons (pv 11) pa_nil)) (pv 5)) (pa_cons (pe_op op_add (pv 7) (pe_op op_mod (pe_callTy call_int1n (by rfl) (T.fre 7 "int" rfl) kb_int (pa_cons (pe_op op_fdiv (pv 11) (pv 5)) pa_nil)) (pe_op op_sub (pv 6) (pv 7)))) pa_nil)))) pa_nil))))) pss_nil)))) (pss_cons (ps_set (i := 12) sc_L_parts.nd rfl (by first | exact Or.inl rfl | exact Or.inr rfl) (pe_lst pa_nil)) (pss_cons (ps_set (i := 11) sc_L_parts.nd rfl (by first | exact Or.inl rfl | exact Or.inr rfl) (pe_ix ix_list (pv 0) (pv 1) (fun _ _ => rfl))) (pss_cons (ps_for PassesOwn.never rfl (pi_range1 (by rfl) (T.fre 1 "range" rfl) (pa_cons (pv 6) pa_nil)) (pg_name (i := 13) sc_L_parts.nd rfl (by first | exact Or.inl rfl | exact Or.inr rfl)) (C8.pss_cut (ps_if (pt_cmpR op_eqI (pe_op op_mod (pe_callTy call_int1n (by rfl) (T.fre 7 "int" rfl) kb_int (pa_cons (pv 11) pa_nil)) pe_int) pe_int (nomark _)) (pss_one (ps_expr (pe_bm PySem.F.plainAttrs_list PySem.F.slot_list_append PySem.F.type_list_append mt_append (pv 12) (pa_cons (pv 13) pa_nil)))) pss_nil) (pss_cons (ps_set (i := 11) sc_L_parts.nd rfl (by first | exact Or.inl rfl | exact Or.inr rfl) (pe_op op_fdiv (pv 11) pe_int)) (pss_one (ps_if (pt_cmpR op_eqI (pv 11) pe_int (nomark _)) (pss_one (ps_set (i := 11) sc_L_parts.nd rfl (by first | exact Or.inl rfl | exact Or.inr rfl) (pe_op op_add (pe_op op_mul pe_int (pv 13)) pe_int))) pss_nil))))) (pss_one (ps_ret (pe_tup (pa_cons (pv 4) (pa_cons (pv 5) (pa_cons (pv 6) (pa_cons (pv 8) (pa_cons (pv 12) pa_nil)))))))))))))))))), ?_⟩
  obtain ⟨a, z, ms, at_, S, L, fu, cnt, flat, rfl, hA, hZ, ⟨b1, b2, b3, b4, b5, b6, b7⟩, hQ⟩ := h
  refine ⟨_, rfl, z, _, _, _, rfl, rfl, hZ, atI_n (n := 0) rfl rfl, ?_⟩
  refine ⟨_, rfl, z, _, _, _, rfl, rfl, hZ, atI_n (n := 1) rfl rfl, ?_⟩
  refine ⟨_, rfl, _, rfl, z, _, _, _, rfl, rfl, hZ, atI_n (n := 2) rfl rfl, _, _, rfl, rfl, ?_⟩
  refine ⟨fun σ G => (∃ lo : Nat, σ = [some (.ref a), some (.int at_), some (.ref z), some (.bl flat), some (.int S), some (.int L), some (.int (S + fu : Nat)), some (.int (lo : Nat)), none, none, none, none, none, none] ∧ (flat = true → lo = S) ∧ lo ≤ S) ∧ H = G, ?_, ?_⟩
  · refine ⟨_, rfl, _, rfl, iteB (fun c => ?_) fun c => ?_⟩
    · exact ⟨_, rfl, ⟨S, by rw [Int.natCast_add]; rfl, fun _ => rfl, Nat.le_refl _⟩, rfl⟩
    · exact ⟨⟨0, by rw [Int.natCast_add]; rfl, fun e => (by rw [c] at e; cases e), Nat.zero_le _⟩, rfl⟩
  rintro σ G ⟨⟨lo, rfl, lo1, lo2⟩, rfl⟩
  refine ⟨Nat.zero_le _, fun d hd => ?_⟩
  have nn : S + fu ≤ 2000 := by omega
  dsimp only [tSeq, tIfS, tOr, tAnd, tNot, tB, tTest, tCB, tCons, tNil, tNext, tAsg, tRet, tDrop, tDo, gName]
  have pos : 0 < S + fu := by omega
  refine tforR (n := cnt) (fun R h => ⟨_, rfl, z, _, _, _, rfl, rfl, (same_new hd).seq hZ, atI_n (n := 3) rfl rfl, h⟩) (by omega)
    (fun i σ G => (∃ v9 v10 v11, σ = [some (.ref a), some (.int at_), some (.ref z), some (.bl flat), some (.int S), some (.int L), some (.int (S + fu : Nat)), some (.int (lo : Nat)), some (.ref d), v9, v10, v11, none, none]) ∧ Same H G ∧ ∃ es, LM (rTr K) G d es ∧ es.length ≤ i ∧ ∀ e ∈ es, e.1 < S + fu ∧ e.2.1 < L ∧ e.2.2 < S + fu ∧ lo ≤ e.2.2)
    ⟨⟨_, _, _, rfl⟩, same_new hd, [], LM.new d H, Nat.le_refl _, fun e h => nomatch h⟩ (fun i σ G hi hσ => ?_) (fun σ G hσ => ?_)
  · obtain ⟨⟨v9, v10, v11, rfl⟩, sG, es, hG, el, er⟩ := hσ
    obtain ⟨m, hm⟩ : ∃ m, ms[at_ + 1 + i]? = some m := ⟨ms[at_ + 1 + i]'(by omega), by simp⟩
    refine ⟨_, rfl, _, rfl, _, _, rfl, rfl, _, rfl, _, _, rfl, rfl, a, _, _, _, rfl, rfl, sG.seq hA, atI_n (n := at_ + 1 + i) (by rw [Int.natCast_add, Int.natCast_add]; rfl) (nV_at hm), ?_⟩
    refine ⟨_, rfl, _, rfl, _, _, rfl, rfl, _, rfl, iteB (fun c => ?_) fun _ => ⟨⟨_, _, _, rfl⟩, sG, es, hG, by omega, er⟩⟩
    have lt : lo < S + fu := Int.ofNat_lt.mp (of_decide_eq_true c)
    refine ⟨_, rfl, _, rfl, _, _, rfl, rfl, ⟨by omega, by omega⟩, ?_⟩
    obtain ⟨ps0, g1, g2⟩ := id hG
    refine ⟨_, rfl, .inl ⟨rfl, _, SqL.of g1⟩, _, rfl, .inl ⟨_, rfl, _, rfl, _, _, rfl, rfl, (by show (0 : Int) < _; omega), ?_⟩⟩
    refine ⟨_, rfl, .inl ⟨_, rfl, _, rfl, _, _, rfl, rfl, (by show (0 : Int) < _; omega), ?_⟩⟩
    refine ⟨_, rfl, _, rfl, _, rfl, _, _, rfl, rfl, ⟨by omega, by omega⟩, .inl ⟨_, rfl, _, rfl, _, rfl, _, _, rfl, rfl, _, _, rfl, rfl, (by show (0 : Int) < _; omega), _, _, rfl, rfl, (sz1000 (n := 3) (by decide) : 3 ≤ sizeLine), fun t ht => ?_⟩⟩
    have st := same_new (o := .tup [.int ((m : Int) % ((S + fu : Nat) : Int)), .int ((m : Int) / ((S + fu : Nat) : Int) % (L : Int)), .int ((lo : Int) + (m : Int) / ((S + fu : Nat) : Int) / (L : Int) % (((S + fu : Nat) : Int) - (lo : Int)))]) ht
    have e3 : ((S + fu : Nat) : Int) - (lo : Int) = ((S + fu - lo : Nat) : Int) := (Int.ofNat_sub (Nat.le_of_lt lt)).symm
    obtain ⟨rs, r1, r2, r3⟩ := hG.app (t := t) (e := (m % (S + fu), m / (S + fu) % L, lo + m / (S + fu) / L % (S + fu - lo))) (stb_tr K) st (SqT.of (by
      rw [upd_same, e3]
      unfold trV
      simp only [Int.natCast_add, Int.natCast_emod, Int.natCast_ediv]))
    refine ⟨d, _, _, rfl, rfl, r1, by rw [r2]; exact line_lt (by omega), ⟨_, _, _, rfl⟩, same_put (sG.trans st) hd, _, r3, by rw [List.length_append]; show _ + 1 ≤ _; omega, fun e he => ?_⟩
    rcases List.mem_append.mp he with q | q
    · exact er e q
    · rw [List.mem_singleton.mp q]
      have w1 := Nat.mod_lt m pos
      have w2 := Nat.mod_lt (m / (S + fu)) (show 0 < L by omega)
      have w3 := Nat.mod_lt (m / (S + fu) / L) (show 0 < S + fu - lo by omega)
      refine ⟨w1, w2, ?_, Nat.le_add_right _ _⟩
      show lo + m / (S + fu) / L % (S + fu - lo) < S + fu
      omega
  · obtain ⟨⟨v9, v10, v11, rfl⟩, sG, es, hG, el, er⟩ := hσ
    refine ⟨Nat.zero_le _, fun f hf => ?_⟩
    have hf0 : H f = none := sG.free hf
    have df : d ≠ f := by
      obtain ⟨_, g1, _⟩ := hG
      exact ne_of_none g1 hf
    have s1 := sG.trans (same_new (o := .lst []) hf)
    obtain ⟨m, hm⟩ : ∃ m, ms[at_]? = some m := ⟨ms[at_]'(by omega), by simp⟩
    refine ⟨_, rfl, _, rfl, a, _, _, _, rfl, rfl, s1.seq hA, atI_n rfl (nV_at hm), ?_⟩
    dsimp only [tSeq, tIfS, tOr, tAnd, tNot, tB, tTest, tCB, tCons, tNil, tNext, tAsg, tRet, tDrop, tDo, gName]
    refine tforR (n := S + fu) (fun R h => ⟨_, rfl, h⟩) (by omega)
      (fun i σ G => (∃ (r : Nat) (v9 v10 v13 : Option V), σ = [some (.ref a), some (.int at_), some (.ref z), some (.bl flat), some (.int S), some (.int L), some (.int (S + fu : Nat)), some (.int (lo : Nat)), some (.ref d), v9, v10, some (.int (r : Nat)), some (.ref f), v13]) ∧ Same H G ∧ LM (rTr K) G d es ∧ ∃ fs, G f = some (.lst (nV fs)) ∧ fs.length ≤ i ∧ ∀ x ∈ fs, x < S + fu)
      ⟨⟨m, _, _, _, rfl⟩, s1, hG.same (stb_tr K) (same_new hf), [], upd_same, Nat.le_refl _, fun e h => nomatch h⟩ (fun i σ G hi hσ => ?_) (fun σ G hσ => ?_)
    · obtain ⟨⟨r, v9, v10, v13, rfl⟩, sG, hG, fs, hF, fl, fr⟩ := hσ
      refine ⟨fun σ G => (∃ (v9 v10 : Option V), σ = [some (.ref a), some (.int at_), some (.ref z), some (.bl flat), some (.int S), some (.int L), some (.int (S + fu : Nat)), some (.int (lo : Nat)), some (.ref d), v9, v10, some (.int (r : Nat)), some (.ref f), some (.int (i : Nat))]) ∧ Same H G ∧ LM (rTr K) G d es ∧ ∃ fs, G f = some (.lst (nV fs)) ∧ fs.length ≤ i + 1 ∧ ∀ x ∈ fs, x < S + fu, ?_, ?_⟩
      · refine ⟨_, rfl, .inl ⟨_, rfl, _, _, rfl, rfl, (by show (0 : Int) < _; decide), _, _, rfl, rfl, _, rfl, iteB (fun _ => ?_) fun _ => ⟨⟨_, _, rfl⟩, sG, hG, fs, hF, by omega, fr⟩⟩⟩
        refine ⟨_, rfl, .inl ⟨rfl, _, SqL.of hF⟩, _, rfl, f, _, _, rfl, rfl, hF, by rw [nV_len]; exact line_lt (by omega), ⟨_, _, rfl⟩, same_put sG hf0, hG.keep (stb_tr K) (updT (.inl (by rw [hF]; exact True.intro))) (S := [f]) ((SameL.of (Same.refl G)).put (by simp)) (by simpa using df), fs ++ [i], ?_, by rw [List.length_append]; show _ + 1 ≤ _; omega, fun x hx => ?_⟩
        · rw [upd_same, nV_snoc]
        · rcases List.mem_append.mp hx with q | q
          · exact fr x q
          · rw [List.mem_singleton.mp q]
            exact hi
      · rintro σ G ⟨⟨v9, v10, rfl⟩, sG, hG, fs, hF, fl, fr⟩
        refine ⟨_, rfl, _, _, rfl, rfl, ⟨by decide, by decide⟩, ?_⟩
        refine ⟨_, rfl, _, _, rfl, rfl, _, rfl, iteB (fun _ => ?_) fun _ => ?_⟩
        · refine ⟨_, rfl, _, _, rfl, rfl, .inl ⟨by decide, by decide⟩, _, _, rfl, rfl, ⟨5 * i + 3, v9, v10, some (.int (i : Nat)), ?_⟩, sG, hG, fs, hF, fl, fr⟩
          rw [show ((5 * i + 3 : Nat) : Int) = 5 * (i : Int) + 3 by omega]
          rfl
        · refine ⟨⟨r / 2, v9, v10, some (.int (i : Nat)), ?_⟩, sG, hG, fs, hF, fl, fr⟩
          rw [show ((r / 2 : Nat) : Int) = (r : Int) / 2 by omega]
          rfl
    · obtain ⟨⟨r, v9, v10, v13, rfl⟩, sG, hG, fs, hF, fl, fr⟩ := hσ
      refine ⟨_, rfl, _, rfl, _, rfl, _, rfl, _, rfl, (sz1000 (n := 5) (by decide) : 5 ≤ sizeLine), fun q hq => ?_⟩
      have sq := same_new (o := .tup [.int (S : Nat), .int (L : Nat), .int (S + fu : Nat), .ref d, .ref f]) hq
      exact hQ q d f _ ⟨S, L, S + fu, es, fs⟩ (sG.trans sq) (SqT.of upd_same) hd (hG.same (stb_tr K) sq) hf0 (sq _ _ hF) rfl rfl rfl ⟨fun e he => ⟨(er e he).1, (er e he).2.1, (er e he).2.2.1⟩, fun e x hx => by rw [← lo1 e]; exact (er x hx).2.2.2, el, fr, fl⟩
/-! ### the net of the parts -/
def sp_L_net (P : Program) (w : World) (K : PySem.W.Frag) : SpN := fun vs H Q => ∃ (q e f : Addr) (N : Net), vs = [.ref q] ∧ SqT K H q [.int (N.S : Nat), .int (N.L : Nat), .int (N.n : Nat), .ref e, .ref f] ∧ LR K (rTr K) H e N.E ∧ SqL K H f (nV N.F) ∧ Raw N.S N.L N.n N.E N.F ∧
  ∀ x H' M, Same H H' → NetAt P w K H' x M → (∀ D ys, H D = some (.lst ys) → NetAt P w K (hide D H') x M) → MadeOf M N.S N.L N.n N.E N.F → Q (.ref x) H'
theorem len_L_net : ∀ vs H Q, sp_L_net P w K vs H Q → vs.length = 1 := fun _ _ _ ⟨_, _, _, _, e, _⟩ => by subst e; rfl
theorem sc_L_net : FnScope ["_law_parts_here"] ["_law_parts_here"] (defScope s_L_net) := ⟨rfl, rfl, rfl, by decide +kernel, rfl, by decide +kernel, by decide +kernel⟩
/- slots: 0 _law_parts_here -/
theorem ok_L_net (T : Tb K mg) (c_Net_init : Cal P w K mg base (He.ma K (NetC K) "__init__") 2 ["self", "states", "letters", "nodes", "edges", "ends"] (sp_Net_init P w K)) : Cal P w K mg base (He.ga K "_law_net") 4 ["_law_parts_here"] (sp_L_net P w K) := by
  obtain ⟨fd, F⟩ := T.dfs 23 d_L_net rfl
  refine cal_of (N := ["_law_parts_here"]) F sc_L_net (F.bindsN fun _ _ _ _ _ _ us hl => match us, hl with | [_], _ => rfl) (len_L_net) fun cdv A outer s H vs Q E hr h => ?_
  refine ⟨(tRet (tMk K (sp_Net_init P w K) (tCons (tOp (rIxT K) (tVar 0) (tC (.int 0))) (tCons (tOp (rIxT K) (tVar 0) (tC (.int 1))) (tCons (tOp (rIxT K) (tVar 0) (tC (.int 2))) (tCons (tCB (rListOf K) (tCons (tOp (rIxT K) (tVar 0) (tC (.int 3))) tNil)) (tCons (tCB (rListOf K) (tCons (tOp (rIxT K) (tVar 0) (tC (.int 4))) tNil)) tNil))))))), (pss_one (ps_ret (pmak rfl T.mkr c_Net_init (hr.mono (by decide)) (T.glo 39 "Net" rfl) (pa_cons (pe_ix ix_tup (pv 0) pe_int (fun _ _ => rfl)) (pa_cons (pe_ix ix_tup (pv 0) pe_int (fun _ _ => rfl)) (pa_cons (pe_ix ix_tup (pv 0) pe_int (fun _ _ => rfl)) (pa_cons (pe_callTy call_list_ofn (by rfl) (T.fre 5 "list" rfl) kb_list (pa_cons (pe_ix ix_tup (pv 0) pe_int (fun _ _ => rfl)) pa_nil)) (pa_cons (pe_callTy call_list_ofn (by rfl) (T.fre 5 "list" rfl) kb_list (pa_cons (pe_ix ix_tup (pv 0) pe_int (fun _ _ => rfl)) pa_nil)) pa_nil)))))))), ?_⟩
  obtain ⟨q, e, f, N, rfl, hq, ⟨ps, h1, h2⟩, hf, R, hQ⟩ := h
  refine ⟨_, rfl, q, _, _, _, rfl, rfl, hq, atI_n (n := 0) rfl rfl, _, rfl, q, _, _, _, rfl, rfl, hq, atI_n (n := 1) rfl rfl, _, rfl, q, _, _, _, rfl, rfl, hq, atI_n (n := 2) rfl rfl,
    _, rfl, q, _, _, _, rfl, rfl, hq, atI_n (n := 3) rfl rfl, e, _, rfl, .inl h1, fun e2 H1 s1 he2 he2' => ⟨_, rfl, q, _, _, _, rfl, rfl, Same.tup s1 hq, atI_n (n := 4) rfl rfl, f, _, rfl, .inl (s1.seq hf), fun f2 H2 s2 hf2 hf2' => fun x dz hx hdz ne => ?_⟩⟩
  have sm := mk_same (o := .own x) (o' := .ins (NetC K) dz []) hx hdz
  have s12 := s1.trans s2
  refine ⟨x, dz, e2, f2, N.S, N.L, N.n, N.E, N.F, rfl, upd_same, ⟨ps, .inl (SqL.of (sm _ _ (s2 _ _ he2'))), trs_same (s12.trans sm) h2⟩, SqL.of (sm _ _ hf2'), R, fun H' M sx hM hid made => ⟨rfl, hQ x H' M (s12.trans (make_same hx hdz sx)) hM (fun D ys hD => hid D ys (sm _ _ (s12 _ _ hD))) made⟩⟩
end
end K23
/-! K23Lc -/
set_option Elab.async false
set_option linter.all false
set_option maxRecDepth 100000
set_option maxHeartbeats 4000000
namespace K23
open PySem PySem.Spec PyProof.Rows L2
section
variable {P : Program} {w : World} {K : PySem.W.Frag} {mg : Str → Option Value} {base : Heap}
/-! ### numbers -/
def sp_L_is_number (P : Program) (w : World) (K : PySem.W.Frag) : SpN := fun vs H Q => ∃ i : Int, vs = [.int i] ∧ Q (.bl true) H
theorem len_L_is_number : ∀ vs H Q, sp_L_is_number P w K vs H Q → vs.length = 1 := fun _ _ _ ⟨_, e, _⟩ => by subst e; rfl
theorem sc_L_is_number : FnScope ["_law_x"] ["_law_x"] (defScope s_L_is_number) := ⟨rfl, rfl, rfl, by decide +kernel, rfl, by decide +kernel, by decide +kernel⟩
/- slots: 0 _law_x -/
theorem ok_L_is_number (T : Tb K mg)  : Cal P w K mg base (He.ga K "_law_is_number") 1 ["_law_x"] (sp_L_is_number P w K) := by
  obtain ⟨fd, F⟩ := T.dfs 24 d_L_is_number rfl
  refine cal_of (N := ["_law_x"]) F sc_L_is_number (F.bindsN fun _ _ _ _ _ _ us hl => match us, hl with | [_], _ => rfl) (len_L_is_number) fun cdv A outer s H vs Q E hr h => ?_
  refine ⟨(tRet (tAndV (tCB (rIsi K) (tCons (tVar 0) (tCons (tC (.ty "int")) tNil))) (tNotV (tCB (rIsi K) (tCons (tVar 0) (tCons (tC (.ty "bool")) tNil)))))), (pss_one (ps_ret (pe_and (pe_callB call_isi (by rfl) (T.fre 6 "isinstance" rfl) kb_isinstance (pa_cons (pv 0) (pa_cons (pe_bltn (v := V.ty "int") (by rfl) (T.fre 7 "int" rfl) kb_int rfl) pa_nil))) (pe_one (pe_not (pe_callB call_isi (by rfl) (T.fre 6 "isinstance" rfl) kb_isinstance (pa_cons (pv 0) (pa_cons (pe_bltn (v := V.ty "bool") (by rfl) (T.fre 8 "bool" rfl) kb_bool rfl) pa_nil)))))))), ?_⟩
  obtain ⟨i, rfl, hQ⟩ := h
  exact ⟨_, rfl, _, _, _, _, true, rfl, .ty "int", .base (.int i), kt_ii, _, rfl, _, rfl, _, _, _, _, false, rfl, .ty "bool", .base (.int i), kt_ib, _, rfl, hQ⟩
def sp_L_are_numbers (P : Program) (w : World) (K : PySem.W.Frag) : SpN := fun vs H Q => ∃ (a : Addr) (is : List Int), vs = [.ref a] ∧ SqT K H a (is.map V.int) ∧ Q (.bl true) H
theorem len_L_are_numbers : ∀ vs H Q, sp_L_are_numbers P w K vs H Q → vs.length = 1 := fun _ _ _ ⟨_, _, e, _⟩ => by subst e; rfl
theorem sc_L_are_numbers : FnScope ["_law_xs", "_law_x"] ["_law_xs"] (defScope s_L_are_numbers) := ⟨rfl, rfl, rfl, by decide +kernel, rfl, by decide +kernel, by decide +kernel⟩
/- slots: 0 _law_xs, 1 _law_x -/
theorem ok_L_are_numbers (T : Tb K mg) (c_L_is_number : Cal P w K mg base (He.ga K "_law_is_number") 1 ["_law_x"] (sp_L_is_number P w K)) : Cal P w K mg base (He.ga K "_law_are_numbers") 2 ["_law_xs"] (sp_L_are_numbers P w K) := by
  obtain ⟨fd, F⟩ := T.dfs 25 d_L_are_numbers rfl
  refine cal_of (N := ["_law_xs", "_law_x"]) F sc_L_are_numbers (F.bindsN fun _ _ _ _ _ _ us hl => match us, hl with | [_], _ => rfl) (len_L_are_numbers) fun cdv A outer s H vs Q E hr h => ?_
  refine ⟨(tSeq (tIfS (tNot (tB (tCB (rIsi K) (tCons (tVar 0) (tCons (tC (.ty "tuple")) tNil))))) (tRet (tC (.bl false))) tNext) (tSeq (tFor (iTup K (tVar 0)) (gName 1) (tIfS (tNot (tB (tDo (sp_L_is_number P w K) (tCons (tVar 1) tNil)))) (tRet (tC (.bl false))) tNext)) (tRet (tC (.bl true))))), (pss_cons (ps_if (pt_not (pt_val (pe_callB call_isi (by rfl) (T.fre 6 "isinstance" rfl) kb_isinstance (pa_cons (pv 0) (pa_cons (pe_bltn (v := V.ty "tuple") (by rfl) (T.fre 2 "tuple" rfl) kb_tuple rfl) pa_nil))) (by intro _; rfl))) (pss_one (ps_ret pe_bl)) pss_nil) (pss_cons (ps_for PassesOwn.never rfl (pi_tup (pv 0)) (pg_name (i := 1) sc_L_are_numbers.nd rfl (by first | exact Or.inl rfl | exact Or.inr rfl)) (pss_one (ps_if (pt_not (pt_val (pcal c_L_is_number (hr.mono (by decide)) (T.glo 19 "_law_is_number" rfl) (pa_cons (pv 1) pa_nil)) (by intro _; rfl))) (pss_one (ps_ret pe_bl)) pss_nil))) (pss_one (ps_ret pe_bl)))), ?_⟩
  obtain ⟨a, is, rfl, ha, hQ⟩ := h
  refine ⟨_, rfl, _, _, _, _, true, rfl, .ty "tuple", ty_tup ha, kt_tt, _, rfl, ?_⟩
  dsimp only [tSeq, tIfS, tOr, tAnd, tNot, tB, tTest, tCB, tCons, tNil, tNext, tAsg, tRet, tDrop, tDo, gName]
  refine tforT (fun R h => ⟨_, rfl, h⟩) (fun i σ G => (∃ v1, σ = [some (.ref a), v1]) ∧ H = G) ha ⟨⟨_, rfl⟩, rfl⟩ (fun i σ G p => by rw [← p.2]; exact ha) (fun i v σ G hv hσ => ?_) (fun σ G hσ => ?_)
  · obtain ⟨⟨v1, rfl⟩, rfl⟩ := hσ
    rw [List.getElem?_map] at hv
    cases e : is[i]? with
    | none =>
      rw [e] at hv
      cases hv
    | some x =>
      rw [e] at hv
      cases hv
      exact ⟨_, rfl, x, rfl, _, rfl, iteN rfl ⟨⟨_, rfl⟩, rfl⟩⟩
  · obtain ⟨⟨v1, rfl⟩, rfl⟩ := hσ
    exact hQ
/-! ### once -/
structure OnceK (K : PySem.W.Frag) {α : Type} (El : Hp → V → α → Prop) (lt : α → α → Prop) (dt : α → PyData) : Prop where
  stb : ∀ G G' v e, TK1 K G G' → El G v e → El G' v e
  tr : ∀ a b c, lt a b → lt b c → lt a c
  dp : ∀ G v e, El G v e → Dp K G v (dt e)
  sh : ∀ e, SeqAt.shaped (dt e) = true
  ne : ∀ a b, PyData.eqv (dt a) (dt b) = true ↔ a = b
theorem pv_get {α : Type} {R : V → α → Prop} : ∀ {xs : List V} {es : List α} {i : Nat} {v : V}, Paired R xs es → xs[i]? = some v → ∃ e, es[i]? = some e ∧ R v e
  | _, _, _, _, .nil, h => by simp at h
  | _, _, 0, v, .cons r t, h => by
    simp at h
    subst h
    exact ⟨_, rfl, r⟩
  | _, _, i + 1, v, .cons r t, h => by
    obtain ⟨e, h1, h2⟩ := pv_get (i := i) (v := v) t (by simpa using h)
    exact ⟨e, by simpa using h1, h2⟩
theorem atI_last {xs : List V} {v : V} : atI (xs ++ [v]) (-1) = some v := by
  unfold atI ixN
  rw [if_neg (by decide), if_pos (by rw [List.length_append]; show -((xs.length + 1 : Nat) : Int) ≤ -1; omega)]
  show (xs ++ [v])[((-1 : Int) + ((xs ++ [v]).length : Nat)).toNat]? = _
  rw [List.length_append, show ((-1 : Int) + ((xs.length + [v].length : Nat) : Nat)).toNat = xs.length by show ((-1 : Int) + ((xs.length + 1 : Nat) : Int)).toNat = _; omega]
  exact snoc_last
theorem once_loop {α : Type} {El : Hp → V → α → Prop} {lt : α → α → Prop} {dt : α → PyData} (ok : OnceK K El lt dt) {a d p : Addr} {D : Ends} {H G0 : Hp} {xs : List V} {es : List α} (hH0 : Same H G0) (hd0 : H d = none) (hd : G0 d = some (.lst [])) (hl : es.length ≤ 16777215) (sorted : es.Pairwise fun a b => a ≠ b → lt a b)
    (hp : SqL K G0 p xs) (npd : p ≠ d) (pr : Paired (El G0) xs es)
    (hD : ∀ G v2 ys fs, Same H G → G d = some (.lst ys) → Paired (El G) ys fs → fs.Pairwise lt → (∀ e, e ∈ fs ↔ e ∈ es) → fs.length ≤ es.length → D.nx [some (.ref a), some (.ref d), v2] G) :
    ∃ W : Nat → Nat → L2.St → Hp → Prop, (∃ m, W 0 m [some (.ref a), some (.ref d), none] G0) ∧ ∀ i m σ G, W i m σ G → ((Itl K p).stop i G ∧ D.nx σ G) ∨ ((Itl K p).go i G ∧ ∃ N : L2.St → Hp → Prop, (∀ σ' H', N σ' H' → ∃ m', m' < m ∧ W (i + 1) m' σ' H') ∧ ∀ x H', (Itl K p).yld i G x H' → gName 2 x σ H' fun σ2 H2 =>
      (tIfS (tOr (tTest (tOp rEqI (tCB (rLen2 K) (tCons (tVar 1) tNil)) (tC (.int 0)))) (tTest (tOp (rNeD K) (tOp (rIxL K) (tVar 1) (tUn (rU fun i => .int (-i)) (tC (.int 1)))) (tVar 2)))) (tDrop (tBM K "list" rAppend (tVar 1) (tCons (tVar 2) tNil))) tNext) { D with nx := N, ct := N, bk := D.nx } σ2 H2) := by
  have lp : xs.length = es.length := Paired.length pr
  refine for_list (xs := xs) (fun i σ G => (∃ v2, σ = [some (.ref a), some (.ref d), v2]) ∧ SameX d G0 G ∧ TK1 K G0 G ∧ ∃ ys fs, G d = some (.lst ys) ∧ Paired (El G) ys fs ∧ fs.Pairwise lt ∧ (∀ e, e ∈ fs ↔ e ∈ es.take i) ∧ fs.length ≤ i ∧ (∀ x, fs.getLast? = some x → x ∈ es.take i))
    ⟨⟨_, rfl⟩, fun _ _ _ e => e, fun _ _ e => e, [], [], hd, .nil, .nil, fun e => ⟨fun h => (nomatch h), fun h => (nomatch h)⟩, Nat.le_refl _, fun x h => nomatch h⟩ (fun i σ G _ z => ?_) (fun i v σ G hv hσ => ?_) (fun σ G hσ => ?_)
  · obtain ⟨_, sx, _, _⟩ := z
    rcases hp with (h | ⟨q, h⟩) | h
    · exact .inl (.inl (sx _ _ npd h))
    · exact .inl (.inr ⟨q, sx _ _ npd h⟩)
    · exact .inr h
  · obtain ⟨⟨v2, rfl⟩, sx, tk, ys, fs, hG, pf, fw, fm, fl, fz⟩ := hσ
    obtain ⟨e, he, hel⟩ := pv_get pr hv
    have helG := ok.stb _ _ _ _ tk hel
    have ly : ys.length = fs.length := Paired.length pf
    have le : i < es.length := (List.getElem?_eq_some_iff.mp he).1
    have before : ∀ x ∈ es.take i, x ≠ e → lt x e := fun x hx ne => by
      obtain ⟨j, hj⟩ := List.mem_iff_getElem?.mp hx
      have lj := (List.getElem?_eq_some_iff.mp hj).1
      rw [List.length_take] at lj
      rw [List.getElem?_take_of_lt (by omega)] at hj
      obtain ⟨q1, q2⟩ := List.getElem?_eq_some_iff.mp hj
      obtain ⟨q3, q4⟩ := List.getElem?_eq_some_iff.mp he
      have := List.pairwise_iff_getElem.mp sorted j i q1 q3 (by omega)
      rw [q2, q4] at this
      exact this ne
    have mem' : ∀ x, x ∈ es.take (i + 1) ↔ x ∈ es.take i ∨ x = e := fun x => by rw [take_snoc he, List.mem_append, List.mem_singleton]
    have app : (∀ x ∈ fs, lt x e) → ∃ G', G' = upd G d (.lst (ys ++ [v])) ∧ SameX d G0 G' ∧ TK1 K G0 G' ∧ ∃ ys fs, G' d = some (.lst ys) ∧ Paired (El G') ys fs ∧ fs.Pairwise lt ∧ (∀ e, e ∈ fs ↔ e ∈ es.take (i + 1)) ∧ fs.length ≤ i + 1 ∧ (∀ x, fs.getLast? = some x → x ∈ es.take (i + 1)) := fun all => by
      have u := updT (K := K) (H := G) (a := d) (o := .lst (ys ++ [v])) (.inl (by rw [hG]; exact True.intro))
      refine ⟨_, rfl, fun b o n h => by rw [upd_ne n]; exact sx b o n h, tk.trans u, ys ++ [v], fs ++ [e], upd_same, Paired.snoc (Paired.imp (fun _ _ r => ok.stb _ _ _ _ u r) pf) (ok.stb _ _ _ _ u helG), List.pairwise_append.mpr ⟨fw, List.pairwise_singleton _ _, fun x hx y hy => by rw [List.mem_singleton.mp hy]; exact all x hx⟩, fun x => ?_, by rw [List.length_append]; show _ + 1 ≤ _; omega, fun x hx => ?_⟩
      · rw [List.mem_append, List.mem_singleton, fm x, mem' x]
      · rw [List.getLast?_append] at hx
        simp at hx
        rw [mem']
        exact .inr hx.symm
    refine ⟨_, rfl, d, _, rfl, .inl (SqL.of hG), _, _, rfl, rfl, _, rfl, iteB (fun c => ?_) fun c => ?_⟩
    · have f0 : fs = [] := by
        have := of_decide_eq_true c
        exact List.eq_nil_of_length_eq_zero (by omega)
      obtain ⟨G', e', r⟩ := app (fun x hx => by rw [f0] at hx; cases hx)
      refine ⟨_, rfl, .inl ⟨rfl, _, SqL.of hG⟩, _, rfl, d, _, _, rfl, rfl, hG, line_lt (by omega), ⟨_, rfl⟩, ?_⟩
      rw [← e']
      exact r
    · have f1 : fs ≠ [] := fun z => by
        have := of_decide_eq_false c
        rw [z] at ly
        apply this
        rw [ly]
        rfl
      obtain ⟨fs', x, rfl⟩ : ∃ fs' x, fs = fs' ++ [x] := by
        rcases List.eq_nil_or_concat fs with z | ⟨l, b, z⟩
        · exact absurd z f1
        · exact ⟨l, b, by rw [z, List.concat_eq_append]⟩
      obtain ⟨ys', y, rfl⟩ : ∃ ys' y, ys = ys' ++ [y] := by
        rcases List.eq_nil_or_concat ys with z | ⟨l, b, z⟩
        · rw [z, List.length_append] at ly
          have l2 : 0 = fs'.length + 1 := ly
          omega
        · exact ⟨l, b, by rw [z, List.concat_eq_append]⟩
      have ll : ys'.length = fs'.length := by
        rw [List.length_append, List.length_append] at ly
        have : ys'.length + 1 = fs'.length + 1 := ly
        omega
      have hyx : El G y x := by
        obtain ⟨x', h1, h2⟩ := pv_get pf (i := ys'.length) snoc_last
        rw [ll, snoc_last] at h1
        cases h1
        exact h2
      have xm : x ∈ es.take i := (fm x).mp (List.mem_append_right _ List.mem_cons_self)
      refine ⟨_, rfl, _, rfl, d, _, _, _, rfl, rfl, SqL.of hG, atI_last, _, rfl, dt x, dt e, ok.dp _ _ _ hyx, ok.dp _ _ _ helG, ok.sh _, ok.sh _, _, rfl, iteB (fun c2 => ?_) fun c2 => ?_⟩
      · have ne : x ≠ e := fun z => by
          rw [(ok.ne x e).mpr z] at c2
          cases c2
        have lx := before x xm ne
        obtain ⟨G', e', r⟩ := app (fun z hz => by
          rcases List.mem_append.mp hz with m | m
          · exact ok.tr _ _ _ ((List.pairwise_append.mp fw).2.2 z m x List.mem_cons_self) lx
          · rw [List.mem_singleton.mp m]
            exact lx)
        refine ⟨_, rfl, .inl ⟨rfl, _, SqL.of hG⟩, _, rfl, d, _, _, rfl, rfl, hG, line_lt (by omega), ⟨_, rfl⟩, ?_⟩
        rw [← e']
        exact r
      · have eq : x = e := by
          by_cases z : x = e
          · exact z
          · have q : PyData.eqv (dt x) (dt e) = false := by
              cases q : PyData.eqv (dt x) (dt e) with
              | false => rfl
              | true => exact absurd ((ok.ne _ _).mp q) z
            rw [q] at c2
            cases c2
        refine ⟨⟨_, rfl⟩, sx, tk, _, _, hG, pf, fw, fun z => ?_, by omega, fun z hz => (mem' z).mpr (.inl (fz z hz))⟩
        rw [fm z, mem' z]
        exact ⟨.inl, fun q => q.elim id fun q => by rw [q, ← eq]; exact xm⟩
  · obtain ⟨⟨v2, rfl⟩, sx, tk, ys, fs, hG, pf, fw, fm, fl, fz⟩ := hσ
    rw [lp, List.take_length] at fm
    exact hD G v2 ys fs (fun b o hb => sx b o (ne_of_none hb hd0) (hH0 b o hb)) hG pf fw fm (by omega)
def sp_L_once (P : Program) (w : World) (K : PySem.W.Frag) : SpN := fun vs H Q =>
  (∃ (a : Addr) (es : List Tr), vs = [.ref a] ∧ EdA K H a es ∧ (∀ e ∈ es, UTr e) ∧ es.length ≤ 8388606 ∧ ∀ p H' es', Same H H' → EdT K H' p es' → es'.Pairwise trLt → (∀ e, e ∈ es' ↔ e ∈ es) → Q (.ref p) H') ∨
  (∃ (a : Addr) (l : List Nat), vs = [.ref a] ∧ SqA K H a (nV l) ∧ l.length ≤ 8388606 ∧ ∀ p H', Same H H' → SqT K H' p (nV (sortS l)) → Q (.ref p) H')
theorem len_L_once : ∀ vs H Q, sp_L_once P w K vs H Q → vs.length = 1 := fun _ _ _ h => by
  rcases h with ⟨_, _, e, _⟩ | ⟨_, _, e, _⟩ <;> (subst e; rfl)
theorem once_trs (K : PySem.W.Frag) : OnceK K (fun G v (e : Tr) => ∃ p, v = .ref p ∧ SqT K G p (trV e)) trLt (fun e => dI (trI e)) where
  stb := fun _ _ _ _ t ⟨p, h1, h2⟩ => ⟨p, h1, t _ _ h2⟩
  tr := fun _ _ _ => trLt_trans
  dp := fun _ _ _ ⟨p, h1, h2⟩ => by rw [h1]; exact dp_ints h2
  sh := fun _ => shaped_dI _
  ne := fun a b => by rw [eqv_dI]; exact ⟨fun h => trI_inj (of_decide_eq_true h), fun h => by rw [h]; exact decide_eq_true rfl⟩
theorem once_ints (K : PySem.W.Frag) : OnceK K (fun _ v (n : Nat) => v = .int (n : Nat)) (· < ·) (fun n => .int (n : Int)) where
  stb := fun _ _ _ _ _ h => h
  tr := fun _ _ _ => Nat.lt_trans
  dp := fun _ _ _ h => by rw [h]; exact .int _
  sh := fun _ => rfl
  ne := fun a b => by rw [eqv_int]; exact ⟨fun h => Int.ofNat.inj (of_decide_eq_true h), fun h => by rw [h]; exact decide_eq_true rfl⟩
theorem pr_refs {K : PySem.W.Frag} {G : Hp} : ∀ {ps : List Addr} {es : List Tr}, TrsAt K G ps es → Paired (fun v (e : Tr) => ∃ p, v = .ref p ∧ SqT K G p (trV e)) (ps.map V.ref) es
  | _, _, .nil => .nil
  | _, _, .cons r t => .cons ⟨_, rfl, r⟩ (pr_refs t)
theorem refs_pr {K : PySem.W.Frag} {G : Hp} : ∀ {xs : List V} {es : List Tr}, Paired (fun v (e : Tr) => ∃ p, v = .ref p ∧ SqT K G p (trV e)) xs es → ∃ ps : List Addr, xs = ps.map V.ref ∧ TrsAt K G ps es
  | _, _, .nil => ⟨[], rfl, .nil⟩
  | _, _, .cons ⟨p, h1, h2⟩ t => let ⟨ps, e, q⟩ := refs_pr t; ⟨p :: ps, by rw [h1, e]; rfl, .cons h2 q⟩
theorem pr_nV : ∀ l : List Nat, Paired (fun v (n : Nat) => v = V.int (n : Nat)) (nV l) l
  | [] => .nil
  | n :: l => .cons rfl (pr_nV l)
theorem nV_pr : ∀ {xs : List V} {l : List Nat}, Paired (fun v (n : Nat) => v = V.int (n : Nat)) xs l → xs = nV l
  | _, _, .nil => rfl
  | _, _, .cons r t => by rw [r, nV_pr t]; rfl
theorem sc_L_once : FnScope ["_law_rows", "_law_found", "_law_row"] ["_law_rows"] (defScope s_L_once) := ⟨rfl, rfl, rfl, by decide +kernel, rfl, by decide +kernel, by decide +kernel⟩
/- slots: 0 _law_rows, 1 _law_found, 2 _law_row -/
theorem ok_L_once (T : Tb K mg)  : Cal P w K mg base (He.ga K "_law_once") 1 ["_law_rows"] (sp_L_once P w K) := by
  obtain ⟨fd, F⟩ := T.dfs 26 d_L_once rfl
  refine cal_of (N := ["_law_rows", "_law_found", "_law_row"]) F sc_L_once (F.bindsN fun _ _ _ _ _ _ us hl => match us, hl with | [_], _ => rfl) (len_L_once) fun cdv A outer s H vs Q E hr h => ?_
  rcases h with ⟨a, es, rfl, ⟨ps, h1, h2⟩, hu, hl, hQ⟩ | ⟨a, l, rfl, hA, hl, hQ⟩
  · refine ⟨(tSeq (tAsg (tLst tNil) (gName 1)) (tSeq (tFor (iList K (tCB (rSortT K) (tCons (tVar 0) tNil))) (gName 2) (tIfS (tOr (tTest (tOp rEqI (tCB (rLen2 K) (tCons (tVar 1) tNil)) (tC (.int 0)))) (tTest (tOp (rNeD K) (tOp (rIxL K) (tVar 1) (tUn (rU fun i => .int (-i)) (tC (.int 1)))) (tVar 2)))) (tDrop (tBM K "list" rAppend (tVar 1) (tCons (tVar 2) tNil))) tNext)) (tRet (tCB (rTupOf K) (tCons (tVar 1) tNil))))), (pss_cons (ps_set (i := 1) sc_L_once.nd rfl (by first | exact Or.inl rfl | exact Or.inr rfl) (pe_lst pa_nil)) (pss_cons (ps_for PassesOwn.never rfl (pi_list (pe_callB (cr_sortT2 hr.units) (by rfl) (T.fre 3 "sorted" rfl) kb_sorted (pa_cons (pv 0) pa_nil))) (pg_name (i := 2) sc_L_once.nd rfl (by first | exact Or.inl rfl | exact Or.inr rfl)) (pss_one (ps_if ((pw_or (pt_cmpR op_eqI (pe_callB call_len2 (by rfl) (T.fre 0 "len" rfl) kb_len (pa_cons (pv 1) pa_nil)) pe_int (nomark _)) (pw_or1 (pt_cmpR (op_neD hr.units) (pe_ix ix_list (pv 1) (pe_un un_neg pe_int) (fun _ _ => rfl)) (pv 2) (nomark _))))).pt (pss_one (ps_expr (pe_bm PySem.F.plainAttrs_list PySem.F.slot_list_append PySem.F.type_list_append mt_append (pv 1) (pa_cons (pv 2) pa_nil)))) pss_nil))) (pss_one (ps_ret (pe_callTy call_tuple_ofn (by rfl) (T.fre 2 "tuple" rfl) kb_tuple (pa_cons (pv 1) pa_nil)))))), ?_⟩
    refine ⟨Nat.zero_le _, fun d hd => ?_⟩
    have s0 := same_new (o := .lst []) hd
    have pl : (prs ps es).length = es.length := by
      have := congrArg List.length (prs_snd h2)
      rw [List.length_map, List.length_map] at this
      exact this
    have h2' := trs_same s0 h2
    refine ⟨_, rfl, a, prs ps es, rfl, by rw [prs_fst h2]; exact h1.same s0, fun p hp => (prs_at h2' p hp).1, fun p hp => ?_, by omega, fun L' p pm pw hp => ⟨p, rfl, ⟨_, SqL.of upd_same⟩, ?_⟩⟩
    · obtain ⟨_, e, he, e2⟩ := prs_at h2 p hp
      rw [e2]
      exact (hu e he).ut
    have s1 := same_new (o := .lst (L'.map fun q => V.ref q.1)) hp
    obtain ⟨es1, q1, q2⟩ := prs_back L' fun q hq => by
      obtain ⟨z1, e, _, z3⟩ := prs_at (trs_same s1 h2') q (pm.mem_iff.mp hq)
      exact ⟨z1, e, z3⟩
    have mem1 : ∀ e, e ∈ es1 ↔ e ∈ es := fun e => by
      have a1 : ∀ l : List Tr, trI e ∈ l.map trI ↔ e ∈ l := fun l => ⟨fun h => let ⟨e', h1, h2⟩ := List.mem_map.mp h; trI_inj h2 ▸ h1, fun h => List.mem_map_of_mem h⟩
      rw [← a1 es1, ← a1 es, ← q2, ← prs_snd h2]
      exact (pm.map (·.2)).mem_iff
    have len1 : es1.length ≤ 16777215 := by
      have := congrArg List.length q2
      rw [List.length_map, List.length_map, pm.length_eq, pl] at this
      omega
    refine once_loop (once_trs K) (es := es1) (s0.trans s1) hd (s1 _ _ upd_same) len1 ?_ (SqL.of upd_same) (Ne.symm (ne_of_none upd_same hp)) ?_ (fun G v2 ys fs sG hG pf fw fm fl => ?_)
    · rw [q2] at pw
      exact pairwise_map_of (f := trI) (fun a b (h : trI a ≤ trI b) n => trLt_of_le h n) pw
    · have := pr_refs q1
      rw [List.map_map] at this
      exact this
    · obtain ⟨zs, rfl, hz⟩ := refs_pr pf
      exact ⟨_, rfl, d, _, rfl, .inl (SqL.of hG), fun t G' s ht => hQ t G' fs (sG.trans s) ⟨zs, ht, trs_same s hz⟩ fw fun e => (fm e).trans (mem1 e)⟩
  · refine ⟨(tSeq (tAsg (tLst tNil) (gName 1)) (tSeq (tFor (iList K (tCB (rSortI2 K) (tCons (tVar 0) tNil))) (gName 2) (tIfS (tOr (tTest (tOp rEqI (tCB (rLen2 K) (tCons (tVar 1) tNil)) (tC (.int 0)))) (tTest (tOp (rNeD K) (tOp (rIxL K) (tVar 1) (tUn (rU fun i => .int (-i)) (tC (.int 1)))) (tVar 2)))) (tDrop (tBM K "list" rAppend (tVar 1) (tCons (tVar 2) tNil))) tNext)) (tRet (tCB (rTupOf K) (tCons (tVar 1) tNil))))), (pss_cons (ps_set (i := 1) sc_L_once.nd rfl (by first | exact Or.inl rfl | exact Or.inr rfl) (pe_lst pa_nil)) (pss_cons (ps_for PassesOwn.never rfl (pi_list (pe_callB (cr_sortI2 hr.units) (by rfl) (T.fre 3 "sorted" rfl) kb_sorted (pa_cons (pv 0) pa_nil))) (pg_name (i := 2) sc_L_once.nd rfl (by first | exact Or.inl rfl | exact Or.inr rfl)) (pss_one (ps_if ((pw_or (pt_cmpR op_eqI (pe_callB call_len2 (by rfl) (T.fre 0 "len" rfl) kb_len (pa_cons (pv 1) pa_nil)) pe_int (nomark _)) (pw_or1 (pt_cmpR (op_neD hr.units) (pe_ix ix_list (pv 1) (pe_un un_neg pe_int) (fun _ _ => rfl)) (pv 2) (nomark _))))).pt (pss_one (ps_expr (pe_bm PySem.F.plainAttrs_list PySem.F.slot_list_append PySem.F.type_list_append mt_append (pv 1) (pa_cons (pv 2) pa_nil)))) pss_nil))) (pss_one (ps_ret (pe_callTy call_tuple_ofn (by rfl) (T.fre 2 "tuple" rfl) kb_tuple (pa_cons (pv 1) pa_nil)))))), ?_⟩
    refine ⟨Nat.zero_le _, fun d hd => ?_⟩
    have s0 := same_new (o := .lst []) hd
    refine ⟨_, rfl, a, nI l, rfl, by rw [← nV_I]; exact hA.same s0, by rw [nI_len]; omega, fun ns' p pm pw hp => ⟨p, rfl, ⟨_, SqL.of upd_same⟩, ?_⟩⟩
    obtain ⟨l', rfl⟩ := nI_back fun x hx => let ⟨n, _, e⟩ := List.mem_map.mp (pm.mem_iff.mp hx); ⟨n, e.symm⟩
    have s1 := same_new (o := .lst ((nI l').map V.int)) hp
    have mem1 : ∀ e, e ∈ l' ↔ e ∈ l := fun e => by
      rw [← mem_nI, ← mem_nI (l := l)]
      exact pm.mem_iff
    have len1 : l'.length ≤ 16777215 := by
      have := pm.length_eq
      rw [nI_len, nI_len] at this
      omega
    refine once_loop (once_ints K) (es := l') (s0.trans s1) hd (s1 _ _ upd_same) len1 ?_ (SqL.of upd_same) (Ne.symm (ne_of_none upd_same hp)) ?_ (fun G v2 ys fs sG hG pf fw fm fl => ?_)
    · exact pairwise_map_of (f := fun (n : Nat) => (n : Int)) (fun a b (h : (a : Int) ≤ b) n => Nat.lt_of_le_of_ne (Int.ofNat_le.mp h) n) pw
    · rw [← nV_I]
      exact pr_nV l'
    · have e := nV_pr pf
      subst e
      have e2 : fs = sortS l := sorted_ext fw (sortS_sorted l) fun x => by rw [fm x, mem_sortS, mem1 x]
      subst e2
      exact ⟨_, rfl, d, _, rfl, .inl (SqL.of hG), fun t G' s ht => hQ t G' (sG.trans s) ht⟩
end
end K23
/-! K23Ld -/
set_option Elab.async false
set_option linter.all false
set_option maxRecDepth 100000
set_option maxHeartbeats 4000000
namespace K23
open PySem PySem.Spec PyProof.Rows L2
section
variable {P : Program} {w : World} {K : PySem.W.Frag} {mg : Str → Option Value} {base : Heap}
/-- the parts of a net at q, its lists at e and f -/
def PaAt (K : PySem.W.Frag) (H : Hp) (q : Addr) (N : Net) : Prop := ∃ e f, SqT K H q [.int (N.S : Nat), .int (N.L : Nat), .int (N.n : Nat), .ref e, .ref f] ∧ LR K (rTr K) H e N.E ∧ SqL K H f (nV N.F)
theorem PaAt.same {H H' : Hp} {q : Addr} {N : Net} (h : PaAt K H q N) (s : Same H H') : PaAt K H' q N := let ⟨e, f, h1, h2, h3⟩ := h; ⟨e, f, Same.tup s h1, h2.same (stb_tr K) s, s.seq h3⟩
theorem lr_edA {H : Hp} {e : Addr} {es : List Tr} (h : LR K (rTr K) H e es) : EdA K H e es := let ⟨ps, h1, h2⟩ := h; ⟨ps, .inl h1, h2⟩
theorem wf_utr {N : Net} (wf : Wf N) : ∀ e ∈ N.E, UTr e := fun e he => by
  have := wf.ef e he
  have := wf.n1
  have := wf.l2
  unfold UTr
  omega
theorem raw_utr {S L n : Nat} {E : List Tr} {F : List Nat} (R : Raw S L n E F) : ∀ e ∈ E, UTr e := fun e he => by
  have := R.ef e he
  have := R.n1
  have := R.l2
  unfold UTr
  omega
theorem pr3 {G : Hp} {e : Tr} {q : Addr} (h : SqT K G q (trV e)) : SqT K G q ((trI e).map V.int) := h
def sp_L_kept (P : Program) (w : World) (K : PySem.W.Frag) : SpN := fun vs H Q => ∃ (a q : Addr) (M N : Net), vs = [.ref a, .ref q] ∧ NetAt P w K H a M ∧ PaAt K H q N ∧ Raw N.S N.L N.n N.E N.F ∧ MadeOf M N.S N.L N.n N.E N.F ∧ ∀ H', Same H H' → Q (.bl true) H'
theorem len_L_kept : ∀ vs H Q, sp_L_kept P w K vs H Q → vs.length = 2 := fun _ _ _ ⟨_, _, _, _, e, _⟩ => by subst e; rfl
theorem sc_L_kept : FnScope ["_law_net_here", "_law_parts_here", "_law_edge"] ["_law_net_here", "_law_parts_here"] (defScope s_L_kept) := ⟨rfl, rfl, rfl, by decide +kernel, rfl, by decide +kernel, by decide +kernel⟩
/- slots: 0 _law_net_here, 1 _law_parts_here, 2 _law_edge -/
theorem ok_L_kept (T : Tb K mg) (c_L_are_numbers : Cal P w K mg base (He.ga K "_law_are_numbers") 2 ["_law_xs"] (sp_L_are_numbers P w K)) (c_L_once : Cal P w K mg base (He.ga K "_law_once") 1 ["_law_rows"] (sp_L_once P w K)) : Cal P w K mg base (He.ga K "_law_kept") 3 ["_law_net_here", "_law_parts_here"] (sp_L_kept P w K) := by
  obtain ⟨fd, F⟩ := T.dfs 27 d_L_kept rfl
  refine cal_of (N := ["_law_net_here", "_law_parts_here", "_law_edge"]) F sc_L_kept (F.bindsN fun _ _ _ _ _ _ us hl => match us, hl with | [_, _], _ => rfl) (len_L_kept) fun cdv A outer s H vs Q E hr h => ?_
  refine ⟨(tSeq (tIfS (tOr (tNot (tB (tCB (rIsNet K) (tCons (tVar 0) (tCons (tC (.ref (NetC K))) tNil))))) (tNot (tB (tDo (sp_L_are_numbers P w K) (tCons (tTup (tCons (tFld K (tVar 0) "states") (tCons (tFld K (tVar 0) "letters") (tCons (tFld K (tVar 0) "nodes") tNil)))) tNil))))) (tRet (tC (.bl false))) tNext) (tSeq (tIfS (tOr (tNot (tB (tCB (rIsi K) (tCons (tFld K (tVar 0) "edges") (tCons (tC (.ty "tuple")) tNil))))) (tNot (tB (tDo (sp_L_are_numbers P w K) (tCons (tFld K (tVar 0) "ends") tNil))))) (tRet (tC (.bl false))) tNext) (tSeq (tFor (iTup K (tFld K (tVar 0) "edges")) (gName 2) (tIfS (tNot (tB (tDo (sp_L_are_numbers P w K) (tCons (tVar 2) tNil)))) (tRet (tC (.bl false))) tNext)) (tSeq (tIfS (tOr (tTest (tOp rNeI (tFld K (tVar 0) "states") (tOp (rIxT K) (tVar 1) (tC (.int 0))))) (tOr (tTest (tOp rNeI (tFld K (tVar 0) "letters") (tOp (rIxT K) (tVar 1) (tC (.int 1))))) (tTest (tOp rNeI (tFld K (tVar 0) "nodes") (tOp (rIxT K) (tVar 1) (tC (.int 2))))))) (tRet (tC (.bl false))) tNext) (tRet (tAndV (tOp (rEqD K) (tFld K (tVar 0) "edges") (tDo (sp_L_once P w K) (tCons (tOp (rIxT K) (tVar 1) (tC (.int 3))) tNil))) (tOp (rEqD K) (tFld K (tVar 0) "ends") (tDo (sp_L_once P w K) (tCons (tOp (rIxT K) (tVar 1) (tC (.int 4))) tNil))))))))), (pss_cons (ps_if ((pw_or (pt_not (pt_val (pe_callB (call_isNet T.ins) (by rfl) (T.fre 6 "isinstance" rfl) kb_isinstance (pa_cons (pv 0) (pa_cons (pe_glob (v := V.ref (NetC K)) (by rfl) (T.glo 39 "Net" rfl) rfl) pa_nil))) (by intro _; rfl))) (pw_or1 (pt_not (pt_val (pcal c_L_are_numbers (hr.mono (by decide)) (T.glo 20 "_law_are_numbers" rfl) (pa_cons (pe_tup (pa_cons (pfld rfl (pv 0)) (pa_cons (pfld rfl (pv 0)) (pa_cons (pfld rfl (pv 0)) pa_nil)))) pa_nil)) (by intro _; rfl)))))).pt (pss_one (ps_ret pe_bl)) pss_nil) (pss_cons (ps_if ((pw_or (pt_not (pt_val (pe_callB call_isi (by rfl) (T.fre 6 "isinstance" rfl) kb_isinstance (pa_cons (pfld rfl (pv 0)) (pa_cons (pe_bltn (v := V.ty "tuple") (by rfl) (T.fre 2 "tuple" rfl) kb_tuple rfl) pa_nil))) (by intro _; rfl))) (pw_or1 (pt_not (pt_val (pcal c_L_are_numbers (hr.mono (by decide)) (T.glo 20 "_law_are_numbers" rfl) (pa_cons (pfld rfl (pv 0)) pa_nil)) (by intro _; rfl)))))).pt (pss_one (ps_ret pe_bl)) pss_nil) (pss_cons (ps_for PassesOwn.never rfl (pi_tup (pfld rfl (pv 0))) (pg_name (i := 2) sc_L_kept.nd rfl (by first | exact Or.inl rfl | exact Or.inr rfl)) (pss_one (ps_if (pt_not (pt_val (pcal c_L_are_numbers (hr.mono (by decide)) (T.glo 20 "_law_are_numbers" rfl) (pa_cons (pv 2) pa_nil)) (by intro _; rfl))) (pss_one (ps_ret pe_bl)) pss_nil))) (pss_cons (ps_if ((pw_or (pt_cmpR op_neI (pfld rfl (pv 0)) (pe_ix ix_tup (pv 1) pe_int (fun _ _ => rfl)) (nomark _)) (pw_or (pt_cmpR op_neI (pfld rfl (pv 0)) (pe_ix ix_tup (pv 1) pe_int (fun _ _ => rfl)) (nomark _)) (pw_or1 (pt_cmpR op_neI (pfld rfl (pv 0)) (pe_ix ix_tup (pv 1) pe_int (fun _ _ => rfl)) (nomark _)))))).pt (pss_one (ps_ret pe_bl)) pss_nil) (pss_one (ps_ret (pe_and (pe_cmpR (op_eqD hr.units) (pfld rfl (pv 0)) (pcal c_L_once (hr.mono (by decide)) (T.glo 21 "_law_once" rfl) (pa_cons (pe_ix ix_tup (pv 1) pe_int (fun _ _ => rfl)) pa_nil)) (nomark _)) (pe_one (pe_cmpR (op_eqD hr.units) (pfld rfl (pv 0)) (pcal c_L_once (hr.mono (by decide)) (T.glo 21 "_law_once" rfl) (pa_cons (pe_ix ix_tup (pv 1) pe_int (fun _ _ => rfl)) pa_nil)) (nomark _)))))))))), ?_⟩
  obtain ⟨a, q, M, N, rfl, hM, ⟨e, f, q1, q2, q3⟩, R, ⟨m1, m2, m3, m4, m5, m6⟩, hQ⟩ := h
  obtain ⟨hw, dx, pe, pf, pd, h1, h2, h3, h4⟩ := id hM
  obtain ⟨ps, h21, h22⟩ := id h2
  refine ⟨_, rfl, a, dx, _, rfl, h1, _, rfl, ?_⟩
  refine ⟨_, rfl, a, _, dx, _, _, rfl, h1, T.cl, T.noa 0 "states" rfl, rfl, _, rfl, a, _, dx, _, _, rfl, h1, T.cl, T.noa 1 "letters" rfl, rfl, _, rfl, a, _, dx, _, _, rfl, h1, T.cl, T.noa 2 "nodes" rfl, rfl, (sz1000 (n := 3) (by decide) : 3 ≤ sizeLine), fun t ht => ?_⟩
  have st := same_new (o := .tup [.int (M.S : Nat), .int (M.L : Nat), .int (M.n : Nat)]) ht
  have g1 := st _ _ h1
  refine ⟨t, [(M.S : Int), (M.L : Int), (M.n : Int)], rfl, SqT.of upd_same, _, rfl, ?_⟩
  refine ⟨_, rfl, a, _, dx, _, _, rfl, g1, T.cl, T.noa 3 "edges" rfl, rfl, _, _, _, _, true, rfl, .ty "tuple", ty_tup (Same.tup st h21), kt_tt, _, rfl, ?_⟩
  refine ⟨_, rfl, a, _, dx, _, _, rfl, g1, T.cl, T.noa 4 "ends" rfl, rfl, pf, nI M.F, rfl, by rw [← nV_I]; exact Same.tup st h3, _, rfl, ?_⟩
  dsimp only [tSeq, tIfS, tOr, tAnd, tNot, tB, tTest, tCB, tCons, tNil, tNext, tAsg, tRet, tDrop, tDo, gName]
  refine tforT (fun R h => ⟨_, rfl, a, _, dx, _, _, rfl, g1, T.cl, T.noa 3 "edges" rfl, rfl, h⟩) (fun i σ G => (∃ v2, σ = [some (.ref a), some (.ref q), v2]) ∧ Same H G) (Same.tup st h21) ⟨⟨_, rfl⟩, st⟩ (fun i σ G p => Same.tup p.2 h21) (fun i v σ G hv hσ => ?_) (fun σ G hσ => ?_)
  · obtain ⟨⟨v2, rfl⟩, sG⟩ := hσ
    obtain ⟨p, e, rfl, he, hp⟩ := trs_get h22 hv
    exact ⟨_, rfl, p, trI e, rfl, pr3 (Same.tup sG hp), _, rfl, ⟨_, rfl⟩, sG⟩
  · obtain ⟨⟨v2, rfl⟩, sG⟩ := hσ
    have g1 := sG _ _ h1
    have qG := Same.tup sG q1
    refine ⟨_, rfl, a, _, dx, _, _, rfl, g1, T.cl, T.noa 0 "states" rfl, rfl, _, rfl, q, _, _, _, rfl, rfl, qG, atI_n (n := 0) rfl rfl, _, _, rfl, rfl, _, rfl, iteN (by rw [m1, decide_eq_true rfl]; rfl) ?_⟩
    refine ⟨_, rfl, a, _, dx, _, _, rfl, g1, T.cl, T.noa 1 "letters" rfl, rfl, _, rfl, q, _, _, _, rfl, rfl, qG, atI_n (n := 1) rfl rfl, _, _, rfl, rfl, _, rfl, iteN (by rw [m2, decide_eq_true rfl]; rfl) ?_⟩
    refine ⟨_, rfl, a, _, dx, _, _, rfl, g1, T.cl, T.noa 2 "nodes" rfl, rfl, _, rfl, q, _, _, _, rfl, rfl, qG, atI_n (n := 2) rfl rfl, _, _, rfl, rfl, _, rfl, iteN (by rw [m3, decide_eq_true rfl]; rfl) ?_⟩
    refine ⟨_, rfl, a, _, dx, _, _, rfl, g1, T.cl, T.noa 3 "edges" rfl, rfl, _, rfl, q, _, _, _, rfl, rfl, qG, atI_n (n := 3) rfl rfl, .inl ⟨e, N.E, rfl, lr_edA (q2.same (stb_tr K) sG), raw_utr R, R.el, fun p H1 es' s1 hp pw mem => ?_⟩⟩
    have ee : M.E = es' := trs_ext hw.es pw fun x => (m4 x).trans (mem x).symm
    subst ee
    refine eq_trs ((h2.same sG).same s1) hp ⟨true, rfl, ?_⟩
    refine ⟨_, rfl, a, _, dx, _, _, rfl, s1 _ _ g1, T.cl, T.noa 4 "ends" rfl, rfl, _, rfl, q, _, _, _, rfl, rfl, Same.tup s1 qG, atI_n (n := 4) rfl rfl, .inr ⟨f, N.F, rfl, .inl (s1.seq (sG.seq q3)), R.fl, fun p2 H2 s2 hp2 => ?_⟩⟩
    have ef : M.F = sortS N.F := sorted_ext hw.fs (sortS_sorted _) fun x => (m6 x).trans mem_sortS.symm
    rw [← ef] at hp2
    exact eq_nV (Same.tup s2 (Same.tup s1 (Same.tup sG h3))) hp2 (hQ _ (sG.trans (s1.trans s2)))
def sp_L_is_plain (P : Program) (w : World) (K : PySem.W.Frag) : SpN := fun vs H Q => ∃ (a : Addr) (N : Net), vs = [.ref a, .int (N.S : Nat), .int (N.L : Nat)] ∧ NetAt P w K H a N ∧ N.plB = true ∧ ∀ H', Same H H' → Q (.bl true) H'
theorem len_L_is_plain : ∀ vs H Q, sp_L_is_plain P w K vs H Q → vs.length = 3 := fun _ _ _ ⟨_, _, e, _⟩ => by subst e; rfl
theorem dnat {x y : Nat} : decide ((x : Int) < (y : Int)) = decide (x < y) := decide_eq_decide.mpr Int.ofNat_lt
theorem sc_L_is_plain : FnScope ["_law_net_here", "_law_states", "_law_letters", "_law_edge", "_law_end"] ["_law_net_here", "_law_states", "_law_letters"] (defScope s_L_is_plain) := ⟨rfl, rfl, rfl, by decide +kernel, rfl, by decide +kernel, by decide +kernel⟩
/- slots: 0 _law_net_here, 1 _law_states, 2 _law_letters, 3 _law_edge, 4 _law_end -/
theorem ok_L_is_plain (T : Tb K mg) (c_L_are_numbers : Cal P w K mg base (He.ga K "_law_are_numbers") 2 ["_law_xs"] (sp_L_are_numbers P w K)) (c_Net_is_plain : Cal P w K mg base (grA K) 1 ["self"] (sp_Net_is_plain P w K)) (c_L_once : Cal P w K mg base (He.ga K "_law_once") 1 ["_law_rows"] (sp_L_once P w K)) : Cal P w K mg base (He.ga K "_law_is_plain") 3 ["_law_net_here", "_law_states", "_law_letters"] (sp_L_is_plain P w K) := by
  obtain ⟨fd, F⟩ := T.dfs 28 d_L_is_plain rfl
  refine cal_of (N := ["_law_net_here", "_law_states", "_law_letters", "_law_edge", "_law_end"]) F sc_L_is_plain (F.bindsN fun _ _ _ _ _ _ us hl => match us, hl with | [_, _, _], _ => rfl) (len_L_is_plain) fun cdv A outer s H vs Q E hr h => ?_
  refine ⟨(tSeq (tIfS (tOr (tNot (tB (tCB (rIsNet K) (tCons (tVar 0) (tCons (tC (.ref (NetC K))) tNil))))) (tNot (tB (tDo (sp_L_are_numbers P w K) (tCons (tTup (tCons (tFld K (tVar 0) "states") (tCons (tFld K (tVar 0) "letters") (tCons (tFld K (tVar 0) "nodes") tNil)))) tNil))))) (tRet (tC (.bl false))) tNext) (tSeq (tIfS (tOr (tTest (tOp rNeI (tFld K (tVar 0) "states") (tVar 1))) (tOr (tTest (tOp rNeI (tFld K (tVar 0) "letters") (tVar 2))) (tOr (tTest (tOp rLt (tFld K (tVar 0) "nodes") (tVar 1))) (tTest (tOp rIsntB (tPr K (sp_Net_is_plain P w K) (tVar 0)) (tC (.bl true))))))) (tRet (tC (.bl false))) tNext) (tSeq (tIfS (tOr (tNot (tB (tCB (rIsi K) (tCons (tFld K (tVar 0) "edges") (tCons (tC (.ty "tuple")) tNil))))) (tNot (tB (tDo (sp_L_are_numbers P w K) (tCons (tFld K (tVar 0) "ends") tNil))))) (tRet (tC (.bl false))) tNext) (tSeq (tFor (iTup K (tFld K (tVar 0) "edges")) (gName 3) (tSeq (tIfS (tOr (tNot (tB (tDo (sp_L_are_numbers P w K) (tCons (tVar 3) tNil)))) (tOr (tTest (tOp rNeI (tCB (rLen2 K) (tCons (tVar 3) tNil)) (tC (.int 3)))) (tNot (tTest (tChain rLe rLt (tC (.int 0)) (tOp (rIxT K) (tVar 3) (tC (.int 0))) (tFld K (tVar 0) "nodes")))))) (tRet (tC (.bl false))) tNext) (tIfS (tOr (tNot (tTest (tChain rLe rLt (tC (.int 0)) (tOp (rIxT K) (tVar 3) (tC (.int 1))) (tVar 2)))) (tNot (tTest (tChain rLe rLt (tVar 1) (tOp (rIxT K) (tVar 3) (tC (.int 2))) (tFld K (tVar 0) "nodes"))))) (tRet (tC (.bl false))) tNext))) (tSeq (tFor (iTup K (tFld K (tVar 0) "ends")) (gName 4) (tIfS (tNot (tTest (tChain rLe rLt (tC (.int 0)) (tVar 4) (tFld K (tVar 0) "nodes")))) (tRet (tC (.bl false))) tNext)) (tRet (tAndV (tOp (rEqD K) (tFld K (tVar 0) "edges") (tDo (sp_L_once P w K) (tCons (tFld K (tVar 0) "edges") tNil))) (tOp (rEqD K) (tFld K (tVar 0) "ends") (tDo (sp_L_once P w K) (tCons (tFld K (tVar 0) "ends") tNil)))))))))), (pss_cons (ps_if ((pw_or (pt_not (pt_val (pe_callB (call_isNet T.ins) (by rfl) (T.fre 6 "isinstance" rfl) kb_isinstance (pa_cons (pv 0) (pa_cons (pe_glob (v := V.ref (NetC K)) (by rfl) (T.glo 39 "Net" rfl) rfl) pa_nil))) (by intro _; rfl))) (pw_or1 (pt_not (pt_val (pcal c_L_are_numbers (hr.mono (by decide)) (T.glo 20 "_law_are_numbers" rfl) (pa_cons (pe_tup (pa_cons (pfld rfl (pv 0)) (pa_cons (pfld rfl (pv 0)) (pa_cons (pfld rfl (pv 0)) pa_nil)))) pa_nil)) (by intro _; rfl)))))).pt (pss_one (ps_ret pe_bl)) pss_nil) (pss_cons (ps_if ((pw_or (pt_cmpR op_neI (pfld rfl (pv 0)) (pv 1) (nomark _)) (pw_or (pt_cmpR op_neI (pfld rfl (pv 0)) (pv 2) (nomark _)) (pw_or (pt_cmpR op_lt (pfld rfl (pv 0)) (pv 1) (nomark _)) (pw_or1 (pt_cmpR op_isntB (ppro rfl (pv 0) T.cl T.pro c_Net_is_plain (hr.mono (by decide))) pe_bl (nomark _))))))).pt (pss_one (ps_ret pe_bl)) pss_nil) (pss_cons (ps_if ((pw_or (pt_not (pt_val (pe_callB call_isi (by rfl) (T.fre 6 "isinstance" rfl) kb_isinstance (pa_cons (pfld rfl (pv 0)) (pa_cons (pe_bltn (v := V.ty "tuple") (by rfl) (T.fre 2 "tuple" rfl) kb_tuple rfl) pa_nil))) (by intro _; rfl))) (pw_or1 (pt_not (pt_val (pcal c_L_are_numbers (hr.mono (by decide)) (T.glo 20 "_law_are_numbers" rfl) (pa_cons (pfld rfl (pv 0)) pa_nil)) (by intro _; rfl)))))).pt (pss_one (ps_ret pe_bl)) pss_nil) (pss_cons (ps_for PassesOwn.never rfl (pi_tup (pfld rfl (pv 0))) (pg_name (i := 3) sc_L_is_plain.nd rfl (by first | exact Or.inl rfl | exact Or.inr rfl)) (pss_cons (ps_if ((pw_or (pt_not (pt_val (pcal c_L_are_numbers (hr.mono (by decide)) (T.glo 20 "_law_are_numbers" rfl) (pa_cons (pv 3) pa_nil)) (by intro _; rfl))) (pw_or (pt_cmpR op_neI (pe_callB call_len2 (by rfl) (T.fre 0 "len" rfl) kb_len (pa_cons (pv 3) pa_nil)) pe_int (nomark _)) (pw_or1 (pt_not (pt_chain op_le op_lt pe_int (pe_ix ix_tup (pv 3) pe_int (fun _ _ => rfl)) (pfld rfl (pv 0)))))))).pt (pss_one (ps_ret pe_bl)) pss_nil) (pss_one (ps_if ((pw_or (pt_not (pt_chain op_le op_lt pe_int (pe_ix ix_tup (pv 3) pe_int (fun _ _ => rfl)) (pv 2))) (pw_or1 (pt_not (pt_chain op_le op_lt (pv 1) (pe_ix ix_tup (pv 3) pe_int (fun _ _ => rfl)) (pfld rfl (pv 0))))))).pt (pss_one (ps_ret pe_bl)) pss_nil)))) (pss_cons (ps_for PassesOwn.never rfl (pi_tup (pfld rfl (pv 0))) (pg_name (i := 4) sc_L_is_plain.nd rfl (by first | exact Or.inl rfl | exact Or.inr rfl)) (pss_one (ps_if (pt_not (pt_chain op_le op_lt pe_int (pv 4) (pfld rfl (pv 0)))) (pss_one (ps_ret pe_bl)) pss_nil))) (pss_one (ps_ret (pe_and (pe_cmpR (op_eqD hr.units) (pfld rfl (pv 0)) (pcal c_L_once (hr.mono (by decide)) (T.glo 21 "_law_once" rfl) (pa_cons (pfld rfl (pv 0)) pa_nil)) (nomark _)) (pe_one (pe_cmpR (op_eqD hr.units) (pfld rfl (pv 0)) (pcal c_L_once (hr.mono (by decide)) (T.glo 21 "_law_once" rfl) (pa_cons (pfld rfl (pv 0)) pa_nil)) (nomark _))))))))))), ?_⟩
  obtain ⟨a, N, rfl, hN, pl, hQ⟩ := h
  obtain ⟨hw, dx, pe, pf, pd, h1, h2, h3, h4⟩ := id hN
  obtain ⟨ps, h21, h22⟩ := id h2
  refine ⟨_, rfl, a, dx, _, rfl, h1, _, rfl, ?_⟩
  refine ⟨_, rfl, a, _, dx, _, _, rfl, h1, T.cl, T.noa 0 "states" rfl, rfl, _, rfl, a, _, dx, _, _, rfl, h1, T.cl, T.noa 1 "letters" rfl, rfl, _, rfl, a, _, dx, _, _, rfl, h1, T.cl, T.noa 2 "nodes" rfl, rfl, (sz1000 (n := 3) (by decide) : 3 ≤ sizeLine), fun t ht => ?_⟩
  have st := same_new (o := .tup [.int (N.S : Nat), .int (N.L : Nat), .int (N.n : Nat)]) ht
  have g1 := st _ _ h1
  have sn := hw.sn
  refine ⟨t, [(N.S : Int), (N.L : Int), (N.n : Int)], rfl, SqT.of upd_same, _, rfl, ?_⟩
  refine ⟨_, rfl, a, _, dx, _, _, rfl, g1, T.cl, T.noa 0 "states" rfl, rfl, _, rfl, _, _, rfl, rfl, _, rfl, iteN (by rw [decide_eq_true rfl]; rfl) ?_⟩
  refine ⟨_, rfl, a, _, dx, _, _, rfl, g1, T.cl, T.noa 1 "letters" rfl, rfl, _, rfl, _, _, rfl, rfl, _, rfl, iteN (by rw [decide_eq_true rfl]; rfl) ?_⟩
  refine ⟨_, rfl, a, _, dx, _, _, rfl, g1, T.cl, T.noa 2 "nodes" rfl, rfl, _, rfl, _, _, rfl, rfl, _, rfl, iteN (decide_eq_false (by omega)) ?_⟩
  refine ⟨_, rfl, a, dx, _, rfl, g1, a, N, rfl, hN.same st, fun H1 s1 => ⟨_, true, rfl, rfl, _, rfl, iteN (by rw [pl, decide_eq_true rfl]; rfl) ?_⟩⟩
  have s01 := st.trans s1
  have g1 := s01 _ _ h1
  refine ⟨_, rfl, a, _, dx, _, _, rfl, g1, T.cl, T.noa 3 "edges" rfl, rfl, _, _, _, _, true, rfl, .ty "tuple", ty_tup (Same.tup s01 h21), kt_tt, _, rfl, ?_⟩
  refine ⟨_, rfl, a, _, dx, _, _, rfl, g1, T.cl, T.noa 4 "ends" rfl, rfl, pf, nI N.F, rfl, by rw [← nV_I]; exact Same.tup s01 h3, _, rfl, ?_⟩
  dsimp only [tSeq, tIfS, tOr, tAnd, tNot, tB, tTest, tCB, tCons, tNil, tNext, tAsg, tRet, tDrop, tDo, gName]
  refine tforT (fun R h => ⟨_, rfl, a, _, dx, _, _, rfl, g1, T.cl, T.noa 3 "edges" rfl, rfl, h⟩) (fun i σ G => (∃ v3, σ = [some (.ref a), some (.int N.S), some (.int N.L), v3, none]) ∧ Same H G) (Same.tup s01 h21) ⟨⟨_, rfl⟩, s01⟩ (fun i σ G p => Same.tup p.2 h21) (fun i v σ G hv hσ => ?_) (fun σ G hσ => ?_)
  · obtain ⟨⟨v3, rfl⟩, sG⟩ := hσ
    obtain ⟨p, e, rfl, he, hp⟩ := trs_get h22 hv
    have em := List.mem_of_getElem? he
    obtain ⟨f1, f2, f3⟩ := hw.ef e em
    have pl2 : N.S ≤ e.2.2 := by
      unfold Net.plB at pl
      exact of_decide_eq_true (List.all_eq_true.mp pl e em)
    have hpG := Same.tup sG hp
    have g1 := sG _ _ h1
    refine ⟨_, rfl, p, trI e, rfl, pr3 hpG, _, rfl, ?_⟩
    refine ⟨_, rfl, p, _, rfl, .inr hpG, _, _, rfl, rfl, _, rfl, iteN (by show (!decide (((3 : Nat) : Int) = 3)) = false; rfl) ?_⟩
    refine ⟨_, rfl, p, _, _, _, rfl, rfl, hpG, atI_n (n := 0) rfl rfl, _, _, rfl, rfl, _, rfl, iteY (decide_eq_true (by omega)) ⟨_, rfl, a, _, dx, _, _, rfl, g1, T.cl, T.noa 2 "nodes" rfl, rfl, _, _, rfl, rfl, _, rfl, iteN (by rw [decide_eq_true (by omega)]; rfl) ?_⟩⟩
    refine ⟨_, rfl, p, _, _, _, rfl, rfl, hpG, atI_n (n := 1) rfl rfl, _, _, rfl, rfl, _, rfl, iteY (decide_eq_true (by omega)) ⟨_, rfl, _, _, rfl, rfl, _, rfl, iteN (by rw [decide_eq_true (by omega)]; rfl) ?_⟩⟩
    refine ⟨_, rfl, _, rfl, p, _, _, _, rfl, rfl, hpG, atI_n (n := 2) rfl rfl, _, _, rfl, rfl, _, rfl, iteY (decide_eq_true (by omega)) ⟨_, rfl, a, _, dx, _, _, rfl, g1, T.cl, T.noa 2 "nodes" rfl, rfl, _, _, rfl, rfl, _, rfl, iteN (by rw [decide_eq_true (by omega)]; rfl) ⟨⟨_, rfl⟩, sG⟩⟩⟩
  · obtain ⟨⟨v3, rfl⟩, sG⟩ := hσ
    have g1 := sG _ _ h1
    dsimp only [tSeq, tIfS, tOr, tAnd, tNot, tB, tTest, tCB, tCons, tNil, tNext, tAsg, tRet, tDrop, tDo, gName]
    refine tforT (fun R h => ⟨_, rfl, a, _, dx, _, _, rfl, g1, T.cl, T.noa 4 "ends" rfl, rfl, h⟩) (fun i σ G => (∃ v4, σ = [some (.ref a), some (.int N.S), some (.int N.L), v3, v4]) ∧ Same H G) (Same.tup sG h3) ⟨⟨_, rfl⟩, sG⟩ (fun i σ G p => Same.tup p.2 h3) (fun i v σ G hv hσ => ?_) (fun σ G hσ => ?_)
    · obtain ⟨⟨v4, rfl⟩, sG⟩ := hσ
      obtain ⟨f, rfl, hf⟩ := nV_get hv
      have f1 := hw.ff f (List.mem_of_getElem? hf)
      exact ⟨_, rfl, _, _, rfl, rfl, _, rfl, iteY (decide_eq_true (by omega)) ⟨_, rfl, a, _, dx, _, _, rfl, sG _ _ h1, T.cl, T.noa 2 "nodes" rfl, rfl, _, _, rfl, rfl, _, rfl, iteN (by rw [decide_eq_true (by omega)]; rfl) ⟨⟨_, rfl⟩, sG⟩⟩⟩
    · obtain ⟨⟨v4, rfl⟩, sG⟩ := hσ
      have g1 := sG _ _ h1
      refine ⟨_, rfl, a, _, dx, _, _, rfl, g1, T.cl, T.noa 3 "edges" rfl, rfl, _, rfl, a, _, dx, _, _, rfl, g1, T.cl, T.noa 3 "edges" rfl, rfl, .inl ⟨pe, N.E, rfl, (h2.same sG).any, wf_utr hw, hw.en, fun p H1 es' s1 hp pw mem => ?_⟩⟩
      have ee : N.E = es' := trs_ext hw.es pw fun x => (mem x).symm
      subst ee
      refine eq_trs ((h2.same sG).same s1) hp ⟨true, rfl, ?_⟩
      have g2 := s1 _ _ g1
      have fn : N.F.length ≤ 8388606 := by
        have nd : N.F.Nodup := List.Pairwise.imp (fun h => Nat.ne_of_lt h) hw.fs
        have : N.F.length ≤ (List.range N.n).length := nd.length_le_of_subset fun x hx => List.mem_range.mpr (hw.ff x hx)
        rw [List.length_range] at this
        have := hw.n1
        omega
      refine ⟨_, rfl, a, _, dx, _, _, rfl, g2, T.cl, T.noa 4 "ends" rfl, rfl, _, rfl, a, _, dx, _, _, rfl, g2, T.cl, T.noa 4 "ends" rfl, rfl, .inr ⟨pf, N.F, rfl, .inr (Same.tup s1 (Same.tup sG h3)), fn, fun p2 H2 s2 hp2 => ?_⟩⟩
      have ef : N.F = sortS N.F := sorted_ext hw.fs (sortS_sorted _) fun x => mem_sortS.symm
      rw [← ef] at hp2
      exact eq_nV (Same.tup s2 (Same.tup s1 (Same.tup sG h3))) hp2 (hQ _ (sG.trans (s1.trans s2)))
/-! ### configurations -/
def sp_L_is_configuration (P : Program) (w : World) (K : PySem.W.Frag) : SpN := fun vs H Q => ∃ (u v : V) (r : Option (Nat × List Nat)), vs = [u, v] ∧ OptAt K H u r ∧ OptAt K H v r ∧ ∀ H', Same H H' → Q (.bl true) H'
theorem len_L_is_configuration : ∀ vs H Q, sp_L_is_configuration P w K vs H Q → vs.length = 2 := fun _ _ _ ⟨_, _, _, e, _⟩ => by subst e; rfl
theorem sc_L_is_configuration : FnScope ["_law_found", "_law_due"] ["_law_found", "_law_due"] (defScope s_L_is_configuration) := ⟨rfl, rfl, rfl, by decide +kernel, rfl, by decide +kernel, by decide +kernel⟩
/- slots: 0 _law_found, 1 _law_due -/
theorem ok_L_is_configuration (T : Tb K mg) (c_L_is_number : Cal P w K mg base (He.ga K "_law_is_number") 1 ["_law_x"] (sp_L_is_number P w K)) (c_L_are_numbers : Cal P w K mg base (He.ga K "_law_are_numbers") 2 ["_law_xs"] (sp_L_are_numbers P w K)) : Cal P w K mg base (He.ga K "_law_is_configuration") 3 ["_law_found", "_law_due"] (sp_L_is_configuration P w K) := by
  obtain ⟨fd, F⟩ := T.dfs 29 d_L_is_configuration rfl
  refine cal_of (N := ["_law_found", "_law_due"]) F sc_L_is_configuration (F.bindsN fun _ _ _ _ _ _ us hl => match us, hl with | [_, _], _ => rfl) (len_L_is_configuration) fun cdv A outer s H vs Q E hr h => ?_
  refine ⟨(tSeq (tIfS (tOr (tTest (tOp rIsN (tVar 1) (tC .non))) (tTest (tOp rIsN (tVar 0) (tC .non)))) (tRet (tAndV (tOp rIsN (tVar 1) (tC .non)) (tOp rIsN (tVar 0) (tC .non)))) tNext) (tSeq (tIfS (tOr (tNot (tB (tCB (rIsi K) (tCons (tVar 0) (tCons (tC (.ty "tuple")) tNil))))) (tOr (tTest (tOp rNeI (tCB (rLen2 K) (tCons (tVar 0) tNil)) (tC (.int 2)))) (tNot (tB (tDo (sp_L_is_number P w K) (tCons (tOp (rIxT K) (tVar 0) (tC (.int 0))) tNil)))))) (tRet (tC (.bl false))) tNext) (tRet (tAndV (tDo (sp_L_are_numbers P w K) (tCons (tOp (rIxT K) (tVar 0) (tC (.int 1))) tNil)) (tAndV (tOp rEqI (tOp (rIxT K) (tVar 0) (tC (.int 0))) (tOp (rIxT K) (tVar 1) (tC (.int 0)))) (tOp (rEqD K) (tOp (rIxT K) (tVar 0) (tC (.int 1))) (tOp (rIxT K) (tVar 1) (tC (.int 1))))))))), (pss_cons (ps_if ((pw_or (pt_cmpR op_isN1 (pv 1) pe_non (nomark _)) (pw_or1 (pt_cmpR op_isN1 (pv 0) pe_non (nomark _))))).pt (pss_one (ps_ret (pe_and (pe_cmpR op_isN1 (pv 1) pe_non (nomark _)) (pe_one (pe_cmpR op_isN1 (pv 0) pe_non (nomark _)))))) pss_nil) (pss_cons (ps_if ((pw_or (pt_not (pt_val (pe_callB call_isi (by rfl) (T.fre 6 "isinstance" rfl) kb_isinstance (pa_cons (pv 0) (pa_cons (pe_bltn (v := V.ty "tuple") (by rfl) (T.fre 2 "tuple" rfl) kb_tuple rfl) pa_nil))) (by intro _; rfl))) (pw_or (pt_cmpR op_neI (pe_callB call_len2 (by rfl) (T.fre 0 "len" rfl) kb_len (pa_cons (pv 0) pa_nil)) pe_int (nomark _)) (pw_or1 (pt_not (pt_val (pcal c_L_is_number (hr.mono (by decide)) (T.glo 19 "_law_is_number" rfl) (pa_cons (pe_ix ix_tup (pv 0) pe_int (fun _ _ => rfl)) pa_nil)) (by intro _; rfl))))))).pt (pss_one (ps_ret pe_bl)) pss_nil) (pss_one (ps_ret (pe_and (pcal c_L_are_numbers (hr.mono (by decide)) (T.glo 20 "_law_are_numbers" rfl) (pa_cons (pe_ix ix_tup (pv 0) pe_int (fun _ _ => rfl)) pa_nil)) (pe_and (pe_cmpR op_eqI (pe_ix ix_tup (pv 0) pe_int (fun _ _ => rfl)) (pe_ix ix_tup (pv 1) pe_int (fun _ _ => rfl)) (nomark _)) (pe_one (pe_cmpR (op_eqD hr.units) (pe_ix ix_tup (pv 0) pe_int (fun _ _ => rfl)) (pe_ix ix_tup (pv 1) pe_int (fun _ _ => rfl)) (nomark _))))))))), ?_⟩
  obtain ⟨u, v, r, rfl, hu, hv, hQ⟩ := h
  cases r with
  | none =>
    have eu : u = .non := hu
    have ev : v = .non := hv
    subst eu ev
    exact ⟨_, rfl, rfl, _, rfl, ⟨_, rfl, rfl, ⟨_, rfl, _, rfl, rfl, hQ H (Same.refl H)⟩⟩⟩
  | some sp =>
    obtain ⟨s0, p⟩ := sp
    obtain ⟨q, b, rfl, q1, q2⟩ := hu
    obtain ⟨q', b', rfl, q1', q2'⟩ := hv
    refine ⟨_, rfl, rfl, _, rfl, ⟨_, rfl, rfl, _, rfl, ?_⟩⟩
    refine ⟨_, rfl, _, _, _, _, true, rfl, .ty "tuple", ty_tup q1, kt_tt, _, rfl, ?_⟩
    refine ⟨_, rfl, q, _, rfl, .inr q1, _, _, rfl, rfl, _, rfl, iteN (by show (!decide (((2 : Nat) : Int) = 2)) = false; rfl) ?_⟩
    refine ⟨_, rfl, q, _, _, _, rfl, rfl, q1, atI_n (n := 0) rfl rfl, (s0 : Int), rfl, _, rfl, ?_⟩
    refine ⟨_, rfl, q, _, _, _, rfl, rfl, q1, atI_n (n := 1) rfl rfl, b, nI p, rfl, by rw [← nV_I]; exact q2, _, rfl, ?_⟩
    refine ⟨_, rfl, q, _, _, _, rfl, rfl, q1, atI_n (n := 0) rfl rfl, _, rfl, q', _, _, _, rfl, rfl, q1', atI_n (n := 0) rfl rfl, _, _, rfl, rfl, _, rfl, iteY (decide_eq_true rfl) ?_⟩
    exact ⟨_, rfl, q, _, _, _, rfl, rfl, q1, atI_n (n := 1) rfl rfl, _, rfl, q', _, _, _, rfl, rfl, q1', atI_n (n := 1) rfl rfl, eq_nV q2 q2' (hQ H (Same.refl H))⟩
end
end K23
/-! K23Le -/
set_option Elab.async false
set_option linter.all false
set_option maxRecDepth 100000
set_option maxHeartbeats 4000000
namespace K23
open PySem PySem.Spec PyProof.Rows L2
section
variable {P : Program} {w : World} {K : PySem.W.Frag} {mg : Str → Option Value} {base : Heap}
theorem in_nVL {G : Hp} {p : Addr} {F : List Nat} {x : Nat} {Q : VK} (neg : Bool) (h : SqA K G p (nV F)) (q : Q (.bl (if neg then !decide (x ∈ F) else decide (x ∈ F))) G) : rIn K neg (.int (x : Nat)) (.ref p) G Q :=
  ⟨p, _, rfl, h, rfl, flatV_nV _, qbl (Q := Q) (by rw [inV_nV x F]) q⟩
def sp_L_moved (P : Program) (w : World) (K : PySem.W.Frag) : SpN := fun vs H Q => ∃ (q b : Addr) (N : Net) (g : List Nat) (l : Nat), vs = [.ref q, .ref b, .int (l : Nat)] ∧ PaAt K H q N ∧ SqT K H b (nV g) ∧ N.E.length ≤ 1000 ∧ ∀ p H', Same H H' → SqT K H' p (nV (mvE N.E g l)) → Q (.ref p) H'
theorem len_L_moved : ∀ vs H Q, sp_L_moved P w K vs H Q → vs.length = 3 := fun _ _ _ ⟨_, _, _, _, _, e, _⟩ => by subst e; rfl
theorem sc_L_moved : FnScope ["_law_parts_here", "_law_group", "_law_letter", "_law_reached", "_law_edge"] ["_law_parts_here", "_law_group", "_law_letter"] (defScope s_L_moved) := ⟨rfl, rfl, rfl, by decide +kernel, rfl, by decide +kernel, by decide +kernel⟩
/- slots: 0 _law_parts_here, 1 _law_group, 2 _law_letter, 3 _law_reached, 4 _law_edge -/
theorem ok_L_moved (T : Tb K mg)  : Cal P w K mg base (He.ga K "_law_moved") 1 ["_law_parts_here", "_law_group", "_law_letter"] (sp_L_moved P w K) := by
  obtain ⟨fd, F⟩ := T.dfs 30 d_L_moved rfl
  refine cal_of (N := ["_law_parts_here", "_law_group", "_law_letter", "_law_reached", "_law_edge"]) F sc_L_moved (F.bindsN fun _ _ _ _ _ _ us hl => match us, hl with | [_, _, _], _ => rfl) (len_L_moved) fun cdv A outer s H vs Q E hr h => ?_
  refine ⟨(tSeq (tAsg (tLst tNil) (gName 3)) (tSeq (tFor (iList K (tOp (rIxT K) (tVar 0) (tC (.int 3)))) (gName 4) (tIfS (tAnd (tTest (tOp rEqI (tOp (rIxT K) (tVar 4) (tC (.int 1))) (tVar 2))) (tAnd (tTest (tOp (rIn K false) (tOp (rIxT K) (tVar 4) (tC (.int 0))) (tVar 1))) (tTest (tOp (rIn K true) (tOp (rIxT K) (tVar 4) (tC (.int 2))) (tVar 3))))) (tDrop (tBM K "list" rAppend (tVar 3) (tCons (tOp (rIxT K) (tVar 4) (tC (.int 2))) tNil))) tNext)) (tRet (tCB (rTupOf K) (tCons (tCB (rSortI2 K) (tCons (tVar 3) tNil)) tNil))))), (pss_cons (ps_set (i := 3) sc_L_moved.nd rfl (by first | exact Or.inl rfl | exact Or.inr rfl) (pe_lst pa_nil)) (pss_cons (ps_for PassesOwn.never rfl (pi_list (pe_ix ix_tup (pv 0) pe_int (fun _ _ => rfl))) (pg_name (i := 4) sc_L_moved.nd rfl (by first | exact Or.inl rfl | exact Or.inr rfl)) (pss_one (ps_if ((pw_and (pt_cmpR op_eqI (pe_ix ix_tup (pv 4) pe_int (fun _ _ => rfl)) (pv 2) (nomark _)) (pw_and (pt_cmpR op_in_seq (pe_ix ix_tup (pv 4) pe_int (fun _ _ => rfl)) (pv 1) (by with_unfolding_all rfl)) (pw_and1 (pt_cmpR op_notIn_seq (pe_ix ix_tup (pv 4) pe_int (fun _ _ => rfl)) (pv 3) (by with_unfolding_all rfl)))))).pt (pss_one (ps_expr (pe_bm PySem.F.plainAttrs_list PySem.F.slot_list_append PySem.F.type_list_append mt_append (pv 3) (pa_cons (pe_ix ix_tup (pv 4) pe_int (fun _ _ => rfl)) pa_nil)))) pss_nil))) (pss_one (ps_ret (pe_callTy call_tuple_ofn (by rfl) (T.fre 2 "tuple" rfl) kb_tuple (pa_cons (pe_callB (cr_sortI2 hr.units) (by rfl) (T.fre 3 "sorted" rfl) kb_sorted (pa_cons (pv 3) pa_nil)) pa_nil)))))), ?_⟩
  obtain ⟨q, b, N, g, l, rfl, ⟨e, f, q1, ⟨ps, q2, q2'⟩, q3⟩, hb, hl, hQ⟩ := h
  refine ⟨Nat.zero_le _, fun d hd => ?_⟩
  have s0 := same_new (o := .lst []) hd
  dsimp only [tSeq, tIfS, tOr, tAnd, tNot, tB, tTest, tCB, tCons, tNil, tNext, tAsg, tRet, tDrop, tDo, gName]
  refine tforL (fun R h => ⟨_, rfl, q, _, _, _, rfl, rfl, Same.tup s0 q1, atI_n (n := 3) rfl rfl, h⟩) (fun i σ G => (∃ v4, σ = [some (.ref q), some (.ref b), some (.int l), some (.ref d), v4]) ∧ Same H G ∧ ∃ rs, G d = some (.lst (nV rs)) ∧ rs.Nodup ∧ rs.length ≤ i ∧ ∀ y, y ∈ rs ↔ ∃ x ∈ g, (x, l, y) ∈ N.E.take i)
    (s0.seq q2) ⟨⟨_, rfl⟩, s0, [], upd_same, List.nodup_nil, Nat.le_refl _, fun y => ⟨fun h => (nomatch h), fun ⟨_, _, h⟩ => (nomatch h)⟩⟩ (fun i σ G p => p.2.1.seq q2) (fun i v σ G hv hσ => ?_) (fun σ G hσ => ?_)
  · obtain ⟨⟨v4, rfl⟩, sG, rs, hG, nd, ln, mem⟩ := hσ
    obtain ⟨p, t, rfl, ht, hp⟩ := trs_get q2' hv
    have hpG := Same.tup sG hp
    have lt := (List.getElem?_eq_some_iff.mp ht).1
    have mem' : ∀ y, (∃ x ∈ g, (x, l, y) ∈ N.E.take (i + 1)) ↔ (∃ x ∈ g, (x, l, y) ∈ N.E.take i) ∨ (t.1 ∈ g ∧ t.2.1 = l ∧ t.2.2 = y) := fun y => by
      rw [take_snoc ht]
      constructor
      · rintro ⟨x, h1, h2⟩
        rcases List.mem_append.mp h2 with h2 | h2
        · exact .inl ⟨x, h1, h2⟩
        · have := List.mem_singleton.mp h2
          subst this
          exact .inr ⟨h1, rfl, rfl⟩
      · rintro (⟨x, h1, h2⟩ | ⟨h1, rfl, rfl⟩)
        · exact ⟨x, h1, List.mem_append_left _ h2⟩
        · exact ⟨t.1, h1, List.mem_append_right _ List.mem_cons_self⟩
    have stay : ¬ (t.1 ∈ g ∧ t.2.1 = l ∧ t.2.2 ∉ rs) → ∀ y, y ∈ rs ↔ ∃ x ∈ g, (x, l, y) ∈ N.E.take (i + 1) := fun no y => by
      rw [mem', mem y]
      refine ⟨.inl, fun h => h.elim id fun ⟨h1, h2, h3⟩ => ?_⟩
      rw [← mem y, ← h3]
      by_cases c : t.2.2 ∈ rs
      · exact c
      · exact absurd ⟨h1, h2, c⟩ no
    refine ⟨_, rfl, p, _, _, _, rfl, rfl, hpG, atI_n (n := 1) rfl rfl, _, rfl, _, _, rfl, rfl, _, rfl, iteB (fun c => ?_) fun c => ⟨⟨_, rfl⟩, sG, rs, hG, nd, by omega, stay fun z => of_decide_eq_false c (by rw [z.2.1])⟩⟩
    have c1 : t.2.1 = l := Int.ofNat.inj (of_decide_eq_true c)
    refine ⟨_, rfl, p, _, _, _, rfl, rfl, hpG, atI_n (n := 0) rfl rfl, _, rfl, in_nVL false (.inr (Same.tup sG hb)) ⟨_, rfl, iteB (fun c => ?_) fun c => ⟨⟨_, rfl⟩, sG, rs, hG, nd, by omega, stay fun z => of_decide_eq_false c z.1⟩⟩⟩
    have c2 : t.1 ∈ g := of_decide_eq_true c
    refine ⟨_, rfl, p, _, _, _, rfl, rfl, hpG, atI_n (n := 2) rfl rfl, _, rfl, in_nVL true (.inl (SqL.of hG)) ⟨_, rfl, iteB (fun c => ?_) fun c => ⟨⟨_, rfl⟩, sG, rs, hG, nd, by omega, stay fun z => by rw [if_pos rfl, decide_eq_false z.2.2] at c; cases c⟩⟩⟩
    have c3 : t.2.2 ∉ rs := fun z => by
      rw [if_pos rfl, decide_eq_true z] at c
      cases c
    refine ⟨_, rfl, .inl ⟨rfl, _, SqL.of hG⟩, _, rfl, p, _, _, _, rfl, rfl, hpG, atI_n (n := 2) rfl rfl, d, _, _, rfl, rfl, hG, by rw [nV_len]; exact line_lt (by omega), ⟨_, rfl⟩, same_put sG hd, rs ++ [t.2.2], ?_, nodup_snoc nd c3, by rw [List.length_append]; show _ + 1 ≤ _; omega, fun y => ?_⟩
    · rw [upd_same]
      exact congrArg (fun z => some (HO.lst z)) (nV_snoc rs t.2.2)
    · rw [List.mem_append, List.mem_singleton, mem', mem y]
      exact or_congr Iff.rfl ⟨fun h => ⟨c2, c1, h.symm⟩, fun h => h.2.2.symm⟩
  · obtain ⟨⟨v4, rfl⟩, sG, rs, hG, nd, ln, mem⟩ := hσ
    rw [trs_len q2'] at ln mem
    rw [List.take_length] at mem
    have e2 : sortS rs = mvE N.E g l := sorted_ext (sortS_sorted _) (mvE_sorted _ _ _) fun y => by rw [mem_sortS, mem y, mem_mvE]
    dsimp only [tRet]
    exact rd_sortI (l := rs) (fun R h => ⟨_, rfl, h d G (Same.refl G) (.inl (SqL.of hG))⟩) nd (by omega) fun p G2 s2 hp => hQ p G2 (sG.trans s2) (by rw [← e2]; exact hp)
def sp_L_has_end (P : Program) (w : World) (K : PySem.W.Frag) : SpN := fun vs H Q => ∃ (q b : Addr) (N : Net) (g : List Nat), vs = [.ref q, .ref b] ∧ PaAt K H q N ∧ SqT K H b (nV g) ∧ Q (.bl (hasE N.F g)) H
theorem len_L_has_end : ∀ vs H Q, sp_L_has_end P w K vs H Q → vs.length = 2 := fun _ _ _ ⟨_, _, _, _, e, _⟩ => by subst e; rfl
theorem sc_L_has_end : FnScope ["_law_parts_here", "_law_group", "_law_node"] ["_law_parts_here", "_law_group"] (defScope s_L_has_end) := ⟨rfl, rfl, rfl, by decide +kernel, rfl, by decide +kernel, by decide +kernel⟩
/- slots: 0 _law_parts_here, 1 _law_group, 2 _law_node -/
theorem ok_L_has_end (T : Tb K mg)  : Cal P w K mg base (He.ga K "_law_has_end") 1 ["_law_parts_here", "_law_group"] (sp_L_has_end P w K) := by
  obtain ⟨fd, F⟩ := T.dfs 31 d_L_has_end rfl
  refine cal_of (N := ["_law_parts_here", "_law_group", "_law_node"]) F sc_L_has_end (F.bindsN fun _ _ _ _ _ _ us hl => match us, hl with | [_, _], _ => rfl) (len_L_has_end) fun cdv A outer s H vs Q E hr h => ?_
  refine ⟨(tSeq (tFor (iTup K (tVar 1)) (gName 2) (tIfS (tTest (tOp (rIn K false) (tVar 2) (tOp (rIxT K) (tVar 0) (tC (.int 4))))) (tRet (tC (.bl true))) tNext)) (tRet (tC (.bl false)))), (pss_cons (ps_for PassesOwn.never rfl (pi_tup (pv 1)) (pg_name (i := 2) sc_L_has_end.nd rfl (by first | exact Or.inl rfl | exact Or.inr rfl)) (pss_one (ps_if (pt_cmpR op_in_seq (pv 2) (pe_ix ix_tup (pv 0) pe_int (fun _ _ => rfl)) (by with_unfolding_all rfl)) (pss_one (ps_ret pe_bl)) pss_nil))) (pss_one (ps_ret pe_bl))), ?_⟩
  obtain ⟨q, b, N, g, rfl, ⟨e, f, q1, q2, q3⟩, hb, hQ⟩ := h
  dsimp only [tSeq, tIfS, tOr, tAnd, tNot, tB, tTest, tCB, tCons, tNil, tNext, tAsg, tRet, tDrop, tDo, gName]
  refine tforT (fun R h => ⟨_, rfl, h⟩) (fun i σ G => (∃ v2, σ = [some (.ref q), some (.ref b), v2]) ∧ H = G ∧ hasE N.F (g.take i) = false) hb ⟨⟨_, rfl⟩, rfl, rfl⟩ (fun i σ G p => by rw [← p.2.1]; exact hb) (fun i v σ G hv hσ => ?_) (fun σ G hσ => ?_)
  · obtain ⟨⟨v2, rfl⟩, rfl, no⟩ := hσ
    obtain ⟨x, rfl, hx⟩ := nV_get hv
    refine ⟨_, rfl, _, rfl, q, _, _, _, rfl, rfl, q1, atI_n (n := 4) rfl rfl, in_nVL false (.inl q3) ⟨_, rfl, iteB (fun c => ?_) fun c => ?_⟩⟩
    · rw [if_neg Bool.false_ne_true] at c
      exact qbl (Q := Q) (Eq.symm (List.any_eq_true.mpr ⟨x, List.mem_of_getElem? hx, c⟩)) hQ
    · rw [if_neg Bool.false_ne_true] at c
      refine ⟨⟨_, rfl⟩, rfl, ?_⟩
      unfold hasE at no ⊢
      rw [take_snoc hx, List.any_append, no, Bool.false_or, List.any_cons, List.any_nil, Bool.or_false]
      exact c
  · obtain ⟨⟨v2, rfl⟩, rfl, no⟩ := hσ
    rw [nV_len, List.take_length] at no
    exact qbl (Q := Q) no.symm hQ
def sp_L_tells (P : Program) (w : World) (K : PySem.W.Frag) : SpN := fun vs H Q => ∃ b : Bool, vs = [.bl b, .bl b] ∧ Q (.bl true) H
theorem len_L_tells : ∀ vs H Q, sp_L_tells P w K vs H Q → vs.length = 2 := fun _ _ _ ⟨_, e, _⟩ => by subst e; rfl
theorem sc_L_tells : FnScope ["_law_found", "_law_due"] ["_law_found", "_law_due"] (defScope s_L_tells) := ⟨rfl, rfl, rfl, by decide +kernel, rfl, by decide +kernel, by decide +kernel⟩
/- slots: 0 _law_found, 1 _law_due -/
theorem ok_L_tells (T : Tb K mg)  : Cal P w K mg base (He.ga K "_law_tells") 1 ["_law_found", "_law_due"] (sp_L_tells P w K) := by
  obtain ⟨fd, F⟩ := T.dfs 33 d_L_tells rfl
  refine cal_of (N := ["_law_found", "_law_due"]) F sc_L_tells (F.bindsN fun _ _ _ _ _ _ us hl => match us, hl with | [_, _], _ => rfl) (len_L_tells) fun cdv A outer s H vs Q E hr h => ?_
  refine ⟨(tRet (tAndV (tCB (rIsi K) (tCons (tVar 0) (tCons (tC (.ty "bool")) tNil))) (tOp rEq (tVar 0) (tVar 1)))), (pss_one (ps_ret (pe_and (pe_callB call_isi (by rfl) (T.fre 6 "isinstance" rfl) kb_isinstance (pa_cons (pv 0) (pa_cons (pe_bltn (v := V.ty "bool") (by rfl) (T.fre 8 "bool" rfl) kb_bool rfl) pa_nil))) (pe_one (pe_cmpR op_eq (pv 0) (pv 1) (nomark _)))))), ?_⟩
  obtain ⟨b, rfl, hQ⟩ := h
  refine ⟨_, rfl, _, _, _, _, true, rfl, .ty "bool", .base (.bl b), kt_bb, _, rfl, _, rfl, _, rfl, rfl, ?_⟩
  exact qbl (Q := Q) (decide_eq_true rfl) hQ
/-! ### truth, meaning -/
def mmA (ms : List Nat) (i : Nat) : Nat := ms.getD i 0
theorem mmA_get {ms : List Nat} {i : Nat} (h : i < ms.length) : (nV ms)[i]? = some (.int (mmA ms i : Nat)) := by
  refine nV_at ?_
  unfold mmA
  rw [List.getElem?_eq_getElem h, List.getD_eq_getElem?_getD, List.getElem?_eq_getElem h]
  rfl
def truthB (f : Nat → Bool) (t : Nat) : Bool := if t % 5 = 2 then !f (t / 5 % 3) else if t % 5 = 3 then f (t / 5 % 3) && !f (t / 15 % 3) else f (t / 5 % 3)
def meanB (f : Nat → Bool) (ms : List Nat) : Nat → Bool
  | 0 => truthB f (mmA ms 29)
  | k + 1 => if mmA ms (33 + k) % 2 = 0 then meanB f ms k || truthB f (mmA ms (30 + k)) else meanB f ms k && truthB f (mmA ms (30 + k))
def flV (f : Nat → Bool) : List V := [.bl (f 0), .bl (f 1), .bl (f 2)]
theorem flV_get (f : Nat → Bool) (k : Nat) : (flV f)[k % 3]? = some (.bl (f (k % 3))) := by
  have : k % 3 = 0 ∨ k % 3 = 1 ∨ k % 3 = 2 := by omega
  rcases this with e | e | e <;> rw [e] <;> rfl
def sp_L_truth (P : Program) (w : World) (K : PySem.W.Frag) : SpN := fun vs H Q => ∃ (a : Addr) (f : Nat → Bool) (t : Nat), vs = [.ref a, .int (t : Nat)] ∧ SqL K H a (flV f) ∧ Q (.bl (truthB f t)) H
theorem len_L_truth : ∀ vs H Q, sp_L_truth P w K vs H Q → vs.length = 2 := fun _ _ _ ⟨_, _, _, e, _⟩ => by subst e; rfl
theorem nmod {t m : Nat} : ((t : Int) % (m : Int)) = ((t % m : Nat) : Int) := (Int.natCast_emod t m).symm
theorem ndm {t a b : Nat} : ((t : Int) / (a : Int) % (b : Int)) = ((t / a % b : Nat) : Int) := by rw [← Int.natCast_ediv, ← Int.natCast_emod]
theorem dec5 {t c : Nat} : decide ((t : Int) % 5 = (c : Int)) = decide (t % 5 = c) := decide_eq_decide.mpr (by omega)
theorem sc_L_truth : FnScope ["_law_flags", "_law_number", "_law_inside"] ["_law_flags", "_law_number"] (defScope s_L_truth) := ⟨rfl, rfl, rfl, by decide +kernel, rfl, by decide +kernel, by decide +kernel⟩
/- slots: 0 _law_flags, 1 _law_number, 2 _law_inside -/
theorem ok_L_truth (T : Tb K mg)  : Cal P w K mg base (He.ga K "_law_truth") 1 ["_law_flags", "_law_number"] (sp_L_truth P w K) := by
  obtain ⟨fd, F⟩ := T.dfs 39 d_L_truth rfl
  refine cal_of (N := ["_law_flags", "_law_number", "_law_inside"]) F sc_L_truth (F.bindsN fun _ _ _ _ _ _ us hl => match us, hl with | [_, _], _ => rfl) (len_L_truth) fun cdv A outer s H vs Q E hr h => ?_
  refine ⟨(tSeq (tAsg (tOp (rIxL K) (tVar 0) (tOp rMo (tCB rInt1 (tCons (tOp rFd (tVar 1) (tC (.int 5))) tNil)) (tC (.int 3)))) (gName 2)) (tSeq (tIfS (tTest (tOp rEqI (tOp rMo (tCB rInt1 (tCons (tVar 1) tNil)) (tC (.int 5))) (tC (.int 2)))) (tRet (tNotV (tVar 2))) tNext) (tSeq (tIfS (tTest (tOp rEqI (tOp rMo (tCB rInt1 (tCons (tVar 1) tNil)) (tC (.int 5))) (tC (.int 3)))) (tRet (tAndV (tVar 2) (tNotV (tOp (rIxL K) (tVar 0) (tOp rMo (tCB rInt1 (tCons (tOp rFd (tVar 1) (tC (.int 15))) tNil)) (tC (.int 3))))))) tNext) (tRet (tVar 2))))), (pss_cons (ps_set (i := 2) sc_L_truth.nd rfl (by first | exact Or.inl rfl | exact Or.inr rfl) (pe_ix ix_list (pv 0) (pe_op op_mod (pe_callTy call_int1n (by rfl) (T.fre 7 "int" rfl) kb_int (pa_cons (pe_op op_fdiv (pv 1) pe_int) pa_nil)) pe_int) (fun _ _ => rfl))) (pss_cons (ps_if (pt_cmpR op_eqI (pe_op op_mod (pe_callTy call_int1n (by rfl) (T.fre 7 "int" rfl) kb_int (pa_cons (pv 1) pa_nil)) pe_int) pe_int (nomark _)) (pss_one (ps_ret (pe_not (pv 2)))) pss_nil) (pss_cons (ps_if (pt_cmpR op_eqI (pe_op op_mod (pe_callTy call_int1n (by rfl) (T.fre 7 "int" rfl) kb_int (pa_cons (pv 1) pa_nil)) pe_int) pe_int (nomark _)) (pss_one (ps_ret (pe_and (pv 2) (pe_one (pe_not (pe_ix ix_list (pv 0) (pe_op op_mod (pe_callTy call_int1n (by rfl) (T.fre 7 "int" rfl) kb_int (pa_cons (pe_op op_fdiv (pv 1) pe_int) pa_nil)) pe_int) (fun _ _ => rfl))))))) pss_nil) (pss_one (ps_ret (pv 2)))))), ?_⟩
  obtain ⟨a, f, t, rfl, hA, hQ⟩ := h
  unfold truthB at hQ
  refine ⟨_, rfl, _, rfl, _, _, rfl, rfl, ⟨by decide, by decide⟩, .inl ⟨_, rfl, _, _, rfl, rfl, (by show (0 : Int) < _; decide), a, _, _, _, rfl, rfl, hA, atI_n (n := t / 5 % 3) (by omega) (flV_get f _), ?_⟩⟩
  refine ⟨_, rfl, .inl ⟨_, rfl, _, _, rfl, rfl, (by show (0 : Int) < _; decide), _, _, rfl, rfl, _, rfl, iteB (fun c => ?_) fun c => ?_⟩⟩
  · have c' : t % 5 = 2 := by have := of_decide_eq_true c; omega
    rw [if_pos c'] at hQ
    exact ⟨_, rfl, _, rfl, hQ⟩
  have c1 : ¬ t % 5 = 2 := fun z => of_decide_eq_false c (by omega)
  rw [if_neg c1] at hQ
  refine ⟨_, rfl, .inl ⟨_, rfl, _, _, rfl, rfl, (by show (0 : Int) < _; decide), _, _, rfl, rfl, _, rfl, iteB (fun c => ?_) fun c => ?_⟩⟩
  · have c' : t % 5 = 3 := by have := of_decide_eq_true c; omega
    rw [if_pos c'] at hQ
    refine ⟨_, rfl, _, rfl, iteB (fun q => ?_) fun q => ?_⟩
    · rw [q, Bool.true_and] at hQ
      exact ⟨_, rfl, _, rfl, _, _, rfl, rfl, ⟨by decide, by decide⟩, .inl ⟨_, rfl, _, _, rfl, rfl, (by show (0 : Int) < _; decide), a, _, _, _, rfl, rfl, hA, atI_n (n := t / 15 % 3) (by omega) (flV_get f _), _, rfl, hQ⟩⟩
    · rw [q, Bool.false_and] at hQ
      exact hQ
  · have c2 : ¬ t % 5 = 3 := fun z => of_decide_eq_false c (by omega)
    rw [if_neg c2] at hQ
    exact ⟨_, rfl, hQ⟩
def sp_L_meaning (P : Program) (w : World) (K : PySem.W.Frag) : SpN := fun vs H Q => ∃ (a b : Addr) (f : Nat → Bool) (ms : List Nat) (k : Nat), vs = [.ref a, .ref b, .int (k : Nat)] ∧ SqL K H a (flV f) ∧ SqL K H b (nV ms) ∧ ms.length = 42 ∧ k ≤ 3 ∧ Q (.bl (meanB f ms k)) H
theorem len_L_meaning : ∀ vs H Q, sp_L_meaning P w K vs H Q → vs.length = 3 := fun _ _ _ ⟨_, _, _, _, _, e, _⟩ => by subst e; rfl
theorem sc_L_meaning : FnScope ["_law_flags", "_law_numbers_here", "_law_size", "_law_inside", "_law_k"] ["_law_flags", "_law_numbers_here", "_law_size"] (defScope s_L_meaning) := ⟨rfl, rfl, rfl, by decide +kernel, rfl, by decide +kernel, by decide +kernel⟩
/- slots: 0 _law_flags, 1 _law_numbers_here, 2 _law_size, 3 _law_inside, 4 _law_k -/
theorem ok_L_meaning (T : Tb K mg) (c_L_truth : Cal P w K mg base (He.ga K "_law_truth") 1 ["_law_flags", "_law_number"] (sp_L_truth P w K)) : Cal P w K mg base (He.ga K "_law_meaning") 2 ["_law_flags", "_law_numbers_here", "_law_size"] (sp_L_meaning P w K) := by
  obtain ⟨fd, F⟩ := T.dfs 41 d_L_meaning rfl
  refine cal_of (N := ["_law_flags", "_law_numbers_here", "_law_size", "_law_inside", "_law_k"]) F sc_L_meaning (F.bindsN fun _ _ _ _ _ _ us hl => match us, hl with | [_, _, _], _ => rfl) (len_L_meaning) fun cdv A outer s H vs Q E hr h => ?_
  refine ⟨(tSeq (tAsg (tDo (sp_L_truth P w K) (tCons (tVar 0) (tCons (tOp (rIxL K) (tVar 1) (tC (.int 29))) tNil))) (gName 3)) (tSeq (tFor (iRng1 (tCons (tVar 2) tNil)) (gName 4) (tIfS (tTest (tOp rEqI (tOp rMo (tCB rInt1 (tCons (tOp (rIxL K) (tVar 1) (tOp rPl (tC (.int 33)) (tVar 4))) tNil)) (tC (.int 2))) (tC (.int 0)))) (tAsg (tOrV (tVar 3) (tDo (sp_L_truth P w K) (tCons (tVar 0) (tCons (tOp (rIxL K) (tVar 1) (tOp rPl (tC (.int 30)) (tVar 4))) tNil)))) (gName 3)) (tAsg (tAndV (tVar 3) (tDo (sp_L_truth P w K) (tCons (tVar 0) (tCons (tOp (rIxL K) (tVar 1) (tOp rPl (tC (.int 30)) (tVar 4))) tNil)))) (gName 3)))) (tRet (tVar 3)))), (pss_cons (ps_set (i := 3) sc_L_meaning.nd rfl (by first | exact Or.inl rfl | exact Or.inr rfl) (pcal c_L_truth (hr.mono (by decide)) (T.glo 34 "_law_truth" rfl) (pa_cons (pv 0) (pa_cons (pe_ix ix_list (pv 1) pe_int (fun _ _ => rfl)) pa_nil)))) (pss_cons (ps_for PassesOwn.never rfl (pi_range1 (by rfl) (T.fre 1 "range" rfl) (pa_cons (pv 2) pa_nil)) (pg_name (i := 4) sc_L_meaning.nd rfl (by first | exact Or.inl rfl | exact Or.inr rfl)) (pss_one (ps_if (pt_cmpR op_eqI (pe_op op_mod (pe_callTy call_int1n (by rfl) (T.fre 7 "int" rfl) kb_int (pa_cons (pe_ix ix_list (pv 1) (pe_op op_add pe_int (pv 4)) (fun _ _ => rfl)) pa_nil)) pe_int) pe_int (nomark _)) (pss_one (ps_set (i := 3) sc_L_meaning.nd rfl (by first | exact Or.inl rfl | exact Or.inr rfl) (pe_or (pv 3) (pe_one (pcal c_L_truth (hr.mono (by decide)) (T.glo 34 "_law_truth" rfl) (pa_cons (pv 0) (pa_cons (pe_ix ix_list (pv 1) (pe_op op_add pe_int (pv 4)) (fun _ _ => rfl)) pa_nil))))))) (pss_one (ps_set (i := 3) sc_L_meaning.nd rfl (by first | exact Or.inl rfl | exact Or.inr rfl) (pe_and (pv 3) (pe_one (pcal c_L_truth (hr.mono (by decide)) (T.glo 34 "_law_truth" rfl) (pa_cons (pv 0) (pa_cons (pe_ix ix_list (pv 1) (pe_op op_add pe_int (pv 4)) (fun _ _ => rfl)) pa_nil)))))))))) (pss_one (ps_ret (pv 3))))), ?_⟩
  obtain ⟨a, b, f, ms, k, rfl, hA, hB, hm, hk, hQ⟩ := h
  refine ⟨_, rfl, _, rfl, b, _, _, _, rfl, rfl, hB, atI_n (n := 29) rfl (mmA_get (by omega)), a, f, mmA ms 29, rfl, hA, ?_⟩
  dsimp only [tSeq, tIfS, tOr, tAnd, tNot, tB, tTest, tCB, tCons, tNil, tNext, tAsg, tRet, tDrop, tDo, gName]
  refine tforR (n := k) (fun R h => ⟨_, rfl, h⟩) (by omega) (fun i σ G => (∃ v4, σ = [some (.ref a), some (.ref b), some (.int k), some (.bl (meanB f ms i)), v4]) ∧ H = G) ⟨⟨_, rfl⟩, rfl⟩ (fun i σ G hi hσ => ?_) (fun σ G hσ => ?_)
  · obtain ⟨⟨v4, rfl⟩, rfl⟩ := hσ
    have e30 : (30 + (i : Int)) = ((30 + i : Nat) : Int) := by omega
    have e33 : (33 + (i : Int)) = ((33 + i : Nat) : Int) := by omega
    refine ⟨_, rfl, _, rfl, _, _, rfl, rfl, b, _, _, _, rfl, rfl, hB, atI_n (n := 33 + i) e33 (mmA_get (by omega)), .inl ⟨_, rfl, _, _, rfl, rfl, (by show (0 : Int) < _; decide), _, _, rfl, rfl, _, rfl, iteB (fun c => ?_) fun c => ?_⟩⟩
    · have c' : mmA ms (33 + i) % 2 = 0 := by have := of_decide_eq_true c; omega
      have em : meanB f ms (i + 1) = (meanB f ms i || truthB f (mmA ms (30 + i))) := by
        show (if mmA ms (33 + i) % 2 = 0 then _ else _) = _
        rw [if_pos c']
      refine ⟨_, rfl, _, rfl, iteB (fun q => ?_) fun q => ?_⟩
      · rw [q, Bool.true_or] at em
        exact ⟨⟨_, by rw [em]; rfl⟩, rfl⟩
      · rw [q, Bool.false_or] at em
        exact ⟨_, rfl, _, rfl, _, rfl, _, _, rfl, rfl, b, _, _, _, rfl, rfl, hB, atI_n (n := 30 + i) e30 (mmA_get (by omega)), a, f, mmA ms (30 + i), rfl, hA, ⟨_, by rw [em]; rfl⟩, rfl⟩
    · have c' : ¬ mmA ms (33 + i) % 2 = 0 := fun z => of_decide_eq_false c (by omega)
      have em : meanB f ms (i + 1) = (meanB f ms i && truthB f (mmA ms (30 + i))) := by
        show (if mmA ms (33 + i) % 2 = 0 then _ else _) = _
        rw [if_neg c']
      refine ⟨_, rfl, _, rfl, iteB (fun q => ?_) fun q => ?_⟩
      · rw [q, Bool.true_and] at em
        exact ⟨_, rfl, _, rfl, _, rfl, _, _, rfl, rfl, b, _, _, _, rfl, rfl, hB, atI_n (n := 30 + i) e30 (mmA_get (by omega)), a, f, mmA ms (30 + i), rfl, hA, ⟨_, by rw [em]; rfl⟩, rfl⟩
      · rw [q, Bool.false_and] at em
        exact ⟨⟨_, by rw [em]; rfl⟩, rfl⟩
  · obtain ⟨⟨v4, rfl⟩, rfl⟩ := hσ
    exact ⟨_, rfl, hQ⟩
end
end K23
/-! K23Lf -/
set_option Elab.async false
set_option linter.all false
set_option maxRecDepth 100000
set_option maxHeartbeats 4000000
namespace K23
open PySem PySem.Spec PyProof.Rows L2
section
variable {P : Program} {w : World} {K : PySem.W.Frag} {mg : Str → Option Value} {base : Heap}
/-- three nets in a list -/
def NetsAt (P : Program) (w : World) (K : PySem.W.Frag) (H : Hp) (a : Addr) (Ns : Nat → Net) : Prop := ∃ q : Nat → Addr, SqL K H a [.ref (q 0), .ref (q 1), .ref (q 2)] ∧ ∀ i, i < 3 → NetAt P w K H (q i) (Ns i)
theorem NetsAt.same {H H' : Hp} {a : Addr} {Ns : Nat → Net} (h : NetsAt P w K H a Ns) (s : Same H H') : NetsAt P w K H' a Ns := let ⟨q, h1, h2⟩ := h; ⟨q, s.seq h1, fun i hi => (h2 i hi).same s⟩
theorem three_get {v : Nat → V} (k : Nat) : [v 0, v 1, v 2][k % 3]? = some (v (k % 3)) := by
  have : k % 3 = 0 ∨ k % 3 = 1 ∨ k % 3 = 2 := by omega
  rcases this with e | e | e <;> rw [e] <;> rfl
def TermPre (Ns : Nat → Net) (t : Nat) : Prop := (t % 5 = 1 ∨ t % 5 = 2 → DetPre (Ns (t / 5 % 3))) ∧ (t % 5 = 3 → MinusPre (Ns (t / 5 % 3)) (Ns (t / 15 % 3))) ∧ (t % 5 = 4 → PlainPre (Ns (t / 5 % 3)))
def TermOf (Ns : Nat → Net) (t : Nat) (M : Net) : Prop := if t % 5 = 1 then DetOf (Ns (t / 5 % 3)) M else if t % 5 = 2 then OtherOf (Ns (t / 5 % 3)) M else if t % 5 = 3 then MinusOf (Ns (t / 5 % 3)) (Ns (t / 15 % 3)) M else if t % 5 = 4 then PlainOf (Ns (t / 5 % 3)) M else M = Ns (t / 5 % 3)
def sp_L_term (P : Program) (w : World) (K : PySem.W.Frag) : SpN := fun vs H Q => ∃ (a : Addr) (Ns : Nat → Net) (t : Nat), vs = [.ref a, .int (t : Nat)] ∧ NetsAt P w K H a Ns ∧ TermPre Ns t ∧ ∀ p H' M, Same H H' → NetAt P w K H' p M → TermOf Ns t M → Q (.ref p) H'
theorem len_L_term : ∀ vs H Q, sp_L_term P w K vs H Q → vs.length = 2 := fun _ _ _ ⟨_, _, _, e, _⟩ => by subst e; rfl
theorem sc_L_term : FnScope ["_law_nets_here", "_law_number", "_law_x"] ["_law_nets_here", "_law_number"] (defScope s_L_term) := ⟨rfl, rfl, rfl, by decide +kernel, rfl, by decide +kernel, by decide +kernel⟩
/- slots: 0 _law_nets_here, 1 _law_number, 2 _law_x -/
theorem ok_L_term (T : Tb K mg) (c_deterministic : Cal P w K mg base (He.ga K "deterministic") 5 ["net"] (sp_deterministic P w K)) (c_other : Cal P w K mg base (He.ga K "other") 6 ["net"] (sp_other P w K)) (c_minus : Cal P w K mg base (He.ga K "minus") 7 ["a", "b"] (sp_minus P w K)) (c_plain : Cal P w K mg base (He.ga K "plain") 4 ["net"] (sp_plain P w K)) : Cal P w K mg base (He.ga K "_law_term") 8 ["_law_nets_here", "_law_number"] (sp_L_term P w K) := by
  obtain ⟨fd, F⟩ := T.dfs 38 d_L_term rfl
  refine cal_of (N := ["_law_nets_here", "_law_number", "_law_x"]) F sc_L_term (F.bindsN fun _ _ _ _ _ _ us hl => match us, hl with | [_, _], _ => rfl) (len_L_term) fun cdv A outer s H vs Q E hr h => ?_
  refine ⟨(tSeq (tAsg (tOp (rIxL K) (tVar 0) (tOp rMo (tCB rInt1 (tCons (tOp rFd (tVar 1) (tC (.int 5))) tNil)) (tC (.int 3)))) (gName 2)) (tSeq (tIfS (tTest (tOp rEqI (tOp rMo (tCB rInt1 (tCons (tVar 1) tNil)) (tC (.int 5))) (tC (.int 1)))) (tRet (tDo (sp_deterministic P w K) (tCons (tVar 2) tNil))) tNext) (tSeq (tIfS (tTest (tOp rEqI (tOp rMo (tCB rInt1 (tCons (tVar 1) tNil)) (tC (.int 5))) (tC (.int 2)))) (tRet (tDo (sp_other P w K) (tCons (tVar 2) tNil))) tNext) (tSeq (tIfS (tTest (tOp rEqI (tOp rMo (tCB rInt1 (tCons (tVar 1) tNil)) (tC (.int 5))) (tC (.int 3)))) (tRet (tDo (sp_minus P w K) (tCons (tVar 2) (tCons (tOp (rIxL K) (tVar 0) (tOp rMo (tCB rInt1 (tCons (tOp rFd (tVar 1) (tC (.int 15))) tNil)) (tC (.int 3)))) tNil)))) tNext) (tSeq (tIfS (tTest (tOp rEqI (tOp rMo (tCB rInt1 (tCons (tVar 1) tNil)) (tC (.int 5))) (tC (.int 4)))) (tRet (tDo (sp_plain P w K) (tCons (tVar 2) tNil))) tNext) (tRet (tVar 2))))))), (pss_cons (ps_set (i := 2) sc_L_term.nd rfl (by first | exact Or.inl rfl | exact Or.inr rfl) (pe_ix ix_list (pv 0) (pe_op op_mod (pe_callTy call_int1n (by rfl) (T.fre 7 "int" rfl) kb_int (pa_cons (pe_op op_fdiv (pv 1) pe_int) pa_nil)) pe_int) (fun _ _ => rfl))) (pss_cons (ps_if (pt_cmpR op_eqI (pe_op op_mod (pe_callTy call_int1n (by rfl) (T.fre 7 "int" rfl) kb_int (pa_cons (pv 1) pa_nil)) pe_int) pe_int (nomark _)) (pss_one (ps_ret (pcal c_deterministic (hr.mono (by decide)) (T.glo 8 "deterministic" rfl) (pa_cons (pv 2) pa_nil)))) pss_nil) (pss_cons (ps_if (pt_cmpR op_eqI (pe_op op_mod (pe_callTy call_int1n (by rfl) (T.fre 7 "int" rfl) kb_int (pa_cons (pv 1) pa_nil)) pe_int) pe_int (nomark _)) (pss_one (ps_ret (pcal c_other (hr.mono (by decide)) (T.glo 9 "other" rfl) (pa_cons (pv 2) pa_nil)))) pss_nil) (pss_cons (ps_if (pt_cmpR op_eqI (pe_op op_mod (pe_callTy call_int1n (by rfl) (T.fre 7 "int" rfl) kb_int (pa_cons (pv 1) pa_nil)) pe_int) pe_int (nomark _)) (pss_one (ps_ret (pcal c_minus (hr.mono (by decide)) (T.glo 10 "minus" rfl) (pa_cons (pv 2) (pa_cons (pe_ix ix_list (pv 0) (pe_op op_mod (pe_callTy call_int1n (by rfl) (T.fre 7 "int" rfl) kb_int (pa_cons (pe_op op_fdiv (pv 1) pe_int) pa_nil)) pe_int) (fun _ _ => rfl)) pa_nil))))) pss_nil) (pss_cons (ps_if (pt_cmpR op_eqI (pe_op op_mod (pe_callTy call_int1n (by rfl) (T.fre 7 "int" rfl) kb_int (pa_cons (pv 1) pa_nil)) pe_int) pe_int (nomark _)) (pss_one (ps_ret (pcal c_plain (hr.mono (by decide)) (T.glo 1 "plain" rfl) (pa_cons (pv 2) pa_nil)))) pss_nil) (pss_one (ps_ret (pv 2)))))))), ?_⟩
  obtain ⟨a, Ns, t, rfl, ⟨q, hA, hN⟩, ⟨p1, p2, p3⟩, hQ⟩ := h
  have n1 := hN (t / 5 % 3) (Nat.mod_lt _ (by decide))
  unfold TermOf at hQ
  refine ⟨_, rfl, _, rfl, _, _, rfl, rfl, ⟨by decide, by decide⟩, .inl ⟨_, rfl, _, _, rfl, rfl, (by show (0 : Int) < _; decide), a, _, _, _, rfl, rfl, hA, atI_n (n := t / 5 % 3) (by omega) (three_get (v := fun i => .ref (q i)) _), ?_⟩⟩
  refine ⟨_, rfl, .inl ⟨_, rfl, _, _, rfl, rfl, (by show (0 : Int) < _; decide), _, _, rfl, rfl, _, rfl, iteB (fun c => ?_) fun c => ?_⟩⟩
  · have c' : t % 5 = 1 := by have := of_decide_eq_true c; omega
    exact ⟨_, rfl, _, _, rfl, n1, p1 (.inl c'), fun p H' M s hM d => hQ p H' M s hM (by rw [if_pos c']; exact d)⟩
  have c1 : ¬ t % 5 = 1 := fun z => of_decide_eq_false c (by omega)
  refine ⟨_, rfl, .inl ⟨_, rfl, _, _, rfl, rfl, (by show (0 : Int) < _; decide), _, _, rfl, rfl, _, rfl, iteB (fun c => ?_) fun c => ?_⟩⟩
  · have c' : t % 5 = 2 := by have := of_decide_eq_true c; omega
    exact ⟨_, rfl, _, _, rfl, n1, p1 (.inr c'), fun p H' M s hM d => hQ p H' M s hM (by rw [if_neg c1, if_pos c']; exact d)⟩
  have c2 : ¬ t % 5 = 2 := fun z => of_decide_eq_false c (by omega)
  refine ⟨_, rfl, .inl ⟨_, rfl, _, _, rfl, rfl, (by show (0 : Int) < _; decide), _, _, rfl, rfl, _, rfl, iteB (fun c => ?_) fun c => ?_⟩⟩
  · have c' : t % 5 = 3 := by have := of_decide_eq_true c; omega
    have n2 := hN (t / 15 % 3) (Nat.mod_lt _ (by decide))
    exact ⟨_, rfl, _, rfl, _, rfl, _, _, rfl, rfl, ⟨by decide, by decide⟩, .inl ⟨_, rfl, _, _, rfl, rfl, (by show (0 : Int) < _; decide), a, _, _, _, rfl, rfl, hA, atI_n (n := t / 15 % 3) (by omega) (three_get (v := fun i => .ref (q i)) _), _, _, _, _, rfl, n1, n2, p2 c', fun p H' M s hM d => hQ p H' M s hM (by rw [if_neg c1, if_neg c2, if_pos c']; exact d)⟩⟩
  have c3 : ¬ t % 5 = 3 := fun z => of_decide_eq_false c (by omega)
  refine ⟨_, rfl, .inl ⟨_, rfl, _, _, rfl, rfl, (by show (0 : Int) < _; decide), _, _, rfl, rfl, _, rfl, iteB (fun c => ?_) fun c => ?_⟩⟩
  · have c' : t % 5 = 4 := by have := of_decide_eq_true c; omega
    exact ⟨_, rfl, _, _, rfl, n1, p3 c', fun p H' M s hM d => hQ p H' M s hM (by rw [if_neg c1, if_neg c2, if_neg c3, if_pos c']; exact d)⟩
  have c4 : ¬ t % 5 = 4 := fun z => of_decide_eq_false c (by omega)
  exact ⟨_, rfl, hQ _ _ _ (Same.refl H) n1 (by rw [if_neg c1, if_neg c2, if_neg c3, if_neg c4])⟩
/-! ### the value -/
def JoinPre (h : Nat) (M T : Net) : Prop := (h % 4 = 0 → UnionPre M T) ∧ (h % 4 = 1 → BothPre M T) ∧ (h % 4 = 2 → UnionPre T M) ∧ (h % 4 = 3 → BothPre T M)
def JoinOf (h : Nat) (M T J : Net) : Prop := if h % 4 = 0 then UnionOf M T J else if h % 4 = 1 then BothOf M T J else if h % 4 = 2 then UnionOf T M J else BothOf T M J
inductive ValR (Ns : Nat → Net) (ms : List Nat) : Nat → Net → Prop
  | zero {M : Net} : Wf M → TermOf Ns (mmA ms 29) M → ValR Ns ms 0 M
  | succ {k : Nat} {M T J J' : Net} : ValR Ns ms k M → Wf T → TermOf Ns (mmA ms (30 + k)) T → Wf J → JoinOf (mmA ms (33 + k)) M T J → Wf J' → ((mmA ms (33 + k) / 4 % 3 = 1 ∧ PlainOf J J') ∨ J' = J) → ValR Ns ms (k + 1) J'
structure ValPre (Ns : Nat → Net) (ms : List Nat) (n : Nat) : Prop where
  t0 : TermPre Ns (mmA ms 29)
  t1 : ∀ k, k < n → TermPre Ns (mmA ms (30 + k))
  jo : ∀ k M T, k < n → ValR Ns ms k M → Wf T → TermOf Ns (mmA ms (30 + k)) T → JoinPre (mmA ms (33 + k)) M T
  pl : ∀ k M T J, k < n → ValR Ns ms k M → Wf T → TermOf Ns (mmA ms (30 + k)) T → Wf J → JoinOf (mmA ms (33 + k)) M T J → PlainPre J
  fin : ∀ M, ValR Ns ms n M → PlainPre M
def sp_L_value (P : Program) (w : World) (K : PySem.W.Frag) : SpN := fun vs H Q => ∃ (a b : Addr) (Ns : Nat → Net) (ms : List Nat) (n : Nat), vs = [.ref a, .ref b, .int (n : Nat)] ∧ NetsAt P w K H a Ns ∧ SqL K H b (nV ms) ∧ ms.length = 42 ∧ n ≤ 3 ∧ ValPre Ns ms n ∧
  ∀ p H' M V, Same H H' → NetAt P w K H' p V → ValR Ns ms n M → PlainOf M V → Q (.ref p) H'
theorem len_L_value : ∀ vs H Q, sp_L_value P w K vs H Q → vs.length = 3 := fun _ _ _ ⟨_, _, _, _, _, e, _⟩ => by subst e; rfl
theorem sc_L_value : FnScope ["_law_nets_here", "_law_numbers_here", "_law_size", "_law_value_here", "_law_k", "_law_term_here", "_law_how"] ["_law_nets_here", "_law_numbers_here", "_law_size"] (defScope s_L_value) := ⟨rfl, rfl, rfl, by decide +kernel, rfl, by decide +kernel, by decide +kernel⟩
/- slots: 0 _law_nets_here, 1 _law_numbers_here, 2 _law_size, 3 _law_value_here, 4 _law_k, 5 _law_term_here, 6 _law_how -/
theorem ok_L_value (T : Tb K mg) (c_L_term : Cal P w K mg base (He.ga K "_law_term") 8 ["_law_nets_here", "_law_number"] (sp_L_term P w K)) (c_union : Cal P w K mg base (He.ga K "union") 5 ["a", "b"] (sp_union P w K)) (c_both : Cal P w K mg base (He.ga K "both") 5 ["a", "b"] (sp_both P w K)) (c_plain : Cal P w K mg base (He.ga K "plain") 4 ["net"] (sp_plain P w K)) : Cal P w K mg base (He.ga K "_law_value") 9 ["_law_nets_here", "_law_numbers_here", "_law_size"] (sp_L_value P w K) := by
  obtain ⟨fd, F⟩ := T.dfs 40 d_L_value rfl
  refine cal_of (N := ["_law_nets_here", "_law_numbers_here", "_law_size", "_law_value_here", "_law_k", "_law_term_here", "_law_how"]) F sc_L_value (F.bindsN fun _ _ _ _ _ _ us hl => match us, hl with | [_, _, _], _ => rfl) (len_L_value) fun cdv A outer s H vs Q E hr h => ?_
  refine ⟨(tSeq (tAsg (tDo (sp_L_term P w K) (tCons (tVar 0) (tCons (tOp (rIxL K) (tVar 1) (tC (.int 29))) tNil))) (gName 3)) (tSeq (tFor (iRng1 (tCons (tVar 2) tNil)) (gName 4) (tSeq (tAsg (tDo (sp_L_term P w K) (tCons (tVar 0) (tCons (tOp (rIxL K) (tVar 1) (tOp rPl (tC (.int 30)) (tVar 4))) tNil))) (gName 5)) (tSeq (tAsg (tOp rMo (tCB rInt1 (tCons (tOp (rIxL K) (tVar 1) (tOp rPl (tC (.int 33)) (tVar 4))) tNil)) (tC (.int 4))) (gName 6)) (C8.tCut (tIfS (tTest (tOp rEqI (tVar 6) (tC (.int 0)))) (tAsg (tDo (sp_union P w K) (tCons (tVar 3) (tCons (tVar 5) tNil))) (gName 3)) (tIfS (tTest (tOp rEqI (tVar 6) (tC (.int 1)))) (tAsg (tDo (sp_both P w K) (tCons (tVar 3) (tCons (tVar 5) tNil))) (gName 3)) (tIfS (tTest (tOp rEqI (tVar 6) (tC (.int 2)))) (tAsg (tDo (sp_union P w K) (tCons (tVar 5) (tCons (tVar 3) tNil))) (gName 3)) (tAsg (tDo (sp_both P w K) (tCons (tVar 5) (tCons (tVar 3) tNil))) (gName 3))))) (tIfS (tTest (tOp rEqI (tOp rMo (tCB rInt1 (tCons (tOp rFd (tOp (rIxL K) (tVar 1) (tOp rPl (tC (.int 33)) (tVar 4))) (tC (.int 4))) tNil)) (tC (.int 3))) (tC (.int 1)))) (tAsg (tDo (sp_plain P w K) (tCons (tVar 3) tNil)) (gName 3)) tNext))))) (tRet (tDo (sp_plain P w K) (tCons (tVar 3) tNil))))), (pss_cons (ps_set (i := 3) sc_L_value.nd rfl (by first | exact Or.inl rfl | exact Or.inr rfl) (pcal c_L_term (hr.mono (by decide)) (T.glo 33 "_law_term" rfl) (pa_cons (pv 0) (pa_cons (pe_ix ix_list (pv 1) pe_int (fun _ _ => rfl)) pa_nil)))) (pss_cons (ps_for PassesOwn.never rfl (pi_range1 (by rfl) (T.fre 1 "range" rfl) (pa_cons (pv 2) pa_nil)) (pg_name (i := 4) sc_L_value.nd rfl (by first | exact Or.inl rfl | exact Or.inr rfl)) (pss_cons (ps_set (i := 5) sc_L_value.nd rfl (by first | exact Or.inl rfl | exact Or.inr rfl) (pcal c_L_term (hr.mono (by decide)) (T.glo 33 "_law_term" rfl) (pa_cons (pv 0) (pa_cons (pe_ix ix_list (pv 1) (pe_op op_add pe_int (pv 4)) (fun _ _ => rfl)) pa_nil)))) (pss_cons (ps_set (i := 6) sc_L_value.nd rfl (by first | exact Or.inl rfl | exact Or.inr rfl) (pe_op op_mod (pe_callTy call_int1n (by rfl) (T.fre 7 "int" rfl) kb_int (pa_cons (pe_ix ix_list (pv 1) (pe_op op_add pe_int (pv 4)) (fun _ _ => rfl)) pa_nil)) pe_int)) (C8.pss_cut (ps_if (pt_cmpR op_eqI (pv 6) pe_int (nomark _)) (pss_one (ps_set (i := 3) sc_L_value.nd rfl (by first | exact Or.inl rfl | exact Or.inr rfl) (pcal c_union (hr.mono (by decide)) (T.glo 4 "union" rfl) (pa_cons (pv 3) (pa_cons (pv 5) pa_nil))))) (pss_one (ps_if (pt_cmpR op_eqI (pv 6) pe_int (nomark _)) (pss_one (ps_set (i := 3) sc_L_value.nd rfl (by first | exact Or.inl rfl | exact Or.inr rfl) (pcal c_both (hr.mono (by decide)) (T.glo 7 "both" rfl) (pa_cons (pv 3) (pa_cons (pv 5) pa_nil))))) (pss_one (ps_if (pt_cmpR op_eqI (pv 6) pe_int (nomark _)) (pss_one (ps_set (i := 3) sc_L_value.nd rfl (by first | exact Or.inl rfl | exact Or.inr rfl) (pcal c_union (hr.mono (by decide)) (T.glo 4 "union" rfl) (pa_cons (pv 5) (pa_cons (pv 3) pa_nil))))) (pss_one (ps_set (i := 3) sc_L_value.nd rfl (by first | exact Or.inl rfl | exact Or.inr rfl) (pcal c_both (hr.mono (by decide)) (T.glo 7 "both" rfl) (pa_cons (pv 5) (pa_cons (pv 3) pa_nil)))))))))) (pss_one (ps_if (pt_cmpR op_eqI (pe_op op_mod (pe_callTy call_int1n (by rfl) (T.fre 7 "int" rfl) kb_int (pa_cons (pe_op op_fdiv (pe_ix ix_list (pv 1) (pe_op op_add pe_int (pv 4)) (fun _ _ => rfl)) pe_int) pa_nil)) pe_int) pe_int (nomark _)) (pss_one (ps_set (i := 3) sc_L_value.nd rfl (by first | exact Or.inl rfl | exact Or.inr rfl) (pcal c_plain (hr.mono (by decide)) (T.glo 1 "plain" rfl) (pa_cons (pv 3) pa_nil)))) pss_nil)))))) (pss_one (ps_ret (pcal c_plain (hr.mono (by decide)) (T.glo 1 "plain" rfl) (pa_cons (pv 3) pa_nil)))))), ?_⟩
  obtain ⟨a, b, Ns, ms, n, rfl, hA, hB, hm, hn, vp, hQ⟩ := h
  refine ⟨_, rfl, _, rfl, b, _, _, _, rfl, rfl, hB, atI_n (n := 29) rfl (mmA_get (by omega)), a, Ns, mmA ms 29, rfl, hA, vp.t0, fun p0 H1 M0 s1 hM0 t0 => ?_⟩
  dsimp only [tSeq, tIfS, tOr, tAnd, tNot, tB, tTest, tCB, tCons, tNil, tNext, tAsg, tRet, tDrop, tDo, gName]
  refine tforR (n := n) (fun R h => ⟨_, rfl, h⟩) (by omega) (fun i σ G => (∃ p v4 v5 v6 M, σ = [some (.ref a), some (.ref b), some (.int n), some (.ref p), v4, v5, v6] ∧ NetAt P w K G p M ∧ ValR Ns ms i M) ∧ Same H G) ⟨⟨p0, _, _, _, M0, rfl, hM0, .zero hM0.1 t0⟩, s1⟩ (fun i σ G hi hσ => ?_) (fun σ G hσ => ?_)
  · obtain ⟨⟨p, v4, v5, v6, M, rfl, hM, vr⟩, sG⟩ := hσ
    have e30 : (30 + (i : Int)) = ((30 + i : Nat) : Int) := by omega
    have e33 : (33 + (i : Int)) = ((33 + i : Nat) : Int) := by omega
    refine ⟨_, rfl, _, rfl, _, rfl, _, _, rfl, rfl, b, _, _, _, rfl, rfl, sG.seq hB, atI_n (n := 30 + i) e30 (mmA_get (by omega)), a, Ns, mmA ms (30 + i), rfl, hA.same sG, vp.t1 i hi, fun pt G1 Tm s1 hT tt => ?_⟩
    have sG1 := sG.trans s1
    have hM1 := hM.same s1
    have jp := vp.jo i M Tm hi vr hT.1 tt
    refine ⟨_, rfl, _, rfl, _, _, rfl, rfl, b, _, _, _, rfl, rfl, sG1.seq hB, atI_n (n := 33 + i) e33 (mmA_get (by omega)), .inl ⟨_, rfl, _, _, rfl, rfl, (by show (0 : Int) < _; decide), ?_⟩⟩
    refine ⟨fun σ G => (∃ p J, σ = [some (.ref a), some (.ref b), some (.int n), some (.ref p), some (.int i), some (.ref pt), some (.int (((mmA ms (33 + i) : Nat) : Int) % 4))] ∧ NetAt P w K G p J ∧ JoinOf (mmA ms (33 + i)) M Tm J) ∧ Same H G, ?_, ?_⟩
    · obtain ⟨j0, j1, j2, j3⟩ := jp
      unfold JoinOf
      refine ⟨_, rfl, _, _, rfl, rfl, _, rfl, iteB (fun c => ?_) fun c => ?_⟩
      · have c' : mmA ms (33 + i) % 4 = 0 := by have := of_decide_eq_true c; omega
        exact ⟨_, rfl, _, rfl, _, _, _, _, rfl, hM1, hT, j0 c', fun pj G2 J s2 hJ jo => ⟨⟨pj, J, rfl, hJ, by rw [if_pos c']; exact jo⟩, sG1.trans s2⟩⟩
      have c0 : ¬ mmA ms (33 + i) % 4 = 0 := fun z => of_decide_eq_false c (by omega)
      refine ⟨_, rfl, _, _, rfl, rfl, _, rfl, iteB (fun c => ?_) fun c => ?_⟩
      · have c' : mmA ms (33 + i) % 4 = 1 := by have := of_decide_eq_true c; omega
        exact ⟨_, rfl, _, rfl, _, _, _, _, rfl, hM1, hT, j1 c', fun pj G2 J s2 hJ jo => ⟨⟨pj, J, rfl, hJ, by rw [if_neg c0, if_pos c']; exact jo⟩, sG1.trans s2⟩⟩
      have c1 : ¬ mmA ms (33 + i) % 4 = 1 := fun z => of_decide_eq_false c (by omega)
      refine ⟨_, rfl, _, _, rfl, rfl, _, rfl, iteB (fun c => ?_) fun c => ?_⟩
      · have c' : mmA ms (33 + i) % 4 = 2 := by have := of_decide_eq_true c; omega
        exact ⟨_, rfl, _, rfl, _, _, _, _, rfl, hT, hM1, j2 c', fun pj G2 J s2 hJ jo => ⟨⟨pj, J, rfl, hJ, by rw [if_neg c0, if_neg c1, if_pos c']; exact jo⟩, sG1.trans s2⟩⟩
      have c2 : ¬ mmA ms (33 + i) % 4 = 2 := fun z => of_decide_eq_false c (by omega)
      exact ⟨_, rfl, _, rfl, _, _, _, _, rfl, hT, hM1, j3 (by omega), fun pj G2 J s2 hJ jo => ⟨⟨pj, J, rfl, hJ, by rw [if_neg c0, if_neg c1, if_neg c2]; exact jo⟩, sG1.trans s2⟩⟩
    · rintro σ G ⟨⟨pj, J, rfl, hJ, jo⟩, sG⟩
      refine ⟨_, rfl, _, rfl, _, _, rfl, rfl, b, _, _, _, rfl, rfl, sG.seq hB, atI_n (n := 33 + i) e33 (mmA_get (by omega)), _, _, rfl, rfl, ⟨by decide, by decide⟩, .inl ⟨_, rfl, _, _, rfl, rfl, (by show (0 : Int) < _; decide), _, _, rfl, rfl, _, rfl, iteB (fun c => ?_) fun c => ?_⟩⟩
      · have c' : mmA ms (33 + i) / 4 % 3 = 1 := by have := of_decide_eq_true c; omega
        exact ⟨_, rfl, _, _, rfl, hJ, vp.pl i M Tm J hi vr hT.1 tt hJ.1 jo, fun p2 G2 J2 s2 hJ2 po => ⟨⟨p2, _, _, _, J2, rfl, hJ2, .succ vr hT.1 tt hJ.1 jo hJ2.1 (.inl ⟨c', po⟩)⟩, sG.trans s2⟩⟩
      · exact ⟨⟨pj, _, _, _, J, rfl, hJ, .succ vr hT.1 tt hJ.1 jo hJ.1 (.inr rfl)⟩, sG⟩
  · obtain ⟨⟨p, v4, v5, v6, M, rfl, hM, vr⟩, sG⟩ := hσ
    exact ⟨_, rfl, _, _, rfl, hM, vp.fin M vr, fun p2 G2 V s2 hV po => hQ p2 G2 M V (sG.trans s2) hV vr po⟩
end
end K23
/-! K23Lg -/
set_option Elab.async false
set_option linter.all false
set_option maxRecDepth 100000
set_option maxHeartbeats 4000000
namespace K23
open PySem PySem.Spec PyProof.Rows L2
section
variable {P : Program} {w : World} {K : PySem.W.Frag} {mg : Str → Option Value} {base : Heap}
/-! ### piles -/
def Pil (L m : Nat) (ps : List (List Nat)) : Prop := ∀ p ∈ ps, (∀ l ∈ p, l < L) ∧ p.length ≤ m
theorem Pil.snoc {L m : Nat} {ps : List (List Nat)} {p : List Nat} (h : Pil L m ps) (q : ∀ l ∈ p, l < L) (r : p.length ≤ m) : Pil L m (ps ++ [p]) := fun x hx => (List.mem_append.mp hx).elim (h x) fun z => by rw [List.mem_singleton.mp z]; exact ⟨q, r⟩
def sp_L_piles (P : Program) (w : World) (K : PySem.W.Frag) : SpN := fun vs H Q => ∃ (a : Addr) (ms : List Nat) (at_ L : Nat), vs = [.ref a, .int (at_ : Nat), .int (L : Nat)] ∧ SqL K H a (nV ms) ∧ at_ + 5 < ms.length ∧ 1 ≤ L ∧ L ≤ 2 ∧ at_ ≤ 1000 ∧
  ∀ d H' ps, Same H H' → LM (rGr K) H' d ps → Pil L 1000 ps → Q (.ref d) H'
theorem len_L_piles : ∀ vs H Q, sp_L_piles P w K vs H Q → vs.length = 3 := fun _ _ _ ⟨_, _, _, _, e, _⟩ => by subst e; rfl
theorem sc_L_piles : FnScope ["_law_numbers_here", "_law_at", "_law_letters", "_law_short", "_law_piles_here", "_law_one", "_law_two", "_law_k", "_law_rest", "_law_pile", "_law_i"] ["_law_numbers_here", "_law_at", "_law_letters"] (defScope s_L_piles) := ⟨rfl, rfl, rfl, by decide +kernel, rfl, by decide +kernel, by decide +kernel⟩
/- slots: 0 _law_numbers_here, 1 _law_at, 2 _law_letters, 3 _law_short, 4 _law_piles_here, 5 _law_one, 6 _law_two, 7 _law_k, 8 _law_rest, 9 _law_pile, 10 _law_i -/
theorem ok_L_piles (T : Tb K mg)  : Cal P w K mg base (He.ga K "_law_piles") 1 ["_law_numbers_here", "_law_at", "_law_letters"] (sp_L_piles P w K) := by
  obtain ⟨fd, F⟩ := T.dfs 32 d_L_piles rfl
  refine cal_of (N := ["_law_numbers_here", "_law_at", "_law_letters", "_law_short", "_law_piles_here", "_law_one", "_law_two", "_law_k", "_law_rest", "_law_pile", "_law_i"]) F sc_L_piles (F.bindsN fun _ _ _ _ _ _ us hl => match us, hl with | [_, _, _], _ => rfl) (len_L_piles) fun cdv A outer s H vs Q E hr h => ?_
  refine ⟨(C8.tCut (tAsg (tCB rMin2 (tCons (tVar 2) (tCons (tC (.int 3)) tNil))) (gName 3)) (tSeq (tAsg (tLst (tCons (tTup tNil) (tCons (tTup (tCons (tOp rMi (tVar 2) (tC (.int 1))) tNil)) tNil))) (gName 4)) (tSeq (tFor (iRng1 (tCons (tVar 3) tNil)) (gName 5) (tSeq (tDrop (tBM K "list" rAppend (tVar 4) (tCons (tTup (tCons (tVar 5) tNil)) tNil))) (tFor (iRng1 (tCons (tVar 3) tNil)) (gName 6) (tDrop (tBM K "list" rAppend (tVar 4) (tCons (tTup (tCons (tVar 5) (tCons (tVar 6) tNil))) tNil)))))) (tSeq (tFor (iRng1 (tCons (tC (.int 3)) tNil)) (gName 7) (tSeq (tAsg (tOp (rIxL K) (tVar 0) (tOp rPl (tOp rPl (tVar 1) (tOp rTi (tC (.int 2)) (tVar 7))) (tC (.int 1)))) (gName 8)) (tSeq (tAsg (tTup tNil) (gName 9)) (tSeq (tFor (iRng1 (tCons (tOp rMo (tCB rInt1 (tCons (tOp (rIxL K) (tVar 0) (tOp rPl (tVar 1) (tOp rTi (tC (.int 2)) (tVar 7)))) tNil)) (tC (.int 9))) tNil)) (gName 10) (tSeq (tAsg (tOp (rCatA K) (tVar 9) (tTup (tCons (tOp rMo (tCB rInt1 (tCons (tVar 8) tNil)) (tVar 2)) tNil))) (gName 9)) (tAsg (tOp rFd (tVar 8) (tVar 2)) (gName 8)))) (tDrop (tBM K "list" rAppend (tVar 4) (tCons (tVar 9) tNil))))))) (tSeq (tIfS (tTest (tOp rEqI (tOp rMo (tCB rInt1 (tCons (tOp rFd (tOp (rIxL K) (tVar 0) (tVar 1)) (tC (.int 9))) tNil)) (tC (.int 8))) (tC (.int 1)))) (tDrop (tBM K "list" rAppend (tVar 4) (tCons (tOp (rRepA K) (tOp (rIxL K) (tVar 4) (tUn (rU fun i => .int (-i)) (tC (.int 1)))) (tOp rPl (tC (.int 1)) (tOp rMo (tCB rInt1 (tCons (tOp rFd (tOp (rIxL K) (tVar 0) (tVar 1)) (tC (.int 72))) tNil)) (tC (.int 37))))) tNil))) tNext) (tRet (tVar 4))))))), (C8.pss_cut (ps_set (i := 3) sc_L_piles.nd rfl (by first | exact Or.inl rfl | exact Or.inr rfl) (pe_callB (call_min2n rfl) (by rfl) (T.fre 11 "min" rfl) kb_min (pa_cons (pv 2) (pa_cons pe_int pa_nil)))) (pss_cons (ps_set (i := 4) sc_L_piles.nd rfl (by first | exact Or.inl rfl | exact Or.inr rfl) (pe_lst (pa_cons (pe_tup pa_nil) (pa_cons (pe_tup (pa_cons (pe_op op_sub (pv 2) pe_int) pa_nil)) pa_nil)))) (pss_cons (ps_for PassesOwn.never rfl (pi_range1 (by rfl) (T.fre 1 "range" rfl) (pa_cons (pv 3) pa_nil)) (pg_name (i := 5) sc_L_piles.nd rfl (by first | exact Or.inl rfl | exact Or.inr rfl)) (pss_cons (ps_expr (pe_bm PySem.F.plainAttrs_list PySem.F.slot_list_append PySem.F.type_list_append mt_append (pv 4) (pa_cons (pe_tup (pa_cons (pv 5) pa_nil)) pa_nil))) (pss_one (ps_for PassesOwn.never rfl (pi_range1 (by rfl) (T.fre 1 "range" rfl) (pa_cons (pv 3) pa_nil)) (pg_name (i := 6) sc_L_piles.nd rfl (by first | exact Or.inl rfl | exact Or.inr rfl)) (pss_one (ps_expr (pe_bm PySem.F.plainAttrs_list PySem.F.slot_list_append PySem.F.type_list_append mt_append (pv 4) (pa_cons (pe_tup (pa_cons (pv 5) (pa_cons (pv 6) pa_nil))) pa_nil)))))))) (pss_cons (ps_for PassesOwn.never rfl (pi_range1 (by rfl) (T.fre 1 "range" rfl) (pa_cons pe_int pa_nil)) (pg_name (i := 7) sc_L_piles.nd rfl (by first | exact Or.inl rfl | exact Or.inr rfl)) (pss_cons (ps_set (i := 8) sc_L_piles.nd rfl (by first | exact Or.inl rfl | exact Or.inr rfl) (pe_ix ix_list (pv 0) (pe_op op_add (pe_op op_add (pv 1) (pe_op op_mul pe_int (pv 7))) pe_int) (fun _ _ => rfl))) (pss_cons (ps_set (i := 9) sc_L_piles.nd rfl (by first | exact Or.inl rfl | exact Or.inr rfl) (pe_tup pa_nil)) (pss_cons (ps_for PassesOwn.never rfl (pi_range1 (by rfl) (T.fre 1 "range" rfl) (pa_cons (pe_op op_mod (pe_callTy call_int1n (by rfl) (T.fre 7 "int" rfl) kb_int (pa_cons (pe_ix ix_list (pv 0) (pe_op op_add (pv 1) (pe_op op_mul pe_int (pv 7))) (fun _ _ => rfl)) pa_nil)) pe_int) pa_nil)) (pg_name (i := 10) sc_L_piles.nd rfl (by first | exact Or.inl rfl | exact Or.inr rfl)) (pss_cons (ps_set (i := 9) sc_L_piles.nd rfl (by first | exact Or.inl rfl | exact Or.inr rfl) (pe_op op_catA (pv 9) (pe_tup (pa_cons (pe_op op_mod (pe_callTy call_int1n (by rfl) (T.fre 7 "int" rfl) kb_int (pa_cons (pv 8) pa_nil)) (pv 2)) pa_nil)))) (pss_one (ps_set (i := 8) sc_L_piles.nd rfl (by first | exact Or.inl rfl | exact Or.inr rfl) (pe_op op_fdiv (pv 8) (pv 2)))))) (pss_one (ps_expr (pe_bm PySem.F.plainAttrs_list PySem.F.slot_list_append PySem.F.type_list_append mt_append (pv 4) (pa_cons (pv 9) pa_nil)))))))) (pss_cons (ps_if (pt_cmpR op_eqI (pe_op op_mod (pe_callTy call_int1n (by rfl) (T.fre 7 "int" rfl) kb_int (pa_cons (pe_op op_fdiv (pe_ix ix_list (pv 0) (pv 1) (fun _ _ => rfl)) pe_int) pa_nil)) pe_int) pe_int (nomark _)) (pss_one (ps_expr (pe_bm PySem.F.plainAttrs_list PySem.F.slot_list_append PySem.F.type_list_append mt_append (pv 4) (pa_cons (pe_op op_repA (pe_ix ix_list (pv 4) (pe_un un_neg pe_int) (fun _ _ => rfl)) (pe_op op_add pe_int (pe_op op_mod (pe_callTy call_int1n (by rfl) (T.fre 7 "int" rfl) kb_int (pa_cons (pe_op op_fdiv (pe_ix ix_list (pv 0) (pv 1) (fun _ _ => rfl)) pe_int) pa_nil)) pe_int))) pa_nil)))) pss_nil) (pss_one (ps_ret (pv 4)))))))), ?_⟩
  obtain ⟨a, ms, at_, L, rfl, hA, hl, l1, l2, l3, hQ⟩ := h
  refine ⟨fun σ G => σ = [some (.ref a), some (.int at_), some (.int L), some (.int L), none, none, none, none, none, none, none] ∧ H = G, ?_, ?_⟩
  · refine ⟨_, rfl, _, _, rfl, ?_, rfl⟩
    rw [if_neg (show ¬ (3 : Int) < (L : Int) by omega)]
    rfl
  rintro σ G ⟨rfl, rfl⟩
  refine ⟨Nat.zero_le _, fun t0 ht0 => ⟨_, rfl, _, _, rfl, rfl, (sz1000 (n := 1) (by decide) : 1 ≤ sizeLine), fun t1 ht1 => ⟨(sz1000 (n := 2) (by decide) : 2 ≤ sizeLine), fun d hd => ?_⟩⟩⟩
  have s0 := same_new (o := .tup []) ht0
  have s1 := same_new (o := .tup [.int ((L : Int) - 1)]) ht1
  have s2 := same_new (o := .lst [V.ref t0, V.ref t1]) hd
  have hd0 : H d = none := (s0.trans s1).free hd
  have start : LM (rGr K) (upd (upd (upd H t0 (.tup [])) t1 (.tup [.int ((L : Int) - 1)])) d (.lst [V.ref t0, V.ref t1])) d [[], [L - 1]] := by
    refine ⟨[t0, t1], upd_same, .cons (SqT.of (s2 _ _ (s1 _ _ upd_same))) (.cons (SqT.of (s2 _ _ ?_)) .nil)⟩
    rw [upd_same]
    show some (HO.tup [V.int ((L : Int) - 1)]) = _
    unfold nV
    rw [show ((L : Int) - 1) = ((L - 1 : Nat) : Int) by omega]
    rfl
  have pstart : Pil L 8 [[], [L - 1]] := fun p hp => by
    simp only [List.mem_cons, List.not_mem_nil, or_false] at hp
    rcases hp with rfl | rfl
    · exact ⟨fun l h => (nomatch h), Nat.zero_le _⟩
    · exact ⟨fun l h => by rw [List.mem_singleton.mp h]; omega, (show 1 ≤ 8 by decide)⟩
  dsimp only [tSeq, tIfS, tOr, tAnd, tNot, tB, tTest, tCB, tCons, tNil, tNext, tAsg, tRet, tDrop, tDo, gName]
  refine tforR (n := L) (fun R h => ⟨_, rfl, h⟩) (by omega) (fun i σ G => (∃ v5 v6, σ = [some (.ref a), some (.int at_), some (.int L), some (.int L), some (.ref d), v5, v6, none, none, none, none]) ∧ Same H G ∧ ∃ ps, LM (rGr K) G d ps ∧ Pil L 8 ps ∧ ps.length ≤ 2 + 3 * i ∧ 2 ≤ ps.length)
    ⟨⟨_, _, rfl⟩, (s0.trans s1).trans s2, _, start, pstart, Nat.le_refl _, Nat.le_refl _⟩ (fun i σ G hi hσ => ?_) (fun σ G hσ => ?_)
  · obtain ⟨⟨v5, v6, rfl⟩, sG, ps, hG, pl, ln, l0⟩ := hσ
    obtain ⟨rs0, g1, _⟩ := id hG
    refine ⟨_, rfl, .inl ⟨rfl, _, SqL.of g1⟩, _, rfl, (sz1000 (n := 1) (by decide) : 1 ≤ sizeLine), fun t ht => ?_⟩
    have st := same_new (o := .tup [.int (i : Nat)]) ht
    obtain ⟨rs, r1, r2, r3⟩ := hG.app (t := t) (e := [i]) (ko_gr K).stb st (SqT.of upd_same)
    refine ⟨d, _, _, rfl, rfl, r1, by rw [r2]; exact line_lt (by omega), ?_⟩
    have sG1 := same_put (o := .lst (rs.map V.ref ++ [.ref t])) (sG.trans st) hd0
    have pl1 := pl.snoc (p := [i]) (fun l h => by rw [List.mem_singleton.mp h]; exact hi) (show 1 ≤ 8 by decide)
    dsimp only [tSeq, tIfS, tOr, tAnd, tNot, tB, tTest, tCB, tCons, tNil, tNext, tAsg, tRet, tDrop, tDo, gName]
    refine tforR (n := L) (fun R h => ⟨_, rfl, h⟩) (by omega) (fun j σ G => (∃ v6, σ = [some (.ref a), some (.int at_), some (.int L), some (.int L), some (.ref d), some (.int i), v6, none, none, none, none]) ∧ Same H G ∧ ∃ ps, LM (rGr K) G d ps ∧ Pil L 8 ps ∧ ps.length ≤ 3 + 3 * i + j ∧ 2 ≤ ps.length)
      ⟨⟨_, rfl⟩, sG1, _, r3, pl1, by rw [List.length_append]; show _ + 1 ≤ _; omega, by rw [List.length_append]; omega⟩ (fun j σ G hj hσ => ?_) (fun σ G hσ => ?_)
    · obtain ⟨⟨v6, rfl⟩, sG, ps, hG, pl, ln, l0⟩ := hσ
      obtain ⟨rs0, g1, _⟩ := id hG
      refine ⟨_, rfl, .inl ⟨rfl, _, SqL.of g1⟩, _, rfl, _, rfl, (sz1000 (n := 2) (by decide) : 2 ≤ sizeLine), fun t ht => ?_⟩
      have st := same_new (o := .tup [.int (i : Nat), .int (j : Nat)]) ht
      obtain ⟨rs, r1, r2, r3⟩ := hG.app (t := t) (e := [i, j]) (ko_gr K).stb st (SqT.of upd_same)
      refine ⟨d, _, _, rfl, rfl, r1, by rw [r2]; exact line_lt (by omega), ⟨_, rfl⟩, same_put (sG.trans st) hd0, _, r3, pl.snoc (fun l h => ?_) (show 2 ≤ 8 by decide), by rw [List.length_append]; show _ + 1 ≤ _; omega, by rw [List.length_append]; omega⟩
      simp only [List.mem_cons, List.not_mem_nil, or_false] at h
      rcases h with rfl | rfl <;> assumption
    · obtain ⟨⟨v6, rfl⟩, sG, ps, hG, pl, ln, l0⟩ := hσ
      exact ⟨⟨_, _, rfl⟩, sG, ps, hG, pl, by omega, l0⟩
  obtain ⟨⟨v5, v6, rfl⟩, sG, ps, hG, pl, ln, l0⟩ := hσ
  dsimp only [tSeq, tIfS, tOr, tAnd, tNot, tB, tTest, tCB, tCons, tNil, tNext, tAsg, tRet, tDrop, tDo, gName]
  have ixA : ∀ {G : Hp} {x : Int} {y : Nat}, Same H G → x = (y : Int) → y < ms.length → ∃ m : Nat, ∀ (Q : VK), Q (.int (m : Nat)) G → rIxL K (.ref a) (.int x) G Q := fun {G x y} s e lt => ⟨mmA ms y, fun Q q => ⟨a, _, _, _, rfl, rfl, s.seq hA, atI_n e (mmA_get lt), q⟩⟩
  refine tforR (n := 3) (fun R h => h) (by decide) (fun i σ G => (∃ v7 v8 v9 v10, σ = [some (.ref a), some (.int at_), some (.int L), some (.int L), some (.ref d), v5, v6, v7, v8, v9, v10]) ∧ Same H G ∧ ∃ ps, LM (rGr K) G d ps ∧ Pil L 8 ps ∧ ps.length ≤ 8 + i ∧ 2 ≤ ps.length)
    ⟨⟨_, _, _, _, rfl⟩, sG, ps, hG, pl, by omega, l0⟩ (fun i σ G hi hσ => ?_) (fun σ G hσ => ?_)
  · obtain ⟨⟨v7, v8, v9, v10, rfl⟩, sG, ps, hG, pl, ln, l0⟩ := hσ
    refine ⟨_, rfl, _, rfl, _, rfl, _, _, rfl, rfl, .inl ⟨by decide, by decide⟩, _, _, rfl, rfl, _, _, rfl, rfl, a, _, _, _, rfl, rfl, sG.seq hA, atI_n (n := at_ + 2 * i + 1) (by omega) (mmA_get (by omega)), ?_⟩
    refine ⟨Nat.zero_le _, fun t ht => ?_⟩
    have st := same_new (o := .tup []) ht
    have sG1 := sG.trans st
    dsimp only [tSeq, tIfS, tOr, tAnd, tNot, tB, tTest, tCB, tCons, tNil, tNext, tAsg, tRet, tDrop, tDo, gName]
    refine tforR (n := mmA ms (at_ + 2 * i) % 9) (fun R h => ⟨_, rfl, _, rfl, _, rfl, _, _, rfl, rfl, .inl ⟨by decide, by decide⟩, _, _, rfl, rfl, a, _, _, _, rfl, rfl, sG1.seq hA, atI_n (n := at_ + 2 * i) (by omega) (mmA_get (by omega)), .inl ⟨_, rfl, _, _, rfl, rfl, (by show (0 : Int) < _; decide), by
        show R [V.int ((mmA ms (at_ + 2 * i) : Int) % 9)] _
        rw [show ((mmA ms (at_ + 2 * i) : Int) % 9) = ((mmA ms (at_ + 2 * i) % 9 : Nat) : Int) by omega]
        exact h⟩⟩) (by have := Nat.mod_lt (mmA ms (at_ + 2 * i)) (show 0 < 9 by decide); omega)
      (fun j σ G' => (∃ (r : Nat) (q : Addr) (v10 : Option V) (p : List Nat), σ = [some (.ref a), some (.int at_), some (.int L), some (.int L), some (.ref d), v5, v6, some (.int i), some (.int (r : Nat)), some (.ref q), v10] ∧ SqT K G' q (nV p) ∧ p.length = j ∧ ∀ l ∈ p, l < L) ∧ Same G G')
      ⟨⟨mmA ms (at_ + 2 * i + 1), t, v10, [], rfl, SqT.of upd_same, rfl, fun l h => nomatch h⟩, st⟩ (fun j σ G' hj hσ => ?_) (fun σ G' hσ => ?_)
    · obtain ⟨⟨r, q, v10, p, rfl, hq, hp, pL⟩, sG'⟩ := hσ
      have j9 := Nat.mod_lt (mmA ms (at_ + 2 * i)) (show 0 < 9 by decide)
      refine ⟨_, rfl, _, rfl, .inl ⟨_, rfl, _, rfl, _, _, rfl, rfl, (by show (0 : Int) < _; omega), (sz1000 (n := 1) (by decide) : 1 ≤ sizeLine), fun t2 ht2 => ?_⟩⟩
      have s2 := same_new (o := .tup [.int ((r : Int) % (L : Int))]) ht2
      refine cat_any (xs := nV p) (ys := [.int ((r : Int) % (L : Int))]) (Same.tup s2 hq) (SqT.of upd_same) (by rw [nV_len, hp]; show j + 1 ≤ sizeLine; rw [sizeLine_eq]; omega) fun np G8 s8 hnp => ?_
      refine ⟨_, rfl, _, rfl, _, _, rfl, rfl, ⟨by omega, by omega⟩, ⟨r / L, np, some (.int (j : Nat)), p ++ [r % L], ?_, ?_, by rw [List.length_append, hp]; rfl, fun l hl' => ?_⟩, sG'.trans (s2.trans s8)⟩
      · rw [Int.natCast_ediv]
        rfl
      · rw [← nV_snoc, Int.natCast_emod]
        exact hnp
      · rcases List.mem_append.mp hl' with z | z
        · exact pL l z
        · rw [List.mem_singleton.mp z]
          exact Nat.mod_lt _ (by omega)
    · obtain ⟨⟨r, q, v10, p, rfl, hq, hp, pL⟩, sG'⟩ := hσ
      have j9 := Nat.mod_lt (mmA ms (at_ + 2 * i)) (show 0 < 9 by decide)
      obtain ⟨rs, r1, r2, r3⟩ := hG.app (t := q) (e := p) (ko_gr K).stb sG' hq
      exact ⟨_, rfl, .inl ⟨rfl, _, SqL.of r1⟩, _, rfl, d, _, _, rfl, rfl, r1, by rw [r2]; exact line_lt (by omega), ⟨_, _, _, _, rfl⟩, same_put (sG.trans sG') hd0, _, r3, pl.snoc pL (by omega), by rw [List.length_append]; show _ + 1 ≤ _; omega, by rw [List.length_append]; omega⟩
  · obtain ⟨⟨v7, v8, v9, v10, rfl⟩, sG, ps, hG, pl, ln, l0⟩ := hσ
    have up : Pil L 1000 ps := fun p hp => ⟨(pl p hp).1, Nat.le_trans (pl p hp).2 (by decide)⟩
    obtain ⟨qs, g1, g2⟩ := id hG
    refine ⟨_, rfl, _, rfl, a, _, _, _, rfl, rfl, sG.seq hA, atI_n rfl (mmA_get (by omega)), _, _, rfl, rfl, ⟨by decide, by decide⟩, .inl ⟨_, rfl, _, _, rfl, rfl, (by show (0 : Int) < _; decide), _, _, rfl, rfl, _, rfl, iteB (fun _ => ?_) fun _ => ⟨_, rfl, hQ d G ps sG hG up⟩⟩⟩
    obtain ⟨ps', p, rfl⟩ : ∃ ps' p, ps = ps' ++ [p] := by
      rcases List.eq_nil_or_concat ps with z | ⟨l, b, z⟩
      · rw [z] at l0
        cases l0
      · exact ⟨l, b, by rw [z, List.concat_eq_append]⟩
    obtain ⟨q, hq1, hq2⟩ := pr_ix g2 (i := ps'.length) snoc_last
    have ql := pr_len g2
    have last : atI (qs.map V.ref) (-1) = some (.ref q) := by
      unfold atI ixN
      rw [ql, List.length_append, if_neg (by decide), if_pos (by show -((ps'.length + 1 : Nat) : Int) ≤ -1; omega)]
      show (qs.map V.ref)[((-1 : Int) + ((ps'.length + 1 : Nat) : Int)).toNat]? = _
      rw [show ((-1 : Int) + ((ps'.length + 1 : Nat) : Int)).toNat = ps'.length by omega]
      exact hq1
    have pp := pl p (List.mem_append_right _ List.mem_cons_self)
    have k37 := Nat.mod_lt (mmA ms at_ / 72) (show 0 < 37 by decide)
    have ek : (1 : Int) + ((mmA ms at_ : Int) / 72 % 37) = ((1 + mmA ms at_ / 72 % 37 : Nat) : Int) := by omega
    refine ⟨_, rfl, .inl ⟨rfl, _, SqL.of g1⟩, _, rfl, _, rfl, d, _, _, _, rfl, rfl, SqL.of g1, last, _, rfl, _, rfl, a, _, _, _, rfl, rfl, sG.seq hA, atI_n rfl (mmA_get (by omega)), _, _, rfl, rfl, ⟨by decide, by decide⟩, .inl ⟨_, rfl, _, _, rfl, rfl, (by show (0 : Int) < _; decide), _, _, rfl, rfl, q, _, nV p, rfl, rfl, hq2, ?_, ?_, by rw [nV_len]; omega, fun np G2 s2 hnp => ?_⟩⟩
    · show 1 ≤ (1 : Int) + ((mmA ms at_ : Int) / 72 % 37)
      omega
    · show (1 : Int) + ((mmA ms at_ : Int) / 72 % 37) ≤ 1000
      omega
    have hnp' : SqT K G2 np (nV (List.replicate (1 + mmA ms at_ / 72 % 37) p).flatten) := by
      have e1 : ((1 : Int) + ((mmA ms at_ : Int) / 72 % 37)).toNat = 1 + mmA ms at_ / 72 % 37 := by omega
      have e2 : (List.replicate ((1 : Int) + ((mmA ms at_ : Int) / 72 % 37)).toNat (nV p)).flatten = nV (List.replicate (1 + mmA ms at_ / 72 % 37) p).flatten := by
        rw [e1]
        unfold nV
        rw [List.map_flatten, List.map_replicate]
      rw [← e2]
      exact hnp
    obtain ⟨rs, r1, r2, r3⟩ := hG.app (t := np) (ko_gr K).stb s2 hnp'
    refine ⟨d, _, _, rfl, rfl, r1, by rw [r2]; exact line_lt (by omega), _, rfl, hQ d _ _ (same_put (sG.trans s2) hd0) r3 (up.snoc (fun l hl' => ?_) ?_)⟩
    · obtain ⟨x, hx, hx2⟩ := List.mem_flatten.mp hl'
      rw [(List.mem_replicate.mp hx).2] at hx2
      exact pp.1 l hx2
    · rw [List.length_flatten, List.map_replicate, List.sum_replicate_nat]
      have := Nat.mul_le_mul (show 1 + mmA ms at_ / 72 % 37 ≤ 37 by omega) pp.2
      omega
end
end K23
/-! K23Lh -/
set_option Elab.async false
set_option linter.all false
set_option maxRecDepth 100000
set_option maxHeartbeats 4000000
namespace K23
open PySem PySem.Spec PyProof.Rows L2
section
variable {P : Program} {w : World} {K : PySem.W.Frag} {mg : Str → Option Value} {base : Heap}
structure NetRng (S L : Nat) (fl : Bool) (N : Net) : Prop where
  eS : N.S = S
  eL : N.L = L
  sn : S ≤ N.n
  n1 : fl = true → N.n ≤ S + 2
  n0 : fl = false → N.n ≤ S + 1
  pr : PartRng fl 8 N
structure NetsRng (S L : Nat) (fl : Bool) (Ns : Nat → Net) : Prop where
  s1 : 1 ≤ S
  s3 : S ≤ 3
  s2 : fl = false → S ≤ 2
  l1 : 1 ≤ L
  l2 : L ≤ 2
  at_ : ∀ i, i < 3 → NetRng S L fl (Ns i)
def PaX (K : PySem.W.Frag) (d : Addr) (H : Hp) (q : Addr) (N : Net) : Prop := ∃ e f, e ≠ d ∧ f ≠ d ∧ SqT K H q [.int (N.S : Nat), .int (N.L : Nat), .int (N.n : Nat), .ref e, .ref f] ∧ LM (rTr K) H e N.E ∧ H f = some (.lst (nV N.F))
theorem PaX.keep {d : Addr} {H H' : Hp} {q : Addr} {N : Net} (h : PaX K d H q N) (t : TK1 K H H') (s : SameX d H H') : PaX K d H' q N := by
  obtain ⟨e, f, h1, h2, h3, ⟨ps, h4, h4'⟩, h5⟩ := h
  exact ⟨e, f, h1, h2, t _ _ h3, ⟨ps, s _ _ h1 h4, Paired.imp (fun _ _ r => t _ _ r) h4'⟩, s _ _ h2 h5⟩
theorem PaX.same {d : Addr} {H H' : Hp} {q : Addr} {N : Net} (h : PaX K d H q N) (s : Same H H') : PaX K d H' q N := h.keep (sameT s) fun b o _ e => s b o e
theorem PaX.pa {d : Addr} {H : Hp} {q : Addr} {N : Net} (h : PaX K d H q N) : PaAt K H q N := let ⟨e, f, _, _, h3, h4, h5⟩ := h; ⟨e, f, h3, h4.read, SqL.of h5⟩
def sp_L_nets (P : Program) (w : World) (K : PySem.W.Frag) : SpN := fun vs H Q => ∃ (a : Addr) (ms : List Nat), vs = [.ref a] ∧ SqL K H a (nV ms) ∧ ms.length = 42 ∧
  ∀ (d : Addr) (H' : Hp) (S L : Nat) (fl : Bool) (Ns : Nat → Net) (q : Nat → Addr), Same H H' → H' d = some (.lst [.ref (q 0), .ref (q 1), .ref (q 2)]) → (∀ i, i < 3 → PaAt K H' (q i) (Ns i)) → NetsRng S L fl Ns → Q (.ref d) H'
theorem len_L_nets : ∀ vs H Q, sp_L_nets P w K vs H Q → vs.length = 1 := fun _ _ _ ⟨_, _, e, _⟩ => by subst e; rfl
theorem cdiv3 {i : Nat} (h : i < 3) (x y z : Nat) (hx : 0 < x ∧ x < 1073741824) (hy : 0 < y ∧ y < 1073741824) (hz : 0 < z ∧ z < 1073741824) : ∃ c : Nat, [V.int (x : Nat), .int (y : Nat), .int (z : Nat)][i]? = some (.int (c : Nat)) ∧ 0 < c ∧ c < 1073741824 := by
  have : i = 0 ∨ i = 1 ∨ i = 2 := by omega
  rcases this with rfl | rfl | rfl
  · exact ⟨x, rfl, hx⟩
  · exact ⟨y, rfl, hy⟩
  · exact ⟨z, rfl, hz⟩
theorem sc_L_nets : FnScope ["_law_numbers_here", "_law_states", "_law_letters", "_law_flat", "_law_found", "_law_k", "_law_further", "_law_sizes", "_law_parts_here", "_law_end"] ["_law_numbers_here"] (defScope s_L_nets) := ⟨rfl, rfl, rfl, by decide +kernel, rfl, by decide +kernel, by decide +kernel⟩
/- slots: 0 _law_numbers_here, 1 _law_states, 2 _law_letters, 3 _law_flat, 4 _law_found, 5 _law_k, 6 _law_further, 7 _law_sizes, 8 _law_parts_here, 9 _law_end -/
theorem ok_L_nets (T : Tb K mg) (c_L_parts : Cal P w K mg base (He.ga K "_law_parts") 1 ["_law_numbers_here", "_law_at", "_law_sizes", "_law_flat"] (sp_L_parts P w K)) : Cal P w K mg base (He.ga K "_law_nets") 2 ["_law_numbers_here"] (sp_L_nets P w K) := by
  obtain ⟨fd, F⟩ := T.dfs 37 d_L_nets rfl
  refine cal_of (N := ["_law_numbers_here", "_law_states", "_law_letters", "_law_flat", "_law_found", "_law_k", "_law_further", "_law_sizes", "_law_parts_here", "_law_end"]) F sc_L_nets (F.bindsN fun _ _ _ _ _ _ us hl => match us, hl with | [_], _ => rfl) (len_L_nets) fun cdv A outer s H vs Q E hr h => ?_
  refine ⟨(tSeq (tAsg (tOp rPl (tC (.int 1)) (tOp rMo (tCB rInt1 (tCons (tOp (rIxL K) (tVar 0) (tC (.int 0))) tNil)) (tC (.int 3)))) (gName 1)) (tSeq (tAsg (tOp rPl (tC (.int 1)) (tOp rMo (tCB rInt1 (tCons (tOp rFd (tOp (rIxL K) (tVar 0) (tC (.int 0))) (tC (.int 3))) tNil)) (tC (.int 2)))) (gName 2)) (tSeq (tAsg (tOp rGt (tOp rMo (tCB rInt1 (tCons (tOp rFd (tOp (rIxL K) (tVar 0) (tC (.int 0))) (tC (.int 6))) tNil)) (tC (.int 4))) (tC (.int 0))) (gName 3)) (C8.tCut (tIfS (tNot (tB (tVar 3))) (tAsg (tOp rPl (tC (.int 1)) (tOp rMo (tCB rInt1 (tCons (tOp (rIxL K) (tVar 0) (tC (.int 0))) tNil)) (tC (.int 2)))) (gName 1)) tNext) (tSeq (tAsg (tLst tNil) (gName 4)) (tSeq (tFor (iRng1 (tCons (tC (.int 3)) tNil)) (gName 5) (tSeq (tAsg (tOp rMo (tCB rInt1 (tCons (tOp rFd (tOp (rIxL K) (tVar 0) (tC (.int 1))) (tOp (rIxL K) (tLst (tCons (tC (.int 1)) (tCons (tC (.int 3)) (tCons (tC (.int 9)) tNil)))) (tVar 5))) tNil)) (tC (.int 3))) (gName 6)) (C8.tCut (tIfS (tNot (tB (tVar 3))) (tAsg (tOp rMo (tCB rInt1 (tCons (tVar 6) tNil)) (tC (.int 2))) (gName 6)) tNext) (tSeq (tAsg (tLst (tCons (tVar 1) (tCons (tVar 2) (tCons (tVar 6) (tCons (tOp rMo (tCB rInt1 (tCons (tOp rFd (tOp (rIxL K) (tVar 0) (tC (.int 1))) (tOp (rIxL K) (tLst (tCons (tC (.int 216)) (tCons (tC (.int 1944)) (tCons (tC (.int 17496)) tNil)))) (tVar 5))) tNil)) (tC (.int 9))) tNil))))) (gName 7)) (tSeq (tAsg (tDo (sp_L_parts P w K) (tCons (tVar 0) (tCons (tOp rPl (tC (.int 2)) (tOp rTi (tC (.int 9)) (tVar 5))) (tCons (tVar 7) (tCons (tVar 3) tNil))))) (gName 8)) (C8.tCut (tIfS (tTest (tOp rEqI (tOp rMo (tCB rInt1 (tCons (tOp rFd (tOp (rIxL K) (tVar 0) (tC (.int 1))) (tC (.int 27))) tNil)) (tC (.int 2))) (tC (.int 1)))) (tAsg (tOp (rCatA K) (tSl (rSlA K) (tVar 8) tNoPart (tPart (tC (.int 4)))) (tTup (tCons (tLc (iList K (tOp (rIxT K) (tVar 8) (tC (.int 4)))) (gName 9) (tTest (tOp rGe (tVar 9) (tVar 1))) (tVar 9) [9]) tNil))) (gName 8)) tNext) (tDrop (tBM K "list" rAppend (tVar 4) (tCons (tVar 8) tNil))))))))) (tRet (tVar 4)))))))), (pss_cons (ps_set (i := 1) sc_L_nets.nd rfl (by first | exact Or.inl rfl | exact Or.inr rfl) (pe_op op_add pe_int (pe_op op_mod (pe_callTy call_int1n (by rfl) (T.fre 7 "int" rfl) kb_int (pa_cons (pe_ix ix_list (pv 0) pe_int (fun _ _ => rfl)) pa_nil)) pe_int))) (pss_cons (ps_set (i := 2) sc_L_nets.nd rfl (by first | exact Or.inl rfl | exact Or.inr rfl) (pe_op op_add pe_int (pe_op op_mod (pe_callTy call_int1n (by rfl) (T.fre 7 "int" rfl) kb_int (pa_cons (pe_op op_fdiv (pe_ix ix_list (pv 0) pe_int (fun _ _ => rfl)) pe_int) pa_nil)) pe_int))) (pss_cons (ps_set (i := 3) sc_L_nets.nd rfl (by first | exact Or.inl rfl | exact Or.inr rfl) (pe_cmpR op_gt (pe_op op_mod (pe_callTy call_int1n (by rfl) (T.fre 7 "int" rfl) kb_int (pa_cons (pe_op op_fdiv (pe_ix ix_list (pv 0) pe_int (fun _ _ => rfl)) pe_int) pa_nil)) pe_int) pe_int (nomark _))) (C8.pss_cut (ps_if (pt_not (pt_val (pv 3) (by intro _; rfl))) (pss_one (ps_set (i := 1) sc_L_nets.nd rfl (by first | exact Or.inl rfl | exact Or.inr rfl) (pe_op op_add pe_int (pe_op op_mod (pe_callTy call_int1n (by rfl) (T.fre 7 "int" rfl) kb_int (pa_cons (pe_ix ix_list (pv 0) pe_int (fun _ _ => rfl)) pa_nil)) pe_int)))) pss_nil) (pss_cons (ps_set (i := 4) sc_L_nets.nd rfl (by first | exact Or.inl rfl | exact Or.inr rfl) (pe_lst pa_nil)) (pss_cons (ps_for PassesOwn.never rfl (pi_range1 (by rfl) (T.fre 1 "range" rfl) (pa_cons pe_int pa_nil)) (pg_name (i := 5) sc_L_nets.nd rfl (by first | exact Or.inl rfl | exact Or.inr rfl)) (pss_cons (ps_set (i := 6) sc_L_nets.nd rfl (by first | exact Or.inl rfl | exact Or.inr rfl) (pe_op op_mod (pe_callTy call_int1n (by rfl) (T.fre 7 "int" rfl) kb_int (pa_cons (pe_op op_fdiv (pe_ix ix_list (pv 0) pe_int (fun _ _ => rfl)) (pe_ix ix_list (pe_lst (pa_cons pe_int (pa_cons pe_int (pa_cons pe_int pa_nil)))) (pv 5) (fun _ _ => rfl))) pa_nil)) pe_int)) (C8.pss_cut (ps_if (pt_not (pt_val (pv 3) (by intro _; rfl))) (pss_one (ps_set (i := 6) sc_L_nets.nd rfl (by first | exact Or.inl rfl | exact Or.inr rfl) (pe_op op_mod (pe_callTy call_int1n (by rfl) (T.fre 7 "int" rfl) kb_int (pa_cons (pv 6) pa_nil)) pe_int))) pss_nil) (pss_cons (ps_set (i := 7) sc_L_nets.nd rfl (by first | exact Or.inl rfl | exact Or.inr rfl) (pe_lst (pa_cons (pv 1) (pa_cons (pv 2) (pa_cons (pv 6) (pa_cons (pe_op op_mod (pe_callTy call_int1n (by rfl) (T.fre 7 "int" rfl) kb_int (pa_cons (pe_op op_fdiv (pe_ix ix_list (pv 0) pe_int (fun _ _ => rfl)) (pe_ix ix_list (pe_lst (pa_cons pe_int (pa_cons pe_int (pa_cons pe_int pa_nil)))) (pv 5) (fun _ _ => rfl))) pa_nil)) pe_int) pa_nil)))))) (pss_cons (ps_set (i := 8) sc_L_nets.nd rfl (by first | exact Or.inl rfl | exact Or.inr rfl) (pcal c_L_parts (hr.mono (by decide)) (T.glo 17 "_law_parts" rfl) (pa_cons (pv 0) (pa_cons (pe_op op_add pe_int (pe_op op_mul pe_int (pv 5))) (pa_cons (pv 7) (pa_cons (pv 3) pa_nil)))))) (C8.pss_cut (ps_if (pt_cmpR op_eqI (pe_op op_mod (pe_callTy call_int1n (by rfl) (T.fre 7 "int" rfl) kb_int (pa_cons (pe_op op_fdiv (pe_ix ix_list (pv 0) pe_int (fun _ _ => rfl)) pe_int) pa_nil)) pe_int) pe_int (nomark _)) (pss_one (ps_set (i := 8) sc_L_nets.nd rfl (by first | exact Or.inl rfl | exact Or.inr rfl) (pe_op op_catA (pe_slice sl_tupA (pv 8) po_none (po_some pe_int)) (pe_tup (pa_cons (pe_lc (own := [("_law_end", 9)]) (g := (gName 9)) (tt := (tTest (tOp rGe (tVar 9) (tVar 1)))) (te := (tVar 9)) rfl sc_L_nets.nd (pi_list (pe_ix ix_tup (pv 8) pe_int (fun _ _ => rfl))) (blkOk_by (N := ["_law_numbers_here", "_law_states", "_law_letters", "_law_flat", "_law_found", "_law_k", "_law_further", "_law_sizes", "_law_parts_here", "_law_end"]) (sc := defScope s_L_nets) (by decide +kernel)) (fun _ _ _ _ _ => (pg_name (i := 9) sc_L_nets.nd rfl (by first | exact Or.inl rfl | exact Or.inr rfl))) (fun _ _ _ _ _ => (pts_one (pt_cmpR op_ge (pv 9) (pv 1) (nomark _)))) (fun _ _ _ _ _ => (pv 9))) pa_nil))))) pss_nil) (pss_one (ps_expr (pe_bm PySem.F.plainAttrs_list PySem.F.slot_list_append PySem.F.type_list_append mt_append (pv 4) (pa_cons (pv 8) pa_nil)))))))))) (pss_one (ps_ret (pv 4))))))))), ?_⟩
  obtain ⟨a, ms, rfl, hA, hm, hQ⟩ := h
  refine ⟨_, rfl, a, _, _, _, rfl, rfl, hA, atI_n (n := 0) rfl (mmA_get (by omega)), .inl ⟨_, rfl, _, _, rfl, rfl, (by show (0 : Int) < _; decide), _, _, rfl, rfl, ?_⟩⟩
  refine ⟨_, rfl, a, _, _, _, rfl, rfl, hA, atI_n (n := 0) rfl (mmA_get (by omega)), _, _, rfl, rfl, ⟨by decide, by decide⟩, .inl ⟨_, rfl, _, _, rfl, rfl, (by show (0 : Int) < _; decide), _, _, rfl, rfl, ?_⟩⟩
  refine ⟨_, rfl, a, _, _, _, rfl, rfl, hA, atI_n (n := 0) rfl (mmA_get (by omega)), _, _, rfl, rfl, ⟨by decide, by decide⟩, .inl ⟨_, rfl, _, _, rfl, rfl, (by show (0 : Int) < _; decide), _, _, rfl, rfl, ?_⟩⟩
  refine ⟨fun σ G => (∃ (S L : Nat) (fl : Bool), σ = [some (.ref a), some (.int (S : Nat)), some (.int (L : Nat)), some (.bl fl), none, none, none, none, none, none] ∧ 1 ≤ S ∧ S ≤ 3 ∧ (fl = false → S ≤ 2) ∧ 1 ≤ L ∧ L ≤ 2) ∧ H = G, ?_, ?_⟩
  · have eL : (1 : Int) + ((mmA ms 0 : Int) / 3 % 2) = ((1 + mmA ms 0 / 3 % 2 : Nat) : Int) := by omega
    refine ⟨_, rfl, _, rfl, iteB (fun c => ?_) fun c => ?_⟩
    · refine ⟨_, rfl, a, _, _, _, rfl, rfl, hA, atI_n (n := 0) rfl (mmA_get (by omega)), .inl ⟨_, rfl, _, _, rfl, rfl, (by show (0 : Int) < _; decide), _, _, rfl, rfl, ⟨1 + mmA ms 0 % 2, 1 + mmA ms 0 / 3 % 2, decide ((0 : Int) < (mmA ms 0 : Int) / 6 % 4), ?_, by omega, by omega, fun _ => by omega, by omega, by omega⟩, rfl⟩⟩
      rw [← eL, show ((1 + mmA ms 0 % 2 : Nat) : Int) = 1 + ((mmA ms 0 : Int) % 2) by omega]
      rfl
    · refine ⟨⟨1 + mmA ms 0 % 3, 1 + mmA ms 0 / 3 % 2, decide ((0 : Int) < (mmA ms 0 : Int) / 6 % 4), ?_, by omega, by omega, fun e => ?_, by omega, by omega⟩, rfl⟩
      · rw [← eL, show ((1 + mmA ms 0 % 3 : Nat) : Int) = 1 + ((mmA ms 0 : Int) % 3) by omega]
        rfl
      · rw [e] at c
        cases c
  rintro σ G ⟨⟨S, L, fl, rfl, S1, S3, S2, L1, L2⟩, rfl⟩
  refine ⟨Nat.zero_le _, fun d hd => ?_⟩
  dsimp only [tSeq, tIfS, tOr, tAnd, tNot, tB, tTest, tCB, tCons, tNil, tNext, tAsg, tRet, tDrop, tDo, gName]
  refine tforR (n := 3) (fun R h => h) (by decide) (fun i σ G => (∃ v5 v6 v7 v8, σ = [some (.ref a), some (.int S), some (.int L), some (.bl fl), some (.ref d), v5, v6, v7, v8, none]) ∧ Same H G ∧ ∃ (qs : List Addr) (Nl : List Net), G d = some (.lst (qs.map V.ref)) ∧ Paired (PaX K d G) qs Nl ∧ Nl.length = i ∧ ∀ N ∈ Nl, NetRng S L fl N)
    ⟨⟨_, _, _, _, rfl⟩, same_new hd, [], [], upd_same, .nil, rfl, fun N h => nomatch h⟩ (fun i σ G hi hσ => ?_) (fun σ G hσ => ?_)
  · obtain ⟨⟨v5, v6, v7, v8, rfl⟩, sG, qs, Nl, hG, pn, nl, nr⟩ := hσ
    obtain ⟨c1, c11, c12⟩ := cdiv3 hi 1 3 9 (by decide) (by decide) (by decide)
    obtain ⟨c2, c21, c22⟩ := cdiv3 hi 216 1944 17496 (by decide) (by decide) (by decide)
    refine ⟨_, rfl, a, _, _, _, rfl, rfl, sG.seq hA, atI_n (n := 1) rfl (mmA_get (by omega)), (sz1000 (n := 3) (by decide) : 3 ≤ sizeLine), fun x hx => ⟨_, rfl, x, _, _, _, rfl, rfl, SqL.of upd_same, atI_n rfl c11, _, _, rfl, rfl, ⟨by omega, by omega⟩, .inl ⟨_, rfl, _, _, rfl, rfl, (by show (0 : Int) < _; decide), ?_⟩⟩⟩
    have sx := same_new (o := .lst [.int 1, .int 3, .int 9]) hx
    refine ⟨fun σ G' => (∃ fu : Nat, σ = [some (.ref a), some (.int S), some (.int L), some (.bl fl), some (.ref d), some (.int i), some (.int (fu : Nat)), v7, v8, none] ∧ fu ≤ 2 ∧ (fl = false → fu ≤ 1)) ∧ Same G G', ?_, ?_⟩
    · refine ⟨_, rfl, _, rfl, iteB (fun c => ?_) fun c => ?_⟩
      · refine ⟨_, rfl, .inl ⟨_, rfl, _, _, rfl, rfl, (by show (0 : Int) < _; decide), ⟨mmA ms 1 / c1 % 3 % 2, ?_, by omega, fun _ => by omega⟩, sx⟩⟩
        rw [show ((mmA ms 1 / c1 % 3 % 2 : Nat) : Int) = (mmA ms 1 : Int) / (c1 : Int) % 3 % 2 by simp only [Int.natCast_emod, Int.natCast_ediv]; rfl]
        rfl
      · refine ⟨⟨mmA ms 1 / c1 % 3, ?_, by omega, fun e => ?_⟩, sx⟩
        · rw [show ((mmA ms 1 / c1 % 3 : Nat) : Int) = (mmA ms 1 : Int) / (c1 : Int) % 3 by simp only [Int.natCast_emod, Int.natCast_ediv]; rfl]
          rfl
        · rw [e] at c
          cases c
    rintro σ G1 ⟨⟨fu, rfl, f2, f1⟩, s1⟩
    have sG1 := sG.trans s1
    refine ⟨_, rfl, _, rfl, _, rfl, _, rfl, a, _, _, _, rfl, rfl, sG1.seq hA, atI_n (n := 1) rfl (mmA_get (by omega)), (sz1000 (n := 3) (by decide) : 3 ≤ sizeLine), fun x hx => ⟨_, rfl, x, _, _, _, rfl, rfl, SqL.of upd_same, atI_n rfl c21, _, _, rfl, rfl, ⟨by omega, by omega⟩, .inl ⟨_, rfl, _, _, rfl, rfl, (by show (0 : Int) < _; decide), (sz1000 (n := 4) (by decide) : 4 ≤ sizeLine), fun z hz => ?_⟩⟩⟩
    have s2 := (same_new (o := .lst [.int 216, .int 1944, .int 17496]) hx).trans (same_new (o := .lst [.int (S : Nat), .int (L : Nat), .int (fu : Nat), .int ((mmA ms 1 : Int) / (c2 : Int) % 9)]) hz)
    have sG2 := sG1.trans s2
    have e9 : (mmA ms 1 : Int) / (c2 : Int) % 9 = ((mmA ms 1 / c2 % 9 : Nat) : Int) := by
      simp only [Int.natCast_emod, Int.natCast_ediv] <;> rfl
    have c9 := Nat.mod_lt (mmA ms 1 / c2) (show 0 < 9 by decide)
    refine ⟨_, rfl, _, rfl, _, _, rfl, rfl, .inl ⟨by decide, by decide⟩, _, _, rfl, rfl, _, rfl, _, rfl, a, z, ms, 2 + 9 * i, S, L, fu, mmA ms 1 / c2 % 9, fl, ?_, sG2.seq hA, SqL.of ?_, ⟨S1, by omega, L1, by omega, by omega, by omega, by omega⟩, fun q e f G3 N s3 hq he lme hf hf' eS eL en rng => ?_⟩
    · rw [show ((2 + 9 * i : Nat) : Int) = 2 + 9 * (i : Int) by omega]
    · rw [upd_same]
      unfold nV
      show some (HO.lst [.int (S : Nat), .int (L : Nat), .int (fu : Nat), .int ((mmA ms 1 : Int) / (c2 : Int) % 9)]) = _
      rw [e9]
      rfl
    have sG3 := sG2.trans s3
    have s13 := s1.trans (s2.trans s3)
    have pn3 : Paired (PaX K d G3) qs Nl := Paired.imp (fun _ _ r => r.same s13) pn
    have hd3 : G3 d = some (.lst (qs.map V.ref)) := s13 _ _ hG
    have dG2 : ∀ {b : Addr}, (upd (upd G1 x (.lst [.int 216, .int 1944, .int 17496])) z (.lst [.int (S : Nat), .int (L : Nat), .int (fu : Nat), .int ((mmA ms 1 : Int) / (c2 : Int) % 9)])) b = none → b ≠ d := fun h => Ne.symm (ne_of_none (s2 _ _ (s1 _ _ hG)) h)
    have px : PaX K d G3 q N := ⟨e, f, dG2 he, dG2 hf, hq, lme, hf'⟩
    have nrg : NetRng S L fl N := ⟨eS, eL, by omega, fun _ => by omega, fun e => by have := f1 e; omega, ⟨rng.ef, rng.fl, by have := rng.el; omega, rng.ff, rng.fn⟩⟩
    refine ⟨fun σ G4 => (∃ (q : Addr) (v7 : Option V), σ = [some (.ref a), some (.int S), some (.int L), some (.bl fl), some (.ref d), some (.int i), some (.int (fu : Nat)), v7, some (.ref q), none] ∧ ∃ N, PaX K d G4 q N ∧ NetRng S L fl N) ∧ Same G3 G4, ?_, ?_⟩
    · refine ⟨_, rfl, a, _, _, _, rfl, rfl, sG3.seq hA, atI_n (n := 1) rfl (mmA_get (by omega)), _, _, rfl, rfl, ⟨by decide, by decide⟩, .inl ⟨_, rfl, _, _, rfl, rfl, (by show (0 : Int) < _; decide), _, _, rfl, rfl, _, rfl, iteB (fun _ => ?_) fun _ => ⟨⟨q, _, rfl, N, px, nrg⟩, Same.refl G3⟩⟩⟩
      refine ⟨_, rfl, _, rfl, q, _, rfl, hq, fun c => absurd c (by rintro ⟨_, c⟩; cases c), fun _ q4 hq4 => ?_⟩
      have s4 := same_new (o := .tup (cutV [.int (N.S : Nat), .int (N.L : Nat), .int (N.n : Nat), .ref e, .ref f] none (some 4))) hq4
      have fn := rng.fn
      have nn : N.n ≤ 5 := by omega
      dsimp only [tTup, tCons]
      refine tlcL (fun R h => ⟨_, rfl, q, _, _, _, rfl, rfl, Same.tup s4 hq, atI_n (n := 4) rfl rfl, h⟩) (SqL.of (s4 _ _ hf')) (fun j => nV ((N.F.take j).filter fun x => decide (S ≤ x))) rfl (fun D hD j v G hv sm hG => ?_) fun D hD G5 s5 hG5 => ?_
      · obtain ⟨y, rfl, hy⟩ := nV_get hv
        have yl := (List.getElem?_eq_some_iff.mp hy).1
        refine ⟨rfl, ⟨_, rfl, _, rfl, _, _, rfl, rfl, _, rfl, iteB (fun c => ?_) fun c => ?_⟩⟩
        · have c' : S ≤ y := Int.ofNat_le.mp (of_decide_eq_true c)
          refine ⟨_, rfl, _, hG, ?_, same_put sm hD, ?_⟩
          · have := List.length_filter_le (fun x => decide (S ≤ x)) (N.F.take j)
            rw [List.length_take] at this
            rw [nV_len]
            exact line_lt (by omega)
          · rw [take_snoc hy, List.filter_append, show [y].filter (fun x => decide (S ≤ x)) = [y] by simp [c']]
            exact nV_snoc _ _
        · have c' : ¬ S ≤ y := fun z => of_decide_eq_false c (Int.ofNat_le.mpr z)
          refine ⟨sm, ?_⟩
          rw [take_snoc hy, List.filter_append, show [y].filter (fun x => decide (S ≤ x)) = [] by simpa using c', List.append_nil]
          exact hG
      · rw [nV_len, List.take_length] at hG5
        refine ⟨(sz1000 (n := 1) (by decide) : 1 ≤ sizeLine), fun q5 hq5 => ?_⟩
        have s6 := same_new (o := .tup [.ref D]) hq5
        have s46 := s4.trans (s5.trans s6)
        refine cat_any (a := q4) (b := q5) (xs := [.int (N.S : Nat), .int (N.L : Nat), .int (N.n : Nat), .ref e]) (ys := [.ref D]) (SqT.of (s6 _ _ (s5 _ _ upd_same))) (SqT.of upd_same) (sz1000 (n := 5) (by decide) : 5 ≤ sizeLine) fun q6 G6 s7 hq6 => ?_
        have s47 := s46.trans s7
        have Dd : D ≠ d := Ne.symm (ne_of_none (s4 _ _ hd3) hD)
        have px' := px.same s47
        refine ⟨⟨q6, _, rfl, ⟨N.S, N.L, N.n, N.E, N.F.filter fun x => decide (S ≤ x)⟩, ⟨e, D, dG2 he, Dd, hq6, lme.same (stb_tr K) s47, s7 _ _ (s6 _ _ hG5)⟩, ⟨eS, eL, nrg.sn, nrg.n1, nrg.n0, ⟨rng.ef, rng.fl, nrg.pr.el, fun x hx => rng.ff x (List.mem_filter.mp hx).1, Nat.le_trans (List.length_filter_le _ _) rng.fn⟩⟩⟩, s47⟩
    · rintro σ G4 ⟨⟨q', v7', rfl, N', px', nrg'⟩, s4⟩
      have pn4 : Paired (PaX K d G4) qs Nl := Paired.imp (fun _ _ r => r.same s4) pn3
      have hd4 := s4 _ _ hd3
      have u := updT (K := K) (H := G4) (a := d) (o := .lst (qs.map V.ref ++ [.ref q'])) (.inl (by rw [hd4]; exact True.intro))
      have ux : SameX d G4 (upd G4 d (.lst (qs.map V.ref ++ [.ref q']))) := fun b o n h => by rw [upd_ne n]; exact h
      have ql : qs.length = Nl.length := Paired.length pn
      refine ⟨_, rfl, .inl ⟨rfl, _, SqL.of hd4⟩, _, rfl, d, _, _, rfl, rfl, hd4, by rw [List.length_map, ql, nl]; exact line_lt (by omega), ⟨_, _, _, _, rfl⟩, same_put (sG3.trans s4) hd, qs ++ [q'], Nl ++ [N'], ?_, Paired.snoc (Paired.imp (fun _ _ r => r.keep u ux) pn4) (px'.keep u ux), by rw [List.length_append, nl]; rfl, fun M hM => ?_⟩
      · rw [upd_same, List.map_append]
        rfl
      · rcases List.mem_append.mp hM with m | m
        · exact nr M m
        · rw [List.mem_singleton.mp m]
          exact nrg'
  · obtain ⟨⟨v5, v6, v7, v8, rfl⟩, sG, qs, Nl, hG, pn, nl, nr⟩ := hσ
    match Nl, nl, qs, pn with
    | [N0, N1, N2], _, [q0, q1, q2], .cons r0 (.cons r1 (.cons r2 .nil)) =>
      refine ⟨_, rfl, hQ d G S L fl (fun i => if i = 0 then N0 else if i = 1 then N1 else N2) (fun i => if i = 0 then q0 else if i = 1 then q1 else q2) sG hG (fun i hi => ?_) ⟨S1, S3, S2, L1, L2, fun i hi => ?_⟩⟩
      · have : i = 0 ∨ i = 1 ∨ i = 2 := by omega
        rcases this with rfl | rfl | rfl
        · exact r0.pa
        · exact r1.pa
        · exact r2.pa
      · have : i = 0 ∨ i = 1 ∨ i = 2 := by omega
        rcases this with rfl | rfl | rfl
        · exact nr N0 (by simp)
        · exact nr N1 (by simp)
        · exact nr N2 (by simp)
end
end K23
/-! K23Lap -/
set_option Elab.async false
set_option linter.all false
set_option maxRecDepth 100000
set_option maxHeartbeats 4000000
/-! Distances in a table of places, by relaxing. -/
namespace K23
open PySem PySem.Spec PyProof.Rows L2
/-- the table's rows; the marked places -/
def tGo (tbl : List (List Nat)) (x l : Nat) : Option Nat := (tbl[x]?).bind fun r => r[l]?
def tkR (tbl : List (List Nat)) (mk : Nat → Bool) : Nat → Nat → Prop
  | 0, x => mk x = true
  | k + 1, x => ∃ l y, tGo tbl x l = some y ∧ tkR tbl mk k y
def tkD (tbl : List (List Nat)) (mk : Nat → Bool) (k x : Nat) : Prop := tkR tbl mk k x ∧ ∀ j, j < k → ¬ tkR tbl mk j x
structure TblOk (tbl : List (List Nat)) (L : Nat) : Prop where
  row : ∀ (t : Nat) (r : List Nat), tbl[t]? = some r → r.length = L
  rng : ∀ t l y, tGo tbl t l = some y → y < tbl.length
section
variable {tbl : List (List Nat)} {mk : Nat → Bool} {L k j x y l m n : Nat}
theorem tkD_uniq (a : tkD tbl mk k x) (b : tkD tbl mk j x) : k = j := by
  rcases Nat.lt_trichotomy k j with h | h | h
  · exact absurd a.1 (b.2 k h)
  · exact h
  · exact absurd b.1 (a.2 j h)
theorem tk_min : ∀ k, tkR tbl mk k x → ∃ j, j ≤ k ∧ tkD tbl mk j x := by
  intro k
  induction k using Nat.strongRecOn with
  | _ k ih =>
    intro h
    by_cases c : ∃ j, j < k ∧ tkR tbl mk j x
    · obtain ⟨j, lt, hj⟩ := c
      obtain ⟨i, h1, h2⟩ := ih j lt hj
      exact ⟨i, by omega, h2⟩
    · exact ⟨k, Nat.le_refl _, h, fun j lt hj => c ⟨j, lt, hj⟩⟩
theorem tkD_step (h : tkD tbl mk (k + 1) x) : ∃ l y, tGo tbl x l = some y ∧ tkD tbl mk k y := by
  obtain ⟨⟨l, y, h1, h2⟩, h3⟩ := h
  exact ⟨l, y, h1, h2, fun j lt hj => h3 (j + 1) (by omega) ⟨l, y, h1, hj⟩⟩
theorem tkD_lt (ok : TblOk tbl L) (h : tkD tbl mk k x) (hx : x < tbl.length) : k < tbl.length := by
  have key : ∀ k x, tkD tbl mk k x → x < tbl.length → ∃ r : List Nat, r.length = k + 1 ∧ r.Nodup ∧ ∀ z ∈ r, z < tbl.length ∧ ∃ j, j ≤ k ∧ tkD tbl mk j z := by
    intro k
    induction k with
    | zero => exact fun x h hx => ⟨[x], rfl, List.pairwise_singleton _ _, fun z hz => by rw [List.mem_singleton.mp hz]; exact ⟨hx, 0, Nat.le_refl _, h⟩⟩
    | succ k ih =>
      intro x h hx
      obtain ⟨l, y, h1, h2⟩ := tkD_step h
      obtain ⟨r, r1, r2, r3⟩ := ih y h2 (ok.rng _ _ _ h1)
      refine ⟨x :: r, by rw [List.length_cons, r1], List.nodup_cons.mpr ⟨fun m => ?_, r2⟩, fun z hz => ?_⟩
      · obtain ⟨_, j, lj, dj⟩ := r3 x m
        have := tkD_uniq h dj
        omega
      · rcases List.mem_cons.mp hz with rfl | hz
        · exact ⟨hx, k + 1, Nat.le_refl _, h⟩
        · obtain ⟨z1, j, lj, dj⟩ := r3 z hz
          exact ⟨z1, j, by omega, dj⟩
  obtain ⟨r, r1, r2, r3⟩ := key k x h hx
  have := r2.length_le_of_subset (l₂ := List.range tbl.length) fun z hz => List.mem_range.mpr (r3 z hz).1
  rw [List.length_range] at this
  omega
/-- what is always so of the values -/
structure LB (tbl : List (List Nat)) (mk : Nat → Bool) (g : List Nat) : Prop where
  len : g.length = tbl.length
  le : ∀ x v : Nat, g[x]? = some v → v ≤ tbl.length
  rk : ∀ x v : Nat, g[x]? = some v → v < tbl.length → tkR tbl mk v x
/-- .. and behind m rounds -/
def UB (tbl : List (List Nat)) (mk : Nat → Bool) (m : Nat) (g : List Nat) : Prop := ∀ x, x < tbl.length → ∀ k, k ≤ m → tkR tbl mk k x → ∃ v, g[x]? = some v ∧ v ≤ k
/-- all is found -/
def LFull (tbl : List (List Nat)) (mk : Nat → Bool) (g : List Nat) : Prop := g.length = tbl.length ∧ ∀ x, x < tbl.length → ∃ v, g[x]? = some v ∧ ((v < tbl.length ∧ tkD tbl mk v x) ∨ (v = tbl.length ∧ ∀ k, ¬ tkR tbl mk k x))
theorem full_of {g : List Nat} (ok : TblOk tbl L) (lb : LB tbl mk g) (ub : UB tbl mk tbl.length g) : LFull tbl mk g := by
  refine ⟨lb.len, fun x hx => ?_⟩
  obtain ⟨v, hv⟩ : ∃ v, g[x]? = some v := ⟨g[x]'(by rw [lb.len]; exact hx), by simp⟩
  refine ⟨v, hv, ?_⟩
  by_cases c : ∃ k, tkR tbl mk k x
  · obtain ⟨k, hk⟩ := c
    obtain ⟨d, _, hd⟩ := tk_min k hk
    have dl := tkD_lt ok hd hx
    obtain ⟨v', hv', lv⟩ := ub x hx d (by omega) hd.1
    rw [hv] at hv'
    cases hv'
    have : ¬ v < d := fun lt => hd.2 v lt (lb.rk x v hv (by omega))
    have : v = d := by omega
    subst this
    exact .inl ⟨dl, hd⟩
  · have le := lb.le x v hv
    rcases Nat.lt_or_ge v tbl.length with lt | ge
    · exact absurd ⟨v, lb.rk x v hv lt⟩ c
    · exact .inr ⟨by omega, fun k hk => c ⟨k, hk⟩⟩
theorem ub_fix {g : List Nat} (ok : TblOk tbl L) (lb : LB tbl mk g) (u0 : UB tbl mk 0 g) (fx : ∀ x l y v u : Nat, tGo tbl x l = some y → g[x]? = some v → g[y]? = some u → v ≤ u + 1) : ∀ m, UB tbl mk m g := by
  have key : ∀ k x, x < tbl.length → tkR tbl mk k x → ∃ v, g[x]? = some v ∧ v ≤ k := by
    intro k
    induction k with
    | zero => exact fun x hx h => u0 x hx 0 (Nat.le_refl _) h
    | succ k ih =>
      rintro x hx ⟨l, y, h1, h2⟩
      obtain ⟨u, hu, lu⟩ := ih y (ok.rng _ _ _ h1) h2
      obtain ⟨v, hv⟩ : ∃ v, g[x]? = some v := ⟨g[x]'(by rw [lb.len]; exact hx), by simp⟩
      have := fx x l y v u h1 hv hu
      exact ⟨v, hv, by omega⟩
  exact fun m x hx k _ h => key k x hx h
/-- a round has been gone through up to the goal l of the place p; g0: the values at its start -/
structure Rnd (tbl : List (List Nat)) (mk : Nat → Bool) (g0 : List Nat) (p c : Nat) (g : List Nat) (ch : Bool) : Prop where
  lb : LB tbl mk g
  dn : ∀ x v u : Nat, g[x]? = some v → g0[x]? = some u → v ≤ u
  ok : ∀ x l y v u : Nat, (x < p ∨ (x = p ∧ l < c)) → tGo tbl x l = some y → g[x]? = some v → g0[y]? = some u → v ≤ u + 1
  nc : ch = false → g = g0
theorem Rnd.start {g : List Nat} (lb : LB tbl mk g) : Rnd tbl mk g 0 0 g false :=
  ⟨lb, fun x v u h1 h2 => by rw [h1] at h2; cases h2; exact Nat.le_refl _, fun x l y v u h => by omega, fun _ => rfl⟩
theorem Rnd.skip {g0 g : List Nat} {p c : Nat} {ch : Bool} (h : Rnd tbl mk g0 p c g ch) {y vp vy : Nat} (hy : tGo tbl p c = some y) (hp : g[p]? = some vp) (hv : g[y]? = some vy) (le : vp ≤ vy + 1) : Rnd tbl mk g0 p (c + 1) g ch := by
  refine ⟨h.lb, h.dn, fun x l z v u hx hz h1 h2 => ?_, h.nc⟩
  by_cases e : x = p ∧ l = c
  · obtain ⟨rfl, rfl⟩ := e
    rw [hy] at hz
    cases hz
    rw [hp] at h1
    cases h1
    have := h.dn _ _ _ hv h2
    omega
  · exact h.ok x l z v u (by omega) hz h1 h2
theorem Rnd.put {g0 g : List Nat} {p c : Nat} {ch : Bool} (h : Rnd tbl mk g0 p c g ch) {y vp vy : Nat} (hy : tGo tbl p c = some y) (hp : g[p]? = some vp) (hv : g[y]? = some vy) (lt : vy + 1 < vp) : Rnd tbl mk g0 p (c + 1) (g.set p (vy + 1)) true := by
  have pl : p < g.length := (List.getElem?_eq_some_iff.mp hp).1
  have vl := h.lb.le p vp hp
  have get : ∀ {x v}, (g.set p (vy + 1))[x]? = some v → (x = p ∧ v = vy + 1) ∨ (x ≠ p ∧ g[x]? = some v) := fun {x v} e => by
    by_cases c : x = p
    · subst c
      rw [List.getElem?_set_self pl] at e
      cases e
      exact .inl ⟨rfl, rfl⟩
    · rw [List.getElem?_set_ne (Ne.symm c)] at e
      exact .inr ⟨c, e⟩
  refine ⟨⟨by rw [List.length_set]; exact h.lb.len, fun x v e => ?_, fun x v e lt' => ?_⟩, fun x v u e e2 => ?_, fun x l z v u hx hz h1 h2 => ?_, fun e => nomatch e⟩
  · rcases get e with ⟨rfl, rfl⟩ | ⟨_, e⟩
    · omega
    · exact h.lb.le x v e
  · rcases get e with ⟨rfl, rfl⟩ | ⟨_, e⟩
    · exact ⟨c, y, hy, h.lb.rk y vy hv (by omega)⟩
    · exact h.lb.rk x v e lt'
  · rcases get e with ⟨rfl, rfl⟩ | ⟨_, e⟩
    · have := h.dn _ _ _ hp e2
      omega
    · exact h.dn x v u e e2
  · rcases get h1 with ⟨rfl, rfl⟩ | ⟨ne, e⟩
    · by_cases e : l = c
      · subst e
        rw [hy] at hz
        cases hz
        have := h.dn _ _ _ hv h2
        omega
      · have := h.ok _ l z vp u (by omega) hz hp h2
        omega
    · exact h.ok x l z v u (by omega) hz e h2
theorem Rnd.place {g0 g : List Nat} {p : Nat} {ch : Bool} (ok : TblOk tbl L) (h : Rnd tbl mk g0 p L g ch) : Rnd tbl mk g0 (p + 1) 0 g ch := by
  refine ⟨h.lb, h.dn, fun x l y v u hx hz h1 h2 => ?_, h.nc⟩
  refine h.ok x l y v u ?_ hz h1 h2
  have : l < L := by
    unfold tGo at hz
    cases e : tbl[x]? with
    | none => rw [e] at hz; cases hz
    | some r =>
      rw [e] at hz
      have := (List.getElem?_eq_some_iff.mp (show r[l]? = some y from hz)).1
      rw [ok.row x r e] at this
      exact this
  omega
theorem Rnd.done {g0 g : List Nat} {ch : Bool} (ok : TblOk tbl L) (h : Rnd tbl mk g0 tbl.length 0 g ch) (lb0 : LB tbl mk g0) (ub : UB tbl mk m g0) : LB tbl mk g ∧ UB tbl mk (m + 1) g ∧ (ch = false → LFull tbl mk g) := by
  have u1 : UB tbl mk (m + 1) g := fun x hx k hk hr => by
    obtain ⟨v, hv⟩ : ∃ v, g[x]? = some v := ⟨g[x]'(by rw [h.lb.len]; exact hx), by simp⟩
    obtain ⟨u, hu⟩ : ∃ u, g0[x]? = some u := ⟨g0[x]'(by rw [lb0.len]; exact hx), by simp⟩
    refine ⟨v, hv, ?_⟩
    rcases Nat.lt_or_ge m k with lt | ge
    · have : k = m + 1 := by omega
      subst this
      obtain ⟨l, y, h1, h2⟩ := hr
      obtain ⟨u', hu', lu⟩ := ub y (ok.rng _ _ _ h1) m (Nat.le_refl _) h2
      have := h.ok x l y v u' (.inl hx) h1 hv hu'
      omega
    · obtain ⟨u', hu', lu⟩ := ub x hx k ge hr
      rw [hu] at hu'
      cases hu'
      have := h.dn x v u hv hu
      omega
  refine ⟨h.lb, u1, fun c => ?_⟩
  have e := h.nc c
  subst e
  refine full_of ok h.lb (ub_fix ok h.lb (fun x hx k hk hr => ub x hx k (by omega) hr) (fun x l y v u h1 h2 h3 => ?_) _)
  refine h.ok x l y v u (.inl ?_) h1 h2 h3
  have := (List.getElem?_eq_some_iff.mp h2).1
  rw [h.lb.len] at this
  exact this
end
end K23
/-! K23Li -/
set_option Elab.async false
set_option linter.all false
set_option maxRecDepth 100000
set_option maxHeartbeats 4000000
namespace K23
open PySem PySem.Spec PyProof.Rows L2
section
variable {P : Program} {w : World} {K : PySem.W.Frag} {mg : Str → Option Value} {base : Heap}
abbrev rRow (K : PySem.W.Frag) : Hp → Addr → List Nat → Prop := fun G p r => SqL K G p (nV r)
def TblAt (K : PySem.W.Frag) (H : Hp) (a : Addr) (tbl : List (List Nat)) : Prop := ∃ qs : List Addr, SqL K H a (qs.map V.ref) ∧ Paired (rRow K H) qs tbl
theorem TblAt.same {H H' : Hp} {a : Addr} {tbl : List (List Nat)} (h : TblAt K H a tbl) (s : Same H H') : TblAt K H' a tbl := let ⟨qs, h1, h2⟩ := h; ⟨qs, s.seq h1, Paired.imp (fun _ _ r => s.seq r) h2⟩
def mkF (mks : List Bool) (x : Nat) : Bool := mks.getD x false
theorem mkF_get {mks : List Bool} {x : Nat} {b : Bool} (h : mks[x]? = some b) : mkF mks x = b := by
  unfold mkF
  rw [List.getD_eq_getElem?_getD, h]
  rfl
def g0F (n : Nat) (mks : List Bool) : List Nat := mks.map fun b => if b = true then 0 else n
def sp_L_distances (P : Program) (w : World) (K : PySem.W.Frag) : SpN := fun vs H Q => ∃ (a b : Addr) (tbl : List (List Nat)) (mks : List Bool) (L : Nat), vs = [.ref a, .ref b] ∧ TblAt K H a tbl ∧ SqL K H b (mks.map V.bl) ∧ mks.length = tbl.length ∧ TblOk tbl L ∧ tbl.length ≤ 1000 ∧
  ∀ d H' g, Same H H' → H d = none → H' d = some (.lst (nV g)) → LFull tbl (mkF mks) g → Q (.ref d) H'
theorem len_L_distances : ∀ vs H Q, sp_L_distances P w K vs H Q → vs.length = 2 := fun _ _ _ ⟨_, _, _, _, _, e, _⟩ => by subst e; rfl
theorem sc_L_distances : FnScope ["_law_goals", "_law_marks", "_law_far", "_law_found", "_law_k", "_law_changed", "_law_place", "_law_goal", "_law_mark"] ["_law_goals", "_law_marks"] (defScope s_L_distances) := ⟨rfl, rfl, rfl, by decide +kernel, rfl, by decide +kernel, by decide +kernel⟩
/- slots: 0 _law_goals, 1 _law_marks, 2 _law_far, 3 _law_found, 4 _law_k, 5 _law_changed, 6 _law_place, 7 _law_goal, 8 _law_mark -/
theorem ok_L_distances (T : Tb K mg)  : Cal P w K mg base (He.ga K "_law_distances") 1 ["_law_goals", "_law_marks"] (sp_L_distances P w K) := by
  obtain ⟨fd, F⟩ := T.dfs 35 d_L_distances rfl
  refine cal_of (N := ["_law_goals", "_law_marks", "_law_far", "_law_found", "_law_k", "_law_changed", "_law_place", "_law_goal", "_law_mark"]) F sc_L_distances (F.bindsN fun _ _ _ _ _ _ us hl => match us, hl with | [_, _], _ => rfl) (len_L_distances) fun cdv A outer s H vs Q E hr h => ?_
  refine ⟨(tSeq (tAsg (tCB (rLen2 K) (tCons (tVar 0) tNil)) (gName 2)) (tSeq (tAsg (tLc (iList K (tVar 1)) (gName 8) tYes (tOp rMi (tVar 2) (tOp rTi (tVar 2) (tCB rInt1 (tCons (tVar 8) tNil)))) [8]) (gName 3)) (tSeq (tFor (iRng1 (tCons (tVar 2) tNil)) (gName 4) (tSeq (tAsg (tC (.bl false)) (gName 5)) (tSeq (tFor (iRng1 (tCons (tVar 2) tNil)) (gName 6) (tFor (iList K (tOp (rIxL K) (tVar 0) (tVar 6))) (gName 7) (tIfS (tTest (tOp rLt (tOp rPl (tOp (rIxL K) (tVar 3) (tVar 7)) (tC (.int 1))) (tOp (rIxL K) (tVar 3) (tVar 6)))) (tSeq (tAsg (tOp rPl (tOp (rIxL K) (tVar 3) (tVar 7)) (tC (.int 1))) (gSub (tVar 3) (tVar 6) rSetL)) (tAsg (tC (.bl true)) (gName 5))) tNext))) (tIfS (tNot (tB (tVar 5))) tBreak tNext)))) (tRet (tVar 3))))), (pss_cons (ps_set (i := 2) sc_L_distances.nd rfl (by first | exact Or.inl rfl | exact Or.inr rfl) (pe_callB call_len2 (by rfl) (T.fre 0 "len" rfl) kb_len (pa_cons (pv 0) pa_nil))) (pss_cons (ps_setLc (i := 3) (own := [("_law_mark", 8)]) (g := (gName 8)) (tt := tYes) (te := (tOp rMi (tVar 2) (tOp rTi (tVar 2) (tCB rInt1 (tCons (tVar 8) tNil))))) rfl sc_L_distances.nd rfl rfl (sw_true rfl rfl rfl (by decide +kernel)) (pi_list (pv 1)) (blkOk_by (N := ["_law_goals", "_law_marks", "_law_far", "_law_found", "_law_k", "_law_changed", "_law_place", "_law_goal", "_law_mark"]) (sc := defScope s_L_distances) (by decide +kernel)) (fun _ _ _ _ _ => (pg_name (i := 8) sc_L_distances.nd rfl (by first | exact Or.inl rfl | exact Or.inr rfl))) (fun _ _ _ _ _ => pts_nil) (fun _ _ _ _ _ => (pe_op op_sub (pv 2) (pe_op op_mul (pv 2) (pe_callTy call_int1n (by rfl) (T.fre 7 "int" rfl) kb_int (pa_cons (pv 8) pa_nil)))))) (pss_cons (ps_for PassesOwn.never rfl (pi_range1 (by rfl) (T.fre 1 "range" rfl) (pa_cons (pv 2) pa_nil)) (pg_name (i := 4) sc_L_distances.nd rfl (by first | exact Or.inl rfl | exact Or.inr rfl)) (pss_cons (ps_set (i := 5) sc_L_distances.nd rfl (by first | exact Or.inl rfl | exact Or.inr rfl) pe_bl) (pss_cons (ps_for PassesOwn.never rfl (pi_range1 (by rfl) (T.fre 1 "range" rfl) (pa_cons (pv 2) pa_nil)) (pg_name (i := 6) sc_L_distances.nd rfl (by first | exact Or.inl rfl | exact Or.inr rfl)) (pss_one (ps_for PassesOwn.never rfl (pi_list (pe_ix ix_list (pv 0) (pv 6) (fun _ _ => rfl))) (pg_name (i := 7) sc_L_distances.nd rfl (by first | exact Or.inl rfl | exact Or.inr rfl)) (pss_one (ps_if (pt_cmpR op_lt (pe_op op_add (pe_ix ix_list (pv 3) (pv 7) (fun _ _ => rfl)) pe_int) (pe_ix ix_list (pv 3) (pv 6) (fun _ _ => rfl)) (nomark _)) (pss_cons (ps_asg (pe_op op_add (pe_ix ix_list (pv 3) (pv 7) (fun _ _ => rfl)) pe_int) (pg_sub (pv 3) (pv 6) set_list)) (pss_one (ps_set (i := 5) sc_L_distances.nd rfl (by first | exact Or.inl rfl | exact Or.inr rfl) pe_bl))) pss_nil))))) (pss_one (ps_if (pt_not (pt_val (pv 5) (by intro _; rfl))) (pss_one ps_break) pss_nil))))) (pss_one (ps_ret (pv 3)))))), ?_⟩
  obtain ⟨a, b, tbl, mks, L, rfl, hT, hB, hm, ok, ln, hQ⟩ := h
  obtain ⟨qs, t1, t2⟩ := id hT
  have ql : (qs.map V.ref).length = tbl.length := by rw [List.length_map]; exact Paired.length t2
  refine ⟨_, rfl, a, _, rfl, .inl t1, ?_⟩
  rw [ql]
  dsimp only [tSeq, tIfS, tOr, tAnd, tNot, tB, tTest, tCB, tCons, tNil, tNext, tAsg, tRet, tDrop, tDo, gName]
  refine tlcL (fun R h => ⟨_, rfl, h⟩) hB (fun i => nV (g0F tbl.length (mks.take i))) rfl (fun D hD i v G hv sm hG => ?_) fun d hd G1 s1 hG1 => ?_
  · rw [List.getElem?_map] at hv
    cases e : mks[i]? with
    | none => rw [e] at hv; cases hv
    | some m =>
      rw [e] at hv
      cases hv
      have il := (List.getElem?_eq_some_iff.mp e).1
      have nx : g0F tbl.length (mks.take (i + 1)) = g0F tbl.length (mks.take i) ++ [if m = true then 0 else tbl.length] := by
        unfold g0F
        rw [take_snoc e, List.map_append]
        rfl
      refine ⟨rfl, ⟨_, rfl, _, rfl, _, rfl, .inr ⟨_, rfl, _, _, rfl, rfl, .inl ⟨by omega, by omega⟩, _, _, rfl, rfl, _, hG, ?_, same_put sm hD, ?_⟩⟩⟩
      · rw [nV_len]
        unfold g0F
        rw [List.length_map, List.length_take]
        exact line_lt (by omega)
      · rw [nx, ← nV_snoc]
        cases m with
        | true => exact congrArg (fun z => nV _ ++ [V.int z]) (by show (tbl.length : Int) - (tbl.length : Int) * 1 = ((0 : Nat) : Int); omega)
        | false => exact congrArg (fun z => nV _ ++ [V.int z]) (by show (tbl.length : Int) - (tbl.length : Int) * 0 = (tbl.length : Int); omega)
  have hG1 : G1 d = some (.lst (nV (g0F tbl.length mks))) := by
    rw [List.length_map, List.take_length] at hG1
    exact hG1
  have getg : ∀ x v : Nat, (g0F tbl.length mks)[x]? = some v → ∃ b, mks[x]? = some b ∧ v = if b = true then 0 else tbl.length := fun x v h => by
    unfold g0F at h
    rw [List.getElem?_map] at h
    cases e : mks[x]? with
    | none => rw [e] at h; cases h
    | some b =>
      rw [e] at h
      cases h
      exact ⟨b, rfl, rfl⟩
  have lb0 : LB tbl (mkF mks) (g0F tbl.length mks) := ⟨by unfold g0F; rw [List.length_map]; exact hm, fun x v h => by
      obtain ⟨b, _, rfl⟩ := getg x v h
      split <;> omega, fun x v h lt => by
      obtain ⟨b, hb, rfl⟩ := getg x v h
      cases b with
      | true => exact mkF_get hb
      | false => exact absurd lt (Nat.lt_irrefl _)⟩
  have ub0 : UB tbl (mkF mks) 0 (g0F tbl.length mks) := fun x hx k hk hr => by
    have : k = 0 := by omega
    subst this
    obtain ⟨b, hb⟩ : ∃ b, mks[x]? = some b := ⟨mks[x]'(by omega), by simp⟩
    have e : b = true := (mkF_get hb).symm.trans hr
    subst e
    refine ⟨0, ?_, Nat.le_refl _⟩
    unfold g0F
    rw [List.getElem?_map, hb]
    rfl
  refine tforR (n := tbl.length) (fun R h => ⟨_, rfl, h⟩) (by omega) (fun i σ G => (∃ v4 v5 v6 v7, σ = [some (.ref a), some (.ref b), some (.int tbl.length), some (.ref d), v4, v5, v6, v7, none]) ∧ Same H G ∧ ∃ g, G d = some (.lst (nV g)) ∧ LB tbl (mkF mks) g ∧ UB tbl (mkF mks) i g)
    ⟨⟨_, _, _, _, rfl⟩, s1, _, hG1, lb0, ub0⟩ (fun i σ G hi hσ => ?_) (fun σ G hσ => ?_)
  · obtain ⟨⟨v4, v5, v6, v7, rfl⟩, sG, g0, hG, lb, ub⟩ := hσ
    dsimp only [tSeq, tIfS, tOr, tAnd, tNot, tB, tTest, tCB, tCons, tNil, tNext, tAsg, tRet, tDrop, tDo, gName]
    refine tforR (n := tbl.length) (fun R h => ⟨_, rfl, h⟩) (by omega) (fun p σ G => (∃ (ch : Bool) (v6 v7 : Option V), σ = [some (.ref a), some (.ref b), some (.int tbl.length), some (.ref d), some (.int i), some (.bl ch), v6, v7, none] ∧ Same H G ∧ ∃ g, G d = some (.lst (nV g)) ∧ Rnd tbl (mkF mks) g0 p 0 g ch))
      ⟨false, _, _, rfl, sG, g0, hG, Rnd.start lb⟩ (fun p σ G hp hσ => ?_) (fun σ G hσ => ?_)
    · obtain ⟨ch, v6, v7, rfl, sG, g, hG, rn⟩ := hσ
      obtain ⟨row, hrow⟩ : ∃ row, tbl[p]? = some row := ⟨tbl[p], by simp [hp]⟩
      obtain ⟨q, hq1, hq2⟩ := pr_ix (R := rRow K) (G := H) t2 hrow
      have rl := ok.row p row hrow
      refine ⟨_, rfl, _, rfl, a, _, _, _, rfl, rfl, sG.seq t1, atI_n rfl hq1, q, rfl, ⟨_, sG.seq hq2⟩, ?_⟩
      refine for_list (xs := nV row) (fun c σ G => (∃ (ch : Bool) (v7 : Option V), σ = [some (.ref a), some (.ref b), some (.int tbl.length), some (.ref d), some (.int i), some (.bl ch), some (.int p), v7, none] ∧ Same H G ∧ ∃ g, G d = some (.lst (nV g)) ∧ Rnd tbl (mkF mks) g0 p c g ch))
        ⟨ch, _, rfl, sG, g, hG, rn⟩ (fun c σ G _ z => ?_) (fun c v σ G hv hσ => ?_) (fun σ G hσ => ?_)
      · obtain ⟨_, _, _, s, _⟩ := z
        exact s.seq hq2
      · obtain ⟨ch, v7, rfl, sG, g, hG, rn⟩ := hσ
        obtain ⟨y, rfl, hy⟩ := nV_get hv
        have go : tGo tbl p c = some y := by
          unfold tGo
          rw [hrow]
          exact hy
        have yl := ok.rng _ _ _ go
        obtain ⟨vy, hvy⟩ : ∃ vy, g[y]? = some vy := ⟨g[y]'(by rw [rn.lb.len]; exact yl), by simp⟩
        obtain ⟨vp, hvp⟩ : ∃ vp, g[p]? = some vp := ⟨g[p]'(by rw [rn.lb.len]; exact hp), by simp⟩
        refine ⟨_, rfl, _, rfl, d, _, _, _, rfl, rfl, SqL.of hG, atI_n rfl (nV_at hvy), _, _, rfl, rfl, _, rfl, _, rfl, d, _, _, _, rfl, rfl, SqL.of hG, atI_n rfl (nV_at hvp), _, _, rfl, rfl, _, rfl, iteB (fun c1 => ?_) fun c1 => ?_⟩
        · have lt : vy + 1 < vp := by have := of_decide_eq_true c1; omega
          refine ⟨_, rfl, _, rfl, d, _, _, _, rfl, rfl, SqL.of hG, atI_n rfl (nV_at hvy), _, _, rfl, rfl, _, rfl, _, rfl, d, _, _, p, rfl, rfl, hG, ixN_nat (by rw [nV_len, rn.lb.len]; exact hp), ⟨true, _, rfl, same_put sG hd, _, ?_, rn.put go hvp hvy lt⟩⟩
          rw [upd_same]
          unfold nV
          rw [List.map_set, Int.natCast_add]
          rfl
        · have le : vp ≤ vy + 1 := by have := of_decide_eq_false c1; omega
          exact ⟨ch, _, rfl, sG, g, hG, rn.skip go hvp hvy le⟩
      · obtain ⟨ch, v7, rfl, sG, g, hG, rn⟩ := hσ
        rw [nV_len, rl] at rn
        exact ⟨ch, _, _, rfl, sG, g, hG, rn.place ok⟩
    · obtain ⟨ch, v6, v7, rfl, sG, g, hG, rn⟩ := hσ
      obtain ⟨l1, u1, f1⟩ := rn.done ok lb ub
      refine ⟨_, rfl, _, rfl, iteB (fun c => ?_) fun c => ?_⟩
      · cases ch with
        | true => cases c
        | false => exact ⟨_, rfl, hQ d G g sG hd hG (f1 rfl)⟩
      · exact ⟨⟨_, _, _, _, rfl⟩, sG, g, hG, l1, u1⟩
  · obtain ⟨⟨v4, v5, v6, v7, rfl⟩, sG, g, hG, lb, ub⟩ := hσ
    exact ⟨_, rfl, hQ d G g sG hd hG (full_of ok lb ub)⟩
end
end K23
/-! K23Lj -/
set_option Elab.async false
set_option linter.all false
set_option maxRecDepth 100000
set_option maxHeartbeats 4000000
namespace K23
open PySem PySem.Spec PyProof.Rows L2
section
variable {P : Program} {w : World} {K : PySem.W.Frag} {mg : Str → Option Value} {base : Heap}
def plc (tbl : List (List Nat)) (s : Nat) (wd : List Nat) : Nat := wd.foldl (fun t l => (tGo tbl t l).getD 0) s
theorem plc_snoc (tbl : List (List Nat)) (s : Nat) (wd : List Nat) (l : Nat) : plc tbl s (wd ++ [l]) = (tGo tbl (plc tbl s wd) l).getD 0 := by
  unfold plc
  rw [List.foldl_append]
  rfl
theorem rgV_nV (n : Nat) : rgV 0 (n : Int) = nV (List.range n) := by
  unfold rgV nV
  rw [Int.sub_zero, Int.toNat_natCast]
  refine List.map_congr_left fun x _ => ?_
  rw [Int.zero_add]
theorem cutV_take (xs : List V) (n : Nat) (h : n ≤ xs.length) : cutV xs none (some (n : Int)) = xs.take n := by
  unfold cutV
  rw [HT.sIx_none, HT.sIx_nat, List.drop_zero, Nat.sub_zero, Nat.min_eq_left h]
def LstL (tbl : List (List Nat)) (g : List Nat) (S L : Nat) (p : List Nat) (d c : Nat) : Prop := c < L ∧ (∃ s, s < S ∧ g[plc tbl s (p ++ [c])]? = some d) ∧ ∀ l, l < c → ∀ s, s < S → g[plc tbl s (p ++ [l])]? ≠ some d
inductive PilL (tbl : List (List Nat)) (g : List Nat) (S L h : Nat) : Nat → List Nat → Prop
  | zero : PilL tbl g S L h 0 []
  | succ {i : Nat} {p : List Nat} {c : Nat} : PilL tbl g S L h i p → LstL tbl g S L p (h - 1 - i) c → PilL tbl g S L h (i + 1) (p ++ [c])
def LastL (tbl : List (List Nat)) (mk : Nat → Bool) (S : Nat) (p : List Nat) (r : Option (Nat × List Nat)) : Prop := (∃ s, s < S ∧ mk (plc tbl s p) = true ∧ (∀ s', s' < s → mk (plc tbl s' p) = false) ∧ r = some (s, p)) ∨ ((∀ s, s < S → mk (plc tbl s p) = false) ∧ r = none)
def LeastOf (tbl : List (List Nat)) (mk : Nat → Bool) (S L : Nat) (r : Option (Nat × List Nat)) : Prop := ∃ g, LFull tbl mk g ∧ (((∀ s, s < S → g[s]? = some tbl.length) ∧ r = none) ∨ ∃ h p, h < tbl.length ∧ (∃ s, s < S ∧ g[s]? = some h) ∧ (∀ s v, s < S → g[s]? = some v → h ≤ v) ∧ PilL tbl g S L h h p ∧ LastL tbl mk S p r)
def sp_L_least (P : Program) (w : World) (K : PySem.W.Frag) : SpN := fun vs H Q => ∃ (a b : Addr) (tbl : List (List Nat)) (mks : List Bool) (S L : Nat), vs = [.ref a, .ref b, .int (S : Nat), .int (L : Nat)] ∧ TblAt K H a tbl ∧ SqL K H b (mks.map V.bl) ∧ mks.length = tbl.length ∧ TblOk tbl L ∧ tbl.length ≤ 1000 ∧ 1 ≤ S ∧ S ≤ tbl.length ∧ L ≤ 2 ∧
  ∀ v H' r, Same H H' → OptAt K H' v r → LeastOf tbl (mkF mks) S L r → Q v H'
theorem len_L_least : ∀ vs H Q, sp_L_least P w K vs H Q → vs.length = 4 := fun _ _ _ ⟨_, _, _, _, _, _, e, _⟩ => by subst e; rfl
def nows (tbl : List (List Nat)) (S : Nat) (p : List Nat) : List Nat := (List.range S).map fun s => plc tbl s p
theorem nows_get {tbl : List (List Nat)} {S s : Nat} {p : List Nat} (h : s < S) : (nows tbl S p)[s]? = some (plc tbl s p) := by
  unfold nows
  rw [List.getElem?_map, List.getElem?_range h]
  rfl
theorem nows_len (tbl : List (List Nat)) (S : Nat) (p : List Nat) : (nows tbl S p).length = S := by unfold nows; rw [List.length_map, List.length_range]
theorem PilL.len {tbl : List (List Nat)} {g : List Nat} {S L h i : Nat} {p : List Nat} (r : PilL tbl g S L h i p) : p.length = i ∧ ∀ l ∈ p, l < L := by
  induction r with
  | zero => exact ⟨rfl, fun l h => nomatch h⟩
  | succ _ c ih => exact ⟨by rw [List.length_append, ih.1]; rfl, fun l hl => (List.mem_append.mp hl).elim (ih.2 l) fun z => by rw [List.mem_singleton.mp z]; exact c.1⟩
theorem tgo_of {tbl : List (List Nat)} {L t l : Nat} (ok : TblOk tbl L) (ht : t < tbl.length) (hl : l < L) : ∃ row y, tbl[t]? = some row ∧ row[l]? = some y ∧ tGo tbl t l = some y ∧ y < tbl.length := by
  obtain ⟨row, hr⟩ : ∃ row, tbl[t]? = some row := ⟨tbl[t], by simp [ht]⟩
  have rl := ok.row t row hr
  obtain ⟨y, hy⟩ : ∃ y, row[l]? = some y := ⟨row[l]'(by omega), by simp⟩
  have go : tGo tbl t l = some y := by
    unfold tGo
    rw [hr]
    exact hy
  exact ⟨row, y, hr, hy, go, ok.rng _ _ _ go⟩
theorem plc_lt {tbl : List (List Nat)} {L : Nat} (ok : TblOk tbl L) : ∀ (wd : List Nat) {s : Nat}, s < tbl.length → (∀ l ∈ wd, l < L) → plc tbl s wd < tbl.length
  | [], s, h, _ => h
  | l :: wd, s, h, hl => by
    obtain ⟨row, y, _, _, go, yl⟩ := tgo_of ok h (hl l List.mem_cons_self)
    show plc tbl ((tGo tbl s l).getD 0) wd < _
    rw [go]
    exact plc_lt ok wd yl fun x hx => hl x (List.mem_cons_of_mem _ hx)
theorem sc_L_least : FnScope ["_law_goals", "_law_marks", "_law_states", "_law_letters", "_law_found", "_law_height", "_law_now", "_law_pile", "_law_k", "_law_choice", "_law_letter", "_law_place", "_law_state"] ["_law_goals", "_law_marks", "_law_states", "_law_letters"] (defScope s_L_least) := ⟨rfl, rfl, rfl, by decide +kernel, rfl, by decide +kernel, by decide +kernel⟩
/- slots: 0 _law_goals, 1 _law_marks, 2 _law_states, 3 _law_letters, 4 _law_found, 5 _law_height, 6 _law_now, 7 _law_pile, 8 _law_k, 9 _law_choice, 10 _law_letter, 11 _law_place, 12 _law_state -/
theorem ok_L_least (T : Tb K mg) (c_L_distances : Cal P w K mg base (He.ga K "_law_distances") 1 ["_law_goals", "_law_marks"] (sp_L_distances P w K)) : Cal P w K mg base (He.ga K "_law_least") 2 ["_law_goals", "_law_marks", "_law_states", "_law_letters"] (sp_L_least P w K) := by
  obtain ⟨fd, F⟩ := T.dfs 36 d_L_least rfl
  refine cal_of (N := ["_law_goals", "_law_marks", "_law_states", "_law_letters", "_law_found", "_law_height", "_law_now", "_law_pile", "_law_k", "_law_choice", "_law_letter", "_law_place", "_law_state"]) F sc_L_least (F.bindsN fun _ _ _ _ _ _ us hl => match us, hl with | [_, _, _, _], _ => rfl) (len_L_least) fun cdv A outer s H vs Q E hr h => ?_
  refine ⟨(tSeq (tAsg (tDo (sp_L_distances P w K) (tCons (tVar 0) (tCons (tVar 1) tNil))) (gName 4)) (tSeq (tAsg (tCB (rMin K) (tCons (tSl (rSlL K) (tVar 4) tNoPart (tPart (tVar 2))) tNil)) (gName 5)) (tSeq (tIfS (tTest (tOp rGe (tVar 5) (tCB (rLen2 K) (tCons (tVar 0) tNil)))) (tRet (tC .non)) tNext) (tSeq (tAsg (tLstRg (tRg1 (tVar 2))) (gName 6)) (tSeq (tAsg (tTup tNil) (gName 7)) (tSeq (tFor (iRng1 (tCons (tVar 5) tNil)) (gName 8) (tSeq (tAsg (tVar 3) (gName 9)) (tSeq (tFor (iRng1 (tCons (tVar 3) tNil)) (gName 10) (tFor (iList K (tVar 6)) (gName 11) (tIfS (tAnd (tTest (tOp rLt (tVar 10) (tVar 9))) (tTest (tOp rEqI (tOp (rIxL K) (tVar 4) (tOp (rIxL K) (tOp (rIxL K) (tVar 0) (tVar 11)) (tVar 10))) (tOp rMi (tOp rMi (tVar 5) (tC (.int 1))) (tVar 8))))) (tAsg (tVar 10) (gName 9)) tNext))) (tSeq (tAsg (tLc (iList K (tVar 6)) (gName 11) tYes (tOp (rIxL K) (tOp (rIxL K) (tVar 0) (tVar 11)) (tVar 9)) [11]) (gName 6)) (tAsg (tOp (rCatA K) (tVar 7) (tTup (tCons (tVar 9) tNil))) (gName 7)))))) (tSeq (tFor (iRng1 (tCons (tVar 2) tNil)) (gName 12) (tIfS (tB (tOp (rIxL K) (tVar 1) (tOp (rIxL K) (tVar 6) (tVar 12)))) (tRet (tTup (tCons (tVar 12) (tCons (tVar 7) tNil)))) tNext)) (tRet (tC .non))))))))), (pss_cons (ps_set (i := 4) sc_L_least.nd rfl (by first | exact Or.inl rfl | exact Or.inr rfl) (pcal c_L_distances (hr.mono (by decide)) (T.glo 30 "_law_distances" rfl) (pa_cons (pv 0) (pa_cons (pv 1) pa_nil)))) (pss_cons (ps_set (i := 5) sc_L_least.nd rfl (by first | exact Or.inl rfl | exact Or.inr rfl) (pe_callB (cr_min rfl) (by rfl) (T.fre 11 "min" rfl) kb_min (pa_cons (pe_slice sl_list (pv 4) po_none (po_some (pv 2))) pa_nil))) (pss_cons (ps_if (pt_cmpR op_ge (pv 5) (pe_callB call_len2 (by rfl) (T.fre 0 "len" rfl) kb_len (pa_cons (pv 0) pa_nil)) (nomark _)) (pss_one (ps_ret pe_non)) pss_nil) (pss_cons (ps_set (i := 6) sc_L_least.nd rfl (by first | exact Or.inl rfl | exact Or.inr rfl) (pe_listRg rfl (by rfl) (T.fre 5 "list" rfl) (prg_1 (by rfl) (T.fre 1 "range" rfl) (pv 2)))) (pss_cons (ps_set (i := 7) sc_L_least.nd rfl (by first | exact Or.inl rfl | exact Or.inr rfl) (pe_tup pa_nil)) (pss_cons (ps_for PassesOwn.never rfl (pi_range1 (by rfl) (T.fre 1 "range" rfl) (pa_cons (pv 5) pa_nil)) (pg_name (i := 8) sc_L_least.nd rfl (by first | exact Or.inl rfl | exact Or.inr rfl)) (pss_cons (ps_set (i := 9) sc_L_least.nd rfl (by first | exact Or.inl rfl | exact Or.inr rfl) (pv 3)) (pss_cons (ps_for PassesOwn.never rfl (pi_range1 (by rfl) (T.fre 1 "range" rfl) (pa_cons (pv 3) pa_nil)) (pg_name (i := 10) sc_L_least.nd rfl (by first | exact Or.inl rfl | exact Or.inr rfl)) (pss_one (ps_for PassesOwn.never rfl (pi_list (pv 6)) (pg_name (i := 11) sc_L_least.nd rfl (by first | exact Or.inl rfl | exact Or.inr rfl)) (pss_one (ps_if ((pw_and (pt_cmpR op_lt (pv 10) (pv 9) (nomark _)) (pw_and1 (pt_cmpR op_eqI (pe_ix ix_list (pv 4) (pe_ix ix_list (pe_ix ix_list (pv 0) (pv 11) (fun _ _ => rfl)) (pv 10) (fun _ _ => rfl)) (fun _ _ => rfl)) (pe_op op_sub (pe_op op_sub (pv 5) pe_int) (pv 8)) (nomark _))))).pt (pss_one (ps_set (i := 9) sc_L_least.nd rfl (by first | exact Or.inl rfl | exact Or.inr rfl) (pv 10))) pss_nil))))) (pss_cons (ps_setLc (i := 6) (own := [("_law_place", 11)]) (g := (gName 11)) (tt := tYes) (te := (tOp (rIxL K) (tOp (rIxL K) (tVar 0) (tVar 11)) (tVar 9))) rfl sc_L_least.nd rfl rfl (sw_true rfl rfl rfl (by decide +kernel)) (pi_list (pv 6)) (blkOk_by (N := ["_law_goals", "_law_marks", "_law_states", "_law_letters", "_law_found", "_law_height", "_law_now", "_law_pile", "_law_k", "_law_choice", "_law_letter", "_law_place", "_law_state"]) (sc := defScope s_L_least) (by decide +kernel)) (fun _ _ _ _ _ => (pg_name (i := 11) sc_L_least.nd rfl (by first | exact Or.inl rfl | exact Or.inr rfl))) (fun _ _ _ _ _ => pts_nil) (fun _ _ _ _ _ => (pe_ix ix_list (pe_ix ix_list (pv 0) (pv 11) (fun _ _ => rfl)) (pv 9) (fun _ _ => rfl)))) (pss_one (ps_set (i := 7) sc_L_least.nd rfl (by first | exact Or.inl rfl | exact Or.inr rfl) (pe_op op_catA (pv 7) (pe_tup (pa_cons (pv 9) pa_nil))))))))) (pss_cons (ps_for PassesOwn.never rfl (pi_range1 (by rfl) (T.fre 1 "range" rfl) (pa_cons (pv 2) pa_nil)) (pg_name (i := 12) sc_L_least.nd rfl (by first | exact Or.inl rfl | exact Or.inr rfl)) (pss_one (ps_if (pt_val (pe_ix ix_list (pv 1) (pe_ix ix_list (pv 6) (pv 12) (fun _ _ => rfl)) (fun _ _ => rfl)) (by intro _; rfl)) (pss_one (ps_ret (pe_tup (pa_cons (pv 12) (pa_cons (pv 7) pa_nil))))) pss_nil))) (pss_one (ps_ret pe_non))))))))), ?_⟩
  obtain ⟨a, b, tbl, mks, S, L, rfl, hT, hB, hm, ok, ln, S1, S2, L2_, hQ⟩ := h
  obtain ⟨qs, t1, t2⟩ := id hT
  have ql : (qs.map V.ref).length = tbl.length := by rw [List.length_map]; exact Paired.length t2
  refine ⟨_, rfl, _, rfl, a, b, tbl, mks, L, rfl, hT, hB, hm, ok, ln, fun d H1 g s1 hd hd1 lf => ?_⟩
  have gl : g.length = tbl.length := lf.1
  refine ⟨_, rfl, _, rfl, _, rfl, d, _, rfl, SqL.of hd1, fun p hp => ?_⟩
  have sp := same_new (o := .lst (cutV (nV g) none (some (S : Int)))) hp
  have et : cutV (nV g) none (some (S : Int)) = nV (g.take S) := by
    rw [cutV_take _ _ (by rw [nV_len]; omega)]
    unfold nV
    rw [List.map_take]
  have tl : (g.take S).length = S := by rw [List.length_take]; omega
  refine ⟨p, nI (g.take S), rfl, SqL.of (by rw [upd_same, ← nV_I, et]), by rw [nI_len, tl]; omega, fun m hm1 hmin => ?_⟩
  obtain ⟨h, hh, rfl⟩ := List.mem_map.mp hm1
  have hmin' : ∀ s v, s < S → g[s]? = some v → h ≤ v := fun s v hs hv => Int.ofNat_le.mp (hmin _ (mem_nI.mpr (List.mem_iff_getElem?.mpr ⟨s, by rw [List.getElem?_take_of_lt hs]; exact hv⟩)))
  obtain ⟨s00, hs00, hg00⟩ : ∃ s, s < S ∧ g[s]? = some h := by
    obtain ⟨s, hs⟩ := List.mem_iff_getElem?.mp hh
    have := (List.getElem?_eq_some_iff.mp hs).1
    rw [tl] at this
    rw [List.getElem?_take_of_lt this] at hs
    exact ⟨s, this, hs⟩
  have sH := s1.trans sp
  refine ⟨_, rfl, _, rfl, a, _, rfl, .inl (sH.seq t1), _, _, rfl, rfl, _, rfl, iteB (fun c => ?_) fun c => ?_⟩
  · have ge : tbl.length ≤ h := by
      rw [ql] at c
      exact Int.ofNat_le.mp (of_decide_eq_true c)
    refine hQ .non _ none sH rfl ⟨g, lf, .inl ⟨fun s hs => ?_, rfl⟩⟩
    obtain ⟨v, hv, q⟩ := lf.2 s (by omega)
    have := hmin' s v hs hv
    rw [hv]
    rcases q with ⟨q, _⟩ | ⟨q, _⟩
    · omega
    · rw [q]
  have hl : h < tbl.length := by
    rw [ql] at c
    have := of_decide_eq_false c
    omega
  refine ⟨_, rfl, (S : Int), rfl, ⟨by omega, by omega, by omega, by omega, by omega⟩, fun nw hnw => ?_⟩
  have s2 := sH.trans (same_new (o := .lst (rgV 0 (S : Int))) hnw)
  refine ⟨Nat.zero_le _, fun dp hdp => ?_⟩
  have s3 := s2.trans (same_new (o := .tup []) hdp)
  have hdG : ∀ {G : Hp}, Same H1 G → G d = some (.lst (nV g)) := fun s => s _ _ hd1
  have goal : ∀ (G : Hp), Same H G → ∀ x l y, tGo tbl x l = some y → ∃ q row, atI (qs.map V.ref) (x : Nat) = some (.ref q) ∧ SqL K G q (nV row) ∧ atI (nV row) (l : Nat) = some (.int (y : Nat)) := fun G s x l y e => by
    unfold tGo at e
    cases e2 : tbl[x]? with
    | none => rw [e2] at e; cases e
    | some row =>
      rw [e2] at e
      obtain ⟨q, hq1, hq2⟩ := pr_ix (R := rRow K) (G := H) t2 e2
      exact ⟨q, row, atI_n rfl hq1, s.seq hq2, atI_n rfl (nV_at e)⟩
  have s01 : ∀ {G : Hp}, Same H1 G → Same H G := fun s => s1.trans s
  have s13 : Same H1 (upd (upd (upd H1 p (.lst (cutV (nV g) none (some (S : Int))))) nw (.lst (rgV 0 (S : Int)))) dp (.tup [])) := (sp.trans (same_new hnw)).trans (same_new hdp)
  have npd := ne_of_none (H := upd (upd H1 p (.lst (cutV (nV g) none (some (S : Int))))) nw (.lst (rgV 0 (S : Int)))) upd_same hdp
  dsimp only [tSeq, tIfS, tOr, tAnd, tNot, tB, tTest, tCB, tCons, tNil, tNext, tAsg, tRet, tDrop, tDo, gName]
  refine tforR (n := h) (fun R q => ⟨_, rfl, q⟩) (by omega) (fun i σ G => (∃ (nw dp : Addr) (v8 v9 v10 v11 : Option V) (p : List Nat), σ = [some (.ref a), some (.ref b), some (.int S), some (.int L), some (.ref d), some (.int h), some (.ref nw), some (.ref dp), v8, v9, v10, v11, none] ∧ G nw = some (.lst (nV (nows tbl S p))) ∧ SqT K G dp (nV p) ∧ PilL tbl g S L h i p ∧ ∃ s, s < S ∧ g[plc tbl s p]? = some (h - i)) ∧ Same H1 G)
    ⟨⟨nw, dp, _, _, _, _, [], rfl, ?_, SqT.of upd_same, .zero, s00, hs00, hg00⟩, s13⟩ (fun i σ G hi hσ => ?_) (fun σ G hσ => ?_)
  · rw [upd_ne npd, upd_same, rgV_nV]
    unfold nows
    rw [show (fun s => plc tbl s []) = id from rfl, List.map_id]
  · obtain ⟨⟨nw, dp, v8, v9, v10, v11, p, rfl, hN, hP, pr, s0, hs0, hg0⟩, sG⟩ := hσ
    obtain ⟨plen, pL⟩ := pr.len
    have xl : ∀ s, s < S → plc tbl s p < tbl.length := fun s hs => plc_lt ok p (by omega) pL
    have nxt : ∀ s l, s < S → l < L → ∃ y, tGo tbl (plc tbl s p) l = some y ∧ y < tbl.length ∧ plc tbl s (p ++ [l]) = y := fun s l hs hl => by
      obtain ⟨_, y, _, _, go, yl⟩ := tgo_of ok (xl s hs) hl
      exact ⟨y, go, yl, by rw [plc_snoc, go]; rfl⟩
    have gat : ∀ y, y < tbl.length → ∃ v, g[y]? = some v := fun y hy => ⟨g[y]'(by omega), by simp⟩
    have d0 : ((h : Int) - 1 - (i : Int)) = ((h - 1 - i : Nat) : Int) := by omega
    -- the letter that there is
    have some_ : ∃ l s, l < L ∧ s < S ∧ g[plc tbl s (p ++ [l])]? = some (h - 1 - i) := by
      obtain ⟨v, hv, q⟩ := lf.2 _ (xl s0 hs0)
      rw [hg0] at hv
      cases hv
      rcases q with ⟨_, q⟩ | ⟨q, _⟩
      · have e : h - i = (h - 1 - i) + 1 := by omega
        rw [e] at q
        obtain ⟨l, y, go, dy⟩ := tkD_step q
        have hlL : l < L := by
          unfold tGo at go
          cases e2 : tbl[plc tbl s0 p]? with
          | none => rw [e2] at go; cases go
          | some row =>
            rw [e2] at go
            have := (List.getElem?_eq_some_iff.mp (show row[l]? = some y from go)).1
            rw [ok.row _ row e2] at this
            exact this
        obtain ⟨v, hv, q⟩ := lf.2 y (ok.rng _ _ _ go)
        refine ⟨l, s0, hlL, hs0, ?_⟩
        rw [plc_snoc, go]
        show g[y]? = _
        rw [hv]
        rcases q with ⟨_, q⟩ | ⟨_, q⟩
        · rw [tkD_uniq q dy]
        · exact absurd dy.1 (q _)
      · omega
    refine ⟨_, rfl, ?_⟩
    dsimp only [tSeq, tIfS, tOr, tAnd, tNot, tB, tTest, tCB, tCons, tNil, tNext, tAsg, tRet, tDrop, tDo, gName]
    refine tforR (n := L) (fun R q => ⟨_, rfl, q⟩) (by omega) (fun l σ G' => (∃ (ch : Nat) (v10 v11 : Option V), σ = [some (.ref a), some (.ref b), some (.int S), some (.int L), some (.ref d), some (.int h), some (.ref nw), some (.ref dp), some (.int i), some (.int (ch : Nat)), v10, v11, none] ∧
        ((ch = L ∧ ∀ l', l' < l → ∀ s, s < S → g[plc tbl s (p ++ [l'])]? ≠ some (h - 1 - i)) ∨ (ch < l ∧ LstL tbl g S L p (h - 1 - i) ch))) ∧ G = G')
      ⟨⟨L, _, _, rfl, .inl ⟨rfl, fun l' hl' => absurd hl' (Nat.not_lt_zero _)⟩⟩, rfl⟩ (fun l σ G' hl hσ => ?_) (fun σ G' hσ => ?_)
    · obtain ⟨⟨ch, v10, v11, rfl, hch⟩, rfl⟩ := hσ
      dsimp only [tSeq, tIfS, tOr, tAnd, tNot, tB, tTest, tCB, tCons, tNil, tNext, tAsg, tRet, tDrop, tDo, gName]
      refine tforL (xs := nV (nows tbl S p)) (fun R q => ⟨_, rfl, q⟩) (fun j σ G' => (∃ (ch : Nat) (v11 : Option V), σ = [some (.ref a), some (.ref b), some (.int S), some (.int L), some (.ref d), some (.int h), some (.ref nw), some (.ref dp), some (.int i), some (.int (ch : Nat)), some (.int l), v11, none] ∧
          ((ch = L ∧ (∀ l', l' < l → ∀ s, s < S → g[plc tbl s (p ++ [l'])]? ≠ some (h - 1 - i)) ∧ ∀ s, s < j → g[plc tbl s (p ++ [l])]? ≠ some (h - 1 - i)) ∨ (ch < l + 1 ∧ LstL tbl g S L p (h - 1 - i) ch))) ∧ G = G')
        (SqL.of hN) ⟨⟨ch, _, rfl, hch.elim (fun z => .inl ⟨z.1, z.2, fun s hs => absurd hs (Nat.not_lt_zero _)⟩) fun z => .inr ⟨by omega, z.2⟩⟩, rfl⟩ (fun j σ G' z => by rw [← z.2]; exact SqL.of hN) (fun j v σ G' hv hσ => ?_) (fun σ G' hσ => ?_)
      · obtain ⟨⟨ch, v11, rfl, hch⟩, rfl⟩ := hσ
        obtain ⟨x, rfl, hx⟩ := nV_get hv
        have js : j < S := by
          have := (List.getElem?_eq_some_iff.mp hx).1
          rw [nows_len] at this
          exact this
        rw [nows_get js] at hx
        cases hx
        refine ⟨_, rfl, _, rfl, _, _, rfl, rfl, _, rfl, iteB (fun c => ?_) fun c => ?_⟩
        · have lc : l < ch := Int.ofNat_lt.mp (of_decide_eq_true c)
          have hchL : ch = L ∧ (∀ l', l' < l → ∀ s, s < S → g[plc tbl s (p ++ [l'])]? ≠ some (h - 1 - i)) ∧ ∀ s, s < j → g[plc tbl s (p ++ [l])]? ≠ some (h - 1 - i) := hch.elim id fun z => absurd z.1 (by omega)
          obtain ⟨y, go, yl, ey⟩ := nxt j l js hl
          obtain ⟨w1, hw1⟩ := gat y yl
          obtain ⟨q, row, g1, g2, g3⟩ := goal G (s01 sG) _ _ _ go
          refine ⟨_, rfl, _, rfl, _, rfl, a, _, _, _, rfl, rfl, (s01 sG).seq t1, g1, _, rfl, q, _, _, _, rfl, rfl, g2, g3, d, _, _, _, rfl, rfl, SqL.of (hdG sG), atI_n rfl (nV_at hw1), _, rfl, _, _, rfl, rfl, _, rfl, _, _, rfl, rfl, _, _, rfl, rfl, _, rfl, iteB (fun c2 => ?_) fun c2 => ?_⟩
          · have ev : w1 = h - 1 - i := by have := of_decide_eq_true c2; omega
            subst ev
            exact ⟨_, rfl, ⟨l, _, rfl, .inr ⟨Nat.lt_succ_self _, hl, ⟨j, js, by rw [ey]; exact hw1⟩, hchL.2.1⟩⟩, rfl⟩
          · have nv : w1 ≠ h - 1 - i := fun z => of_decide_eq_false c2 (by rw [z]; omega)
            refine ⟨⟨ch, _, rfl, .inl ⟨hchL.1, hchL.2.1, fun s hs => ?_⟩⟩, rfl⟩
            rcases Nat.lt_or_ge s j with lt | ge
            · exact hchL.2.2 s lt
            · have : s = j := by omega
              subst this
              rw [ey, hw1]
              exact fun z => nv (Option.some.inj z)
        · have nlc : ¬ l < ch := fun z => of_decide_eq_false c (Int.ofNat_lt.mpr z)
          exact ⟨⟨ch, _, rfl, hch.elim (fun z => absurd (show l < ch by rw [z.1]; exact hl) nlc) .inr⟩, rfl⟩
      · obtain ⟨⟨ch, v11, rfl, hch⟩, rfl⟩ := hσ
        rw [nV_len, nows_len] at hch
        refine ⟨⟨ch, _, _, rfl, hch.elim (fun z => .inl ⟨z.1, fun l' hl' s hs => ?_⟩) .inr⟩, rfl⟩
        rcases Nat.lt_or_ge l' l with lt | ge
        · exact z.2.1 l' lt s hs
        · have : l' = l := by omega
          subst this
          exact z.2.2 s hs
    · obtain ⟨⟨ch, v10, v11, rfl, hch⟩, rfl⟩ := hσ
      have lst : LstL tbl g S L p (h - 1 - i) ch := hch.elim (fun z => by
        obtain ⟨l, s, h1, h2, h3⟩ := some_
        exact absurd h3 (z.2 l h1 s h2)) fun z => z.2
      dsimp only [tSeq, tIfS, tOr, tAnd, tNot, tB, tTest, tCB, tCons, tNil, tNext, tAsg, tRet, tDrop, tDo, gName]
      refine tlcL (fun R q => ⟨_, rfl, q⟩) (SqL.of hN) (fun j => nV ((nows tbl S (p ++ [ch])).take j)) rfl (fun D hD j v G2 hv sm hG2 => ?_) fun D hD G2 s2 hG2 => ?_
      · obtain ⟨x, rfl, hx⟩ := nV_get hv
        have js : j < S := by
          have := (List.getElem?_eq_some_iff.mp hx).1
          rw [nows_len] at this
          exact this
        rw [nows_get js] at hx
        cases hx
        obtain ⟨y, go, yl, ey⟩ := nxt j ch js lst.1
        obtain ⟨q, row, g1, g2, g3⟩ := goal G2 (s01 (sG.trans sm)) _ _ _ go
        refine ⟨rfl, ⟨_, rfl, _, rfl, a, _, _, _, rfl, rfl, (s01 (sG.trans sm)).seq t1, g1, _, rfl, q, _, _, _, rfl, rfl, g2, g3, _, hG2, ?_, same_put sm hD, ?_⟩⟩
        · rw [nV_len, List.length_take, nows_len]
          exact line_lt (by omega)
        · rw [take_snoc (nows_get js), ← nV_snoc, ey]
      · have tk : (nows tbl S (p ++ [ch])).take S = nows tbl S (p ++ [ch]) := List.take_of_length_le (by rw [nows_len]; exact Nat.le_refl _)
        rw [nV_len, nows_len, tk] at hG2
        refine ⟨_, rfl, _, rfl, (sz1000 (n := 1) (by decide) : 1 ≤ sizeLine), fun t ht => ?_⟩
        have st := same_new (o := .tup [.int (ch : Nat)]) ht
        refine cat_any (xs := nV p) (ys := [.int (ch : Nat)]) (Same.tup (s2.trans st) hP) (SqT.of upd_same) (by rw [nV_len, plen]; show i + 1 ≤ sizeLine; rw [sizeLine_eq]; omega) fun np G8 s8 hnp => ?_
        obtain ⟨s', hs', hgs'⟩ := lst.2.1
        refine ⟨⟨D, np, _, _, _, _, p ++ [ch], rfl, s8 _ _ (st _ _ hG2), by rw [← nV_snoc]; exact hnp, .succ pr lst, s', hs', ?_⟩, sG.trans (s2.trans (st.trans s8))⟩
        rw [hgs', show h - 1 - i = h - (i + 1) by omega]
  · obtain ⟨⟨nw, dp, v8, v9, v10, v11, p, rfl, hN, hP, pr, s0, hs0, hg0⟩, sG⟩ := hσ
    obtain ⟨plen, pL⟩ := pr.len
    have xl : ∀ s, s < S → plc tbl s p < tbl.length := fun s hs => plc_lt ok p (by omega) pL
    dsimp only [tSeq, tIfS, tOr, tAnd, tNot, tB, tTest, tCB, tCons, tNil, tNext, tAsg, tRet, tDrop, tDo, gName]
    refine tforR (n := S) (fun R q => ⟨_, rfl, q⟩) (by omega) (fun i σ G' => (∃ v12, σ = [some (.ref a), some (.ref b), some (.int S), some (.int L), some (.ref d), some (.int h), some (.ref nw), some (.ref dp), v8, v9, v10, v11, v12]) ∧ G = G' ∧ ∀ s, s < i → mkF mks (plc tbl s p) = false) ⟨⟨_, rfl⟩, rfl, fun s hs => absurd hs (Nat.not_lt_zero _)⟩ (fun i σ G' hi hσ => ?_) (fun σ G' hσ => ?_)
    · obtain ⟨⟨v12, rfl⟩, rfl, no⟩ := hσ
      obtain ⟨bb, hb⟩ : ∃ bb, mks[plc tbl i p]? = some bb := ⟨mks[plc tbl i p]'(by have := xl i hi; omega), by simp⟩
      refine ⟨_, rfl, _, rfl, _, rfl, nw, _, _, _, rfl, rfl, SqL.of hN, atI_n rfl (nV_at (nows_get hi)), b, _, _, _, rfl, rfl, (s01 sG).seq hB, atI_n (n := plc tbl i p) rfl (by rw [List.getElem?_map, hb]; rfl), bb, rfl, iteB (fun c => ?_) fun c => ?_⟩
      · refine ⟨_, rfl, _, rfl, (sz1000 (n := 2) (by decide) : 2 ≤ sizeLine), fun t ht => ?_⟩
        have st := same_new (o := .tup [.int (i : Nat), .ref dp]) ht
        exact hQ _ _ (some (i, p)) (s01 (sG.trans st)) ⟨t, dp, rfl, SqT.of upd_same, Same.tup st hP⟩ ⟨g, lf, .inr ⟨h, p, hl, ⟨s00, hs00, hg00⟩, hmin', pr, .inl ⟨i, hi, by rw [mkF_get hb]; exact c, no, rfl⟩⟩⟩
      · refine ⟨⟨_, rfl⟩, rfl, fun s hs => ?_⟩
        rcases Nat.lt_or_ge s i with lt | ge
        · exact no s lt
        · have : s = i := by omega
          subst this
          rw [mkF_get hb]
          exact c
    · obtain ⟨⟨v12, rfl⟩, rfl, no⟩ := hσ
      exact hQ .non _ none (s01 sG) rfl ⟨g, lf, .inr ⟨h, p, hl, ⟨s00, hs00, hg00⟩, hmin', pr, .inr ⟨no, rfl⟩⟩⟩
end
end K23
/-! K23Pt -/
set_option Elab.async false
set_option linter.all false
set_option maxRecDepth 100000
set_option maxHeartbeats 4000000
/-! Points: three groups. -/
namespace K23
open PySem PySem.Spec PyProof.Rows L2
def pstep (Ns : Nat → Net) (p : List (List Nat)) (l : Nat) : List (List Nat) := [mvE (Ns 0).E (p.getD 0 []) l, mvE (Ns 1).E (p.getD 1 []) l, mvE (Ns 2).E (p.getD 2 []) l]
def p3 (s : Nat) : List (List Nat) := [[s], [s], [s]]
def rPt (K : PySem.W.Frag) : Hp → Addr → List (List Nat) → Prop := fun G q p => ∃ qs : List Addr, SqT K G q (qs.map V.ref) ∧ Paired (rGr K G) qs p
def kPt (p : List (List Nat)) : NestedKey := .tup (p.map kGr)
theorem kGr_inj {a b : List Nat} (h : kGr a = kGr b) : a = b := nI_inj (nkI_inj h)
theorem keys_pt {K : PySem.W.Frag} {G : Hp} : ∀ {qs : List Addr} {p : List (List Nat)}, Paired (rGr K G) qs p → KeyVs K G (p.map kGr) (qs.map V.ref)
  | _, _, .nil => .nil
  | _, _, .cons r t => .cons ((ko_gr K).key _ _ _ r) (keys_pt t)
theorem dep_pt : ∀ p : List (List Nat), NestedKey.depthAll (p.map kGr) ≤ 1
  | [] => Nat.zero_le _
  | g :: p => by
    show max (NestedKey.depth (kGr g)) (NestedKey.depthAll (p.map kGr)) ≤ 1
    have h1 : NestedKey.depth (kGr g) ≤ 1 := by
      show NestedKey.depthAll ((nI g).map .num) + 1 ≤ 1
      rw [depthAll_ints]
      exact Nat.le_refl _
    have := dep_pt p
    omega
theorem ko_pt (K : PySem.W.Frag) : KeyOk K (rPt K) kPt where
  stb := fun _ _ _ _ t ⟨qs, h1, h2⟩ => ⟨qs, t _ _ h1, Paired.imp (fun _ _ r => t _ _ r) h2⟩
  inj := fun a b h => by
    unfold kPt at h
    injection h with h
    induction a generalizing b with
    | nil =>
      cases b with
      | nil => rfl
      | cons y b => cases h
    | cons x a ih =>
      cases b with
      | nil => cases h
      | cons y b =>
        rw [List.map_cons, List.map_cons] at h
        injection h with h1 h2
        rw [kGr_inj h1, ih b h2]
  key := fun _ _ _ ⟨qs, h1, h2⟩ => .tup h1 (keys_pt h2)
  dep := fun p => by
    show NestedKey.depthAll (p.map kGr) + 1 ≤ 8
    have := dep_pt p
    omega
/-- the points and the rows that are known; T rows are done -/
structure Gr (Ns : Nat → Net) (S L : Nat) (R : List (List Nat) → Prop) (pts : List (List (List Nat))) (tbl : List (List Nat)) : Prop where
  nod : pts.Nodup
  pre : ∀ s, s < S → pts[s]? = some (p3 s)
  rch : ∀ p ∈ pts, R p
  len : tbl.length ≤ pts.length
  row : ∀ (t : Nat) (r : List Nat), tbl[t]? = some r → r.length = L
  go : ∀ t l z, tGo tbl t l = some z → ∃ p, pts[t]? = some p ∧ pts[z]? = some (pstep Ns p l)
/-- the row of the point p, as far as it goes -/
def RowOk (Ns : Nat → Net) (pts : List (List (List Nat))) (p : List (List Nat)) (row : List Nat) : Prop := ∀ l z, row[l]? = some z → pts[z]? = some (pstep Ns p l)
section
variable {Ns : Nat → Net} {S L : Nat} {R : List (List Nat) → Prop} {pts : List (List (List Nat))} {tbl : List (List Nat)} {p q : List (List Nat)} {row : List Nat}
theorem Gr.more (h : Gr Ns S L R pts tbl) (nm : q ∉ pts) (hR : R q) : Gr Ns S L R (pts ++ [q]) tbl :=
  ⟨nodup_snoc h.nod nm, fun s hs => snoc_get (h.pre s hs), fun x hx => (List.mem_append.mp hx).elim (h.rch x) fun z => by rw [List.mem_singleton.mp z]; exact hR, by rw [List.length_append]; have := h.len; omega, h.row, fun t l z e => let ⟨p, h1, h2⟩ := h.go t l z e; ⟨p, snoc_get h1, snoc_get h2⟩⟩
theorem RowOk.more (h : RowOk Ns pts p row) : RowOk Ns (pts ++ [q]) p row := fun l z e => snoc_get (h l z e)
theorem RowOk.snoc (h : RowOk Ns pts p row) {z : Nat} (hz : pts[z]? = some (pstep Ns p row.length)) : RowOk Ns pts p (row ++ [z]) := fun l y e => by
  rcases Nat.lt_or_ge l row.length with lt | ge
  · rw [List.getElem?_append_left lt] at e
    exact h l y e
  · have ll := (List.getElem?_eq_some_iff.mp e).1
    rw [List.length_append] at ll
    have : l = row.length := by
      have : l < row.length + 1 := ll
      omega
    subst this
    rw [snoc_last] at e
    cases e
    exact hz
theorem Gr.rowed (h : Gr Ns S L R pts tbl) (hp : pts[tbl.length]? = some p) (hr : RowOk Ns pts p row) (rl : row.length = L) : Gr Ns S L R pts (tbl ++ [row]) := by
  refine ⟨h.nod, h.pre, h.rch, ?_, fun t r e => ?_, fun t l z e => ?_⟩
  · rw [List.length_append]
    have := (List.getElem?_eq_some_iff.mp hp).1
    exact this
  · rcases Nat.lt_or_ge t tbl.length with lt | ge
    · rw [List.getElem?_append_left lt] at e
      exact h.row t r e
    · have ll := (List.getElem?_eq_some_iff.mp e).1
      rw [List.length_append] at ll
      have : t = tbl.length := by
        have : t < tbl.length + 1 := ll
        omega
      subst this
      rw [snoc_last] at e
      cases e
      exact rl
  · unfold tGo at e
    rcases Nat.lt_or_ge t tbl.length with lt | ge
    · rw [List.getElem?_append_left lt] at e
      exact h.go t l z e
    · cases e2 : (tbl ++ [row])[t]? with
      | none => rw [e2] at e; cases e
      | some r =>
        have ll := (List.getElem?_eq_some_iff.mp e2).1
        rw [List.length_append] at ll
        have : t = tbl.length := by
          have : t < tbl.length + 1 := ll
          omega
        subst this
        rw [e2] at e
        rw [snoc_last] at e2
        cases e2
        exact ⟨p, hp, hr l z e⟩
theorem Gr.ok (h : Gr Ns S L R pts tbl) (e : tbl.length = pts.length) : TblOk tbl L := ⟨h.row, fun t l y g => by
  obtain ⟨p, _, h2⟩ := h.go t l y g
  rw [e]
  exact (List.getElem?_eq_some_iff.mp h2).1⟩
end
end K23
/-! K23Lk -/
set_option Elab.async false
set_option linter.all false
set_option maxRecDepth 100000
set_option maxHeartbeats 4000000
namespace K23
open PySem PySem.Spec PyProof.Rows L2
section
variable {P : Program} {w : World} {K : PySem.W.Frag} {mg : Str → Option Value} {base : Heap}
/-- the three parts in a list -/
def PasAt (K : PySem.W.Frag) (H : Hp) (a : Addr) (Ns : Nat → Net) : Prop := ∃ q : Nat → Addr, SqL K H a [.ref (q 0), .ref (q 1), .ref (q 2)] ∧ ∀ i, i < 3 → PaAt K H (q i) (Ns i)
theorem PasAt.same {H H' : Hp} {a : Addr} {Ns : Nat → Net} (h : PasAt K H a Ns) (s : Same H H') : PasAt K H' a Ns := let ⟨q, h1, h2⟩ := h; ⟨q, s.seq h1, fun i hi => (h2 i hi).same s⟩
structure GCov (Ns : Nat → Net) (S L : Nat) (R : List (List Nat) → Prop) (cp : List (List (List Nat))) : Prop where
  r0 : ∀ s, s < S → R (p3 s)
  rs : ∀ p l, R p → l < L → R (pstep Ns p l)
  cpm : ∀ p, R p → p ∈ cp
  cpl : cp.length ≤ 1000
  r3 : ∀ p, R p → p.length = 3
def sp_L_graph (P : Program) (w : World) (K : PySem.W.Frag) : SpN := fun vs H Q => ∃ (a : Addr) (Ns : Nat → Net) (S L : Nat) (R : List (List Nat) → Prop) (cp : List (List (List Nat))), vs = [.ref a] ∧ PasAt K H a Ns ∧ (Ns 0).S = S ∧ (Ns 0).L = L ∧ S ≤ 1000 ∧ L ≤ 1000 ∧ (∀ i, i < 3 → (Ns i).E.length ≤ 1000) ∧ GCov Ns S L R cp ∧
  ∀ (r d1 d2 : Addr) (H' : Hp) pts tbl, Same H H' → SqL K H' r [.ref d1, .ref d2] → LM (rPt K) H' d1 pts → TblAt K H' d2 tbl → Gr Ns S L R pts tbl → tbl.length = pts.length → Q (.ref r) H'
theorem len_L_graph : ∀ vs H Q, sp_L_graph P w K vs H Q → vs.length = 1 := fun _ _ _ ⟨_, _, _, _, _, _, e, _⟩ => by subst e; rfl
def pts0 (S : Nat) : List (List (List Nat)) := (List.range S).map p3
theorem pts0_len (S : Nat) : (pts0 S).length = S := by unfold pts0; rw [List.length_map, List.length_range]
theorem pts0_get {S i : Nat} (h : i < S) : (pts0 S)[i]? = some (p3 i) := by
  unfold pts0
  rw [List.getElem?_map, List.getElem?_range h]
  rfl
theorem pts0_nodup (S : Nat) : (pts0 S).Nodup := nodup_map_on (fun a _ b _ e => by
  have := (List.cons.inj e).1
  exact (List.cons.inj this).1) List.nodup_range
theorem sc_L_graph : FnScope ["_law_nets_here", "_law_points", "_law_index", "_law_state", "_law_goals", "_law_place", "_law_row", "_law_letter", "_law_point", "_law_parts_here", "_law_k"] ["_law_nets_here"] (defScope s_L_graph) := ⟨rfl, rfl, rfl, by decide +kernel, rfl, by decide +kernel, by decide +kernel⟩
/- slots: 0 _law_nets_here, 1 _law_points, 2 _law_index, 3 _law_state, 4 _law_goals, 5 _law_place, 6 _law_row, 7 _law_letter, 8 _law_point, 9 _law_parts_here, 10 _law_k -/
theorem ok_L_graph (T : Tb K mg) (c_L_moved : Cal P w K mg base (He.ga K "_law_moved") 1 ["_law_parts_here", "_law_group", "_law_letter"] (sp_L_moved P w K)) : Cal P w K mg base (He.ga K "_law_graph") 2 ["_law_nets_here"] (sp_L_graph P w K) := by
  obtain ⟨fd, F⟩ := T.dfs 34 d_L_graph rfl
  refine cal_of (N := ["_law_nets_here", "_law_points", "_law_index", "_law_state", "_law_goals", "_law_place", "_law_row", "_law_letter", "_law_point", "_law_parts_here", "_law_k"]) F sc_L_graph (F.bindsN fun _ _ _ _ _ _ us hl => match us, hl with | [_], _ => rfl) (len_L_graph) fun cdv A outer s H vs Q E hr h => ?_
  refine ⟨(tSeq (tAsg (tLc (iRng1 (tCons (tOp (rIxT K) (tOp (rIxL K) (tVar 0) (tC (.int 0))) (tC (.int 0))) tNil)) (gName 3) tYes (tCB (rTupOf K) (tCons (tLc (iList K (tVar 0)) (gName 9) tYes (tTup (tCons (tVar 3) tNil)) [9]) tNil)) [3]) (gName 1)) (tSeq (tAsg (tNNew P w K) (gName 2)) (tSeq (tFor (iRng1 (tCons (tCB (rLen2 K) (tCons (tVar 1) tNil)) tNil)) (gName 3) (sNPut P w K (tVar 2) (tOp (rIxL K) (tVar 1) (tVar 3)) (tVar 3))) (tSeq (tAsg (tLst tNil) (gName 4)) (tSeq (tFor (iRng1 (tCons (tC (.int 2000)) tNil)) (gName 5) (tSeq (tIfS (tTest (tOp rGe (tVar 5) (tCB (rLen2 K) (tCons (tVar 1) tNil)))) tBreak tNext) (tSeq (tAsg (tLst tNil) (gName 6)) (tSeq (tFor (iRng1 (tCons (tOp (rIxT K) (tOp (rIxL K) (tVar 0) (tC (.int 0))) (tC (.int 1))) tNil)) (gName 7) (tSeq (tAsg (tCB (rTupOf K) (tCons (tLc (iRng1 (tCons (tCB (rLen2 K) (tCons (tVar 0) tNil)) tNil)) (gName 10) tYes (tDo (sp_L_moved P w K) (tCons (tOp (rIxL K) (tVar 0) (tVar 10)) (tCons (tOp (rIxT K) (tOp (rIxL K) (tVar 1) (tVar 5)) (tVar 10)) (tCons (tVar 7) tNil)))) [10]) tNil)) (gName 8)) (tSeq (tIfS (tB (tNIn P w K true (tVar 8) (tVar 2))) (tSeq (sNPut P w K (tVar 2) (tVar 8) (tCB (rLen2 K) (tCons (tVar 1) tNil))) (tDrop (tBM K "list" rAppend (tVar 1) (tCons (tVar 8) tNil)))) tNext) (tDrop (tBM K "list" rAppend (tVar 6) (tCons (tNGet P w K (tVar 2) (tVar 8)) tNil)))))) (tDrop (tBM K "list" rAppend (tVar 4) (tCons (tVar 6) tNil))))))) (tRet (tLst (tCons (tVar 1) (tCons (tVar 4) tNil))))))))), (pss_cons (ps_set (i := 1) sc_L_graph.nd rfl (by first | exact Or.inl rfl | exact Or.inr rfl) (pe_lc (own := [("_law_state", 3)]) (g := (gName 3)) (tt := tYes) (te := (tCB (rTupOf K) (tCons (tLc (iList K (tVar 0)) (gName 9) tYes (tTup (tCons (tVar 3) tNil)) [9]) tNil))) rfl sc_L_graph.nd (pi_range1 (by rfl) (T.fre 1 "range" rfl) (pa_cons (pe_ix ix_tup (pe_ix ix_list (pv 0) pe_int (fun _ _ => rfl)) pe_int (fun _ _ => rfl)) pa_nil)) (blkOk_by (N := ["_law_nets_here", "_law_points", "_law_index", "_law_state", "_law_goals", "_law_place", "_law_row", "_law_letter", "_law_point", "_law_parts_here", "_law_k"]) (sc := defScope s_L_graph) (by decide +kernel)) (fun _ _ _ _ _ => (pg_name (i := 3) sc_L_graph.nd rfl (by first | exact Or.inl rfl | exact Or.inr rfl))) (fun _ _ _ _ _ => pts_nil) (fun _ _ _ _ _ => (pe_callTy call_tuple_ofn (by rfl) (T.fre 2 "tuple" rfl) kb_tuple (pa_cons (pe_lc (own := [("_law_parts_here", 9)]) (g := (gName 9)) (tt := tYes) (te := (tTup (tCons (tVar 3) tNil))) rfl sc_L_graph.nd (pi_list (pv 0)) (blkOk_by (N := ["_law_nets_here", "_law_points", "_law_index", "_law_state", "_law_goals", "_law_place", "_law_row", "_law_letter", "_law_point", "_law_parts_here", "_law_k"]) (sc := relS ({ kind := .function, names := [(".0", .local), ("_law_state", .cell), ("tuple", .globalImplicit), ("_law_nets_here", .free)], isGenerator := false, isCoroutine := false, more := [] } : Scope) (defScope s_L_graph)) (by decide +kernel)) (fun _ _ _ _ _ => (pg_name (i := 9) sc_L_graph.nd rfl (by first | exact Or.inl rfl | exact Or.inr rfl))) (fun _ _ _ _ _ => pts_nil) (fun _ _ _ _ _ => (pe_tup (pa_cons (pv 3) pa_nil)))) pa_nil))))) (pss_cons (ps_set (i := 2) sc_L_graph.nd rfl (by first | exact Or.inl rfl | exact Or.inr rfl) pe_nnew) (pss_cons (ps_for PassesOwn.never rfl (pi_range1 (by rfl) (T.fre 1 "range" rfl) (pa_cons (pe_callB call_len2 (by rfl) (T.fre 0 "len" rfl) kb_len (pa_cons (pv 1) pa_nil)) pa_nil)) (pg_name (i := 3) sc_L_graph.nd rfl (by first | exact Or.inl rfl | exact Or.inr rfl)) (pss_one (ps_nput hr.units (pv 2) (pe_ix ix_list (pv 1) (pv 3) (fun _ _ => rfl)) (pv 3) rfl))) (pss_cons (ps_set (i := 4) sc_L_graph.nd rfl (by first | exact Or.inl rfl | exact Or.inr rfl) (pe_lst pa_nil)) (pss_cons (ps_for PassesOwn.never rfl (pi_range1 (by rfl) (T.fre 1 "range" rfl) (pa_cons pe_int pa_nil)) (pg_name (i := 5) sc_L_graph.nd rfl (by first | exact Or.inl rfl | exact Or.inr rfl)) (pss_cons (ps_if (pt_cmpR op_ge (pv 5) (pe_callB call_len2 (by rfl) (T.fre 0 "len" rfl) kb_len (pa_cons (pv 1) pa_nil)) (nomark _)) (pss_one ps_break) pss_nil) (pss_cons (ps_set (i := 6) sc_L_graph.nd rfl (by first | exact Or.inl rfl | exact Or.inr rfl) (pe_lst pa_nil)) (pss_cons (ps_for PassesOwn.never rfl (pi_range1 (by rfl) (T.fre 1 "range" rfl) (pa_cons (pe_ix ix_tup (pe_ix ix_list (pv 0) pe_int (fun _ _ => rfl)) pe_int (fun _ _ => rfl)) pa_nil)) (pg_name (i := 7) sc_L_graph.nd rfl (by first | exact Or.inl rfl | exact Or.inr rfl)) (pss_cons (ps_set (i := 8) sc_L_graph.nd rfl (by first | exact Or.inl rfl | exact Or.inr rfl) (pe_callTy call_tuple_ofn (by rfl) (T.fre 2 "tuple" rfl) kb_tuple (pa_cons (pe_lc (own := [("_law_k", 10)]) (g := (gName 10)) (tt := tYes) (te := (tDo (sp_L_moved P w K) (tCons (tOp (rIxL K) (tVar 0) (tVar 10)) (tCons (tOp (rIxT K) (tOp (rIxL K) (tVar 1) (tVar 5)) (tVar 10)) (tCons (tVar 7) tNil))))) rfl sc_L_graph.nd (pi_range1 (by rfl) (T.fre 1 "range" rfl) (pa_cons (pe_callB call_len2 (by rfl) (T.fre 0 "len" rfl) kb_len (pa_cons (pv 0) pa_nil)) pa_nil)) (blkOk_by (N := ["_law_nets_here", "_law_points", "_law_index", "_law_state", "_law_goals", "_law_place", "_law_row", "_law_letter", "_law_point", "_law_parts_here", "_law_k"]) (sc := defScope s_L_graph) (by decide +kernel)) (fun _ _ _ _ _ => (pg_name (i := 10) sc_L_graph.nd rfl (by first | exact Or.inl rfl | exact Or.inr rfl))) (fun _ _ _ _ _ => pts_nil) (fun _ _ _ _ _ => (pcal c_L_moved (hr.mono (by decide)) (T.glo 25 "_law_moved" rfl) (pa_cons (pe_ix ix_list (pv 0) (pv 10) (fun _ _ => rfl)) (pa_cons (pe_ix ix_tup (pe_ix ix_list (pv 1) (pv 5) (fun _ _ => rfl)) (pv 10) (fun _ _ => rfl)) (pa_cons (pv 7) pa_nil)))))) pa_nil))) (pss_cons (ps_if (pt_cmp (pc_nnotin hr.units (pv 8) (pv 2)) (by with_unfolding_all rfl)) (pss_cons (ps_nput hr.units (pv 2) (pv 8) (pe_callB call_len2 (by rfl) (T.fre 0 "len" rfl) kb_len (pa_cons (pv 1) pa_nil)) rfl) (pss_one (ps_expr (pe_bm PySem.F.plainAttrs_list PySem.F.slot_list_append PySem.F.type_list_append mt_append (pv 1) (pa_cons (pv 8) pa_nil))))) pss_nil) (pss_one (ps_expr (pe_bm PySem.F.plainAttrs_list PySem.F.slot_list_append PySem.F.type_list_append mt_append (pv 6) (pa_cons (pe_nget hr.units (pv 2) (pv 8) (fun _ _ => rfl)) pa_nil))))))) (pss_one (ps_expr (pe_bm PySem.F.plainAttrs_list PySem.F.slot_list_append PySem.F.type_list_append mt_append (pv 4) (pa_cons (pv 6) pa_nil)))))))) (pss_one (ps_ret (pe_lst (pa_cons (pv 1) (pa_cons (pv 4) pa_nil)))))))))), ?_⟩
  obtain ⟨a, Ns, S, L, R, cp, rfl, hA, eS, eL, S1, L1, eE, gc, hQ⟩ := h
  obtain ⟨q, hA1, hA2⟩ := id hA
  obtain ⟨e0, f0, qa0, _, _⟩ := hA2 0 (by decide)
  rw [eS, eL] at qa0
  have cpl := gc.cpl
  dsimp only [tSeq, tIfS, tOr, tAnd, tNot, tB, tTest, tCB, tCons, tNil, tNext, tAsg, tRet, tDrop, tDo, gName]
  refine tlcRM (R := rPt K) (n := S) (fun R h => ⟨_, rfl, a, _, _, _, rfl, rfl, hA1, atI_n (n := 0) rfl rfl, q 0, _, _, _, rfl, rfl, qa0, atI_n (n := 0) rfl rfl, h⟩) (by omega) (pts0 S) (pts0_len S) (fun D hD i G hi sG hG => ?_) (fun d1 hd1 G1 s1 l1 => ?_)
  · refine ⟨rfl, ⟨_, rfl, a, rfl, ⟨_, sG.seq hA1⟩, fun D' hD' => ?_⟩⟩
    refine walkL (xs := [.ref (q 0), .ref (q 1), .ref (q 2)]) (fun j G' => Same G G' ∧ LM (rGr K) G' D' (List.replicate j [i])) ⟨same_new hD', LM.new D' G⟩ (fun j G' z => (sG.trans z.1).seq hA1) (fun j v G' hv z => ?_) (fun G' z => ?_)
    · obtain ⟨sG', hG'⟩ := z
      refine ⟨rfl, _, rfl, (sz1000 (n := 1) (by decide) : 1 ≤ sizeLine), fun t ht => ?_⟩
      have st := same_new (o := .tup [.int (i : Nat)]) ht
      obtain ⟨rs, r1, r2, r3⟩ := hG'.app (t := t) (e := [i]) (ko_gr K).stb st (SqT.of upd_same)
      have jl : j < 3 := (List.getElem?_eq_some_iff.mp hv).1
      refine ⟨_, r1, by rw [r2, List.length_replicate]; exact line_lt (by omega), same_put (sG'.trans st) hD', ?_⟩
      rw [← rep_snoc]
      exact r3
    · obtain ⟨sG', us, u1, u2⟩ := z
      refine ⟨D', _, rfl, .inl (SqL.of u1), fun t G2 s2 ht => ?_⟩
      have pt : rPt K G2 t (p3 i) := ⟨us, ht, Paired.imp (fun _ _ r => Same.tup s2 r) u2⟩
      obtain ⟨rs, r1, r2, r3⟩ := hG.app (t := t) (e := p3 i) (ko_pt K).stb (sG'.trans s2) pt
      refine ⟨_, r1, ?_, same_put (sG.trans (sG'.trans s2)) hD, ?_⟩
      · rw [r2, List.length_take, pts0_len]
        exact line_lt (by omega)
      · rw [take_snoc (pts0_get hi)]
        exact r3
  · refine fun d2 hd2 G2 n2 => ?_
    have s2 : Same G1 G2 := same_nput (Same.refl _) hd2 n2
    obtain ⟨ps1, g1, g2⟩ := id l1
    have hd2' : H d2 = none := s1.free hd2
    dsimp only [tSeq, tIfS, tOr, tAnd, tNot, tB, tTest, tCB, tCons, tNil, tNext, tAsg, tRet, tDrop, tDo, gName]
    refine tforR (n := S) (fun R h => ⟨_, rfl, d1, _, rfl, .inl (SqL.of (s2 _ _ g1)), by rw [pr_len g2, pts0_len]; exact h⟩) (by omega) (fun i σ G => (∃ v3, σ = [some (.ref a), some (.ref d1), some (.ref d2), v3, none, none, none, none, none, none, none]) ∧ Same G1 G ∧ ND P w K G d2 (numK kPt ((pts0 S).take i)))
      ⟨⟨_, rfl⟩, s2, n2.1⟩ (fun i σ G hi hσ => ?_) (fun σ G hσ => ?_)
    · obtain ⟨⟨v3, rfl⟩, sG, hN⟩ := hσ
      obtain ⟨p, hp1, hp2⟩ := pr_ix g2 (pts0_get hi)
      have hpG := (ko_pt K).stb _ _ _ _ (sameT sG) hp2
      have len : ((pts0 S).take i).length = i := by
        rw [List.length_take, pts0_len]
        omega
      refine ⟨_, rfl, _, rfl, _, rfl, _, rfl, d1, _, _, _, rfl, rfl, SqL.of (sG _ _ g1), atI_n rfl hp1, d2, _, kPt (p3 i), p, rfl, rfl, hN, (ko_pt K).key _ _ _ hpG, (ko_pt K).dep _, by rw [numA_len, len]; exact line_lt (by omega), fun G4 np => ⟨⟨_, rfl⟩, same_nput sG hd2 np, ?_⟩⟩
      have nm : p3 i ∉ (pts0 S).take i := fun m => by
        obtain ⟨j, hj⟩ := List.mem_iff_getElem?.mp m
        have lj := (List.getElem?_eq_some_iff.mp hj).1
        rw [len] at lj
        rw [List.getElem?_take_of_lt lj] at hj
        have := nodup_at (pts0_nodup S) hj (pts0_get hi)
        omega
      have := put_num (ko_pt K).inj nm
      rw [len] at this
      rw [take_snoc (pts0_get hi), ← this]
      exact np.1
    · obtain ⟨⟨v3, rfl⟩, sG, hN⟩ := hσ
      have tk : (pts0 S).take S = pts0 S := List.take_of_length_le (by rw [pts0_len]; exact Nat.le_refl _)
      rw [tk] at hN
      have sH : Same H G := s1.trans sG
      have l1G := l1.same (ko_pt K).stb sG
      refine ⟨Nat.zero_le _, fun d3 hd3 => ?_⟩
      have hd3' : H d3 = none := sH.free hd3
      have n12 : d1 ≠ d2 := lm_nd l1G hN
      have n13 : d1 ≠ d3 := by
        obtain ⟨_, z, _⟩ := l1G
        exact ne_of_none z hd3
      have n23 : d2 ≠ d3 := by
        obtain ⟨_, z, _⟩ := id hN
        exact ne_of_none z hd3
      have all3 : ∀ d ∈ [d1, d2, d3], H d = none := fun d hd => by
        simp only [List.mem_cons, List.not_mem_nil, or_false] at hd
        rcases hd with rfl | rfl | rfl <;> assumption
      have s3 := same_new (o := .lst []) hd3
      -- the end
      have fin : ∀ (G : Hp) (pts : List (List (List Nat))) (tbl : List (List Nat)) (rs : List Addr) (v5 v6 v7 v8 : Option V), Same H G → LM (rPt K) G d1 pts → G d3 = some (.lst (rs.map V.ref)) → Paired (rRow K G) rs tbl → Gr Ns S L R pts tbl → tbl.length = pts.length →
          tRet (tLst (tCons (tVar 1) (tCons (tVar 4) tNil))) { nx := fun _ H' => Q .non H', rt := Q } [some (.ref a), some (.ref d1), some (.ref d2), v3, some (.ref d3), v5, v6, v7, v8, none, none] G := fun G pts tbl rs v5 v6 v7 v8 sG lm hr pr gr e =>
        ⟨_, rfl, _, rfl, (sz1000 (n := 2) (by decide) : 2 ≤ sizeLine), fun r hr' => hQ r d1 d3 _ pts tbl (sG.trans (same_new hr')) (SqL.of upd_same) (lm.same (ko_pt K).stb (same_new hr')) ⟨rs, SqL.of (same_new hr' _ _ hr), Paired.imp (fun _ _ z => (same_new hr').seq z) pr⟩ gr e⟩
      dsimp only [tSeq, tIfS, tOr, tAnd, tNot, tB, tTest, tCB, tCons, tNil, tNext, tAsg, tRet, tDrop, tDo, gName]
      refine tforR (n := 2000) (fun R h => h) (by decide) (fun T σ G => (∃ v5 v6 v7 v8, σ = [some (.ref a), some (.ref d1), some (.ref d2), v3, some (.ref d3), v5, v6, v7, v8, none, none]) ∧ Same H G ∧ ∃ (pts : List (List (List Nat))) (tbl : List (List Nat)) (rs : List Addr), LM (rPt K) G d1 pts ∧ ND P w K G d2 (numK kPt pts) ∧
          G d3 = some (.lst (rs.map V.ref)) ∧ Paired (fun q r => q ∉ [d1, d2, d3] ∧ G q = some (.lst (nV r))) rs tbl ∧ Gr Ns S L R pts tbl ∧ tbl.length = T)
        ⟨⟨_, _, _, _, rfl⟩, sH.trans s3, pts0 S, [], [], l1G.same (ko_pt K).stb s3, hN.same s3, upd_same, .nil, ⟨pts0_nodup S, fun s hs => pts0_get hs, fun p hp => by obtain ⟨s, hs, rfl⟩ := List.mem_map.mp hp; exact gc.r0 s (List.mem_range.mp hs), Nat.zero_le _, fun t r e => (nomatch e), fun t l z e => (nomatch e)⟩, rfl⟩
        (fun T σ G hT hσ => ?_) (fun σ G hσ => ?_)
      · obtain ⟨⟨v5, v6, v7, v8, rfl⟩, sG, pts, tbl, rs, lm, nd, hr, pr, gr, eT⟩ := hσ
        obtain ⟨ps, m1, m2⟩ := id lm
        have gl := gr.len
        refine ⟨_, rfl, _, rfl, d1, _, rfl, .inl (SqL.of m1), _, _, rfl, rfl, _, rfl, iteB (fun c => ?_) fun c => ?_⟩
        · have ge : pts.length ≤ T := by
            rw [pr_len m2] at c
            exact Int.ofNat_le.mp (of_decide_eq_true c)
          exact fin G pts tbl rs _ _ _ _ sG lm hr (Paired.imp (fun _ _ z => SqL.of z.2) pr) gr (by omega)
        have lt : T < pts.length := by
          rw [pr_len m2] at c
          have := of_decide_eq_false c
          omega
        obtain ⟨p, hp⟩ : ∃ p, pts[T]? = some p := ⟨pts[T], by simp [lt]⟩
        refine ⟨Nat.zero_le _, fun dr hdr => ?_⟩
        have hdr' : H dr = none := sG.free hdr
        have sr := same_new (o := .lst []) hdr
        have nr : dr ∉ [d1, d2, d3] := fun m => by
          have f1 : G d1 ≠ none := by rw [m1]; exact fun z => nomatch z
          have f2 : G d2 ≠ none := by obtain ⟨_, z, _⟩ := nd; rw [z]; exact fun z => nomatch z
          have f3 : G d3 ≠ none := by rw [hr]; exact fun z => nomatch z
          simp only [List.mem_cons, List.not_mem_nil, or_false] at m
          rcases m with rfl | rfl | rfl
          · exact f1 hdr
          · exact f2 hdr
          · exact f3 hdr
        dsimp only [tSeq, tIfS, tOr, tAnd, tNot, tB, tTest, tCB, tCons, tNil, tNext, tAsg, tRet, tDrop, tDo, gName]
        refine tforR (n := L) (fun R h => ⟨_, rfl, a, _, _, _, rfl, rfl, (sG.trans sr).seq hA1, atI_n (n := 0) rfl rfl, q 0, _, _, _, rfl, rfl, Same.tup (sG.trans sr) qa0, atI_n (n := 1) rfl rfl, h⟩) (by omega)
          (fun l σ G => (∃ v7 v8, σ = [some (.ref a), some (.ref d1), some (.ref d2), v3, some (.ref d3), some (.int T), some (.ref dr), v7, v8, none, none]) ∧ Same H G ∧ ∃ (pts : List (List (List Nat))) (row : List Nat), LM (rPt K) G d1 pts ∧ ND P w K G d2 (numK kPt pts) ∧
            G d3 = some (.lst (rs.map V.ref)) ∧ Paired (fun q r => q ∉ [d1, d2, d3] ∧ q ≠ dr ∧ G q = some (.lst (nV r))) rs tbl ∧ Gr Ns S L R pts tbl ∧ pts[T]? = some p ∧ G dr = some (.lst (nV row)) ∧ row.length = l ∧ RowOk Ns pts p row)
          ⟨⟨_, _, rfl⟩, sG.trans sr, pts, [], lm.same (ko_pt K).stb sr, nd.same sr, sr _ _ hr, Paired.imp (fun q r z => ⟨z.1, ne_of_none z.2 hdr, sr _ _ z.2⟩) pr, gr, hp, upd_same, rfl, fun l z e => nomatch e⟩ (fun l σ G hl hσ => ?_) (fun σ G hσ => ?_)
        · obtain ⟨⟨v7, v8, rfl⟩, sG, pts, row, lm, nd, hr, pr, gr, hp, hrow, rl, ro⟩ := hσ
          obtain ⟨ps, m1, m2⟩ := id lm
          obtain ⟨pq, hp1, hp2⟩ := pr_ix m2 hp
          obtain ⟨us, u1, u2⟩ := id hp2
          have Rp := gr.rch p (List.mem_of_getElem? hp)
          have p3l := gc.r3 p Rp
          dsimp only [tSeq, tIfS, tOr, tAnd, tNot, tB, tTest, tCB, tCons, tNil, tNext, tAsg, tRet, tDrop, tDo, gName]
          refine tlcRM (R := rGr K) (n := 3) (fun R h => ⟨_, rfl, a, _, rfl, .inl (sG.seq hA1), h⟩) (by decide) (pstep Ns p l) rfl (fun D hD i G' hi sG' hG' => ?_) (fun D hD G' sG' hG' => ?_)
          · obtain ⟨gi, hgi⟩ : ∃ gi, p[i]? = some gi := ⟨p[i]'(by omega), by simp⟩
            obtain ⟨bq, hb1, hb2⟩ := pr_ix u2 hgi
            have i3 : i % 3 = i := Nat.mod_eq_of_lt hi
            have hqi := three_get (v := fun i => .ref (q i)) i
            rw [i3] at hqi
            have stp : (pstep Ns p l)[i]? = some (mvE (Ns i).E gi l) := by
              have gd : p.getD i [] = gi := by
                rw [List.getD_eq_getElem?_getD, hgi]
                rfl
              have : i = 0 ∨ i = 1 ∨ i = 2 := by omega
              rcases this with rfl | rfl | rfl <;> (rw [← gd]; rfl)
            refine ⟨rfl, ⟨_, rfl, _, rfl, a, _, _, _, rfl, rfl, (sG.trans sG').seq hA1, atI_n rfl hqi, _, rfl, _, rfl, d1, _, _, _, rfl, rfl, SqL.of (sG' _ _ m1), atI_n rfl hp1, _, rfl, pq, _, _, _, rfl, rfl, Same.tup sG' u1, atI_n rfl hb1, _, rfl, q i, bq, Ns i, gi, l, rfl, (hA2 i hi).same (sG.trans sG'), Same.tup sG' hb2, eE i hi, fun t G2 s2 ht => ?_⟩⟩
            obtain ⟨rs2, r1, r2, r3⟩ := hG'.app (t := t) (e := mvE (Ns i).E gi l) (ko_gr K).stb s2 ht
            refine ⟨_, r1, ?_, same_put (sG'.trans s2) hD, ?_⟩
            · rw [r2, List.length_take]
              exact line_lt (by omega)
            · rw [take_snoc stp]
              exact r3
          · obtain ⟨ws, g1', g2'⟩ := id hG'
            refine ⟨D, _, rfl, .inl (SqL.of g1'), fun t G2 s2 ht => ?_⟩
            have pt : rPt K G2 t (pstep Ns p l) := ⟨ws, ht, Paired.imp (fun _ _ r => Same.tup s2 r) g2'⟩
            have s12 := sG'.trans s2
            have sG2 := sG.trans s12
            have ptl : pts.length ≤ cp.length := len_of_cover gr.nod fun p hp => gc.cpm p (gr.rch p hp)
            have nd1 : dr ≠ d1 := fun e => nr (by simp [e])
            have nd2 : dr ≠ d2 := fun e => nr (by simp [e])
            have nd3 : dr ≠ d3 := fun e => nr (by simp [e])
            have Rn := gc.rs p l Rp hl
            have last : ∀ (pts' : List (List (List Nat))) (z : Nat) (G3 : Hp), Same H G3 → LM (rPt K) G3 d1 pts' → ND P w K G3 d2 (numK kPt pts') → G3 d3 = some (.lst (rs.map V.ref)) → Paired (fun q r => q ∉ [d1, d2, d3] ∧ q ≠ dr ∧ G3 q = some (.lst (nV r))) rs tbl → rPt K G3 t (pstep Ns p l) → Gr Ns S L R pts' tbl → pts'[T]? = some p → RowOk Ns pts' p row → pts'[z]? = some (pstep Ns p l) → G3 dr = some (.lst (nV row)) →
                tDrop (tBM K "list" rAppend (tVar 6) (tCons (tNGet P w K (tVar 2) (tVar 8)) tNil)) { nx := fun σ G => (∃ v7 v8, σ = [some (.ref a), some (.ref d1), some (.ref d2), v3, some (.ref d3), some (.int T), some (.ref dr), v7, v8, none, none]) ∧ Same H G ∧ ∃ (pts : List (List (List Nat))) (row : List Nat), LM (rPt K) G d1 pts ∧ ND P w K G d2 (numK kPt pts) ∧ G d3 = some (.lst (rs.map V.ref)) ∧ Paired (fun q r => q ∉ [d1, d2, d3] ∧ q ≠ dr ∧ G q = some (.lst (nV r))) rs tbl ∧ Gr Ns S L R pts tbl ∧ pts[T]? = some p ∧ G dr = some (.lst (nV row)) ∧ row.length = l + 1 ∧ RowOk Ns pts p row, rt := Q }
                  [some (.ref a), some (.ref d1), some (.ref d2), v3, some (.ref d3), some (.int T), some (.ref dr), some (.int l), some (.ref t), none, none] G3 := fun pts' z G3 k0 k1 k2 k3 k4 k5 k6 k7 k8 k9 k10 => by
              have v := num_some (ko_pt K).inj (k := 0) k6.nod k9
              rw [Nat.zero_add] at v
              have u := updT (K := K) (H := G3) (a := dr) (o := .lst (nV (row ++ [z]))) (.inl (by rw [k10]; exact True.intro))
              have ux : SameL [dr] G3 (upd G3 dr (.lst (nV (row ++ [z])))) := (SameL.of (Same.refl G3)).put (by simp)
              refine ⟨_, rfl, .inl ⟨rfl, _, SqL.of k10⟩, _, rfl, _, rfl, d2, _, kPt (pstep Ns p l), t, _, rfl, rfl, k2, (ko_pt K).key _ _ _ k5, (ko_pt K).dep _, v, dr, _, _, rfl, rfl, k10, by rw [nV_len, rl]; exact line_lt (by omega), ?_⟩
              rw [nV_snoc]
              exact ⟨⟨_, _, rfl⟩, same_put k0 hdr', pts', row ++ [z], k1.keep (ko_pt K).stb u ux (by simpa using Ne.symm nd1), k2.keepL u ux (by simpa using Ne.symm nd2), (upd_ne (Ne.symm nd3)).trans k3, Paired.imp (fun x r q => ⟨q.1, q.2.1, (upd_ne q.2.1).trans q.2.2⟩) k4, k6, k7, upd_same, by rw [List.length_append, rl]; rfl, k8.snoc (by rw [rl]; exact k9)⟩
            refine seen_if (ko_pt K) rfl rfl rfl (lm.same (ko_pt K).stb s12) (nd.same s12) pt gr.nod (by omega) (fun z hz => ?_) (fun nm G3 z1 z2 z3 z4 => ?_)
            · exact last pts z G2 sG2 (lm.same (ko_pt K).stb s12) (nd.same s12) (s12 _ _ hr) (Paired.imp (fun x r q => ⟨q.1, q.2.1, s12 _ _ q.2.2⟩) pr) pt gr hp ro hz (s12 _ _ hrow)
            · have ne12 : ∀ {x : Addr}, x ∉ [d1, d2, d3] → x ∉ [d1, d2] := fun h m => h (by simp only [List.mem_cons, List.not_mem_nil, or_false] at m ⊢; exact m.elim .inl fun z => .inr (.inl z))
              exact last (pts ++ [pstep Ns p l]) pts.length G3 (SameL.to sG2 z1 fun x hx => all3 x (by simp only [List.mem_cons, List.not_mem_nil, or_false] at hx ⊢; exact hx.elim .inl fun z => .inr (.inl z))) z3 z4 (z1 _ _ (by simp [Ne.symm n13, Ne.symm n23]) (s12 _ _ hr)) (Paired.imp (fun x r q => ⟨q.1, q.2.1, z1 _ _ (ne12 q.1) (s12 _ _ q.2.2)⟩) pr) ((ko_pt K).stb _ _ _ _ z2 pt) (gr.more nm Rn) (snoc_get hp) ro.more snoc_last (z1 _ _ (ne12 nr) (s12 _ _ hrow))
        · obtain ⟨⟨v7, v8, rfl⟩, sG, pts, row, lm, nd, hr, pr, gr, hp, hrow, rl, ro⟩ := hσ
          have u := updT (K := K) (H := G) (a := d3) (o := .lst (rs.map V.ref ++ [.ref dr])) (.inl (by rw [hr]; exact True.intro))
          have ux : SameL [d3] G (upd G d3 (.lst (rs.map V.ref ++ [.ref dr]))) := (SameL.of (Same.refl G)).put (by simp)
          have rsl : rs.length = tbl.length := Paired.length pr
          have ne3 : ∀ {x : Addr}, x ∉ [d1, d2, d3] → x ≠ d3 := fun h e => h (by simp [e])
          refine ⟨_, rfl, .inl ⟨rfl, _, SqL.of hr⟩, _, rfl, d3, _, _, rfl, rfl, hr, by rw [List.length_map, rsl, eT]; exact line_lt (by omega), ⟨_, _, _, _, rfl⟩, same_put sG hd3', pts, tbl ++ [row], rs ++ [dr], lm.keep (ko_pt K).stb u ux (by simpa using n13), nd.keepL u ux (by simpa using n23), by rw [upd_same, List.map_append]; rfl, Paired.snoc (Paired.imp (fun x r z => ⟨z.1, by rw [upd_ne (ne3 z.1)]; exact z.2.2⟩) pr) ⟨nr, by rw [upd_ne (ne3 nr)]; exact hrow⟩, gr.rowed (by rw [eT]; exact hp) ro rl, by rw [List.length_append, eT]; rfl⟩
      · obtain ⟨⟨v5, v6, v7, v8, rfl⟩, sG, pts, tbl, rs, lm, nd, hr, pr, gr, e⟩ := hσ
        have : pts.length ≤ cp.length := len_of_cover gr.nod fun p hp => gc.cpm p (gr.rch p hp)
        have := gr.len
        omega
end
end K23
/-! K23Ma -/
set_option Elab.async false
set_option linter.all false
set_option maxRecDepth 100000
set_option maxHeartbeats 4000000
/-! The plain law: runs and languages of the nets that are made. -/
namespace K23
abbrev Ov (L : Nat) (wd : List Nat) : Prop := ∀ l ∈ wd, l < L
theorem word_ind {M : List Nat → Prop} (h0 : M []) (hs : ∀ wd l, M wd → M (wd ++ [l])) (wd : List Nat) : M wd := by
  have key : ∀ r : List Nat, M r.reverse := fun r => by
    induction r with
    | nil => exact h0
    | cons l r ih =>
      rw [List.reverse_cons]
      exact hs _ _ ih
  have := key wd.reverse
  rwa [List.reverse_reverse] at this
theorem Ov.nil (L : Nat) : Ov L [] := fun l h => nomatch h
theorem Ov.init {L : Nat} {wd : List Nat} {l : Nat} (h : Ov L (wd ++ [l])) : Ov L wd := fun x hx => h x (List.mem_append_left _ hx)
theorem Ov.last {L : Nat} {wd : List Nat} {l : Nat} (h : Ov L (wd ++ [l])) : l < L := h l (List.mem_append_right _ List.mem_cons_self)
theorem Ov.snoc {L : Nat} {wd : List Nat} {l : Nat} (h : Ov L wd) (hl : l < L) : Ov L (wd ++ [l]) := fun x hx => (List.mem_append.mp hx).elim (h x) fun z => by rw [List.mem_singleton.mp z]; exact hl
section
variable {E E' : List Tr} {s l x y : Nat} {g wd : List Nat} {N M : Net}
theorem mem_run0 : y ∈ runE E [s] [] ↔ y = s := by
  show y ∈ [s] ↔ _
  exact List.mem_singleton
theorem mem_runS : y ∈ runE E g (wd ++ [l]) ↔ ∃ x ∈ runE E g wd, (x, l, y) ∈ E := by
  rw [runE_snoc]
  exact mem_mvE
theorem run_sorted : (runE E [s] wd).Pairwise (· < ·) := by
  induction wd using word_ind with
  | h0 => exact List.pairwise_singleton _ _
  | hs wd l _ =>
    rw [runE_snoc]
    exact mvE_sorted _ _ _
theorem mvE_cong (h : ∀ e, e ∈ E ↔ e ∈ E') (g : List Nat) (l : Nat) : mvE E g l = mvE E' g l := by
  refine sorted_ext (mvE_sorted _ _ _) (mvE_sorted _ _ _) fun x => ?_
  rw [mem_mvE, mem_mvE]
  exact ⟨fun ⟨y, h1, h2⟩ => ⟨y, h1, (h _).mp h2⟩, fun ⟨y, h1, h2⟩ => ⟨y, h1, (h _).mpr h2⟩⟩
theorem runE_cong (h : ∀ e, e ∈ E ↔ e ∈ E') (g : List Nat) (wd : List Nat) : runE E g wd = runE E' g wd := by
  induction wd using word_ind with
  | h0 => rfl
  | hs wd l ih => rw [runE_snoc, runE_snoc, ih, mvE_cong h]
theorem hasE_iff {F g : List Nat} : hasE F g = true ↔ ∃ x ∈ g, x ∈ F := by
  unfold hasE
  rw [List.any_eq_true]
  exact ⟨fun ⟨x, h1, h2⟩ => ⟨x, h1, of_decide_eq_true h2⟩, fun ⟨x, h1, h2⟩ => ⟨x, h1, decide_eq_true h2⟩⟩
theorem acc_iff : N.acc s wd = true ↔ ∃ x ∈ runE N.E [s] wd, x ∈ N.F := hasE_iff
theorem bool_ext {a b : Bool} (h : a = true ↔ b = true) : a = b := by
  cases a <;> cases b <;> simp_all
theorem run_lt (hw : Wf N) (hs : s < N.S) : ∀ x ∈ runE N.E [s] wd, x < N.n := by
  induction wd using word_ind with
  | h0 =>
    intro x hx
    rw [mem_run0.mp hx]
    exact Nat.lt_of_lt_of_le hs hw.sn
  | hs wd l _ =>
    intro x hx
    obtain ⟨y, _, h⟩ := mem_runS.mp hx
    exact (hw.ef _ h).2.2
theorem plB_iff : N.plB = true ↔ ∀ e ∈ N.E, N.S ≤ e.2.2 := by
  unfold Net.plB
  rw [List.all_eq_true]
  exact ⟨fun h e he => of_decide_eq_true (h e he), fun h e he => decide_eq_true (h e he)⟩
theorem run_low (hp : N.plB = true) (hx : x ∈ runE N.E [s] wd) (lt : x < N.S) : wd = [] ∧ x = s := by
  induction wd using word_ind with
  | h0 => exact ⟨rfl, mem_run0.mp hx⟩
  | hs wd l _ =>
    obtain ⟨y, _, h⟩ := mem_runS.mp hx
    have : N.S ≤ x := plB_iff.mp hp _ h
    omega
theorem sorted_nodup {l : List Nat} (h : l.Pairwise (· < ·)) : l.Nodup := h.imp fun h => by omega
theorem sorted_len {l : List Nat} {n : Nat} (h : l.Pairwise (· < ·)) (lt : ∀ x ∈ l, x < n) : l.length ≤ n := by
  have := len_of_cover (sorted_nodup h) (c := List.range n) fun x hx => List.mem_range.mpr (lt x hx)
  rwa [List.length_range] at this
theorem Wf.fl (h : Wf N) : N.F.length ≤ N.n := sorted_len h.fs h.ff
/-! ### plain -/
def cpN (N : Net) (wd : List Nat) (b : Nat) : Nat := if wd = [] then b else N.inn b
theorem mem_plE {e : Tr} : e ∈ N.plE ↔ ∃ a b, (a, e.2.1, b) ∈ N.E ∧ e.2.2 = N.inn b ∧ (e.1 = a ∨ (a < N.S ∧ e.1 = N.n + a)) := by
  unfold Net.plE
  rw [List.mem_flatMap]
  constructor
  · rintro ⟨⟨a, l, b⟩, h1, h2⟩
    unfold Net.plS at h2
    rcases List.mem_cons.mp h2 with h | h
    · subst h
      exact ⟨a, b, h1, rfl, .inl rfl⟩
    · split at h
      · rename_i c
        have := List.mem_singleton.mp h
        subst this
        exact ⟨a, b, h1, rfl, .inr ⟨c, rfl⟩⟩
      · cases h
  · rintro ⟨a, b, h1, h2, h3⟩
    refine ⟨_, h1, ?_⟩
    obtain ⟨x, l, y⟩ := e
    simp only at h1 h2 h3
    unfold Net.plS
    rcases h3 with h | ⟨c, h⟩
    · rw [h, h2]
      exact List.mem_cons_self
    · refine List.mem_cons_of_mem _ ?_
      show (x, l, y) ∈ if a < N.S then _ else _
      rw [if_pos c, h, h2]
      exact List.mem_cons_self
theorem mem_plF {x : Nat} : x ∈ N.plF ↔ x ∈ N.F ∨ ∃ f ∈ N.F, f < N.S ∧ x = N.n + f := by
  unfold Net.plF
  rw [List.mem_append, List.mem_map]
  refine or_congr Iff.rfl ⟨?_, ?_⟩
  · rintro ⟨f, h1, h2⟩
    obtain ⟨h3, h4⟩ := List.mem_filter.mp h1
    exact ⟨f, h3, of_decide_eq_true h4, h2.symm⟩
  · rintro ⟨f, h1, h2, h3⟩
    exact ⟨f, List.mem_filter.mpr ⟨h1, decide_eq_true h2⟩, h3.symm⟩
theorem cp_eq {a a' : Nat} (ha : a < N.n) (ha' : a' < N.n) : (cpN N wd a = a' ∨ (a' < N.S ∧ cpN N wd a = N.n + a')) ↔ a = a' := by
  unfold cpN Net.inn
  by_cases c : wd = []
  · rw [if_pos c]
    omega
  · rw [if_neg c]
    split <;> omega
theorem run_plain (hw : Wf N) (hs : s < N.S) (hE : ∀ e, e ∈ E ↔ e ∈ N.plE) : y ∈ runE E [s] wd ↔ ∃ b ∈ runE N.E [s] wd, y = cpN N wd b := by
  induction wd using word_ind generalizing y with
  | h0 =>
    rw [mem_run0]
    exact ⟨fun e => ⟨s, mem_run0.mpr rfl, e⟩, fun ⟨b, h1, h2⟩ => h2.trans (mem_run0.mp h1)⟩
  | hs wd l ih =>
    rw [mem_runS]
    have ne : wd ++ [l] ≠ [] := by simp
    have e1 : ∀ b, cpN N (wd ++ [l]) b = N.inn b := fun b => if_neg ne
    constructor
    · rintro ⟨x, h1, h2⟩
      obtain ⟨a, h3, h4⟩ := ih.mp h1
      obtain ⟨a', b, h5, h6, h7⟩ := mem_plE.mp ((hE _).mp h2)
      simp only at h5 h6 h7
      rw [h4] at h7
      have := (cp_eq (run_lt hw hs a h3) (hw.ef _ h5).1).mp h7
      subst this
      exact ⟨b, mem_runS.mpr ⟨a, h3, h5⟩, by rw [e1]; exact h6⟩
    · rintro ⟨b, h1, h2⟩
      obtain ⟨a, h3, h4⟩ := mem_runS.mp h1
      refine ⟨cpN N wd a, ih.mpr ⟨a, h3, rfl⟩, (hE _).mpr (mem_plE.mpr ⟨a, b, h4, by rw [h2, e1], ?_⟩)⟩
      exact (cp_eq (run_lt hw hs a h3) (hw.ef _ h4).1).mpr rfl
theorem acc_plain (hw : Wf N) (hs : s < N.S) (hE : ∀ e, e ∈ M.E ↔ e ∈ N.plE) (hF : ∀ f, f ∈ M.F ↔ f ∈ N.plF) : M.acc s wd = N.acc s wd := by
  refine bool_ext ?_
  rw [acc_iff, acc_iff]
  have key : ∀ b ∈ runE N.E [s] wd, cpN N wd b ∈ M.F ↔ b ∈ N.F := fun b hb => by
    have lt := run_lt hw hs b hb
    rw [hF, mem_plF]
    constructor
    · rintro (h | ⟨f, h1, h2, h3⟩)
      · have := hw.ff _ h
        unfold cpN Net.inn at h this
        split at h
        · exact h
        · rename_i c
          rw [if_neg c] at this
          split at h
          · rename_i c2
            rw [if_pos c2] at this
            omega
          · exact h
      · have e := (cp_eq lt (hw.ff _ h1)).mp (.inr ⟨h2, h3⟩)
        rw [e]
        exact h1
    · intro h
      rcases (cp_eq (wd := wd) lt (hw.ff _ h)).mpr rfl with e | ⟨e1, e2⟩
      · rw [e]
        exact .inl h
      · exact .inr ⟨b, h, e1, e2⟩
  constructor
  · rintro ⟨x, h1, h2⟩
    obtain ⟨b, h3, h4⟩ := (run_plain hw hs hE).mp h1
    subst h4
    exact ⟨b, h3, (key b h3).mp h2⟩
  · rintro ⟨b, h1, h2⟩
    exact ⟨_, (run_plain hw hs hE).mpr ⟨b, h1, rfl⟩, (key b h1).mpr h2⟩
theorem plB_plain (hw : Wf N) (eS : M.S = N.S) (hE : ∀ e, e ∈ M.E ↔ e ∈ N.plE) : M.plB = true := by
  rw [plB_iff]
  intro e he
  obtain ⟨a, b, h1, h2, _⟩ := mem_plE.mp ((hE _).mp he)
  rw [h2, eS]
  have := hw.sn
  unfold Net.inn
  split <;> omega
/-! ### union -/
section
variable {A B : Net} {k : Nat}
theorem mem_unE {e : Tr} : e ∈ unE A B ↔ e ∈ A.E ∨ ∃ a b, (a, e.2.1, b) ∈ B.E ∧ e.1 = shN a B.S (A.n - A.S) ∧ e.2.2 = b + (A.n - A.S) := by
  unfold unE
  rw [List.mem_append, List.mem_map]
  refine or_congr Iff.rfl ⟨?_, ?_⟩
  · rintro ⟨⟨a, l, b⟩, h1, h2⟩
    subst h2
    exact ⟨a, b, h1, rfl, rfl⟩
  · rintro ⟨a, b, h1, h2, h3⟩
    refine ⟨_, h1, ?_⟩
    obtain ⟨x, l, y⟩ := e
    simp only at h2 h3
    unfold shE
    rw [h2, h3]
theorem mem_unF {x : Nat} : x ∈ unF A B ↔ x ∈ A.F ∨ ∃ f ∈ B.F, x = shN f B.S (A.n - A.S) := by
  unfold unF
  rw [List.mem_append, List.mem_map]
  exact or_congr Iff.rfl ⟨fun ⟨f, h1, h2⟩ => ⟨f, h1, h2.symm⟩, fun ⟨f, h1, h2⟩ => ⟨f, h1, h2.symm⟩⟩
theorem shN_inj {a b S k : Nat} (h : shN a S k = shN b S k) : a = b := by
  unfold shN at h
  split at h <;> split at h <;> omega
/-- x of the union is of the one or of the other -/
def UnR (A B : Net) (s : Nat) (wd : List Nat) (x : Nat) : Prop := x ∈ runE A.E [s] wd ∨ ∃ b ∈ runE B.E [s] wd, x = shN b B.S (A.n - A.S)
theorem un_step (wA : Wf A) (wB : Wf B) (pA : A.plB = true) (pB : B.plB = true) (eS : A.S = B.S) (hs : s < A.S) (hx : UnR A B s wd x) (he : (x, l, y) ∈ unE A B) :
    (x ∈ runE A.E [s] wd ∧ (x, l, y) ∈ A.E) ∨ ∃ a b, a ∈ runE B.E [s] wd ∧ (a, l, b) ∈ B.E ∧ x = shN a B.S (A.n - A.S) ∧ y = shN b B.S (A.n - A.S) := by
  have snA := wA.sn
  rcases mem_unE.mp he with h | ⟨a, b, h1, h2, h3⟩
  · rcases hx with h0 | ⟨c, h0, e0⟩
    · exact .inl ⟨h0, h⟩
    · have lt := (wA.ef _ h).1
      simp only at lt
      have cl : c < B.S := by
        unfold shN at e0
        split at e0 <;> omega
      obtain ⟨rfl, rfl⟩ := run_low pB h0 cl
      have : x = c := by
        unfold shN at e0
        rw [if_pos cl] at e0
        exact e0
      subst this
      exact .inl ⟨mem_run0.mpr rfl, h⟩
  · simp only at h1 h2 h3
    have bS : B.S ≤ b := plB_iff.mp pB _ h1
    have ey : y = shN b B.S (A.n - A.S) := by
      unfold shN
      rw [if_neg (by omega), h3]
    rcases hx with h0 | ⟨c, h0, e0⟩
    · have lt := run_lt wA hs x h0
      have al : a < B.S := by
        unfold shN at h2
        split at h2 <;> omega
      have ex : x = a := by
        unfold shN at h2
        rw [if_pos al] at h2
        exact h2
      subst ex
      obtain ⟨rfl, rfl⟩ := run_low pA h0 (by omega)
      exact .inr ⟨x, b, mem_run0.mpr rfl, h1, h2, ey⟩
    · have : c = a := shN_inj (e0.symm.trans h2)
      subst this
      exact .inr ⟨c, b, h0, h1, h2, ey⟩
theorem run_union (wA : Wf A) (wB : Wf B) (pA : A.plB = true) (pB : B.plB = true) (eS : A.S = B.S) (hs : s < A.S) (hE : ∀ e, e ∈ E ↔ e ∈ unE A B) : x ∈ runE E [s] wd ↔ UnR A B s wd x := by
  induction wd using word_ind generalizing x with
  | h0 =>
    rw [mem_run0]
    constructor
    · intro h
      exact .inl (mem_run0.mpr h)
    · rintro (h | ⟨b, h1, h2⟩)
      · exact mem_run0.mp h
      · have := mem_run0.mp h1
        subst this
        unfold shN at h2
        rw [if_pos (by omega)] at h2
        exact h2
  | hs wd l ih =>
    rw [mem_runS]
    constructor
    · rintro ⟨z, h1, h2⟩
      rcases un_step wA wB pA pB eS hs (ih.mp h1) ((hE _).mp h2) with ⟨h3, h4⟩ | ⟨a, b, h3, h4, h5, h6⟩
      · exact .inl (mem_runS.mpr ⟨z, h3, h4⟩)
      · exact .inr ⟨b, mem_runS.mpr ⟨a, h3, h4⟩, h6⟩
    · rintro (h | ⟨b, h1, h2⟩)
      · obtain ⟨z, h3, h4⟩ := mem_runS.mp h
        exact ⟨z, ih.mpr (.inl h3), (hE _).mpr (mem_unE.mpr (.inl h4))⟩
      · obtain ⟨z, h3, h4⟩ := mem_runS.mp h1
        have bS : B.S ≤ b := plB_iff.mp pB _ h4
        refine ⟨shN z B.S (A.n - A.S), ih.mpr (.inr ⟨z, h3, rfl⟩), (hE _).mpr (mem_unE.mpr (.inr ⟨z, b, h4, rfl, ?_⟩))⟩
        show x = b + (A.n - A.S)
        rw [h2]
        unfold shN
        rw [if_neg (show ¬ b < B.S by omega)]
theorem acc_union (wA : Wf A) (wB : Wf B) (pA : A.plB = true) (pB : B.plB = true) (eS : A.S = B.S) (hs : s < A.S) (hE : ∀ e, e ∈ M.E ↔ e ∈ unE A B) (hF : ∀ f, f ∈ M.F ↔ f ∈ unF A B) : M.acc s wd = (A.acc s wd || B.acc s wd) := by
  refine bool_ext ?_
  rw [Bool.or_eq_true, acc_iff, acc_iff, acc_iff]
  have snA := wA.sn
  constructor
  · rintro ⟨x, h1, h2⟩
    rcases (run_union wA wB pA pB eS hs hE).mp h1 with h3 | ⟨b, h3, h4⟩
    · rcases mem_unF.mp ((hF _).mp h2) with h5 | ⟨f, h5, h6⟩
      · exact .inl ⟨x, h3, h5⟩
      · have lt := run_lt wA hs x h3
        have fl : f < B.S := by
          unfold shN at h6
          split at h6 <;> omega
        have ex : x = f := by
          unfold shN at h6
          rw [if_pos fl] at h6
          exact h6
        subst ex
        obtain ⟨rfl, rfl⟩ := run_low pA h3 (by omega)
        exact .inr ⟨x, mem_run0.mpr rfl, h5⟩
    · rcases mem_unF.mp ((hF _).mp h2) with h5 | ⟨f, h5, h6⟩
      · have lt := wA.ff _ h5
        have bl : b < B.S := by
          unfold shN at h4
          split at h4 <;> omega
        have ex : x = b := by
          unfold shN at h4
          rw [if_pos bl] at h4
          exact h4
        subst ex
        obtain ⟨rfl, rfl⟩ := run_low pB h3 bl
        exact .inl ⟨x, mem_run0.mpr rfl, h5⟩
      · have : b = f := shN_inj (h4.symm.trans h6)
        subst this
        exact .inr ⟨b, h3, h5⟩
  · rintro (⟨x, h1, h2⟩ | ⟨x, h1, h2⟩)
    · exact ⟨x, (run_union wA wB pA pB eS hs hE).mpr (.inl h1), (hF _).mpr (mem_unF.mpr (.inl h2))⟩
    · exact ⟨_, (run_union wA wB pA pB eS hs hE).mpr (.inr ⟨x, h1, rfl⟩), (hF _).mpr (mem_unF.mpr (.inr ⟨x, h2, rfl⟩))⟩
theorem plB_union (pA : A.plB = true) (pB : B.plB = true) (eS : A.S = B.S) (eM : M.S = A.S) (hE : ∀ e, e ∈ M.E ↔ e ∈ unE A B) : M.plB = true := by
  rw [plB_iff]
  intro e he
  rcases mem_unE.mp ((hE _).mp he) with h | ⟨a, b, h1, _, h3⟩
  · have := plB_iff.mp pA _ h
    omega
  · have := plB_iff.mp pB _ h1
    simp only at this
    omega
end
/-! ### both -/
section
variable {A B : Net} {R : Nat × Nat → Prop} {ps : List (Nat × Nat)} {es : List Tr} {z : Nat}
theorem mem_gpE {E1 E2 : List Tr} {p q : Nat × Nat} : q ∈ gpE E1 E2 p l ↔ (p.1, l, q.1) ∈ E1 ∧ (p.2, l, q.2) ∈ E2 := by
  unfold gpE
  rw [List.mem_flatMap]
  constructor
  · rintro ⟨x, h1, h2⟩
    obtain ⟨y, h3, h4⟩ := List.mem_map.mp h2
    subst h4
    exact ⟨mem_goalsE.mp h1, mem_goalsE.mp h3⟩
  · rintro ⟨h1, h2⟩
    exact ⟨q.1, mem_goalsE.mpr h1, List.mem_map.mpr ⟨q.2, mem_goalsE.mpr h2, rfl⟩⟩
theorem full_pre {α : Type} {evs : α → Nat → List α} {L : Nat} {st : List α} {R : α → Prop} {ps : List α} {es : List Tr} (fu : Full evs L st R ps es) {i : Nat} {p : α} (h : st[i]? = some p) : ps[i]? = some p := by
  obtain ⟨r, e⟩ := fu.pre
  rw [e]
  have lt := (List.getElem?_eq_some_iff.mp h).1
  rw [List.getElem?_append_left lt]
  exact h
variable (fu : Full (gpE A.E B.E) A.L (diag A.S) R ps es) (hE : ∀ e, e ∈ E ↔ e ∈ es)
include fu
theorem both_in (hs : s < A.S) (hw : Ov A.L wd) {p : Nat × Nat} (h1 : p.1 ∈ runE A.E [s] wd) (h2 : p.2 ∈ runE B.E [s] wd) : p ∈ ps := by
  induction wd using word_ind generalizing p with
  | h0 =>
    have e1 := mem_run0.mp h1
    have e2 := mem_run0.mp h2
    obtain ⟨a, b⟩ := p
    simp only at e1 e2
    subst e1 e2
    exact List.mem_of_getElem? (full_pre fu (diag_get hs))
  | hs wd l ih =>
    obtain ⟨a, h3, h4⟩ := mem_runS.mp h1
    obtain ⟨b, h5, h6⟩ := mem_runS.mp h2
    exact fu.cls (a, b) (ih hw.init h3 h5) l hw.last p (mem_gpE.mpr ⟨h4, h6⟩)
include hE
theorem run_both (hs : s < A.S) (hw : Ov A.L wd) : z ∈ runE E [s] wd ↔ ∃ p, ps[z]? = some p ∧ p.1 ∈ runE A.E [s] wd ∧ p.2 ∈ runE B.E [s] wd := by
  induction wd using word_ind generalizing z with
  | h0 =>
    rw [mem_run0]
    constructor
    · rintro rfl
      exact ⟨_, full_pre fu (diag_get hs), mem_run0.mpr rfl, mem_run0.mpr rfl⟩
    · rintro ⟨⟨a, b⟩, h1, h2, h3⟩
      have e1 := mem_run0.mp h2
      have e2 := mem_run0.mp h3
      simp only at e1 e2
      subst e1 e2
      exact nodup_at fu.nod h1 (full_pre fu (diag_get hs))
  | hs wd l ih =>
    rw [mem_runS]
    constructor
    · rintro ⟨t, h1, h2⟩
      obtain ⟨p, h3, h4, h5⟩ := (ih hw.init).mp h1
      obtain ⟨p', q, h6, h7, h8, h9⟩ := (fu.eb _ _ _).mp ((hE _).mp h2)
      rw [h3] at h6
      cases h6
      obtain ⟨g1, g2⟩ := mem_gpE.mp h8
      exact ⟨q, h9, mem_runS.mpr ⟨_, h4, g1⟩, mem_runS.mpr ⟨_, h5, g2⟩⟩
    · rintro ⟨q, h1, h2, h3⟩
      obtain ⟨a, h4, h5⟩ := mem_runS.mp h2
      obtain ⟨b, h6, h7⟩ := mem_runS.mp h3
      obtain ⟨t, ht⟩ := List.mem_iff_getElem?.mp (both_in fu (p := (a, b)) hs hw.init h4 h6)
      exact ⟨t, (ih hw.init).mpr ⟨(a, b), ht, h4, h6⟩, (hE _).mpr ((fu.eb _ _ _).mpr ⟨(a, b), q, ht, hw.last, mem_gpE.mpr ⟨h5, h7⟩, h1⟩)⟩
end
section
variable {A B : Net} {R : Nat × Nat → Prop} {ps : List (Nat × Nat)} {es : List Tr} {z : Nat}
theorem acc_both (fu : Full (gpE A.E B.E) A.L (diag A.S) R ps es) (hE : ∀ e, e ∈ M.E ↔ e ∈ es) (hF : ∀ f, f ∈ M.F ↔ f ∈ endsA (endsB A B) 0 ps) (hs : s < A.S) (hw : Ov A.L wd) : M.acc s wd = (A.acc s wd && B.acc s wd) := by
  refine bool_ext ?_
  rw [Bool.and_eq_true, acc_iff, acc_iff, acc_iff]
  constructor
  · rintro ⟨z, h1, h2⟩
    obtain ⟨p, h3, h4, h5⟩ := (run_both fu hE hs hw).mp h1
    obtain ⟨j, q, e, h6, h7⟩ := mem_endsA.mp ((hF _).mp h2)
    rw [Nat.zero_add] at e
    subst e
    rw [h3] at h6
    cases h6
    unfold endsB at h7
    rw [Bool.and_eq_true] at h7
    exact ⟨⟨_, h4, of_decide_eq_true h7.1⟩, ⟨_, h5, of_decide_eq_true h7.2⟩⟩
  · rintro ⟨⟨a, h1, h2⟩, ⟨b, h3, h4⟩⟩
    obtain ⟨z, hz⟩ := List.mem_iff_getElem?.mp (both_in fu (p := (a, b)) hs hw h1 h3)
    refine ⟨z, (run_both fu hE hs hw).mpr ⟨(a, b), hz, h1, h3⟩, (hF _).mpr (mem_endsA.mpr ⟨z, (a, b), (Nat.zero_add _).symm, hz, ?_⟩)⟩
    unfold endsB
    rw [Bool.and_eq_true]
    exact ⟨decide_eq_true h2, decide_eq_true h4⟩
theorem plB_both (pA : A.plB = true) (fu : Full (gpE A.E B.E) A.L (diag A.S) R ps es) (eM : M.S = A.S) (hE : ∀ e, e ∈ M.E ↔ e ∈ es) : M.plB = true := by
  rw [plB_iff]
  rintro ⟨t, l, z⟩ he
  obtain ⟨p, q, _, _, h3, h4⟩ := (fu.eb _ _ _).mp ((hE _).mp he)
  have := plB_iff.mp pA _ (mem_gpE.mp h3).1
  simp only at this
  show M.S ≤ z
  rcases Nat.lt_or_ge z M.S with lt | ge
  · have := full_pre fu (diag_get (S := A.S) (i := z) (by omega))
    rw [h4] at this
    cases this
    omega
  · exact ge
end
/-! ### deterministic, other -/
section
variable {A : Net} {R : List Nat → Prop} {ps : List (List Nat)} {es : List Tr} {z : Nat}
theorem mem_mvs {q p : List Nat} : q ∈ mvs E p l ↔ q = mvE E p l := by
  unfold mvs
  exact List.mem_singleton
theorem run_det (fu : Full (mvs A.E) A.L (sing A.S) R ps es) (hE : ∀ e, e ∈ E ↔ e ∈ es) (hs : s < A.S) (hw : Ov A.L wd) : z ∈ runE E [s] wd ↔ ps[z]? = some (runE A.E [s] wd) := by
  induction wd using word_ind generalizing z with
  | h0 =>
    rw [mem_run0]
    constructor
    · rintro rfl
      exact full_pre fu (sing_get hs)
    · intro h
      exact nodup_at fu.nod h (full_pre fu (sing_get hs))
  | hs wd l ih =>
    rw [mem_runS, runE_snoc]
    constructor
    · rintro ⟨t, h1, h2⟩
      have h3 := (ih hw.init).mp h1
      obtain ⟨p', q, h6, h7, h8, h9⟩ := (fu.eb _ _ _).mp ((hE _).mp h2)
      rw [h3] at h6
      cases h6
      rw [mem_mvs] at h8
      rw [h9, h8]
    · intro h
      obtain ⟨t, ht⟩ : ∃ t, ps[t]? = some (runE A.E [s] wd) := by
        have : ∀ wd, Ov A.L wd → runE A.E [s] wd ∈ ps := fun wd => by
          induction wd using word_ind with
          | h0 => exact fun _ => List.mem_of_getElem? (full_pre fu (sing_get hs))
          | hs wd l ih => exact fun hw => fu.cls _ (ih hw.init) l hw.last _ (by rw [mem_mvs, runE_snoc])
        exact List.mem_iff_getElem?.mp (this wd hw.init)
      exact ⟨t, (ih hw.init).mpr ht, (hE _).mpr ((fu.eb _ _ _).mpr ⟨_, _, ht, hw.last, mem_mvs.mpr rfl, h⟩)⟩
theorem det_in (fu : Full (mvs A.E) A.L (sing A.S) R ps es) (hs : s < A.S) : ∀ wd, Ov A.L wd → runE A.E [s] wd ∈ ps := fun wd => by
  induction wd using word_ind with
  | h0 => exact fun _ => List.mem_of_getElem? (full_pre fu (sing_get hs))
  | hs wd l ih => exact fun hw => fu.cls _ (ih hw.init) l hw.last _ (by rw [mem_mvs, runE_snoc])
theorem acc_det (fu : Full (mvs A.E) A.L (sing A.S) R ps es) (hE : ∀ e, e ∈ M.E ↔ e ∈ es) (hF : ∀ f, f ∈ M.F ↔ f ∈ endsA (hasE A.F) 0 ps) (hs : s < A.S) (hw : Ov A.L wd) : M.acc s wd = A.acc s wd := by
  refine bool_ext ?_
  rw [acc_iff]
  constructor
  · rintro ⟨z, h1, h2⟩
    have h3 := (run_det fu hE hs hw).mp h1
    obtain ⟨j, q, e, h6, h7⟩ := mem_endsA.mp ((hF _).mp h2)
    rw [Nat.zero_add] at e
    subst e
    rw [h3] at h6
    cases h6
    exact h7
  · intro h
    obtain ⟨z, hz⟩ := List.mem_iff_getElem?.mp (det_in fu hs wd hw)
    exact ⟨z, (run_det fu hE hs hw).mpr hz, (hF _).mpr (mem_endsA.mpr ⟨z, _, (Nat.zero_add _).symm, hz, h⟩)⟩
theorem acc_other {D : Net} (fu : Full (mvs A.E) A.L (sing A.S) R ps es) (hD : ∀ e, e ∈ D.E ↔ e ∈ es) (eD : D.n = ps.length) (hE : ∀ e, e ∈ M.E ↔ e ∈ D.E) (hF : ∀ f, f ∈ M.F ↔ f ∈ othF D) (hs : s < A.S) (hw : Ov A.L wd) : M.acc s wd = !D.acc s wd := by
  have hE' : ∀ e, e ∈ M.E ↔ e ∈ es := fun e => (hE e).trans (hD e)
  obtain ⟨z, hz⟩ := List.mem_iff_getElem?.mp (det_in fu hs wd hw)
  have u1 : ∀ y, y ∈ runE M.E [s] wd ↔ y = z := fun y => by
    rw [run_det fu hE' hs hw]
    exact ⟨fun h => nodup_at fu.nod h hz, fun h => by rw [h]; exact hz⟩
  have u2 : ∀ y, y ∈ runE D.E [s] wd ↔ y = z := fun y => by
    rw [run_det fu hD hs hw]
    exact ⟨fun h => nodup_at fu.nod h hz, fun h => by rw [h]; exact hz⟩
  have zl : z < D.n := by
    rw [eD]
    exact (List.getElem?_eq_some_iff.mp hz).1
  have a1 : M.acc s wd = true ↔ ¬ z ∈ D.F := by
    rw [acc_iff]
    have o : z ∈ M.F ↔ ¬ z ∈ D.F := by
      rw [hF]
      unfold othF
      rw [List.mem_filter, List.mem_range]
      simp [zl]
    exact ⟨fun ⟨x, h1, h2⟩ => by rw [(u1 x).mp h1] at h2; exact o.mp h2, fun h => ⟨z, (u1 z).mpr rfl, o.mpr h⟩⟩
  have a2 : D.acc s wd = true ↔ z ∈ D.F := by
    rw [acc_iff]
    exact ⟨fun ⟨x, h1, h2⟩ => by rw [(u2 x).mp h1] at h2; exact h2, fun h => ⟨z, (u2 z).mpr rfl, h⟩⟩
  cases e1 : M.acc s wd <;> cases e2 : D.acc s wd <;> simp_all
theorem plB_det (pA : A.plB = true) (fu : Full (mvs A.E) A.L (sing A.S) R ps es) (eM : M.S = A.S) (hE : ∀ e, e ∈ M.E ↔ e ∈ es) : M.plB = true := by
  rw [plB_iff]
  rintro ⟨t, l, z⟩ he
  obtain ⟨p, q, _, _, h3, h4⟩ := (fu.eb _ _ _).mp ((hE _).mp he)
  show M.S ≤ z
  rcases Nat.lt_or_ge z M.S with lt | ge
  · have := full_pre fu (sing_get (S := A.S) (i := z) (by omega))
    rw [h4] at this
    cases this
    rw [mem_mvs] at h3
    have : z ∈ mvE A.E p l := by
      rw [← h3]
      exact List.mem_singleton.mpr rfl
    obtain ⟨x, _, h5⟩ := mem_mvE.mp this
    have := plB_iff.mp pA _ h5
    simp only at this
    omega
  · exact ge
end
end
end K23
/-! K23Mb -/
set_option Elab.async false
set_option linter.all false
set_option maxRecDepth 100000
set_option maxHeartbeats 4000000
/-! The plain law: how large the nets that are made can be. -/
namespace K23
theorem Full.ex {α : Type} {evs : α → Nat → List α} {L : Nat} {st : List α} {R : α → Prop} {ps : List α} {es : List Tr} (fu : Full evs L st R ps es) : Ex evs L st R ps es (fun t l q => ∃ p, ps[t]? = some p ∧ l < L ∧ q ∈ evs p l) :=
  ⟨fu.nod, fu.pre, fu.rch, fu.esn, fun t l z => ⟨fun h => let ⟨p, q, a, b, c, d⟩ := (fu.eb t l z).mp h; ⟨q, ⟨p, a, b, c⟩, d⟩, fun ⟨q, ⟨p, a, b, c⟩, d⟩ => (fu.eb t l z).mpr ⟨p, q, a, b, c, d⟩⟩, fun t l q ⟨p, a, b, c⟩ => ⟨fu.cls p (List.mem_of_getElem? a) l b q c, b, p, a, c⟩⟩
def fnd {α : Type} [DecidableEq α] : List α → α → Nat
  | [], _ => 0
  | q :: r, p => if q = p then 0 else fnd r p + 1
theorem fnd_eq {α : Type} [DecidableEq α] : ∀ {ps : List α} {z : Nat} {p : α}, ps.Nodup → ps[z]? = some p → fnd ps p = z
  | [], z, p, _, h => by simp at h
  | q :: r, 0, p, _, h => by
    simp at h
    unfold fnd
    rw [if_pos h]
  | q :: r, z + 1, p, nd, h => by
    have h' : r[z]? = some p := by simpa using h
    obtain ⟨n1, n2⟩ := List.nodup_cons.mp nd
    unfold fnd
    rw [if_neg (fun e => n1 (by rw [e]; exact List.mem_of_getElem? h')), fnd_eq n2 h']
def prod2 {α β γ : Type} (f : α → β → γ) (a : List α) (b : List β) : List γ := a.flatMap fun x => b.map (f x)
theorem prod2_len {α β γ : Type} (f : α → β → γ) (b : List β) : ∀ a : List α, (prod2 f a b).length = a.length * b.length
  | [] => by simp [prod2]
  | x :: a => by
    have := prod2_len f b a
    unfold prod2 at this ⊢
    rw [List.flatMap_cons, List.length_append, this, List.length_map, List.length_cons, Nat.succ_mul]
    omega
theorem mem_prod2 {α β γ : Type} {f : α → β → γ} {a : List α} {b : List β} {x : α} {y : β} (hx : x ∈ a) (hy : y ∈ b) : f x y ∈ prod2 f a b :=
  List.mem_flatMap.mpr ⟨x, hx, List.mem_map_of_mem hy⟩
theorem flm_len {α β : Type} {f : α → List β} {m : Nat} : ∀ {a : List α}, (∀ x ∈ a, (f x).length ≤ m) → (a.flatMap f).length ≤ a.length * m
  | [], _ => by simp
  | x :: a, h => by
    have h1 := h x List.mem_cons_self
    have h2 := flm_len (a := a) fun y hy => h y (List.mem_cons_of_mem _ hy)
    rw [List.flatMap_cons, List.length_append, List.length_cons, Nat.succ_mul]
    omega
/-- all lists that go on in l -/
def subsOf : List Nat → List (List Nat)
  | [] => [[]]
  | x :: r => subsOf r ++ (subsOf r).map (x :: ·)
theorem subsOf_len : ∀ l : List Nat, (subsOf l).length = 2 ^ l.length
  | [] => rfl
  | x :: r => by
    unfold subsOf
    rw [List.length_append, List.length_map, subsOf_len r, List.length_cons, Nat.pow_succ]
    omega
theorem mem_subsOf : ∀ {l g : List Nat}, l.Pairwise (· < ·) → g.Pairwise (· < ·) → (∀ x ∈ g, x ∈ l) → g ∈ subsOf l
  | [], [], _, _, _ => List.mem_singleton.mpr rfl
  | [], y :: g, _, _, h => nomatch h y List.mem_cons_self
  | x :: r, [], h1, _, _ => List.mem_append_left _ (mem_subsOf (List.pairwise_cons.mp h1).2 .nil fun x h => nomatch h)
  | x :: r, y :: g, h1, h2, h => by
    obtain ⟨a1, a2⟩ := List.pairwise_cons.mp h1
    obtain ⟨b1, b2⟩ := List.pairwise_cons.mp h2
    unfold subsOf
    by_cases e : y = x
    · subst e
      refine List.mem_append_right _ (List.mem_map_of_mem (mem_subsOf a2 b2 fun z hz => ?_))
      rcases List.mem_cons.mp (h z (List.mem_cons_of_mem _ hz)) with e | m
      · subst e
        have := b1 z hz
        omega
      · exact m
    · have yr : y ∈ r := (List.mem_cons.mp (h y List.mem_cons_self)).resolve_left e
      refine List.mem_append_left _ (mem_subsOf a2 h2 fun z hz => ?_)
      rcases List.mem_cons.mp (h z hz) with e2 | m
      · subst e2
        have := a1 y yr
        rcases List.mem_cons.mp hz with e3 | m
        · exact absurd e3.symm e
        · have := b1 z m
          omega
      · exact m
theorem range_sorted (n : Nat) : (List.range n).Pairwise (· < ·) := List.pairwise_lt_range
theorem add_le_mul2 {x y : Nat} (hx : 2 ≤ x) (hy : 2 ≤ y) : x + y ≤ x * y := by
  have h1 := Nat.mul_le_mul_right y hx
  have h2 := Nat.mul_le_mul_left x hy
  omega
section
variable {C : Type} {S L : Nat} {κ : Nat → List Nat → C} {cls : List C}
structure Ctx (S L : Nat) (κ : Nat → List Nat → C) (cls : List C) : Prop where
  s1 : 1 ≤ S
  l1 : 1 ≤ L
  l2 : L ≤ 2
  mem : ∀ s wd, s < S → Ov L wd → κ s wd ∈ cls
  len : cls.length ≤ 515
abbrev Lang := Nat → List Nat → Bool
structure Gd (S L : Nat) (κ : Nat → List Nat → C) (cls : List C) (k : Nat) (lg : Lang) (M : Net) : Prop where
  wf : Wf M
  eS : M.S = S
  eL : M.L = L
  n : M.n ≤ 600 * 3 ^ k
  e : M.E.length ≤ 1030 * 8 ^ k
  pl : M.plB = true
  ac : ∀ s wd, s < S → Ov L wd → M.acc s wd = lg s wd
  f : ∃ f : C → List Nat, (∀ c ∈ cls, (f c).length ≤ 3 ^ k) ∧ ∀ s wd x, s < S → Ov L wd → x ∈ runE M.E [s] wd → x ∈ f (κ s wd)
  g : ∃ g : C → Nat → List (Nat × Nat), (∀ c ∈ cls, ∀ l, (g c l).length ≤ 8 ^ k) ∧ ∀ s wd l x y, s < S → Ov L wd → l < L → x ∈ runE M.E [s] wd → (x, l, y) ∈ M.E → (x, y) ∈ g (κ s wd) l
structure G0 (S L : Nat) (κ : Nat → List Nat → C) (cls : List C) (k : Nat) (lg : Lang) (M : Net) : Prop where
  pre : PlainPre M
  eS : M.S = S
  eL : M.L = L
  go : ∀ M', Wf M' → PlainOf M M' → Gd S L κ cls k lg M'
theorem PlainOf.same {N M : Net} (h : PlainOf N M) (p : N.plB = true) : M = N := by
  rcases h with h | ⟨h, _⟩
  · exact h.2
  · rw [p] at h
    cases h
theorem Gd.g0 {k : Nat} {lg : Lang} {M : Net} (h : Gd S L κ cls k lg M) : G0 S L κ cls k lg M := ⟨.inl h.pl, h.eS, h.eL, fun M' _ p => by rw [p.same h.pl]; exact h⟩
theorem Gd.mono {k j : Nat} {lg : Lang} {M : Net} (h : Gd S L κ cls k lg M) (kj : k ≤ j) : Gd S L κ cls j lg M := by
  have p3 : 3 ^ k ≤ 3 ^ j := Nat.pow_le_pow_right (by decide) kj
  have p8 : 8 ^ k ≤ 8 ^ j := Nat.pow_le_pow_right (by decide) kj
  obtain ⟨f, f1, f2⟩ := h.f
  obtain ⟨g, g1, g2⟩ := h.g
  have hn := h.n
  have he := h.e
  exact ⟨h.wf, h.eS, h.eL, by omega, by omega, h.pl, h.ac, ⟨f, fun c hc => Nat.le_trans (f1 c hc) p3, f2⟩, ⟨g, fun c hc l => Nat.le_trans (g1 c hc l) p8, g2⟩⟩
theorem Gd.cong {k : Nat} {lg lg' : Lang} {M : Net} (h : Gd S L κ cls k lg M) (e : ∀ s wd, s < S → Ov L wd → lg s wd = lg' s wd) : Gd S L κ cls k lg' M := ⟨h.wf, h.eS, h.eL, h.n, h.e, h.pl, fun s wd hs hw => (h.ac s wd hs hw).trans (e s wd hs hw), h.f, h.g⟩
variable {a b : Nat} {la lb : Lang} {A B : Net}
theorem good_union (cx : Ctx S L κ cls) (a1 : 1 ≤ a) (b1 : 1 ≤ b) (ab : a + b ≤ 4) (hA : G0 S L κ cls a la A) (hB : G0 S L κ cls b lb B) : UnionPre A B ∧ ∀ M, Wf M → UnionOf A B M → Gd S L κ cls (a + b) (fun s wd => la s wd || lb s wd) M := by
  have x3 : 3 ≤ 3 ^ a := Nat.pow_le_pow_right (n := 3) (by decide) a1
  have y3 : 3 ≤ 3 ^ b := Nat.pow_le_pow_right (n := 3) (by decide) b1
  have x8 : 8 ≤ 8 ^ a := Nat.pow_le_pow_right (n := 8) (by decide) a1
  have y8 : 8 ≤ 8 ^ b := Nat.pow_le_pow_right (n := 8) (by decide) b1
  have m3 : 3 ^ a + 3 ^ b ≤ 3 ^ (a + b) := by
    rw [Nat.pow_add]
    exact add_le_mul2 (by omega) (by omega)
  have m8 : 8 ^ a + 8 ^ b ≤ 8 ^ (a + b) := by
    rw [Nat.pow_add]
    exact add_le_mul2 (by omega) (by omega)
  have t3 : 3 ^ (a + b) ≤ 81 := Nat.pow_le_pow_right (n := 3) (j := 4) (by decide) ab
  have t8 : 8 ^ (a + b) ≤ 4096 := Nat.pow_le_pow_right (n := 8) (j := 4) (by decide) ab
  refine ⟨⟨by rw [hA.eS, hB.eS], by rw [hA.eL, hB.eL], hA.pre, hB.pre, fun A' B' wA wB pA pB => ?_⟩, fun M wM uo => ?_⟩
  · have gA := hA.go A' wA pA
    have gB := hB.go B' wB pB
    have n1 := gA.n
    have n2 := gB.n
    have e1 := gA.e
    have e2 := gB.e
    have f1 := wA.fl
    have f2 := wB.fl
    have sA := gA.eS
    have sB := gB.eS
    have lA := gA.eL
    have lB := gB.eL
    have hsn := wA.sn
    have hsn2 := wB.sn
    refine ⟨wA.s1, wA.l1, wA.l2, by omega, by omega, fun e he => ?_, fun f hf => ?_, ?_, ?_⟩
    · rcases mem_unE.mp he with h | ⟨x, y, h1, h2, h3⟩
      · have := wA.ef _ h
        omega
      · have := wB.ef _ h1
        simp only at this
        rw [h2, h3]
        refine ⟨?_, by omega, by omega⟩
        unfold shN
        split <;> omega
    · rcases mem_unF.mp hf with h | ⟨x, h1, h2⟩
      · have := wA.ff _ h
        omega
      · have := wB.ff _ h1
        rw [h2]
        unfold shN
        split <;> omega
    · unfold unE
      rw [List.length_append, List.length_map]
      omega
    · unfold unF
      rw [List.length_append, List.length_map]
      omega
  · obtain ⟨A', B', wA, wB, pA, pB, md⟩ := uo
    have gA := hA.go A' wA pA
    have gB := hB.go B' wB pB
    obtain ⟨m1, m2, m4, mE, ml, mF⟩ := md
    have n1 := gA.n
    have n2 := gB.n
    have e1 := gA.e
    have e2 := gB.e
    have eS : A'.S = B'.S := gA.eS.trans gB.eS.symm
    have sA := gA.eS
    obtain ⟨fA, fA1, fA2⟩ := gA.f
    obtain ⟨fB, fB1, fB2⟩ := gB.f
    obtain ⟨gA', gA1, gA2⟩ := gA.g
    obtain ⟨gB', gB1, gB2⟩ := gB.g
    refine ⟨wM, by rw [m1, gA.eS], by rw [m2, gA.eL], by omega, ?_, plB_union gA.pl gB.pl eS m1 mE, fun s wd hs hw => ?_, ⟨fun c => fA c ++ (fB c).map fun x => shN x B'.S (A'.n - A'.S), fun c hc => ?_, fun s wd x hs hw hx => ?_⟩, ⟨fun c l => gA' c l ++ (gB' c l).map fun p => (shN p.1 B'.S (A'.n - A'.S), shN p.2 B'.S (A'.n - A'.S)), fun c hc l => ?_, fun s wd l x y hs hw hl hx he => ?_⟩⟩
    · unfold unE at ml
      rw [List.length_append, List.length_map] at ml
      omega
    · rw [acc_union wA wB gA.pl gB.pl eS (by omega) mE mF, gA.ac s wd hs hw, gB.ac s wd hs hw]
    · rw [List.length_append, List.length_map]
      have := fA1 c hc
      have := fB1 c hc
      omega
    · rcases (run_union wA wB gA.pl gB.pl eS (by omega) mE).mp hx with h | ⟨z, h1, h2⟩
      · exact List.mem_append_left _ (fA2 s wd x hs hw h)
      · rw [h2]
        exact List.mem_append_right _ (List.mem_map_of_mem (fB2 s wd z hs hw h1))
    · rw [List.length_append, List.length_map]
      have := gA1 c hc l
      have := gB1 c hc l
      omega
    · rcases un_step wA wB gA.pl gB.pl eS (by omega) ((run_union wA wB gA.pl gB.pl eS (by omega) mE).mp hx) ((mE _).mp he) with ⟨h1, h2⟩ | ⟨u, v, h1, h2, h3, h4⟩
      · exact List.mem_append_left _ (gA2 s wd l x y hs hw hl h1 h2)
      · rw [h3, h4]
        exact List.mem_append_right _ (List.mem_map_of_mem (f := fun p : Nat × Nat => (shN p.1 B'.S (A'.n - A'.S), shN p.2 B'.S (A'.n - A'.S))) (gB2 s wd l u v hs hw hl h1 h2))
theorem pcov_of (cx : Ctx S L κ cls) {A' B' : Net} (gA : Gd S L κ cls a la A') (gB : Gd S L κ cls b lb B') :
    ∃ (cp : List (Nat × Nat)) (ce : List ((Nat × Nat) × Nat × (Nat × Nat))), cp.length ≤ 515 * 3 ^ (a + b) ∧ ce.length ≤ 1030 * 8 ^ (a + b) ∧ (∀ s, s < A'.S → RchB A' B' (s, s)) ∧ (∀ p l q, RchB A' B' p → l < A'.L → q ∈ gpE A'.E B'.E p l → RchB A' B' q) ∧ (∀ p, RchB A' B' p → p ∈ cp) ∧ (∀ p l q, RchB A' B' p → l < A'.L → q ∈ gpE A'.E B'.E p l → (p, l, q) ∈ ce) := by
  obtain ⟨fA, fA1, fA2⟩ := gA.f
  obtain ⟨fB, fB1, fB2⟩ := gB.f
  obtain ⟨gA', gA1, gA2⟩ := gA.g
  obtain ⟨gB', gB1, gB2⟩ := gB.g
  have sA := gA.eS
  have lA := gA.eL
  refine ⟨cls.flatMap fun c => prod2 (fun x y => (x, y)) (fA c) (fB c), cls.flatMap fun c => (List.range L).flatMap fun l => prod2 (fun p q => ((p.1, q.1), l, (p.2, q.2))) (gA' c l) (gB' c l), ?_, ?_, fun s hs => ⟨s, [], hs, Ov.nil _, mem_run0.mpr rfl, mem_run0.mpr rfl⟩, fun p l q ⟨s, wd, h1, h2, h3, h4⟩ hl hq => ?_, fun p ⟨s, wd, h1, h2, h3, h4⟩ => ?_, fun p l q ⟨s, wd, h1, h2, h3, h4⟩ hl hq => ?_⟩
  · refine Nat.le_trans (flm_len (m := 3 ^ (a + b)) fun c hc => ?_) (Nat.mul_le_mul_right _ cx.len)
    rw [prod2_len, Nat.pow_add]
    exact Nat.mul_le_mul (fA1 c hc) (fB1 c hc)
  · have key : ∀ c ∈ cls, ((List.range L).flatMap fun l => prod2 (fun p q => ((p.1, q.1), l, (p.2, q.2))) (gA' c l) (gB' c l)).length ≤ 2 * 8 ^ (a + b) := fun c hc => by
      refine Nat.le_trans (flm_len (m := 8 ^ (a + b)) fun l _ => ?_) ?_
      · rw [prod2_len, Nat.pow_add]
        exact Nat.mul_le_mul (gA1 c hc l) (gB1 c hc l)
      · rw [List.length_range]
        exact Nat.mul_le_mul_right _ cx.l2
    have := flm_len key
    refine Nat.le_trans this ?_
    have := Nat.mul_le_mul_right (2 * 8 ^ (a + b)) cx.len
    omega
  · obtain ⟨q1, q2⟩ := mem_gpE.mp hq
    exact ⟨s, wd ++ [l], h1, Ov.snoc h2 hl, mem_runS.mpr ⟨_, h3, q1⟩, mem_runS.mpr ⟨_, h4, q2⟩⟩
  · have ov : Ov L wd := by rw [← lA]; exact h2
    exact List.mem_flatMap.mpr ⟨κ s wd, cx.mem s wd (by omega) ov, mem_prod2 (f := fun x y => (x, y)) (fA2 s wd p.1 (by omega) ov h3) (fB2 s wd p.2 (by omega) ov h4)⟩
  · have ov : Ov L wd := by rw [← lA]; exact h2
    obtain ⟨q1, q2⟩ := mem_gpE.mp hq
    exact List.mem_flatMap.mpr ⟨κ s wd, cx.mem s wd (by omega) ov, List.mem_flatMap.mpr ⟨l, List.mem_range.mpr (by omega), mem_prod2 (f := fun p q : Nat × Nat => ((p.1, q.1), l, (p.2, q.2))) (gA2 s wd l p.1 q.1 (by omega) ov (by omega) h3 q1) (gB2 s wd l p.2 q.2 (by omega) ov (by omega) h4 q2)⟩⟩
theorem good_both (cx : Ctx S L κ cls) (ab : a + b ≤ 4) (hA : G0 S L κ cls a la A) (hB : G0 S L κ cls b lb B) : BothPre A B ∧ ∀ M, Wf M → BothOf A B M → Gd S L κ cls (a + b) (fun s wd => la s wd && lb s wd) M := by
  have t3 : 3 ^ (a + b) ≤ 81 := Nat.pow_le_pow_right (n := 3) (j := 4) (by decide) ab
  have t8 : 8 ^ (a + b) ≤ 4096 := Nat.pow_le_pow_right (n := 8) (j := 4) (by decide) ab
  refine ⟨⟨by rw [hA.eS, hB.eS], by rw [hA.eL, hB.eL], hA.pre, hB.pre, fun A' B' wA wB pA pB => ?_⟩, fun M wM bo => ?_⟩
  · obtain ⟨cp, ce, h1, h2, h3, h4, h5, h6⟩ := pcov_of cx (hA.go A' wA pA) (hB.go B' wB pB)
    exact ⟨_, cp, ce, rfl, h3, h4, h5, by omega, h6, by omega⟩
  · obtain ⟨A', B', R, ps, es, eR, wA, wB, pA, pB, fu, _, _, md, _⟩ := bo
    subst eR
    have gA := hA.go A' wA pA
    have gB := hB.go B' wB pB
    obtain ⟨cp, ce, h1, h2, h3, h4, h5, h6⟩ := pcov_of cx gA gB
    have nl : ps.length ≤ cp.length := len_of_cover fu.nod fun p hp => h5 p (fu.rch p hp)
    have el : es.length ≤ ce.length := fu.ex.es_len h6
    obtain ⟨m1, m2, m4, mE, ml, mF⟩ := md
    have sA := gA.eS
    have lA := gA.eL
    obtain ⟨fA, fA1, fA2⟩ := gA.f
    obtain ⟨fB, fB1, fB2⟩ := gB.f
    obtain ⟨gA', gA1, gA2⟩ := gA.g
    obtain ⟨gB', gB1, gB2⟩ := gB.g
    have ov : ∀ {wd}, Ov L wd → Ov A'.L wd := fun h => by rw [lA]; exact h
    refine ⟨wM, by rw [m1, gA.eS], by rw [m2, gA.eL], by omega, by omega, plB_both gA.pl fu m1 mE, fun s wd hs hw => ?_, ⟨fun c => prod2 (fun x y => fnd ps (x, y)) (fA c) (fB c), fun c hc => ?_, fun s wd x hs hw hx => ?_⟩, ⟨fun c l => prod2 (fun p q => (fnd ps (p.1, q.1), fnd ps (p.2, q.2))) (gA' c l) (gB' c l), fun c hc l => ?_, fun s wd l x y hs hw hl hx he => ?_⟩⟩
    · rw [acc_both fu mE mF (by omega) (ov hw), gA.ac s wd hs hw, gB.ac s wd hs hw]
    · rw [prod2_len, Nat.pow_add]
      exact Nat.mul_le_mul (fA1 c hc) (fB1 c hc)
    · obtain ⟨⟨u, v⟩, q1, q2, q3⟩ := (run_both fu mE (by omega) (ov hw)).mp hx
      rw [← fnd_eq fu.nod q1]
      exact mem_prod2 (f := fun x y => fnd ps (x, y)) (fA2 s wd u hs hw q2) (fB2 s wd v hs hw q3)
    · rw [prod2_len, Nat.pow_add]
      exact Nat.mul_le_mul (gA1 c hc l) (gB1 c hc l)
    · obtain ⟨⟨u, v⟩, q1, q2, q3⟩ := (run_both fu mE (by omega) (ov hw)).mp hx
      obtain ⟨p, q, r1, r2, r3, r4⟩ := (fu.eb _ _ _).mp ((mE _).mp he)
      rw [q1] at r1
      cases r1
      obtain ⟨w1, w2⟩ := mem_gpE.mp r3
      rw [← fnd_eq fu.nod q1, ← fnd_eq fu.nod r4]
      exact mem_prod2 (f := fun p q : Nat × Nat => (fnd ps (p.1, q.1), fnd ps (p.2, q.2))) (gA2 s wd l u q.1 hs hw hl q2 w1) (gB2 s wd l v q.2 hs hw hl q3 w2)
/-! ### one of the given nets -/
structure RawG (S L : Nat) (κ : Nat → List Nat → C) (cls : List C) (lg : Lang) (A : Net) : Prop where
  g0 : G0 S L κ cls 1 lg A
  sm : ∀ A', Wf A' → PlainOf A A' → A'.n ≤ 8 ∧ ∃ h : C → List Nat, ∀ s wd, s < S → Ov L wd → runE A'.E [s] wd = h (κ s wd)
theorem subs_of_run {A' : Net} (wA : Wf A') {s : Nat} {wd : List Nat} (hs : s < A'.S) : runE A'.E [s] wd ∈ subsOf (List.range A'.n) := mem_subsOf (range_sorted _) run_sorted fun x hx => List.mem_range.mpr (run_lt wA hs x hx)
theorem good_det (cx : Ctx S L κ cls) (hA : RawG S L κ cls la A) : DetPre A ∧ ∀ M, Wf M → DetOf A M → Gd S L κ cls 0 la M ∧ ∃ A' R ps es, Wf A' ∧ A'.S = S ∧ A'.L = L ∧ Full (mvs A'.E) A'.L (sing A'.S) R ps es ∧ (∀ e, e ∈ M.E ↔ e ∈ es) ∧ M.n = ps.length := by
  refine ⟨⟨hA.g0.pre, fun A' wA pA => ?_⟩, fun M wM d => ?_⟩
  · obtain ⟨n8, _⟩ := hA.sm A' wA pA
    refine ⟨_, subsOf (List.range A'.n), rfl, fun s hs => ⟨s, [], hs, Ov.nil _, rfl⟩, fun g l ⟨s, wd, h1, h2, h3⟩ hl => ⟨s, wd ++ [l], h1, Ov.snoc h2 hl, by rw [runE_snoc, h3]⟩, fun g ⟨s, wd, h1, h2, h3⟩ => by rw [h3]; exact subs_of_run wA h1, ?_, fun g ⟨s, wd, h1, h2, h3⟩ => ?_⟩
    · rw [subsOf_len, List.length_range]
      have : 2 ^ A'.n ≤ 2 ^ 8 := Nat.pow_le_pow_right (by decide) n8
      omega
    · rw [h3]
      have := sorted_len (run_sorted (E := A'.E) (s := s) (wd := wd)) (run_lt wA h1)
      omega
  · obtain ⟨A', R, ps, es, eR, wA, pA, fu, _, md, _⟩ := d
    subst eR
    have gA := hA.g0.go A' wA pA
    obtain ⟨n8, h, hh⟩ := hA.sm A' wA pA
    obtain ⟨m1, m2, m4, mE, ml, mF⟩ := md
    have sA := gA.eS
    have lA := gA.eL
    have ov : ∀ {wd}, Ov L wd → Ov A'.L wd := fun h => by rw [lA]; exact h
    have pl : ps.length ≤ 256 := by
      have := len_of_cover fu.nod (c := subsOf (List.range A'.n)) fun p hp => by
        obtain ⟨s, wd, h1, h2, h3⟩ := fu.rch p hp
        rw [h3]
        exact subs_of_run wA h1
      rw [subsOf_len, List.length_range] at this
      have : 2 ^ A'.n ≤ 2 ^ 8 := Nat.pow_le_pow_right (by decide) n8
      omega
    have el : es.length ≤ 512 := by
      have : (es.map fun e => (e.1, e.2.1)).length ≤ (prod2 (fun x y => (x, y)) (List.range 256) (List.range 2)).length := by
        refine len_of_cover (nodup_map_on (fun a ha b hb e => ?_) fu.esn) fun x hx => ?_
        · obtain ⟨a1, a2, a3⟩ := a
          obtain ⟨b1, b2, b3⟩ := b
          obtain ⟨p, q, r1, r2, r3, r4⟩ := (fu.eb _ _ _).mp ha
          obtain ⟨p', q', t1, t2, t3, t4⟩ := (fu.eb _ _ _).mp hb
          simp only [Prod.mk.injEq] at e
          obtain ⟨e1, e2⟩ := e
          subst e1 e2
          rw [r1] at t1
          cases t1
          rw [mem_mvs] at r3 t3
          rw [r3] at r4
          rw [t3] at t4
          have := nodup_at fu.nod r4 t4
          subst this
          rfl
        · obtain ⟨⟨t, l, z⟩, he, rfl⟩ := List.mem_map.mp hx
          obtain ⟨p, q, r1, r2, r3, r4⟩ := (fu.eb _ _ _).mp he
          have := (List.getElem?_eq_some_iff.mp r1).1
          have := wA.l2
          exact mem_prod2 (f := fun x y => (x, y)) (List.mem_range.mpr (by show t < 256; omega)) (List.mem_range.mpr (by show l < 2; omega))
      rw [List.length_map, prod2_len, List.length_range, List.length_range] at this
      exact this
    refine ⟨⟨wM, by rw [m1, sA], by rw [m2, lA], by rw [m4]; omega, by omega, plB_det gA.pl fu m1 mE, fun s wd hs hw => ?_, ⟨fun c => [fnd ps (h c)], fun c _ => Nat.le_refl _, fun s wd x hs hw hx => ?_⟩, ⟨fun c l => [(fnd ps (h c), fnd ps (mvE A'.E (h c) l))], fun c _ _ => Nat.le_refl _, fun s wd l x y hs hw hl hx he => ?_⟩⟩, A', _, ps, es, wA, sA, lA, fu, mE, m4⟩
    · rw [acc_det fu mE mF (by omega) (ov hw), gA.ac s wd hs hw]
    · have q1 := (run_det fu mE (by omega) (ov hw)).mp hx
      rw [hh s wd hs hw] at q1
      show x ∈ [fnd ps (h (κ s wd))]
      rw [fnd_eq fu.nod q1]
      exact List.mem_singleton.mpr rfl
    · have q1 := (run_det fu mE (by omega) (ov hw)).mp hx
      rw [hh s wd hs hw] at q1
      obtain ⟨p, q, r1, r2, r3, r4⟩ := (fu.eb _ _ _).mp ((mE _).mp he)
      rw [q1] at r1
      cases r1
      rw [mem_mvs] at r3
      rw [r3] at r4
      show (x, y) ∈ [(fnd ps (h (κ s wd)), fnd ps (mvE A'.E (h (κ s wd)) l))]
      rw [fnd_eq fu.nod q1, fnd_eq fu.nod r4]
      exact List.mem_singleton.mpr rfl
theorem good_other (cx : Ctx S L κ cls) (hA : RawG S L κ cls la A) : ∀ M, Wf M → OtherOf A M → Gd S L κ cls 0 (fun s wd => !la s wd) M := by
  rintro M wM ⟨D, wD, d, m1, m2, m4, mE, ml, mF⟩
  obtain ⟨gD, A', R, ps, es, wA, sA, lA, fu, eD, nD⟩ := (good_det cx hA).2 D wD d
  have n0 := gD.n
  have e0 := gD.e
  have er : ∀ s wd, runE M.E [s] wd = runE D.E [s] wd := fun s wd => runE_cong mE _ _
  obtain ⟨f, f1, f2⟩ := gD.f
  obtain ⟨g, g1, g2⟩ := gD.g
  refine ⟨wM, by rw [m1, gD.eS], by rw [m2, gD.eL], by omega, by omega, ?_, fun s wd hs hw => ?_, ⟨f, f1, fun s wd x hs hw hx => f2 s wd x hs hw (by rw [← er]; exact hx)⟩, ⟨g, g1, fun s wd l x y hs hw hl hx he => g2 s wd l x y hs hw hl (by rw [← er]; exact hx) ((mE _).mp he)⟩⟩
  · rw [plB_iff]
    intro e he
    rw [m1]
    exact plB_iff.mp gD.pl e ((mE _).mp he)
  · rw [acc_other fu eD nD mE mF (by omega) (by rw [lA]; exact hw), gD.ac s wd hs hw]
theorem good_minus (cx : Ctx S L κ cls) (hA : RawG S L κ cls la A) (hB : RawG S L κ cls lb B) : MinusPre A B ∧ ∀ M, Wf M → MinusOf A B M → Gd S L κ cls 1 (fun s wd => la s wd && !lb s wd) M := by
  refine ⟨⟨by rw [hA.g0.eS, hB.g0.eS], by rw [hA.g0.eL, hB.g0.eL], (good_det cx hB).1, fun O wO o => ?_⟩, fun M wM ⟨O, wO, o, bo⟩ => ?_⟩
  · exact (good_both cx (a := 1) (b := 0) (by decide) hA.g0 (good_other cx hB O wO o).g0).1
  · exact (good_both cx (a := 1) (b := 0) (by decide) hA.g0 (good_other cx hB O wO o).g0).2 M wM bo
end
end K23
/-! K23Mc -/
set_option Elab.async false
set_option linter.all false
set_option maxRecDepth 100000
set_option maxHeartbeats 4000000
/-! The plain law: the value, the given nets, the points. -/
namespace K23
section
variable {C : Type} {S L : Nat} {κ : Nat → List Nat → C} {cls : List C} {Ns : Nat → Net} {lgs : Nat → Lang} {ms : List Nat}
def trL (lgs : Nat → Lang) (t : Nat) : Lang := fun s wd => truthB (fun i => lgs i s wd) t
def vaL (lgs : Nat → Lang) (ms : List Nat) (k : Nat) : Lang := fun s wd => meanB (fun i => lgs i s wd) ms k
theorem good_term (cx : Ctx S L κ cls) (hR : ∀ i, i < 3 → RawG S L κ cls (lgs i) (Ns i)) (t : Nat) : TermPre Ns t ∧ ∀ M, Wf M → TermOf Ns t M → G0 S L κ cls 1 (trL lgs t) M := by
  have h1 := hR (t / 5 % 3) (Nat.mod_lt _ (by decide))
  have h2 := hR (t / 15 % 3) (Nat.mod_lt _ (by decide))
  refine ⟨⟨fun _ => (good_det cx h1).1, fun _ => (good_minus cx h1 h2).1, fun _ => h1.g0.pre⟩, fun M wM d => ?_⟩
  unfold TermOf at d
  by_cases c1 : t % 5 = 1
  · rw [if_pos c1] at d
    refine (Gd.cong (((good_det cx h1).2 M wM d).1.mono (j := 1) (by decide)) fun s wd _ _ => ?_).g0
    unfold trL truthB
    rw [if_neg (by omega), if_neg (by omega)]
  rw [if_neg c1] at d
  by_cases c2 : t % 5 = 2
  · rw [if_pos c2] at d
    refine (Gd.cong ((good_other cx h1 M wM d).mono (j := 1) (by decide)) fun s wd _ _ => ?_).g0
    unfold trL truthB
    rw [if_pos c2]
  rw [if_neg c2] at d
  by_cases c3 : t % 5 = 3
  · rw [if_pos c3] at d
    refine (Gd.cong ((good_minus cx h1 h2).2 M wM d) fun s wd _ _ => ?_).g0
    unfold trL truthB
    rw [if_neg c2, if_pos c3]
  rw [if_neg c3] at d
  have e : trL lgs t = lgs (t / 5 % 3) := by
    funext s wd
    unfold trL truthB
    rw [if_neg c2, if_neg c3]
  rw [e]
  by_cases c4 : t % 5 = 4
  · rw [if_pos c4] at d
    exact (h1.g0.go M wM d).g0
  · rw [if_neg c4] at d
    rw [d]
    exact h1.g0
theorem good_join (cx : Ctx S L κ cls) {k h : Nat} {la lb : Lang} {M T : Net} (hk : k + 1 ≤ 4) (k1 : 1 ≤ k) (hM : G0 S L κ cls k la M) (hT : G0 S L κ cls 1 lb T) :
    JoinPre h M T ∧ ∀ J, Wf J → JoinOf h M T J → Gd S L κ cls (k + 1) (fun s wd => if h % 2 = 0 then la s wd || lb s wd else la s wd && lb s wd) J := by
  have hk' : 1 + k ≤ 4 := by omega
  refine ⟨⟨fun _ => (good_union cx k1 (Nat.le_refl 1) hk hM hT).1, fun _ => (good_both cx hk hM hT).1, fun _ => (good_union cx (Nat.le_refl 1) k1 hk' hT hM).1, fun _ => (good_both cx hk' hT hM).1⟩, fun J wJ d => ?_⟩
  unfold JoinOf at d
  by_cases c0 : h % 4 = 0
  · rw [if_pos c0] at d
    refine ((good_union cx k1 (Nat.le_refl 1) hk hM hT).2 J wJ d).cong fun s wd _ _ => ?_
    rw [if_pos (by omega)]
  rw [if_neg c0] at d
  by_cases c1 : h % 4 = 1
  · rw [if_pos c1] at d
    refine ((good_both cx hk hM hT).2 J wJ d).cong fun s wd _ _ => ?_
    rw [if_neg (by omega)]
  rw [if_neg c1] at d
  rw [Nat.add_comm k 1]
  by_cases c2 : h % 4 = 2
  · rw [if_pos c2] at d
    refine ((good_union cx (Nat.le_refl 1) k1 hk' hT hM).2 J wJ d).cong fun s wd _ _ => ?_
    rw [if_pos (by omega), Bool.or_comm]
  · rw [if_neg c2] at d
    refine ((good_both cx hk' hT hM).2 J wJ d).cong fun s wd _ _ => ?_
    rw [if_neg (by omega), Bool.and_comm]
theorem good_val (cx : Ctx S L κ cls) (hR : ∀ i, i < 3 → RawG S L κ cls (lgs i) (Ns i)) {k : Nat} {M : Net} (v : ValR Ns ms k M) (hk : k ≤ 3) : G0 S L κ cls (k + 1) (vaL lgs ms k) M := by
  induction v with
  | zero w t => exact (good_term cx hR _).2 _ w t
  | succ v wT t wJ j wJ' p ih =>
    have gJ := (good_join cx (by omega) (by omega) (ih (by omega)) ((good_term cx hR _).2 _ wT t)).2 _ wJ j
    rcases p with ⟨_, p⟩ | p
    · rw [p.same gJ.pl]
      exact gJ.g0
    · rw [p]
      exact gJ.g0
theorem val_pre (cx : Ctx S L κ cls) (hR : ∀ i, i < 3 → RawG S L κ cls (lgs i) (Ns i)) {n : Nat} (hn : n ≤ 3) : ValPre Ns ms n where
  t0 := (good_term cx hR _).1
  t1 := fun k _ => (good_term cx hR _).1
  jo := fun k M T hk v wT t => (good_join cx (by omega) (by omega) (good_val cx hR v (by omega)) ((good_term cx hR _).2 _ wT t)).1
  pl := fun k M T J hk v wT t wJ j => ((good_join cx (by omega) (by omega) (good_val cx hR v (by omega)) ((good_term cx hR _).2 _ wT t)).2 _ wJ j).g0.pre
  fin := fun M v => (good_val cx hR v hn).pre
theorem truth_cong {f f' : Nat → Bool} (h : ∀ i, i < 3 → f i = f' i) (t : Nat) : truthB f t = truthB f' t := by
  unfold truthB
  rw [h (t / 5 % 3) (Nat.mod_lt _ (by decide)), h (t / 15 % 3) (Nat.mod_lt _ (by decide))]
theorem mean_cong {f f' : Nat → Bool} (h : ∀ i, i < 3 → f i = f' i) (ms : List Nat) : ∀ k, meanB f ms k = meanB f' ms k
  | 0 => truth_cong h _
  | k + 1 => by
    unfold meanB
    rw [mean_cong h ms k, truth_cong h]
end
/-! ### the given nets -/
theorem subsOf_le : ∀ {l g : List Nat}, g ∈ subsOf l → g.length ≤ l.length
  | [], g, h => by rw [List.mem_singleton.mp h]; exact Nat.le_refl _
  | x :: r, g, h => by
    unfold subsOf at h
    rcases List.mem_append.mp h with h | h
    · exact Nat.le_succ_of_le (subsOf_le h)
    · obtain ⟨g', h1, h2⟩ := List.mem_map.mp h
      subst h2
      exact Nat.succ_le_succ (subsOf_le h1)
def cube (l : List (List Nat)) : List (List (List Nat)) := prod2 (fun a (bc : List (List Nat)) => a :: bc) l (prod2 (fun b c => [b, c]) l l)
theorem cube_len (l : List (List Nat)) : (cube l).length = l.length * (l.length * l.length) := by
  unfold cube
  rw [prod2_len, prod2_len]
theorem mem_cube {l : List (List Nat)} {a b c : List Nat} (ha : a ∈ l) (hb : b ∈ l) (hc : c ∈ l) : [a, b, c] ∈ cube l :=
  mem_prod2 (f := fun a (bc : List (List Nat)) => a :: bc) ha (mem_prod2 (f := fun b c => [b, c]) hb hc)
theorem of_cube {l : List (List Nat)} {p : List (List Nat)} (h : p ∈ cube l) : ∃ a b c, p = [a, b, c] ∧ a ∈ l ∧ b ∈ l ∧ c ∈ l := by
  obtain ⟨a, h1, h2⟩ := List.mem_flatMap.mp h
  obtain ⟨q, h3, h4⟩ := List.mem_map.mp h2
  obtain ⟨b, h5, h6⟩ := List.mem_flatMap.mp h3
  obtain ⟨c, h7, h8⟩ := List.mem_map.mp h6
  exact ⟨a, b, c, by rw [← h4, ← h8], h1, h5, h7⟩
def unv (fl : Bool) (S : Nat) : List Nat := if fl = true then [S, S + 1] else [0, 1, 2]
theorem unv_sorted (fl : Bool) (S : Nat) : (unv fl S).Pairwise (· < ·) := by
  unfold unv
  split <;> simp
theorem unv_len (fl : Bool) (S : Nat) : (unv fl S).length ≤ 3 := by
  unfold unv
  split <;> simp
def ptR (Rw : Nat → Net) (s : Nat) (wd : List Nat) : List (List Nat) := [runE (Rw 0).E [s] wd, runE (Rw 1).E [s] wd, runE (Rw 2).E [s] wd]
def kaR (Rw : Nat → Net) (s : Nat) (wd : List Nat) : Nat × List (List Nat) := if wd = [] then (s + 1, []) else (0, ptR Rw s wd)
def clR (fl : Bool) (S : Nat) : List (Nat × List (List Nat)) := ((List.range S).map fun s => (s + 1, [])) ++ (cube (subsOf (unv fl S))).map fun p => (0, p)
theorem cube_u (fl : Bool) {S : Nat} (s3 : S ≤ 3) (s2 : fl = false → S ≤ 2) : S + (cube (subsOf (unv fl S))).length ≤ 515 := by
  rw [cube_len, subsOf_len]
  unfold unv
  cases fl with
  | true =>
    rw [if_pos rfl]
    show S + 4 * (4 * 4) ≤ 515
    omega
  | false =>
    have := s2 rfl
    rw [if_neg (by decide)]
    show S + 8 * (8 * 8) ≤ 515
    omega
section
variable {S L : Nat} {fl : Bool} {Rw Ns : Nat → Net}
theorem run_unv (h : NetsRng S L fl Rw) {i : Nat} (hi : i < 3) {s l : Nat} {wd : List Nat} : runE (Rw i).E [s] (wd ++ [l]) ∈ subsOf (unv fl S) := by
  refine mem_subsOf (unv_sorted _ _) run_sorted fun x hx => ?_
  obtain ⟨y, _, he⟩ := mem_runS.mp hx
  have r := h.at_ i hi
  have b := (r.pr.ef _ he).2.2
  simp only at b
  unfold unv
  cases fl with
  | true =>
    have b1 := r.n1 rfl
    have b2 := r.pr.fl rfl _ he
    rw [r.eS] at b2
    simp only at b2
    rw [if_pos rfl]
    have : x = S ∨ x = S + 1 := by omega
    rcases this with e | e <;> simp [e]
  | false =>
    have b1 := r.n0 rfl
    have b2 := h.s2 rfl
    rw [if_neg (by decide)]
    have : x = 0 ∨ x = 1 ∨ x = 2 := by omega
    rcases this with e | e | e <;> simp [e]
theorem snoc_of_ne : ∀ {wd : List Nat}, wd ≠ [] → ∃ w l, wd = w ++ [l] := fun {wd} => by
  induction wd using word_ind with
  | h0 => exact fun h => absurd rfl h
  | hs w l _ => exact fun _ => ⟨w, l, rfl⟩
theorem pt_cube (h : NetsRng S L fl Rw) {s : Nat} {wd : List Nat} (ne : wd ≠ []) : ptR Rw s wd ∈ cube (subsOf (unv fl S)) := by
  obtain ⟨w, l, rfl⟩ := snoc_of_ne ne
  exact mem_cube (run_unv h (by decide)) (run_unv h (by decide)) (run_unv h (by decide))
theorem ctx_of (h : NetsRng S L fl Rw) : Ctx S L (kaR Rw) (clR fl S) where
  s1 := h.s1
  l1 := h.l1
  l2 := h.l2
  mem := fun s wd hs _ => by
    unfold kaR clR
    by_cases c : wd = []
    · rw [if_pos c]
      exact List.mem_append_left _ (List.mem_map.mpr ⟨s, List.mem_range.mpr hs, rfl⟩)
    · rw [if_neg c]
      exact List.mem_append_right _ (List.mem_map.mpr ⟨_, pt_cube h c, rfl⟩)
  len := by
    unfold clR
    rw [List.length_append, List.length_map, List.length_map, List.length_range]
    exact cube_u fl h.s3 h.s2
theorem pt_get {i s : Nat} {wd : List Nat} (hi : i < 3) : (ptR Rw s wd).getD i [] = runE (Rw i).E [s] wd := by
  have : i = 0 ∨ i = 1 ∨ i = 2 := by omega
  rcases this with e | e | e <;> (subst e; rfl)
def hcl (i : Nat) (F : List Nat → List Nat) (c : Nat × List (List Nat)) : List Nat := if c.1 = 0 then F (c.2.getD i []) else [c.1 - 1]
theorem hcl_len {i : Nat} {F : List Nat → List Nat} (hi : i < 3) (hF : ∀ g, (F g).length ≤ g.length) {c : Nat × List (List Nat)} (hc : c ∈ clR fl S) : (hcl i F c).length ≤ 3 := by
  unfold clR at hc
  unfold hcl
  rcases List.mem_append.mp hc with h | h
  · obtain ⟨s, _, e⟩ := List.mem_map.mp h
    subst e
    rw [if_neg (by simp)]
    simp
  · obtain ⟨p, hp, e⟩ := List.mem_map.mp h
    subst e
    rw [if_pos rfl]
    obtain ⟨x, y, z, e, h1, h2, h3⟩ := of_cube hp
    subst e
    have k1 := subsOf_le h1
    have k2 := subsOf_le h2
    have k3 := subsOf_le h3
    have k := unv_len fl S
    refine Nat.le_trans (hF _) ?_
    have : i = 0 ∨ i = 1 ∨ i = 2 := by omega
    rcases this with e | e | e <;> subst e
    · show x.length ≤ 3
      omega
    · show y.length ≤ 3
      omega
    · show z.length ≤ 3
      omega
theorem hcl_eq {i s : Nat} {wd : List Nat} {F : List Nat → List Nat} (hi : i < 3) {g : List Nat} (h0 : wd = [] → g = [s]) (h1 : wd ≠ [] → g = F (runE (Rw i).E [s] wd)) : g = hcl i F (kaR Rw s wd) := by
  unfold hcl kaR
  by_cases c : wd = []
  · rw [if_pos c, if_neg (by simp), h0 c]
    rfl
  · rw [if_neg c, if_pos rfl, pt_get hi, h1 c]
theorem insS_len (y : Nat) : ∀ l : List Nat, (insS y l).length ≤ l.length + 1
  | [] => Nat.le_refl _
  | z :: r => by
    have := insS_len y r
    unfold insS
    split
    · exact Nat.le_refl _
    · split
      · simp
      · simp only [List.length_cons]
        omega
theorem sortS_len : ∀ l : List Nat, (sortS l).length ≤ l.length
  | [] => Nat.le_refl _
  | y :: l => by
    have h1 := sortS_len l
    have h2 := insS_len y (sortS l)
    show (insS y (sortS l)).length ≤ l.length + 1
    omega
theorem plE_len (N : Net) : N.plE.length ≤ N.E.length * 2 := flm_len fun e _ => by
  unfold Net.plS
  split <;> simp
theorem raw_good (h : NetsRng S L fl Rw) {i : Nat} (hi : i < 3) {N : Net} (wN : Wf N) (md : MadeOf N (Rw i).S (Rw i).L (Rw i).n (Rw i).E (Rw i).F) : RawG S L (kaR Rw) (clR fl S) (fun s wd => N.acc s wd) N := by
  have r := h.at_ i hi
  obtain ⟨m1, m2, m4, mE, ml, mF⟩ := md
  have eS : N.S = S := by rw [m1, r.eS]
  have eL : N.L = L := by rw [m2, r.eL]
  have s3 := h.s3
  have n5 : N.n ≤ 5 := by
    rw [m4]
    cases fl with
    | true =>
      have := r.n1 rfl
      omega
    | false =>
      have := r.n0 rfl
      have := h.s2 rfl
      omega
  have e8 : N.E.length ≤ 8 := Nat.le_trans ml r.pr.el
  have fn := wN.fl
  have er : ∀ s wd, runE N.E [s] wd = runE (Rw i).E [s] wd := fun s wd => runE_cong mE _ _
  have key : ∀ M', Wf M' → PlainOf N M' → Gd S L (kaR Rw) (clR fl S) 1 (fun s wd => N.acc s wd) M' ∧ M'.n ≤ 8 ∧ ∃ h : Nat × List (List Nat) → List Nat, ∀ s wd, s < S → Ov L wd → runE M'.E [s] wd = h (kaR Rw s wd) := fun M' wM p => by
    rcases p with ⟨pb, rfl⟩ | ⟨pb, m1', m2', m4', mE', ml', mF'⟩
    · have hh : ∀ s wd, runE M'.E [s] wd = hcl i id (kaR Rw s wd) := fun s wd => hcl_eq hi (fun e => by rw [e]; rfl) fun _ => er s wd
      refine ⟨⟨wN, eS, eL, by omega, by omega, pb, fun _ _ _ _ => rfl, ⟨hcl i id, fun c hc => hcl_len hi (fun _ => Nat.le_refl _) hc, fun s wd x _ _ hx => by rw [← hh]; exact hx⟩, ⟨fun _ _ => M'.E.map fun e => (e.1, e.2.2), fun c _ l => by rw [List.length_map]; exact e8, fun s wd l x y _ _ _ _ he => List.mem_map.mpr ⟨_, he, rfl⟩⟩⟩, by omega, _, fun s wd _ _ => hh s wd⟩
    · have hh : ∀ s wd, s < S → runE M'.E [s] wd = hcl i (fun g => sortS (g.map N.inn)) (kaR Rw s wd) := fun s wd hs => hcl_eq hi (fun e => by rw [e]; rfl) fun ne => by
        refine sorted_ext run_sorted (sortS_sorted _) fun x => ?_
        rw [run_plain wN (by omega) mE', mem_sortS, List.mem_map, er]
        have e1 : ∀ b, cpN N wd b = N.inn b := fun b => if_neg ne
        exact ⟨fun ⟨b, h1, h2⟩ => ⟨b, h1, by rw [h2, e1]⟩, fun ⟨b, h1, h2⟩ => ⟨b, h1, by rw [← h2, e1]⟩⟩
      have pl2 := plE_len N
      refine ⟨⟨wM, by omega, by omega, by omega, by omega, plB_plain wN m1' mE', fun s wd hs _ => acc_plain wN (by omega) mE' mF', ⟨_, fun c hc => hcl_len hi (fun g => by have := sortS_len (g.map N.inn); rw [List.length_map] at this; exact this) hc, fun s wd x hs _ hx => by rw [← hh s wd hs]; exact hx⟩, ⟨fun c _ => N.E.map fun e => (if c.1 = 0 then N.inn e.1 else e.1, N.inn e.2.2), fun c _ l => by rw [List.length_map]; exact e8, fun s wd l x y hs _ _ hx he => ?_⟩⟩, by omega, _, fun s wd hs _ => hh s wd hs⟩
      obtain ⟨a, h1, h2⟩ := (run_plain wN (by omega) mE').mp hx
      obtain ⟨a', b, h3, h4, h5⟩ := mem_plE.mp ((mE' _).mp he)
      simp only at h3 h4 h5
      rw [h2] at h5
      have := (cp_eq (run_lt wN (by omega) a h1) (wN.ef _ h3).1).mp h5
      subst this
      refine List.mem_map.mpr ⟨_, h3, ?_⟩
      rw [h2, h4]
      unfold kaR cpN
      by_cases c : wd = []
      · rw [if_pos c, if_pos c, if_neg (by simp)]
      · rw [if_neg c, if_neg c, if_pos rfl]
  refine ⟨⟨?_, eS, eL, fun M' wM p => (key M' wM p).1⟩, fun M' wM p => (key M' wM p).2⟩
  by_cases pb : N.plB = true
  · exact .inl pb
  · have pl2 := plE_len N
    have sn := wN.sn
    refine .inr ⟨by omega, wN.s1, wN.l1, wN.l2, by omega, by omega, fun e he => ?_, fun f hf => ?_, by omega, ?_⟩
    · obtain ⟨a, b, h1, h2, h3⟩ := mem_plE.mp he
      have := wN.ef _ h1
      simp only at this
      refine ⟨by omega, by omega, ?_⟩
      rw [h2]
      unfold Net.inn
      split <;> omega
    · rcases mem_plF.mp hf with h | ⟨f', h1, h2, h3⟩
      · have := wN.ff _ h
        omega
      · omega
    · unfold Net.plF
      rw [List.length_append, List.length_map]
      have := List.length_filter_le (fun f => decide (f < N.S)) N.F
      omega
/-! ### the points -/
def RPt (Rw : Nat → Net) (S L : Nat) (p : List (List Nat)) : Prop := ∃ s wd, s < S ∧ Ov L wd ∧ p = ptR Rw s wd
theorem pt_step (s : Nat) (wd : List Nat) (l : Nat) : pstep Rw (ptR Rw s wd) l = ptR Rw s (wd ++ [l]) := by
  unfold ptR
  rw [runE_snoc, runE_snoc, runE_snoc]
  rfl
theorem gcov_of (h : NetsRng S L fl Rw) : GCov Rw S L (RPt Rw S L) (((List.range S).map p3) ++ cube (subsOf (unv fl S))) where
  r0 := fun s hs => ⟨s, [], hs, Ov.nil _, rfl⟩
  rs := fun p l ⟨s, wd, h1, h2, h3⟩ hl => ⟨s, wd ++ [l], h1, Ov.snoc h2 hl, by rw [h3, pt_step]⟩
  cpm := fun p ⟨s, wd, h1, h2, h3⟩ => by
    by_cases c : wd = []
    · subst c
      rw [h3]
      exact List.mem_append_left _ (List.mem_map.mpr ⟨s, List.mem_range.mpr h1, rfl⟩)
    · rw [h3]
      exact List.mem_append_right _ (pt_cube h c)
  cpl := by
    rw [List.length_append, List.length_map, List.length_range]
    have := cube_u fl h.s3 h.s2
    omega
  r3 := fun p ⟨s, wd, h1, h2, h3⟩ => by rw [h3]; rfl
theorem plc_pt {R : List (List Nat) → Prop} {pts : List (List (List Nat))} {tbl : List (List Nat)} (gr : Gr Rw S L R pts tbl) (e : tbl.length = pts.length) {s : Nat} (hs : s < S) : ∀ wd, Ov L wd → pts[plc tbl s wd]? = some (ptR Rw s wd) := fun wd => by
  induction wd using word_ind with
  | h0 => exact fun _ => gr.pre s hs
  | hs wd l ih =>
    intro hw
    have h1 := ih hw.init
    have lt := (List.getElem?_eq_some_iff.mp h1).1
    rw [← e] at lt
    have rl := gr.row (plc tbl s wd) tbl[plc tbl s wd] (by simp [lt])
    obtain ⟨z, hz⟩ : ∃ z, tGo tbl (plc tbl s wd) l = some z := by
      refine ⟨tbl[plc tbl s wd][l]'(by rw [rl]; exact hw.last), ?_⟩
      unfold tGo
      rw [List.getElem?_eq_getElem lt]
      show (tbl[plc tbl s wd])[l]? = _
      rw [List.getElem?_eq_getElem (by rw [rl]; exact hw.last)]
    obtain ⟨p, h2, h3⟩ := gr.go _ _ _ hz
    rw [h1] at h2
    cases h2
    rw [plc_snoc, hz]
    show pts[z]? = _
    rw [h3, pt_step]
end
end K23
/-! K23Md -/
set_option Elab.async false
set_option linter.all false
set_option maxRecDepth 100000
set_option maxHeartbeats 4000000
/-! The plain law: the first of all, found twice. -/
namespace K23
/-- with d letters more something is accepted -/
def Ext (S L : Nat) (ac : Lang) (q : List Nat) (d : Nat) : Prop := ∃ s u, s < S ∧ Ov L u ∧ u.length = d ∧ ac s (q ++ u) = true
def GSt (S L : Nat) (ac : Lang) (p : List Nat) (d c : Nat) : Prop := c < L ∧ Ext S L ac (p ++ [c]) d ∧ ∀ l, l < c → ¬ Ext S L ac (p ++ [l]) d
inductive PilG (S L : Nat) (ac : Lang) (h : Nat) : Nat → List Nat → Prop
  | zero : PilG S L ac h 0 []
  | succ {i : Nat} {p : List Nat} {c : Nat} : PilG S L ac h i p → GSt S L ac p (h - 1 - i) c → PilG S L ac h (i + 1) (p ++ [c])
section
variable {S L h i : Nat} {ac : Lang} {p p' : List Nat}
theorem GSt.uniq {d c c' : Nat} (a : GSt S L ac p d c) (b : GSt S L ac p d c') : c = c' := by
  obtain ⟨_, a2, a3⟩ := a
  obtain ⟨_, b2, b3⟩ := b
  rcases Nat.lt_trichotomy c c' with lt | e | lt
  · exact absurd a2 (b3 c lt)
  · exact e
  · exact absurd b2 (a3 c' lt)
theorem PilG.uniq (a : PilG S L ac h i p) : ∀ {p'}, PilG S L ac h i p' → p = p' := by
  induction a with
  | zero =>
    intro p' b
    cases b
    rfl
  | succ _ a2 ih =>
    intro p' b
    cases b with
    | succ b1 b2 =>
      have := ih b1
      subst this
      rw [a2.uniq b2]
theorem PilG.word (a : PilG S L ac h i p) : p.length = i ∧ Ov L p := by
  induction a with
  | zero => exact ⟨rfl, Ov.nil _⟩
  | succ _ a2 ih => exact ⟨by rw [List.length_append, ih.1]; rfl, Ov.snoc ih.2 a2.1⟩
/-- no shorter one -/
def NoLess (S L : Nat) (ac : Lang) (h : Nat) : Prop := ∀ s u, s < S → Ov L u → u.length < h → ac s u = false
theorem Ext.next {q : List Nat} {d : Nat} (e : Ext S L ac q (d + 1)) : ∃ c, c < L ∧ Ext S L ac (q ++ [c]) d := by
  obtain ⟨s, u, h1, h2, h3, h4⟩ := e
  cases u with
  | nil => cases h3
  | cons c u =>
    refine ⟨c, h2 c List.mem_cons_self, s, u, h1, fun l hl => h2 l (List.mem_cons_of_mem _ hl), by simpa using h3, ?_⟩
    rw [List.append_assoc]
    exact h4
end
/-! ### along the net -/
section
variable {N : Net} {s l x y h i d : Nat} {g wd u p : List Nat}
theorem runE_app (E : List Tr) (g u w : List Nat) : runE E g (u ++ w) = runE E (runE E g u) w := by
  unfold runE
  rw [List.foldl_append]
theorem mem_runC {E : List Tr} {g : List Nat} : y ∈ runE E g (l :: u) ↔ ∃ x ∈ g, ∃ z, (x, l, z) ∈ E ∧ y ∈ runE E [z] u := by
  have gen : ∀ (u g : List Nat) (y : Nat), y ∈ runE E g u ↔ ∃ x ∈ g, y ∈ runE E [x] u := fun u => by
    induction u using word_ind with
    | h0 => exact fun g y => ⟨fun h => ⟨y, h, mem_run0.mpr rfl⟩, fun ⟨x, h1, h2⟩ => by rw [mem_run0.mp h2]; exact h1⟩
    | hs w l ih =>
      intro g y
      constructor
      · intro h
        obtain ⟨z, h1, h2⟩ := mem_runS.mp h
        obtain ⟨x, h3, h4⟩ := (ih g z).mp h1
        exact ⟨x, h3, mem_runS.mpr ⟨z, h4, h2⟩⟩
      · rintro ⟨x, h1, h2⟩
        obtain ⟨z, h3, h4⟩ := mem_runS.mp h2
        exact mem_runS.mpr ⟨z, (ih g z).mpr ⟨x, h1, h3⟩, h4⟩
  have e : runE E g (l :: u) = runE E (mvE E g l) u := rfl
  rw [e, gen]
  constructor
  · rintro ⟨z, h1, h2⟩
    obtain ⟨x, h3, h4⟩ := mem_mvE.mp h1
    exact ⟨x, h3, z, h4, h2⟩
  · rintro ⟨x, h1, z, h2, h3⟩
    exact ⟨z, mem_mvE.mpr ⟨x, h1, h2⟩, h3⟩
theorem rk_word (wN : Wf N) : ∀ {k x : Nat}, rk N.E N.F k x ↔ ∃ u, Ov N.L u ∧ u.length = k ∧ ∃ y ∈ runE N.E [x] u, y ∈ N.F
  | 0, x => by
    constructor
    · intro h
      exact ⟨[], Ov.nil _, rfl, x, mem_run0.mpr rfl, h⟩
    · rintro ⟨u, _, h2, y, h3, h4⟩
      have : u = [] := List.length_eq_zero_iff.mp h2
      subst this
      rw [mem_run0.mp h3] at h4
      exact h4
  | k + 1, x => by
    constructor
    · rintro ⟨l, z, h1, h2⟩
      obtain ⟨u, h3, h4, y, h5, h6⟩ := (rk_word wN).mp h2
      refine ⟨l :: u, fun m hm => ?_, by rw [List.length_cons, h4], y, mem_runC.mpr ⟨x, List.mem_singleton.mpr rfl, z, h1, h5⟩, h6⟩
      rcases List.mem_cons.mp hm with e | hm
      · rw [e]
        exact (wN.ef _ h1).2.1
      · exact h3 m hm
    · rintro ⟨u, h1, h2, y, h3, h4⟩
      cases u with
      | nil => cases h2
      | cons l u =>
        obtain ⟨x', h5, z, h6, h7⟩ := mem_runC.mp h3
        have := List.mem_singleton.mp h5
        subst this
        exact ⟨l, z, h6, (rk_word wN).mpr ⟨u, fun m hm => h1 m (List.mem_cons_of_mem _ hm), by simpa using h2, y, h7, h4⟩⟩
theorem ext_rk (wN : Wf N) {q : List Nat} : Ext N.S N.L (fun s wd => N.acc s wd) q d ↔ ∃ s, s < N.S ∧ ∃ y ∈ runE N.E [s] q, rk N.E N.F d y := by
  constructor
  · rintro ⟨s, u, h1, h2, h3, h4⟩
    obtain ⟨y, h5, h6⟩ := acc_iff.mp h4
    rw [runE_app] at h5
    have gen : ∀ (u g : List Nat) (y : Nat), y ∈ runE N.E g u → ∃ x ∈ g, y ∈ runE N.E [x] u := fun u g y hy => by
      cases u with
      | nil => exact ⟨y, hy, mem_run0.mpr rfl⟩
      | cons l u =>
        obtain ⟨x, k1, z, k2, k3⟩ := mem_runC.mp hy
        exact ⟨x, k1, mem_runC.mpr ⟨x, List.mem_singleton.mpr rfl, z, k2, k3⟩⟩
    obtain ⟨x, h7, h8⟩ := gen _ _ _ h5
    exact ⟨s, h1, x, h7, (rk_word wN).mpr ⟨u, h2, h3, y, h8, h6⟩⟩
  · rintro ⟨s, h1, x, h2, h3⟩
    obtain ⟨u, h4, h5, y, h6, h7⟩ := (rk_word wN).mp h3
    refine ⟨s, u, h1, h4, h5, acc_iff.mpr ⟨y, ?_, h7⟩⟩
    rw [runE_app]
    cases u with
    | nil =>
      rw [mem_run0.mp h6]
      exact h2
    | cons l u =>
      obtain ⟨x', k1, z, k2, k3⟩ := mem_runC.mp h6
      have := List.mem_singleton.mp k1
      subst this
      exact mem_runC.mpr ⟨x', h2, z, k2, k3⟩
theorem noless_rk (wN : Wf N) (nl : NoLess N.S N.L (fun s wd => N.acc s wd) h) (ov : Ov N.L p) (hs : s < N.S) (hy : y ∈ runE N.E [s] p) (lt : p.length + d < h) : ¬ rk N.E N.F d y := fun r => by
  obtain ⟨s', u, h1, h2, h3, h4⟩ := (ext_rk wN).mpr ⟨s, hs, y, hy, r⟩
  have ov' : Ov N.L (p ++ u) := fun l hl => (List.mem_append.mp hl).elim (ov l) (h2 l)
  have := nl s' (p ++ u) h1 ov' (by rw [List.length_append, h3]; exact lt)
  rw [h4] at this
  cases this
theorem leads_ext (wN : Wf N) {dg : List (Option Nat)} (df : DFull N.E N.F N.n dg) (nl : NoLess N.S N.L (fun s wd => N.acc s wd) h) (ov : Ov N.L p) (hl : l < N.L) (hd : p.length + 1 + d = h) : leadsB N.E dg l d (grpsOf N p) = true ↔ Ext N.S N.L (fun s wd => N.acc s wd) (p ++ [l]) d := by
  rw [ext_rk wN]
  unfold leadsB grpsOf
  rw [List.any_map, List.any_eq_true]
  constructor
  · rintro ⟨s, h1, h2⟩
    obtain ⟨y, h3, h4⟩ := List.any_eq_true.mp h2
    have hs := List.mem_range.mp h1
    have h4 := of_decide_eq_true h4
    have hy : y ∈ runE N.E [s] (p ++ [l]) := by
      rw [runE_snoc]
      exact h3
    exact ⟨s, hs, y, hy, ((df.2 y (run_lt wN hs y hy) d).mp h4).1⟩
  · rintro ⟨s, hs, y, hy, r⟩
    refine ⟨s, List.mem_range.mpr hs, List.any_eq_true.mpr ⟨y, ?_, decide_eq_true ((df.2 y (run_lt wN hs y hy) d).mpr ⟨r, fun j lt => ?_⟩)⟩⟩
    · rw [runE_snoc] at hy
      exact hy
    · exact noless_rk wN nl (Ov.snoc ov hl) hs hy (by rw [List.length_append]; show p.length + 1 + j < h; omega)
theorem pileR_G (wN : Wf N) {dg : List (Option Nat)} (df : DFull N.E N.F N.n dg) (nl : NoLess N.S N.L (fun s wd => N.acc s wd) h) (e0 : Ext N.S N.L (fun s wd => N.acc s wd) [] h) (r : PileR N dg h i p) (hi : i ≤ h) : PilG N.S N.L (fun s wd => N.acc s wd) h i p ∧ Ext N.S N.L (fun s wd => N.acc s wd) p (h - i) := by
  induction r with
  | zero => exact ⟨.zero, e0⟩
  | @succ i p r q il ih =>
    obtain ⟨g, ex⟩ := ih (by omega)
    obtain ⟨len, ov⟩ := g.word
    have hd : p.length + 1 + (h - 1 - i) = h := by omega
    have eqv : ∀ l, l < N.L → (leadsB N.E dg l (h - 1 - i) (grpsOf N p) = true ↔ Ext N.S N.L (fun s wd => N.acc s wd) (p ++ [l]) (h - 1 - i)) := fun l hl => leads_ext wN df nl ov hl hd
    rw [show h - i = (h - 1 - i) + 1 by omega] at ex
    obtain ⟨c, c1, c2⟩ := ex.next
    rcases il with ⟨h1, h2, h3⟩ | ⟨h1, _⟩
    · refine ⟨.succ g ⟨h1, (eqv r h1).mp h2, fun l lt e => ?_⟩, ?_⟩
      · have := (eqv l (by omega)).mpr e
        have f3 : leadsB N.E dg l (h - 1 - i) (grpsOf N p) = false := h3 l lt
        rw [f3] at this
        cases this
      · rw [show h - (i + 1) = h - 1 - i by omega]
        exact (eqv r h1).mp h2
    · have := (eqv c c1).mpr c2
      have f1 : leadsB N.E dg c (h - 1 - i) (grpsOf N p) = false := h1 c c1
      rw [f1] at this
      cases this
end
/-- the same, told by what is accepted alone -/
def IsFst (S L : Nat) (ac : Lang) (r : Option (Nat × List Nat)) : Prop :=
  ((∀ s u, s < S → Ov L u → ac s u = false) ∧ r = none) ∨
  ∃ h p, Ext S L ac [] h ∧ NoLess S L ac h ∧ PilG S L ac h h p ∧ ((∃ s, s < S ∧ ac s p = true ∧ (∀ s', s' < s → ac s' p = false) ∧ r = some (s, p)) ∨ ((∀ s, s < S → ac s p = false) ∧ r = none))
theorem IsFst.uniq {S L : Nat} {ac : Lang} {r r' : Option (Nat × List Nat)} (a : IsFst S L ac r) (b : IsFst S L ac r') : r = r' := by
  rcases a with ⟨a1, a2⟩ | ⟨h, p, a1, a2, a3, a4⟩ <;> rcases b with ⟨b1, b2⟩ | ⟨h', p', b1, b2, b3, b4⟩
  · rw [a2, b2]
  · obtain ⟨s, u, k1, k2, k3, k4⟩ := b1
    rw [List.nil_append, a1 s u k1 k2] at k4
    cases k4
  · obtain ⟨s, u, k1, k2, k3, k4⟩ := a1
    rw [List.nil_append, b1 s u k1 k2] at k4
    cases k4
  · have e : h = h' := by
      rcases Nat.lt_trichotomy h h' with lt | e | lt
      · obtain ⟨s, u, k1, k2, k3, k4⟩ := a1
        rw [List.nil_append, b2 s u k1 k2 (by omega)] at k4
        cases k4
      · exact e
      · obtain ⟨s, u, k1, k2, k3, k4⟩ := b1
        rw [List.nil_append, a2 s u k1 k2 (by omega)] at k4
        cases k4
    subst e
    have := a3.uniq b3
    subst this
    rcases a4 with ⟨s, a5, a6, a7, a8⟩ | ⟨a5, a6⟩ <;> rcases b4 with ⟨s', b5, b6, b7, b8⟩ | ⟨b5, b6⟩
    · have : s = s' := by
        rcases Nat.lt_trichotomy s s' with lt | e | lt
        · rw [b7 s lt] at a6
          cases a6
        · exact e
        · rw [a7 s' lt] at b6
          cases b6
      rw [a8, b8, this]
    · rw [b5 s a5] at a6
      cases a6
    · rw [a5 s' b5] at b6
      cases b6
    · rw [a6, b6]
theorem mem_heights {g : List (Option Nat)} {S h : Nat} : h ∈ heightsM g S ↔ ∃ s, s < S ∧ g[s]? = some (some h) := by
  unfold heightsM
  rw [List.mem_filterMap]
  constructor
  · rintro ⟨o, h1, h2⟩
    obtain ⟨s, h3⟩ := List.mem_iff_getElem?.mp h1
    rw [List.getElem?_take] at h3
    split at h3
    · rename_i lt
      refine ⟨s, lt, ?_⟩
      rw [h3]
      exact congrArg some h2
    · cases h3
  · rintro ⟨s, h1, h2⟩
    refine ⟨some h, List.mem_iff_getElem?.mpr ⟨s, ?_⟩, rfl⟩
    rw [List.getElem?_take, if_pos h1]
    exact h2
theorem first_fst {N : Net} {r : Option (Nat × List Nat)} (wN : Wf N) (f : FirstOf N r) : IsFst N.S N.L (fun s wd => N.acc s wd) r := by
  obtain ⟨g, df, f⟩ := f
  have sn := wN.sn
  have hrk : ∀ s k, s < N.S → (rk N.E N.F k s ↔ ∃ u, Ov N.L u ∧ u.length = k ∧ N.acc s u = true) := fun s k hs => by
    rw [rk_word wN]
    exact ⟨fun ⟨u, a, b, c⟩ => ⟨u, a, b, acc_iff.mpr c⟩, fun ⟨u, a, b, c⟩ => ⟨u, a, b, acc_iff.mp c⟩⟩
  have low : ∀ s u, s < N.S → Ov N.L u → N.acc s u = true → ∃ j, j ≤ u.length ∧ j ∈ heightsM g N.S := fun s u hs ov ac => by
    obtain ⟨j, h1, h2⟩ := rk_min u.length ((hrk s u.length hs).mpr ⟨u, ov, rfl, ac⟩)
    exact ⟨j, h1, mem_heights.mpr ⟨s, hs, (df.2 s (by omega) j).mpr h2⟩⟩
  rcases f with ⟨h1, h2⟩ | ⟨h, p, h1, h2, h3, h4⟩
  · refine .inl ⟨fun s u hs ov => ?_, h2⟩
    show N.acc s u = false
    cases e : N.acc s u with
    | false => rfl
    | true =>
      obtain ⟨j, _, h⟩ := low s u hs ov e
      rw [h1] at h
      cases h
  · have nl : NoLess N.S N.L (fun s wd => N.acc s wd) h := fun s u hs ov lt => by
      show N.acc s u = false
      cases e : N.acc s u with
      | false => rfl
      | true =>
        obtain ⟨j, k1, k2⟩ := low s u hs ov e
        have := h2 j k2
        omega
    have e0 : Ext N.S N.L (fun s wd => N.acc s wd) [] h := by
      obtain ⟨s, hs, k⟩ := mem_heights.mp h1
      obtain ⟨u, k1, k2, k3⟩ := (hrk s h hs).mp ((df.2 s (by omega) h).mp k).1
      exact ⟨s, u, hs, k1, k2, k3⟩
    exact .inr ⟨h, p, e0, nl, (pileR_G wN df nl e0 h3 (Nat.le_refl _)).1, h4⟩
/-! ### along the points -/
section
variable {tbl : List (List Nat)} {mk : Nat → Bool} {S L : Nat}
theorem plc_app (t : Nat) (u w : List Nat) : plc tbl t (u ++ w) = plc tbl (plc tbl t u) w := by
  unfold plc
  rw [List.foldl_append]
theorem tgo_some (ok : TblOk tbl L) {t l : Nat} (ht : t < tbl.length) (hl : l < L) : ∃ z, tGo tbl t l = some z ∧ z < tbl.length := by
  have rl := ok.row t tbl[t] (by simp [ht])
  have e : tGo tbl t l = some (tbl[t][l]'(by rw [rl]; exact hl)) := by
    unfold tGo
    rw [List.getElem?_eq_getElem ht]
    show (tbl[t])[l]? = _
    rw [List.getElem?_eq_getElem (by rw [rl]; exact hl)]
  exact ⟨_, e, ok.rng _ _ _ e⟩
theorem tgo_lt (ok : TblOk tbl L) {t l z : Nat} (h : tGo tbl t l = some z) : l < L := by
  unfold tGo at h
  cases e : tbl[t]? with
  | none => rw [e] at h; cases h
  | some r =>
    rw [e] at h
    have := ok.row t r e
    have h' : r[l]? = some z := h
    have := (List.getElem?_eq_some_iff.mp h').1
    omega
theorem plc_ltw (ok : TblOk tbl L) {t : Nat} (ht : t < tbl.length) : ∀ wd, Ov L wd → plc tbl t wd < tbl.length := fun wd => by
  induction wd using word_ind with
  | h0 => exact fun _ => ht
  | hs wd l ih =>
    intro ov
    obtain ⟨z, h1, h2⟩ := tgo_some ok (ih ov.init) ov.last
    rw [plc_snoc, h1]
    exact h2
theorem tk_word (ok : TblOk tbl L) : ∀ {k t : Nat}, t < tbl.length → (tkR tbl mk k t ↔ ∃ u, Ov L u ∧ u.length = k ∧ mk (plc tbl t u) = true)
  | 0, t, ht => by
    constructor
    · intro h
      exact ⟨[], Ov.nil _, rfl, h⟩
    · rintro ⟨u, _, h2, h3⟩
      have : u = [] := List.length_eq_zero_iff.mp h2
      subst this
      exact h3
  | k + 1, t, ht => by
    constructor
    · rintro ⟨l, z, h1, h2⟩
      obtain ⟨u, h3, h4, h5⟩ := (tk_word ok (ok.rng _ _ _ h1)).mp h2
      refine ⟨l :: u, fun m hm => ?_, by rw [List.length_cons, h4], ?_⟩
      · rcases List.mem_cons.mp hm with e | hm
        · rw [e]
          exact tgo_lt ok h1
        · exact h3 m hm
      · have : plc tbl t (l :: u) = plc tbl z u := by
          show plc tbl ((tGo tbl t l).getD 0) u = _
          rw [h1]
          rfl
        rw [this]
        exact h5
    · rintro ⟨u, h1, h2, h3⟩
      cases u with
      | nil => cases h2
      | cons l u =>
        obtain ⟨z, h4, h5⟩ := tgo_some ok ht (h1 l List.mem_cons_self)
        have : plc tbl t (l :: u) = plc tbl z u := by
          show plc tbl ((tGo tbl t l).getD 0) u = _
          rw [h4]
          rfl
        rw [this] at h3
        exact ⟨l, z, h4, (tk_word ok h5).mpr ⟨u, fun m hm => h1 m (List.mem_cons_of_mem _ hm), by simpa using h2, h3⟩⟩
abbrev acP (tbl : List (List Nat)) (mk : Nat → Bool) : Lang := fun s wd => mk (plc tbl s wd)
theorem ext_tk (ok : TblOk tbl L) (hS : S ≤ tbl.length) {q : List Nat} (ov : Ov L q) {d : Nat} : Ext S L (acP tbl mk) q d ↔ ∃ s, s < S ∧ tkR tbl mk d (plc tbl s q) := by
  constructor
  · rintro ⟨s, u, h1, h2, h3, h4⟩
    exact ⟨s, h1, (tk_word ok (plc_ltw ok (by omega) q ov)).mpr ⟨u, h2, h3, by rw [← plc_app]; exact h4⟩⟩
  · rintro ⟨s, h1, h2⟩
    obtain ⟨u, h3, h4, h5⟩ := (tk_word ok (plc_ltw ok (by omega) q ov)).mp h2
    exact ⟨s, u, h1, h3, h4, by show mk (plc tbl s (q ++ u)) = true; rw [plc_app]; exact h5⟩
theorem least_fst {r : Option (Nat × List Nat)} (ok : TblOk tbl L) (hS : S ≤ tbl.length) (lo : LeastOf tbl mk S L r) : IsFst S L (acP tbl mk) r := by
  obtain ⟨g, ⟨gl, lf⟩, lo⟩ := lo
  have at_ : ∀ x, x < tbl.length → ∀ v, v < tbl.length → (g[x]? = some v ↔ tkD tbl mk v x) := fun x hx v hv => by
    obtain ⟨v', h1, h2⟩ := lf x hx
    constructor
    · intro h
      rw [h1] at h
      cases h
      rcases h2 with ⟨_, h2⟩ | ⟨h2, _⟩
      · exact h2
      · omega
    · intro h
      rcases h2 with ⟨_, h2⟩ | ⟨_, h2⟩
      · rw [h1, tkD_uniq h2 h]
      · exact absurd h.1 (h2 v)
  have low : ∀ s u, s < S → Ov L u → acP tbl mk s u = true → ∃ j, j ≤ u.length ∧ j < tbl.length ∧ g[s]? = some j := fun s u hs ov ac => by
    obtain ⟨j, h1, h2⟩ := tk_min u.length ((tk_word ok (mk := mk) (k := u.length) (t := s) (by omega)).mpr ⟨u, ov, rfl, ac⟩)
    obtain ⟨v', h3, h4⟩ := lf s (by omega)
    rcases h4 with ⟨h5, h4⟩ | ⟨_, h4⟩
    · rw [tkD_uniq h4 h2] at h3 h5
      exact ⟨j, h1, h5, h3⟩
    · exact absurd h2.1 (h4 j)
  rcases lo with ⟨h1, h2⟩ | ⟨h, p, h0, h1, h2, h3, h4⟩
  · refine .inl ⟨fun s u hs ov => ?_, h2⟩
    cases e : acP tbl mk s u with
    | false => rfl
    | true =>
      obtain ⟨j, _, k1, k2⟩ := low s u hs ov e
      rw [h1 s hs] at k2
      cases k2
      omega
  · have nl : NoLess S L (acP tbl mk) h := fun s u hs ov lt => by
      cases e : acP tbl mk s u with
      | false => rfl
      | true =>
        obtain ⟨j, k1, _, k2⟩ := low s u hs ov e
        have := h2 s j hs k2
        omega
    have e0 : Ext S L (acP tbl mk) [] h := by
      obtain ⟨s, hs, k⟩ := h1
      exact (ext_tk ok hS (Ov.nil _)).mpr ⟨s, hs, ((at_ s (by omega) h h0).mp k).1⟩
    refine .inr ⟨h, p, e0, nl, ?_, h4⟩
    have gen : ∀ i p, PilL tbl g S L h i p → i ≤ h → PilG S L (acP tbl mk) h i p := fun i p r => by
      induction r with
      | zero => exact fun _ => .zero
      | @succ i p c q st ih =>
        intro hi
        have gp := ih (by omega)
        obtain ⟨len, ov⟩ := gp.word
        have eqv : ∀ l, l < L → ((∃ s, s < S ∧ g[plc tbl s (p ++ [l])]? = some (h - 1 - i)) ↔ Ext S L (acP tbl mk) (p ++ [l]) (h - 1 - i)) := fun l hl => by
          have ov' := Ov.snoc ov hl
          rw [ext_tk ok hS ov']
          constructor
          · rintro ⟨s, hs, k⟩
            exact ⟨s, hs, ((at_ _ (plc_ltw ok (by omega) _ ov') _ (by omega)).mp k).1⟩
          · rintro ⟨s, hs, k⟩
            refine ⟨s, hs, (at_ _ (plc_ltw ok (by omega) _ ov') _ (by omega)).mpr ⟨k, fun j lt kj => ?_⟩⟩
            obtain ⟨s', u, z1, z2, z3, z4⟩ := (ext_tk ok hS ov').mpr ⟨s, hs, kj⟩
            have ov2 : Ov L (p ++ [l] ++ u) := fun m hm => (List.mem_append.mp hm).elim (ov' m) (z2 m)
            have := nl s' _ z1 ov2 (by rw [List.length_append, List.length_append, z3]; show p.length + 1 + j < h; omega)
            rw [z4] at this
            cases this
        obtain ⟨c1, c2, c3⟩ := st
        exact .succ gp ⟨c1, (eqv c c1).mp c2, fun l lt e => by
          obtain ⟨s, hs, k⟩ := (eqv l (by omega)).mpr e
          exact c3 l lt s hs k⟩
    exact gen h p h3 (Nat.le_refl _)
end
theorem IsFst.cong {S L : Nat} {ac ac' : Lang} {r : Option (Nat × List Nat)} (a : IsFst S L ac r) (e : ∀ s u, s < S → Ov L u → ac s u = ac' s u) : IsFst S L ac' r := by
  have ex : ∀ q d, Ov L q → (Ext S L ac q d ↔ Ext S L ac' q d) := fun q d ov => by
    have ov' : ∀ u, Ov L u → Ov L (q ++ u) := fun u hu m hm => (List.mem_append.mp hm).elim (ov m) (hu m)
    exact ⟨fun ⟨s, u, h1, h2, h3, h4⟩ => ⟨s, u, h1, h2, h3, by rw [← e s _ h1 (ov' u h2)]; exact h4⟩, fun ⟨s, u, h1, h2, h3, h4⟩ => ⟨s, u, h1, h2, h3, by rw [e s _ h1 (ov' u h2)]; exact h4⟩⟩
  rcases a with ⟨a1, a2⟩ | ⟨h, p, a1, a2, a3, a4⟩
  · exact .inl ⟨fun s u hs ov => by rw [← e s u hs ov]; exact a1 s u hs ov, a2⟩
  · have ovp := a3.word.2
    refine .inr ⟨h, p, (ex _ _ (Ov.nil _)).mp a1, fun s u hs ov lt => by rw [← e s u hs ov]; exact a2 s u hs ov lt, ?_, ?_⟩
    · have gen : ∀ i p, PilG S L ac h i p → PilG S L ac' h i p := fun i p r => by
        induction r with
        | zero => exact .zero
        | succ q st ih =>
          obtain ⟨c1, c2, c3⟩ := st
          have ov := ih.word.2
          exact .succ ih ⟨c1, (ex _ _ (Ov.snoc ov c1)).mp c2, fun l lt k => c3 l lt ((ex _ _ (Ov.snoc ov (by omega))).mpr k)⟩
      exact gen _ _ a3
    · rcases a4 with ⟨s, a5, a6, a7, a8⟩ | ⟨a5, a6⟩
      · exact .inl ⟨s, a5, by rw [← e s p a5 ovp]; exact a6, fun s' lt => by rw [← e s' p (by omega) ovp]; exact a7 s' lt, a8⟩
      · exact .inr ⟨fun s hs => by rw [← e s p hs ovp]; exact a5 s hs, a6⟩
theorem same_first {N : Net} {tbl : List (List Nat)} {mk : Nat → Bool} {r r' : Option (Nat × List Nat)} (wN : Wf N) (ok : TblOk tbl N.L) (hS : N.S ≤ tbl.length) (hac : ∀ s u, s < N.S → Ov N.L u → N.acc s u = mk (plc tbl s u)) (f : FirstOf N r) (lo : LeastOf tbl mk N.S N.L r') : r = r' :=
  ((first_fst wN f).cong hac).uniq (least_fst ok hS lo)
end K23
/-! K23Ll -/
set_option Elab.async false
set_option linter.all false
set_option maxRecDepth 100000
set_option maxHeartbeats 4000000
namespace K23
open PySem PySem.Spec PyProof.Rows L2
section
variable {P : Program} {w : World} {K : PySem.W.Frag} {mg : Str → Option Value} {base : Heap}
def rAg (K : PySem.W.Frag) : Hp → Addr → Nat × List Nat → Prop := fun G q p => ∃ b, SqT K G q [.int (p.1 : Nat), .ref b] ∧ SqT K G b (nV p.2)
theorem stb_ag (K : PySem.W.Frag) : Stb K (rAg K) := fun _ _ _ _ t ⟨b, h1, h2⟩ => ⟨b, t _ _ h1, t _ _ h2⟩
def kAg (p : Nat × List Nat) : NestedKey := .tup [.num (p.1 : Int), kGr p.2]
theorem key_ag {G : Hp} {q : Addr} {p : Nat × List Nat} (h : rAg K G q p) : KeyV K G (kAg p) (.ref q) := let ⟨b, h1, h2⟩ := h; .tup h1 (.cons (.num _) (.cons ((ko_gr K).key _ _ _ h2) .nil))
theorem dep_ag (p : Nat × List Nat) : (kAg p).depth ≤ 8 := by
  show max 0 (max (NestedKey.depth (kGr p.2)) 0) + 1 ≤ 8
  have h1 : NestedKey.depth (kGr p.2) ≤ 1 := by
    show NestedKey.depthAll ((nI p.2).map .num) + 1 ≤ 1
    rw [depthAll_ints]
    exact Nat.le_refl _
  omega
structure AgPre (M : Net) (tbl : List (List Nat)) (mks : List Bool) : Prop where
  ok : TblOk tbl M.L
  len : mks.length = tbl.length
  sl : M.S ≤ tbl.length
  tl : tbl.length ≤ 1000
  acc : ∀ s wd, s < M.S → (∀ l ∈ wd, l < M.L) → M.acc s wd = mkF mks (plc tbl s wd)
def sp_L_agree (P : Program) (w : World) (K : PySem.W.Frag) : SpN := fun vs H Q => ∃ (a gT mk : Addr) (M : Net) (tbl : List (List Nat)) (mks : List Bool), vs = [.ref a, .ref gT, .ref mk] ∧ NetAt P w K H a M ∧ TblAt K H gT tbl ∧ SqL K H mk (mks.map V.bl) ∧ AgPre M tbl mks ∧ ∀ H', Same H H' → Q (.bl true) H'
theorem len_L_agree : ∀ vs H Q, sp_L_agree P w K vs H Q → vs.length = 3 := fun _ _ _ ⟨_, _, _, _, _, _, e, _⟩ => by subst e; rfl
theorem snoc_lt {S : List Nat} {i : Nat} {L : Nat} (h : ∀ l ∈ S, l < L) (hi : i < L) : ∀ l ∈ S ++ [i], l < L := fun l hl => (List.mem_append.mp hl).elim (h l) fun z => by rw [List.mem_singleton.mp z]; exact hi
def AgR (M : Net) (tbl : List (List Nat)) (p : Nat × List Nat) : Prop := ∃ s wd, s < M.S ∧ (∀ l ∈ wd, l < M.L) ∧ p.1 = plc tbl s wd ∧ p.2 = runE M.E [s] wd
def ag0 (S : Nat) : List (Nat × List Nat) := (List.range S).map fun s => (s, [s])
theorem ag0_len (S : Nat) : (ag0 S).length = S := by unfold ag0; rw [List.length_map, List.length_range]
theorem ag0_get {S i : Nat} (h : i < S) : (ag0 S)[i]? = some (i, [i]) := by
  unfold ag0
  rw [List.getElem?_map, List.getElem?_range h]
  rfl
theorem sc_L_agree : FnScope ["_law_net_here", "_law_goals", "_law_marks", "_law_table", "_law_edge", "_law_row", "_law_pairs", "_law_known", "_law_place", "_law_inside", "_law_node", "_law_letter", "_law_group", "_law_goal", "_law_pair", "_law_state"] ["_law_net_here", "_law_goals", "_law_marks"] (defScope s_L_agree) := ⟨rfl, rfl, rfl, by decide +kernel, rfl, by decide +kernel, by decide +kernel⟩
/- slots: 0 _law_net_here, 1 _law_goals, 2 _law_marks, 3 _law_table, 4 _law_edge, 5 _law_row, 6 _law_pairs, 7 _law_known, 8 _law_place, 9 _law_inside, 10 _law_node, 11 _law_letter, 12 _law_group, 13 _law_goal, 14 _law_pair, 15 _law_state -/
theorem ok_L_agree (T : Tb K mg)  : Cal P w K mg base (He.ga K "_law_agree") 1 ["_law_net_here", "_law_goals", "_law_marks"] (sp_L_agree P w K) := by
  obtain ⟨fd, F⟩ := T.dfs 42 d_L_agree rfl
  refine cal_of (N := ["_law_net_here", "_law_goals", "_law_marks", "_law_table", "_law_edge", "_law_row", "_law_pairs", "_law_known", "_law_place", "_law_inside", "_law_node", "_law_letter", "_law_group", "_law_goal", "_law_pair", "_law_state"]) F sc_L_agree (F.bindsN fun _ _ _ _ _ _ us hl => match us, hl with | [_, _, _], _ => rfl) (len_L_agree) fun cdv A outer s H vs Q E hr h => ?_
  refine ⟨(tSeq (tAsg (tNNew P w K) (gName 3)) (tSeq (tFor (iTup K (tFld K (tVar 0) "edges")) (gName 4) (tSeq (tAsg (tNSetd P w K (tVar 3) (tTup (tCons (tOp (rIxT K) (tVar 4) (tC (.int 0))) (tCons (tOp (rIxT K) (tVar 4) (tC (.int 1))) tNil))) (tLst tNil)) (gName 5)) (tDrop (tBM K "list" rAppend (tVar 5) (tCons (tOp (rIxT K) (tVar 4) (tC (.int 2))) tNil))))) (tSeq (tAsg (tLc (iRng1 (tCons (tFld K (tVar 0) "states") tNil)) (gName 15) tYes (tTup (tCons (tVar 15) (tCons (tTup (tCons (tVar 15) tNil)) tNil))) [15]) (gName 6)) (tSeq (tAsg (tNNew P w K) (gName 7)) (tSeq (tFor (iRng1 (tCons (tC (.int 200)) tNil)) (gName 8) (tSeq (tIfS (tTest (tOp rGe (tVar 8) (tCB (rLen2 K) (tCons (tVar 6) tNil)))) tBreak tNext) (tSeq (tAsg (tC (.bl false)) (gName 9)) (tSeq (tFor (iTup K (tOp (rIxT K) (tOp (rIxL K) (tVar 6) (tVar 8)) (tC (.int 1)))) (gName 10) (tAsg (tOrV (tVar 9) (tOp (rIn K false) (tVar 10) (tFld K (tVar 0) "ends"))) (gName 9))) (tSeq (tIfS (tTest (tOp rNe (tVar 9) (tOp (rIxL K) (tVar 2) (tOp (rIxT K) (tOp (rIxL K) (tVar 6) (tVar 8)) (tC (.int 0)))))) (tRet (tC (.bl false))) tNext) (tFor (iRng1 (tCons (tFld K (tVar 0) "letters") tNil)) (gName 11) (tSeq (tAsg (tLst tNil) (gName 12)) (tSeq (tFor (iTup K (tOp (rIxT K) (tOp (rIxL K) (tVar 6) (tVar 8)) (tC (.int 1)))) (gName 10) (tFor (iList K (tNGet2 P w K (tVar 3) (tTup (tCons (tVar 10) (tCons (tVar 11) tNil))) (tLst tNil))) (gName 13) (tIfS (tTest (tOp (rIn K true) (tVar 13) (tVar 12))) (tDrop (tBM K "list" rAppend (tVar 12) (tCons (tVar 13) tNil))) tNext))) (tSeq (tAsg (tTup (tCons (tOp (rIxL K) (tOp (rIxL K) (tVar 1) (tOp (rIxT K) (tOp (rIxL K) (tVar 6) (tVar 8)) (tC (.int 0)))) (tVar 11)) (tCons (tCB (rTupOf K) (tCons (tCB (rSortI2 K) (tCons (tVar 12) tNil)) tNil)) tNil))) (gName 14)) (tIfS (tB (tNIn P w K true (tVar 14) (tVar 7))) (tSeq (sNPut P w K (tVar 7) (tVar 14) (tC (.bl true))) (tDrop (tBM K "list" rAppend (tVar 6) (tCons (tVar 14) tNil)))) tNext)))))))))) (tRet (tC (.bl true)))))))), (pss_cons (ps_set (i := 3) sc_L_agree.nd rfl (by first | exact Or.inl rfl | exact Or.inr rfl) pe_nnew) (pss_cons (ps_for PassesOwn.never rfl (pi_tup (pfld rfl (pv 0))) (pg_name (i := 4) sc_L_agree.nd rfl (by first | exact Or.inl rfl | exact Or.inr rfl)) (pss_cons (ps_set (i := 5) sc_L_agree.nd rfl (by first | exact Or.inl rfl | exact Or.inr rfl) (pe_nsetd hr.units (pv 3) (pe_tup (pa_cons (pe_ix ix_tup (pv 4) pe_int (fun _ _ => rfl)) (pa_cons (pe_ix ix_tup (pv 4) pe_int (fun _ _ => rfl)) pa_nil))) (pe_lst pa_nil) ⟨rfl, rfl, rfl, rfl⟩)) (pss_one (ps_expr (pe_bm PySem.F.plainAttrs_list PySem.F.slot_list_append PySem.F.type_list_append mt_append (pv 5) (pa_cons (pe_ix ix_tup (pv 4) pe_int (fun _ _ => rfl)) pa_nil)))))) (pss_cons (ps_setLc (i := 6) (own := [("_law_state", 15)]) (g := (gName 15)) (tt := tYes) (te := (tTup (tCons (tVar 15) (tCons (tTup (tCons (tVar 15) tNil)) tNil)))) rfl sc_L_agree.nd rfl rfl (sw_true rfl rfl rfl (by decide +kernel)) (pi_range1 (by rfl) (T.fre 1 "range" rfl) (pa_cons (pfld rfl (pv 0)) pa_nil)) (blkOk_by (N := ["_law_net_here", "_law_goals", "_law_marks", "_law_table", "_law_edge", "_law_row", "_law_pairs", "_law_known", "_law_place", "_law_inside", "_law_node", "_law_letter", "_law_group", "_law_goal", "_law_pair", "_law_state"]) (sc := defScope s_L_agree) (by decide +kernel)) (fun _ _ _ _ _ => (pg_name (i := 15) sc_L_agree.nd rfl (by first | exact Or.inl rfl | exact Or.inr rfl))) (fun _ _ _ _ _ => pts_nil) (fun _ _ _ _ _ => (pe_tup (pa_cons (pv 15) (pa_cons (pe_tup (pa_cons (pv 15) pa_nil)) pa_nil))))) (pss_cons (ps_set (i := 7) sc_L_agree.nd rfl (by first | exact Or.inl rfl | exact Or.inr rfl) pe_nnew) (pss_cons (ps_for PassesOwn.never rfl (pi_range1 (by rfl) (T.fre 1 "range" rfl) (pa_cons pe_int pa_nil)) (pg_name (i := 8) sc_L_agree.nd rfl (by first | exact Or.inl rfl | exact Or.inr rfl)) (pss_cons (ps_if (pt_cmpR op_ge (pv 8) (pe_callB call_len2 (by rfl) (T.fre 0 "len" rfl) kb_len (pa_cons (pv 6) pa_nil)) (nomark _)) (pss_one ps_break) pss_nil) (pss_cons (ps_set (i := 9) sc_L_agree.nd rfl (by first | exact Or.inl rfl | exact Or.inr rfl) pe_bl) (pss_cons (ps_for PassesOwn.never rfl (pi_tup (pe_ix ix_tup (pe_ix ix_list (pv 6) (pv 8) (fun _ _ => rfl)) pe_int (fun _ _ => rfl))) (pg_name (i := 10) sc_L_agree.nd rfl (by first | exact Or.inl rfl | exact Or.inr rfl)) (pss_one (ps_set (i := 9) sc_L_agree.nd rfl (by first | exact Or.inl rfl | exact Or.inr rfl) (pe_or (pv 9) (pe_one (pe_cmpR op_in_seq (pv 10) (pfld rfl (pv 0)) (by with_unfolding_all rfl))))))) (pss_cons (ps_if (pt_cmpR op_ne (pv 9) (pe_ix ix_list (pv 2) (pe_ix ix_tup (pe_ix ix_list (pv 6) (pv 8) (fun _ _ => rfl)) pe_int (fun _ _ => rfl)) (fun _ _ => rfl)) (nomark _)) (pss_one (ps_ret pe_bl)) pss_nil) (pss_one (ps_for PassesOwn.never rfl (pi_range1 (by rfl) (T.fre 1 "range" rfl) (pa_cons (pfld rfl (pv 0)) pa_nil)) (pg_name (i := 11) sc_L_agree.nd rfl (by first | exact Or.inl rfl | exact Or.inr rfl)) (pss_cons (ps_set (i := 12) sc_L_agree.nd rfl (by first | exact Or.inl rfl | exact Or.inr rfl) (pe_lst pa_nil)) (pss_cons (ps_for PassesOwn.never rfl (pi_tup (pe_ix ix_tup (pe_ix ix_list (pv 6) (pv 8) (fun _ _ => rfl)) pe_int (fun _ _ => rfl))) (pg_name (i := 10) sc_L_agree.nd rfl (by first | exact Or.inl rfl | exact Or.inr rfl)) (pss_one (ps_for PassesOwn.never rfl (pi_list (pe_nget2 hr.units (pv 3) (pe_tup (pa_cons (pv 10) (pa_cons (pv 11) pa_nil))) (pe_lst pa_nil) ⟨rfl, rfl, rfl, rfl⟩)) (pg_name (i := 13) sc_L_agree.nd rfl (by first | exact Or.inl rfl | exact Or.inr rfl)) (pss_one (ps_if (pt_cmpR op_notIn_seq (pv 13) (pv 12) (by with_unfolding_all rfl)) (pss_one (ps_expr (pe_bm PySem.F.plainAttrs_list PySem.F.slot_list_append PySem.F.type_list_append mt_append (pv 12) (pa_cons (pv 13) pa_nil)))) pss_nil))))) (pss_cons (ps_set (i := 14) sc_L_agree.nd rfl (by first | exact Or.inl rfl | exact Or.inr rfl) (pe_tup (pa_cons (pe_ix ix_list (pe_ix ix_list (pv 1) (pe_ix ix_tup (pe_ix ix_list (pv 6) (pv 8) (fun _ _ => rfl)) pe_int (fun _ _ => rfl)) (fun _ _ => rfl)) (pv 11) (fun _ _ => rfl)) (pa_cons (pe_callTy call_tuple_ofn (by rfl) (T.fre 2 "tuple" rfl) kb_tuple (pa_cons (pe_callB (cr_sortI2 hr.units) (by rfl) (T.fre 3 "sorted" rfl) kb_sorted (pa_cons (pv 12) pa_nil)) pa_nil)) pa_nil)))) (pss_one (ps_if (pt_cmp (pc_nnotin hr.units (pv 14) (pv 7)) (by with_unfolding_all rfl)) (pss_cons (ps_nput hr.units (pv 7) (pv 14) pe_bl rfl) (pss_one (ps_expr (pe_bm PySem.F.plainAttrs_list PySem.F.slot_list_append PySem.F.type_list_append mt_append (pv 6) (pa_cons (pv 14) pa_nil))))) pss_nil)))))))))))) (pss_one (ps_ret pe_bl))))))), ?_⟩
  obtain ⟨a, gT, mk, M, tbl, mks, rfl, hM, hT, hK, ag, hQ⟩ := h
  obtain ⟨hw, dx, pe, pf, pd, h1, ⟨es, h2, h2'⟩, h3, h4⟩ := id hM
  have en := hw.en
  have gM : ∀ {G : Hp}, Same H G → G a = some (.ins (NetC K) dx (fsN M pe pf pd)) := fun s => s _ _ h1
  refine fun d hd G0 n0 => ?_
  have s0 : Same H G0 := same_nput (Same.refl H) hd n0
  dsimp only [tSeq, tIfS, tOr, tAnd, tNot, tB, tTest, tCB, tCons, tNil, tNext, tAsg, tRet, tDrop, tDo, gName]
  refine tforT (fun R h => ⟨_, rfl, a, _, dx, _, _, rfl, gM s0, T.cl, T.noa 3 "edges" rfl, rfl, h⟩) (fun i σ G => (∃ v4 v5, σ = [some (.ref a), some (.ref gT), some (.ref mk), some (.ref d), v4, v5, none, none, none, none, none, none, none, none, none, none]) ∧ Same H G ∧ GD P w K G0 d G (M.E.take i) i)
    (Same.tup s0 h2) ⟨⟨_, _, rfl⟩, s0, GD.start n0.1⟩ (fun i σ G p => Same.tup p.2.1 h2) (fun i v σ G hv hσ => ?_) (fun σ G hσ => ?_)
  · obtain ⟨⟨v4, v5, rfl⟩, sG, gd⟩ := hσ
    obtain ⟨q, e, rfl, he, hq⟩ := trs_get h2' hv
    have lt := (List.getElem?_eq_some_iff.mp he).1
    have hqG := Same.tup sG hq
    refine ⟨_, rfl, d, rfl, gd.dict, _, rfl, q, _, _, _, rfl, rfl, hqG, atI_n (n := 0) rfl rfl, _, rfl, q, _, _, _, rfl, rfl, hqG, atI_n (n := 1) rfl rfl, (sz1000 (n := 2) (by decide) : 2 ≤ sizeLine), fun k hk => ⟨Nat.zero_le _, fun z hz => ?_⟩⟩
    have sk := same_new (o := .tup [.int (e.1 : Nat), .int (e.2.1 : Nat)]) hk
    have sz := sk.trans (same_new (o := .lst []) hz)
    obtain ⟨kvs, k1, k2, k3, k4⟩ := gd.app (x := e.1) (l := e.2.1) (y := e.2.2) sz (sk.free hz) upd_same
    refine ⟨kvs, nkI [(e.1 : Int), e.2.1], k, rfl, k1, keyI (SqT.of (by rw [upd_ne (ne_of_none upd_same hz)]; exact upd_same)), depthI _, line_lt (by omega), fun v hv => ?_, fun hn G4 hp => ?_⟩
    · obtain ⟨b, rfl, b1, b2⟩ := k3 v hv
      refine ⟨_, rfl, .inl ⟨rfl, _, SqL.of b1⟩, _, rfl, q, _, _, _, rfl, rfl, Same.tup sz hqG, atI_n (n := 2) rfl rfl, b, _, _, rfl, rfl, b1, ?_, ⟨_, _, rfl⟩, ?_, ?_⟩
      · rw [nV_len]
        have := goalsE_len (M.E.take i) e.1 e.2.1
        rw [List.length_take] at this
        exact line_lt (by omega)
      · refine fun c o hc => b2.1 c o (ne_of_none hc hd) (s0 c o hc)
      · rw [take_snoc he]
        exact b2
    · obtain ⟨b1, b2⟩ := k4 hn G4 hp
      have tq : SqT K G4 q (trV e) := tk_nput k1 hp _ _ (Same.tup sz hqG)
      refine ⟨_, rfl, .inl ⟨rfl, _, SqL.of b1⟩, _, rfl, q, _, _, _, rfl, rfl, tq, atI_n (n := 2) rfl rfl, z, _, _, rfl, rfl, b1, line_lt (Nat.zero_le _), ⟨_, _, rfl⟩, fun c o hc => b2.1 c o (ne_of_none hc hd) (s0 c o hc), ?_⟩
      rw [take_snoc he]
      exact b2
  · obtain ⟨⟨v4, v5, rfl⟩, sG, gd⟩ := hσ
    rw [trs_len h2', List.take_length] at gd
    have tab := gd.fin
    have d0 := gd.dict
    have sl := ag.sl
    have tl := ag.tl
    obtain ⟨ok, ml⟩ : TblOk tbl M.L ∧ mks.length = tbl.length := ⟨ag.ok, ag.len⟩
    have l2 := hw.l2
    have l1 := hw.l1
    dsimp only [tSeq, tIfS, tOr, tAnd, tNot, tB, tTest, tCB, tCons, tNil, tNext, tAsg, tRet, tDrop, tDo, gName]
    refine tlcRM (R := rAg K) (n := M.S) (fun R h => ⟨_, rfl, a, _, dx, _, _, rfl, gM sG, T.cl, T.noa 0 "states" rfl, rfl, h⟩) (by omega) (ag0 M.S) (ag0_len _) (fun D hD i G1 hi s1 hG1 => ?_) (fun d6 hd6 G1 s1 lm1 => ?_)
    · refine ⟨rfl, _, rfl, _, rfl, (sz1000 (n := 1) (by decide) : 1 ≤ sizeLine), fun b hb => ⟨(sz1000 (n := 2) (by decide) : 2 ≤ sizeLine), fun q hq => ?_⟩⟩
      have sb := same_new (o := .tup [.int (i : Nat)]) hb
      have sq := sb.trans (same_new (o := .tup [.int (i : Nat), .ref b]) hq)
      obtain ⟨rs, r1, r2, r3⟩ := hG1.app (t := q) (e := (i, [i])) (stb_ag K) sq ⟨b, SqT.of upd_same, SqT.of (by rw [upd_ne (ne_of_none upd_same hq)]; exact upd_same)⟩
      refine ⟨_, r1, ?_, same_put (s1.trans sq) hD, ?_⟩
      · rw [r2, List.length_take, ag0_len]
        exact line_lt (by omega)
      · rw [take_snoc (ag0_get hi)]
        exact r3
    · refine fun d7 hd7 G2 n7 => ?_
      have hd7t : G d7 = none := s1.free hd7
      have s2 : Same G G2 := s1.trans (same_nput (Same.refl G1) hd7 n7)
      have lm2 : LM (rAg K) G2 d6 (ag0 M.S) := lm1.same (stb_ag K) (same_nput (Same.refl G1) hd7 n7)
      have n67 : d6 ≠ d7 := lm_nd lm2 n7.1
      have all67 : ∀ x ∈ [d6, d7], G x = none := fun x hx => by
        simp only [List.mem_cons, List.not_mem_nil, or_false] at hx
        rcases hx with rfl | rfl <;> assumption
      have gM2 : ∀ {G' : Hp}, Same G G' → G' a = some (.ins (NetC K) dx (fsN M pe pf pd)) := fun s => gM (sG.trans s)
      obtain ⟨qs, t1, t2⟩ := id hT
      dsimp only [tSeq, tIfS, tOr, tAnd, tNot, tB, tTest, tCB, tCons, tNil, tNext, tAsg, tRet, tDrop, tDo, gName]
      refine tforR (n := 200) (fun R h => h) (by decide) (fun t σ G' => (∃ v8 v9 v10 v11 v12 v13 v14, σ = [some (.ref a), some (.ref gT), some (.ref mk), some (.ref d), v4, v5, some (.ref d6), some (.ref d7), v8, v9, v10, v11, v12, v13, v14, none]) ∧ Same G G' ∧ ∃ (prs : List (Nat × List Nat)) (kvs : List (NestedKey × V)), LM (rAg K) G' d6 prs ∧ ND P w K G' d7 kvs ∧ kvs.length ≤ prs.length ∧ (∀ p ∈ prs, AgR M tbl p) ∧ prs.length ≤ M.S + 2 * t)
        ⟨⟨_, _, _, _, _, _, _, rfl⟩, s2, ag0 M.S, [], lm2, n7.1, Nat.zero_le _, fun p hp => by obtain ⟨s, hs, rfl⟩ := List.mem_map.mp hp; exact ⟨s, [], List.mem_range.mp hs, fun l hl => (nomatch hl), rfl, rfl⟩, by rw [ag0_len]; omega⟩
        (fun t σ G' ht hσ => ?_) (fun σ G' hσ => ?_)
      · obtain ⟨⟨v8, v9, v10, v11, v12, v13, v14, rfl⟩, sG', prs, kvs, lm, nd, kl, rch, pl⟩ := hσ
        obtain ⟨ps, m1, m2⟩ := id lm
        refine ⟨_, rfl, _, rfl, d6, _, rfl, .inl (SqL.of m1), _, _, rfl, rfl, _, rfl, iteB (fun c => hQ G' (sG.trans sG')) fun c => ?_⟩
        have lt : t < prs.length := by
          rw [pr_len m2] at c
          have := of_decide_eq_false c
          omega
        obtain ⟨p, hp⟩ : ∃ p, prs[t]? = some p := ⟨prs[t], by simp [lt]⟩
        obtain ⟨pq, hp1, hp2⟩ := pr_ix m2 hp
        obtain ⟨bq, u1, u2⟩ := id hp2
        obtain ⟨s, wd, as, aw, ap, ar⟩ := rch p (List.mem_of_getElem? hp)
        have pt : p.1 < tbl.length := by
          rw [ap]
          exact plc_lt ok wd (by omega) aw
        obtain ⟨b, hb⟩ : ∃ b, mks[p.1]? = some b := ⟨mks[p.1]'(by omega), by simp⟩
        have eb : hasE M.F p.2 = b := by
          have h1 := ag.acc s wd as aw
          rw [← ap, mkF_get hb] at h1
          rw [ar]
          exact h1
        dsimp only [tSeq, tIfS, tOr, tAnd, tNot, tB, tTest, tCB, tCons, tNil, tNext, tAsg, tRet, tDrop, tDo, gName]
        refine tforT (fun R h => ⟨_, rfl, _, rfl, d6, _, _, _, rfl, rfl, SqL.of m1, atI_n rfl hp1, pq, _, _, _, rfl, rfl, u1, atI_n (n := 1) rfl rfl, h⟩) (fun i σ G2 => (∃ v10, σ = [some (.ref a), some (.ref gT), some (.ref mk), some (.ref d), v4, v5, some (.ref d6), some (.ref d7), some (.int (t : Nat)), some (.bl (hasE M.F (p.2.take i))), v10, v11, v12, v13, v14, none]) ∧ G' = G2) u2 ⟨⟨_, rfl⟩, rfl⟩ (fun i σ G2 z => by rw [← z.2]; exact u2) (fun i v σ G2 hv hσ => ?_) (fun σ G2 hσ => ?_)
        · obtain ⟨⟨v10, rfl⟩, rfl⟩ := hσ
          obtain ⟨x, rfl, hx⟩ := nV_get hv
          have em : hasE M.F (p.2.take (i + 1)) = (hasE M.F (p.2.take i) || decide (x ∈ M.F)) := by
            unfold hasE
            rw [take_snoc hx, List.any_append, List.any_cons, List.any_nil, Bool.or_false]
          refine ⟨_, rfl, _, rfl, iteB (fun q => ?_) fun q => ?_⟩
          · rw [q, Bool.true_or] at em
            exact ⟨⟨_, by rw [em]; rfl⟩, rfl⟩
          · rw [q, Bool.false_or] at em
            refine ⟨_, rfl, _, rfl, a, _, dx, _, _, rfl, gM2 sG', T.cl, T.noa 4 "ends" rfl, rfl, in_nVL false (.inr (Same.tup (sG.trans sG') h3)) ⟨⟨some (.int (x : Nat)), ?_⟩, rfl⟩⟩
            rw [em]
            rfl
        · obtain ⟨⟨v10, rfl⟩, rfl⟩ := hσ
          rw [nV_len, List.take_length, eb]
          refine ⟨_, rfl, _, rfl, _, rfl, _, rfl, d6, _, _, _, rfl, rfl, SqL.of m1, atI_n rfl hp1, pq, _, _, _, rfl, rfl, u1, atI_n (n := 0) rfl rfl, mk, _, _, _, rfl, rfl, (sG.trans sG').seq hK, atI_n rfl (by rw [List.getElem?_map, hb]; rfl), rfl, _, rfl, iteN (by rw [decide_eq_true rfl]; rfl) ?_⟩
          dsimp only [tSeq, tIfS, tOr, tAnd, tNot, tB, tTest, tCB, tCons, tNil, tNext, tAsg, tRet, tDrop, tDo, gName]
          obtain ⟨row, hrow⟩ : ∃ row, tbl[p.1]? = some row := ⟨tbl[p.1], by simp [pt]⟩
          have rl := ok.row _ _ hrow
          obtain ⟨rq, hr1, hr2⟩ := pr_ix t2 hrow
          refine tforR (n := M.L) (fun R h => ⟨_, rfl, a, _, dx, _, _, rfl, gM2 sG', T.cl, T.noa 1 "letters" rfl, rfl, h⟩) (by omega)
            (fun l σ G3 => (∃ v10 v11 v12 v13 v14, σ = [some (.ref a), some (.ref gT), some (.ref mk), some (.ref d), v4, v5, some (.ref d6), some (.ref d7), some (.int (t : Nat)), some (.bl b), v10, v11, v12, v13, v14, none]) ∧ Same G G3 ∧ ∃ (prs : List (Nat × List Nat)) (kvs : List (NestedKey × V)), LM (rAg K) G3 d6 prs ∧ ND P w K G3 d7 kvs ∧ kvs.length ≤ prs.length ∧ (∀ p ∈ prs, AgR M tbl p) ∧ prs.length ≤ M.S + 2 * t + l ∧ prs[t]? = some p)
            ⟨⟨_, _, _, _, _, rfl⟩, sG', prs, kvs, lm, nd, kl, rch, by omega, hp⟩ (fun l σ G3 hl hσ => ?_) (fun σ G3 hσ => ?_)
          · obtain ⟨⟨v10, v11, v12, v13, v14, rfl⟩, sG3, prs, kvs, lm, nd, kl, rch, pl', hp⟩ := hσ
            obtain ⟨ps, m1, m2⟩ := id lm
            obtain ⟨pq, hp1, hp2⟩ := pr_ix m2 hp
            obtain ⟨bq, u1, u2⟩ := id hp2
            refine ⟨Nat.zero_le _, fun dg hdg => ?_⟩
            have sg := same_new (o := .lst []) hdg
            dsimp only [tSeq, tIfS, tOr, tAnd, tNot, tB, tTest, tCB, tCons, tNil, tNext, tAsg, tRet, tDrop, tDo, gName]
            refine tforT (fun R h => ⟨_, rfl, _, rfl, d6, _, _, _, rfl, rfl, SqL.of (sg _ _ m1), atI_n rfl hp1, pq, _, _, _, rfl, rfl, Same.tup sg u1, atI_n (n := 1) rfl rfl, h⟩) (fun j σ G4 => (∃ v10 v13, σ = [some (.ref a), some (.ref gT), some (.ref mk), some (.ref d), v4, v5, some (.ref d6), some (.ref d7), some (.int (t : Nat)), some (.bl b), v10, some (.int (l : Nat)), some (.ref dg), v13, v14, none]) ∧ Same G3 G4 ∧ ∃ rs, G4 dg = some (.lst (nV rs)) ∧ rs.Nodup ∧ ∀ y, y ∈ rs ↔ ∃ x ∈ p.2.take j, (x, l, y) ∈ M.E)
              (Same.tup sg u2) ⟨⟨_, _, rfl⟩, sg, [], upd_same, List.nodup_nil, fun y => ⟨fun h => (nomatch h), fun ⟨_, h, _⟩ => (nomatch h)⟩⟩ (fun j σ G4 z => Same.tup z.2.1 u2) (fun j v σ G4 hv hσ => ?_) (fun σ G4 hσ => ?_)
            · obtain ⟨⟨v10, v13, rfl⟩, sG4, rs, hG4, nod, mem⟩ := hσ
              obtain ⟨x, rfl, hx⟩ := nV_get hv
              obtain ⟨kv, k1, k2⟩ := id tab
              have mem' : ∀ y, (∃ x ∈ p.2.take (j + 1), (x, l, y) ∈ M.E) ↔ (∃ x ∈ p.2.take j, (x, l, y) ∈ M.E) ∨ y ∈ goalsE M.E x l := fun y => by
                rw [take_snoc hx, mem_goalsE]
                constructor
                · rintro ⟨z, h1, h2⟩
                  rcases List.mem_append.mp h1 with h1 | h1
                  · exact .inl ⟨z, h1, h2⟩
                  · rw [List.mem_singleton.mp h1] at h2
                    exact .inr h2
                · rintro (⟨z, h1, h2⟩ | h)
                  · exact ⟨z, List.mem_append_left _ h1, h2⟩
                  · exact ⟨x, List.mem_append_right _ (List.mem_singleton.mpr rfl), h⟩
              refine ⟨_, rfl, d, rfl, (let ⟨es, q, _⟩ := k1.same (sG3.trans sG4); ⟨es, q⟩), _, rfl, _, rfl, (sz1000 (n := 2) (by decide) : 2 ≤ sizeLine), fun k hk => ⟨Nat.zero_le _, fun e he => ?_⟩⟩
              have sk := same_new (o := .tup [.int (x : Nat), .int (l : Nat)]) hk
              have se := sk.trans (same_new (o := .lst []) he)
              refine ⟨kv, nkI [(x : Int), l], k, rfl, k1.same ((sG3.trans sG4).trans se), keyI (SqT.of (by rw [upd_ne (ne_of_none upd_same he)]; exact upd_same)), depthI _, ?_⟩
              rcases k2 x l with ⟨n1, n2⟩ | ⟨lb, n1, n2⟩
              · refine ⟨e, by rw [n1]; rfl, ⟨[], SqL.of upd_same⟩, for_list (xs := []) (fun i σ G5 => i = 0 ∧ (∃ v10 v13, σ = [some (.ref a), some (.ref gT), some (.ref mk), some (.ref d), v4, v5, some (.ref d6), some (.ref d7), some (.int (t : Nat)), some (.bl b), v10, some (.int (l : Nat)), some (.ref dg), v13, v14, none]) ∧ G5 = upd (upd G4 k (.tup [.int (x : Nat), .int (l : Nat)])) e (.lst [])) ⟨rfl, ⟨_, _, rfl⟩, rfl⟩ (fun i σ G5 _ z => by rw [z.2.2]; exact SqL.of upd_same) (fun i x σ G5 h => by simp at h) (fun σ G5 z => ?_)⟩
                obtain ⟨_, ⟨v10, v13, rfl⟩, rfl⟩ := z
                exact ⟨⟨_, _, rfl⟩, sG4.trans se, rs, se _ _ hG4, nod, fun y => by rw [mem', mem y, n2]; exact ⟨.inl, fun h => h.elim id fun z => nomatch z⟩⟩
              · have hlb := ((sG3.trans sG4).trans se).seq n2
                refine ⟨lb, by rw [n1]; rfl, ⟨_, hlb⟩, for_list (xs := nV (goalsE M.E x l)) (fun i σ G5 => (∃ v10 v13, σ = [some (.ref a), some (.ref gT), some (.ref mk), some (.ref d), v4, v5, some (.ref d6), some (.ref d7), some (.int (t : Nat)), some (.bl b), v10, some (.int (l : Nat)), some (.ref dg), v13, v14, none]) ∧ Same G3 G5 ∧ ∃ rs, G5 dg = some (.lst (nV rs)) ∧ rs.Nodup ∧ ∀ y, y ∈ rs ↔ (∃ x ∈ p.2.take j, (x, l, y) ∈ M.E) ∨ y ∈ (goalsE M.E x l).take i)
                  ⟨⟨_, _, rfl⟩, sG4.trans se, rs, se _ _ hG4, nod, fun y => by rw [mem y]; exact ⟨.inl, fun h => h.elim id fun z => nomatch z⟩⟩ (fun i σ G5 _ z => ?_) (fun i v σ G5 hv hσ => ?_) (fun σ G5 hσ => ?_)⟩
                · exact (sG3.trans z.2.1).seq n2
                · obtain ⟨⟨v10, v13, rfl⟩, sG5, rs, hG5, nod, mem5⟩ := hσ
                  obtain ⟨y, rfl, hy⟩ := nV_get hv
                  have rsn : rs.length ≤ 49152 := by
                    have := len_of_cover nod (c := List.range M.n) fun z hz => by
                      rcases (mem5 z).mp hz with ⟨x, _, h⟩ | h
                      · exact List.mem_range.mpr (hw.ef _ h).2.2
                      · exact List.mem_range.mpr (hw.ef _ (mem_goalsE.mp (List.mem_of_mem_take h))).2.2
                    rw [List.length_range] at this
                    have := hw.n1
                    omega
                  refine ⟨_, rfl, _, rfl, in_nVL true (.inl (SqL.of hG5)) ⟨_, rfl, iteB (fun c => ?_) fun c => ⟨⟨_, _, rfl⟩, sG5, rs, hG5, nod, fun z => ?_⟩⟩⟩
                  · have c3 : y ∉ rs := fun z => by
                      rw [if_pos rfl, decide_eq_true z] at c
                      cases c
                    refine ⟨_, rfl, .inl ⟨rfl, _, SqL.of hG5⟩, _, rfl, dg, _, _, rfl, rfl, hG5, by rw [nV_len]; exact line_lt (by omega), ⟨_, _, rfl⟩, same_put sG5 hdg, rs ++ [y], ?_, nodup_snoc nod c3, fun z => ?_⟩
                    · rw [upd_same]
                      exact congrArg (fun z => some (HO.lst z)) (nV_snoc rs y)
                    · rw [take_snoc hy, List.mem_append, List.mem_append, mem5 z, or_assoc]
                  · have c3 : y ∈ rs := by
                      by_cases h : y ∈ rs
                      · exact h
                      · rw [if_pos rfl, decide_eq_false h] at c
                        cases c
                    rw [take_snoc hy, List.mem_append, mem5 z, ← or_assoc]
                    refine ⟨.inl, fun h => h.elim id fun h => ?_⟩
                    rw [List.mem_singleton.mp h]
                    exact (mem5 y).mp c3
                · obtain ⟨⟨v10, v13, rfl⟩, sG5, rs, hG5, nod, mem5⟩ := hσ
                  rw [nV_len, List.take_length] at mem5
                  exact ⟨⟨_, _, rfl⟩, sG5, rs, hG5, nod, fun y => by rw [mem', mem5]⟩
            · obtain ⟨⟨v10, v13, rfl⟩, sG4, rs, hG4, nod, mem⟩ := hσ
              rw [nV_len, List.take_length] at mem
              have es : sortS rs = mvE M.E p.2 l := sorted_ext (sortS_sorted _) (mvE_sorted _ _ _) fun y => by rw [mem_sortS, mem y, mem_mvE]
              have rsn : rs.length ≤ 49152 := by
                have := len_of_cover nod (c := List.range M.n) fun z hz => by
                  obtain ⟨x, _, h⟩ := (mem z).mp hz
                  exact List.mem_range.mpr (hw.ef _ h).2.2
                rw [List.length_range] at this
                have := hw.n1
                omega
              obtain ⟨z, hz⟩ : ∃ z, row[l]? = some z := ⟨row[l]'(by omega), by simp⟩
              refine ⟨_, rfl, _, rfl, _, rfl, d6, _, _, _, rfl, rfl, SqL.of (sG4 _ _ m1), atI_n rfl hp1, pq, _, _, _, rfl, rfl, Same.tup sG4 u1, atI_n (n := 0) rfl rfl, gT, _, _, _, rfl, rfl, (sG.trans (sG3.trans sG4)).seq t1, atI_n rfl hr1, _, rfl, rq, _, _, _, rfl, rfl, (sG.trans (sG3.trans sG4)).seq hr2, atI_n rfl (nV_at hz), ?_⟩
              refine rd_sortI (l := rs) (fun R h => ⟨_, rfl, h dg G4 (Same.refl G4) (.inl (SqL.of hG4))⟩) nod (by omega) fun bt G5 s5 hbt => ⟨(sz1000 (n := 2) (by decide) : 2 ≤ sizeLine), fun q hq => ?_⟩
              have sq := same_new (o := .tup [.int (z : Nat), .ref bt]) hq
              have s6 := sG4.trans (s5.trans sq)
              have hqa : rAg K (upd G5 q (.tup [.int (z : Nat), .ref bt])) q (z, mvE M.E p.2 l) := ⟨bt, SqT.of upd_same, Same.tup sq (by rw [← es]; exact hbt)⟩
              have nr : AgR M tbl (z, mvE M.E p.2 l) := by
                obtain ⟨s, wd, a1, a2, a3, a4⟩ := rch p (List.mem_of_getElem? hp)
                refine ⟨s, wd ++ [l], a1, snoc_lt a2 hl, ?_, ?_⟩
                · rw [plc_snoc, ← a3]
                  unfold tGo
                  rw [hrow]
                  show z = (row[l]?).getD 0
                  rw [hz]
                  rfl
                · rw [runE_snoc, ← a4]
              have lm6 := lm.same (stb_ag K) s6
              have nd6 := nd.same s6
              refine ⟨_, rfl, _, rfl, d7, kvs, kAg (z, mvE M.E p.2 l), q, rfl, rfl, nd6, key_ag hqa, dep_ag _, _, rfl, iteB (fun c => ?_) fun c => ⟨⟨_, _, _, _, _, rfl⟩, sG3.trans s6, prs, kvs, lm6, nd6, kl, rch, by omega, hp⟩⟩
              obtain ⟨qs6, g1, g2⟩ := id lm6
              refine ⟨_, rfl, _, rfl, d7, kvs, kAg (z, mvE M.E p.2 l), q, rfl, rfl, nd6, key_ag hqa, dep_ag _, line_lt (by omega), fun G7 np => ?_⟩
              have t7 := tk_nput nd6 np
              have g7 : G7 d6 = some (.lst (qs6.map V.ref)) := (np.2 d6 n67).trans g1
              have lm7 : LM (rAg K) G7 d6 prs := ⟨qs6, g7, Paired.imp (fun _ _ r => stb_ag K _ _ _ _ t7 r) g2⟩
              obtain ⟨rs7, r1, r2, r3⟩ := lm7.app (stb_ag K) (Same.refl G7) (stb_ag K _ _ _ _ t7 hqa)
              refine ⟨_, rfl, .inl ⟨rfl, _, SqL.of r1⟩, _, rfl, d6, _, _, rfl, rfl, r1, by rw [r2]; exact line_lt (by omega), ⟨_, _, _, _, _, rfl⟩, ?_, prs ++ [(z, mvE M.E p.2 l)], _, r3, np.1.keep (lm_upd lm7) (upd_ne (Ne.symm n67)), ?_, ?_, ?_, snoc_get hp⟩
              · exact same_put (same_nput (sG3.trans s6) hd7t np) hd6
              · have := length_putK kvs (kAg (z, mvE M.E p.2 l)) (.bl true)
                rw [List.length_append]
                show _ ≤ prs.length + 1
                omega
              · intro p' hp'
                rcases List.mem_append.mp hp' with h | h
                · exact rch p' h
                · rw [List.mem_singleton.mp h]
                  exact nr
              · rw [List.length_append]
                show prs.length + 1 ≤ _
                omega
          · obtain ⟨⟨v10, v11, v12, v13, v14, rfl⟩, sG3, prs, kvs, lm, nd, kl, rch, pl', hp⟩ := hσ
            exact ⟨⟨_, _, _, _, _, _, _, rfl⟩, sG3, prs, kvs, lm, nd, kl, rch, by omega⟩
      · obtain ⟨⟨v8, v9, v10, v11, v12, v13, v14, rfl⟩, sG', _⟩ := hσ
        exact hQ G' (sG.trans sG')
end
end K23
/-! K23Lm -/
set_option Elab.async false
set_option linter.all false
set_option maxRecDepth 100000
set_option maxHeartbeats 4000000
namespace K23
open PySem PySem.Spec PyProof.Rows L2
section
variable {P : Program} {w : World} {K : PySem.W.Frag} {mg : Str → Option Value} {base : Heap}
def mkP (Rw : Nat → Net) (ms : List Nat) (k : Nat) (p : List (List Nat)) : Bool := meanB (fun j => hasE (Rw j).F (p.getD j [])) ms k
theorem val_mark {S L k : Nat} {fl : Bool} {Rw Ns : Nat → Net} {ms : List Nat} {V : Net} {R : List (List Nat) → Prop} {pts : List (List (List Nat))} {tbl : List (List Nat)} (md : ∀ i, i < 3 → MadeOf (Ns i) (Rw i).S (Rw i).L (Rw i).n (Rw i).E (Rw i).F)
    (gV : Gd S L (kaR Rw) (clR fl S) (k + 1) (vaL (fun i s wd => (Ns i).acc s wd) ms k) V) (gr : Gr Rw S L R pts tbl) (e : tbl.length = pts.length) {s : Nat} {wd : List Nat} (hs : s < S) (hw : Ov L wd) : V.acc s wd = mkF (pts.map (mkP Rw ms k)) (plc tbl s wd) := by
  have hp := plc_pt gr e hs wd hw
  rw [gV.ac s wd hs hw, mkF_get (x := plc tbl s wd) (b := mkP Rw ms k (ptR Rw s wd)) (by rw [List.getElem?_map, hp]; rfl)]
  refine mean_cong (fun i hi => ?_) ms k
  obtain ⟨_, _, _, mE, _, mF⟩ := md i hi
  rw [pt_get hi]
  refine bool_ext ?_
  rw [acc_iff, hasE_iff, runE_cong mE]
  exact ⟨fun ⟨x, h1, h2⟩ => ⟨x, h1, (mF x).mp h2⟩, fun ⟨x, h1, h2⟩ => ⟨x, h1, (mF x).mpr h2⟩⟩
theorem raw_raw {S L : Nat} {fl : Bool} {Rw : Nat → Net} (h : NetsRng S L fl Rw) {i : Nat} (hi : i < 3) : Raw (Rw i).S (Rw i).L (Rw i).n (Rw i).E (Rw i).F := by
  have r := h.at_ i hi
  have n5 : (Rw i).n ≤ 5 := by
    have := h.s3
    cases fl with
    | true =>
      have := r.n1 rfl
      omega
    | false =>
      have := r.n0 rfl
      have := h.s2 rfl
      omega
  have s1 := h.s1
  have l1 := h.l1
  have l2 := h.l2
  have eS := r.eS
  have eL := r.eL
  have sn := r.sn
  have el := r.pr.el
  have fn := r.pr.fn
  exact ⟨by omega, by omega, by omega, by omega, by omega, r.pr.ef, r.pr.ff, by omega, by omega⟩
def sp_law (P : Program) (w : World) (K : PySem.W.Frag) : SpN := fun vs H Q => ∃ (a : Addr) (ns : List Int), vs = [.ref a] ∧ SqL K H a (ns.map V.int) ∧ ∀ H', Same H H' → Q (.bl true) H'
theorem len_law : ∀ vs H Q, sp_law P w K vs H Q → vs.length = 1 := fun _ _ _ ⟨_, _, e, _⟩ => by subst e; rfl
def refs (x : Nat → Addr) (i : Nat) : List V := (List.range i).map fun j => .ref (x j)
theorem refs_snoc (x : Nat → Addr) (i : Nat) (y : Addr) : refs x i ++ [.ref y] = refs (fun j => if j = i then y else x j) (i + 1) := by
  unfold refs
  rw [List.range_succ, List.map_append]
  congr 1
  · refine List.map_congr_left fun j hj => ?_
    have := List.mem_range.mp hj
    show V.ref (x j) = V.ref (if j = i then y else x j)
    rw [if_neg (by omega)]
  · show _ = [V.ref (if i = i then y else x i)]
    rw [if_pos rfl]
theorem fnok_of {x qual : Str} {params : Arguments} {bd : List Stmt} {sc : Scope} {f : Addr} {fd : FuncData} {N ps : List Str} {k : Nat} {sp : SpN} (F : FunD K x qual params bd sc [] [] f fd) (S : FnScope N ps sc)
    (len : ∀ vs H Q, sp vs H Q → vs.length = ps.length)
    (body : ∀ (cdv : Value) (A : Around) (outer : List Env) (s : Shared) (H : Hp) (vs : List V) (Q : VK) (E : XK), Room k (A.deeper (envOfC qual sc s.heap.objs.size f cdv)) → sp vs H Q →
      ∃ t, PSs (cxOf CX0 P w K mg base N qual sc f cdv A outer s H E).nox bd t ∧ t { nx := fun _ H' => Q .non H', rt := Q } (start N vs) H) : FnOk P w K mg base CX0 (k + 1) f fd ps (fun vs H Q _ => sp vs H Q) :=
  F.ok S (fun vs H Q _ h => len vs H Q h) (fun cdv A outer s H vs Q E hr h => let ⟨t, h1, h2⟩ := body cdv A outer s H vs Q E hr h; ⟨t, h1.nox, h2⟩)
theorem sc_law : FnScope ["_law_script", "_law_numbers_here", "_law_parts_here", "_law_states", "_law_letters", "_law_size", "_law_nets_here", "_law_value_here", "_law_graph_here", "_law_marks", "_law_point", "_law_flags", "_law_pile", "_law_state", "_law_place", "_law_letter", "_law_one", "_law_k"] ["_law_script"] (defScope s_law) := ⟨rfl, rfl, rfl, by decide +kernel, rfl, by decide +kernel, by decide +kernel⟩
/- slots: 0 _law_script, 1 _law_numbers_here, 2 _law_parts_here, 3 _law_states, 4 _law_letters, 5 _law_size, 6 _law_nets_here, 7 _law_value_here, 8 _law_graph_here, 9 _law_marks, 10 _law_point, 11 _law_flags, 12 _law_pile, 13 _law_state, 14 _law_place, 15 _law_letter, 16 _law_one, 17 _law_k -/
theorem ok_law (T : Tb K mg) {fd : FuncData} (F : FunD K d_law.name d_law.qual d_law.params d_law.body d_law.scope [] [] (He.fAd K d_law.at_) fd) (c_L_numbers : Cal P w K mg base (He.ga K "_law_numbers") 1 ["_law_script", "_law_count"] (sp_L_numbers P w K)) (c_L_nets : Cal P w K mg base (He.ga K "_law_nets") 2 ["_law_numbers_here"] (sp_L_nets P w K)) (c_L_net : Cal P w K mg base (He.ga K "_law_net") 4 ["_law_parts_here"] (sp_L_net P w K)) (c_L_value : Cal P w K mg base (He.ga K "_law_value") 9 ["_law_nets_here", "_law_numbers_here", "_law_size"] (sp_L_value P w K)) (c_L_is_plain : Cal P w K mg base (He.ga K "_law_is_plain") 3 ["_law_net_here", "_law_states", "_law_letters"] (sp_L_is_plain P w K)) (c_L_graph : Cal P w K mg base (He.ga K "_law_graph") 2 ["_law_nets_here"] (sp_L_graph P w K)) (c_L_has_end : Cal P w K mg base (He.ga K "_law_has_end") 1 ["_law_parts_here", "_law_group"] (sp_L_has_end P w K)) (c_L_meaning : Cal P w K mg base (He.ga K "_law_meaning") 2 ["_law_flags", "_law_numbers_here", "_law_size"] (sp_L_meaning P w K)) (c_L_agree : Cal P w K mg base (He.ga K "_law_agree") 1 ["_law_net_here", "_law_goals", "_law_marks"] (sp_L_agree P w K)) (c_first : Cal P w K mg base (He.ga K "first") 5 ["net"] (sp_first P w K)) (c_L_least : Cal P w K mg base (He.ga K "_law_least") 2 ["_law_goals", "_law_marks", "_law_states", "_law_letters"] (sp_L_least P w K)) (c_L_is_configuration : Cal P w K mg base (He.ga K "_law_is_configuration") 3 ["_law_found", "_law_due"] (sp_L_is_configuration P w K)) (c_L_piles : Cal P w K mg base (He.ga K "_law_piles") 1 ["_law_numbers_here", "_law_at", "_law_letters"] (sp_L_piles P w K)) (c_Net_accepts : Cal P w K mg base (He.ma K (NetC K) "accepts") 3 ["self", "configuration"] (sp_Net_accepts P w K)) (c_L_tells : Cal P w K mg base (He.ga K "_law_tells") 1 ["_law_found", "_law_due"] (sp_L_tells P w K)) (c_L_kept : Cal P w K mg base (He.ga K "_law_kept") 3 ["_law_net_here", "_law_parts_here"] (sp_L_kept P w K)) : FnOk P w K mg base CX0 10 (He.ga K "law") fd ["_law_script"] (fun vs H Q _ => sp_law P w K vs H Q) := by
  refine fnok_of (N := ["_law_script", "_law_numbers_here", "_law_parts_here", "_law_states", "_law_letters", "_law_size", "_law_nets_here", "_law_value_here", "_law_graph_here", "_law_marks", "_law_point", "_law_flags", "_law_pile", "_law_state", "_law_place", "_law_letter", "_law_one", "_law_k"]) F sc_law (len_law) fun cdv A outer s H vs Q E hr h => ?_
  refine ⟨(tSeq (tAsg (tDo (sp_L_numbers P w K) (tCons (tVar 0) (tCons (tC (.int 42)) tNil))) (gName 1)) (tSeq (tAsg (tDo (sp_L_nets P w K) (tCons (tVar 1) tNil)) (gName 2)) (tSeq (tAsg (tOp (rIxT K) (tOp (rIxL K) (tVar 2) (tC (.int 0))) (tC (.int 0))) (gName 3)) (tSeq (tAsg (tOp (rIxT K) (tOp (rIxL K) (tVar 2) (tC (.int 0))) (tC (.int 1))) (gName 4)) (C8.tCut (tAsg (tOp rMo (tCB rInt1 (tCons (tOp rFd (tOp (rIxL K) (tVar 1) (tC (.int 1))) (tC (.int 54))) tNil)) (tC (.int 4))) (gName 5)) (tSeq (tAsg (tLc (iList K (tVar 2)) (gName 16) tYes (tDo (sp_L_net P w K) (tCons (tVar 16) tNil)) [16]) (gName 6)) (tSeq (tAsg (tDo (sp_L_value P w K) (tCons (tVar 6) (tCons (tVar 1) (tCons (tVar 5) tNil)))) (gName 7)) (tSeq (tIfS (tNot (tB (tDo (sp_L_is_plain P w K) (tCons (tVar 7) (tCons (tVar 3) (tCons (tVar 4) tNil)))))) (tRet (tC (.bl false))) tNext) (tSeq (tAsg (tDo (sp_L_graph P w K) (tCons (tVar 2) tNil)) (gName 8)) (tSeq (tAsg (tLst tNil) (gName 9)) (tSeq (tFor (iList K (tOp (rIxL K) (tVar 8) (tC (.int 0)))) (gName 10) (tSeq (tAsg (tLc (iRng1 (tCons (tC (.int 3)) tNil)) (gName 17) tYes (tDo (sp_L_has_end P w K) (tCons (tOp (rIxL K) (tVar 2) (tVar 17)) (tCons (tOp (rIxT K) (tVar 10) (tVar 17)) tNil))) [17]) (gName 11)) (tDrop (tBM K "list" rAppend (tVar 9) (tCons (tDo (sp_L_meaning P w K) (tCons (tVar 11) (tCons (tVar 1) (tCons (tVar 5) tNil)))) tNil))))) (tSeq (tIfS (tNot (tB (tDo (sp_L_agree P w K) (tCons (tVar 7) (tCons (tOp (rIxL K) (tVar 8) (tC (.int 1))) (tCons (tVar 9) tNil)))))) (tRet (tC (.bl false))) tNext) (tSeq (tIfS (tNot (tB (tDo (sp_L_is_configuration P w K) (tCons (tDo (sp_first P w K) (tCons (tVar 7) tNil)) (tCons (tDo (sp_L_least P w K) (tCons (tOp (rIxL K) (tVar 8) (tC (.int 1))) (tCons (tVar 9) (tCons (tVar 3) (tCons (tVar 4) tNil))))) tNil))))) (tRet (tC (.bl false))) tNext) (tSeq (tFor (iList K (tDo (sp_L_piles P w K) (tCons (tVar 1) (tCons (tC (.int 36)) (tCons (tVar 4) tNil))))) (gName 12) (tFor (iRng1 (tCons (tVar 3) tNil)) (gName 13) (tSeq (tAsg (tVar 13) (gName 14)) (tSeq (tFor (iTup K (tVar 12)) (gName 15) (tAsg (tOp (rIxL K) (tOp (rIxL K) (tOp (rIxL K) (tVar 8) (tC (.int 1))) (tVar 14)) (tVar 15)) (gName 14))) (tIfS (tNot (tB (tDo (sp_L_tells P w K) (tCons (tMe K "accepts" (sp_Net_accepts P w K) (tVar 7) (tCons (tTup (tCons (tVar 13) (tCons (tVar 12) tNil))) tNil)) (tCons (tOp (rIxL K) (tVar 9) (tVar 14)) tNil))))) (tRet (tC (.bl false))) tNext))))) (tRet (tAndV (tDo (sp_L_kept P w K) (tCons (tOp (rIxL K) (tVar 6) (tC (.int 0))) (tCons (tOp (rIxL K) (tVar 2) (tC (.int 0))) tNil))) (tAndV (tDo (sp_L_kept P w K) (tCons (tOp (rIxL K) (tVar 6) (tC (.int 1))) (tCons (tOp (rIxL K) (tVar 2) (tC (.int 1))) tNil))) (tDo (sp_L_kept P w K) (tCons (tOp (rIxL K) (tVar 6) (tC (.int 2))) (tCons (tOp (rIxL K) (tVar 2) (tC (.int 2))) tNil)))))))))))))))))))), (pss_cons (ps_set (i := 1) sc_law.nd rfl (by first | exact Or.inl rfl | exact Or.inr rfl) (pcal c_L_numbers (hr.mono (by decide)) (T.glo 16 "_law_numbers" rfl) (pa_cons (pv 0) (pa_cons pe_int pa_nil)))) (pss_cons (ps_set (i := 2) sc_law.nd rfl (by first | exact Or.inl rfl | exact Or.inr rfl) (pcal c_L_nets (hr.mono (by decide)) (T.glo 32 "_law_nets" rfl) (pa_cons (pv 1) pa_nil))) (pss_cons (ps_set (i := 3) sc_law.nd rfl (by first | exact Or.inl rfl | exact Or.inr rfl) (pe_ix ix_tup (pe_ix ix_list (pv 2) pe_int (fun _ _ => rfl)) pe_int (fun _ _ => rfl))) (pss_cons (ps_set (i := 4) sc_law.nd rfl (by first | exact Or.inl rfl | exact Or.inr rfl) (pe_ix ix_tup (pe_ix ix_list (pv 2) pe_int (fun _ _ => rfl)) pe_int (fun _ _ => rfl))) (C8.pss_cut (ps_set (i := 5) sc_law.nd rfl (by first | exact Or.inl rfl | exact Or.inr rfl) (pe_op op_mod (pe_callTy call_int1n (by rfl) (T.fre 7 "int" rfl) kb_int (pa_cons (pe_op op_fdiv (pe_ix ix_list (pv 1) pe_int (fun _ _ => rfl)) pe_int) pa_nil)) pe_int)) (pss_cons (ps_setLc (i := 6) (own := [("_law_one", 16)]) (g := (gName 16)) (tt := tYes) (te := (tDo (sp_L_net P w K) (tCons (tVar 16) tNil))) rfl sc_law.nd rfl rfl (sw_true rfl rfl rfl (by decide +kernel)) (pi_list (pv 2)) (blkOk_by (N := ["_law_script", "_law_numbers_here", "_law_parts_here", "_law_states", "_law_letters", "_law_size", "_law_nets_here", "_law_value_here", "_law_graph_here", "_law_marks", "_law_point", "_law_flags", "_law_pile", "_law_state", "_law_place", "_law_letter", "_law_one", "_law_k"]) (sc := defScope s_law) (by decide +kernel)) (fun _ _ _ _ _ => (pg_name (i := 16) sc_law.nd rfl (by first | exact Or.inl rfl | exact Or.inr rfl))) (fun _ _ _ _ _ => pts_nil) (fun _ _ _ _ _ => (pcal c_L_net (hr.mono (by decide)) (T.glo 18 "_law_net" rfl) (pa_cons (pv 16) pa_nil)))) (pss_cons (ps_set (i := 7) sc_law.nd rfl (by first | exact Or.inl rfl | exact Or.inr rfl) (pcal c_L_value (hr.mono (by decide)) (T.glo 35 "_law_value" rfl) (pa_cons (pv 6) (pa_cons (pv 1) (pa_cons (pv 5) pa_nil))))) (pss_cons (ps_if (pt_not (pt_val (pcal c_L_is_plain (hr.mono (by decide)) (T.glo 23 "_law_is_plain" rfl) (pa_cons (pv 7) (pa_cons (pv 3) (pa_cons (pv 4) pa_nil)))) (by intro _; rfl))) (pss_one (ps_ret pe_bl)) pss_nil) (pss_cons (ps_set (i := 8) sc_law.nd rfl (by first | exact Or.inl rfl | exact Or.inr rfl) (pcal c_L_graph (hr.mono (by decide)) (T.glo 29 "_law_graph" rfl) (pa_cons (pv 2) pa_nil))) (pss_cons (ps_set (i := 9) sc_law.nd rfl (by first | exact Or.inl rfl | exact Or.inr rfl) (pe_lst pa_nil)) (pss_cons (ps_for PassesOwn.never rfl (pi_list (pe_ix ix_list (pv 8) pe_int (fun _ _ => rfl))) (pg_name (i := 10) sc_law.nd rfl (by first | exact Or.inl rfl | exact Or.inr rfl)) (pss_cons (ps_setLc (i := 11) (own := [("_law_k", 17)]) (g := (gName 17)) (tt := tYes) (te := (tDo (sp_L_has_end P w K) (tCons (tOp (rIxL K) (tVar 2) (tVar 17)) (tCons (tOp (rIxT K) (tVar 10) (tVar 17)) tNil)))) rfl sc_law.nd rfl rfl (sw_true rfl rfl rfl (by decide +kernel)) (pi_range1 (by rfl) (T.fre 1 "range" rfl) (pa_cons pe_int pa_nil)) (blkOk_by (N := ["_law_script", "_law_numbers_here", "_law_parts_here", "_law_states", "_law_letters", "_law_size", "_law_nets_here", "_law_value_here", "_law_graph_here", "_law_marks", "_law_point", "_law_flags", "_law_pile", "_law_state", "_law_place", "_law_letter", "_law_one", "_law_k"]) (sc := defScope s_law) (by decide +kernel)) (fun _ _ _ _ _ => (pg_name (i := 17) sc_law.nd rfl (by first | exact Or.inl rfl | exact Or.inr rfl))) (fun _ _ _ _ _ => pts_nil) (fun _ _ _ _ _ => (pcal c_L_has_end (hr.mono (by decide)) (T.glo 26 "_law_has_end" rfl) (pa_cons (pe_ix ix_list (pv 2) (pv 17) (fun _ _ => rfl)) (pa_cons (pe_ix ix_tup (pv 10) (pv 17) (fun _ _ => rfl)) pa_nil))))) (pss_one (ps_expr (pe_bm PySem.F.plainAttrs_list PySem.F.slot_list_append PySem.F.type_list_append mt_append (pv 9) (pa_cons (pcal c_L_meaning (hr.mono (by decide)) (T.glo 36 "_law_meaning" rfl) (pa_cons (pv 11) (pa_cons (pv 1) (pa_cons (pv 5) pa_nil)))) pa_nil)))))) (pss_cons (ps_if (pt_not (pt_val (pcal c_L_agree (hr.mono (by decide)) (T.glo 37 "_law_agree" rfl) (pa_cons (pv 7) (pa_cons (pe_ix ix_list (pv 8) pe_int (fun _ _ => rfl)) (pa_cons (pv 9) pa_nil)))) (by intro _; rfl))) (pss_one (ps_ret pe_bl)) pss_nil) (pss_cons (ps_if (pt_not (pt_val (pcal c_L_is_configuration (hr.mono (by decide)) (T.glo 24 "_law_is_configuration" rfl) (pa_cons (pcal c_first (hr.mono (by decide)) (T.glo 15 "first" rfl) (pa_cons (pv 7) pa_nil)) (pa_cons (pcal c_L_least (hr.mono (by decide)) (T.glo 31 "_law_least" rfl) (pa_cons (pe_ix ix_list (pv 8) pe_int (fun _ _ => rfl)) (pa_cons (pv 9) (pa_cons (pv 3) (pa_cons (pv 4) pa_nil))))) pa_nil))) (by intro _; rfl))) (pss_one (ps_ret pe_bl)) pss_nil) (pss_cons (ps_for PassesOwn.never rfl (pi_list (pcal c_L_piles (hr.mono (by decide)) (T.glo 27 "_law_piles" rfl) (pa_cons (pv 1) (pa_cons pe_int (pa_cons (pv 4) pa_nil))))) (pg_name (i := 12) sc_law.nd rfl (by first | exact Or.inl rfl | exact Or.inr rfl)) (pss_one (ps_for PassesOwn.never rfl (pi_range1 (by rfl) (T.fre 1 "range" rfl) (pa_cons (pv 3) pa_nil)) (pg_name (i := 13) sc_law.nd rfl (by first | exact Or.inl rfl | exact Or.inr rfl)) (pss_cons (ps_set (i := 14) sc_law.nd rfl (by first | exact Or.inl rfl | exact Or.inr rfl) (pv 13)) (pss_cons (ps_for PassesOwn.never rfl (pi_tup (pv 12)) (pg_name (i := 15) sc_law.nd rfl (by first | exact Or.inl rfl | exact Or.inr rfl)) (pss_one (ps_set (i := 14) sc_law.nd rfl (by first | exact Or.inl rfl | exact Or.inr rfl) (pe_ix ix_list (pe_ix ix_list (pe_ix ix_list (pv 8) pe_int (fun _ _ => rfl)) (pv 14) (fun _ _ => rfl)) (pv 15) (fun _ _ => rfl))))) (pss_one (ps_if (pt_not (pt_val (pcal c_L_tells (hr.mono (by decide)) (T.glo 28 "_law_tells" rfl) (pa_cons (pmet rfl (pv 7) T.cl (T.met 3 "accepts" rfl) c_Net_accepts (hr.mono (by decide)) (pa_cons (pe_tup (pa_cons (pv 13) (pa_cons (pv 12) pa_nil))) pa_nil)) (pa_cons (pe_ix ix_list (pv 9) (pv 14) (fun _ _ => rfl)) pa_nil))) (by intro _; rfl))) (pss_one (ps_ret pe_bl)) pss_nil))))))) (pss_one (ps_ret (pe_and (pcal c_L_kept (hr.mono (by decide)) (T.glo 22 "_law_kept" rfl) (pa_cons (pe_ix ix_list (pv 6) pe_int (fun _ _ => rfl)) (pa_cons (pe_ix ix_list (pv 2) pe_int (fun _ _ => rfl)) pa_nil))) (pe_and (pcal c_L_kept (hr.mono (by decide)) (T.glo 22 "_law_kept" rfl) (pa_cons (pe_ix ix_list (pv 6) pe_int (fun _ _ => rfl)) (pa_cons (pe_ix ix_list (pv 2) pe_int (fun _ _ => rfl)) pa_nil))) (pe_one (pcal c_L_kept (hr.mono (by decide)) (T.glo 22 "_law_kept" rfl) (pa_cons (pe_ix ix_list (pv 6) pe_int (fun _ _ => rfl)) (pa_cons (pe_ix ix_list (pv 2) pe_int (fun _ _ => rfl)) pa_nil)))))))))))))))))))))), ?_⟩
  obtain ⟨a, ns, rfl, hA, hQ⟩ := h
  refine ⟨_, rfl, a, ns, 42, rfl, hA, by decide, fun b H1 ms s1 hb hb' ml mlt => ?_⟩
  refine ⟨_, rfl, b, ms, rfl, SqL.of hb', ml, fun d2 H2 S L fl Rw q s2 hd2 pa rng => ?_⟩
  have r0 := rng.at_ 0 (by decide)
  obtain ⟨e0, f0, qa0, _, _⟩ := pa 0 (by decide)
  rw [r0.eS, r0.eL] at qa0
  have hms : SqL K H2 b (nV ms) := s2.seq (SqL.of hb')
  refine ⟨_, rfl, d2, _, _, _, rfl, rfl, SqL.of hd2, atI_n (n := 0) rfl rfl, q 0, _, _, _, rfl, rfl, qa0, atI_n (n := 0) rfl rfl, ?_⟩
  refine ⟨_, rfl, d2, _, _, _, rfl, rfl, SqL.of hd2, atI_n (n := 0) rfl rfl, q 0, _, _, _, rfl, rfl, qa0, atI_n (n := 1) rfl rfl, ?_⟩
  refine ⟨fun σ G => (∃ k : Nat, σ = [some (.ref a), some (.ref b), some (.ref d2), some (.int (S : Nat)), some (.int (L : Nat)), some (.int (k : Nat)), none, none, none, none, none, none, none, none, none, none, none, none] ∧ k ≤ 3) ∧ H2 = G, ?_, ?_⟩
  · refine ⟨_, rfl, b, _, _, _, rfl, rfl, hms, atI_n (n := 1) rfl (mmA_get (by omega)), _, _, rfl, rfl, ⟨by decide, by decide⟩, .inl ⟨_, rfl, _, _, rfl, rfl, (by show (0 : Int) < _; decide), ⟨mmA ms 1 / 54 % 4, ?_, by omega⟩, rfl⟩⟩
    rw [show ((mmA ms 1 / 54 % 4 : Nat) : Int) = (mmA ms 1 : Int) / 54 % 4 by omega]
    rfl
  rintro σ G ⟨⟨k, rfl, hk⟩, rfl⟩
  have hH := s1.trans s2
  dsimp only [tSeq, tIfS, tOr, tAnd, tNot, tB, tTest, tCB, tCons, tNil, tNext, tAsg, tRet, tDrop, tDo, gName]
  -- the nets
  refine ⟨_, rfl, d2, rfl, ⟨_, SqL.of hd2⟩, fun D hD => ?_⟩
  refine walkL (xs := [.ref (q 0), .ref (q 1), .ref (q 2)]) (fun j G => Same H2 G ∧ ∃ (x : Nat → Addr) (Ns : Nat → Net), G D = some (.lst (refs x j)) ∧ ∀ i, i < j → NetAt P w K (hide D G) (x i) (Ns i) ∧ MadeOf (Ns i) (Rw i).S (Rw i).L (Rw i).n (Rw i).E (Rw i).F)
    ⟨same_new hD, fun _ => 0, fun _ => ⟨0, 0, 0, [], []⟩, upd_same, fun i hi => absurd hi (Nat.not_lt_zero _)⟩ (fun j G z => z.1.seq (SqL.of hd2)) (fun j v G hv z => ?_) (fun G z => ?_)
  · obtain ⟨sG, x, Ns, hG, hN⟩ := z
    have jl : j < 3 := (List.getElem?_eq_some_iff.mp hv).1
    have ev : v = .ref (q j) := by
      have : j = 0 ∨ j = 1 ∨ j = 2 := by omega
      rcases this with rfl | rfl | rfl <;> (injection hv with h; exact h.symm)
    subst ev
    obtain ⟨e, f, g1, g2, g3⟩ := (pa j jl).same sG
    refine ⟨rfl, _, rfl, q j, e, f, Rw j, rfl, g1, g2, g3, raw_raw rng jl, fun y H3 M s3 hM hid made => ⟨_, s3 _ _ hG, ?_, same_put (sG.trans s3) hD, (fun i => if i = j then y else x i), (fun i => if i = j then M else Ns i), ?_, fun i hi => ?_⟩⟩
    · unfold refs
      rw [List.length_map, List.length_range]
      exact line_lt (by omega)
    · rw [upd_same, refs_snoc]
    · rw [hide_upd]
      dsimp only
      by_cases c : i = j
      · subst c
        rw [if_pos rfl, if_pos rfl]
        exact ⟨hid D _ hG, made⟩
      · rw [if_neg c, if_neg c]
        obtain ⟨h1, h2⟩ := hN i (by omega)
        exact ⟨h1.same (hide_same s3), h2⟩
  obtain ⟨sG, x, Ns, hG, hN⟩ := z
  have hNs : NetsAt P w K G D Ns := ⟨x, SqL.of hG, fun i hi => (hN i hi).1.same (hide_sub D G)⟩
  have md : ∀ i, i < 3 → MadeOf (Ns i) (Rw i).S (Rw i).L (Rw i).n (Rw i).E (Rw i).F := fun i hi => (hN i hi).2
  have cx := ctx_of rng
  have hR : ∀ i, i < 3 → RawG S L (kaR Rw) (clR fl S) (fun s wd => (Ns i).acc s wd) (Ns i) := fun i hi => raw_good rng hi (hN i hi).1.1 (md i hi)
  -- the value
  refine ⟨_, rfl, _, rfl, _, rfl, D, b, Ns, ms, k, rfl, hNs, sG.seq hms, ml, hk, val_pre cx hR hk, fun v H3 M Vn s3 hV vr po => ?_⟩
  have gV : Gd S L (kaR Rw) (clR fl S) (k + 1) (vaL (fun i s wd => (Ns i).acc s wd) ms k) Vn := (good_val cx hR vr hk).go Vn hV.1 po
  refine ⟨_, rfl, _, rfl, _, rfl, v, Vn, by rw [gV.eS, gV.eL], hV, gV.pl, fun H4 s4 => ⟨_, rfl, ?_⟩⟩
  have s24 : Same H2 H4 := sG.trans (s3.trans s4)
  have sS := rng.s3
  have sL := rng.l2
  have hS1 := rng.s1
  have hL1 := rng.l1
  have gc := gcov_of rng
  -- the graph
  refine ⟨_, rfl, d2, Rw, S, L, RPt Rw S L, _, rfl, ⟨q, s24.seq (SqL.of hd2), fun i hi => (pa i hi).same s24⟩, r0.eS, r0.eL, by omega, by omega, fun i hi => by have := (rng.at_ i hi).pr.el; omega, gc, fun r d1 dt H5 pts tbl s5 hr l1 tb gr ge => ?_⟩
  have s25 : Same H2 H5 := s24.trans s5
  have hV5 : NetAt P w K H5 v Vn := hV.same (s4.trans s5)
  have ptl : pts.length ≤ 1000 := Nat.le_trans (len_of_cover gr.nod fun p hp => gc.cpm p (gr.rch p hp)) gc.cpl
  obtain ⟨ps, m1, m2⟩ := id l1
  refine ⟨Nat.zero_le _, fun dm hdm => ?_⟩
  have s6 := same_new (o := .lst []) hdm
  dsimp only [tSeq, tIfS, tOr, tAnd, tNot, tB, tTest, tCB, tCons, tNil, tNext, tAsg, tRet, tDrop, tDo, gName]
  refine tforL (fun R h => ⟨_, rfl, r, _, _, _, rfl, rfl, s6.seq hr, atI_n (n := 0) rfl rfl, h⟩) (fun i σ G => (∃ v10 v11, σ = [some (.ref a), some (.ref b), some (.ref d2), some (.int (S : Nat)), some (.int (L : Nat)), some (.int (k : Nat)), some (.ref D), some (.ref v), some (.ref r), some (.ref dm), v10, v11, none, none, none, none, none, none]) ∧ Same H5 G ∧ G dm = some (.lst ((pts.take i).map fun p => V.bl (mkP Rw ms k p))))
    (s6.seq (SqL.of m1)) ⟨⟨_, _, rfl⟩, s6, upd_same⟩ (fun i σ G z => z.2.1.seq (SqL.of m1)) (fun i v' σ G hv hσ => ?_) (fun σ G hσ => ?_)
  · obtain ⟨⟨v10, v11, rfl⟩, sG, hm⟩ := hσ
    obtain ⟨pq, p, rfl, hp, us, u1, u2⟩ := pr_get m2 hv
    have p3l := gc.r3 p (gr.rch p (List.mem_of_getElem? hp))
    have s2G := s25.trans sG
    dsimp only [tSeq, tIfS, tOr, tAnd, tNot, tB, tTest, tCB, tCons, tNil, tNext, tAsg, tRet, tDrop, tDo, gName]
    refine tlcR (n := 3) (fun R h => h) (by decide) (fun j => (List.range j).map fun t => V.bl (hasE (Rw t).F (p.getD t []))) rfl (fun D' hD' j G' hj sG' hG' => ?_) (fun D' hD' G' sG' hG' => ?_)
    · obtain ⟨g, hg⟩ : ∃ g, p[j]? = some g := ⟨p[j]'(by omega), by simp⟩
      obtain ⟨bq, hb1, hb2⟩ := pr_ix u2 hg
      have gd : p.getD j [] = g := by
        rw [List.getD_eq_getElem?_getD, hg]
        rfl
      have hqj := three_get (v := fun i => .ref (q i)) j
      rw [Nat.mod_eq_of_lt hj] at hqj
      refine ⟨rfl, ⟨_, rfl, _, rfl, d2, _, _, _, rfl, rfl, (s2G.trans sG').seq (SqL.of hd2), atI_n rfl hqj, _, rfl, _, rfl, pq, _, _, _, rfl, rfl, Same.tup (sG.trans sG') u1, atI_n rfl hb1, q j, bq, Rw j, g, rfl, (pa j hj).same (s2G.trans sG'), Same.tup (sG.trans sG') hb2, ⟨_, hG', ?_, same_put sG' hD', ?_⟩⟩⟩
      · rw [List.length_map, List.length_range]
        exact line_lt (by omega)
      · rw [List.range_succ, List.map_append, ← gd]
        rfl
    · have hm' := sG' _ _ hm
      have hfl : SqL K G' D' (flV fun t => hasE (Rw t).F (p.getD t [])) := SqL.of hG'
      refine ⟨_, rfl, .inl ⟨rfl, _, SqL.of hm'⟩, _, rfl, _, rfl, _, rfl, D', b, (fun t => hasE (Rw t).F (p.getD t [])), ms, k, rfl, hfl, (s2G.trans sG').seq hms, ml, hk, dm, _, _, rfl, rfl, hm', ?_, ⟨_, _, rfl⟩, same_put (sG.trans sG') hdm, ?_⟩
      · rw [List.length_map, List.length_take]
        exact line_lt (by omega)
      · rw [upd_same, take_snoc hp, List.map_append]
        rfl
  obtain ⟨⟨v10, v11, rfl⟩, s56, hm⟩ := hσ
  rw [pr_len m2, List.take_length] at hm
  obtain ⟨mks, emks⟩ : ∃ mks, mks = pts.map (mkP Rw ms k) := ⟨_, rfl⟩
  have hm2 : SqL K G dm (mks.map V.bl) := by
    rw [emks, List.map_map]
    exact SqL.of hm
  have ml2 : mks.length = tbl.length := by rw [emks, List.length_map, ge]
  have ok : TblOk tbl L := gr.ok ge
  have sl : S ≤ tbl.length := by
    have := (List.getElem?_eq_some_iff.mp (gr.pre (S - 1) (by omega))).1
    omega
  have tl : tbl.length ≤ 1000 := by omega
  have vm : ∀ s wd, s < S → Ov L wd → Vn.acc s wd = mkF mks (plc tbl s wd) := fun s wd hs hw => by
    rw [emks]
    exact val_mark md gV gr ge hs hw
  have agp : AgPre Vn tbl mks := ⟨by rw [gV.eL]; exact ok, ml2, by rw [gV.eS]; exact sl, tl, fun s wd hs hw => vm s wd (by rw [← gV.eS]; exact hs) (by rw [← gV.eL]; exact hw)⟩
  -- both agree
  refine ⟨_, rfl, _, rfl, r, _, _, _, rfl, rfl, s56.seq hr, atI_n (n := 1) rfl rfl, _, rfl, v, dt, dm, Vn, tbl, mks, rfl, hV5.same s56, tb.same s56, hm2, agp, fun H7 s7 => ⟨_, rfl, ?_⟩⟩
  have s57 := s56.trans s7
  -- the first
  refine ⟨_, rfl, v, Vn, rfl, hV5.same s57, fun u H8 r1 s8 o1 f1 => ?_⟩
  have s58 := s57.trans s8
  have s68 := s7.trans s8
  refine ⟨_, rfl, r, _, _, _, rfl, rfl, s58.seq hr, atI_n (n := 1) rfl rfl, _, rfl, _, rfl, _, rfl, dt, dm, tbl, mks, S, L, rfl, tb.same s58, s68.seq hm2, ml2, ok, tl, hS1, sl, sL, fun u2 H9 r2 s9 o2 lo => ?_⟩
  have er : r1 = r2 := same_first hV.1 (by rw [gV.eL]; exact ok) (by rw [gV.eS]; exact sl) (fun s wd hs hw => agp.acc s wd hs hw) f1 (by rw [gV.eS, gV.eL]; exact lo)
  subst er
  refine ⟨u, u2, r1, rfl, ?_, o2, fun H10 s10 => ⟨_, rfl, ?_⟩⟩
  · cases r1 with
    | none => exact o1
    | some x =>
      obtain ⟨q1, b1, h1, h2, h3⟩ := o1
      exact ⟨q1, b1, h1, Same.tup s9 h2, Same.tup s9 h3⟩
  have s6a := s68.trans (s9.trans s10)
  have s5a := s56.trans s6a
  have s2a := s25.trans s5a
  -- the piles
  refine ⟨_, rfl, _, rfl, b, ms, 36, L, rfl, s2a.seq hms, by omega, hL1, sL, by decide, fun dp H11 piles s11 lmp pil => ?_⟩
  obtain ⟨pl, p1, p2⟩ := id lmp
  have s6b := s6a.trans s11
  have s5b := s5a.trans s11
  have s2b := s2a.trans s11
  have hV11 := hV5.same s5b
  refine ⟨dp, rfl, ⟨_, SqL.of p1⟩, for_list (xs := pl.map V.ref) (fun i σ G => (∃ v12 v13 v14 v15, σ = [some (.ref a), some (.ref b), some (.ref d2), some (.int (S : Nat)), some (.int (L : Nat)), some (.int (k : Nat)), some (.ref D), some (.ref v), some (.ref r), some (.ref dm), v10, v11, v12, v13, v14, v15, none, none]) ∧ Same H11 G) ⟨⟨_, _, _, _, rfl⟩, Same.refl _⟩ (fun i σ G _ z => z.2.seq (SqL.of p1)) (fun i v' σ G hv hσ => ?_) (fun σ G hσ => ?_)⟩
  · obtain ⟨⟨v12, v13, v14, v15, rfl⟩, sG⟩ := hσ
    obtain ⟨pq, wd, rfl, hwd, hpq⟩ := pr_get p2 hv
    obtain ⟨ov, _⟩ := pil wd (List.mem_of_getElem? hwd)
    dsimp only [tSeq, tIfS, tOr, tAnd, tNot, tB, tTest, tCB, tCons, tNil, tNext, tAsg, tRet, tDrop, tDo, gName]
    refine tforR (n := S) (fun R h => ⟨_, rfl, h⟩) (by omega) (fun s σ G => (∃ v13 v14 v15, σ = [some (.ref a), some (.ref b), some (.ref d2), some (.int (S : Nat)), some (.int (L : Nat)), some (.int (k : Nat)), some (.ref D), some (.ref v), some (.ref r), some (.ref dm), v10, v11, some (.ref pq), v13, v14, v15, none, none]) ∧ Same H11 G) ⟨⟨_, _, _, rfl⟩, sG⟩ (fun s σ G hs hσ => ?_) (fun σ G hσ => ?_)
    · obtain ⟨⟨v13, v14, v15, rfl⟩, sG⟩ := hσ
      refine ⟨_, rfl, ?_⟩
      dsimp only [tSeq, tIfS, tOr, tAnd, tNot, tB, tTest, tCB, tCons, tNil, tNext, tAsg, tRet, tDrop, tDo, gName]
      obtain ⟨qs, t1, t2⟩ := id tb
      refine tforT (fun R h => ⟨_, rfl, h⟩) (fun j σ G' => (∃ v15, σ = [some (.ref a), some (.ref b), some (.ref d2), some (.int (S : Nat)), some (.int (L : Nat)), some (.int (k : Nat)), some (.ref D), some (.ref v), some (.ref r), some (.ref dm), v10, v11, some (.ref pq), some (.int (s : Nat)), some (.int (plc tbl s (wd.take j) : Nat)), v15, none, none]) ∧ G = G') (Same.tup sG hpq) ⟨⟨_, rfl⟩, rfl⟩ (fun j σ G' z => by rw [← z.2]; exact Same.tup sG hpq) (fun j x σ G' hx hσ => ?_) (fun σ G' hσ => ?_)
      · obtain ⟨⟨v15, rfl⟩, rfl⟩ := hσ
        obtain ⟨l, rfl, hl⟩ := nV_get hx
        have ll := ov l (List.mem_of_getElem? hl)
        have pt : plc tbl s (wd.take j) < tbl.length := plc_lt ok _ (by omega) fun m hm => ov m (List.mem_of_mem_take hm)
        obtain ⟨row, hrow⟩ : ∃ row, tbl[plc tbl s (wd.take j)]? = some row := ⟨tbl[plc tbl s (wd.take j)], by simp [pt]⟩
        have rl := ok.row _ _ hrow
        obtain ⟨rq, hr1, hr2⟩ := pr_ix t2 hrow
        obtain ⟨z, hz⟩ : ∃ z, row[l]? = some z := ⟨row[l]'(by omega), by simp⟩
        have ez : plc tbl s (wd.take (j + 1)) = z := by
          rw [take_snoc hl, plc_snoc]
          unfold tGo
          rw [hrow]
          show (row[l]?).getD 0 = z
          rw [hz]
          rfl
        refine ⟨_, rfl, r, _, _, _, rfl, rfl, (s5b.trans sG).seq hr, atI_n (n := 1) rfl rfl, _, rfl, dt, _, _, _, rfl, rfl, (s5b.trans sG).seq t1, atI_n rfl hr1, _, rfl, rq, _, _, _, rfl, rfl, (s5b.trans sG).seq hr2, atI_n rfl (nV_at hz), ⟨some (.int (l : Nat)), ?_⟩, rfl⟩
        rw [ez]
        rfl
      · obtain ⟨⟨v15, rfl⟩, rfl⟩ := hσ
        rw [nV_len, List.take_length]
        obtain ⟨hw, dx, pe, pf, pd, i1, i2, i3, i4⟩ := hV11.same sG
        have pt : plc tbl s wd < tbl.length := plc_lt ok _ (by omega) ov
        obtain ⟨bm, hbm⟩ : ∃ bm, mks[plc tbl s wd]? = some bm := ⟨mks[plc tbl s wd]'(by omega), by simp⟩
        have ea := vm s wd hs ov
        rw [mkF_get hbm] at ea
        refine ⟨_, rfl, v, dx, _, rfl, i1, rfl, _, rfl, _, rfl, (sz1000 (n := 2) (by decide) : 2 ≤ sizeLine), fun t ht => ⟨v, Vn, t, pq, s, wd, rfl, ?_, SqT.of upd_same, ?_, fun H12 s12 => ?_⟩⟩
        · exact (hV11.same sG).same (same_new ht)
        · exact Same.tup (sG.trans (same_new ht)) hpq
        · have s12' := sG.trans ((same_new ht).trans s12)
          refine ⟨_, rfl, _, rfl, dm, _, _, _, rfl, rfl, (s6b.trans s12').seq hm2, atI_n rfl (by rw [List.getElem?_map, hbm]; rfl), bm, by rw [ea], ⟨_, rfl, ?_⟩⟩
          exact ⟨⟨_, _, _, rfl⟩, s12'⟩
    · obtain ⟨⟨v13, v14, v15, rfl⟩, sG⟩ := hσ
      exact ⟨⟨_, _, _, _, rfl⟩, sG⟩
  -- kept
  obtain ⟨⟨v12, v13, v14, v15, rfl⟩, sG2⟩ := hσ
  have s2c := s2b.trans sG2
  have sGc := s3.trans (s4.trans (s5.trans (s5b.trans sG2)))
  have hx : SqL K _ D [.ref (x 0), .ref (x 1), .ref (x 2)] := sGc.seq (SqL.of hG)
  have hq : SqL K _ d2 [.ref (q 0), .ref (q 1), .ref (q 2)] := s2c.seq (SqL.of hd2)
  have hk0 : ∀ i, i < 3 → NetAt P w K _ (x i) (Ns i) ∧ PaAt K _ (q i) (Rw i) := fun i hi => ⟨((hN i hi).1.same (hide_sub D _)).same sGc, (pa i hi).same s2c⟩
  refine ⟨_, rfl, D, _, _, _, rfl, rfl, hx, atI_n (n := 0) rfl rfl, _, rfl, d2, _, _, _, rfl, rfl, hq, atI_n (n := 0) rfl rfl, x 0, q 0, Ns 0, Rw 0, rfl, (hk0 0 (by decide)).1, (hk0 0 (by decide)).2, raw_raw rng (by decide), md 0 (by decide), fun H13 k1 => ⟨_, rfl, ?_⟩⟩
  refine ⟨_, rfl, D, _, _, _, rfl, rfl, k1.seq hx, atI_n (n := 1) rfl rfl, _, rfl, d2, _, _, _, rfl, rfl, k1.seq hq, atI_n (n := 1) rfl rfl, x 1, q 1, Ns 1, Rw 1, rfl, (hk0 1 (by decide)).1.same k1, (hk0 1 (by decide)).2.same k1, raw_raw rng (by decide), md 1 (by decide), fun H14 k2 => ⟨_, rfl, ?_⟩⟩
  refine ⟨_, rfl, D, _, _, _, rfl, rfl, (k1.trans k2).seq hx, atI_n (n := 2) rfl rfl, _, rfl, d2, _, _, _, rfl, rfl, (k1.trans k2).seq hq, atI_n (n := 2) rfl rfl, x 2, q 2, Ns 2, Rw 2, rfl, (hk0 2 (by decide)).1.same (k1.trans k2), (hk0 2 (by decide)).2.same (k1.trans k2), raw_raw rng (by decide), md 2 (by decide), fun H15 k3 => ?_⟩
  exact hQ H15 (hH.trans (s2c.trans ((k1.trans k2).trans k3)))
end
end K23
/-! K23End -/
set_option Elab.async false
set_option linter.all false
set_option maxRecDepth 100000
set_option maxHeartbeats 4000000
/-! The end: the table of facts, all promises in their order. -/
namespace K23
open PySem PySem.Spec PyProof.Rows L2
theorem get_funD {K : PySem.W.Frag} {a : Addr} {x qual : Str} {ps : Arguments} {bd : List Stmt} {sc : Scope} (c : getOk K a qual = true) (e : getW K a = some (x, qual, ps, .stmts bd, sc, mainGlobals, [], builtinsNs)) : ∃ fd, FunD K x qual ps bd sc [] [] a fd := by
  obtain ⟨kp, c2⟩ := He.ba c
  unfold getW at e
  cases q : K.lookup a with
  | none =>
    rw [q] at c2
    cases c2
  | some o =>
    obtain ⟨oc, od, dt, osl⟩ := o
    rw [q] at c2 e
    cases dt with
    | func fd =>
      obtain ⟨n1, n2, n3, n4, n5, n6, n7, n8, n9, n10, n11, n12, n13, n14, n15⟩ := fd
      have e2 : (some (n1, n2, n3, n4, n5, n6, n7, n15) : He.FnW) = some (x, qual, ps, .stmts bd, sc, mainGlobals, [], builtinsNs) := e
      simp only [Option.some.injEq, Prod.mk.injEq] at e2
      obtain ⟨h1, h2, h3, h4, h5, h6, h7, h8⟩ := e2
      subst h1 h2 h3 h4 h5 h6 h7 h8
      obtain ⟨k1, k2⟩ := He.ba (show (PySem.W.codeIn K n13 n2 && decide (n8 = Value.none)) = true from c2)
      exact ⟨_, ⟨oc, od, n8, n9, n10, n11, n12, n13, n14, osl, rfl, q, k1, .inl ⟨rfl, of_decide_eq_true k2⟩, .inl rfl⟩, kp⟩
    | _ => cases c2
theorem faL_eq : faL = gloL.map He.Fa.glo ++ (freL.map He.Fa.free ++ ([He.Fa.cls "Net"] ++ (noaL.map (He.Fa.noat "Net") ++ (metL.map (He.Fa.meth "Net") ++ [He.Fa.mkr "Net"])))) := rfl
theorem fnL_bare : (fnL.all fun d => d.dfl.isEmpty && d.kwd.isEmpty) = true := rfl
theorem fd_of {K : PySem.W.Frag} {i : Nat} {d : He.DefD} (hd : fnL[i]? = some d) (h : ∃ fd, FunD K d.name d.qual d.params d.body d.scope (d.dvs K) (d.kws K) (He.fAd K d.at_) fd) : FD K d := by
  obtain ⟨e1, e2⟩ := He.ba (List.all_eq_true.mp fnL_bare d (List.mem_of_getElem? hd))
  have d1 : d.dvs K = [] := by
    unfold He.DefD.dvs
    rw [List.isEmpty_iff.mp e1]
    rfl
  have d2 : d.kws K = [] := by
    unfold He.DefD.kws
    rw [List.isEmpty_iff.mp e2]
    rfl
  rw [d1, d2] at h
  exact h
theorem tb_of {K : PySem.W.Frag} {h : Heap} {mg : Str → Option Value} (X : K.In h) (G : h.Ns mainGlobals mg) (c : obsK K = valK) : Tb K mg := by
  have c1 : (propB K && (getOk K (grA K) "Net.is_plain" && (PySem.W.isClsIn K (He.ga K "Net") && insB K))) = true := congrArg (fun z : AlK => z.1.1) c
  have c2 : getW K (grA K) = (some (("is_plain" : Str), ("Net.is_plain" : Str), defArgs s_Net_is_plain, FuncBody.stmts (defBody s_Net_is_plain), defScope s_Net_is_plain, mainGlobals, [], builtinsNs) : He.FnW) := congrArg (fun z : AlK => z.1.2) c
  have c3 : He.SaysD faL fnL K := congrArg (fun z : AlK => z.2) c
  obtain ⟨p1, p2⟩ := He.ba c1
  obtain ⟨p3, p4⟩ := He.ba p2
  obtain ⟨p5, p6⟩ := He.ba p4
  have all : ∀ f ∈ faL, f.ok K = true := fun f hf => by
    obtain ⟨i, hi⟩ := List.mem_iff_getElem?.mp hf
    exact c3.fact i hi
  have a1 : ∀ x ∈ gloL, He.Fa.glo x ∈ faL := fun x hx => by
    rw [faL_eq]
    exact List.mem_append_left _ (List.mem_map_of_mem hx)
  have a2 : ∀ x ∈ freL, He.Fa.free x ∈ faL := fun x hx => by
    rw [faL_eq]
    exact List.mem_append_right _ (List.mem_append_left _ (List.mem_map_of_mem hx))
  have a3 : He.Fa.cls "Net" ∈ faL := by
    rw [faL_eq]
    exact List.mem_append_right _ (List.mem_append_right _ (List.mem_append_left _ List.mem_cons_self))
  have a4 : ∀ x ∈ noaL, He.Fa.noat "Net" x ∈ faL := fun x hx => by
    rw [faL_eq]
    exact List.mem_append_right _ (List.mem_append_right _ (List.mem_append_right _ (List.mem_append_left _ (List.mem_map_of_mem hx))))
  have a5 : ∀ x ∈ metL, He.Fa.meth "Net" x ∈ faL := fun x hx => by
    rw [faL_eq]
    exact List.mem_append_right _ (List.mem_append_right _ (List.mem_append_right _ (List.mem_append_right _ (List.mem_append_left _ (List.mem_map_of_mem hx)))))
  have a6 : He.Fa.mkr "Net" ∈ faL := by
    rw [faL_eq]
    exact List.mem_append_right _ (List.mem_append_right _ (List.mem_append_right _ (List.mem_append_right _ (List.mem_append_right _ List.mem_cons_self))))
  obtain ⟨q1, q2⟩ := He.ba p1
  obtain ⟨q3, q4⟩ := He.ba q2
  obtain ⟨q5, q6⟩ := He.ba q4
  obtain ⟨i1, i2⟩ := He.ba p6
  obtain ⟨i3, i4⟩ := He.ba i2
  obtain ⟨i5, i6⟩ := He.ba i4
  obtain ⟨i7, i8⟩ := He.ba i6
  have cl : Cls K (NetC K) := He.cls_ok (all _ a3)
  refine ⟨fun i x hx => He.glo_ok X G (all _ (a1 x (List.mem_of_getElem? hx))), fun i x hx => He.free_ok X G (all _ (a2 x (List.mem_of_getElem? hx))), fun i d hd => fd_of hd (c3.def_ i hd), cl, fun i x hx => He.noat_ok (all _ (a4 x (List.mem_of_getElem? hx))), fun i x hx => He.meth_ok (all _ (a5 x (List.mem_of_getElem? hx))), He.mkr_ok (all _ a6), ⟨of_decide_eq_true q1, of_decide_eq_true q3, of_decide_eq_true q5, ?_⟩, get_funD p3 c2, ⟨cl, of_decide_eq_true i1, of_decide_eq_true i3, of_decide_eq_true i5, of_decide_eq_true i7, of_decide_eq_true i8⟩⟩
  unfold grA
  cases e : PySem.W.recIn K (prA K) "property" with
  | none =>
    rw [e] at q6
    cases q6
  | some l =>
    rw [e] at q6
    cases l with
    | nil => cases q6
    | cons u r =>
      cases u with
      | ref g => exact ⟨r, rfl⟩
      | _ => cases q6
theorem law_end {P : Program} {w : World} {K : PySem.W.Frag} {h : Heap} {mg : Str → Option Value} {f : Addr} (X : K.In h) (G : h.Ns mainGlobals mg) (hf : mg ("law" : Str) = some (.ref f)) (c : obsK K = valK) :
    ∃ fd : FuncData, (∀ (s : Shared) (v : Value), BindsTo s fd ⟨[v], []⟩ [("_law_script", v)]) ∧ ∀ base : Heap, K.In base → base.Ns mainGlobals mg → FnOk P w K mg base CX0 10 f fd ["_law_script"] (fun vs H Q _ => sp_law P w K vs H Q) := by
  have T := tb_of X G c
  have e := hf.symm.trans (T.glo 38 "law" rfl)
  cases e
  obtain ⟨fd, F⟩ := T.dfs 43 d_law rfl
  have b := FunD.bindsA (ps := ["_law_script"]) F fun _ _ _ _ _ _ us hl => match us, hl with | [_], _ => rfl
  refine ⟨fd, fun s v => b s [v] rfl, fun base _ _ => ?_⟩
  have c_L_numbers := ok_L_numbers (P := P) (w := w) (base := base) T
  have c_L_parts := ok_L_parts (P := P) (w := w) (base := base) T
  have c_L_nets := ok_L_nets (P := P) (w := w) (base := base) T c_L_parts
  have c_fits := ok_fits (P := P) (w := w) (base := base) T
  have c_Net_init := ok_Net_init (P := P) (w := w) (base := base) T c_fits
  have c_L_net := ok_L_net (P := P) (w := w) (base := base) T c_Net_init
  have c_Net_is_plain := ok_Net_is_plain (P := P) (w := w) (base := base) T
  have c_plain := ok_plain (P := P) (w := w) (base := base) T c_Net_is_plain c_Net_init
  have c_Net_goals := ok_Net_goals (P := P) (w := w) (base := base) T
  have c_Net_moved := ok_Net_moved (P := P) (w := w) (base := base) T c_Net_goals
  have c_Net_has_end := ok_Net_has_end (P := P) (w := w) (base := base) T
  have c_deterministic := ok_deterministic (P := P) (w := w) (base := base) T c_plain c_Net_moved c_Net_has_end c_Net_init
  have c_other := ok_other (P := P) (w := w) (base := base) T c_deterministic c_Net_init
  have c_need_alike := ok_need_alike (P := P) (w := w) (base := base) T
  have c_goal_pairs := ok_goal_pairs (P := P) (w := w) (base := base) T c_Net_goals
  have c_paired := ok_paired (P := P) (w := w) (base := base) T c_goal_pairs
  have c_both := ok_both (P := P) (w := w) (base := base) T c_need_alike c_plain c_paired c_Net_init
  have c_minus := ok_minus (P := P) (w := w) (base := base) T c_need_alike c_other c_both
  have c_L_term := ok_L_term (P := P) (w := w) (base := base) T c_deterministic c_other c_minus c_plain
  have c_shifted := ok_shifted (P := P) (w := w) (base := base) T
  have c_union := ok_union (P := P) (w := w) (base := base) T c_need_alike c_plain c_shifted c_Net_init
  have c_L_value := ok_L_value (P := P) (w := w) (base := base) T c_L_term c_union c_both c_plain
  have c_L_is_number := ok_L_is_number (P := P) (w := w) (base := base) T
  have c_L_are_numbers := ok_L_are_numbers (P := P) (w := w) (base := base) T c_L_is_number
  have c_L_once := ok_L_once (P := P) (w := w) (base := base) T
  have c_L_is_plain := ok_L_is_plain (P := P) (w := w) (base := base) T c_L_are_numbers c_Net_is_plain c_L_once
  have c_L_moved := ok_L_moved (P := P) (w := w) (base := base) T
  have c_L_graph := ok_L_graph (P := P) (w := w) (base := base) T c_L_moved
  have c_L_has_end := ok_L_has_end (P := P) (w := w) (base := base) T
  have c_L_truth := ok_L_truth (P := P) (w := w) (base := base) T
  have c_L_meaning := ok_L_meaning (P := P) (w := w) (base := base) T c_L_truth
  have c_L_agree := ok_L_agree (P := P) (w := w) (base := base) T
  have c_closer := ok_closer (P := P) (w := w) (base := base) T
  have c_distances := ok_distances (P := P) (w := w) (base := base) T c_closer
  have c_leads_on := ok_leads_on (P := P) (w := w) (base := base) T c_Net_moved
  have c_least_letter := ok_least_letter (P := P) (w := w) (base := base) T c_leads_on
  have c_first := ok_first (P := P) (w := w) (base := base) T c_distances c_least_letter c_Net_moved c_Net_has_end
  have c_L_distances := ok_L_distances (P := P) (w := w) (base := base) T
  have c_L_least := ok_L_least (P := P) (w := w) (base := base) T c_L_distances
  have c_L_is_configuration := ok_L_is_configuration (P := P) (w := w) (base := base) T c_L_is_number c_L_are_numbers
  have c_L_piles := ok_L_piles (P := P) (w := w) (base := base) T
  have c_Net_accepts := ok_Net_accepts (P := P) (w := w) (base := base) T c_Net_moved c_Net_has_end
  have c_L_tells := ok_L_tells (P := P) (w := w) (base := base) T
  have c_L_kept := ok_L_kept (P := P) (w := w) (base := base) T c_L_are_numbers c_L_once
  exact ok_law (P := P) (w := w) (base := base) T F c_L_numbers c_L_nets c_L_net c_L_value c_L_is_plain c_L_graph c_L_has_end c_L_meaning c_L_agree c_first c_L_least c_L_is_configuration c_L_piles c_Net_accepts c_L_tells c_L_kept
end K23
open PySem PySem.W PySem.Calls PyProof.Rows
set_option maxHeartbeats 0 in
theorem PySem.Challenge.cw_pilereach_k23_whole_set_expressions_holds : PySem.Challenge.rw_pilereach_k23_whole_set_expressions.Holds := by
  w_on; o_law
  refine HandSHeadRun.head_any (r := OpenLaw.row PySem.Challenge.rw_pilereach_k23_whole_set_expressions) (q := view (OpenLaw.row PySem.Challenge.rw_pilereach_k23_whole_set_expressions).prog [48]) (H := K23.hookK) (ob := K23.obK) (M := 20000) (loose := K23.looseK) (d := HandSHeadRun.topDef (OpenLaw.row PySem.Challenge.rw_pilereach_k23_whole_set_expressions).prog 48) (kwd := []) K23.obK_eq
    (by kernel_rfl) (fun s => by kernel_rfl) K23.runK (by kernel_rfl) (by kernel_rfl) (by kernel_rfl) (by rfl) (by first | assumption | decide +kernel) (by decide +kernel) ⟨rfl, rfl, rfl, rfl, rfl, by decide +kernel⟩ ?hw ?hc
  case hw => w_witness2
  case hc =>
    refine L2.walk_ofE (l := PySem.Challenge.rw_pilereach_k23_whole_set_expressions) (n := 63) (k := 10) (x := "_law_script") (CX := L2.CX0) rfl (by decide) (by kernel_rfl) ⟨rfl, by decide, by decide⟩ ?F (fun _ _ _ _ z => z)
    intro w mg fa h Y G hmg0
    obtain ⟨K, KX, c⟩ := Y
    have hmg : mg ("law" : PySem.Str) = some (.ref fa) := by
      have e : (HandSHeadRun.topDef (OpenLaw.row PySem.Challenge.rw_pilereach_k23_whole_set_expressions).prog 48).name = ("law" : PySem.Str) := by kernel_rfl
      rw [← e]
      exact hmg0
    obtain ⟨fd, hb, hF⟩ := K23.law_end (P := (PySem.Challenge.rw_pilereach_k23_whole_set_expressions).prog) (w := w) KX G hmg c
    exact ⟨K, fd, (fun vs H Q _ => K23.sp_law (PySem.Challenge.rw_pilereach_k23_whole_set_expressions).prog w K vs H Q), KX, hb, fun H a ns hl _ hS => ⟨a, ns, rfl, hS, fun _ _ => rfl⟩, hF⟩
