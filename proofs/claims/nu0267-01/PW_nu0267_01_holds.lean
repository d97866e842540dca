import PyProof.Rows.All
import Wide.All
import OpenK.AllK
import Wide.FinOn
import KE.KDictOf
import KE.KSortTup
import PyProof.Rows.StrInSeq3
import PyProof.FactsAll.tuple_2
import Lean
import PySem.Challenge.RW_nu0267_01
set_option Elab.async false

open PySem PySem.W PyProof.Rows
set_option maxHeartbeats 8000000
set_option compiler.extract_closed false
namespace Mine
set_option maxRecDepth 100000

theorem foldQ {α : Type} {M : Model} {A : Around} {t : Sem α} {Q : α → Shared → Prop} {E : Value → Shared → Prop} {s : Shared} (h : let q := Q; wpAny M A t q E s) : wpAny M A t Q E s := h
theorem anyTok {α : Type} {M : Model} {A : Around} {t : Sem α} {Q : α → Shared → Prop} {E : Value → Shared → Prop} {h : Heap} {g : Array GenState} {d : Drawn} {n : Nat} {o : OsState} (k : ∀ tk, wpAny M A t Q E ⟨h, g, d, tk, o⟩) : wpAny M A t Q E ⟨h, g, d, n + 1, o⟩ := k _
/-- the walk halts here -/
noncomputable def Halt (p : Prop) : Prop := p
theorem halt {p : Prop} (h : Halt p) : p := h
theorem unhalt {p : Prop} (h : p) : Halt p := h
theorem g1 {M : Model} {A : Around} {Q : Value → Shared → Prop} {E : Value → Shared → Prop} {s : Shared} {o : Operator} {a b : Addr} (h : Halt (wpAny M A (binaryOp o (.ref a) (.ref b)) Q E s)) : wpAny M A (binaryOp o (.ref a) (.ref b)) Q E s := h
theorem g2 {M : Model} {A : Around} {Q : Value → Shared → Prop} {E : Value → Shared → Prop} {s : Shared} {o : Operator} {a : Addr} {n : Int} {k : Tok} (h : Halt (wpAny M A (binaryOp o (.ref a) (.int n k)) Q E s)) : wpAny M A (binaryOp o (.ref a) (.int n k)) Q E s := h
theorem g3 {M : Model} {A : Around} {Q : Value → Shared → Prop} {E : Value → Shared → Prop} {s : Shared} {a : Addr} {b : Value} (h : Halt (wpAny M A (compareOp .Eq (.ref a) b) Q E s)) : wpAny M A (compareOp .Eq (.ref a) b) Q E s := h
theorem g4 {M : Model} {A : Around} {Q : Value → Shared → Prop} {E : Value → Shared → Prop} {s : Shared} {a : Addr} {b : Value} (h : Halt (wpAny M A (compareOp .NotEq (.ref a) b) Q E s)) : wpAny M A (compareOp .NotEq (.ref a) b) Q E s := h
theorem g5 {M : Model} {A : Around} {Q : Value → Shared → Prop} {E : Value → Shared → Prop} {s : Shared} {x y : _} {a : Addr} {n : Int} {k : Tok} (h : Halt (wpAny M A (subscriptTail x y (.ref a) (.int n k)) Q E s)) : wpAny M A (subscriptTail x y (.ref a) (.int n k)) Q E s := h
theorem g6 {M : Model} {A : Around} {Q : Value → Shared → Prop} {E : Value → Shared → Prop} {s : Shared} {a : Addr} (h : Halt (wpAny M A (call (.builtin "len") [.ref a]) Q E s)) : wpAny M A (call (.builtin "len") [.ref a]) Q E s := h
theorem g7 {M : Model} {A : Around} {Q : Flow → Shared → Prop} {E : Value → Shared → Prop} {s : Shared} {x y z u v w f} (h : Halt (wpAny M A (exec (.Assign [x] (.ListComp y z u v) w) f) Q E s)) : wpAny M A (exec (.Assign [x] (.ListComp y z u v) w) f) Q E s := h
theorem g8 {M : Model} {A : Around} {Q : Value → Shared → Prop} {E : Value → Shared → Prop} {s : Shared} {l : _} (h : Halt (wpAny M A (call (.ref 60) l) Q E s)) : wpAny M A (call (.ref 60) l) Q E s := h
theorem g9 {M : Model} {A : Around} {Q : Value → Shared → Prop} {E : Value → Shared → Prop} {s : Shared}  (h : Halt (wpAny M A (newList []) Q E s)) : wpAny M A (newList []) Q E s := h
noncomputable def LedgerKept (h : Heap) (news : List (Addr × Obj)) : Prop := ∀ p ∈ news, h.get? p.1 = some p.2
theorem keptIn {h : Heap} {n : List (Addr × Obj)} {P : Prop} (k : LedgerKept h n → P) : (∀ p ∈ n, h.get? p.1 = some p.2) → P := k
theorem decN {n i : Nat} (h : i ≤ n) : n + 1 - (i + 1) < n + 1 - i := Nat.sub_lt_sub_left (Nat.lt_succ_of_le h) (Nat.lt_succ_self i)
theorem szLe {n : Nat} (h : n ≤ 100) : n ≤ sizeLine := Nat.le_trans h (by rw [sizeLine_eq]; exact Nat.le_of_ble_eq_true rfl)
theorem allC {α : Type} {P : α → Prop} {a : α} {l : List α} (h : P a) (t : ∀ x ∈ l, P x) : ∀ x ∈ a :: l, P x := List.forall_mem_cons.mpr ⟨h, t⟩
theorem allN {α : Type} {P : α → Prop} : ∀ x ∈ ([] : List α), P x := fun _ h => nomatch h
theorem niC {α : Type} {a b : α} {l : List α} (h : a ≠ b) (t : a ∉ l) : a ∉ b :: l := fun q => (List.mem_cons.mp q).elim h t
theorem niN {α : Type} {a : α} : a ∉ ([] : List α) := fun h => nomatch h
def red (l : List (String × String)) (s : Lean.TSyntax `str) : Lean.MacroM Lean.Syntax := match l.lookup s.getString with | some k => `(tactic| walk_at $(Lean.Syntax.mkStrLit k):str) | none => Lean.Macro.throwUnsupported
local macro_rules | `(tactic| omega) => `(tactic| lia)
set_option hygiene false in
local macro_rules | `(tactic| walk_at "execs cons") => `(tactic| (k_here; (with_reducible refine wpAny_execs_cons ?_); (try dsimp only); (try (with_reducible refine Mine.anyTok ?_; intro tkA)); refine Mine.foldQ ?_; intro qk))
set_option hygiene false in
local macro_rules | `(tactic| k_lt $h) => `(tactic| (replace $h := allLt_of $h; dsimp only [AllLt] at $h:ident))

set_option hygiene false in
local macro_rules | `(tactic| walk_at "m") => `(tactic| (k_here; refine Mine.halt ?_))
set_option hygiene false in
local macro_rules | `(tactic| walk_at "g") => `(tactic| (k_here; with_reducible first | refine Mine.g1 ?_ | refine Mine.g2 ?_ | refine Mine.g3 ?_ | refine Mine.g4 ?_ | refine Mine.g5 ?_ | refine Mine.g6 ?_ | refine Mine.g7 ?_ | refine Mine.g8 ?_ | refine Mine.g9 ?_))
set_option hygiene false in
local macro_rules | `(tactic| walk_at "due") => `(tactic| (k_here; (with_reducible show wpAny _ _ (execs (Stmt.Assign [Expr.Name (Str.ofString "due") _] _ _ :: _) _) _ _ _); refine Mine.halt ?_))
set_option hygiene false in
local macro_rules | `(tactic| walk_at "and") => `(tactic| (k_here; (with_reducible show PySem.Str.length _ ≤ _ ∧ _); refine ⟨?z9, ?_⟩; (case z9 => ((simp only [PySem.Str.length_append, sizeLine_eq]); have z0 := lits; omega))))
set_option hygiene false in
local macro_rules | `(tactic| walk_at "jp") => `(tactic| (k_here; (with_reducible show wpAny _ _ (joinParts _ (evalEach [] _)) _ _ _); (with_reducible refine joinParts_nilE ?_); (with_reducible refine joinParts_nil (hsz := ?z9) ?_); (case z9 => ((simp only [PySem.Str.length_append, sizeLine_eq]); have z0 := lits; omega))))
set_option hygiene false in
local macro_rules | `(tactic| walk_at "f53") => `(tactic| (k_here; (with_reducible show wpAny _ _ (call (Value.ref 53) [Value.str _ _]) _ _ _); k_dflt (refine' fault_call (callee_at [] (by assumption) (by k_asm) (by k_asm) rfl (by k_asm) rfl rfl (fun _ h9 => nomatch h9)) ?d ?u ?_; (case d => k_room); (case u => k_units); intro _ _ _ _ _ _ _ _)))
set_option hygiene false in
local macro_rules | `(tactic| walk_at "lv") => `(tactic| (k_here; k_dflt (refine raise_out (by assumption) (by assumption) (by assumption) (by assumption) rfl rfl (by assumption) (by assumption) ?_); intro _ _ _; refine Mine.keptIn ?_; intro _))
set_option hygiene false in
local macro_rules | `(tactic| walk_at "fs") => `(tactic| (k_here; (refine PyProof.Rows.formatField_str (hsz := ?hz) ?_; (case hz => first | size_fits | (rw [sizeLine_eq]; omega)); intro _ _)))
set_option hygiene false in
local macro_rules | `(tactic| walk_at "fi") => `(tactic| exact Frag.In.keeps (Frag.In.keeps (by assumption) (Fr.keep (by assumption))) (by assumption))
set_option hygiene false in
local macro_rules | `(tactic| walk_at "rz") => `(tactic| (k_here; refine raise_fault rfl ?_))
set_option hygiene false in
local macro_rules | `(tactic| walk_at "isi") => `(tactic| (k_here; (with_reducible show wpAny _ _ (call _ [Value.ref _, Value.type _]) _ _ _); k_dflt (first | (refine' isi_tup (K := Mine.hd.heap_39 _) ?t ?X ?_; (case t => exact tupKeeps (by assumption) (Fr.keep (by k_asm)))) | (refine' isi_list (K := Mine.hd.heap_39 _) ?t ?X ?_; (case t => exact Heap.IsList.at (by assumption) fun o e => Fr.keep (by k_asm) _ o e))); (case X => exact Frag.In.keeps (by k_asm) (Fr.keep (by k_asm))); k_whole; intro _))
set_option hygiene false in
local macro_rules | `(tactic| walk_at "len") => `(tactic| (k_here; (with_reducible show wpAny _ _ (call (Value.builtin "len") [Value.ref _]) _ _ _); k_dflt (refine' PyProof.Rows.len_tuple ?t ?f ?_; (case t => first | exact tupKeeps (by assumption) (Fr.keep (by k_asm)) | exact News.isTup (by k_asm) (by k_mem)); (case f => (rw [List.size_toArray]; omega)); k_whole)))
set_option hygiene false in
local macro_rules | `(tactic| k_room) => `(tactic| ((try simp only [depth_mark, depth_under_make, depth_under_kw, depth_in1, depth_deeper]); (try dsimp only); simp only [recursionLimit]; omega))
set_option hygiene false in
local macro_rules | `(tactic| k_units) => `(tactic| ((try simp only [units_under_make, units_in1, units_deeper, Around.mark_units, cLine_is]); (try dsimp only); omega))
set_option hygiene false in
local macro_rules | `(tactic| walk_at "kne") => `(tactic| ((try dsimp only); first | assumption | exact Mine.StatNe.n1 (by assumption) (by k_mem) | exact Mine.StatNe.n2 (by assumption) (by k_mem) | exact Mine.StatNe.n3 (by assumption) (by k_mem) | exact (Mine.StatNe.n1 (by assumption) (by k_mem)).symm | exact (Mine.StatNe.n2 (by assumption) (by k_mem)).symm | exact (Mine.StatNe.n3 (by assumption) (by k_mem)).symm))

section
open PySem PySem.W PyProof.Rows
/-! the sort's tree of questions, answered by a strict order of distinct keys, ends in a rising arrangement -/
noncomputable def krun {α : Type} (lt : Nat → Nat → Bool) : KasT α → α
  | .ret a => a
  | .ask i j k => krun lt (k (lt i j))
theorem krun_bind {α β : Type} (lt : Nat → Nat → Bool) (f : α → KasT β) : ∀ t : KasT α, krun lt (t.bind f) = krun lt (f (krun lt t))
  | .ret _ => rfl
  | .ask i j k => krun_bind lt f (k (lt i j))
/-- the questions asked on the way are about places below n -/
noncomputable def kok {α : Type} (lt : Nat → Nat → Bool) (n : Nat) : KasT α → Prop
  | .ret _ => True
  | .ask i j k => i < n ∧ j < n ∧ kok lt n (k (lt i j))
theorem kok_bind {α β : Type} {lt : Nat → Nat → Bool} {n : Nat} {f : α → KasT β} : ∀ {t : KasT α}, kok lt n t → kok lt n (f (krun lt t)) → kok lt n (t.bind f)
  | .ret _, _, h => h
  | .ask _ _ _, ⟨a, b, c⟩, h => ⟨a, b, kok_bind c h⟩
theorem krun_wp {α : Type} {lt : Nat → Nat → Bool} {n : Nat} {cmp : Nat → Nat → (Bool → Shared → Prop) → Shared → Prop} {s : Shared} (Q : α → Shared → Prop)
    (hc : ∀ i j C, i < n → j < n → C (lt i j) s → cmp i j C s) : ∀ t : KasT α, kok lt n t → Q (krun lt t) s → t.kasWp cmp Q s
  | .ret _, _, h => h
  | .ask i j k, ⟨a, b, c⟩, h => hc i j _ a b (krun_wp Q hc (k (lt i j)) c h)

section
variable (f : Nat → Int)
noncomputable def ltf (i j : Nat) : Bool := decide (f i < f j)
noncomputable def gk (p : Array Nat) (i : Nat) : Int := f (p.getD i 0)
noncomputable def Inj (n : Nat) : Prop := ∀ i j, i < n → j < n → f i = f j → i = j
noncomputable def Perm0 (n : Nat) (p : Array Nat) : Prop := p.Perm (List.toArray (List.range n))
noncomputable def Asc (p : Array Nat) (b : Nat) : Prop := ∀ k, k + 1 < b → gk f p k < gk f p (k + 1)
noncomputable def Desc (p : Array Nat) (b : Nat) : Prop := ∀ k, k + 1 < b → gk f p (k + 1) < gk f p k
variable {f}

theorem midOk {l r : Nat} (h : l < r) : l ≤ (l + r) / 2 ∧ (l + r) / 2 < r := by omega
theorem midHi {l r m fu : Nat} (hm : l ≤ m) (h : r - l ≤ fu + 1) : r - (m + 1) ≤ fu := Nat.pred_le_pred (Nat.le_trans (Nat.sub_le_sub_left hm r) h)
theorem midLo {l r m fu : Nat} (h1 : l ≤ m) (h2 : m < r) (h : r - l ≤ fu + 1) : m - l ≤ fu := Nat.le_of_lt_succ (Nat.lt_of_lt_of_le (Nat.sub_lt_sub_right h1 h2) h)
theorem geOf {l r i : Nat} (h : r - l ≤ 0) (hi : l ≤ i) : r ≤ i := Nat.le_trans (Nat.sub_eq_zero_iff_le.mp (Nat.le_zero.mp h)) hi
theorem predOf {k a : Nat} (h : k + 1 = a) : k = a - 1 := by subst h; rfl
theorem predNe {a : Nat} (h : 1 ≤ a) : a ≠ a - 1 := Nat.ne_of_gt (Nat.sub_lt h Nat.one_pos)
theorem eqOf {k a : Nat} (h : k + 1 < a + 1) (e : ¬ k + 1 < a) : k + 1 = a := Nat.le_antisymm (Nat.le_of_lt_succ h) (Nat.le_of_not_lt e)
theorem predLt {a fu n : Nat} (h : a + (fu + 1) ≤ n) : a < n := Nat.lt_of_lt_of_le (Nat.lt_add_of_pos_right (Nat.succ_pos fu)) h
theorem predLt' {a fu n : Nat} (h : a + (fu + 1) ≤ n) : a - 1 < n := Nat.lt_of_le_of_lt (Nat.sub_le a 1) (predLt h)
theorem oneSub {n : Nat} (h : 1 ≤ n) : 1 + (n - 1) = n := Nat.add_sub_of_le h
theorem intLt {a b : Int} (h : ¬ a < b) (e : a ≠ b) : b < a := Int.lt_iff_le_and_ne.mpr ⟨Int.not_lt.mp h, Ne.symm e⟩
theorem Perm0.size {n : Nat} {p : Array Nat} (h : Perm0 n p) : p.size = n := by
  have := (Array.Perm.toList h).length_eq
  simpa using this
theorem Perm0.lt {n : Nat} {p : Array Nat} (h : Perm0 n p) {i : Nat} (hi : i < n) : p.getD i 0 < n := by
  have hs := h.size
  have hi' : i < p.size := by omega
  have e : p.getD i 0 = p[i] := by simp [Array.getD, hi']
  rw [e]
  have hm : p[i] ∈ p.toList := by simp
  have := (Array.Perm.toList h).mem_iff.mp hm
  simpa using this
theorem Perm0.inj {n : Nat} {p : Array Nat} (h : Perm0 n p) {i j : Nat} (hi : i < n) (hj : j < n) (e : p.getD i 0 = p.getD j 0) : i = j := by
  have hs := h.size
  have hn : p.toList.Nodup := (Array.Perm.toList h).nodup_iff.mpr (by simpa using List.nodup_range)
  have hi' : i < p.toList.length := by simp; omega
  have hj' : j < p.toList.length := by simp; omega
  have ei : p.getD i 0 = p.toList[i] := by simp [Array.getD, show i < p.size by omega]
  have ej : p.getD j 0 = p.toList[j] := by simp [Array.getD, show j < p.size by omega]
  rw [ei, ej] at e
  exact (List.getElem_inj hn).mp e
theorem gk_ne {n : Nat} {p : Array Nat} (hf : Inj f n) (h : Perm0 n p) {i j : Nat} (hi : i < n) (hj : j < n) (hne : i ≠ j) : gk f p i ≠ gk f p j :=
  fun e => hne (h.inj hi hj (hf _ _ (h.lt hi) (h.lt hj) e))
theorem ltf_true {p : Array Nat} {i j : Nat} : ltf f (p.getD i 0) (p.getD j 0) = decide (gk f p i < gk f p j) := rfl

theorem gk_congr {p q : Array Nat} {i j : Nat} (h : p[i]? = q[j]?) : gk f p i = gk f q j := by
  unfold gk
  have e1 : p.getD i 0 = (p[i]?).getD 0 := by simp
  have e2 : q.getD j 0 = (q[j]?).getD 0 := by simp
  rw [e1, e2, h]
theorem gk_bubble {p : Array Nat} {src d : Nat} (hs : src < p.size) (hd : d ≤ src) (k : Nat) :
    gk f (bubble p src d) k = if k = src - d then gk f p src else if src - d < k ∧ k ≤ src then gk f p (k - 1) else gk f p k := by
  have e := getElem?_bubble hs d hd k
  by_cases h1 : k = src - d
  · rw [if_pos h1] at e ⊢; exact gk_congr e
  · rw [if_neg h1] at e ⊢
    by_cases h2 : src - d < k ∧ k ≤ src
    · rw [if_pos h2] at e ⊢; exact gk_congr e
    · rw [if_neg h2] at e ⊢; exact gk_congr e
theorem gk_rev {p : Array Nat} {i j : Nat} (hj : j ≤ p.size) (k : Nat) :
    gk f (kas_rev p i j) k = if i ≤ k ∧ k < j then gk f p (i + j - 1 - k) else gk f p k := by
  have e := getElem?_mirror_all (i := i) hj k
  unfold kas_rev
  by_cases h1 : i ≤ k ∧ k < j
  · rw [if_pos h1] at e ⊢; exact gk_congr e
  · rw [if_neg h1] at e ⊢; exact gk_congr e
theorem Perm0.rev {n : Nat} {p : Array Nat} (h : Perm0 n p) (i j : Nat) : Perm0 n (kas_rev p i j) := (mirror_perm p i j _).trans h
theorem Perm0.bubble {n : Nat} {p : Array Nat} (h : Perm0 n p) (i d : Nat) : Perm0 n (bubble p i d) := (bubble_perm p i d).trans h

theorem asc_run {n : Nat} {p : Array Nat} (hf : Inj f n) (hp : Perm0 n p) : ∀ (fu a : Nat), 1 ≤ a → a + fu ≤ n → Asc f p a →
    ∃ m, krun (ltf f) (kas_asc p fu a) = m ∧ a ≤ m ∧ m ≤ a + fu ∧ Asc f p m ∧ (m < a + fu → gk f p m < gk f p (m - 1)) ∧ kok (ltf f) n (kas_asc p fu a)
  | 0, a, _, _, h => ⟨a, rfl, Nat.le_refl _, Nat.le_refl _, h, fun h => absurd h (Nat.lt_irrefl _), trivial⟩
  | fu + 1, a, h1, hn, h => by
    unfold kas_asc krun kok
    rw [ltf_true]
    have i1 := hp.lt (i := a) (predLt hn)
    have i2 := hp.lt (i := a - 1) (predLt' hn)
    by_cases hc : gk f p a < gk f p (a - 1)
    · simp only [hc, decide_true, if_true, krun]
      exact ⟨a, rfl, Nat.le_refl _, Nat.le_add_right _ _, h, fun _ => hc, i1, i2, trivial⟩
    · simp only [hc, decide_false, Bool.false_eq_true, if_false]
      have hne : gk f p a ≠ gk f p (a - 1) := gk_ne hf hp (predLt hn) (predLt' hn) (predNe h1)
      have h' : Asc f p (a + 1) := fun k hk => by
        by_cases e : k + 1 < a
        · exact h k e
        · have e2 : k + 1 = a := eqOf hk e
          have e3 : k = a - 1 := predOf e2
          rw [e2, e3]; exact intLt hc hne
      obtain ⟨m, e, m1, m2, m3, m4, m5⟩ := asc_run hf hp fu (a + 1) (by omega) (by omega) h'
      exact ⟨m, e, by omega, by omega, m3, fun hm => m4 (by omega), i1, i2, m5⟩

theorem desc_run {n : Nat} {p : Array Nat} (hf : Inj f n) (hp : Perm0 n p) : ∀ (fu a : Nat), 1 ≤ a → a + fu ≤ n → Desc f p a →
    ∃ m, krun (ltf f) (kas_desc fu p a 0) = (p, m, 0) ∧ a ≤ m ∧ m ≤ a + fu ∧ Desc f p m ∧ kok (ltf f) n (kas_desc fu p a 0)
  | 0, a, _, _, h => ⟨a, rfl, Nat.le_refl _, Nat.le_refl _, h, trivial⟩
  | fu + 1, a, h1, hn, h => by
    unfold kas_desc krun kok
    rw [ltf_true]
    have i1 := hp.lt (i := a) (predLt hn)
    have i2 := hp.lt (i := a - 1) (predLt' hn)
    by_cases hc : gk f p a < gk f p (a - 1)
    · simp only [hc, decide_true, if_true]
      rw [if_neg (by omega)]
      have h' : Desc f p (a + 1) := fun k hk => by
        by_cases e : k + 1 < a
        · exact h k e
        · have e2 : k + 1 = a := eqOf hk e
          have e3 : k = a - 1 := predOf e2
          rw [e2, e3]; exact hc
      obtain ⟨m, e, m1, m2, m3, m4⟩ := desc_run hf hp fu (a + 1) (by omega) (by omega) h'
      exact ⟨m, e, by omega, by omega, m3, i1, i2, m4⟩
    · simp only [hc, decide_false, Bool.false_eq_true, if_false]
      unfold krun kok
      rw [ltf_true]
      have hne : gk f p a ≠ gk f p (a - 1) := gk_ne hf hp (predLt hn) (predLt' hn) (predNe h1)
      have hd : gk f p (a - 1) < gk f p a := intLt hc hne
      simp only [hd, decide_true, if_true, krun]
      exact ⟨a, rfl, Nat.le_refl _, Nat.le_add_right _ _, h, i1, i2, i2, i1, trivial⟩

theorem asc_of_desc {n m : Nat} {p : Array Nat} (hp : Perm0 n p) (hm : m ≤ n) (h : Desc f p m) : Asc f (kas_rev p 0 m) m := by
  intro k hk
  have hs : m ≤ p.size := hp.size.symm ▸ hm
  have e : 0 + m - 1 - (k + 1) + 1 = 0 + m - 1 - k := Nat.succ_pred_eq_of_pos (Nat.sub_pos_of_lt (Nat.lt_sub_of_add_lt ((Nat.zero_add m).symm ▸ hk)))
  have := h (0 + m - 1 - (k + 1)) (by rw [e, Nat.zero_add]; exact Nat.lt_of_le_of_lt (Nat.sub_le _ _) (Nat.sub_lt (Nat.lt_of_le_of_lt (Nat.zero_le _) hk) Nat.one_pos))
  rw [gk_rev hs, gk_rev hs, if_pos ⟨Nat.zero_le _, Nat.lt_of_succ_lt hk⟩, if_pos ⟨Nat.zero_le _, hk⟩]
  rw [e] at this
  exact this

theorem count_run {n : Nat} {p : Array Nat} (hf : Inj f n) (hp : Perm0 n p) (h2 : 2 ≤ n) :
    ∃ m q, krun (ltf f) (kas_count n p) = (m, q) ∧ Perm0 n q ∧ 1 ≤ m ∧ m ≤ n ∧ Asc f q m ∧ kok (ltf f) n (kas_count n p) := by
  unfold kas_count
  rw [krun_bind]
  obtain ⟨m, e, m1, m2, m3, m4, m5⟩ := asc_run hf hp (n - 1) 1 (Nat.le_refl _) (Nat.le_of_eq (oneSub (Nat.le_of_lt h2))) (fun k hk => absurd hk (Nat.not_lt.mpr (Nat.le_add_left 1 k)))
  have mn : m ≤ n := oneSub (Nat.le_of_lt h2) ▸ m2
  have kb : ∀ {β : Type} (F : Nat → KasT β), kok (ltf f) n (F m) → kok (ltf f) n ((kas_asc p (n - 1) 1).bind F) := fun F h => kok_bind m5 (by rw [e]; exact h)
  rw [e]
  by_cases hmn : m = n
  · rw [if_pos (by simp [hmn])]
    exact ⟨m, p, rfl, hp, m1, mn, m3, kb _ (by rw [if_pos (by simp [hmn])]; trivial)⟩
  · rw [if_neg (by simp [hmn])]
    by_cases hm1 : m > 1
    · rw [if_pos hm1]
      unfold krun
      rw [ltf_true]
      have hc : gk f p 0 < gk f p (m - 1) := by
        have all : ∀ k, k + 1 < m → gk f p 0 < gk f p (k + 1) := by
          intro k
          induction k with
          | zero => exact m3 0
          | succ k ih => exact fun hk => Int.lt_trans (ih (Nat.lt_of_succ_lt hk)) (m3 (k + 1) hk)
        have e2 : m - 2 + 1 = m - 1 := Nat.succ_pred_eq_of_pos (Nat.sub_pos_of_lt hm1)
        have := all (m - 2) (e2.symm ▸ Nat.sub_lt m1 Nat.one_pos)
        rwa [e2] at this
      simp only [hc, decide_true, if_true, krun]
      refine ⟨m, p, rfl, hp, m1, mn, m3, kb _ ?_⟩
      rw [if_neg (by simp [hmn]), if_pos hm1]
      refine ⟨hp.lt (by omega), hp.lt (by omega), ?_⟩
      rw [ltf_true]
      simp only [hc, decide_true, if_true]
      trivial
    · rw [if_neg hm1]
      obtain rfl : m = 1 := Nat.le_antisymm (Nat.le_of_not_lt hm1) m1
      have c1 : 1 < 1 + (n - 1) := (oneSub mn).symm ▸ h2
      have c2 : 1 + 1 + (n - (1 + 1)) = n := Nat.add_sub_of_le h2
      unfold kas_descPart at kb ⊢
      rw [krun_bind]
      have hD : Desc f p (1 + 1) := fun k hk => by
        obtain rfl : k = 0 := Nat.le_zero.mp (Nat.le_of_lt_succ (Nat.lt_of_succ_lt_succ hk))
        exact m4 c1
      obtain ⟨m', e', m1', m2', m3', m4'⟩ := desc_run hf hp (n - (1 + 1)) (1 + 1) (Nat.le_add_left 1 1) (Nat.le_of_eq c2) hD
      have mn' : m' ≤ n := c2 ▸ m2'
      have c3 : m' + (n - m') = n := Nat.add_sub_of_le mn'
      obtain ⟨m'', e'', k1, k2, k3, _, k4⟩ := asc_run hf (hp.rev 0 m') (n - m') m' (Nat.le_of_lt m1') (Nat.le_of_eq c3) (asc_of_desc hp mn' m3')
      have kk : kok (ltf f) n (kas_tail3 m' n p) := by unfold kas_tail3; exact kok_bind k4 trivial
      rw [e']
      rw [if_neg (by simp)]
      unfold kas_tail3 at kk ⊢
      rw [krun_bind]
      dsimp only
      rw [e'']
      refine ⟨m'', _, rfl, hp.rev 0 m', Nat.le_trans (Nat.le_of_lt m1') k1, c3 ▸ k2, k3, kb _ ?_⟩
      rw [if_neg (by simp [hmn]), if_neg (by omega)]
      refine kok_bind m4' ?_
      rw [e', if_neg (by simp)]
      exact kk

theorem asc_le {p : Array Nat} {b : Nat} (h : Asc f p b) : ∀ {i j : Nat}, i < j → j < b → gk f p i < gk f p j := by
  intro i j hij
  induction j with
  | zero => omega
  | succ j ih =>
    intro hb
    by_cases e : i = j
    · subst e; exact h i hb
    · exact Int.lt_trans (ih (by omega) (by omega)) (h j hb)

theorem place_run {n : Nat} {p : Array Nat} (hf : Inj f n) (hp : Perm0 n p) {k : Nat} (hk : k < n) (hA : Asc f p k) : ∀ (fu l r : Nat), l ≤ r → r ≤ k → r - l ≤ fu →
    (∀ i, i < l → gk f p i < gk f p k) → (∀ i, r ≤ i → i < k → gk f p k < gk f p i) →
    ∃ m, krun (ltf f) (kas_place p k fu l r) = m ∧ m ≤ k ∧ (∀ i, i < m → gk f p i < gk f p k) ∧ (∀ i, m ≤ i → i < k → gk f p k < gk f p i) ∧ kok (ltf f) n (kas_place p k fu l r)
  | 0, l, r, h1, h2, h3, a, b => ⟨l, rfl, Nat.le_trans h1 h2, a, fun i hi hk => b i (geOf h3 hi) hk, trivial⟩
  | fu + 1, l, r, h1, h2, h3, a, b => by
    unfold kas_place
    by_cases hlr : l ≥ r
    · rw [if_pos hlr]
      exact ⟨l, rfl, Nat.le_trans h1 h2, a, fun i hi hk => b i (Nat.le_trans hlr hi) hk, trivial⟩
    · rw [if_neg hlr]
      unfold krun kok
      rw [ltf_true]
      have i1 := hp.lt hk
      have hm := midOk (Nat.lt_of_not_le hlr)
      have mk := Nat.lt_of_lt_of_le hm.2 h2
      have i2 := hp.lt (i := (l + r) / 2) (Nat.lt_trans mk hk)
      by_cases hc : gk f p k < gk f p ((l + r) / 2)
      · simp only [hc, decide_true, if_true]
        obtain ⟨m, c1, c2, c3, c4, c5⟩ := place_run hf hp hk hA fu l ((l + r) / 2) hm.1 (Nat.le_of_lt mk) (midLo hm.1 hm.2 h3) a fun i hi hik => by
          by_cases e : i = (l + r) / 2
          · rw [e]; exact hc
          · exact Int.lt_trans hc (asc_le hA (Nat.lt_of_le_of_ne hi (Ne.symm e)) hik)
        exact ⟨m, c1, c2, c3, c4, i1, i2, c5⟩
      · simp only [hc, decide_false, Bool.false_eq_true, if_false]
        have hne : gk f p k ≠ gk f p ((l + r) / 2) := gk_ne hf hp hk (Nat.lt_trans mk hk) (Nat.ne_of_gt mk)
        have hlt := intLt hc hne
        obtain ⟨m, c1, c2, c3, c4, c5⟩ := place_run hf hp hk hA fu ((l + r) / 2 + 1) r hm.2 h2 (midHi hm.1 h3) (fun i hi => by
          by_cases e : i = (l + r) / 2
          · rw [e]; exact hlt
          · exact Int.lt_trans (asc_le hA (Nat.lt_of_le_of_ne (Nat.le_of_lt_succ hi) e) mk) hlt) b
        exact ⟨m, c1, c2, c3, c4, i1, i2, c5⟩

theorem bin_run {n : Nat} (hf : Inj f n) : ∀ (fu : Nat) (p : Array Nat) (k : Nat), Perm0 n p → k + fu = n → Asc f p k →
    ∃ q, krun (ltf f) (kas_bin fu p k) = q ∧ Perm0 n q ∧ Asc f q n ∧ kok (ltf f) n (kas_bin fu p k)
  | 0, p, k, hp, hk, hA => ⟨p, rfl, hp, by rw [← hk]; exact hA, trivial⟩
  | fu + 1, p, k, hp, hk, hA => by
    have kn : k < n := predLt (Nat.le_of_eq hk)
    unfold kas_bin
    rw [krun_bind]
    obtain ⟨m, e, m1, m2, m3, m4⟩ := place_run hf hp (k := k) kn hA k 0 k (Nat.zero_le _) (Nat.le_refl _) (Nat.sub_le _ _) (fun i hi => absurd hi (Nat.not_lt_zero _)) (fun i hi hk => absurd hk (Nat.not_lt.mpr hi))
    rw [e]
    have hs := hp.size
    refine Exists.elim (bin_run hf fu (bubble p k (k - m)) (k + 1) (hp.bubble _ _) (by omega) fun i hi => ?_) fun q hq => ⟨q, hq.1, hq.2.1, hq.2.2.1, kok_bind m4 (by rw [e]; exact hq.2.2.2)⟩
    have e1 : k - (k - m) = m := Nat.sub_sub_self m1
    have ks : k < p.size := hs.symm ▸ kn
    have ik : i ≤ k := Nat.le_of_lt_succ (Nat.lt_of_succ_lt hi)
    rw [gk_bubble ks (Nat.sub_le _ _), gk_bubble ks (Nat.sub_le _ _), e1]
    by_cases h1 : i = m
    · rw [if_pos h1, if_neg (by omega), if_pos (by omega)]
      have := m3 i (by omega) (by omega)
      rw [show i + 1 - 1 = i by omega]; exact this
    · rw [if_neg h1]
      by_cases h2 : i + 1 = m
      · rw [if_pos h2, if_neg (by omega)]
        exact m2 i (by omega)
      · rw [if_neg h2]
        by_cases h3 : m < i
        · rw [if_pos (by omega), if_pos (by omega)]
          have := hA (i - 1) (by omega)
          rwa [show i - 1 + 1 = i + 1 - 1 by omega] at this
        · rw [if_neg (by omega), if_neg (by omega)]
          exact hA i (by omega)

theorem sort_run {n : Nat} (hf : Inj f n) (h2 : 2 ≤ n) : Perm0 n (krun (ltf f) (kas_sort n)) ∧ Asc f (krun (ltf f) (kas_sort n)) n ∧ kok (ltf f) n (kas_sort n) := by
  unfold kas_sort
  rw [krun_bind]
  obtain ⟨m, q, e, hq, m1, m2, m3, m4⟩ := count_run hf (p := List.toArray (List.range n)) (Array.Perm.refl _) h2
  rw [e]
  dsimp only
  by_cases h : m < n
  · rw [if_pos h]
    obtain ⟨q', e', hq', hA', hk'⟩ := bin_run hf (n - max m 1) q (max m 1) hq (by omega) (by rw [show max m 1 = m by omega]; exact m3)
    rw [e']
    exact ⟨hq', hA', kok_bind m4 (by rw [e]; dsimp only; rw [if_pos h]; exact hk')⟩
  · rw [if_neg h]
    obtain rfl : m = n := by omega
    exact ⟨hq, m3, kok_bind m4 (by rw [e]; dsimp only; rw [if_neg h]; trivial)⟩
end
end

section
open PySem PySem.W PyProof.Rows
/-! the hash table of a small set: where a search ends -/
section below
variable {xs : Array Nat}
noncomputable def Rises (xs : Array Nat) : Prop := ∀ i j, i < j → j < xs.size → xs.getD i 0 < xs.getD j 0

theorem below_go (h : Rises xs) (j : Nat) : ∀ (fuel lo hi : Nat), lo ≤ hi → hi ≤ xs.size → hi - lo ≤ fuel → (∀ i, i < lo → xs.getD i 0 < j) → (∀ i, hi ≤ i → i < xs.size → j ≤ xs.getD i 0) →
    ∃ b, SetTable.below.go xs j fuel lo hi = b ∧ b ≤ xs.size ∧ (∀ i, i < b → xs.getD i 0 < j) ∧ (∀ i, b ≤ i → i < xs.size → j ≤ xs.getD i 0)
  | 0, lo, hi, h1, h2, h3, a, b => ⟨lo, rfl, Nat.le_trans h1 h2, a, fun i hi' hs => b i (geOf h3 hi') hs⟩
  | fuel + 1, lo, hi, h1, h2, h3, a, b => by
    unfold SetTable.below.go
    by_cases hl : lo < hi
    · rw [if_pos hl]
      dsimp only
      have hm := midOk hl
      have hms := Nat.lt_of_lt_of_le hm.2 h2
      rw [show xs.getD ((lo + hi) / 2) j = xs.getD ((lo + hi) / 2) 0 by simp [Array.getD, hms]]
      by_cases hc : xs.getD ((lo + hi) / 2) 0 < j
      · rw [if_pos hc]
        refine below_go h j fuel _ _ hm.2 h2 (midHi hm.1 h3) (fun i hi' => ?_) b
        by_cases e : i = (lo + hi) / 2
        · rw [e]; exact hc
        · exact Nat.lt_trans (h i ((lo + hi) / 2) (Nat.lt_of_le_of_ne (Nat.le_of_lt_succ hi') e) hms) hc
      · rw [if_neg hc]
        refine below_go h j fuel _ _ hm.1 (Nat.le_of_lt hms) (midLo hm.1 hm.2 h3) a (fun i hi' hs => ?_)
        by_cases e : i = (lo + hi) / 2
        · rw [e]; exact Nat.le_of_not_lt hc
        · exact Nat.le_trans (Nat.le_of_not_lt hc) (Nat.le_of_lt (h ((lo + hi) / 2) i (Nat.lt_of_le_of_ne hi' (Ne.symm e)) hs))
    · rw [if_neg hl]
      exact ⟨lo, rfl, Nat.le_trans h1 h2, a, fun i hi' hs => b i (Nat.le_trans (Nat.le_of_not_lt hl) hi') hs⟩
theorem below_spec (h : Rises xs) (j : Nat) : SetTable.below xs j ≤ xs.size ∧ (∀ i, i < SetTable.below xs j → xs.getD i 0 < j) ∧ (∀ i, SetTable.below xs j ≤ i → i < xs.size → j ≤ xs.getD i 0) := by
  obtain ⟨b, e, r⟩ := below_go h j xs.size 0 xs.size (Nat.zero_le _) (Nat.le_refl _) (Nat.sub_le _ _) (fun i hi => absurd hi (Nat.not_lt_zero _)) (fun i h1 h2 => absurd h2 (Nat.not_lt.mpr h1))
  rw [show SetTable.below xs j = b from e]
  exact r
theorem getD_some {xs : Array Nat} {i j : Nat} : xs[i]? = some j ↔ i < xs.size ∧ xs.getD i 0 = j := by
  constructor
  · intro h
    obtain ⟨hi, e⟩ := Array.getElem?_eq_some_iff.mp h
    exact ⟨hi, by simp [Array.getD, hi, e]⟩
  · rintro ⟨hi, e⟩
    have : xs.getD i 0 = xs[i] := by simp [Array.getD, hi]
    rw [Array.getElem?_eq_getElem hi, ← this, e]
theorem below_at (h : Rises xs) {i j : Nat} (e : xs[i]? = some j) : SetTable.below xs j = i := by
  obtain ⟨hi, ej⟩ := getD_some.mp e
  obtain ⟨b1, b2, b3⟩ := below_spec h j
  rcases Nat.lt_trichotomy (SetTable.below xs j) i with q | q | q
  · exact absurd (Nat.lt_of_le_of_lt (b3 (SetTable.below xs j) (Nat.le_refl _) (Nat.lt_trans q hi)) (h (SetTable.below xs j) i q hi)) (by rw [ej]; exact Nat.lt_irrefl _)
  · exact q
  · exact absurd (b2 i q) (by rw [ej]; exact Nat.lt_irrefl _)
theorem below_next (h : Rises xs) {i j : Nat} (e : xs[i]? = some j) : SetTable.below xs (j + 1) = i + 1 := by
  obtain ⟨hi, ej⟩ := getD_some.mp e
  obtain ⟨b1, b2, b3⟩ := below_spec h (j + 1)
  rcases Nat.lt_trichotomy (SetTable.below xs (j + 1)) (i + 1) with q | q | q
  · exact absurd (b3 i (Nat.le_of_lt_succ q) hi) (by rw [ej]; exact Nat.not_succ_le_self _)
  · exact q
  · exact absurd (Nat.lt_of_lt_of_le (h i (i + 1) (Nat.lt_succ_self _) (Nat.lt_of_lt_of_le q b1)) (Nat.le_of_lt_succ (b2 (i + 1) q))) (by rw [ej]; exact Nat.lt_irrefl _)
theorem below_zero (h : Rises xs) : SetTable.below xs 0 = 0 := by
  obtain ⟨b1, b2, b3⟩ := below_spec h 0
  rcases Nat.eq_zero_or_pos (SetTable.below xs 0) with q | q
  · exact q
  · exact absurd (b2 0 q) (Nat.not_lt_zero _)
end below

theorem slot_live {t : SetTable} (h : Rises t.place) {i j : Nat} (e : t.place[i]? = some j) : t.slot j = .live i := by
  unfold SetTable.slot
  rw [below_at h e]
  simp [e]
theorem slot_empty {t : SetTable} (_ : Rises t.place) (hd : t.dummies = #[]) {j : Nat} (e : ∀ i : Nat, t.place[i]? ≠ some j) : t.slot j = .empty := by
  unfold SetTable.slot
  have h1 : (t.place[SetTable.below t.place j]? == some j) = false := by
    rw [beq_eq_false_iff_ne]; exact e _
  simp only [h1, Bool.false_eq_true, if_false]
  rw [hd]
  rfl

/-- one step of a probe: it hangs on the mask alone -/
noncomputable def adv (mask : Nat) (p : SetTable.Probe) : SetTable.Probe := ({ SetTable.fresh 0 0 true with mask := mask } : SetTable).advance p
theorem adv_eq (t : SetTable) (p : SetTable.Probe) : t.advance p = adv t.mask p := rfl
noncomputable def start (mask : Nat) (h : Int) : SetTable.Probe := ({ SetTable.fresh 0 0 true with mask := mask } : SetTable).probeStart h
noncomputable def steps (mask : Nat) : Nat → SetTable.Probe → SetTable.Probe
  | 0, p => p
  | k + 1, p => steps mask k (adv mask p)
theorem steps_succ (mask : Nat) : ∀ (k : Nat) (p : SetTable.Probe), steps mask (k + 1) p = adv mask (steps mask k p)
  | 0, _ => rfl
  | k + 1, p => steps_succ mask k (adv mask p)
noncomputable def path (mask : Nat) (h : Int) (k : Nat) : Nat := (steps mask k (start mask h)).j

theorem adv_dummy (mask : Nat) (p : SetTable.Probe) : (adv mask p).dummy = p.dummy := by
  unfold adv SetTable.advance
  by_cases h : p.more > 0
  · rw [if_pos h]
  · rw [if_neg h]
theorem steps_dummy (mask : Nat) : ∀ (k : Nat) (p : SetTable.Probe), (steps mask k p).dummy = p.dummy
  | 0, _ => rfl
  | k + 1, p => (steps_dummy mask k _).trans (adv_dummy mask p)

inductive ProbeEnd (t : SetTable) (hashAt : Nat → Int) (h : Int) (p : SetTable.Probe) : Option SetTable.Met → Prop
  | free (k : Nat) : (∀ i : Nat, t.place[i]? ≠ some (steps t.mask k p).j) → (∀ k', k' < k → ∃ i : Nat, t.place[i]? = some (steps t.mask k' p).j ∧ hashAt i ≠ h) → ProbeEnd t hashAt h p (some (.empty (steps t.mask k p).j none))
  | hit (k i : Nat) (next : SetTable.Probe) : t.place[i]? = some (steps t.mask k p).j → hashAt i = h → ProbeEnd t hashAt h p (some (.candidate (steps t.mask k p).j i next))

theorem probe_go {t : SetTable} (hr : Rises t.place) (hd : t.dummies = #[]) (hashAt : Nat → Int) (h : Int) : ∀ (fuel k : Nat) (p : SetTable.Probe), p.dummy = none → k < fuel → (∀ i : Nat, t.place[i]? ≠ some (steps t.mask k p).j) →
    ProbeEnd t hashAt h p (SetTable.probe.go t hashAt h fuel p)
  | 0, _, _, _, hk, _ => absurd hk (Nat.not_lt_zero _)
  | fuel + 1, k, p, hp, hk, he => by
    unfold SetTable.probe.go
    by_cases hlive : ∃ i : Nat, t.place[i]? = some p.j
    · obtain ⟨i, hi⟩ := hlive
      rw [slot_live hr hi]
      dsimp only
      by_cases hh : hashAt i = h
      · rw [if_pos (by simp [hh])]
        exact ProbeEnd.hit (t := t) (p := p) 0 i _ hi hh
      · rw [if_neg (by simp [hh])]
        cases k with
        | zero => exact absurd hi (he i)
        | succ k =>
          have ih := probe_go hr hd hashAt h fuel k (adv t.mask p) (by rw [adv_dummy]; exact hp) (Nat.lt_of_succ_lt_succ hk) he
          rw [adv_eq]
          generalize SetTable.probe.go t hashAt h fuel (adv t.mask p) = r at ih
          cases ih with
          | free k2 h1 h2 =>
            refine ProbeEnd.free (t := t) (p := p) (k2 + 1) h1 fun k' hk' => ?_
            cases k' with
            | zero => exact ⟨i, hi, hh⟩
            | succ k' => exact h2 k' (Nat.lt_of_succ_lt_succ hk')
          | hit k2 i2 next h1 h2 => exact ProbeEnd.hit (t := t) (p := p) (k2 + 1) i2 next h1 h2
    · have hno : ∀ i : Nat, t.place[i]? ≠ some p.j := fun i q => hlive ⟨i, q⟩
      rw [slot_empty hr hd hno]
      dsimp only
      rw [hp]
      exact ProbeEnd.free (t := t) (p := p) 0 hno fun k' hk' => absurd hk' (Nat.not_lt_zero _)

/-- a set's table by what its elements' hashes are -/
structure Tab (t : SetTable) (hs : List Int) : Prop where
  nodum : t.dummies = #[]
  size : t.place.size = hs.length
  rises : Rises t.place
  low : ∀ i j : Nat, t.place[i]? = some j → j ≤ t.mask
  mask : t.mask = 7 ∨ t.mask = 31
  reach : ∀ (i : Nat) (h : Int), hs[i]? = some h → ∃ k, t.place[i]? = some (path t.mask h k) ∧ ∀ k', k' < k → ∃ i' : Nat, t.place[i']? = some (path t.mask h k')

theorem tab_fresh (a b : Nat) (c : Bool) : Tab (SetTable.fresh a b c) [] where
  nodum := rfl
  size := rfl
  rises := fun i j _ hj => absurd hj (Nat.not_lt_zero _)
  low := fun i j h => by simp [SetTable.fresh] at h
  mask := .inl rfl
  reach := fun i h e => by simp at e

noncomputable def visits (mask : Nat) : Nat → SetTable.Probe → List Nat
  | 0, _ => []
  | k + 1, p => p.j :: visits mask k (adv mask p)
theorem mem_visits (mask : Nat) : ∀ (n : Nat) (p : SetTable.Probe) (j : Nat), j ∈ visits mask n p → ∃ k, k < n ∧ (steps mask k p).j = j
  | 0, _, _, h => nomatch h
  | n + 1, p, j, h => by
    rcases List.mem_cons.mp h with rfl | h
    · exact ⟨0, Nat.zero_lt_succ _, rfl⟩
    · obtain ⟨k, hk, e⟩ := mem_visits mask n _ j h
      exact ⟨k + 1, Nat.succ_lt_succ hk, e⟩
noncomputable def needs (mask : Nat) : Nat := if mask = 7 then 6 else 11
noncomputable def met (mask : Nat) (h : Int) : List Nat := (List.range (mask + 1)).filter fun j => (visits mask 40 (start mask h)).contains j
/-- the slots that a search for h looks at first are more than the elements -/
noncomputable def Wide (h : Int) : Bool := decide (needs 7 ≤ (met 7 h).length) && decide (needs 31 ≤ (met 31 h).length)

theorem free_slot {t : SetTable} {hs : List Int} {h : Int} (T : Tab t hs) (hw : Wide h = true) (hl : hs.length < needs t.mask) : ∃ k, k < 10 * SetTable.turns t.mask ∧ ∀ i : Nat, t.place[i]? ≠ some (path t.mask h k) := by
  simp only [Wide, Bool.and_eq_true, decide_eq_true_eq] at hw
  have hm : needs t.mask ≤ (met t.mask h).length := by rcases T.mask with e | e <;> rw [e] <;> simp [hw]
  obtain ⟨j, hj, hno⟩ : ∃ j, j ∈ met t.mask h ∧ ∀ i : Nat, t.place[i]? ≠ some j := by
    refine Classical.byContradiction fun hcon => ?_
    have hall : ∀ j, j ∈ met t.mask h → ∃ i : Nat, t.place[i]? = some j := fun j hj => Classical.byContradiction fun q => hcon ⟨j, hj, fun i hi => q ⟨i, hi⟩⟩
    have hsub : met t.mask h ⊆ t.place.toList := fun j hj => by
      obtain ⟨i, hi⟩ := hall j hj
      exact Array.mem_toList_iff.mpr (Array.mem_of_getElem? hi)
    have h1 := List.Nodup.length_le_of_subset (List.nodup_range.filter _) hsub
    have h2 := T.size
    have h3 : (met t.mask h).length ≤ t.place.toList.length := h1
    exact absurd (Nat.lt_of_lt_of_le hl hm) (Nat.not_lt.mpr (Nat.le_trans h3 (Nat.le_of_eq (Array.length_toList.trans h2))))
  obtain ⟨_, h2⟩ := List.mem_filter.mp hj
  obtain ⟨k, hk, e⟩ := mem_visits _ _ _ _ (List.contains_iff_mem.mp h2)
  refine ⟨k, ?_, fun i hi => ?_⟩
  · show k < 10 * (t.mask + 15)
    exact Nat.lt_of_lt_of_le hk (Nat.le_trans (by decide : 40 ≤ 10 * 15) (Nat.mul_le_mul_left 10 (Nat.le_add_left 15 _)))
  · have hi : t.place[i]? = some (steps t.mask k (start t.mask h)).j := hi
    rw [e] at hi
    exact hno i hi

theorem probe_end {t : SetTable} {hs : List Int} {h : Int} (T : Tab t hs) (hw : Wide h = true) (hl : hs.length < needs t.mask) (hashAt : Nat → Int) :
    ProbeEnd t hashAt h (start t.mask h) (t.probe hashAt h (t.probeStart h)) := by
  obtain ⟨k, hk, hno⟩ := free_slot T hw hl
  exact probe_go T.rises T.nodum hashAt h _ k (start t.mask h) rfl hk hno

/-- a hash that is in the table is met before an empty slot -/
theorem not_free {t : SetTable} {hs : List Int} {h : Int} {j : Nat} {d : Option Nat} (T : Tab t hs) (hin : h ∈ hs) (hashAt : Nat → Int) (hA : ∀ (i : Nat) (g : Int), hs[i]? = some g → hashAt i = g) :
    ¬ ProbeEnd t hashAt h (start t.mask h) (some (.empty j d)) := by
  intro hp
  cases hp with
  | free k h1 h2 =>
    obtain ⟨i, hi⟩ := List.mem_iff_getElem?.mp hin
    obtain ⟨k0, e0, hb⟩ := T.reach i h hi
    rcases Nat.lt_trichotomy k k0 with q | q | q
    · obtain ⟨i', e'⟩ := hb k q
      exact h1 i' e'
    · rw [q] at h1; exact h1 i e0
    · obtain ⟨i', e', hne⟩ := h2 k0 q
      have : i' = i := by
        have r := T.rises
        have x1 := below_at r e'
        have x2 := below_at r e0
        have e'' : t.place[i']? = some (path t.mask h k0) := e'
        rw [← below_at r e'', ← below_at r e0]
      rw [this, hA i h hi] at hne
      exact hne rfl

theorem insert_get {α : Type} (xs : Array α) (p : Nat) (x : α) (hp : p ≤ xs.size) (i : Nat) : (SetTable.insertAt xs p x)[i]? = if i < p then xs[i]? else if i = p then some x else xs[i - 1]? := by
  unfold SetTable.insertAt
  have hx : (xs.extract 0 p).size = p := by rw [Array.size_extract, Nat.min_eq_left hp]; rfl
  rw [Array.getElem?_append, Array.size_push, hx]
  by_cases h1 : i < p
  · rw [if_pos (Nat.lt_succ_of_lt h1), if_pos h1, Array.getElem?_push, hx, if_neg (Nat.ne_of_lt h1), Array.getElem?_extract, if_pos (by rw [Nat.min_eq_left hp]; exact h1), Nat.zero_add]
  · rw [if_neg h1]
    by_cases h2 : i = p
    · rw [if_pos (by rw [h2]; exact Nat.lt_succ_self p), if_pos h2, Array.getElem?_push, hx, if_pos h2]
    · have h4 : p + 1 ≤ i := Nat.lt_of_le_of_ne (Nat.le_of_not_lt h1) (Ne.symm h2)
      have e : p + (i - (p + 1)) = i - 1 := by
        obtain ⟨d, rfl⟩ := Nat.exists_eq_add_of_le h4
        rw [Nat.add_sub_cancel_left, Nat.add_right_comm]; rfl
      rw [if_neg (Nat.not_lt.mpr h4), if_neg h2, Array.getElem?_extract, e, Nat.min_self]
      by_cases h3 : i - 1 < xs.size
      · rw [if_pos (Nat.lt_sub_of_add_lt (by rw [Nat.add_comm, e]; exact h3))]
      · rw [if_neg (fun q => h3 (by have := Nat.add_lt_of_lt_sub q; rw [Nat.add_comm, e] at this; exact this)), Array.getElem?_eq_none (Nat.le_of_not_lt h3)]
theorem insert_size {α : Type} (xs : Array α) (p : Nat) (x : α) (hp : p ≤ xs.size) : (SetTable.insertAt xs p x).size = xs.size + 1 := by
  unfold SetTable.insertAt
  rw [Array.size_append, Array.size_push, Array.size_extract, Array.size_extract, Nat.min_eq_left hp, Nat.min_self, Nat.sub_zero, Nat.add_right_comm, Nat.add_sub_of_le hp]

noncomputable def insL (hs : List Int) (p : Nat) (h : Int) : List Int := (SetTable.insertAt hs.toArray p h).toList
theorem insL_get (hs : List Int) (p : Nat) (h : Int) (hp : p ≤ hs.length) (i : Nat) : (insL hs p h)[i]? = if i < p then hs[i]? else if i = p then some h else hs[i - 1]? := by
  unfold insL
  rw [Array.getElem?_toList, insert_get _ _ _ (by simpa using hp)]
  simp

theorem Tab.put {t : SetTable} {hs : List Int} {h : Int} {k : Nat} (T : Tab t hs) (hno : ∀ i : Nat, t.place[i]? ≠ some (path t.mask h k)) (hlow : path t.mask h k ≤ t.mask)
    (hocc : ∀ k', k' < k → ∃ i : Nat, t.place[i]? = some (path t.mask h k')) :
    (t.put (path t.mask h k)).2 ≤ hs.length ∧ Tab (t.put (path t.mask h k)).1 (insL hs (t.put (path t.mask h k)).2 h) := by
  obtain ⟨b1, b2, b3⟩ := below_spec T.rises (path t.mask h k)
  have e2 : (t.put (path t.mask h k)).2 = SetTable.below t.place (path t.mask h k) := rfl
  have e1 : (t.put (path t.mask h k)).1 = { t with place := SetTable.insertAt t.place (SetTable.below t.place (path t.mask h k)) (path t.mask h k) } := by
    unfold SetTable.put
    have hd : SetTable.has t.dummies (path t.mask h k) = false := by rw [T.nodum]; rfl
    simp only [hd, Bool.false_eq_true, if_false]
  rw [e1, e2]
  generalize hp : SetTable.below t.place (path t.mask h k) = p at *
  have hps : p ≤ t.place.size := b1
  have hpl : p ≤ hs.length := Nat.le_trans hps (Nat.le_of_eq T.size)
  have here : ∀ i : Nat, ∀ j, t.place[i]? = some j → ∃ i' : Nat, (SetTable.insertAt t.place p (path t.mask h k))[i']? = some j := fun i j e => by
    by_cases q : i < p
    · exact ⟨i, by rw [insert_get _ _ _ hps, if_pos q]; exact e⟩
    · exact ⟨i + 1, by rw [insert_get _ _ _ hps, if_neg (fun z : i + 1 < p => q (Nat.lt_of_succ_lt z)), if_neg (fun z : i + 1 = p => q (z ▸ Nat.lt_succ_self i))]; exact e⟩
  have newAt : (SetTable.insertAt t.place p (path t.mask h k))[p]? = some (path t.mask h k) := by rw [insert_get _ _ _ hps, if_neg (Nat.lt_irrefl _), if_pos rfl]
  refine ⟨hpl, ⟨T.nodum, ?_, ?_, ?_, T.mask, ?_⟩⟩
  · show (SetTable.insertAt t.place p _).size = _
    rw [insert_size _ _ _ hps]
    unfold insL
    rw [Array.length_toList, insert_size _ _ _ (by simpa using hpl), List.size_toArray]
    have h9 := T.size
    exact congrArg Nat.succ h9
  · show Rises (SetTable.insertAt t.place p _)
    have gd : ∀ i : Nat, (SetTable.insertAt t.place p (path t.mask h k)).getD i 0 = if i < p then t.place.getD i 0 else if i = p then path t.mask h k else t.place.getD (i - 1) 0 := fun i => by
      have a : ∀ (xs : Array Nat), xs.getD i 0 = (xs[i]?).getD 0 := fun xs => by simp
      rw [a, insert_get _ _ _ hps]
      by_cases q1 : i < p
      · rw [if_pos q1, if_pos q1]; simp
      · rw [if_neg q1, if_neg q1]
        by_cases q2 : i = p
        · rw [if_pos q2, if_pos q2]; rfl
        · rw [if_neg q2, if_neg q2]; simp
    intro i j hij hj
    rw [insert_size _ _ _ hps] at hj
    rw [gd, gd]
    have strict : ∀ i : Nat, p ≤ i → i < t.place.size → path t.mask h k < t.place.getD i 0 := fun i h1 h2 => by
      have := b3 i h1 h2
      rcases Nat.lt_or_eq_of_le this with q | q
      · exact q
      · exact absurd (getD_some.mpr ⟨h2, q.symm⟩) (hno i)
    by_cases q1 : j < p
    · rw [if_pos (Nat.lt_trans hij q1), if_pos q1]; exact T.rises i j hij (Nat.lt_of_lt_of_le q1 hps)
    · rw [if_neg q1]
      by_cases q2 : j = p
      · rw [if_pos q2, if_pos (q2 ▸ hij)]; exact b2 i (q2 ▸ hij)
      · have jp : p < j := Nat.lt_of_le_of_ne (Nat.le_of_not_lt q1) (Ne.symm q2)
        have j1 : p ≤ j - 1 := Nat.le_sub_one_of_lt jp
        have j2 : j - 1 < t.place.size := Nat.lt_of_lt_of_le (Nat.sub_lt (Nat.lt_of_le_of_lt (Nat.zero_le _) jp) Nat.one_pos) (Nat.le_of_lt_succ hj)
        rw [if_neg q2]
        by_cases q3 : i < p
        · rw [if_pos q3]; exact Nat.lt_trans (b2 i q3) (strict (j - 1) j1 j2)
        · rw [if_neg q3]
          by_cases q4 : i = p
          · rw [if_pos q4]; exact strict (j - 1) j1 j2
          · rw [if_neg q4]; exact T.rises (i - 1) (j - 1) (Nat.sub_lt_sub_right (Nat.lt_of_le_of_lt (Nat.zero_le p) (Nat.lt_of_le_of_ne (Nat.le_of_not_lt q3) (Ne.symm q4))) hij) j2
  · intro i j e
    rw [show ({ t with place := SetTable.insertAt t.place p (path t.mask h k) } : SetTable).place = SetTable.insertAt t.place p (path t.mask h k) from rfl, insert_get _ _ _ hps] at e
    by_cases q1 : i < p
    · rw [if_pos q1] at e; exact T.low i j e
    · rw [if_neg q1] at e
      by_cases q2 : i = p
      · rw [if_pos q2] at e
        have := Option.some.inj e
        exact this ▸ hlow
      · rw [if_neg q2] at e; exact T.low _ j e
  · intro i g e
    show ∃ k_1, (SetTable.insertAt t.place p (path t.mask h k))[i]? = some (path t.mask g k_1) ∧ ∀ k', k' < k_1 → ∃ i' : Nat, (SetTable.insertAt t.place p (path t.mask h k))[i']? = some (path t.mask g k')
    rw [insL_get _ _ _ hpl] at e
    have old : ∀ i0 : Nat, hs[i0]? = some g → (SetTable.insertAt t.place p (path t.mask h k))[i]? = t.place[i0]? → ∃ k_1, (SetTable.insertAt t.place p (path t.mask h k))[i]? = some (path t.mask g k_1) ∧ ∀ k', k' < k_1 → ∃ i' : Nat, (SetTable.insertAt t.place p (path t.mask h k))[i']? = some (path t.mask g k') := fun i0 e0 e9 => by
      obtain ⟨k1, x1, x2⟩ := T.reach i0 g e0
      exact ⟨k1, e9.trans x1, fun k' hk' => by obtain ⟨i', y⟩ := x2 k' hk'; exact here i' _ y⟩
    by_cases q1 : i < p
    · rw [if_pos q1] at e
      exact old i e (by rw [insert_get _ _ _ hps, if_pos q1])
    · rw [if_neg q1] at e
      by_cases q2 : i = p
      · rw [if_pos q2] at e
        have := Option.some.inj e
        subst this
        subst q2
        exact ⟨k, newAt, fun k' hk' => by obtain ⟨i', y⟩ := hocc k' hk'; exact here i' _ y⟩
      · rw [if_neg q2] at e
        exact old (i - 1) e (by rw [insert_get _ _ _ hps, if_neg q1, if_neg q2])
end

section
open PySem PySem.W PyProof.Rows
/-! the table laid anew, of 32 slots -/
theorem runEnd_le {mask i : Nat} (h : i ≤ mask) : SetTable.runEnd mask i ≤ mask := by unfold SetTable.runEnd; split <;> omega
theorem runEnd_ge (mask i : Nat) : i ≤ SetTable.runEnd mask i := by unfold SetTable.runEnd; split <;> omega
theorem adv_low {mask : Nat} {p : SetTable.Probe} (h : p.j + p.more ≤ mask) : (adv mask p).j + (adv mask p).more ≤ mask := by
  unfold adv SetTable.advance
  by_cases q : p.more > 0
  · rw [if_pos q]; show p.j + 1 + (p.more - 1) ≤ mask; rw [Nat.add_assoc, Nat.add_sub_of_le q]; exact h
  · rw [if_neg q]
    have hl : (p.i * 5 + 1 + p.perturb / 32) % (mask + 1) ≤ mask := Nat.le_of_lt_succ (Nat.mod_lt _ (Nat.succ_pos mask))
    have := runEnd_le hl
    show (SetTable.leap mask p.i p.perturb).1 + (SetTable.runEnd mask (SetTable.leap mask p.i p.perturb).1 - (SetTable.leap mask p.i p.perturb).1) ≤ mask
    rw [Nat.add_sub_of_le (runEnd_ge _ _)]
    exact this
theorem steps_low {mask : Nat} : ∀ (k : Nat) (p : SetTable.Probe), p.j + p.more ≤ mask → (steps mask k p).j + (steps mask k p).more ≤ mask
  | 0, _, h => h
  | k + 1, _, h => steps_low k _ (adv_low h)
theorem path_low (mask : Nat) (h : Int) (k : Nat) : path mask h k ≤ mask := by
  have hi : SetTable.bits h % (mask + 1) ≤ mask := Nat.le_of_lt_succ (Nat.mod_lt _ (Nat.succ_pos mask))
  have := steps_low (mask := mask) k (start mask h) (by show SetTable.bits h % (mask + 1) + (SetTable.runEnd mask (SetTable.bits h % (mask + 1)) - SetTable.bits h % (mask + 1)) ≤ mask; rw [Nat.add_sub_of_le (runEnd_ge _ _)]; exact runEnd_le hi)
  exact Nat.le_trans (Nat.le_add_right _ _) this
theorem run_steps (mask i pert : Nat) (d : Option Nat) : ∀ (k j more : Nat), k ≤ more → steps mask k ⟨j, more, i, pert, d⟩ = ⟨j + k, more - k, i, pert, d⟩
  | 0, j, more, _ => rfl
  | k + 1, j, more, h => by
    show steps mask k (adv mask ⟨j, more, i, pert, d⟩) = _
    have e : adv mask ⟨j, more, i, pert, d⟩ = ⟨j + 1, more - 1, i, pert, d⟩ := by
      unfold adv SetTable.advance
      rw [if_pos (Nat.lt_of_lt_of_le (Nat.succ_pos k) h)]
    rw [e, run_steps mask i pert d k (j + 1) (more - 1) (Nat.le_sub_one_of_lt h), Nat.sub_sub, Nat.add_assoc, Nat.add_comm 1 k]
noncomputable def runStart (mask i pert : Nat) : SetTable.Probe := ⟨i, SetTable.runEnd mask i - i, i, pert, none⟩
theorem adv_leap (mask j i pert : Nat) : adv mask ⟨j, 0, i, pert, none⟩ = runStart mask (SetTable.leap mask i pert).1 (SetTable.leap mask i pert).2 := by
  unfold adv SetTable.advance
  rw [if_neg (Nat.lt_irrefl 0)]
  rfl
theorem steps_add (mask : Nat) : ∀ (a b : Nat) (p : SetTable.Probe), steps mask (a + b) p = steps mask b (steps mask a p)
  | 0, b, p => by rw [Nat.zero_add]; rfl
  | a + 1, b, p => by rw [Nat.add_right_comm]; exact steps_add mask a b (adv mask p)
theorem start_run (mask : Nat) (h : Int) : start mask h = runStart mask (SetTable.bits h % (mask + 1)) (SetTable.bits h) := rfl

noncomputable abbrev Owner := Array (Option Nat)
noncomputable def Taken (ow : Owner) (j : Nat) : Prop := (ow.getD j (some 0)).isNone = false

theorem find_range {q : Nat → Bool} {n k : Nat} (h : (List.range n).find? q = some k) : k < n ∧ q k = true ∧ ∀ k', k' < k → q k' = false := by
  have h1 := List.find?_some h
  have h2 := List.mem_of_find?_eq_some h
  refine ⟨List.mem_range.mp h2, h1, fun k' hk' => ?_⟩
  rw [List.find?_range_eq_some] at h
  have := h.2.2 k' hk'
  simpa using this

noncomputable def starts (mask : Nat) : Nat → Nat → Nat → List Nat
  | 0, _, _ => []
  | n + 1, i, pert => i :: starts mask n (SetTable.leap mask i pert).1 (SetTable.leap mask i pert).2

theorem free_none (ow : Owner) (mask : Nat) : ∀ (fuel i pert : Nat), SetTable.layClean.free mask ow fuel i pert = none → ∀ j ∈ starts mask fuel i pert, Taken ow j
  | 0, _, _, _ => fun j hj => by simp [starts] at hj
  | fuel + 1, i, pert, h => by
    unfold SetTable.layClean.free at h
    split at h
    · cases h
    · rename_i hn
      have hr := runEnd_ge mask i
      intro j hj
      rcases List.mem_cons.mp hj with rfl | hj
      · have := List.find?_eq_none.mp hn 0 (List.mem_range.mpr (Nat.sub_pos_of_lt (Nat.lt_succ_of_le hr)))
        exact Bool.eq_false_iff.mpr this
      · exact free_none ow mask fuel _ _ h j hj

theorem free_some (ow : Owner) (mask : Nat) : ∀ (fuel i pert j : Nat), SetTable.layClean.free mask ow fuel i pert = some j → ∃ k, (steps mask k (runStart mask i pert)).j = j ∧ (ow.getD j (some 0)).isNone = true ∧ ∀ k', k' < k → Taken ow (steps mask k' (runStart mask i pert)).j
  | 0, _, _, _, h => by cases h
  | fuel + 1, i, pert, j, h => by
    have hr := runEnd_ge mask i
    have inRun : ∀ k, k ≤ SetTable.runEnd mask i - i → (steps mask k (runStart mask i pert)).j = i + k := fun k hk => by
      unfold runStart; rw [run_steps _ _ _ _ _ _ _ hk]
    unfold SetTable.layClean.free at h
    split at h
    · rename_i k hf
      obtain ⟨a, b, c⟩ := find_range hf
      have e := Option.some.inj h
      have hk : k ≤ SetTable.runEnd mask i - i := Nat.le_of_lt_succ (Nat.succ_sub hr ▸ a)
      refine ⟨k, (inRun k hk).trans e, by rw [← e]; exact b, fun k' hk' => ?_⟩
      rw [inRun k' (Nat.le_trans (Nat.le_of_lt hk') hk)]
      exact c k' hk'
    · rename_i hn
      obtain ⟨k, a, b, c⟩ := free_some ow mask fuel _ _ j h
      have e : ∀ k, steps mask (SetTable.runEnd mask i - i + 1 + k) (runStart mask i pert) = steps mask k (runStart mask (SetTable.leap mask i pert).1 (SetTable.leap mask i pert).2) := fun k => by
        rw [steps_add, steps_succ]
        congr 1
        unfold runStart
        rw [run_steps _ _ _ _ _ _ _ (Nat.le_refl _), Nat.sub_self]
        exact adv_leap mask _ i pert
      refine ⟨SetTable.runEnd mask i - i + 1 + k, by rw [e]; exact a, b, fun k' hk' => ?_⟩
      by_cases q : k' ≤ SetTable.runEnd mask i - i
      · rw [inRun k' q]
        have := List.find?_eq_none.mp hn k' (List.mem_range.mpr ((Nat.succ_sub hr).symm ▸ Nat.lt_succ_of_le q))
        exact Bool.eq_false_iff.mpr this
      · have h4 : SetTable.runEnd mask i - i + 1 ≤ k' := Nat.lt_of_not_le q
        have := c (k' - (SetTable.runEnd mask i - i + 1)) (Nat.sub_lt_left_of_lt_add h4 hk')
        have e' := e (k' - (SetTable.runEnd mask i - i + 1))
        rw [Nat.add_sub_of_le h4] at e'
        rw [e']; exact this

/-- a layout under way: k hashes are laid -/
structure Laid (mask : Nat) (hs : List Int) (k : Nat) (ow : Owner) : Prop where
  size : ow.size = mask + 1
  at_ : ∀ i, i < k → ∃ j h q, hs[i]? = some h ∧ ow[j]? = some (some i) ∧ j = path mask h q ∧ ∀ q', q' < q → Taken ow (path mask h q')
  back : ∀ j i : Nat, ow[j]? = some (some i) → i < k
  inj : ∀ j j' i : Nat, ow[j]? = some (some i) → ow[j']? = some (some i) → j = j'

theorem taken_iff {mask : Nat} {ow : Owner} (hs : ow.size = mask + 1) {j : Nat} (hj : j ≤ mask) : Taken ow j ↔ ∃ i, ow[j]? = some (some i) := by
  unfold Taken
  have hlt : j < ow.size := hs.symm ▸ Nat.lt_succ_of_le hj
  have e : ow.getD j (some 0) = ow[j] := by simp [Array.getD, hlt]
  rw [e, Array.getElem?_eq_getElem hlt]
  cases h : ow[j] with
  | none => simp
  | some i => simp
theorem isNone_iff {mask : Nat} {ow : Owner} (hs : ow.size = mask + 1) {j : Nat} (h : (ow.getD j (some 0)).isNone = true) : j < mask + 1 ∧ ow[j]? = some none := by
  by_cases hlt : j < ow.size
  · have e : ow.getD j (some 0) = ow[j] := by simp [Array.getD, hlt]
    rw [e] at h
    refine ⟨hs ▸ hlt, ?_⟩
    rw [Array.getElem?_eq_getElem hlt]
    cases q : ow[j] with
    | none => rfl
    | some i => rw [q] at h; cases h
  · have e : ow.getD j (some 0) = some 0 := by simp [Array.getD, hlt]
    rw [e] at h; cases h

/-- the run starts that a layout looks at are six and more -/
noncomputable def seen (h : Int) : List Nat := (List.range 32).filter fun j => (starts 31 (SetTable.turns 31) (SetTable.bits h % 32) (SetTable.bits h)).contains j
noncomputable def Wide2 (h : Int) : Bool := decide (6 ≤ (seen h).length)

theorem Laid.step {hs : List Int} {k : Nat} {ow : Owner} {h : Int} (L : Laid 31 hs k ow) (hk : hs[k]? = some h) (hw : Wide2 h = true) (h5 : k ≤ 5) :
    ∃ j, SetTable.layClean.free 31 ow (SetTable.turns 31) (SetTable.bits h % (31 + 1)) (SetTable.bits h) = some j ∧ Laid 31 hs (k + 1) (ow.setIfInBounds j (some k)) := by
  cases hf : SetTable.layClean.free 31 ow (SetTable.turns 31) (SetTable.bits h % (31 + 1)) (SetTable.bits h) with
  | none =>
    exfalso
    have hall := free_none ow 31 _ _ _ hf
    simp only [Wide2, decide_eq_true_eq] at hw
    -- every start is taken by one of k
    have hsub : ∀ j ∈ seen h, ∃ i, i < k ∧ ow[j]? = some (some i) := fun j hj => by
      obtain ⟨h1, h2⟩ := List.mem_filter.mp hj
      have h1 := List.mem_range.mp h1
      obtain ⟨i, hi⟩ := (taken_iff L.size (Nat.le_of_lt_succ h1)).mp (hall j (List.contains_iff_mem.mp h2))
      exact ⟨i, L.back j i hi, hi⟩
    have key : ∀ (l : List Nat), l.Nodup → (∀ j ∈ l, ∃ i, i < k ∧ ow[j]? = some (some i)) → ∃ is : List Nat, is.length = l.length ∧ is.Nodup ∧ (∀ i ∈ is, i < k ∧ ∃ j ∈ l, ow[j]? = some (some i)) := by
      intro l
      induction l with
      | nil => intro _ _; exact ⟨[], rfl, List.nodup_nil, fun i hi => nomatch hi⟩
      | cons j l ih =>
        intro hn ha
        obtain ⟨hj, hn⟩ := List.nodup_cons.mp hn
        obtain ⟨is, e1, e2, e3⟩ := ih hn fun j' hj' => ha j' (List.mem_cons_of_mem _ hj')
        obtain ⟨i, hi, ho⟩ := ha j List.mem_cons_self
        refine ⟨i :: is, by simp [e1], List.nodup_cons.mpr ⟨fun hm => ?_, e2⟩, fun i' hi' => ?_⟩
        · obtain ⟨_, j', hj', ho'⟩ := e3 i hm
          exact hj (L.inj j j' i ho ho' ▸ hj')
        · rcases List.mem_cons.mp hi' with rfl | hi'
          · exact ⟨hi, j, List.mem_cons_self, ho⟩
          · obtain ⟨a, j', b, c⟩ := e3 i' hi'
            exact ⟨a, j', List.mem_cons_of_mem _ b, c⟩
    obtain ⟨is, e1, e2, e3⟩ := key (seen h) (List.nodup_range.filter _) hsub
    have := List.Nodup.length_le_of_subset e2 (l₂ := List.range k) fun i hi => List.mem_range.mpr (e3 i hi).1
    rw [List.length_range] at this
    exact absurd (Nat.le_trans (Nat.le_trans (Nat.le_trans hw (Nat.le_of_eq e1.symm)) this) h5) (by decide)
  | some j =>
    refine ⟨j, rfl, ?_⟩
    obtain ⟨q, a, b, c⟩ := free_some ow 31 _ _ _ j hf
    obtain ⟨hj, hnone⟩ := isNone_iff L.size b
    have hjs : j < ow.size := L.size.symm ▸ hj
    have get : ∀ j' : Nat, (ow.setIfInBounds j (some k))[j']? = if j' = j then some (some k) else ow[j']? := fun j' => by
      rw [Array.getElem?_setIfInBounds]
      by_cases e : j = j'
      · rw [if_pos e, if_pos e.symm, if_pos (e ▸ hjs)]
      · rw [if_neg e, if_neg (Ne.symm e)]
    have tk : ∀ j' : Nat, Taken ow j' → Taken (ow.setIfInBounds j (some k)) j' := fun j' ht => by
      unfold Taken at ht ⊢
      have x : ∀ (o : Owner), o.getD j' (some 0) = (o[j']?).getD (some 0) := fun o => by simp
      rw [x] at ht ⊢
      rw [get]
      by_cases e : j' = j
      · rw [if_pos e]; rfl
      · rw [if_neg e]; exact ht
    refine ⟨by rw [Array.size_setIfInBounds]; exact L.size, fun i hi => ?_, fun j' i e => ?_, fun j1 j2 i e1 e2 => ?_⟩
    · by_cases e : i = k
      · subst e
        refine ⟨j, h, q, hk, by rw [get, if_pos rfl], ?_, fun q' hq' => tk _ (c q' hq')⟩
        exact a.symm
      · obtain ⟨j', g, q1, x1, x2, x3, x4⟩ := L.at_ i (Nat.lt_of_le_of_ne (Nat.le_of_lt_succ hi) e)
        refine ⟨j', g, q1, x1, ?_, x3, fun q' hq' => tk _ (x4 q' hq')⟩
        rw [get, if_neg (fun e' => by rw [e', hnone] at x2; cases x2)]; exact x2
    · rw [get] at e
      by_cases e' : j' = j
      · rw [if_pos e'] at e; exact Nat.lt_succ_of_le (Nat.le_of_eq (Option.some.inj (Option.some.inj e)).symm)
      · rw [if_neg e'] at e; exact Nat.lt_succ_of_lt (L.back j' i e)
    · rw [get] at e1 e2
      by_cases q1 : j1 = j
      · by_cases q2 : j2 = j
        · rw [q1, q2]
        · rw [if_pos q1] at e1; rw [if_neg q2] at e2
          exact absurd (L.back _ _ e2) (by rw [← Option.some.inj (Option.some.inj e1)]; exact Nat.lt_irrefl _)
      · by_cases q2 : j2 = j
        · rw [if_neg q1] at e1; rw [if_pos q2] at e2
          exact absurd (L.back _ _ e1) (by rw [← Option.some.inj (Option.some.inj e2)]; exact Nat.lt_irrefl _)
        · rw [if_neg q1] at e1; rw [if_neg q2] at e2
          exact L.inj _ _ _ e1 e2

theorem lay_all {hs : List Int} (hw : ∀ h ∈ hs, Wide2 h = true) (h5 : hs.length ≤ 6) : ∃ ow, SetTable.layClean 31 hs.toArray = some ow ∧ Laid 31 hs hs.length ow := by
  unfold SetTable.layClean
  have base : Laid 31 hs 0 (Array.replicate (31 + 1) none) := by
    refine ⟨by simp, fun i hi => absurd hi (Nat.not_lt_zero _), fun j i e => ?_, fun j j' i e => ?_⟩
    · rw [Array.getElem?_replicate] at e; split at e <;> cases e
    · rw [Array.getElem?_replicate] at e; split at e <;> cases e
  rw [List.foldl_toArray]
  have go : ∀ (post pre : List Int) (ow : Owner), hs = pre ++ post → Laid 31 hs pre.length ow →
      ∃ ow', (List.foldl (fun (acc : Option (Owner × Nat)) h => do
        let (owner, k) ← acc
        let j ← SetTable.layClean.free 31 owner (SetTable.turns 31) (SetTable.bits h % (31 + 1)) (SetTable.bits h)
        pure (owner.setIfInBounds j (some k), k + 1)) (some (ow, pre.length)) post) = some (ow', hs.length) ∧ Laid 31 hs hs.length ow' := by
    intro post
    induction post with
    | nil => intro pre ow e L; rw [List.append_nil] at e; subst e; exact ⟨ow, rfl, L⟩
    | cons h post ih =>
      intro pre ow e L
      have hk : hs[pre.length]? = some h := by rw [e]; simp
      have hlen : pre.length + 1 ≤ hs.length := by rw [e]; simp
      obtain ⟨j, hj, L'⟩ := L.step hk (hw h (by rw [e]; simp)) (Nat.le_of_succ_le_succ (Nat.le_trans hlen h5))
      rw [List.foldl_cons]
      have e2 : (do
        let (owner, k) ← some (ow, pre.length)
        let j ← SetTable.layClean.free 31 owner (SetTable.turns 31) (SetTable.bits h % (31 + 1)) (SetTable.bits h)
        pure (owner.setIfInBounds j (some k), k + 1)) = some (ow.setIfInBounds j (some pre.length), pre.length + 1) := by
        show (SetTable.layClean.free 31 ow (SetTable.turns 31) (SetTable.bits h % (31 + 1)) (SetTable.bits h) >>= fun j => pure (ow.setIfInBounds j (some pre.length), pre.length + 1)) = _
        rw [hj]; rfl
      rw [e2]
      have e3 : pre.length + 1 = (pre ++ [h]).length := by simp
      rw [e3] at L' ⊢
      exact ih (pre ++ [h]) _ (by rw [e]; simp) L'
  obtain ⟨ow, e, L⟩ := go hs [] _ rfl base
  refine ⟨ow, ?_, L⟩
  show Option.map _ (List.foldl _ (some (Array.replicate (31 + 1) none, ([] : List Int).length)) hs) = _
  rw [e]; rfl

theorem live_get (f : Nat → Option Nat) : ∀ (l : List Nat) (q j i : Nat), ((l.filterMap fun j => (f j).map fun i => (j, i))[q]? = some (j, i)) → j ∈ l ∧ f j = some i := by
  intro l q j i h
  have := List.mem_of_getElem? h
  obtain ⟨j', hj', e⟩ := List.mem_filterMap.mp this
  cases hf : f j' with
  | none => rw [hf] at e; cases e
  | some i' =>
    rw [hf] at e
    have := Option.some.inj e
    cases this
    exact ⟨hj', hf⟩
theorem live_mem (f : Nat → Option Nat) {l : List Nat} {j i : Nat} (hj : j ∈ l) (e : f j = some i) : ∃ q : Nat, (l.filterMap fun j => (f j).map fun i => (j, i))[q]? = some (j, i) :=
  List.mem_iff_getElem?.mp (List.mem_filterMap.mpr ⟨j, hj, by rw [e]; rfl⟩)
theorem live_rises (f : Nat → Option Nat) : ∀ (n : Nat), ((List.range n).filterMap fun j => (f j).map fun i => (j, i)).Pairwise fun a b => a.1 < b.1 := by
  intro n
  refine List.Pairwise.filterMap _ (fun a a' hlt b hb b' hb' => ?_) (List.pairwise_lt_range (n := n))
  cases h1 : f a with
  | none => rw [h1] at hb; cases hb
  | some i =>
    cases h2 : f a' with
    | none => rw [h2] at hb'; cases hb'
    | some i' =>
      rw [h1] at hb; rw [h2] at hb'
      cases hb; cases hb'
      exact hlt

theorem pick_get {α : Type} (l : List α) : ∀ (o : List Nat), (∀ i ∈ o, i < l.length) → (o.filterMap (l[·]?)).length = o.length ∧ ∀ q : Nat, (o.filterMap (l[·]?))[q]? = (o[q]?).bind (l[·]?) := by
  intro o
  induction o with
  | nil => intro _; exact ⟨rfl, fun q => by simp⟩
  | cons i o ih =>
    intro ha
    obtain ⟨i1, i2⟩ := ih fun i' hi' => ha i' (List.mem_cons_of_mem _ hi')
    have hi := ha i List.mem_cons_self
    have e : (i :: o).filterMap (l[·]?) = l[i] :: o.filterMap (l[·]?) := by rw [List.filterMap_cons, List.getElem?_eq_getElem hi]
    rw [e]
    refine ⟨by rw [List.length_cons, List.length_cons, i1], fun q => ?_⟩
    cases q with
    | zero => rw [List.getElem?_cons_zero, List.getElem?_cons_zero, Option.bind_some, List.getElem?_eq_getElem hi]
    | succ q => rw [List.getElem?_cons_succ, List.getElem?_cons_succ]; exact i2 q
/-- laid anew: the order is one of all the elements -/
theorem laid_tab {hs : List Int} (hw : ∀ h ∈ hs, Wide2 h = true) (h5 : hs.length ≤ 6) (fin mv : Nat) (led plain : Bool) :
    ∃ t order, SetTable.laid 31 fin mv led plain hs.toArray = some (t, order) ∧ t.led = led ∧ t.plain = plain ∧ t.mask = 31 ∧ order.toList.Nodup ∧ (∀ i, i ∈ order.toList ↔ i < hs.length) ∧ Tab t (order.toList.filterMap (hs[·]?)) := by
  obtain ⟨ow, e, L⟩ := lay_all hw h5
  unfold SetTable.laid
  rw [e]
  let f : Nat → Option Nat := fun j => ow.getD j none
  let live := (List.range (31 + 1)).filterMap fun j => (f j).map fun i => (j, i)
  refine ⟨{ mask := 31, place := (live.map (·.1)).toArray, dummies := #[], finger := fin, led := led, moves := mv, plain := plain }, (live.map (·.2)).toArray, rfl, rfl, rfl, rfl, ?_⟩
  have fo : ∀ j i : Nat, f j = some i ↔ ow[j]? = some (some i) := fun j i => by
    have x : ow.getD j none = (ow[j]?).getD none := by simp
    show ow.getD j none = some i ↔ _
    rw [x]
    cases h : ow[j]? with
    | none => simp
    | some o => simp
  have hL : live.Pairwise fun a b => a.1 < b.1 := live_rises f 32
  have hget : ∀ q j i : Nat, live[q]? = some (j, i) → j ≤ 31 ∧ ow[j]? = some (some i) := fun q j i h => by
    obtain ⟨a, b⟩ := live_get f _ q j i h
    exact ⟨Nat.le_of_lt_succ (List.mem_range.mp a), (fo j i).mp b⟩
  have hlt : ∀ j i : Nat, ow[j]? = some (some i) → j < 32 := fun j i h => by
    exact (L.size ▸ (Array.getElem?_eq_some_iff.mp h).1 : j < 31 + 1)
  have hmem : ∀ j i : Nat, ow[j]? = some (some i) → ∃ q : Nat, live[q]? = some (j, i) := fun j i h => live_mem f (List.mem_range.mpr (hlt j i h)) ((fo j i).mpr h)
  have hnd : (live.map (·.2)).Nodup := by
    refine List.pairwise_map.mpr (List.Pairwise.imp_of_mem (fun {a b} ha hb hab hne => ?_) hL)
    obtain ⟨qa, ea⟩ := List.mem_iff_getElem?.mp ha
    obtain ⟨qb, eb⟩ := List.mem_iff_getElem?.mp hb
    have h1 := (hget qa a.1 a.2 ea).2
    have h2 := (hget qb b.1 b.2 eb).2
    rw [← hne] at h2
    exact Nat.ne_of_lt hab (L.inj _ _ _ h1 h2)
  have hin : ∀ i, i ∈ live.map (·.2) ↔ i < hs.length := fun i => by
    constructor
    · intro h
      obtain ⟨p, hp, rfl⟩ := List.mem_map.mp h
      obtain ⟨q, eq⟩ := List.mem_iff_getElem?.mp hp
      exact L.back _ _ (hget q p.1 p.2 eq).2
    · intro h
      obtain ⟨j, g, q, _, x, _, _⟩ := L.at_ i h
      obtain ⟨q', eq⟩ := hmem j i x
      exact List.mem_map.mpr ⟨(j, i), List.mem_of_getElem? eq, rfl⟩
  have eo : (live.map (·.2)).toArray.toList = live.map (·.2) := by simp
  rw [eo]
  refine ⟨hnd, hin, ?_⟩
  obtain ⟨p1, p2⟩ := pick_get hs (live.map (·.2)) fun i hi => (hin i).mp hi
  have pl : ∀ q : Nat, (live.map (·.1)).toArray[q]? = (live[q]?).map (·.1) := fun q => by simp
  have inPlace : ∀ j, Taken ow j → j ≤ 31 → ∃ q : Nat, (live.map (·.1)).toArray[q]? = some j := fun j ht hj => by
    obtain ⟨i, hi⟩ := (taken_iff L.size hj).mp ht
    obtain ⟨q, eq⟩ := hmem j i hi
    exact ⟨q, by rw [pl, eq]; rfl⟩
  refine ⟨rfl, ?_, ?_, ?_, .inr rfl, ?_⟩
  · rw [p1]; simp
  · intro i j hij hj
    have hj' : j < live.length := by simpa using hj
    have hi' : i < live.length := Nat.lt_trans hij hj'
    have ei : (live.map (·.1)).toArray.getD i 0 = (live[i]'hi').1 := by simp [hi']
    have ej : (live.map (·.1)).toArray.getD j 0 = (live[j]'hj').1 := by simp [hj']
    show (live.map (·.1)).toArray.getD i 0 < (live.map (·.1)).toArray.getD j 0
    rw [ei, ej]
    exact List.pairwise_iff_getElem.mp hL i j hi' hj' hij
  · intro q j h
    have h : (live.map (·.1)).toArray[q]? = some j := h
    rw [pl] at h
    cases hq : live[q]? with
    | none => rw [hq] at h; cases h
    | some p => rw [hq] at h; cases h; exact (hget q p.1 p.2 hq).1
  · intro q h e
    rw [p2] at e
    show ∃ k, (live.map (·.1)).toArray[q]? = some (path 31 h k) ∧ ∀ k', k' < k → ∃ i' : Nat, (live.map (·.1)).toArray[i']? = some (path 31 h k')
    cases hq : live[q]? with
    | none => rw [List.getElem?_map, hq] at e; cases e
    | some p =>
      rw [List.getElem?_map, hq] at e
      have e : hs[p.2]? = some h := e
      have hp := (hget q p.1 p.2 hq).2
      obtain ⟨j, g, k, a1, a2, a3, a4⟩ := L.at_ p.2 (L.back _ _ hp)
      rw [e] at a1
      cases a1
      have : p.1 = j := L.inj _ _ _ hp a2
      refine ⟨k, by rw [pl, hq]; show some p.1 = _; rw [this, a3], fun k' hk' => ?_⟩
      exact inPlace _ (a4 k' hk') (path_low 31 h k')
end

section
open PySem PySem.W PyProof.Rows
/-! the keys: tuples of one or two of the ints 0, 1, 2 -/
noncomputable def rowHash (ks : List Int) : Int := reduceHash (Builtin.Tuple.tupleHashOf (ks.map hashInt))
noncomputable def keys12 : List (List Int) := [[0],[1],[2],[0,0],[0,1],[0,2],[1,0],[1,1],[1,2],[2,0],[2,1],[2,2]]
theorem keys_wide : (keys12.all fun r => Wide (rowHash r) && Wide2 (rowHash r)) = true := by decide +kernel
theorem keys_apart : (keys12.all fun r => keys12.all fun r' => !(rowHash r == rowHash r') || (r == r')) = true := by decide +kernel
theorem wide_of {k : List Int} (h : k ∈ keys12) : Wide (rowHash k) = true ∧ Wide2 (rowHash k) = true := by
  have := List.all_eq_true.mp keys_wide k h
  exact Bool.and_eq_true_iff.mp this
theorem hash_inj {k k' : List Int} (h : k ∈ keys12) (h' : k' ∈ keys12) (e : rowHash k = rowHash k') : k = k' := by
  have := List.all_eq_true.mp (List.all_eq_true.mp keys_apart k h) k' h'
  simp [e] at this
  exact this
theorem keys_len {l : List (List Int)} (hn : l.Nodup) (h : ∀ k ∈ l, k ∈ keys12) {n : Nat} (h12 : n = 1 ∨ n = 2) (he : ∀ k ∈ l, k.length = n) : l.length ≤ 9 := by
  have h1 := List.Nodup.length_le_of_subset hn (l₂ := keys12.filter fun k => k.length == n) fun k hk => List.mem_filter.mpr ⟨h k hk, by simp [he k hk]⟩
  have h2 : (keys12.filter fun k => k.length == n).length ≤ 9 := by rcases h12 with rfl | rfl <;> decide
  omega

section
variable {prog : Program} {w : World} {A : Around} {E : Value → Shared → Prop} {s : Shared}
noncomputable abbrev KeyAt (prog : Program) (w : World) (h : Heap) (k : List Int) (a : Addr) : Prop := IsTupleKey (intKind prog w) h k a
theorem key_hash (k : List Int) : tupleKeyHash (intKind prog w) k = rowHash k := rfl

theorem int_item {k : List Int} {vs : List Value} (h : ItemsAre (intKind prog w) k vs) : ∀ v ∈ vs, ∃ n t, v = .int n t := by
  induction h with
  | nil => intro v hv; nomatch hv
  | cons h1 _ ih =>
    intro v hv
    rcases List.mem_cons.mp hv with rfl | hv
    · obtain ⟨t, rfl⟩ := Value.isInt_shape h1; exact ⟨_, t, rfl⟩
    · exact ih v hv

theorem hashByValue_key {k : List Int} {a : Addr} {n : Nat} {Q : Bool → Shared → Prop} (hk : KeyAt prog w s.heap k a) (h : Q true s) : wpAny (model prog w) A (hashByValue (n + 1) (.ref a)) Q E s := by
  have hT := hk.typeIs
  obtain ⟨o, items, c, ho, _, hd, hi⟩ := hk
  unfold hashByValue
  refine wpAny_bind (wpAny_specialOf hT F.slot_tuple_hash.lookup ?_)
  dsimp only
  refine wpAny_bind (wpAny_seqItems ho hd ?_)
  refine wpAny_bind ?_
  show wpAny _ _ (forIn items _ _) _ _ s
  rw [← Array.forIn_toList]
  refine wpAny_forIn_list _ (fun rest r s' => r.1 = none ∧ s' = s ∧ ∀ v ∈ rest, ∃ n t, v = Value.int n t) _ ?_ ?_ _ _ ⟨rfl, rfl, int_item hi⟩
  · rintro v rest r s' ⟨hr, rfl, hall⟩
    obtain ⟨m, t, rfl⟩ := hall v List.mem_cons_self
    have e : hashByValue n (.int m t) = pure true := by cases n <;> rfl
    rw [e]
    refine wpAny_bind (wpAny_pure ?_)
    simp only [Bool.not_true, Bool.false_eq_true, if_false]
    exact wpAny_pure ⟨rfl, rfl, fun u hu' => hall u (List.mem_cons_of_mem _ hu')⟩
  · rintro ⟨r1, r2⟩ s' ⟨hr, rfl, _⟩
    simp only at hr
    subst hr
    exact wpAny_pure h

theorem ofAClass_key {k : List Int} {a : Addr} {n : Nat} {Q : Bool → Shared → Prop} (hk : KeyAt prog w s.heap k a) (h : Q false s) : wpAny (model prog w) A (ofAClassStatement (n + 1) (.ref a)) Q E s := by
  have hT := hk.typeIs
  obtain ⟨o, items, c, ho, _, hd, hi⟩ := hk
  unfold ofAClassStatement
  refine wpAny_bind (wpAny_typeOf hT ?_)
  dsimp only
  rw [if_pos (by decide)]
  refine wpAny_bind (wpAny_pure ?_)
  simp only [Bool.not_true, Bool.false_eq_true, if_false]
  refine wpAny_bind (wpAny_seqItems ho hd ?_)
  dsimp only
  refine wpAny_bind ?_
  show wpAny _ _ (forIn items _ _) _ _ s
  rw [← Array.forIn_toList]
  refine wpAny_forIn_list _ (fun rest r s' => r.1 = none ∧ s' = s ∧ ∀ v ∈ rest, ∃ n t, v = Value.int n t) _ ?_ ?_ _ _ ⟨rfl, rfl, int_item hi⟩
  · rintro v rest r s' ⟨hr, rfl, hall⟩
    obtain ⟨m, t, rfl⟩ := hall v List.mem_cons_self
    have e : ofAClassStatement n (.int m t) = pure false := by cases n <;> rfl
    rw [e]
    refine wpAny_bind (wpAny_pure ?_)
    simp only [Bool.false_eq_true, if_false]
    exact wpAny_pure ⟨rfl, rfl, fun u hu' => hall u (List.mem_cons_of_mem _ hu')⟩
  · rintro ⟨r1, r2⟩ s' ⟨hr, rfl, _⟩
    simp only at hr
    subst hr
    exact wpAny_pure h

theorem unseen_keys {k : List Int} {a : Addr} {ys : List Value} {Q : Bool → Shared → Prop} (hk : KeyAt prog w s.heap k a) (hy : ∀ y ∈ ys, ∃ b k', y = .ref b ∧ KeyAt prog w s.heap k' b) (h : Q false s) :
    wpAny (model prog w) A (searchCouldBeSeen (.ref a) ys) Q E s := by
  unfold searchCouldBeSeen
  refine wpAny_bind ?_
  refine wpAny_forIn_list _ (fun rest r s' => r.1 = none ∧ s' = s ∧ ∀ y ∈ rest, ∃ b k', y = .ref b ∧ KeyAt prog w s.heap k' b) _ ?_ ?_ _ _ ⟨rfl, rfl, hy⟩
  · rintro v rest r s' ⟨hr, rfl, hall⟩
    obtain ⟨b, k', rfl, hb⟩ := hall v List.mem_cons_self
    dsimp only
    split
    · exact wpAny_pure ⟨rfl, rfl, fun u hu' => hall u (List.mem_cons_of_mem _ hu')⟩
    · refine wpAny_bind (wpAny_eqIsQuiet_tuple hk ?_)
      simp only [Bool.not_true, Bool.false_eq_true, if_false]
      refine wpAny_bind (wpAny_eqIsQuiet_tuple hb ?_)
      simp only [Bool.not_true, Bool.false_eq_true, if_false]
      refine wpAny_bind (ofAClass_key hk ?_)
      simp only [Bool.false_eq_true, if_false]
      refine wpAny_bind (ofAClass_key hb ?_)
      simp only [Bool.false_eq_true, if_false]
      exact wpAny_pure ⟨rfl, rfl, fun u hu' => hall u (List.mem_cons_of_mem _ hu')⟩
  · rintro ⟨r1, r2⟩ s' ⟨hr, rfl, _⟩
    simp only at hr
    subst hr
    exact wpAny_pure h

inductive ElemGet (prog : Program) (w : World) (h : Heap) (ks : List (List Int)) (i : Nat) (e : Int × Value) : Prop
  | of (k : List Int) (xa : Addr) (z1 : ks[i]? = some k) (z2 : e = (rowHash k, .ref xa)) (z3 : KeyAt prog w h k xa) : ElemGet prog w h ks i e
/-- a set of such keys, as the heap bears it -/
structure Elems (prog : Program) (w : World) (h : Heap) (es : Array (Int × Value)) (t : SetTable) (ks : List (List Int)) : Prop where
  tab : Tab t (es.toList.map (·.1))
  small : t.mask = 7 → es.size ≤ 4
  plain : t.plain = true
  led : t.led = !w.params.followText "set-order"
  len : es.size = ks.length
  are : ∀ (i : Nat) (e : Int × Value), es[i]? = some e → ElemGet prog w h ks i e
  nodup : ks.Nodup
  in12 : ∀ k ∈ ks, k ∈ keys12
inductive SetTup (prog : Program) (w : World) (h : Heap) (a : Addr) (ks : List (List Int)) : Prop
  | of  (es) (ep) (t) (z1 : h.get? a = some { cls := .type "set", dict := none, data := .set es ep t, slots := #[] }) (z2 : Elems prog w h es t ks) : SetTup prog w h a ks

theorem Elems.fits {h : Heap} {es : Array (Int × Value)} {t : SetTable} {ks : List (List Int)} (X : Elems prog w h es t ks) (hl : es.size ≤ t.mask) : t.fits es.size = true := by
  have h1 := X.tab.size
  have h2 := X.tab.nodum
  have h3 : (es.toList.map (·.1)).length = es.size := by simp
  simp only [SetTable.fits, SetTable.fill, Bool.and_eq_true, beq_iff_eq, decide_eq_true_eq, h2]
  simp; omega

inductive HashGet (prog : Program) (w : World) (h : Heap) (es : Array (Int × Value)) (ks : List (List Int)) (i : Nat) (g : Int) : Prop
  | of (k : List Int) (xa : Addr) (z1 : ks[i]? = some k) (z2 : es[i]? = some (rowHash k, .ref xa)) (z3 : g = rowHash k) (z4 : KeyAt prog w h k xa) : HashGet prog w h es ks i g
theorem Elems.hash_at {h : Heap} {es : Array (Int × Value)} {t : SetTable} {ks : List (List Int)} (X : Elems prog w h es t ks) {i : Nat} {g : Int} (e : (es.toList.map (·.1))[i]? = some g) : HashGet prog w h es ks i g := by
  rw [List.getElem?_map, Array.getElem?_toList] at e
  cases q : es[i]? with
  | none => rw [q] at e; cases e
  | some p =>
    rw [q] at e
    obtain ⟨k, xa, a, b, c⟩ := X.are i p q
    refine ⟨k, xa, a, by rw [q, b], ?_, c⟩
    have e := Option.some.inj e
    rw [← e, b]
theorem Elems.mem_hash {h : Heap} {es : Array (Int × Value)} {t : SetTable} {ks : List (List Int)} (X : Elems prog w h es t ks) {k : List Int} (hk : k ∈ keys12) : rowHash k ∈ es.toList.map (·.1) ↔ k ∈ ks := by
  constructor
  · intro hm
    obtain ⟨i, e⟩ := List.mem_iff_getElem?.mp hm
    obtain ⟨k', _, a, _, c, _⟩ := X.hash_at e
    have := List.mem_of_getElem? a
    rwa [hash_inj hk (X.in12 _ this) c]
  · intro hm
    obtain ⟨i, e⟩ := List.mem_iff_getElem?.mp hm
    have hi : i < es.size := by rw [X.len]; exact (List.getElem?_eq_some_iff.mp e).1
    obtain ⟨k', xa, a, b, _⟩ := X.are i es[i] (by simp [hi])
    rw [e] at a
    cases a
    refine List.mem_map.mpr ⟨es[i], by simp, ?_⟩
    rw [b]

theorem odd_mask {t : SetTable} {hs : List Int} (T : Tab t hs) : t.gaveWay = false := by
  unfold SetTable.gaveWay
  rcases T.mask with e | e <;> rw [e] <;> rfl

theorem setSearch_key {a xa : Addr} {k : List Int} {es : Array (Int × Value)} {ep : Nat} {t : SetTable} {ks : List (List Int)} {Q : SetFound → Shared → Prop} (hu : A.units < cLine)
    (ho : s.heap.get? a = some { cls := .type "set", dict := none, data := .set es ep t, slots := #[] }) (X : Elems prog w s.heap es t ks) (hk : KeyAt prog w s.heap k xa) (h12 : k ∈ keys12) (hl : es.size < needs t.mask)
    (hin : k ∈ ks → Q (.there none) s)
    (hout : k ∉ ks → ∀ q, (∀ i : Nat, t.place[i]? ≠ some (path t.mask (rowHash k) q)) → (∀ q', q' < q → ∃ i : Nat, t.place[i]? = some (path t.mask (rowHash k) q')) → Q (.free (path t.mask (rowHash k) q) false) s) :
    wpAny (model prog w) A (setSearch a (.ref xa) (rowHash k) true) Q E s := by
  have hnm : needs t.mask ≤ t.mask + 1 := by rcases X.tab.mask with e | e <;> rw [e] <;> decide
  have hfit := X.fits (by omega)
  unfold setSearch
  show wpAny _ _ (setSearchFrom a (.ref xa) (rowHash k) true (99999 + 1) none) Q E s
  show wpAny _ _ (setState a >>= _) _ _ _
  refine wpAny_bind (wpAny_setState_of ho rfl hfit ?_)
  dsimp only
  rw [odd_mask X.tab]
  simp only [Bool.false_eq_true, if_false]
  have hlen : (es.toList.map (·.1)).length < needs t.mask := by simpa using hl
  have hw := (wide_of h12).1
  have hP := fun f => probe_end X.tab hw hlen f
  have hNF := fun (f : Nat → Int) hA (j : Nat) (d : Option Nat) (hm : rowHash k ∈ es.toList.map (·.1)) => not_free (j := j) (d := d) X.tab hm f hA
  simp only [Option.getD_none]
  generalize hfn : (PySem.SetTable.probe t _ (rowHash k) (t.probeStart (rowHash k))) = r
  have hPr : ProbeEnd t (fun i => (es[i]?.map (·.1)).getD 0) (rowHash k) (start t.mask (rowHash k)) r := by
    rw [← hfn]; exact hP _
  have hA : ∀ (i : Nat) (g : Int), (es.toList.map (·.1))[i]? = some g → (fun i : Nat => (es[i]?.map (·.1)).getD 0) i = g := fun i g e => by
    rw [List.getElem?_map, Array.getElem?_toList] at e
    show (es[i]?.map (·.1)).getD 0 = g
    rw [e]; rfl
  cases hPr with
  | free q h1 h2 =>
    refine wpAny_pure (hout (fun hm => ?_) q h1 fun q' hq' => ?_)
    · exact hNF _ hA _ _ ((X.mem_hash h12).mpr hm) (.free q h1 h2)
    · obtain ⟨i, e, _⟩ := h2 q' hq'
      exact ⟨i, e⟩
  | hit q i next h1 h2 =>
    have hi : i < es.size := by
      have a1 := (getD_some.mp h1).1
      have a2 := X.tab.size
      simp at a2
      omega
    obtain ⟨k', ya, b1, b2, b3⟩ := X.are i es[i] (by simp [hi])
    have h2' : es[i].1 = rowHash k := by
      have : (es[i]?.map (·.1)).getD 0 = rowHash k := h2
      simpa [hi] using this
    have hk' : k' ∈ ks := List.mem_of_getElem? b1
    have hke : k' = k := hash_inj (X.in12 _ hk') h12 (by rw [← h2', b2])
    subst hke
    have after : wpAny (model prog w) A (do
        let some (_, y) := es[i]? | unsupported "internal:set-entry"
        let equal ← holding [y] (eqBool y (.ref xa))
        let (es', _, t') ← setState a
        if true && equal then return SetFound.there none
        let some same := t'.sameMemory t.moves t.mask | unsupported "set.changed-during-lookup:is-the-new-block-at-the-old-address"
        let still ← match (if same then t'.slot (steps t.mask q (start t.mask (rowHash k'))).j else .empty) with
          | .live i' => match es'[i']? with
            | some (_, y') => do pure (if ← isSame y' y then some i' else none)
            | none => pure none
          | _ => pure none
        match still with
        | none => rule "set.search.anew"; setSearchFrom a (.ref xa) (rowHash k') true 99999 none
        | some i' => if equal then return .there (some i') else setSearchFrom a (.ref xa) (rowHash k') true 99999 (some next)) Q E s := by
      rw [Array.getElem?_eq_getElem hi, b2]
      dsimp only
      refine wpAny_bind (wpAny_holding (wpAny_eqBool_tuple hu b3 hk ?_))
      refine wpAny_bind (wpAny_setState_of ho rfl hfit ?_)
      simp only [decide_true, Bool.and_self, if_true]
      exact wpAny_pure (hin hk')
    dsimp only
    by_cases hled : t.led = true
    · rw [hled]
      simp only [Bool.not_true, Bool.false_eq_true, if_false]
      exact after
    · rw [Bool.eq_false_iff.mpr hled]
      simp only [Bool.not_false, if_true]
      refine wpAny_bind (unseen_keys hk (fun y hy => ?_) ?_)
      · obtain ⟨e, he, rfl⟩ := List.mem_map.mp hy
        have he' := (Array.mem_filter.mp (Array.mem_toList_iff.mp he)).1
        obtain ⟨i', hi'⟩ := Array.mem_iff_getElem?.mp he'
        obtain ⟨k2, y2, _, c2, c3⟩ := X.are i' e hi'
        exact ⟨y2, k2, by rw [c2], c3⟩
      · simp only [Bool.false_eq_true, if_false]
        exact after

theorem key_keeps {h h' : Heap} {a xa : Addr} {k : List Int} {es : Array (Int × Value)} {ep : Nat} {t : SetTable} (hk : KeyAt prog w h k xa)
    (ho : h.get? a = some { cls := .type "set", dict := none, data := .set es ep t, slots := #[] }) (hs : Heap.SameBut a h h') : KeyAt prog w h' k xa := by
  obtain ⟨o, items, n, e, c, d, r⟩ := hk
  have hne : xa ≠ a := fun q => by
    rw [q, ho] at e
    have e := Option.some.inj e
    rw [← e] at d
    cases d
  exact ⟨o, items, n, (hs.2 xa hne).trans e, c, d, r⟩

noncomputable def insK (ks : List (List Int)) (p : Nat) (k : List Int) : List (List Int) := (SetTable.insertAt ks.toArray p k).toList
theorem insK_get (ks : List (List Int)) (p : Nat) (k : List Int) (hp : p ≤ ks.length) (i : Nat) : (insK ks p k)[i]? = if i < p then ks[i]? else if i = p then some k else ks[i - 1]? := by
  unfold insK
  rw [Array.getElem?_toList, insert_get _ _ _ (by simpa using hp)]
  simp
theorem insK_perm (ks : List (List Int)) (p : Nat) (k : List Int) : (insK ks p k).Perm (k :: ks) := by
  have := SetTable.insertAt_perm ks.toArray p k
  refine this.trans ?_
  simp only [Array.toList_push]
  exact List.perm_append_singleton k ks
theorem ins_hashes (es : Array (Int × Value)) (p : Nat) (g : Int) (x : Value) (hp : p ≤ es.size) : (SetTable.insertAt es p (g, x)).toList.map (·.1) = insL (es.toList.map (·.1)) p g := by
  apply List.ext_getElem?
  intro i
  rw [insL_get _ _ _ (by simpa using hp), List.getElem?_map, Array.getElem?_toList, insert_get _ _ _ hp, List.getElem?_map, List.getElem?_map, Array.getElem?_toList, Array.getElem?_toList]
  by_cases h1 : i < p
  · rw [if_pos h1, if_pos h1]
  · rw [if_neg h1, if_neg h1]
    by_cases h2 : i = p
    · rw [if_pos h2, if_pos h2]; rfl
    · rw [if_neg h2, if_neg h2]

/-- one more element; the table may be too full -/
inductive PutMade (prog : Program) (w : World) (h' : Heap) (xa : Addr) (k : List Int) (es : Array (Int × Value)) (t : SetTable) (ks : List (List Int)) (t1 : SetTable) (p : Nat) : Prop
  | of (z1 : p ≤ es.size) (z2 : t1.mask = t.mask) (z3 : ((t.mask = 7 → es.size + 1 ≤ 4) → Elems prog w h' (SetTable.insertAt es p (rowHash k, .ref xa)) t1 (insK ks p k))) (z4 : (Tab t1 ((SetTable.insertAt es p (rowHash k, .ref xa)).toList.map (·.1)))) (z5 : (∀ (i : Nat) (e : Int × Value), (SetTable.insertAt es p (rowHash k, .ref xa))[i]? = some e → ElemGet prog w h' (insK ks p k) i e)) (z6 : t1.plain = true) (z7 : t1.led = !w.params.followText "set-order") (z8 : (insK ks p k).Nodup) (z9 : (∀ k' ∈ insK ks p k, k' ∈ keys12)) (z10 : (insK ks p k).length = es.size + 1) : PutMade prog w h' xa k es t ks t1 p
theorem Elems.put {h h' : Heap} {a xa : Addr} {k : List Int} {es : Array (Int × Value)} {ep : Nat} {t : SetTable} {ks : List (List Int)} {q : Nat} (X : Elems prog w h es t ks)
    (ho : h.get? a = some { cls := .type "set", dict := none, data := .set es ep t, slots := #[] }) (hs : Heap.SameBut a h h') (hk : KeyAt prog w h k xa) (h12 : k ∈ keys12) (hnew : k ∉ ks)
    (hno : ∀ i : Nat, t.place[i]? ≠ some (path t.mask (rowHash k) q)) (hocc : ∀ q', q' < q → ∃ i : Nat, t.place[i]? = some (path t.mask (rowHash k) q'))
    {t1 : SetTable} {p : Nat} (e1 : (t.put (path t.mask (rowHash k) q)).1 = t1) (e2 : (t.put (path t.mask (rowHash k) q)).2 = p) :
    PutMade prog w h' xa k es t ks t1 p := by
  obtain ⟨hp, T1⟩ := X.tab.put hno (path_low _ _ _) hocc
  rw [e1, e2] at T1
  rw [e2] at hp
  have hpe : p ≤ es.size := by simpa using hp
  have hpk : p ≤ ks.length := by rw [← X.len]; exact hpe
  rw [← ins_hashes es p (rowHash k) (.ref xa) hpe] at T1
  have hm1 : t1.mask = t.mask := by rw [← e1]; rfl
  have hp1 : t1.plain = true := by rw [← e1]; exact X.plain
  have hl1 : t1.led = !w.params.followText "set-order" := by rw [← e1]; exact X.led
  have hare : ∀ (i : Nat) (e : Int × Value), (SetTable.insertAt es p (rowHash k, .ref xa))[i]? = some e → ElemGet prog w h' (insK ks p k) i e := fun i e he => by
    have hg := insK_get ks p k hpk i
    rw [insert_get _ _ _ hpe] at he
    by_cases h1 : i < p
    · rw [if_pos h1] at he hg
      obtain ⟨k', ya, a1, a2, a3⟩ := X.are i e he
      exact ⟨k', ya, hg.trans a1, a2, key_keeps a3 ho hs⟩
    · rw [if_neg h1] at he hg
      by_cases h2 : i = p
      · rw [if_pos h2] at he hg
        exact ⟨k, xa, hg, (Option.some.inj he).symm, key_keeps hk ho hs⟩
      · rw [if_neg h2] at he hg
        obtain ⟨k', ya, a1, a2, a3⟩ := X.are _ e he
        exact ⟨k', ya, hg.trans a1, a2, key_keeps a3 ho hs⟩
  have hnd : (insK ks p k).Nodup := (insK_perm ks p k).nodup_iff.mpr (List.nodup_cons.mpr ⟨hnew, X.nodup⟩)
  have h12' : ∀ k' ∈ insK ks p k, k' ∈ keys12 := fun k' hk' => by
    rcases List.mem_cons.mp ((insK_perm ks p k).mem_iff.mp hk') with rfl | hm
    · exact h12
    · exact X.in12 k' hm
  have hlen : (insK ks p k).length = es.size + 1 := by rw [(insK_perm ks p k).length_eq, List.length_cons, X.len]
  have hsz : (SetTable.insertAt es p (rowHash k, Value.ref xa)).size = es.size + 1 := insert_size _ _ _ hpe
  exact ⟨hpe, hm1, fun hs4 => ⟨T1, fun hm => by rw [hsz]; exact hs4 (hm1 ▸ hm), hp1, hl1, by rw [hsz, hlen], hare, hnd, h12'⟩, T1, hare, hp1, hl1, hnd, h12', hlen⟩

theorem pick_perm {α : Type} (l : List α) {o : List Nat} (hn : o.Nodup) (hm : ∀ i, i ∈ o ↔ i < l.length) : (o.filterMap (l[·]?)).Perm l := by
  have hp : o.Perm (List.range l.length) := (List.perm_ext_iff_of_nodup hn List.nodup_range).mpr fun i => (hm i).trans List.mem_range.symm
  have := hp.filterMap (l[·]?)
  rwa [List.filterMap_getElem?_range_length] at this

theorem setRelay_eq (a : Addr) (wanted : Nat) : setRelay a wanted = (do
    let (es, _, t) ← setState a
    if SetTable.sizeAbove wanted > sizeLine then unsupported "set:memory"
    let (es, t) ← (do
      let some (t, order) := t.relaid (es.map (·.1)) wanted | unsupported "internal:set-table-without-room"
      let es' := order.filterMap (es[·]?)
      if es'.size != es.size then unsupported "internal:set-table-lost-an-element"
      pure (es', t))
    storeSet a es t) := rfl

theorem relay_key {a : Addr} {es : Array (Int × Value)} {ep : Nat} {t : SetTable} {ks : List (List Int)} {Q : Unit → Shared → Prop}
    (ho : s.heap.get? a = some { cls := .type "set", dict := none, data := .set es ep t, slots := #[] }) (T : Tab t (es.toList.map (·.1))) (hm7 : t.mask = 7) (h5 : es.size = 5)
    (hare : ∀ (i : Nat) (e : Int × Value), es[i]? = some e → ElemGet prog w s.heap ks i e) (hp1 : t.plain = true) (hl1 : t.led = !w.params.followText "set-order")
    (hnd : ks.Nodup) (h12 : ∀ k' ∈ ks, k' ∈ keys12) (hlen : ks.length = es.size)
    (h : ∀ h' ks', Heap.SameBut a s.heap h' → SetTup prog w h' a ks' → ks'.Perm ks → Q () { s with heap := h' }) :
    wpAny (model prog w) A (setRelay a (SetTable.grown 5)) Q E s := by
  have hfit : t.fits es.size = true := by
    have h1 := T.size
    simp only [SetTable.fits, SetTable.fill, Bool.and_eq_true, beq_iff_eq, decide_eq_true_eq, T.nodum]
    simp at h1 ⊢; omega
  rw [setRelay_eq]
  refine wpAny_bind (wpAny_setState_of ho rfl hfit ?_)
  dsimp only
  have hsa : SetTable.sizeAbove (SetTable.grown 5) = 32 := by decide
  rw [hsa, if_neg (by rw [sizeLine_eq]; decide)]
  have hw : ∀ g ∈ es.toList.map (·.1), Wide2 g = true := fun g hg => by
    obtain ⟨e, he, rfl⟩ := List.mem_map.mp hg
    obtain ⟨i, hi⟩ := List.mem_iff_getElem?.mp he
    rw [Array.getElem?_toList] at hi
    obtain ⟨k', ya, a1, a2, _⟩ := hare i e hi
    rw [a2]
    exact (wide_of (h12 k' (List.mem_of_getElem? a1))).2
  obtain ⟨t', order, e0, b1, b2, b3, b4, b5, b6⟩ := laid_tab (hs := es.toList.map (·.1)) hw (by simp; omega) t.finger (t.movedTo 31) t.led t.plain
  have e1 : t.relaid (es.map (·.1)) (SetTable.grown 5) = some (t', order) := by
    have hh : (es.toList.map (·.1)).toArray = es.map (·.1) := by rw [← Array.toList_map, Array.toArray_toList]
    rw [hh] at e0
    unfold SetTable.relaid
    rw [hsa]
    exact e0
  rw [e1]
  dsimp only
  have b5' : ∀ i, i ∈ order.toList ↔ i < es.toList.length := fun i => (b5 i).trans (by simp)
  obtain ⟨pl, pg⟩ := pick_get es.toList order.toList fun i hi => (b5' i).mp hi
  have eL : (order.filterMap (es[·]?)).toList = order.toList.filterMap (es.toList[·]?) := by
    rw [Array.toList_filterMap]
    congr 1
    funext i
    rw [Array.getElem?_toList]
  have hol : order.toList.length = es.size := by
    have := (pick_perm es.toList b4 b5').length_eq
    rw [pl] at this
    simpa using this
  have hsz : (order.filterMap (es[·]?)).size = es.size := by
    rw [← Array.length_toList, eL, pl, hol]
  rw [if_neg (by simp [hsz])]
  refine wpAny_bind (wpAny_bind (wpAny_pure (wpAny_pure ?_)))
  dsimp only
  refine wpAny_storeSet_of ho rfl ?_ (by rw [hsz, h5, sizeLine_eq]; decide)
  have hsb := Heap.SameBut.update s.heap a (Obj.putSet (order.filterMap (es[·]?)) t')
  have hget : (s.heap.update a (Obj.putSet (order.filterMap (es[·]?)) t')).get? a = some { cls := .type "set", dict := none, data := .set (order.filterMap (es[·]?)) (ep + 1) t', slots := #[] } :=
    Heap.get?_update_self (Obj.putSet (order.filterMap (es[·]?)) t') ho rfl
  have bk : ∀ i, i ∈ order.toList ↔ i < ks.length := fun i => (b5' i).trans (by rw [hlen]; simp)
  obtain ⟨kl, kg⟩ := pick_get ks order.toList fun i hi => (bk i).mp hi
  have kp := pick_perm ks b4 bk
  refine h _ (order.toList.filterMap (ks[·]?)) hsb ⟨_, _, _, hget, ?_, fun hm => absurd (b3.symm.trans hm) (by decide), b2.trans hp1, b1.trans hl1, by rw [hsz, kl, hol], ?_, kp.nodup_iff.mpr hnd, fun k hk => h12 k (kp.mem_iff.mp hk)⟩ kp
  · have : (order.filterMap (es[·]?)).toList.map (·.1) = order.toList.filterMap ((es.toList.map (·.1))[·]?) := by
      rw [eL, List.map_filterMap]
      congr 1
      funext i
      rw [List.getElem?_map]
    rw [this]
    exact b6
  · intro i e he
    rw [← Array.getElem?_toList, eL, pg] at he
    have kgi := kg i
    cases hq : order.toList[i]? with
    | none => rw [hq] at he; cases he
    | some j =>
      rw [hq] at he kgi
      have he : es.toList[j]? = some e := he
      rw [Array.getElem?_toList] at he
      obtain ⟨k', ya, a1, a2, a3⟩ := hare j e he
      exact ⟨k', ya, kgi.trans a1, a2, key_keeps a3 ho hsb⟩

theorem setAdd_key {a xa : Addr} {k : List Int} {ks : List (List Int)} {Q : Bool → Shared → Prop} (hu : A.units < cLine) (hS : SetTup prog w s.heap a ks) (hk : KeyAt prog w s.heap k xa) (h12 : k ∈ keys12) (hl : ks.length ≤ 9)
    (h : ∀ h' ks' tk, Heap.SameBut a s.heap h' → SetTup prog w h' a ks' → (k ∈ ks → ks' = ks) → (k ∉ ks → ks'.Perm (k :: ks)) → Q (decide (k ∉ ks)) { s with heap := h', toks := tk }) :
    wpAny (model prog w) A (setAdd a (.ref xa)) Q E s := by
  unfold setAdd
  refine wpAny_holding (wpAny_bind (wpAny_pyHash_tuple hu hk ?_))
  rw [key_hash]
  unfold setAddHashed
  refine wpAny_holding ?_
  show wpAny _ _ (setAddHashedIn a (.ref xa) (rowHash k) (99999 + 1)) Q E _
  unfold setAddHashedIn
  obtain ⟨es, ep, t, ho, X⟩ := id hS
  have hneeds : es.size < needs t.mask ∧ es.size ≤ t.mask := by
    have hln := X.len
    rcases X.tab.mask with e | e
    · have h4 := X.small e
      have hn : needs t.mask = 6 := by rw [e]; rfl
      omega
    · have hn : needs t.mask = 11 := by rw [e]; rfl
      omega
  have hfit := X.fits hneeds.2
  refine wpAny_bind (wpAny_setState_of ho rfl hfit ?_)
  dsimp only
  have hbs : byScan (.ref xa) es = false := rfl
  rw [hbs]
  simp only [Bool.false_eq_true, if_false]
  refine wpAny_bind (setSearch_key hu ho X hk h12 hneeds.1 (fun hin => ?_) (fun hnin q hno hocc => ?_))
  · dsimp only
    have := h s.heap ks (s.toks + (k.length + 1)) (Heap.SameBut.refl _ _) hS (fun _ => rfl) (fun hc => absurd hin hc)
    rw [decide_eq_false (by simp [hin])] at this
    exact wpAny_pure this
  · dsimp only
    refine wpAny_bind (wpAny_setState_of ho rfl hfit ?_)
    dsimp only
    generalize e1 : (t.put (path t.mask (rowHash k) q)).1 = t1
    generalize e2 : (t.put (path t.mask (rowHash k) q)).2 = p
    have hb := Heap.SameBut.update s.heap a (Obj.putSet (SetTable.insertAt es p (rowHash k, .ref xa)) t1)
    obtain ⟨c1, c2, c3, c4, c5, c6, c7, c8, c9, c10⟩ := X.put ho hb hk h12 hnin hno hocc e1 e2
    rw [c6]
    (try simp only [if_true])
    refine wpAny_bind (hashByValue_key hk ?_)
    (try simp only [if_true])
    have hsz : (SetTable.insertAt es p (rowHash k, Value.ref xa)).size = es.size + 1 := insert_size _ _ _ c1
    refine wpAny_bind (wpAny_storeSet_of ho rfl ?_ (by rw [hsz, sizeLine_eq]; have := X.len; omega))
    have hget : (s.heap.update a (Obj.putSet (SetTable.insertAt es p (rowHash k, .ref xa)) t1)).get? a = some { cls := .type "set", dict := none, data := .set (SetTable.insertAt es p (rowHash k, .ref xa)) (ep + 1) t1, slots := #[] } :=
      Heap.get?_update_self _ ho rfl
    have hfill : t1.fill = es.size + 1 := by
      unfold SetTable.fill
      rw [c4.nodum, c4.size]
      simp [hsz]
    have hpm := insK_perm ks p k
    by_cases hfull : t1.mask = 7 ∧ es.size = 4
    · have htf : t1.tooFull = true := by
        unfold SetTable.tooFull
        rw [hfill, hfull.1, hfull.2]; rfl
      rw [htf]
      simp only [Bool.not_false, Bool.and_self, if_true]
      rw [hfull.2]
      refine wpAny_bind (relay_key (ks := insK ks p k) hget c4 hfull.1 (by rw [hsz, hfull.2]) c5 c6 c7 c8 c9 (by rw [c10, hsz]) fun h' ks' hb2 hS2 hp2 => wpAny_pure ?_)
      have := h h' ks' (s.toks + (k.length + 1)) (hb.trans hb2) hS2 (fun hc => absurd hc hnin) (fun _ => hp2.trans hpm)
      rw [decide_eq_true hnin] at this
      exact this
    · have htf : t1.tooFull = false := by
        unfold SetTable.tooFull
        rw [hfill]
        have hln := X.len
        rcases c4.mask with e | e
        · have h4 := X.small (c2 ▸ e)
          have h4' : es.size ≠ 4 := fun z => hfull ⟨e, z⟩
          rw [e]
          exact decide_eq_false (by omega)
        · rw [e]
          exact decide_eq_false (by omega)
      rw [htf]
      simp only [Bool.and_false, Bool.false_eq_true, if_false]
      have X1 := c3 fun e => by
        have h4 := X.small e
        have h4' : es.size ≠ 4 := fun z => hfull ⟨c2.trans e, z⟩
        omega
      refine wpAny_pure ?_
      have := h _ (insK ks p k) (s.toks + (k.length + 1)) hb ⟨_, _, _, hget, X1⟩ (fun hc => absurd hc hnin) (fun _ => hpm)
      rw [decide_eq_true hnin] at this
      exact this
end
end

section
open PySem PySem.W PyProof.Rows
section
variable {prog : Program} {w : World} {A : Around} {E : Value → Shared → Prop} {s : Shared} {R : Result → Shared → Prop}

/-- what the items of a sequence are: keys -/
inductive KeyGet (prog : Program) (w : World) (h : Heap) (kl : List (List Int)) (i : Nat) (v : Value) : Prop
  | of (k : List Int) (a : Addr) (z1 : kl[i]? = some k) (z2 : v = .ref a) (z3 : KeyAt prog w h k a) : KeyGet prog w h kl i v
noncomputable def KeysAre (prog : Program) (w : World) (h : Heap) (vs : List Value) (kl : List (List Int)) : Prop :=
  vs.length = kl.length ∧ ∀ (i : Nat) (v : Value), vs[i]? = some v → KeyGet prog w h kl i v
theorem KeyAt.mono {h h' : Heap} {k : List Int} {a : Addr} (x : KeyAt prog w h k a) (hk : ∀ b o, h.get? b = some o → h'.get? b = some o) : KeyAt prog w h' k a := by
  obtain ⟨o, items, n, e, r⟩ := x
  exact ⟨o, items, n, hk _ _ e, r⟩
theorem KeysAre.mono {h h' : Heap} {vs : List Value} {kl : List (List Int)} (x : KeysAre prog w h vs kl) (hk : ∀ b o, h.get? b = some o → h'.get? b = some o) : KeysAre prog w h' vs kl :=
  ⟨x.1, fun i v e => by obtain ⟨k, a, p, q, r⟩ := x.2 i v e; exact ⟨k, a, p, q, r.mono hk⟩⟩
theorem SetTup.at {h h' : Heap} {a : Addr} {ks : List (List Int)} (x : SetTup prog w h a ks) (hk : ∀ b o, h.get? b = some o → (∃ vs, o.data = .fields vs) ∨ h'.get? b = some o) : SetTup prog w h' a ks := by
  obtain ⟨es, ep, t, ho, X⟩ := x
  refine ⟨es, ep, t, ?_, X.tab, X.small, X.plain, X.led, X.len, fun i e he => ?_, X.nodup, X.in12⟩
  · rcases hk _ _ ho with ⟨vs, q⟩ | q
    · cases q
    · exact q
  · obtain ⟨k, xa, a1, a2, o, items, n, b1, b2, b3, b4⟩ := X.are i e he
    refine ⟨k, xa, a1, a2, o, items, n, ?_, b2, b3, b4⟩
    rcases hk _ _ b1 with ⟨vs, q⟩ | q
    · rw [b3] at q; cases q
    · exact q

theorem set_loop {S I ax : Addr} {items : Array Value} {kl : List (List Int)} {n : Nat} (hh : A.handled = none) (hu : A.units + 1 < cLine) (hSI : S ≠ I) (hSx : S ≠ ax) (hne : ax ≠ I)
    (h12 : ∀ k ∈ kl, k ∈ keys12) (hn : n = 1 ∨ n = 2) (hlen : ∀ k ∈ kl, k.length = n) :
    ∀ (m i : Nat) (s : Shared) (ks : List (List Int)), items.size - i = m → i ≤ items.size → s.heap.IsTupleIter I ax i → s.heap.IsTuple ax items → KeysAre prog w s.heap items.toList kl → SetTup prog w s.heap S ks → (∀ k ∈ ks, k ∈ kl) → (∀ k, k ∈ kl.take i → k ∈ ks) →
      (∀ h' tk ks', SetTup prog w h' S ks' → (∀ k, k ∈ ks' ↔ k ∈ kl) → (∀ b o, b ≠ S → b ≠ I → s.heap.get? b = some o → h'.get? b = some o) → R (.ok (.ret .none)) { s with heap := h', toks := tk }) →
      codeAny (model prog w) A (.builtin "set.update.loop" ⟨[.ref S, .ref I], []⟩) R s := by
  intro m
  have W := Walks.tuple (prog := prog) (w := w) (A := A.in1) (by exact hh) I ax hne items
  induction m with
  | zero =>
    intro i s ks hm hi hit ht hK hS hsub hall hR
    obtain rfl : i = items.size := Nat.le_antisymm hi (Nat.sub_eq_zero_iff_le.mp hm)
    refine codeAny_builtin F.entry_set_update_loop ?_
    rw [Around.under_plainId F.plain_set_update_loop _]
    show wpAny _ A.in1 (pyNext (.ref I) >>= _) _ _ s
    refine wpAny_bind (W.done s _ _ ⟨hit, ht⟩ fun h' tk hk => ?_)
    show wpAny _ A.in1 (ret Value.none) _ _ _
    have hk' : ∀ b o, b ≠ I → s.heap.get? b = some o → h'.get? b = some o := fun b o hb e => hk b o (by simpa using hb) e
    refine wpAny_pure (hR h' tk ks (hS.at fun b o e => ?_) (fun k => ⟨hsub k, fun hk1 => hall k ?_⟩) fun b o _ hb e => hk' b o hb e)
    · by_cases hb : b = I
      · obtain ⟨oI, e1, _, e2⟩ := hit
        rw [hb, e1] at e
        cases e
        exact .inl ⟨_, e2⟩
      · exact .inr (hk' b o hb e)
    · have : items.size = kl.length := by have := hK.1; simpa using this
      rw [this, List.take_length]; exact hk1
  | succ m ih =>
    intro i s ks hm hi hit ht hK hS hsub hall hR
    have hlt : i < items.size := Nat.lt_of_sub_eq_succ hm
    refine codeAny_builtin F.entry_set_update_loop ?_
    rw [Around.under_plainId F.plain_set_update_loop _]
    show wpAny _ A.in1 (pyNext (.ref I) >>= _) _ _ s
    refine wpAny_bind (W.item i s _ _ hlt ⟨hit, ht⟩ fun v h' tk hP hst' hk => ?_)
    have hk' : ∀ b o, b ≠ I → s.heap.get? b = some o → h'.get? b = some o := fun b o hb e => hk b o (by simpa using hb) e
    have hkf : ∀ b o, s.heap.get? b = some o → (∃ vs, o.data = .fields vs) ∨ h'.get? b = some o := fun b o e => by
      by_cases hb : b = I
      · obtain ⟨oI, e1, _, e2⟩ := hit
        rw [hb, e1] at e
        cases e
        exact .inl ⟨_, e2⟩
      · exact .inr (hk' b o hb e)
    have key : ∀ {k a}, KeyAt prog w s.heap k a → KeyAt prog w h' k a := fun {k a} x => by
      obtain ⟨o, its, c, e1, e2, e3, e4⟩ := x
      refine ⟨o, its, c, ?_, e2, e3, e4⟩
      rcases hkf _ _ e1 with ⟨vs, q⟩ | q
      · rw [e3] at q; cases q
      · exact q
    obtain ⟨k, xa, b1, rfl, b3⟩ := hK.2 i v (by rw [Array.getElem?_toList]; exact hP)
    have hkm : k ∈ kl := List.mem_of_getElem? b1
    have hS' : SetTup prog w h' S ks := hS.at hkf
    have hln : ks.length ≤ 9 := by
      obtain ⟨es, ep, t, _, X⟩ := hS
      exact keys_len X.nodup X.in12 hn fun k hk => hlen k (hsub k hk)
    show wpAny _ A.in1 (holding [Value.ref xa] (setAdd S (.ref xa)) >>= _) _ _ _
    refine wpAny_bind (wpAny_holding ?_)
    refine setAdd_key (s := { s with heap := h', toks := tk }) (by show A.units + 1 < cLine; exact hu) hS' (key b3) (h12 k hkm) hln fun h'' ks' tk' hsb hS2 ho hn' => ?_
    have hmem : ∀ k', k' ∈ ks' ↔ k' ∈ ks ∨ k' = k := fun k' => by
      by_cases hin : k ∈ ks
      · rw [ho hin]
        exact ⟨.inl, fun h => h.elim id fun e => e ▸ hin⟩
      · rw [(hn' hin).mem_iff, List.mem_cons]
        exact ⟨fun h => h.symm, fun h => h.symm⟩
    obtain ⟨es, ep, t, hso, _⟩ := id hS'
    have kp : ∀ b o, b ≠ S → h'.get? b = some o → h''.get? b = some o := fun b o hb e => (hsb.2 b hb).trans e
    refine wpAny_pure ⟨plainId_quiet F.plain_set_update_loop _, ih (i + 1) _ ks' (congrArg Nat.pred hm) hlt ?_ ?_ ?_ hS2 (fun k' hk2 => ((hmem k').mp hk2).elim (hsub k') fun e => e ▸ hkm) (fun k' hk2 => ?_) fun h3 tk3 ks3 c1 c2 c3 => ?_⟩
    · obtain ⟨oI, e1, e2⟩ := hst'.1
      exact ⟨oI, kp _ _ (Ne.symm hSI) e1, e2⟩
    · obtain ⟨ox, e1, e2⟩ := hst'.2
      exact ⟨ox, kp _ _ (Ne.symm hSx) e1, e2⟩
    · refine ⟨hK.1, fun j v e => ?_⟩
      obtain ⟨k2, a2, d1, d2, d3⟩ := hK.2 j v e
      exact ⟨k2, a2, d1, d2, key_keeps (key d3) hso hsb⟩
    · rw [List.take_add_one, b1] at hk2
      rcases List.mem_append.mp hk2 with h | h
      · exact (hmem k').mpr (.inl (hall k' h))
      · exact (hmem k').mpr (.inr (by simpa using h))
    · exact hR h3 tk3 ks3 c1 c2 fun b o hbS hbI e => c3 b o hbS hbI (kp b o hbS (hk' b o hbI e))

theorem set_new {a : Value} {Q₁ : Value → Shared → Prop}
    (h : Q₁ (.ref s.heap.objs.size) { s with heap := s.heap.push { cls := .type "set", dict := none, data := .set #[] 0 (.fresh 0 0 (!w.params.followText "set-order")) } }) :
    codeAny (model prog w) A (.call (.builtin "set.__new__") ⟨[.type "set", a], []⟩) (wants Q₁ E) s := by
  refine codeAny_of_tree ?_
  show wpAny _ A.in1 (do checkBuiltinCall "set.__new__" ⟨[.type "set", a], []⟩; again (.builtin "set.__new__" ⟨[.type "set", a], []⟩)) _ _ s
  refine wpAny_bind (wpAny_of_eq (F.newCall_set_1 a) (wpAny_pure ⟨plainId_quiet F.plain_set_new _, codeAny_builtin F.entry_set_new ?_⟩))
  rw [Around.under_plainId F.plain_set_new _]
  unfold Builtin.«set.__new__» Builtin.Frozenset.newClass
  have hsub := sub_set_self
  obtain ⟨hp, g, d, tk, os⟩ := s
  dsimp only
  wp_walk
  refine wpAny_askSetting (wpAny_pure ?_)
  dsimp only
  simp only [newObj]
  refine wpAny_bind (wpAny_alloc (wpAny_pure ?_))
  exact wpAny_pure h

theorem sub_tuple_set : isSubtype (.type "tuple") (.type "set") = pure false := by rw [isSubtype_type]; kernel_rfl
theorem sub_tuple_frozenset : isSubtype (.type "tuple") (.type "frozenset") = pure false := by rw [isSubtype_type]; kernel_rfl

theorem setTup_fresh {h : Heap} {a : Addr} (e : h.get? a = some { cls := .type "set", dict := none, data := .set #[] 0 (.fresh 0 0 (!w.params.followText "set-order")) }) : SetTup prog w h a [] :=
  ⟨#[], 0, _, e, tab_fresh _ _ _, fun _ => by simp, rfl, rfl, rfl, fun i e he => by simp at he, List.nodup_nil, fun k hk => nomatch hk⟩

theorem callType_wp {T newId initId : String} {args : List Value} {Q Q₁ : Value → Shared → Prop} (ft : TypeCalled T newId initId) (hct : checkTypeCall T ⟨args, []⟩ = pure ())
    (hN : codeAny (model prog w) A.in1 (.call (.builtin newId) ⟨.type T :: args, []⟩) (wants Q₁ E) s)
    (hI : ∀ obj s₁, Q₁ obj s₁ → s₁.TypeIs obj T ∧ codeAny (model prog w) A.in1 (.call (.builtin initId) ⟨obj :: args, []⟩) (wants (fun r s₂ => r = .none ∧ Q obj s₂) E) s₁) :
    wpAny (model prog w) A (call (.type T) args) Q E s := by
  obtain ⟨c, tl, hmro⟩ := ft.mro
  have hmade := ft.made
  have hsub := ft.sub
  refine wpAny_call (codeAny_of_tree ?_)
  show wpAny _ _ (callAny (.type T) _) _ _ _
  refine wpAny_pure ⟨Code.quiet_builtin _ (by decide +kernel), codeAny_builtin F.entry_type_call ?_⟩
  rw [Around.under_plain (weight_type_call_type T args []) (units_type_call_type T args [])]
  have h1 := ft.notType
  have h2 := ft.canCreate
  repeat (any_goals (first | with_reducible assumption | wp_step))
  refine codeAny_mono hN fun r s₁ hr => ?_
  cases r with
  | error e => exact hr
  | ok fl =>
    cases fl with
    | ret obj =>
      obtain ⟨hT, hI⟩ := hI _ _ hr
      have hli := ft.init.lookup
      have hbi := ft.init.bind obj
      clear hN
      repeat (any_goals (first | with_reducible assumption | wp_step))
      refine codeAny_mono hI fun r₂ s₂ hr₂ => ?_
      cases r₂ with
      | error e => exact hr₂
      | ok fl₂ =>
        cases fl₂ with
        | ret r =>
          obtain ⟨rfl, hq⟩ := hr₂
          repeat (any_goals (first | assumption | wp_step))
        | _ => exact hr₂.elim
    | _ => exact hr.elim

theorem set_init_tuple {S l : Addr} {items : Array Value} {kl : List (List Int)} {n : Nat} (hh : A.handled = none) (hu : A.units + 10 < cLine) (hS : s.heap.get? S = some { cls := .type "set", dict := none, data := .set #[] 0 (.fresh 0 0 (!w.params.followText "set-order")) })
    (hl : s.heap.IsTuple l items) (hK : KeysAre prog w s.heap items.toList kl) (h12 : ∀ k ∈ kl, k ∈ keys12) (hn : n = 1 ∨ n = 2) (hlen : ∀ k ∈ kl, k.length = n)
    (hR : ∀ (h' : Heap) (tk : Nat) ks, SetTup prog w h' S ks → (∀ k, k ∈ ks ↔ k ∈ kl) → (∀ b o, b ≠ S → s.heap.get? b = some o → h'.get? b = some o) → R (.ok (.ret .none)) { s with heap := h', toks := tk }) :
    codeAny (model prog w) A (.call (.builtin "set.__init__") ⟨[.ref S, .ref l], []⟩) R s := by
  have hT : s.TypeIs (.ref S) "set" := ⟨_, hS, rfl⟩
  refine codeAny_call_builtin F.called_set.init.plain F.entry_set_init (check_set_init_1 hT ?_)
  obtain ⟨ol, hol, hcl, nl, hdl⟩ := id hl
  have hTl : s.TypeIs (.ref l) "tuple" := ⟨ol, hol, hcl⟩
  have key : wpAny (model prog w) A.in1 (pyIter (.ref l)) (fun it s' => wpAny (model prog w) A.in1 (runValue (.builtin "set.update.loop" ⟨[.ref S, it], []⟩)) (fun _ s'' => R (.ok (.ret .none)) s'') (fun e s'' => R (.error e) s'') s') (fun e s' => R (.error e) s') s := by
    refine wpAny_pyIter_tuple hl ?_
    refine wpAny_runValue ?_
    have hSs : S < s.heap.objs.size := Heap.lt_size hS
    have hls : l < s.heap.objs.size := Heap.lt_size hol
    have hSl : S ≠ l := fun q => by rw [q, hol] at hS; have hS := Option.some.inj hS; rw [hS] at hcl; exact absurd (Value.type.inj hcl) (by decide)
    have up : ∀ b o, s.heap.get? b = some o → (s.heap.push { cls := .type "tuple_iterator", data := .fields #[.ref l, .int 0 0] }).get? b = some o := fun b o e => Heap.get?_push_of_some _ e
    refine set_loop (A := A.in1) (s := { s with heap := s.heap.push { cls := .type "tuple_iterator", data := .fields #[.ref l, .int 0 0] } }) (n := n) (items := items) (kl := kl) (ax := l) (I := s.heap.objs.size) hh (by simp only [Around.in1_units]; omega) (Nat.ne_of_lt hSs) hSl (Nat.ne_of_lt hls)
      h12 hn hlen (items.size - 0) 0 [] rfl (Nat.zero_le _) ⟨_, Heap.get?_push_size _ rfl, rfl, rfl⟩ ⟨_, up _ _ hol, hcl, nl, hdl⟩ (hK.mono up) (setTup_fresh (up _ _ hS)) (fun k hk => nomatch hk) (fun k hk => by simp at hk) ?_
    intro h' tk ks c1 c2 c3
    exact hR h' tk ks c1 c2 fun b o hb e => c3 b o hb (Nat.ne_of_lt (Heap.lt_size e)) (up b o e)
  clear hK hlen h12 hR hl
  have hset := sub_set_self
  have hsls := sub_tuple_set
  have hslf := sub_tuple_frozenset
  unfold Builtin.«set.__init__» noKeywords Builtin.Frozenset.updateFrom
  generalize pyIter = PI at key ⊢
  repeat (any_goals (first | with_reducible assumption | wp_step))
  refine wpAny_mono key (fun it s' x => wpAny_bind (wpAny_mono x (fun _ s'' y => wpAny_pure (wpAny_pure y)) fun _ _ e => e)) fun _ _ e => e

theorem call_set_tuple {l : Addr} {items : Array Value} {kl : List (List Int)} {n : Nat} {Q : Value → Shared → Prop}
    (hh : A.handled = none) (hu : A.units + 20 < cLine) (hl : s.heap.IsTuple l items) (hK : KeysAre prog w s.heap items.toList kl) (h12 : ∀ k ∈ kl, k ∈ keys12) (hn : n = 1 ∨ n = 2) (hlen : ∀ k ∈ kl, k.length = n)
    (h : ∀ (h' : Heap) (tk : Nat) ks, SetTup prog w h' s.heap.objs.size ks → (∀ k, k ∈ ks ↔ k ∈ kl) →
      (∀ b o, s.heap.get? b = some o → h'.get? b = some o) → Q (.ref s.heap.objs.size) { s with heap := h', toks := tk }) :
    wpAny (model prog w) A (call (.type "set") [.ref l]) Q E s := by
  refine callType_wp F.called_set (F.typeCall_set_1 _) (set_new (Q₁ := fun obj s₁ => obj = .ref s.heap.objs.size ∧ s₁ = { s with heap := s.heap.push { cls := .type "set", dict := none, data := .set #[] 0 (.fresh 0 0 (!w.params.followText "set-order")) } }) ⟨rfl, rfl⟩) ?_
  rintro obj s₁ ⟨rfl, rfl⟩
  have hS : (s.heap.push { cls := .type "set", dict := none, data := .set #[] 0 (.fresh 0 0 (!w.params.followText "set-order")) }).get? s.heap.objs.size = some { cls := .type "set", dict := none, data := .set #[] 0 (.fresh 0 0 (!w.params.followText "set-order")) } := Heap.get?_push_size _ rfl
  have up : ∀ b o, s.heap.get? b = some o → (s.heap.push { cls := .type "set", dict := none, data := .set #[] 0 (.fresh 0 0 (!w.params.followText "set-order")) }).get? b = some o := fun b o e => Heap.get?_push_of_some _ e
  refine ⟨⟨_, hS, rfl⟩, ?_⟩
  obtain ⟨ol, hol, r⟩ := id hl
  refine set_init_tuple (A := A.in1) (s := { s with heap := s.heap.push { cls := .type "set", dict := none, data := .set #[] 0 (.fresh 0 0 (!w.params.followText "set-order")) } }) hh (by simp only [Around.in1_units]; omega) hS ⟨ol, up _ _ hol, r⟩ (hK.mono up) h12 hn hlen fun h' tk ks c1 c2 c3 => ?_
  exact ⟨rfl, h h' tk ks c1 c2 fun b o e => c3 b o (Nat.ne_of_lt (Heap.lt_size e)) (up b o e)⟩
end
end

section
open PySem PySem.W PyProof.Rows
theorem slot_setiter_next : Slot "set_iterator" "__next__" "set_iterator.__next__" :=
  .of (owner := "set_iterator") (n := "__next__") (by rw [typeLookup_type, builtinLookup_eq_fast]; kernel_rfl) (by decide +kernel) (by decide +kernel) (by decide +kernel)
    (by first | exact .inl (by decide +kernel) | exact .inr (by decide +kernel)) (by rw [isSubtype_type]; kernel_rfl)
theorem entry_setiter_next : entryFor table "set_iterator.__next__" = some Builtin.«set_iterator.__next__» := entryFor_of_tree (by kernel_rfl)
theorem args_setiter_next (a : Value) : argsOk "set_iterator.__next__" ⟨[a], []⟩ := by unfold argsOk; kernel_rfl
theorem slot_setiter_iter : Slot "set_iterator" "__iter__" "set_iterator.__iter__" :=
  .of (owner := "set_iterator") (n := "__iter__") (by rw [typeLookup_type, builtinLookup_eq_fast]; kernel_rfl) (by decide +kernel) (by decide +kernel) (by decide +kernel)
    (by first | exact .inl (by decide +kernel) | exact .inr (by decide +kernel)) (by rw [isSubtype_type]; kernel_rfl)
theorem entry_set_iter : entryFor table "set.__iter__" = some Builtin.«frozenset.__iter__» :=
  entryFor_alias (id' := "frozenset.__iter__") (by kernel_rfl) rfl (by decide +kernel) (by kernel_rfl)
theorem lookup_set_len : typeLookup (.type "set") "__len__" = pure (some (.builtin "set.__len__")) := by rw [typeLookup_type, builtinLookup_eq_fast]; kernel_rfl

/-- the order in which a set is walked: a rearrangement of its elements -/
theorem pick_go {α : Type} (next : Nat → Nat) : ∀ (fuel k : Nat) (left : List α) (out : Array α), left.length = fuel → ∃ r : List α, (pickOrder.go next fuel k left out).toList = out.toList ++ r ∧ r.Perm left
  | 0, k, left, out, h => ⟨[], by simp [pickOrder.go], by rw [List.length_eq_zero_iff.mp h]⟩
  | fuel + 1, k, left, out, h => by
    unfold pickOrder.go
    have hi : next k % left.length < left.length := Nat.mod_lt _ (h.symm ▸ Nat.succ_pos fuel)
    rw [List.getElem?_eq_getElem hi]
    dsimp only
    obtain ⟨r, e, p⟩ := pick_go next fuel (k + 1) (left.eraseIdx (next k % left.length)) (out.push left[next k % left.length]) (by rw [List.length_eraseIdx_of_lt hi, h]; rfl)
    refine ⟨left[next k % left.length] :: r, by rw [e]; simp, ?_⟩
    refine (List.Perm.cons _ p).trans ?_
    rw [List.eraseIdx_eq_take_drop_succ]
    have e9 : left = left.take (next k % left.length) ++ left[next k % left.length] :: left.drop (next k % left.length + 1) := by
      rw [← List.drop_eq_getElem_cons hi, List.take_append_drop]
    exact List.perm_middle.symm.trans (List.Perm.of_eq e9.symm)
theorem pick_order {α : Type} (next : Nat → Nat) (xs : Array α) : (pickOrder next xs).toList.Perm xs.toList := by
  obtain ⟨r, e, p⟩ := pick_go next xs.size 0 xs.toList #[] (by simp)
  unfold pickOrder
  rw [e]
  simpa using p

section
variable {prog : Program} {w : World} {A : Around} {E : Value → Shared → Prop} {s : Shared}

theorem setsByText_at {Q : Bool → Shared → Prop} (h : Q (w.params.followText "set-order") s) : wpAny (model prog w) A setsByText Q E s := by
  unfold setsByText
  exact wpAny_bind (wpAny_askSetting (wpAny_pure h))

/-- the items of a set in the order of its walk -/
noncomputable def walkOf (w : World) (a : Addr) (es : Array (Int × Value)) (ep : Nat) : Array (Int × Value) := if w.params.followText "set-order" = true then pickOrder (w.params.setOrder a ep) es else es
theorem walk_perm (w : World) (a : Addr) (es : Array (Int × Value)) (ep : Nat) : (walkOf w a es ep).toList.Perm es.toList := by
  unfold walkOf
  split
  · exact pick_order _ _
  · exact List.Perm.refl _
theorem walk_size (w : World) (a : Addr) (es : Array (Int × Value)) (ep : Nat) : (walkOf w a es ep).size = es.size := by
  have := (walk_perm w a es ep).length_eq
  simpa using this

structure SetAt (prog : Program) (w : World) (h : Heap) (a : Addr) (ks : List (List Int)) (es : Array (Int × Value)) (ep : Nat) (t : SetTable) : Prop where
  obj : h.get? a = some { cls := .type "set", dict := none, data := .set es ep t, slots := #[] }
  el : Elems prog w h es t ks
theorem SetAt.fits {h : Heap} {a : Addr} {ks : List (List Int)} {es : Array (Int × Value)} {ep : Nat} {t : SetTable} (X : SetAt prog w h a ks es ep t) (hl : ks.length ≤ 9) : t.fits es.size = true := by
  refine X.el.fits ?_
  have hln := X.el.len
  rcases X.el.tab.mask with e | e
  · rw [e]; exact Nat.le_trans (X.el.small e) (by decide)
  · rw [e, hln]; exact Nat.le_trans hl (by decide)

/-- the slot that the iterator stands at, before item i -/
noncomputable def slotAt (w : World) (t : SetTable) (i : Nat) : Nat := if w.params.followText "set-order" = true then 0 else if i = 0 then 0 else t.place.getD (i - 1) 0 + 1
inductive IsSetIter (w : World) (h : Heap) (it a : Addr) (i n ep : Nat) (t : SetTable) : Prop
  | of  (o) (z1 : h.get? it = some o) (z2 : o.cls = .type "set_iterator") (z3 : o.data = .fields #[.int (slotAt w t i) 0, .int i 0, .ref a, .int n 0, .int ep 0]) : IsSetIter w h it a i n ep t

theorem setNext_at {a : Addr} {ks : List (List Int)} {es : Array (Int × Value)} {ep : Nat} {t : SetTable} {i : Nat} {Q : Option (Value × Nat) → Shared → Prop} (X : SetAt prog w s.heap a ks es ep t) (hl : ks.length ≤ 9) (hi : i ≤ es.size)
    (h : Q (((walkOf w a es ep)[i]?).map fun e => (e.2, slotAt w t (i + 1))) s) : wpAny (model prog w) A (setNext a (slotAt w t i) i ep) Q E s := by
  have hf := X.fits hl
  unfold setNext
  refine wpAny_bind (wpAny_setState_of X.obj rfl hf ?_)
  dsimp only
  refine wpAny_bind (setsByText_at ?_)
  by_cases hb : w.params.followText "set-order" = true
  · rw [hb]
    simp only [if_true, bne_self_eq_false, Bool.false_eq_true, if_false]
    unfold setWalk
    refine wpAny_bind (wpAny_bind (wpAny_setState_of X.obj rfl hf ?_))
    dsimp only
    refine wpAny_bind (setsByText_at ?_)
    rw [hb]
    simp only [if_true]
    refine wpAny_bind (wpAny_askSetting (wpAny_pure (wpAny_pure ?_)))
    unfold walkOf slotAt at h
    unfold slotAt
    simp only [hb, if_true] at h ⊢
    exact h
  · have hb' : w.params.followText "set-order" = false := Bool.eq_false_iff.mpr hb
    rw [hb']
    simp only [Bool.false_eq_true, if_false]
    have hdr : ∀ (P : Prop) [Decidable P], True := fun _ _ => trivial
    have hled := X.el.led
    rw [hb'] at hled
    have hpl := X.el.plain
    have key : ∀ {T : Sem (Option (Value × Nat))}, T = pure (match es[SetTable.below t.place (slotAt w t i)]?, t.place[SetTable.below t.place (slotAt w t i)]? with
        | some (_, x), some j => some (x, j + 1)
        | _, _ => none) → wpAny (model prog w) A T Q E s := by
      rintro T rfl
      have hr := X.el.tab.rises
      have hsz : t.place.size = es.size := by have := X.el.tab.size; simpa using this
      have hbel : SetTable.below t.place (slotAt w t i) = i := by
        unfold slotAt
        rw [hb']
        simp only [Bool.false_eq_true, if_false]
        by_cases h0 : i = 0
        · rw [if_pos h0, h0]; exact below_zero hr
        · rw [if_neg h0]
          have e : t.place[i - 1]? = some (t.place.getD (i - 1) 0) := getD_some.mpr ⟨hsz.symm ▸ Nat.lt_of_lt_of_le (Nat.sub_lt (Nat.pos_of_ne_zero h0) Nat.one_pos) hi, rfl⟩
          rw [below_next hr e]
          exact Nat.sub_add_cancel (Nat.pos_of_ne_zero h0)
      rw [hbel]
      refine wpAny_pure ?_
      unfold walkOf at h
      rw [hb'] at h
      simp only [Bool.false_eq_true, if_false] at h
      by_cases hlt : i < es.size
      · have e1 : es[i]? = some es[i] := Array.getElem?_eq_getElem hlt
        have e2 : t.place[i]? = some (t.place.getD i 0) := getD_some.mpr ⟨hsz.symm ▸ hlt, rfl⟩
        have e3 : slotAt w t (i + 1) = t.place.getD i 0 + 1 := by unfold slotAt; rw [hb']; simp
        rw [e1, e3] at h
        rw [e1, e2]
        exact h
      · have e1 : es[i]? = none := Array.getElem?_eq_none (Nat.le_of_not_lt hlt)
        rw [e1] at h
        rw [e1]
        exact h
    refine key ?_
    show (if (!t.plain && decide (es.size > 1)) = true then _ else _) = _
    rw [hpl]
    simp only [Bool.not_true, Bool.false_and, Bool.false_eq_true, if_false]
    show (if (!t.led && !es.isEmpty) = true then _ else _) >>= _ = _
    rw [hled]
    rfl

theorem wpAny_pyIter_set {a : Addr} {ks : List (List Int)} {es : Array (Int × Value)} {ep : Nat} {t : SetTable} {Q : Value → Shared → Prop} (X : SetAt prog w s.heap a ks es ep t) (hl : ks.length ≤ 9)
    (hQ : Q (.ref s.heap.objs.size) { s with heap := s.heap.push { cls := .type "set_iterator", data := .fields #[.int 0 0, .int 0 0, .ref a, .int es.size 0, .int ep 0] } }) :
    wpAny (model prog w) A (pyIter (.ref a)) Q E s := by
  have hT : s.TypeIs (.ref a) "set" := ⟨_, X.obj, rfl⟩
  have hf := X.fits hl
  refine wpAny_pyIter_slot hT F.slot_set_iter (wpAny_call_entry F.slot_set_iter hT entry_set_iter ?_ (F.args_set_iter_1 _))
  unfold Builtin.«frozenset.__iter__»
  show wpAny _ _ (Builtin.Frozenset.sizeOf a >>= _) _ _ s
  unfold Builtin.Frozenset.sizeOf
  refine wpAny_bind (wpAny_bind (wpAny_setEntries_of X.obj rfl hf (wpAny_pure ?_)))
  unfold setDrawn
  refine wpAny_bind (wpAny_bind (wpAny_setState_of X.obj rfl hf ?_))
  dsimp only
  refine wpAny_bind (setsByText_at (wpAny_pure ?_))
  rw [if_neg (by show ¬ ((!w.params.followText "set-order" && (!t.plain && decide (es.size > 1))) = true); rw [X.el.plain]; simp)]
  refine wpAny_bind (wpAny_pure ?_)
  refine wpAny_bind (wpAny_setEpoch_of X.obj rfl hf ?_)
  refine wpAny_bind (wpAny_newObj_type (wpAny_pure ⟨_, rfl, "set_iterator", _, ⟨_, Heap.get?_push_size _ rfl, rfl⟩, slot_setiter_next.lookup, hQ⟩))

theorem setiter_item {it a : Addr} {ks : List (List Int)} {es : Array (Int × Value)} {ep : Nat} {t : SetTable} {i : Nat} {x : Int × Value} {Q : Option Value → Shared → Prop} (hit : IsSetIter w s.heap it a i es.size ep t) (X : SetAt prog w s.heap a ks es ep t) (hl : ks.length ≤ 9)
    (hx : (walkOf w a es ep)[i]? = some x)
    (hQ : ∀ h', IsSetIter w h' it a (i + 1) es.size ep t → Heap.SameBut it s.heap h' → Q (some x.2) { s with heap := h' }) : wpAny (model prog w) A (pyNext (.ref it)) Q E s := by
  obtain ⟨o, ho, hc, hd⟩ := id hit
  have hT : s.TypeIs (.ref it) "set_iterator" := ⟨o, ho, hc⟩
  have hf := X.fits hl
  have hi : i < es.size := by rw [← walk_size w a es ep]; exact (Array.getElem?_eq_some_iff.mp hx).1
  unfold pyNext
  refine wpAny_bind (wpAny_attempt (wpAny_callSpecial?_slot (name := Str.ofString "__next__") hT slot_setiter_next
    (wpAny_call_entry slot_setiter_next hT entry_setiter_next ?_ (args_setiter_next _))))
  show wpAny _ _ (fieldsOf (.ref it) >>= _) _ _ s
  refine wpAny_bind (wpAny_fieldsOf ho hd ?_)
  dsimp only
  refine wpAny_bind (wpAny_setEntries_of X.obj rfl hf ?_)
  rw [if_neg (by simp)]
  simp only [Int.toNat_natCast]
  refine wpAny_bind (setNext_at X hl (by omega) ?_)
  rw [hx]
  dsimp only [Option.map]
  refine wpAny_bind (wpAny_setField ho hd (by simp) ?_)
  have ho1 := Heap.get?_update_self (Obj.mapFields (·.setIfInBounds 0 (rawInt (slotAt w t (i + 1))))) ho (Obj.isFreed_of_fields (Obj.data_mapFields hd _))
  refine wpAny_bind (wpAny_setField ho1 (Obj.data_mapFields hd _) (by simp) (wpAny_pure ⟨x.2, rfl, wpAny_pure (hQ _ ?_ ((Heap.SameBut.update ..).trans (Heap.SameBut.update ..)))⟩))
  exact ⟨_, Heap.get?_update_self _ ho1 (Obj.isFreed_of_fields (Obj.data_mapFields (Obj.data_mapFields hd _) _)), (Obj.cls_mapFields ..).trans ((Obj.cls_mapFields ..).trans hc), by
    rw [Obj.data_mapFields (Obj.data_mapFields hd _)]; simp [rawInt]⟩

theorem setiter_end {it a : Addr} {ks : List (List Int)} {es : Array (Int × Value)} {ep : Nat} {t : SetTable} {Q : Option Value → Shared → Prop} (hh : A.handled = none) (hit : IsSetIter w s.heap it a es.size es.size ep t) (X : SetAt prog w s.heap a ks es ep t) (hl : ks.length ≤ 9)
    (hQ : ∀ h', Heap.ExtBut it s.heap h' → Q none { s with heap := h' }) : wpAny (model prog w) A (pyNext (.ref it)) Q E s := by
  obtain ⟨o, ho, hc, hd⟩ := id hit
  have hT : s.TypeIs (.ref it) "set_iterator" := ⟨o, ho, hc⟩
  have hf := X.fits hl
  unfold pyNext
  refine wpAny_bind (wpAny_attempt (wpAny_callSpecial?_slot (name := Str.ofString "__next__") hT slot_setiter_next
    (wpAny_call_entry slot_setiter_next hT entry_setiter_next ?_ (args_setiter_next _))))
  show wpAny _ _ (fieldsOf (.ref it) >>= _) _ _ s
  refine wpAny_bind (wpAny_fieldsOf ho hd ?_)
  dsimp only
  refine wpAny_bind (wpAny_setEntries_of X.obj rfl hf ?_)
  rw [if_neg (by simp)]
  simp only [Int.toNat_natCast]
  refine wpAny_bind (setNext_at X hl (Nat.le_refl _) ?_)
  rw [Array.getElem?_eq_none (by rw [walk_size]; exact Nat.le_refl _)]
  dsimp only [Option.map]
  refine wpAny_bind (wpAny_setField ho hd (by simp) ?_)
  show wpAny _ _ (newExc (.type "StopIteration") [] >>= _) _ _ _
  refine wpAny_bind ?_
  simp only [newExc, newTuple]
  refine wpAny_bind (wpAny_newObj_type ?_ (by size_fits))
  refine wpAny_bind (m := firstArgMember _ _) (wpAny_of_eq (a := Value.none) (by first | rfl | (simp only [firstArgMember]; rfl)) ?_)
  refine wpAny_newObj_type ?_ (by size_fits)
  simp only [raiseNew]
  refine wpAny_bind (wpAny_handled ?_)
  first | rw [show A.in1.handled = none from hh] | rw [hh]
  refine wpAny_bind (wpAny_pure (wpAny_throw ?_))
  refine wpAny_bind (wpAny_isInstance (T := "StopIteration") (b := true) ⟨_, Heap.get?_push_size _ rfl, rfl⟩ isSubtype_stop ?_)
  exact wpAny_pure (hQ _ (((Heap.SameBut.update ..).extBut.push _).push _))

theorem SetAt.at {h h' : Heap} {a : Addr} {ks : List (List Int)} {es : Array (Int × Value)} {ep : Nat} {t : SetTable} (x : SetAt prog w h a ks es ep t) (hk : ∀ b o, h.get? b = some o → (∃ vs, o.data = .fields vs) ∨ h'.get? b = some o) : SetAt prog w h' a ks es ep t := by
  obtain ⟨ho, X⟩ := x
  refine ⟨?_, X.tab, X.small, X.plain, X.led, X.len, fun i e he => ?_, X.nodup, X.in12⟩
  · rcases hk _ _ ho with ⟨vs, q⟩ | q
    · cases q
    · exact q
  · obtain ⟨k, xa, a1, a2, o, items, n, b1, b2, b3, b4⟩ := X.are i e he
    refine ⟨k, xa, a1, a2, o, items, n, ?_, b2, b3, b4⟩
    rcases hk _ _ b1 with ⟨vs, q⟩ | q
    · rw [b3] at q; cases q
    · exact q

theorem setiter_fields {h : Heap} {it a : Addr} {i n ep : Nat} {t : SetTable} (hit : IsSetIter w h it a i n ep t) {h' : Heap} (hk : ∀ b o, b ≠ it → h.get? b = some o → h'.get? b = some o) : ∀ b o, h.get? b = some o → (∃ vs, o.data = .fields vs) ∨ h'.get? b = some o := fun b o e => by
  by_cases hb : b = it
  · obtain ⟨oI, e1, _, e2⟩ := hit
    rw [hb, e1] at e
    cases e
    exact .inl ⟨_, e2⟩
  · exact .inr (hk b o hb e)

/-- the walk's loop into a list -/
theorem setiter_loop {S I a : Addr} {ks : List (List Int)} {es : Array (Int × Value)} {ep : Nat} {t : SetTable} {res : Value} {R : Result → Shared → Prop} (hh : A.handled = none) (hl : ks.length ≤ 9) (hSI : S ≠ I) (haI : a ≠ I) (haS : a ≠ S) :
    ∀ (m i : Nat) (s : Shared) (acc : Array Value) (c : Nat), es.size - i = m → i ≤ es.size → IsSetIter w s.heap I a i es.size ep t → SetAt prog w s.heap a ks es ep t → s.heap.get? S = some { cls := .type "list", dict := none, data := .seq acc c, slots := #[] } →
      acc.toList = ((walkOf w a es ep).toList.take i).map (·.2) →
      (∀ h' tk acc' c', h'.get? S = some { cls := .type "list", dict := none, data := .seq acc' c', slots := #[] } → acc'.toList = (walkOf w a es ep).toList.map (·.2) → (∀ b o, b ≠ S → b ≠ I → s.heap.get? b = some o → h'.get? b = some o) → R (.ok (.ret res)) { s with heap := h', toks := tk }) →
      codeAny (model prog w) A (.builtin "list.extend.loop" ⟨[.ref S, .ref I, res], []⟩) R s := by
  intro m
  have hws := walk_size w a es ep
  have h9 : ∀ {h : Heap}, SetAt prog w h a ks es ep t → es.size ≤ 9 := fun X => X.el.len.symm ▸ hl
  induction m with
  | zero =>
    intro i s acc c hm hi hit X hS hacc hR
    obtain rfl : i = es.size := Nat.le_antisymm hi (Nat.sub_eq_zero_iff_le.mp hm)
    refine codeAny_builtin F.entry_extend_loop ?_
    rw [Around.under_plainId F.plain_extend_loop _]
    show wpAny _ A.in1 (pyNext (.ref I) >>= _) _ _ s
    refine wpAny_bind (setiter_end (A := A.in1) hh hit X hl fun h' hk => ?_)
    refine wpAny_pure (hR h' s.toks acc c (hk S _ hSI hS) ?_ fun b o _ hb e => hk b o hb e)
    rw [hacc, List.take_of_length_le (by rw [Array.length_toList, hws]; exact Nat.le_refl _)]
  | succ m ih =>
    intro i s acc c hm hi hit X hS hacc hR
    have hlt : i < es.size := Nat.lt_of_sub_eq_succ hm
    refine codeAny_builtin F.entry_extend_loop ?_
    rw [Around.under_plainId F.plain_extend_loop _]
    show wpAny _ A.in1 (pyNext (.ref I) >>= _) _ _ s
    obtain ⟨x, hx⟩ : ∃ x, (walkOf w a es ep)[i]? = some x := ⟨_, Array.getElem?_eq_getElem (hws.symm ▸ hlt)⟩
    refine wpAny_bind (setiter_item hit X hl hx fun h' hit' hs' => ?_)
    have hk' : ∀ b o, b ≠ I → s.heap.get? b = some o → h'.get? b = some o := fun b o hb e => (hs'.2 b hb).trans e
    have X' := X.at (setiter_fields hit hk')
    have hS' := hk' S _ hSI hS
    have hsz : acc.size = i := by
      rw [← Array.length_toList, hacc, List.length_map, List.length_take, Array.length_toList, hws]; exact Nat.min_eq_left hi
    have szI : i ≤ sizeLine := szLe (Nat.le_trans hi (Nat.le_trans (h9 X) (by decide)))
    show wpAny _ A.in1 (updateSeq S (·.push x.2) >>= _) _ _ _
    refine wpAny_bind (wpAny_updateSeq hS' rfl ?_ (by rw [hsz]; exact szI) (by show (acc.push x.2).size ≤ sizeLine + 1; rw [Array.size_push, hsz]; exact Nat.succ_le_succ szI))
    have up : ∀ b o, b ≠ S → h'.get? b = some o → (h'.update S (Obj.mapSeq (·.push x.2))).get? b = some o := fun b o hb e => (Heap.get?_update_other _ _ (Ne.symm hb)).trans e
    refine wpAny_pure ⟨plainId_quiet F.plain_extend_loop _, ih (i + 1) _ (acc.push x.2) _ (congrArg Nat.pred hm) hlt ?_ ?_ (Heap.get?_update_self _ hS' rfl) ?_ fun h3 tk3 acc3 c3 d1 d2 d3 => ?_⟩
    · obtain ⟨o, e1, e2, e3⟩ := hit'
      exact ⟨o, up _ _ (Ne.symm hSI) e1, e2, e3⟩
    · obtain ⟨ho, Y⟩ := X'
      refine ⟨up _ _ haS ho, Y.tab, Y.small, Y.plain, Y.led, Y.len, fun j e he => ?_, Y.nodup, Y.in12⟩
      obtain ⟨k, xa, a1, a2, o, items, n, b1, b2, b3, b4⟩ := Y.are j e he
      refine ⟨k, xa, a1, a2, o, items, n, up _ _ (fun q => ?_) b1, b2, b3, b4⟩
      rw [q, hS'] at b1
      have b1 := Option.some.inj b1
      rw [← b1] at b2
      exact absurd (Value.type.inj b2) (by decide)
    · rw [Array.toList_push, hacc, List.take_add_one, Array.getElem?_toList, hx, List.map_append]
      rfl
    · exact hR h3 tk3 acc3 c3 d1 d2 fun b o hb1 hb2 e => d3 b o hb1 hb2 (up b o hb1 (hk' b o hb2 e))
end
end

section
open PySem PySem.W PyProof.Rows
noncomputable def rowCode : List Int → Int
  | [a] => a
  | [a, b] => 10 * a + b
  | _ => 0
theorem key_shape {k : List Int} (h : k ∈ keys12) : (∃ a, k = [a] ∧ 0 ≤ a ∧ a < 3) ∨ ∃ a b, k = [a, b] ∧ (0 ≤ a ∧ a < 3) ∧ 0 ≤ b ∧ b < 3 := by
  simp only [keys12, List.mem_cons, List.not_mem_nil, or_false] at h
  rcases h with rfl | rfl | rfl | rfl | rfl | rfl | rfl | rfl | rfl | rfl | rfl | rfl <;>
    first | exact .inl ⟨_, rfl, by decide, by decide⟩ | exact .inr ⟨_, _, rfl, ⟨by decide, by decide⟩, by decide, by decide⟩
theorem code_inj {k k' : List Int} (h : k ∈ keys12) (h' : k' ∈ keys12) (hl : k.length = k'.length) (e : rowCode k = rowCode k') : k = k' := by
  rcases key_shape h with ⟨a, rfl, _⟩ | ⟨a, b, rfl, ⟨a1, a2⟩, b1, b2⟩ <;> rcases key_shape h' with ⟨a', rfl, _⟩ | ⟨a', b', rfl, ⟨a3, a4⟩, b3, b4⟩
  · simp [rowCode] at e; simp [e]
  · simp at hl
  · simp at hl
  · simp only [rowCode] at e
    have h1 : a = a' := by omega
    have h2 : b = b' := by omega
    rw [h1, h2]

section
variable {prog : Program} {w : World} {A : Around} {E : Value → Shared → Prop} {s : Shared}

theorem oneLt_int' {b : Bool} {x y : Int} {t u : Tok} {Q : Bool → Shared → Prop} (h : Q (decide (x < y)) s) : wpAny (model prog w) A (oneLt' b (.int x t) (.int y u)) Q E s := by
  cases b with
  | true => exact oneLt_int h
  | false => exact kat_one _ _ (lt_int h)

theorem keyLt_at {b : Bool} {k k' : List Int} {x y : Addr} {Q : Bool → Shared → Prop} (hx : KeyAt prog w s.heap k x) (hy : KeyAt prog w s.heap k' y) (h1 : k ∈ keys12) (h2 : k' ∈ keys12) (hl : k.length = k'.length)
    (h : ∀ r : Bool, (r = true ↔ rowCode k < rowCode k') → Q r s) : wpAny (model prog w) A (keyLt' (tuples' b) (.ref x) (.ref y)) Q E s := by
  obtain ⟨ox, xs, n, ex, _, dx, ix⟩ := hx
  obtain ⟨oy, ys, n', ey, _, dy, iy⟩ := hy
  refine kat_lt ex dx ey dy ?_
  rcases key_shape h1 with ⟨a, rfl, _⟩ | ⟨a, c, rfl, ⟨a1, a2⟩, c1, c2⟩ <;> rcases key_shape h2 with ⟨a', rfl, _⟩ | ⟨a', c', rfl, ⟨a3, a4⟩, c3, c4⟩
  · generalize hxl : xs.toList = xl at ix
    generalize hyl : ys.toList = yl at iy
    cases ix with
    | cons p1 q1 => cases q1; cases iy with
      | cons p2 q2 =>
        cases q2
        obtain ⟨t1, rfl⟩ := Value.isInt_shape p1
        obtain ⟨t2, rfl⟩ := Value.isInt_shape p2
        have hsz : decide (xs.size < ys.size) = false := by rw [← Array.length_toList, ← Array.length_toList, hxl, hyl]; rfl
        rw [hsz]
        refine kat_cons (wpAny_eqBool_int ?_)
        by_cases e : a = a'
        · subst e
          rw [beq_self_eq_true]
          exact kat_yes (kat_nil (h _ (by simp [rowCode])))
        · rw [beq_false_of_ne e]
          exact kat_no (oneLt_int' (h _ (by simp [rowCode])))
  · simp at hl
  · simp at hl
  · generalize hxl : xs.toList = xl at ix
    generalize hyl : ys.toList = yl at iy
    cases ix with
    | cons p1 q1 => cases q1 with
      | cons p3 q3 => cases q3; cases iy with
        | cons p2 q2 => cases q2 with
          | cons p4 q4 =>
            cases q4
            obtain ⟨t1, rfl⟩ := Value.isInt_shape p1
            obtain ⟨t2, rfl⟩ := Value.isInt_shape p2
            obtain ⟨t3, rfl⟩ := Value.isInt_shape p3
            obtain ⟨t4, rfl⟩ := Value.isInt_shape p4
            have hsz : decide (xs.size < ys.size) = false := by rw [← Array.length_toList, ← Array.length_toList, hxl, hyl]; rfl
            rw [hsz]
            refine kat_cons (wpAny_eqBool_int ?_)
            by_cases e : a = a'
            · subst e
              rw [beq_self_eq_true]
              refine kat_yes (kat_cons (wpAny_eqBool_int ?_))
              by_cases e2 : c = c'
              · subst e2
                rw [beq_self_eq_true]
                exact kat_yes (kat_nil (h _ (by simp [rowCode])))
              · rw [beq_false_of_ne e2]
                exact kat_no (oneLt_int' (h _ (by simp only [rowCode, decide_eq_true_eq]; omega)))
            · rw [beq_false_of_ne e]
              exact kat_no (oneLt_int' (h _ (by simp only [rowCode, decide_eq_true_eq]; omega)))

/-- a list of keys' items -/
theorem KeysAre.key {h : Heap} {vs : List Value} {kl : List (List Int)} (x : KeysAre prog w h vs kl) {i : Nat} (hi : i < vs.length) : ∃ k a, kl[i]? = some k ∧ vs.getD i Value.none = .ref a ∧ KeyAt prog w h k a := by
  obtain ⟨k, a, e1, e2, e3⟩ := x.2 i vs[i] (List.getElem?_eq_getElem hi)
  exact ⟨k, a, e1, by rw [List.getD_eq_getElem?_getD, List.getElem?_eq_getElem hi]; exact e2, e3⟩

theorem katTups_of {h : Heap} {n : Nat} : ∀ {vs : List Value} {kl : List (List Int)}, KeysAre prog w h vs kl → (∀ k ∈ kl, k ∈ keys12) → ∃ fs, KatTups h vs fs ∧ fs.length = vs.length ∧ ∀ v ∈ fs, ∃ m t, v = Value.int m t
  | [], _, _, _ => ⟨[], KatTups.nil, rfl, fun _ hv => nomatch hv⟩
  | v :: vs, [], x, _ => absurd x.1 (by simp)
  | v :: vs, k :: kl, x, h12 => by
    have x' : KeysAre prog w h vs kl := ⟨by simpa using x.1, fun i u e => by
      obtain ⟨k', a, p, q, r⟩ := x.2 (i + 1) u (by simpa using e)
      exact ⟨k', a, p, q, r⟩⟩
    obtain ⟨fs, f1, f2, f3⟩ := katTups_of (n := n) x' fun k' hk' => h12 k' (List.mem_cons_of_mem _ hk')
    obtain ⟨k0, a, e1, rfl, o, items, c, e2, e3, e4, e5⟩ := x.2 0 v rfl
    have : k0 = k := by simpa using e1.symm
    subst this
    have hk := h12 k0 List.mem_cons_self
    obtain ⟨f, hf, hfi⟩ : ∃ f, items[0]? = some f ∧ ∃ m t, f = Value.int m t := by
      have hne : k0 ≠ [] := by rintro rfl; simp [keys12] at hk
      generalize hil : items.toList = il at e5
      cases e5 with
      | nil => exact absurd rfl hne
      | cons p q =>
        obtain ⟨t, rfl⟩ := Value.isInt_shape p
        exact ⟨_, by rw [← Array.getElem?_toList, hil]; rfl, _, _, rfl⟩
    exact ⟨f :: fs, KatTups.cons e2 e3 e4 hf f1, by simp [f2], fun u hu => by
      rcases List.mem_cons.mp hu with rfl | hu
      · exact hfi
      · exact f3 u hu⟩

/-- the sorted list of keys, and the values in that order -/
structure SortedKeys (prog : Program) (w : World) (h : Heap) (out : List Value) (kl ks : List (List Int)) : Prop where
  are : KeysAre prog w h out ks
  perm : ks.Perm kl
  rises : ks.Pairwise fun a b => rowCode a < rowCode b

noncomputable def SortPost (a : Addr) (s : Shared) (h : Heap) (e1 : Nat) (out : List Value) (P : PySem.Fin → Shared → Prop) : Prop :=
  ∀ h' c', (∀ b o, b ≠ a → h.get? b = some o → h'.get? b = some o) → h'.get? a = some (seqObj "list" (List.toArray out) c') → P (.done (.ret .none)) { s with heap := h' }
theorem sort_end {a : Addr} {H : Heap} {e1 : Nat} {st : SortSt} {out : List Value} {P : PySem.Fin → Shared → Prop} (ho : H.get? a = some (seqObj "list" #[] e1)) (ha : (arrOf st).map (·.2) = List.toArray out) (hf : failedOf st = none) (h9 : out.length ≤ 9)
    (h : SortPost a s H e1 out P) :
    wpAny (model prog w) A (do
      let touched := (← seqEpoch a) != e1
      Builtin.List.listUpdate (.ref a) fun _ => (arrOf st).map (·.2)
      if let some e := failedOf st then rule "list.sort.comparison-raised"; throw e
      if touched then rule "list.sort.modified"; raiseError "ValueError" "list modified during sort"
      ret .none) P E { s with heap := H } := by
  rw [ha]
  have s2 := Heap.SameBut.update H a (Obj.mapSeq fun _ => List.toArray out)
  obtain ⟨c2, hc2⟩ : ∃ c2, (H.update a (Obj.mapSeq fun _ => List.toArray out)).get? a = some (seqObj "list" (List.toArray out) c2) := ⟨_, get?_update_seq ho fun _ => List.toArray out⟩
  refine wpAny_bind (seqEpoch_at ho rfl ?_)
  refine wpAny_bind (listUpdate_at ho rfl ?_ (Nat.zero_le _) (by rw [List.size_toArray, sizeLine_eq]; omega))
  rw [hf]
  simp only [bne_self_eq_false, Bool.false_eq_true, if_false]
  exact wpAny_pure (h _ c2 (fun b o hb e => (s2.2 b hb).trans e) hc2)

theorem getD_range {vs : List Value} {l : List Nat} (hp : l.Perm (List.range vs.length)) : (l.map fun i => vs.getD i Value.none).Perm vs := by
  have h1 := hp.map fun i => vs.getD i Value.none
  refine h1.trans (List.Perm.of_eq ?_)
  apply List.ext_getElem?
  intro i
  rw [List.getElem?_map]
  by_cases hi : i < vs.length
  · rw [List.getElem?_range hi, List.getElem?_eq_getElem hi]
    simp [hi]
  · rw [List.getElem?_eq_none (by rw [List.length_range]; exact Nat.le_of_not_lt hi), List.getElem?_eq_none (Nat.le_of_not_lt hi)]; rfl

theorem sort_out {h : Heap} {vs : List Value} {kl : List (List Int)} {p : Array Nat} (hK : KeysAre prog w h vs kl) (hp : Perm0 vs.length p) (hA : Asc (fun i => rowCode (kl.getD i [])) p vs.length) :
    SortedKeys prog w h (p.toList.map fun i => vs.getD i Value.none) kl (p.toList.map fun i => kl.getD i []) := by
  have hl := hK.1
  have hpr : p.toList.Perm (List.range vs.length) := by simpa using Array.Perm.toList hp
  refine ⟨⟨by simp, fun i v e => ?_⟩, ?_, ?_⟩
  · rw [List.getElem?_map] at e
    cases hi : p.toList[i]? with
    | none => rw [hi] at e; cases e
    | some j =>
      rw [hi] at e
      have e : vs.getD j Value.none = v := Option.some.inj e
      have hj : j < vs.length := List.mem_range.mp (hpr.mem_iff.mp (List.mem_of_getElem? hi))
      obtain ⟨k, a, e1, e2, e3⟩ := hK.key hj
      refine ⟨k, a, ?_, by rw [← e]; exact e2, e3⟩
      rw [List.getElem?_map, hi]
      show some (kl.getD j []) = some k
      rw [List.getD_eq_getElem?_getD, e1]; rfl
  · have h1 := hpr.map fun i => kl.getD i []
    refine h1.trans (List.Perm.of_eq ?_)
    rw [hl]
    apply List.ext_getElem?
    intro i
    rw [List.getElem?_map]
    by_cases hi : i < kl.length
    · rw [List.getElem?_range hi, List.getElem?_eq_getElem hi]
      simp [hi]
    · rw [List.getElem?_eq_none (by rw [List.length_range]; exact Nat.le_of_not_lt hi), List.getElem?_eq_none (Nat.le_of_not_lt hi)]; rfl
  · rw [List.pairwise_iff_getElem]
    intro i j hi hj hij
    have hi' : i < p.size := by simpa using hi
    have hj' : j < p.size := by simpa using hj
    have hs := hp.size
    have := asc_le hA hij (hs ▸ hj')
    simpa [gk, Array.getD, hi', hj'] using this

theorem list_sort_keys {a : Addr} {vs : List Value} {kl : List (List Int)} {n c : Nat} {P : PySem.Fin → Shared → Prop} (ho : s.heap.get? a = some (seqObj "list" vs.toArray c)) (hK : KeysAre prog w s.heap vs kl) (h12 : ∀ k ∈ kl, k ∈ keys12) (hn : ∀ k ∈ kl, k.length = n) (hnd : kl.Nodup) (h9 : kl.length ≤ 9)
    (h : ∀ h' c' out ks, (∀ b o, b ≠ a → s.heap.get? b = some o → h'.get? b = some o) → h'.get? a = some (seqObj "list" (List.toArray out) c') → SortedKeys prog w h' out kl ks → P (.done (.ret .none)) { s with heap := h' }) :
    wpAny (model prog w) A (Builtin.«list.sort» ⟨[.ref a], []⟩) P E s := by
  have hvl : vs.length ≤ 9 := by rw [hK.1]; exact h9
  obtain ⟨e1, ho1⟩ : ∃ e1, (s.heap.update a (Obj.mapSeq fun _ => (#[] : Array Value))).get? a = some (seqObj "list" #[] e1) := ⟨_, get?_update_seq ho fun _ => #[]⟩
  rw [list_sort_plain]
  refine wpAny_bind (listItems_at ho rfl ?_)
  refine wpAny_bind (listUpdate_at ho rfl ?_ (by rw [List.size_toArray, sizeLine_eq]; omega) (Nat.zero_le _))
  refine wpAny_bind (seqEpoch_at ho1 rfl ?_)
  refine wpAny_bind (wpAny_newTuple ?_ (by show vs.length ≤ _; rw [sizeLine_eq]; omega))
  refine wpAny_bind (wpAny_newList ?_ (Nat.zero_le _))
  refine wpAny_holding ?_
  show wpAny (model prog w) A _ P E { s with heap := ((s.heap.update a (Obj.mapSeq fun _ => (#[] : Array Value))).push (seqObj "tuple" vs.toArray 0)).push (seqObj "list" #[] 0) }
  dsimp only
  generalize hHd : ((s.heap.update a (Obj.mapSeq fun _ => (#[] : Array Value))).push (seqObj "tuple" vs.toArray 0)).push (seqObj "list" #[] 0) = H
  have k1 : ∀ b o, b ≠ a → s.heap.get? b = some o → H.get? b = some o := fun b o hb e => by
    rw [← hHd]
    exact Heap.get?_push_of_some _ (Heap.get?_push_of_some _ ((Heap.get?_update_other _ _ (Ne.symm hb)).trans e))
  have hoH : H.get? a = some (seqObj "list" #[] e1) := by
    rw [← hHd]
    exact Heap.get?_push_of_some _ (Heap.get?_push_of_some _ ho1)
  have notA : ∀ {k x}, KeyAt prog w s.heap k x → x ≠ a := fun {k x} hk q => by
    obtain ⟨o, items, c', e2, e3, _⟩ := hk
    rw [q, ho] at e2
    have e2 := Option.some.inj e2
    rw [← e2] at e3
    exact absurd (Value.type.inj e3) (by decide)
  have KH : ∀ {h' : Heap}, (∀ b o, b ≠ a → s.heap.get? b = some o → h'.get? b = some o) → KeysAre prog w h' vs kl := fun {h'} kp => ⟨hK.1, fun i v e => by
    obtain ⟨k, x, p1, p2, p3⟩ := hK.2 i v e
    have hne := notA p3
    obtain ⟨o, items, c', e2, r⟩ := p3
    exact ⟨k, x, p1, p2, o, items, c', kp _ _ hne e2, r⟩⟩
  have done : ∀ out ks, (∀ h' : Heap, KeysAre prog w h' vs kl → SortedKeys prog w h' out kl ks) → SortPost a s H e1 out P := fun out ks hS h' c' kp hc => by
    have kp' : ∀ b o, b ≠ a → s.heap.get? b = some o → h'.get? b = some o := fun b o hb e => kp b o hb (k1 b o hb e)
    exact h h' c' out ks kp' hc (hS h' (KH kp'))
  have hzip : (arrOf (SortSt.mk' general' (vs.toArray.zip vs.toArray) #[] 7 none)).map (·.2) = vs.toArray := by
    show (vs.toArray.zip vs.toArray).map (·.2) = vs.toArray
    apply Array.toList_inj.mp
    rw [Array.toList_map]
    simp [List.map_snd_zip]
  clear hHd h
  by_cases h2 : vs.length < 2
  · have hn2 : vs.toArray.size < 2 := by rw [List.size_toArray]; exact h2
    rw [if_pos hn2, if_pos hn2]
    refine wpAny_bind (wpAny_pure ?_)
    refine wpAny_bind (wpAny_pure ?_)
    refine sort_end (out := vs) hoH hzip rfl hvl (done vs kl fun h' K => ⟨K, List.Perm.refl _, ?_⟩)
    have : kl.length < 2 := by rw [← hK.1]; exact h2
    match kl, this with
    | [], _ => exact List.Pairwise.nil
    | [_], _ => exact List.pairwise_singleton _ _
  · have hn2 : ¬ vs.toArray.size < 2 := by rw [List.size_toArray]; exact h2
    rw [if_neg hn2, if_neg hn2]
    obtain ⟨fs, f1, f2, f3⟩ := katTups_of (n := n) (KH k1) h12
    refine wpAny_bind (kat_kind (T := .type "int") f1 (by omega) (fun v hv => ?_) (by decide) ?_)
    · obtain ⟨m, t, rfl⟩ := f3 v hv
      exact Looks.of_pure rfl
    have hb : (Value.type "int" != Value.type "tuple") = true := by decide
    rw [hb]
    have hf : Inj (fun i => rowCode (kl.getD i [])) vs.length := fun i j hi hj e => by
      have hi' : i < kl.length := by rw [← hK.1]; exact hi
      have hj' : j < kl.length := by rw [← hK.1]; exact hj
      have ei : kl.getD i [] = kl[i] := by rw [List.getD_eq_getElem?_getD, List.getElem?_eq_getElem hi']; rfl
      have ej : kl.getD j [] = kl[j] := by rw [List.getD_eq_getElem?_getD, List.getElem?_eq_getElem hj']; rfl
      have e : rowCode (kl.getD i []) = rowCode (kl.getD j []) := e
      rw [ei, ej] at e
      have m1 := List.getElem_mem hi'
      have m2 := List.getElem_mem hj'
      exact (List.getElem_inj hnd).mp (code_inj (h12 _ m1) (h12 _ m2) (by rw [hn _ m1, hn _ m2]) e)
    obtain ⟨r1, r2, r3⟩ := sort_run hf (by omega)
    refine wpAny_bind (wpAny_mono (kat_run (Q := fun st' s' => s' = { s with heap := H } ∧ arrOf st' = (krun (ltf fun i => rowCode (kl.getD i [])) (kas_sort vs.length)).map (kas_item (vs.toArray.zip vs.toArray)) ∧ failedOf st' = none)
      (G := fun p s' => p = krun (ltf fun i => rowCode (kl.getD i [])) (kas_sort vs.length) ∧ s' = { s with heap := H }) rfl (by omega) (by omega) (fun p' st' s' a1 a2 a3 a4 => ⟨a4.2, by rw [← a4.1]; exact a2, a3⟩) ?_) ?_ fun _ _ x => x)
    · refine krun_wp _ (fun i j C hi hj hC => ?_) _ r3 ⟨rfl, rfl⟩
      unfold kas_ask
      obtain ⟨ki, ai, e1, e2, e3⟩ := (KH k1).key hi
      obtain ⟨kj, aj, e4, e5, e6⟩ := (KH k1).key hj
      rw [e2, e5]
      have m1 := List.mem_of_getElem? e1
      have m2 := List.mem_of_getElem? e4
      refine keyLt_at e3 e6 (h12 _ m1) (h12 _ m2) (by rw [hn _ m1, hn _ m2]) fun r hr => ?_
      have : r = ltf (fun i => rowCode (kl.getD i [])) i j := by
        rw [Bool.eq_iff_iff, hr]
        unfold ltf
        rw [decide_eq_true_eq]
        show rowCode ki < rowCode kj ↔ rowCode (kl.getD i []) < rowCode (kl.getD j [])
        rw [List.getD_eq_getElem?_getD, e1, List.getD_eq_getElem?_getD, e4]
        rfl
      rw [this]
      exact hC
    · rintro ⟨⟨⟩, st'⟩ s' ⟨rfl, har, hfl⟩
      dsimp only at har hfl ⊢
      exact sort_end hoH (kat_snds rfl har) hfl (by rw [List.length_map, Array.length_toList, r1.size]; exact hvl) (done _ _ fun h' K => sort_out K r1 r2)

theorem set_hint {a : Addr} {Q : Bool → Shared → Prop} (hT : s.TypeIs (.ref a) "set") (h : Q false s) : wpAny (model prog w) A (Builtin.List.listLengthHint (.ref a)) Q E s := by
  unfold Builtin.List.listLengthHint
  refine wpAny_bind (wpAny_specialOf hT lookup_set_len ?_)
  generalize hid : ("set.__len__" : String) = id0
  wp_delta
  rw [show splitId id0 = some ("set", "__len__") from by subst hid; decide +kernel]
  subst hid
  refine wpAny_bind (wpAny_isInstance (T := "set") (b := true) hT sub_set_self ?_)
  refine wpAny_ite_split (fun hab => absurd hab (by decide)) (fun _ => ?_)
  refine wpAny_ite_split (fun _ => ?_) (fun hab => absurd (by decide +kernel) hab)
  refine wpAny_bind (wpAny_typeOf hT ?_)
  exact wpAny_pure h

theorem collect_set {a : Addr} {ks : List (List Int)} {Q : List Value → Shared → Prop} (hh : A.handled = none) (hS : SetTup prog w s.heap a ks) (hl : ks.length ≤ 9)
    (h : ∀ h' tk vs kl, (∀ b o, s.heap.get? b = some o → h'.get? b = some o) → KeysAre prog w h' vs kl → kl.Perm ks → Q vs { s with heap := h', toks := tk }) :
    wpAny (model prog w) A (collect (.ref a)) Q E s := by
  obtain ⟨es, ep, t, ho, X⟩ := hS
  have has : a < s.heap.objs.size := Heap.lt_size ho
  unfold collect
  refine wpAny_bind (wpAny_runValue (codeAny_builtin F.entry_proto_collect ?_))
  rw [Around.under_plainId F.plain_proto_collect _]
  show wpAny _ A.in1 (newList [] >>= fun l => again (.builtin "list.__iadd__" ⟨[l, .ref a], []⟩)) _ _ s
  refine wpAny_bind (wpAny_newObj_type ?_)
  refine wpAny_pure ⟨plainId_quiet F.plain_list_iadd _, codeAny_builtin F.entry_list_iadd ?_⟩
  rw [Around.under_plainId F.plain_list_iadd _]
  show wpAny _ A.in1 (Builtin.List.listExtendWith (.ref s.heap.objs.size) (.ref a) (.ref s.heap.objs.size)) _ _ _
  have up : ∀ b o, s.heap.get? b = some o → (s.heap.push { cls := .type "list", data := .seq ([] : List Value).toArray }).get? b = some o := fun b o e => Heap.get?_push_of_some _ e
  have X₁ : SetAt prog w (s.heap.push { cls := .type "list", data := .seq ([] : List Value).toArray }) a ks es ep t := SetAt.at ⟨ho, X⟩ fun b o e => .inr (up b o e)
  have hT : Shared.TypeIs { s with heap := s.heap.push { cls := .type "list", data := .seq ([] : List Value).toArray } } (.ref a) "set" := ⟨_, X₁.obj, rfl⟩
  have hS₁ : (s.heap.push { cls := .type "list", data := .seq ([] : List Value).toArray }).get? s.heap.objs.size = some { cls := .type "list", data := .seq ([] : List Value).toArray } := Heap.get?_push_size _ rfl
  generalize hH1 : s.heap.push { cls := .type "list", data := .seq ([] : List Value).toArray } = H1 at *
  have hSz : s.heap.objs.size < H1.objs.size := Heap.lt_size hS₁
  unfold Builtin.List.listExtendWith
  refine wpAny_bind (wpAny_typeOf hT ?_)
  have h1 : Builtin.List.listSameRef (.ref s.heap.objs.size) (.ref a) = false := by simp [Builtin.List.listSameRef, Nat.ne_of_gt has]
  have h2 : (Value.type "set" == Value.type "list") = false := by decide
  have h3 : (Value.type "set" == Value.type "tuple") = false := by decide
  simp only [h1, h2, h3, Bool.or_false, Bool.false_eq_true, if_false]
  refine wpAny_bind (wpAny_pyIter_set X₁ hl ?_)
  have up2 : ∀ b o, H1.get? b = some o → (H1.push { cls := .type "set_iterator", data := .fields #[.int 0 0, .int 0 0, .ref a, .int es.size 0, .int ep 0] }).get? b = some o := fun b o e => Heap.get?_push_of_some _ e
  have X₂ := X₁.at (h' := H1.push { cls := .type "set_iterator", data := .fields #[.int 0 0, .int 0 0, .ref a, .int es.size 0, .int ep 0] }) fun b o e => .inr (up2 b o e)
  have hI₂ : (H1.push { cls := .type "set_iterator", data := .fields #[.int 0 0, .int 0 0, .ref a, .int es.size 0, .int ep 0] }).get? H1.objs.size = some { cls := .type "set_iterator", data := .fields #[.int 0 0, .int 0 0, .ref a, .int es.size 0, .int ep 0] } := Heap.get?_push_size _ rfl
  have hS₂ := up2 _ _ hS₁
  dsimp only
  generalize hH2 : H1.push { cls := .type "set_iterator", data := .fields #[.int 0 0, .int 0 0, .ref a, .int es.size 0, .int ep 0] } = H2 at *
  refine wpAny_bind (wpAny_holding (set_hint ⟨_, X₂.obj, rfl⟩ ?_))
  refine wpAny_ite_split (fun _ => ?_) (fun hab => absurd (by decide +kernel) hab)
  refine wpAny_bind (wpAny_rule ?_)
  refine wpAny_bind ?_
  show wpAny _ _ (updateSeq s.heap.objs.size (·.push .none) >>= fun _ => updateSeq s.heap.objs.size (·.pop)) _ _ _
  refine wpAny_bind (wpAny_updateSeq hS₂ rfl ?_ (Nat.zero_le _) (by rw [sizeLine_eq]; decide))
  have hS₃ := Heap.get?_update_self (Obj.mapSeq (·.push Value.none)) hS₂ rfl
  refine wpAny_updateSeq hS₃ rfl ?_ (by rw [sizeLine_eq]; decide) (by rw [sizeLine_eq]; decide)
  have hS₄ := Heap.get?_update_self (Obj.mapSeq (·.pop)) hS₃ rfl
  have oth : ∀ b o, b ≠ s.heap.objs.size → H2.get? b = some o → ((H2.update s.heap.objs.size (Obj.mapSeq (·.push Value.none))).update s.heap.objs.size (Obj.mapSeq (·.pop))).get? b = some o :=
    fun b o hb e => (Heap.get?_update_other _ _ (Ne.symm hb)).trans ((Heap.get?_update_other _ _ (Ne.symm hb)).trans e)
  generalize hH4 : (H2.update s.heap.objs.size (Obj.mapSeq (·.push Value.none))).update s.heap.objs.size (Obj.mapSeq (·.pop)) = H4 at *
  have X₄ : SetAt prog w H4 a ks es ep t := by
    obtain ⟨e1, Y⟩ := X₂
    refine ⟨oth _ _ (Nat.ne_of_lt has) e1, Y.tab, Y.small, Y.plain, Y.led, Y.len, fun j e he => ?_, Y.nodup, Y.in12⟩
    obtain ⟨k, xa, a1, a2, o, items, n, b1, b2, b3, b4⟩ := Y.are j e he
    refine ⟨k, xa, a1, a2, o, items, n, oth _ _ (fun q => ?_) b1, b2, b3, b4⟩
    rw [q, hS₂] at b1
    have b1 := Option.some.inj b1
    rw [← b1] at b2
    exact absurd (Value.type.inj b2) (by decide)
  have hIt : IsSetIter w H4 H1.objs.size a 0 es.size ep t := by
    have hz : slotAt w t 0 = 0 := by unfold slotAt; split <;> rfl
    refine ⟨_, oth _ _ (Nat.ne_of_gt hSz) hI₂, rfl, ?_⟩
    rw [hz]; rfl
  refine wpAny_pure ⟨plainId_quiet F.plain_extend_loop _, setiter_loop (s := { s with heap := H4 }) hh hl (Nat.ne_of_lt hSz) (Nat.ne_of_lt (Nat.lt_trans has hSz)) (Nat.ne_of_lt has) (es.size - 0) 0 #[] _ rfl (Nat.zero_le _) hIt X₄ hS₄ rfl fun h' tk acc c d1 d2 d3 => ?_⟩
  show wpAny _ A (load s.heap.objs.size >>= _) _ _ _
  refine wpAny_bind (wpAny_load d1 ?_)
  refine wpAny_pure ?_
  have all : ∀ b o, s.heap.get? b = some o → h'.get? b = some o := fun b o e => by
    have hb := Heap.lt_size e
    exact d3 b o (Nat.ne_of_lt hb) (Nat.ne_of_lt (Nat.lt_trans hb hSz)) (oth b o (Nat.ne_of_lt hb) (up2 b o (up b o e)))
  rw [d2]
  -- the keys in the walk's order
  have wp := walk_perm w a es ep
  have hlen : es.toList.length = ks.length := by rw [Array.length_toList]; exact X.len
  have keyOf : ∀ e ∈ es.toList, ∃ k xa, k ∈ ks ∧ e = (rowHash k, Value.ref xa) ∧ KeyAt prog w s.heap k xa := fun e he => by
    obtain ⟨i, hi⟩ := List.mem_iff_getElem?.mp he
    rw [Array.getElem?_toList] at hi
    obtain ⟨k, xa, a1, a2, a3⟩ := X.are i e hi
    exact ⟨k, xa, List.mem_of_getElem? a1, a2, a3⟩
  let kf : Int × Value → List Int := fun e => ((keys12.find? fun k => rowHash k == e.1).getD [])
  have kfe : ∀ k xa, k ∈ ks → kf (rowHash k, Value.ref xa) = k := fun k xa hk => by
    show (keys12.find? fun k' => rowHash k' == rowHash k).getD [] = k
    cases hf : keys12.find? fun k' => rowHash k' == rowHash k with
    | none =>
      have := List.find?_eq_none.mp hf k (X.in12 k hk)
      simp at this
    | some k' =>
      have h1 := List.find?_some hf
      have h2 := List.mem_of_find?_eq_some hf
      exact hash_inj h2 (X.in12 k hk) (by simpa using h1)
  have base : es.toList.map kf = ks := by
    apply List.ext_getElem?
    intro i
    rw [List.getElem?_map, Array.getElem?_toList]
    cases hi : es[i]? with
    | none =>
      have : es.size ≤ i := by simpa using hi
      rw [List.getElem?_eq_none (by rw [← X.len]; exact this)]; rfl
    | some e =>
      obtain ⟨k, xa, a1, a2, _⟩ := X.are i e hi
      rw [a1]
      show some (kf e) = some k
      rw [a2, kfe k xa (List.mem_of_getElem? a1)]
  refine h h' tk ((walkOf w a es ep).toList.map (·.2)) ((walkOf w a es ep).toList.map kf) all ⟨by simp, fun i v e => ?_⟩ ?_
  · rw [List.getElem?_map] at e
    cases hi : (walkOf w a es ep).toList[i]? with
    | none => rw [hi] at e; cases e
    | some p =>
      rw [hi] at e
      have e : p.2 = v := Option.some.inj e
      obtain ⟨k, xa, a1, a2, a3⟩ := keyOf p (wp.mem_iff.mp (List.mem_of_getElem? hi))
      refine ⟨k, xa, ?_, by rw [← e, a2], a3.mono all⟩
      rw [List.getElem?_map, hi]
      show some (kf p) = some k
      rw [a2, kfe k xa a1]
  · exact (wp.map kf).trans (List.Perm.of_eq base)

/-- sorted(a set of keys): a list that rises -/
theorem call_sorted_set {a : Addr} {ks : List (List Int)} {n : Nat} {Q : Value → Shared → Prop} (hh : A.handled = none) (hS : SetTup prog w s.heap a ks) (hn12 : n = 1 ∨ n = 2) (hn : ∀ k ∈ ks, k.length = n)
    (h : ∀ h' tk D c out kl, (∀ b o, s.heap.get? b = some o → h'.get? b = some o) → s.heap.get? D = none → h'.get? D = some (seqObj "list" (List.toArray out) c) → SortedKeys prog w h' out ks kl → Q (.ref D) { s with heap := h', toks := tk }) :
    wpAny (model prog w) A (call (.builtin "sorted") [.ref a]) Q E s := by
  obtain ⟨es, ep, t, ho, X⟩ := id hS
  have hl := keys_len X.nodup X.in12 hn12 hn
  refine Calls.call_function_entry kind_sorted plain_sorted entry_sorted (args_sorted1 _) ?_
  unfold Builtin.«sorted»
  refine wpAny_bind (m := checkCount "sorted" 1 1 _) (wpAny_pure ?_)
  refine wpAny_bind (collect_set (A := A.in1) hh hS hl fun h1 tk vs kl up K hp => ?_)
  have hvl : vs.length ≤ 9 := by rw [K.1, hp.length_eq]; exact hl
  refine wpAny_bind (wpAny_newList ?_ (by rw [sizeLine_eq]; omega))
  dsimp only
  have hoL : (h1.push (seqObj "list" vs.toArray 0)).get? h1.objs.size = some (seqObj "list" vs.toArray 0) := Heap.get?_push_size _ rfl
  have up2 : ∀ b o, h1.get? b = some o → (h1.push (seqObj "list" vs.toArray 0)).get? b = some o := fun b o e => Heap.get?_push_of_some _ e
  refine wpAny_bind (wpAny_holding (wpAny_call_entry (s := { s with heap := h1.push (seqObj "list" vs.toArray 0), toks := tk }) slot_list_sort ⟨_, hoL, rfl⟩ entry_list_sort ?body (args_list_sort _)))
  case body =>
    refine list_sort_keys (n := n) hoL (K.mono up2) (fun k hk => X.in12 k (hp.mem_iff.mp hk)) (fun k hk => hn k (hp.mem_iff.mp hk)) (hp.nodup_iff.mpr X.nodup) (by rw [hp.length_eq]; exact hl) fun h' c' out kl' kp hc hSo => ?_
    have fresh : s.heap.get? h1.objs.size = none := by
      cases q : s.heap.get? h1.objs.size with
      | none => rfl
      | some o => exact absurd (Heap.lt_size (up _ _ q)) (Nat.lt_irrefl _)
    refine ⟨_, rfl, wpAny_pure ⟨_, rfl, h h' tk h1.objs.size c' out kl' (fun b o e => kp b o (Nat.ne_of_lt (Heap.lt_size (up b o e))) (up2 b o (up b o e))) fresh hc ⟨hSo.are, hSo.perm.trans hp, hSo.rises⟩⟩⟩
end
end

section
open PySem PySem.W PyProof.Rows
noncomputable def nS : List Stmt → Nat → Option Stmt
  | [], _ => none
  | a :: _, 0 => some a
  | _ :: l, n + 1 => nS l n
noncomputable def bodyOf : Option Stmt → List Stmt
  | some (.ClassDef _ _ _ b _ _ _ _ _ _ _) => b
  | _ => []
noncomputable def nT (i : Nat) : Option Stmt := nS Challenge.pw_nu0267_01.main.body i
noncomputable def nM (i j : Nat) : Option Stmt := nS (bodyOf (nT i)) j
noncomputable def noNames : List Stmt → List Stmt
  | [] => []
  | .Assign _ _ _ :: l => noNames l
  | a :: l => a :: noNames l
noncomputable def vs (x : String) (t : Tok) : Value := .str (Str.ofString x) t
noncomputable def en (P : Params) (x : String) (t : Tok) (v : Value) : DictEntry := ⟨PyData.keyHash P (Str.ofString x), vs x t, v⟩
/-- a function's object, made of the def that the text holds -/
noncomputable def fdOf : Option Stmt → String → List (Str × Addr) → Value → Addr → Value → Obj
  | some (.FunctionDef n ps b _ _ _ sc _ _ _), q, cl, m, cd, ct =>
    { cls := .type "function", data := .func { name := n, qualname := Str.ofString q, params := ps, body := .stmts b, scope := sc, globals := 3, closure := cl, defaults := .none, kwdefaults := .none, pyModule := m, code := .ref cd, closureTuple := ct } }
  | _, _, _, _, _, _ => { cls := .none }
/-- the program's view: its statements less the four lines that name a module -/
noncomputable def hd.view_39 : Program := { Challenge.pw_nu0267_01 with main := { Challenge.pw_nu0267_01.main with body := noNames Challenge.pw_nu0267_01.main.body } }
noncomputable def hd.heap_39 : Params → Frag := fun P =>
  (nat_lit 2, { cls := .none, data := .dict #[en P "type.__subclasses__.Exception.0" 223 (.int 40 0), en P "type.__subclasses__.Exception.n" 224 (.int 1 0)] 2 }) ::
  (nat_lit 3, { cls := .type "dict", data := .dict #[en P "__name__" 165 (vs "law_nu0267_01" 431), en P "__doc__" 166 (.none), en P "__package__" 167 (.none), en P "__loader__" 168 (.builtin "__main__.__loader__#opaque"), en P "__spec__" 169 (.none), en P "__annotations__" 170 (.ref 6), en P "__builtins__" 171 (.ref 4), en P "__file__" 173 (vs "/claim/cut.py" 172), en P "__cached__" 174 (.none), en P "FinderError" 226 (.ref 40), en P "BoundFault" 242 (.ref 53), en P "minus" 250 (.ref 60), en P "is_within" 258 (.ref 67), en P "Universe" 326 (.ref 115), en P "Bounds" 430 (.ref 192), en P "_law_digit" 441 (.ref 203), en P "_law_rows" 447 (.ref 208), en P "_law_is_set" 453 (.ref 213), en P "_law_bent" 464 (.ref 220), en P "_law_taken" 476 (.ref 227), en P "_law_number" 484 (.ref 234), en P "_law_is_kept" 490 (.ref 239), en P "_law_made" 497 (.ref 246), en P "_law_are_atoms_right" 503 (.ref 251), en P "_law_text" 509 (.ref 256), en P "law" 515 (.ref 261)] 26 }) ::
  (nat_lit 15, { cls := .type "tuple", data := .seq #[.type "Exception"] }) ::
  (nat_lit 18, { cls := .type "cell", data := .cell (some (.ref 40)) }) ::
  (nat_lit 23, { cls := .type "tuple", data := .seq #[.ref 18] }) ::
  (nat_lit 24, { cls := .type "tuple", data := .seq #[vs "__class__" 204] }) ::
  (nat_lit 26, { cls := .type "tuple", data := .seq #[vs "self" 205, vs "what" 206] }) ::
  (nat_lit 27, { cls := .type "tuple", data := .seq #[] }) ::
  (nat_lit 29, { cls := .type "code", data := .fields #[vs "__init__" 201, vs "FinderError.__init__" 202, vs "/claim/cut.py" 203, .int 4 0, .int 2 0, .int 0 0, .int 0 0, .int 3 0, .ref 24, .bool true, .int 181 0, .ref 25, .none, .ref 26, .ref 27, .ref 28, .int 207 0, .int 4 0, vs "/claim/cut.py" 208] }) ::
  (nat_lit 30, fdOf (nM 1 0) "FinderError.__init__" [(Str.ofString "__class__", 18)] (vs "relfinder.errors" 187) 29 (Value.ref 23)) ::
  (nat_lit 31, { cls := .type "tuple", data := .seq #[] }) ::
  (nat_lit 33, { cls := .type "tuple", data := .seq #[vs "self" 213] }) ::
  (nat_lit 34, { cls := .type "tuple", data := .seq #[] }) ::
  (nat_lit 36, { cls := .type "code", data := .fields #[vs "told" 210, vs "FinderError.told" 211, vs "/claim/cut.py" 212, .int 8 0, .int 1 0, .int 0 0, .int 0 0, .int 3 0, .ref 31, .bool true, .int 181 0, .ref 32, .none, .ref 33, .ref 34, .ref 35, .int 214 0, .int 8 0, vs "/claim/cut.py" 215] }) ::
  (nat_lit 37, fdOf (nM 1 1) "FinderError.told" [] (vs "relfinder.errors" 187) 36 (Value.none)) ::
  (nat_lit 38, { cls := .type "tuple", data := .seq #[vs "what" 217] }) ::
  (nat_lit 39, { cls := .type "dict", data := .dict #[en P "__module__" 196 (vs "relfinder.errors" 187), en P "__firstlineno__" 200 (.int 2 199), en P "__init__" 209 (.ref 30), en P "told" 216 (.ref 37), en P "__static_attributes__" 218 (.ref 38), en P "__weakref__" 221 (.ref 41), en P "__doc__" 222 (.none)] 4 }) ::
  (nat_lit 40, { cls := .type "type", data := .cls { name := .ofString "FinderError", bases := [.type "Exception"], mro := [.ref 40, .type "Exception", .type "BaseException", .type "object"], ns := 39, qualname := .ofString "FinderError", subclasses := [.ref 53] }, slots := #[some (.ref 15), none, some (vs "FinderError" 189), some (vs "FinderError" 197), some (.builtin "Exception.__new__"), some (.bool true)] }) ::
  (nat_lit 41, { cls := .type "getset_descriptor", data := .fields #[vs "__weakref__" 220, .ref 40, .builtin "ExceptionGroup.__weakref__", .none] }) ::
  (nat_lit 44, { cls := .type "tuple", data := .seq #[.ref 40] }) ::
  (nat_lit 51, { cls := .type "tuple", data := .seq #[] }) ::
  (nat_lit 52, { cls := .type "dict", data := .dict #[en P "__module__" 234 (vs "relfinder.errors" 187), en P "__firstlineno__" 238 (.int 10 237), en P "__static_attributes__" 239 (.ref 51), en P "__doc__" 240 (.none)] 2 }) ::
  (nat_lit 53, { cls := .type "type", data := .cls { name := .ofString "BoundFault", bases := [.ref 40], mro := [.ref 53, .ref 40, .type "Exception", .type "BaseException", .type "object"], ns := 52, qualname := .ofString "BoundFault" }, slots := #[some (.ref 44), none, some (vs "BoundFault" 227), some (vs "BoundFault" 235), some (.builtin "Exception.__new__"), some (.bool true)] }) ::
  (nat_lit 56, { cls := .type "tuple", data := .seq #[] }) ::
  (nat_lit 59, { cls := .type "code", data := .fields #[vs "minus" 245, vs "minus" 246, vs "/claim/cut.py" 247, .int 13 0, .int 2 0, .int 0 0, .int 0 0, .int 3 0, .ref 56, .bool true, .int 181 0, .ref 57, .none, .none, .none, .ref 58, .int 248 0, .int 13 0, vs "/claim/cut.py" 249] }) ::
  (nat_lit 60, fdOf (nT 4) "minus" [] (vs "relfinder.sets" 243) 59 (Value.none)) ::
  (nat_lit 61, { cls := .type "tuple", data := .seq #[] }) ::
  (nat_lit 63, { cls := .type "tuple", data := .seq #[vs "s" 254, vs "t" 255] }) ::
  (nat_lit 64, { cls := .type "tuple", data := .seq #[] }) ::
  (nat_lit 66, { cls := .type "code", data := .fields #[vs "is_within" 251, vs "is_within" 252, vs "/claim/cut.py" 253, .int 16 0, .int 2 0, .int 0 0, .int 0 0, .int 3 0, .ref 61, .bool true, .int 181 0, .ref 62, .none, .ref 63, .ref 64, .ref 65, .int 256 0, .int 16 0, vs "/claim/cut.py" 257] }) ::
  (nat_lit 67, fdOf (nT 5) "is_within" [] (vs "relfinder.sets" 243) 66 (Value.none)) ::
  (nat_lit 75, { cls := .type "tuple", data := .seq #[] }) ::
  (nat_lit 77, { cls := .type "tuple", data := .seq #[vs "self" 276, vs "names" 277, vs "name" 278] }) ::
  (nat_lit 78, { cls := .type "tuple", data := .seq #[] }) ::
  (nat_lit 80, { cls := .type "code", data := .fields #[vs "__init__" 273, vs "Universe.__init__" 274, vs "/claim/cut.py" 275, .int 21 0, .int 2 0, .int 0 0, .int 0 0, .int 3 0, .ref 75, .bool true, .int 181 0, .ref 76, .none, .ref 77, .ref 78, .ref 79, .int 279 0, .int 21 0, vs "/claim/cut.py" 280] }) ::
  (nat_lit 81, fdOf (nM 7 0) "Universe.__init__" [] (vs "relfinder.universe" 259) 80 (Value.none)) ::
  (nat_lit 82, { cls := .type "tuple", data := .seq #[] }) ::
  (nat_lit 84, { cls := .type "tuple", data := .seq #[vs "self" 285] }) ::
  (nat_lit 85, { cls := .type "tuple", data := .seq #[] }) ::
  (nat_lit 87, { cls := .type "code", data := .fields #[vs "size" 282, vs "Universe.size" 283, vs "/claim/cut.py" 284, .int 29 0, .int 1 0, .int 0 0, .int 0 0, .int 3 0, .ref 82, .bool true, .int 181 0, .ref 83, .none, .ref 84, .ref 85, .ref 86, .int 286 0, .int 29 0, vs "/claim/cut.py" 287] }) ::
  (nat_lit 88, fdOf (nM 7 1) "Universe.size" [] (vs "relfinder.universe" 259) 87 (Value.none)) ::
  (nat_lit 89, { cls := .type "tuple", data := .seq #[] }) ::
  (nat_lit 91, { cls := .type "tuple", data := .seq #[vs "self" 292, vs "a" 293] }) ::
  (nat_lit 92, { cls := .type "tuple", data := .seq #[] }) ::
  (nat_lit 94, { cls := .type "code", data := .fields #[vs "name" 289, vs "Universe.name" 290, vs "/claim/cut.py" 291, .int 32 0, .int 2 0, .int 0 0, .int 0 0, .int 3 0, .ref 89, .bool true, .int 181 0, .ref 90, .none, .ref 91, .ref 92, .ref 93, .int 294 0, .int 32 0, vs "/claim/cut.py" 295] }) ::
  (nat_lit 95, fdOf (nM 7 2) "Universe.name" [] (vs "relfinder.universe" 259) 94 (Value.none)) ::
  (nat_lit 96, { cls := .type "tuple", data := .seq #[] }) ::
  (nat_lit 98, { cls := .type "tuple", data := .seq #[vs "self" 300, vs "name" 301] }) ::
  (nat_lit 99, { cls := .type "tuple", data := .seq #[] }) ::
  (nat_lit 101, { cls := .type "code", data := .fields #[vs "atom" 297, vs "Universe.atom" 298, vs "/claim/cut.py" 299, .int 35 0, .int 2 0, .int 0 0, .int 0 0, .int 3 0, .ref 96, .bool true, .int 181 0, .ref 97, .none, .ref 98, .ref 99, .ref 100, .int 302 0, .int 35 0, vs "/claim/cut.py" 303] }) ::
  (nat_lit 102, fdOf (nM 7 3) "Universe.atom" [] (vs "relfinder.universe" 259) 101 (Value.none)) ::
  (nat_lit 103, { cls := .type "tuple", data := .seq #[] }) ::
  (nat_lit 106, { cls := .type "code", data := .fields #[vs "text_of" 305, vs "Universe.text_of" 306, vs "/claim/cut.py" 307, .int 40 0, .int 2 0, .int 0 0, .int 0 0, .int 3 0, .ref 103, .bool true, .int 181 0, .ref 104, .none, .none, .none, .ref 105, .int 308 0, .int 40 0, vs "/claim/cut.py" 309] }) ::
  (nat_lit 107, fdOf (nM 7 4) "Universe.text_of" [] (vs "relfinder.universe" 259) 106 (Value.none)) ::
  (nat_lit 108, { cls := .type "tuple", data := .seq #[] }) ::
  (nat_lit 111, { cls := .type "code", data := .fields #[vs "set_text" 311, vs "Universe.set_text" 312, vs "/claim/cut.py" 313, .int 43 0, .int 2 0, .int 0 0, .int 0 0, .int 3 0, .ref 108, .bool true, .int 181 0, .ref 109, .none, .none, .none, .ref 110, .int 314 0, .int 43 0, vs "/claim/cut.py" 315] }) ::
  (nat_lit 112, fdOf (nM 7 5) "Universe.set_text" [] (vs "relfinder.universe" 259) 111 (Value.none)) ::
  (nat_lit 113, { cls := .type "tuple", data := .seq #[vs "names" 317, vs "numbers" 318] }) ::
  (nat_lit 114, { cls := .type "dict", data := .dict #[en P "__module__" 268 (vs "relfinder.universe" 259), en P "__firstlineno__" 272 (.int 19 271), en P "__init__" 281 (.ref 81), en P "size" 288 (.ref 88), en P "name" 296 (.ref 95), en P "atom" 304 (.ref 102), en P "text_of" 310 (.ref 107), en P "set_text" 316 (.ref 112), en P "__static_attributes__" 319 (.ref 113), en P "__dict__" 321 (.ref 116), en P "__weakref__" 323 (.ref 117), en P "__doc__" 324 (.none)] 4 }) ::
  (nat_lit 115, { cls := .type "type", data := .cls { name := .ofString "Universe", bases := [.type "object"], mro := [.ref 115, .type "object"], ns := 114, qualname := .ofString "Universe" }, slots := #[none, none, some (vs "Universe" 261), some (vs "Universe" 269), some (.builtin "object.__new__"), some (.bool true)] }) ::
  (nat_lit 116, { cls := .type "getset_descriptor", data := .fields #[vs "__dict__" 320, .ref 115, .builtin "function.__dict__", .builtin "function.__dict__#set"] }) ::
  (nat_lit 117, { cls := .type "getset_descriptor", data := .fields #[vs "__weakref__" 322, .ref 115, .builtin "ExceptionGroup.__weakref__", .none] }) ::
  (nat_lit 127, { cls := .type "tuple", data := .seq #[] }) ::
  (nat_lit 129, { cls := .type "tuple", data := .seq #[vs "self" 342, vs "universe" 343] }) ::
  (nat_lit 130, { cls := .type "tuple", data := .seq #[] }) ::
  (nat_lit 132, { cls := .type "code", data := .fields #[vs "__init__" 339, vs "Bounds.__init__" 340, vs "/claim/cut.py" 341, .int 47 0, .int 2 0, .int 0 0, .int 0 0, .int 3 0, .ref 127, .bool true, .int 181 0, .ref 128, .none, .ref 129, .ref 130, .ref 131, .int 344 0, .int 47 0, vs "/claim/cut.py" 345] }) ::
  (nat_lit 133, fdOf (nM 8 0) "Bounds.__init__" [] (vs "relfinder.universe" 259) 132 (Value.none)) ::
  (nat_lit 134, { cls := .type "tuple", data := .seq #[] }) ::
  (nat_lit 136, { cls := .type "tuple", data := .seq #[vs "self" 350, vs "name" 351, vs "arity" 352, vs "lower" 353, vs "upper" 354] }) ::
  (nat_lit 137, { cls := .type "tuple", data := .seq #[] }) ::
  (nat_lit 139, { cls := .type "code", data := .fields #[vs "add" 347, vs "Bounds.add" 348, vs "/claim/cut.py" 349, .int 52 0, .int 5 0, .int 0 0, .int 0 0, .int 3 0, .ref 134, .bool true, .int 181 0, .ref 135, .none, .ref 136, .ref 137, .ref 138, .int 355 0, .int 52 0, vs "/claim/cut.py" 356] }) ::
  (nat_lit 140, fdOf (nM 8 1) "Bounds.add" [] (vs "relfinder.universe" 259) 139 (Value.none)) ::
  (nat_lit 141, { cls := .type "tuple", data := .seq #[] }) ::
  (nat_lit 143, { cls := .type "tuple", data := .seq #[vs "self" 361, vs "name" 362, vs "arity" 363, vs "some" 364, vs "row" 365, vs "a" 366, vs "k" 367] }) ::
  (nat_lit 144, { cls := .type "tuple", data := .seq #[] }) ::
  (nat_lit 146, { cls := .type "code", data := .fields #[vs "want_set" 358, vs "Bounds.want_set" 359, vs "/claim/cut.py" 360, .int 65 0, .int 4 0, .int 0 0, .int 0 0, .int 3 0, .ref 141, .bool true, .int 181 0, .ref 142, .none, .ref 143, .ref 144, .ref 145, .int 368 0, .int 65 0, vs "/claim/cut.py" 369] }) ::
  (nat_lit 147, fdOf (nM 8 2) "Bounds.want_set" [] (vs "relfinder.universe" 259) 146 (Value.none)) ::
  (nat_lit 148, { cls := .type "tuple", data := .seq #[] }) ::
  (nat_lit 150, { cls := .type "tuple", data := .seq #[vs "self" 374, vs "name" 375, vs "arity" 376, vs "some" 377] }) ::
  (nat_lit 151, { cls := .type "tuple", data := .seq #[] }) ::
  (nat_lit 153, { cls := .type "code", data := .fields #[vs "exactly" 371, vs "Bounds.exactly" 372, vs "/claim/cut.py" 373, .int 78 0, .int 4 0, .int 0 0, .int 0 0, .int 3 0, .ref 148, .bool true, .int 181 0, .ref 149, .none, .ref 150, .ref 151, .ref 152, .int 378 0, .int 78 0, vs "/claim/cut.py" 379] }) ::
  (nat_lit 154, fdOf (nM 8 3) "Bounds.exactly" [] (vs "relfinder.universe" 259) 153 (Value.none)) ::
  (nat_lit 155, { cls := .type "tuple", data := .seq #[] }) ::
  (nat_lit 157, { cls := .type "tuple", data := .seq #[vs "self" 384, vs "r" 385] }) ::
  (nat_lit 158, { cls := .type "tuple", data := .seq #[] }) ::
  (nat_lit 160, { cls := .type "code", data := .fields #[vs "bound" 381, vs "Bounds.bound" 382, vs "/claim/cut.py" 383, .int 81 0, .int 2 0, .int 0 0, .int 0 0, .int 3 0, .ref 155, .bool true, .int 181 0, .ref 156, .none, .ref 157, .ref 158, .ref 159, .int 386 0, .int 81 0, vs "/claim/cut.py" 387] }) ::
  (nat_lit 161, fdOf (nM 8 4) "Bounds.bound" [] (vs "relfinder.universe" 259) 160 (Value.none)) ::
  (nat_lit 162, { cls := .type "tuple", data := .seq #[] }) ::
  (nat_lit 164, { cls := .type "tuple", data := .seq #[vs "self" 392] }) ::
  (nat_lit 165, { cls := .type "tuple", data := .seq #[] }) ::
  (nat_lit 167, { cls := .type "code", data := .fields #[vs "size" 389, vs "Bounds.size" 390, vs "/claim/cut.py" 391, .int 84 0, .int 1 0, .int 0 0, .int 0 0, .int 3 0, .ref 162, .bool true, .int 181 0, .ref 163, .none, .ref 164, .ref 165, .ref 166, .int 393 0, .int 84 0, vs "/claim/cut.py" 394] }) ::
  (nat_lit 168, fdOf (nM 8 5) "Bounds.size" [] (vs "relfinder.universe" 259) 167 (Value.none)) ::
  (nat_lit 169, { cls := .type "tuple", data := .seq #[] }) ::
  (nat_lit 171, { cls := .type "tuple", data := .seq #[vs "self" 399, vs "r" 400] }) ::
  (nat_lit 172, { cls := .type "tuple", data := .seq #[] }) ::
  (nat_lit 174, { cls := .type "code", data := .fields #[vs "lower" 396, vs "Bounds.lower" 397, vs "/claim/cut.py" 398, .int 87 0, .int 2 0, .int 0 0, .int 0 0, .int 3 0, .ref 169, .bool true, .int 181 0, .ref 170, .none, .ref 171, .ref 172, .ref 173, .int 401 0, .int 87 0, vs "/claim/cut.py" 402] }) ::
  (nat_lit 175, fdOf (nM 8 6) "Bounds.lower" [] (vs "relfinder.universe" 259) 174 (Value.none)) ::
  (nat_lit 176, { cls := .type "tuple", data := .seq #[] }) ::
  (nat_lit 178, { cls := .type "tuple", data := .seq #[vs "self" 407, vs "r" 408] }) ::
  (nat_lit 179, { cls := .type "tuple", data := .seq #[] }) ::
  (nat_lit 181, { cls := .type "code", data := .fields #[vs "upper" 404, vs "Bounds.upper" 405, vs "/claim/cut.py" 406, .int 90 0, .int 2 0, .int 0 0, .int 0 0, .int 3 0, .ref 176, .bool true, .int 181 0, .ref 177, .none, .ref 178, .ref 179, .ref 180, .int 409 0, .int 90 0, vs "/claim/cut.py" 410] }) ::
  (nat_lit 182, fdOf (nM 8 7) "Bounds.upper" [] (vs "relfinder.universe" 259) 181 (Value.none)) ::
  (nat_lit 183, { cls := .type "tuple", data := .seq #[] }) ::
  (nat_lit 185, { cls := .type "tuple", data := .seq #[vs "self" 415, vs "name" 416] }) ::
  (nat_lit 186, { cls := .type "tuple", data := .seq #[] }) ::
  (nat_lit 188, { cls := .type "code", data := .fields #[vs "number_of" 412, vs "Bounds.number_of" 413, vs "/claim/cut.py" 414, .int 93 0, .int 2 0, .int 0 0, .int 0 0, .int 3 0, .ref 183, .bool true, .int 181 0, .ref 184, .none, .ref 185, .ref 186, .ref 187, .int 417 0, .int 93 0, vs "/claim/cut.py" 418] }) ::
  (nat_lit 189, fdOf (nM 8 8) "Bounds.number_of" [] (vs "relfinder.universe" 259) 188 (Value.none)) ::
  (nat_lit 190, { cls := .type "tuple", data := .seq #[vs "bounds" 420, vs "numbers" 421, vs "universe" 422] }) ::
  (nat_lit 191, { cls := .type "dict", data := .dict #[en P "__module__" 334 (vs "relfinder.universe" 259), en P "__firstlineno__" 338 (.int 45 337), en P "__init__" 346 (.ref 133), en P "add" 357 (.ref 140), en P "want_set" 370 (.ref 147), en P "exactly" 380 (.ref 154), en P "bound" 388 (.ref 161), en P "size" 395 (.ref 168), en P "lower" 403 (.ref 175), en P "upper" 411 (.ref 182), en P "number_of" 419 (.ref 189), en P "__static_attributes__" 423 (.ref 190), en P "__dict__" 425 (.ref 193), en P "__weakref__" 427 (.ref 194), en P "__doc__" 428 (.none)] 4 }) ::
  (nat_lit 192, { cls := .type "type", data := .cls { name := .ofString "Bounds", bases := [.type "object"], mro := [.ref 192, .type "object"], ns := 191, qualname := .ofString "Bounds" }, slots := #[none, none, some (vs "Bounds" 327), some (vs "Bounds" 335), some (.builtin "object.__new__"), some (.bool true)] }) ::
  (nat_lit 193, { cls := .type "getset_descriptor", data := .fields #[vs "__dict__" 424, .ref 192, .builtin "function.__dict__", .builtin "function.__dict__#set"] }) ::
  (nat_lit 194, { cls := .type "getset_descriptor", data := .fields #[vs "__weakref__" 426, .ref 192, .builtin "ExceptionGroup.__weakref__", .none] }) ::
  (nat_lit 197, { cls := .type "tuple", data := .seq #[] }) ::
  (nat_lit 199, { cls := .type "tuple", data := .seq #[vs "rest" 436, vs "many" 437, vs "found" 438] }) ::
  (nat_lit 200, { cls := .type "tuple", data := .seq #[] }) ::
  (nat_lit 202, { cls := .type "code", data := .fields #[vs "_law_digit" 433, vs "_law_digit" 434, vs "/claim/cut.py" 435, .int 98 0, .int 2 0, .int 0 0, .int 0 0, .int 3 0, .ref 197, .bool true, .int 181 0, .ref 198, .none, .ref 199, .ref 200, .ref 201, .int 439 0, .int 98 0, vs "/claim/cut.py" 440] }) ::
  (nat_lit 203, fdOf (nT 10) "_law_digit" [] (vs "law_nu0267_01" 431) 202 (Value.none)) ::
  (nat_lit 204, { cls := .type "tuple", data := .seq #[] }) ::
  (nat_lit 207, { cls := .type "code", data := .fields #[vs "_law_rows" 442, vs "_law_rows" 443, vs "/claim/cut.py" 444, .int 102 0, .int 2 0, .int 0 0, .int 0 0, .int 3 0, .ref 204, .bool true, .int 181 0, .ref 205, .none, .none, .none, .ref 206, .int 445 0, .int 102 0, vs "/claim/cut.py" 446] }) ::
  (nat_lit 208, fdOf (nT 11) "_law_rows" [] (vs "law_nu0267_01" 431) 207 (Value.none)) ::
  (nat_lit 209, { cls := .type "tuple", data := .seq #[] }) ::
  (nat_lit 212, { cls := .type "code", data := .fields #[vs "_law_is_set" 448, vs "_law_is_set" 449, vs "/claim/cut.py" 450, .int 107 0, .int 3 0, .int 0 0, .int 0 0, .int 3 0, .ref 209, .bool true, .int 181 0, .ref 210, .none, .none, .none, .ref 211, .int 451 0, .int 107 0, vs "/claim/cut.py" 452] }) ::
  (nat_lit 213, fdOf (nT 12) "_law_is_set" [] (vs "law_nu0267_01" 431) 212 (Value.none)) ::
  (nat_lit 214, { cls := .type "tuple", data := .seq #[] }) ::
  (nat_lit 216, { cls := .type "tuple", data := .seq #[vs "bend" 457, vs "n" 458, vs "arity" 459, vs "lower" 460, vs "upper" 461] }) ::
  (nat_lit 217, { cls := .type "tuple", data := .seq #[] }) ::
  (nat_lit 219, { cls := .type "code", data := .fields #[vs "_law_bent" 454, vs "_law_bent" 455, vs "/claim/cut.py" 456, .int 116 0, .int 5 0, .int 0 0, .int 0 0, .int 3 0, .ref 214, .bool true, .int 181 0, .ref 215, .none, .ref 216, .ref 217, .ref 218, .int 462 0, .int 116 0, vs "/claim/cut.py" 463] }) ::
  (nat_lit 220, fdOf (nT 13) "_law_bent" [] (vs "law_nu0267_01" 431) 219 (Value.none)) ::
  (nat_lit 221, { cls := .type "tuple", data := .seq #[] }) ::
  (nat_lit 223, { cls := .type "tuple", data := .seq #[vs "bounds" 468, vs "name" 469, vs "arity" 470, vs "lower" 471, vs "upper" 472, vs "is_exact" 473] }) ::
  (nat_lit 224, { cls := .type "tuple", data := .seq #[] }) ::
  (nat_lit 226, { cls := .type "code", data := .fields #[vs "_law_taken" 465, vs "_law_taken" 466, vs "/claim/cut.py" 467, .int 134 0, .int 6 0, .int 0 0, .int 0 0, .int 3 0, .ref 221, .bool true, .int 181 0, .ref 222, .none, .ref 223, .ref 224, .ref 225, .int 474 0, .int 134 0, vs "/claim/cut.py" 475] }) ::
  (nat_lit 227, fdOf (nT 14) "_law_taken" [] (vs "law_nu0267_01" 431) 226 (Value.none)) ::
  (nat_lit 228, { cls := .type "tuple", data := .seq #[] }) ::
  (nat_lit 230, { cls := .type "tuple", data := .seq #[vs "bounds" 480, vs "name" 481] }) ::
  (nat_lit 231, { cls := .type "tuple", data := .seq #[] }) ::
  (nat_lit 233, { cls := .type "code", data := .fields #[vs "_law_number" 477, vs "_law_number" 478, vs "/claim/cut.py" 479, .int 139 0, .int 2 0, .int 0 0, .int 0 0, .int 3 0, .ref 228, .bool true, .int 181 0, .ref 229, .none, .ref 230, .ref 231, .ref 232, .int 482 0, .int 139 0, vs "/claim/cut.py" 483] }) ::
  (nat_lit 234, fdOf (nT 15) "_law_number" [] (vs "law_nu0267_01" 431) 233 (Value.none)) ::
  (nat_lit 235, { cls := .type "tuple", data := .seq #[] }) ::
  (nat_lit 238, { cls := .type "code", data := .fields #[vs "_law_is_kept" 485, vs "_law_is_kept" 486, vs "/claim/cut.py" 487, .int 144 0, .int 2 0, .int 0 0, .int 0 0, .int 3 0, .ref 235, .bool true, .int 181 0, .ref 236, .none, .none, .none, .ref 237, .int 488 0, .int 144 0, vs "/claim/cut.py" 489] }) ::
  (nat_lit 239, fdOf (nT 16) "_law_is_kept" [] (vs "law_nu0267_01" 431) 238 (Value.none)) ::
  (nat_lit 240, { cls := .type "tuple", data := .seq #[] }) ::
  (nat_lit 242, { cls := .type "tuple", data := .seq #[vs "names" 494] }) ::
  (nat_lit 243, { cls := .type "tuple", data := .seq #[] }) ::
  (nat_lit 245, { cls := .type "code", data := .fields #[vs "_law_made" 491, vs "_law_made" 492, vs "/claim/cut.py" 493, .int 152 0, .int 1 0, .int 0 0, .int 0 0, .int 3 0, .ref 240, .bool true, .int 181 0, .ref 241, .none, .ref 242, .ref 243, .ref 244, .int 495 0, .int 152 0, vs "/claim/cut.py" 496] }) ::
  (nat_lit 246, fdOf (nT 17) "_law_made" [] (vs "law_nu0267_01" 431) 245 (Value.none)) ::
  (nat_lit 247, { cls := .type "tuple", data := .seq #[] }) ::
  (nat_lit 250, { cls := .type "code", data := .fields #[vs "_law_are_atoms_right" 498, vs "_law_are_atoms_right" 499, vs "/claim/cut.py" 500, .int 157 0, .int 2 0, .int 0 0, .int 0 0, .int 3 0, .ref 247, .bool true, .int 181 0, .ref 248, .none, .none, .none, .ref 249, .int 501 0, .int 157 0, vs "/claim/cut.py" 502] }) ::
  (nat_lit 251, fdOf (nT 18) "_law_are_atoms_right" [] (vs "law_nu0267_01" 431) 250 (Value.none)) ::
  (nat_lit 252, { cls := .type "tuple", data := .seq #[] }) ::
  (nat_lit 255, { cls := .type "code", data := .fields #[vs "_law_text" 504, vs "_law_text" 505, vs "/claim/cut.py" 506, .int 165 0, .int 2 0, .int 0 0, .int 0 0, .int 3 0, .ref 252, .bool true, .int 181 0, .ref 253, .none, .none, .none, .ref 254, .int 507 0, .int 165 0, vs "/claim/cut.py" 508] }) ::
  (nat_lit 256, fdOf (nT 19) "_law_text" [] (vs "law_nu0267_01" 431) 255 (Value.none)) ::
  (nat_lit 257, { cls := .type "tuple", data := .seq #[] }) ::
  (nat_lit 260, { cls := .type "code", data := .fields #[vs "law" 510, vs "law" 511, vs "/claim/cut.py" 512, .int 170 0, .int 1 0, .int 0 0, .int 0 0, .int 3 0, .ref 257, .bool true, .int 181 0, .ref 258, .none, .none, .none, .ref 259, .int 513 0, .int 170 0, vs "/claim/cut.py" 514] }) ::
  (nat_lit 261, fdOf (nT 20) "law" [] (vs "law_nu0267_01" 431) 260 (Value.none)) :: []
noncomputable def hdAs : List Addr := nat_lit 2 :: nat_lit 3 :: nat_lit 15 :: nat_lit 18 :: nat_lit 23 :: nat_lit 24 :: nat_lit 26 :: nat_lit 27 :: nat_lit 29 :: nat_lit 30 :: nat_lit 31 :: nat_lit 33 :: nat_lit 34 :: nat_lit 36 :: nat_lit 37 :: nat_lit 38 :: nat_lit 39 :: nat_lit 40 :: nat_lit 41 :: nat_lit 44 :: nat_lit 51 :: nat_lit 52 :: nat_lit 53 :: nat_lit 56 :: nat_lit 59 :: nat_lit 60 :: nat_lit 61 :: nat_lit 63 :: nat_lit 64 :: nat_lit 66 :: nat_lit 67 :: nat_lit 75 :: nat_lit 77 :: nat_lit 78 :: nat_lit 80 :: nat_lit 81 :: nat_lit 82 :: nat_lit 84 :: nat_lit 85 :: nat_lit 87 :: nat_lit 88 :: nat_lit 89 :: nat_lit 91 :: nat_lit 92 :: nat_lit 94 :: nat_lit 95 :: nat_lit 96 :: nat_lit 98 :: nat_lit 99 :: nat_lit 101 :: nat_lit 102 :: nat_lit 103 :: nat_lit 106 :: nat_lit 107 :: nat_lit 108 :: nat_lit 111 :: nat_lit 112 :: nat_lit 113 :: nat_lit 114 :: nat_lit 115 :: nat_lit 116 :: nat_lit 117 :: nat_lit 127 :: nat_lit 129 :: nat_lit 130 :: nat_lit 132 :: nat_lit 133 :: nat_lit 134 :: nat_lit 136 :: nat_lit 137 :: nat_lit 139 :: nat_lit 140 :: nat_lit 141 :: nat_lit 143 :: nat_lit 144 :: nat_lit 146 :: nat_lit 147 :: nat_lit 148 :: nat_lit 150 :: nat_lit 151 :: nat_lit 153 :: nat_lit 154 :: nat_lit 155 :: nat_lit 157 :: nat_lit 158 :: nat_lit 160 :: nat_lit 161 :: nat_lit 162 :: nat_lit 164 :: nat_lit 165 :: nat_lit 167 :: nat_lit 168 :: nat_lit 169 :: nat_lit 171 :: nat_lit 172 :: nat_lit 174 :: nat_lit 175 :: nat_lit 176 :: nat_lit 178 :: nat_lit 179 :: nat_lit 181 :: nat_lit 182 :: nat_lit 183 :: nat_lit 185 :: nat_lit 186 :: nat_lit 188 :: nat_lit 189 :: nat_lit 190 :: nat_lit 191 :: nat_lit 192 :: nat_lit 193 :: nat_lit 194 :: nat_lit 197 :: nat_lit 199 :: nat_lit 200 :: nat_lit 202 :: nat_lit 203 :: nat_lit 204 :: nat_lit 207 :: nat_lit 208 :: nat_lit 209 :: nat_lit 212 :: nat_lit 213 :: nat_lit 214 :: nat_lit 216 :: nat_lit 217 :: nat_lit 219 :: nat_lit 220 :: nat_lit 221 :: nat_lit 223 :: nat_lit 224 :: nat_lit 226 :: nat_lit 227 :: nat_lit 228 :: nat_lit 230 :: nat_lit 231 :: nat_lit 233 :: nat_lit 234 :: nat_lit 235 :: nat_lit 238 :: nat_lit 239 :: nat_lit 240 :: nat_lit 242 :: nat_lit 243 :: nat_lit 245 :: nat_lit 246 :: nat_lit 247 :: nat_lit 250 :: nat_lit 251 :: nat_lit 252 :: nat_lit 255 :: nat_lit 256 :: nat_lit 257 :: nat_lit 260 :: nat_lit 261 :: []
end

section
open PySem PySem.W PyProof.Rows
theorem fill0 : (Mine.hd.heap_39 = Mine.hd.heap_39 ∧ PySem.Challenge.rw_nu0267_01 = PySem.Challenge.rw_nu0267_01) := by
  k_fill
  exact ⟨rfl, rfl⟩
theorem hdAs_is : ∀ P, hdAs = (hd.heap_39 P).map (·.1) := fun P => by kernel_rfl
set_option maxHeartbeats 8000000 in
theorem ws1 : PySem.Challenge.rw_nu0267_01.wellSaid = true := by decide +kernel
set_option maxHeartbeats 8000000 in
theorem hdl : LeftO Challenge.rw_nu0267_01.row.prog hd.view_39 [] (fun s => xlAt hd.view_39 [] s && recOk (RowW.records Challenge.rw_nu0267_01.row.toRowW) s) (Hook.obs (kHook hd.heap_39 hdAs hdAs_is)) (Hook.val (kHook hd.heap_39 hdAs hdAs_is)) 3640 := fun w => by kernel_rfl
end

section
open PySem PySem.W PyProof.Rows
/-- what a call finds: a ground G within the heap, the frames below, the top's facts -/
structure At (w : World) (A : Around) (base : Heap) (envs : List Env) (mean : ExcName → Option Value) (mg mb : Str → Option Value) (G : Heap) (s : Shared) : Prop where
  below : Below A base envs G
  stays : G.StaysIn s.heap
  size : G.objs.size ≤ s.heap.objs.size
  kin : (Mine.hd.heap_39 w.params).In G
  top : Top Mine.hd.view_39 (looseW Mine.hd.view_39 []) mean mg mb G
  hh : A.handled = none

theorem At.lit {w : World} {A : Around} {base : Heap} {envs : List Env} {mean : ExcName → Option Value} {mg mb : Str → Option Value} {G : Heap} {s : Shared} {P : Around → Prop} (H : At w A base envs mean mg mb G s)
    (h : ∀ dp gd un, At w ⟨none, dp, some envs, gd, un⟩ base envs mean mg mb G s → P ⟨none, dp, some envs, gd, un⟩) : P A := by
  obtain ⟨hnd, dp, fr, gd, un⟩ := A
  obtain rfl : hnd = none := H.hh
  obtain rfl : fr = some envs := H.below.stack
  exact h _ _ _ H
theorem frStays {G h h' : Heap} {L : Addr} {m : Str → Option Value} (F : Fr G L h m) (k : h.StaysIn h') : Fr G L h' m := F.keeps k
theorem newsStays {G h h' : Heap} {L : Addr} {news : List (Addr × Obj)} (N : News G L h news) (k : h.StaysIn h') : News G L h' news := N.grown k
theorem enter {w : World} {A : Around} {base G : Heap} {envs : List Env} {mean : ExcName → Option Value} {mg mb : Str → Option Value} {s : Shared} {news : List (Addr × Obj)}
    {R : Result → Shared → Prop} {name qual : Str} {params : Arguments} {body : List Stmt} {scope : Scope} {dV kV doc pm cdv ct oc : Value} {an od : Option Addr} {osl : Array (Option Value)} {f : Addr} {args : Args} {binds : List (Str × Value)}
    (H : At w A base envs mean mg mb G s) (hN : ∀ p ∈ news, s.heap.get? p.1 = some p.2 ∧ G.get? p.1 = none)
    (ho : (Mine.hd.heap_39 w.params).lookup f = some ⟨oc, od, .func (fnOf name qual params body scope dV kV doc pm an cdv ct), osl⟩) (hcd : codeIn (Mine.hd.heap_39 w.params) cdv qual = true) (hroom : A.depth < recursionLimit)
    (hbind : BindsTo s (fnOf name qual params body scope dV kV doc pm an cdv ct) args binds) (hloc : ∀ y ∈ binds, scope.names.lookup y.1 = some .local)
    (h : ∀ L' h₁, let env0 := envOf qual scope L' f cdv; let M0 : Str → Option Value := fun y => binds.reverse.lookup y; Fr G L' h₁ M0 → News G L' h₁ news → Below A base envs G → (Mine.hd.heap_39 w.params).In G → Top Mine.hd.view_39 (looseW Mine.hd.view_39 []) mean mg mb G → s.heap.StaysIn h₁ → L' = s.heap.objs.size →
      wpAny (model Challenge.pw_nu0267_01 w) (A.deeper env0) (execs body env0)
        (fun fl s' => R (.ok (.ret (match fl with | .ret v => v | _ => .none))) s')
        (fun e s' => wpAny (model Challenge.pw_nu0267_01 w) (A.deeper env0) (leaving env0 e) (fun _ s'' => R (.error e) s'') (fun e' s'' => R (.error e') s'') s')
        { s with heap := h₁, toks := s.toks + binds.length })
    (hcell : ∀ x ∈ scope.names, x.2 ≠ .cell) (hco : scope.isCoroutine = false) (hgen : scope.isGenerator = false) (hk : scope.kind = .function) :
    codeAny (model Challenge.pw_nu0267_01 w) A (.call (.ref f) args) R s := by
  have X : (Mine.hd.heap_39 w.params).In s.heap := H.kin.keeps H.stays
  refine codeAny_call_def (fd := fnOf name qual params body scope dV kV doc pm an cdv ct) (body := body) (binds := binds) hroom (X _ _ ho) rfl (H.top.nolimit.keeps H.stays) (codeRec_of X hcd) rfl hbind hcell hloc (fun h₁ hns hk₁ => ?_) hco hgen hk
  exact h _ h₁ ⟨hns, fun b o e => hk₁ b o (H.stays b o e), H.size⟩ (fun p hp => ⟨hk₁ _ _ (hN p hp).1, Nat.ne_of_lt (Heap.lt_size (hN p hp).1), (hN p hp).2⟩) H.below H.kin H.top hk₁ rfl
end

section
open PySem PySem.W PyProof.Rows
section
variable {prog : Program} {w : World} {A : Around} {E : Value → Shared → Prop} {h : Heap} {g : Array GenState} {d : Drawn} {t : Nat} {os : OsState}
variable {nm q : Str} {C N : Addr} {bs bm : List Value} {hdct : Bool} {sn : List Str} {sub : List Value} {ab : Bool} {col : Option Bool} {dd : Option Addr} {k0 k1 k2 k3 k5 : Option Value} {B newId initId : String} {bmB : List Value}

theorem check_new_own {M : Model} (F : ExcBaseFacts B newId initId bmB) (hB : bm.contains (.type B) = true) {rest : List Value} {Q : Unit → Shared → Prop} (hC : h.get? C = some (excClassObj nm q C N bs bm hdct sn sub ab col dd k0 k1 k2 k3 k5 newId))
    (hq : Q () ⟨h, g, d, t, os⟩) : wpAny M A (checkBuiltinCall newId ⟨.ref C :: rest, []⟩) Q E ⟨h, g, d, t, os⟩ := by
  have hcont : (Value.ref C :: bm).contains (.type B) = true := by rw [List.contains_cons, hB, Bool.or_true]
  have hstar := F.noStar
  simp only [checkBuiltinCall, F.newKind, F.newSplit, F.newRow]
  repeat (first | refine wpAny_loadPart_at hC ?_ | (refine wpAny_isSubtype_exc hC ?_; rw [hcont]) | refine wpAny_staticBase_exc hC ?_ | refine wpAny_madeBy_exc hC ?_ | simp only [bne_self_eq_false, Bool.false_eq_true, if_false] | wp_step)
  exact hq

theorem code_new_own {R : Result → Shared → Prop} (F : ExcBaseFacts B newId initId bmB) (hB : bm.contains (.type B) = true) (hA : bm.contains (.type "AttributeError") = false) (hN : bm.contains (.type "NameError") = false) {rest : List Value} (hC : h.get? C = some (excClassObj nm q C N bs bm hdct sn sub ab col dd k0 k1 k2 k3 k5 newId))
    (hq : R (.ok (.ret (.ref (h.objs.size + 1)))) ⟨(h.push { cls := .type "tuple", data := .seq rest.toArray }).push
      { cls := .ref C, data := .fields #[.ref h.objs.size, .none, .none, .none, .bool false, .none] }, g, d, t, os⟩) (hrest : rest.length ≤ sizeLine := by size_fits) :
    codeAny (model prog w) A (.builtin newId ⟨.ref C :: rest, []⟩) R ⟨h, g, d, t, os⟩ := by
  have hends := F.ends
  have hcB : (Value.ref C :: bm).contains (.type B) = true := by rw [List.contains_cons, hB, Bool.or_true]
  have hcA : (Value.ref C :: bm).contains (.type "AttributeError") = false := by rw [List.contains_cons, hA]; rfl
  have hcN : (Value.ref C :: bm).contains (.type "NameError") = false := by rw [List.contains_cons, hN]; rfl
  refine codeAny_builtinAt F.entry ?_
  unfold Builtin.«BaseException.__new__»
  refine PySem.wpAt_bind ?_
  show PySem.wpAt _ _ _ (stack >>= _) _ _ _
  refine PySem.wpAt_bind (PySem.wpAt_stack fun p below => PySem.wpAt_of_wpAny ?_)
  wp_walk
  refine PySem.wpAt_of_wpAny ?_
  rw [F.owner]
  repeat (first | with_reducible refine wpAny_madeHere_exc F.canon hC ?_ | with_reducible refine wpAny_loadPart_at hC ?_ | (with_reducible refine wpAny_isSubtype_exc hC ?_; first | rw [hcB] | rw [hcA] | rw [hcN]) | wp_step)
  show R _ _
  rw [Heap.size_push]
  exact hq

theorem type_call_own {K : Frag} (X : K.In h) (F : ExcBaseFacts B newId initId bmB) (hB : bm.contains (.type B) = true) (hA : bm.contains (.type "AttributeError") = false) (hN : bm.contains (.type "NameError") = false) {rest : List Value} {fI : Addr} {Q : Fin → Shared → Prop}
    (hC : h.get? C = some (excClassObj nm q C N bs bm hdct sn sub ab col dd k0 k1 k2 k3 k5 newId)) (hi : findIn K (.ref C) "__init__" = some (some (.ref fI))) (hfi : typeIn K (.ref fI) = some (.type "function"))
    (hq : ∀ h' e, h.objs.size ≤ h'.objs.size → Heap.MadeExcOf h h' e (.ref C) rest →
      wpAny (model prog w) A (call (.ref fI) (.ref e :: rest)) (fun r s' => r = .none ∧ Q (.done (.ret (.ref e))) s') E ⟨h', g, d, t, os⟩) (hrest : rest.length ≤ sizeLine := by size_fits) :
    wpAny (model prog w) A (Builtin.«type.__call__» ⟨.ref C :: rest, []⟩) Q E ⟨h, g, d, t, os⟩ := by
  repeat (first | with_reducible refine wpAny_loadPart_at hC ?_ | with_reducible refine wpAny_madeBy_exc hC ?_ | wp_step)
  refine codeAny_call_builtin_code (Code.quiet_builtin _ F.quiet) (check_new_own F hB hC ?_)
  refine code_new_own F hB hA hN hC ?_ hrest
  show wpAny _ _ _ _ _ _
  have hC₁ := Heap.get?_push_of_some { cls := .ref C, data := .fields #[.ref h.objs.size, .none, .none, .none, .bool false, .none] }
    (Heap.get?_push_of_some { cls := .type "tuple", data := .seq rest.toArray } hC)
  have up : ∀ b o, h.get? b = some o → ((h.push { cls := .type "tuple", data := .seq rest.toArray }).push { cls := .ref C, data := .fields #[.ref h.objs.size, .none, .none, .none, .bool false, .none] }).get? b = some o :=
    fun b o e => Heap.get?_push_of_some _ (Heap.get?_push_of_some _ e)
  have X₁ := X.keeps up
  have hget : ((h.push { cls := .type "tuple", data := .seq rest.toArray }).push
      { cls := .ref C, data := .fields #[.ref h.objs.size, .none, .none, .none, .bool false, .none] }).get? (h.objs.size + 1) = some
      { cls := .ref C, data := .fields #[.ref h.objs.size, .none, .none, .none, .bool false, .none] } := by heap_get
  have hcC : (Value.ref C :: bm).contains (.ref C) = true := by simp
  unfold isInstance
  repeat (first | with_reducible refine wpAny_loadPart_at hget ?_ | (with_reducible refine wpAny_isSubtype_exc hC₁ ?_; rw [hcC]) | wp_step)
  show wpAny _ _ (typeLookup (.ref C) _) _ _ _
  refine Looks.at (looks_findIn X₁ hi) ?_
  refine wpAny_holding (wpAny_bind ?_)
  unfold bindSpecial
  refine wpAny_bind (Looks.at (looks_typeIn X₁ hfi) ?_)
  rw [if_pos (by decide)]
  refine wpAny_pure (wpAny_bind (wpAny_mono (hq _ (h.objs.size + 1) (by rw [Heap.size_push, Heap.size_push]; omega) ⟨fun b o hb => Heap.get?_push_of_some _ (Heap.get?_push_of_some _ hb), Heap.get?_none_of_le (Nat.le_succ _), h.objs.size, hget, Heap.get?_none_of_le (Nat.le_refl _), ?_⟩) (fun r s' hr => ?_) fun _ _ x => x))
  · exact Heap.get?_push_of_some _ (Heap.get?_push_at rfl rfl)
  · obtain ⟨rfl, hQ⟩ := hr
    wp_walk
    exact hQ

theorem call_own {K : Frag} (X : K.In h) (F : ExcBaseFacts B newId initId bmB) (hB : bm.contains (.type B) = true) (hA : bm.contains (.type "AttributeError") = false) (hN : bm.contains (.type "NameError") = false) {rest : List Value} {fI : Addr} {Q : Value → Shared → Prop}
    (hC : h.get? C = some (excClassObj nm q C N bs bm hdct sn sub ab col dd k0 k1 k2 k3 k5 newId)) (hi : findIn K (.ref C) "__init__" = some (some (.ref fI))) (hfi : typeIn K (.ref fI) = some (.type "function"))
    (hq : ∀ h' e, h.objs.size ≤ h'.objs.size → Heap.MadeExcOf h h' e (.ref C) rest →
      wpAny (model prog w) (A.under (.builtin "type.__call__" ⟨.ref C :: rest, []⟩)) (call (.ref fI) (.ref e :: rest)) (fun r s' => r = .none ∧ Q (.ref e) s') E ⟨h', g, d, t, os⟩) (hrest : rest.length ≤ sizeLine := by size_fits) :
    wpAny (model prog w) A (call (.ref C) rest) Q E ⟨h, g, d, t, os⟩ := by
  have f1 := tc_lookup
  have f2 := tc_bind (.ref C)
  have hT : (⟨h, g, d, t, os⟩ : Shared).TypeIs (.ref C) "type" := ⟨_, hC, rfl⟩
  refine wpAny_call (codeAny_of_tree ?_)
  show wpAny _ _ (callAny (.ref C) _) _ _ _
  repeat (any_goals (first | assumption | with_reducible refine wpAny_loadPart_at hC ?_ | wp_step))
  refine ⟨rfl, ?_⟩
  refine codeAny_call_builtin_at (Code.quiet_builtin _ (by decide +kernel)) entry_typeCall (wpAny_check_type_call_sub hC (type_call_own (hrest := hrest) X F hB hA hN hC hi hfi fun h' e hz hm => ?_))
  exact hq h' e hz hm
end
end

section
open PySem PySem.W PyProof.Rows
theorem enterS {w : World} {A : Around} {base G : Heap} {envs : List Env} {mean : ExcName → Option Value} {mg mb : Str → Option Value} {s : Shared} {news : List (Addr × Obj)}
    {R : Result → Shared → Prop} {name qual : Str} {params : Arguments} {body : List Stmt} {scope : Scope} {dV kV doc pm cdv ct oc : Value} {an od : Option Addr} {osl : Array (Option Value)} {f cc : Addr} {args : Args} {binds : List (Str × Value)}
    (H : At w A base envs mean mg mb G s) (hN : ∀ p ∈ news, s.heap.get? p.1 = some p.2 ∧ G.get? p.1 = none)
    (ho : (Mine.hd.heap_39 w.params).lookup f = some ⟨oc, od, .func (ksFn name qual params body scope dV kV doc pm an cdv ct cc), osl⟩) (hcd : codeIn (Mine.hd.heap_39 w.params) cdv qual = true) (hroom : A.depth < recursionLimit)
    (hbind : BindsTo s (ksFn name qual params body scope dV kV doc pm an cdv ct cc) args binds) (hloc : ∀ y ∈ binds, scope.names.lookup y.1 = some .local)
    (h : ∀ L' h₁, Fr G L' h₁ (fun y => binds.reverse.lookup y) → News G L' h₁ news → Below A base envs G → (Mine.hd.heap_39 w.params).In G → Top Mine.hd.view_39 (looseW Mine.hd.view_39 []) mean mg mb G → s.heap.StaysIn h₁ → L' = s.heap.objs.size →
      _root_.PySem.wpAt (model Challenge.pw_nu0267_01 w) (A.deeper (ksEnv qual scope L' f cdv cc)) (.func body (ksEnv qual scope L' f cdv cc)) (execs body (ksEnv qual scope L' f cdv cc))
        (fun fl s' => R (.ok (.ret (match fl with | .ret v => v | _ => .none))) s')
        (fun e s' => wpAny (model Challenge.pw_nu0267_01 w) (A.deeper (ksEnv qual scope L' f cdv cc)) (leaving (ksEnv qual scope L' f cdv cc) e) (fun _ s'' => R (.error e) s'') (fun e' s'' => R (.error e') s'') s')
        { s with heap := h₁, toks := s.toks + binds.length })
    (hcell : ∀ x ∈ scope.names, x.2 ≠ .cell) (hco : scope.isCoroutine = false) (hgen : scope.isGenerator = false) (hk : scope.kind = .function) :
    codeAny (model Challenge.pw_nu0267_01 w) A (.call (.ref f) args) R s := by
  have X : (Mine.hd.heap_39 w.params).In s.heap := H.kin.keeps H.stays
  refine ks_codeAny_call_defAt (fd := ksFn name qual params body scope dV kV doc pm an cdv ct cc) (body := body) (binds := binds) hroom (X _ _ ho) rfl (H.top.nolimit.keeps H.stays) (codeRec_of X hcd) rfl hbind hcell hloc (fun h₁ hns hk₁ => ?_) hco hgen hk
  exact h _ h₁ ⟨hns, fun b o e => hk₁ b o (H.stays b o e), H.size⟩ (fun p hp => ⟨hk₁ _ _ (hN p hp).1, Nat.ne_of_lt (Heap.lt_size (hN p hp).1), (hN p hp).2⟩) H.below H.kin H.top hk₁ rfl
end

section
open PySem PySem.W PyProof.Rows
theorem mw_type : typeOf (.builtin "Exception.__init__") = pure (.type "wrapper_descriptor") := by
  kernel_rfl
theorem mw_get : typeLookup (.type "wrapper_descriptor") "__get__" = pure (some (.builtin "wrapper_descriptor.__get__")) := by rw [typeLookup_type, builtinLookup_eq_fast]; kernel_rfl
theorem mw_slot : Slot "wrapper_descriptor" "__get__" "wrapper_descriptor.__get__" := .of (owner := "wrapper_descriptor") (n := "__get__") (by rw [typeLookup_type, builtinLookup_eq_fast]; kernel_rfl) (by decide +kernel) (by decide +kernel) (by decide +kernel)
  (by first | exact .inl (by decide +kernel) | exact .inr (by decide +kernel)) (by rw [isSubtype_type]; kernel_rfl)
theorem mw_entry : entryFor table "wrapper_descriptor.__get__" = some Builtin.«wrapper_descriptor.__get__» := entryFor_of_tree (by kernel_rfl)
theorem mw_args (a b c : Value) : argsOk "wrapper_descriptor.__get__" ⟨[a, b, c], []⟩ := by unfold argsOk; kernel_rfl

section
variable {prog : Program} {w : World} {A : Around} {E : Value → Shared → Prop} {h : Heap} {g : Array GenState} {d : Drawn} {t : Nat} {os : OsState}
set_option maxHeartbeats 1000000 in
theorem super_ga_exc {so D x C : Addr} {ox : Obj} {l₀ l : List Value} {K : Frag} {tk : Tok} {Q : Fin → Shared → Prop}
    (hso : h.get? so = some { cls := .type "super", dict := none, data := .fields #[.ref D, .ref x, .ref C], slots := #[] }) (hno : Looks (model prog w) h (opaqueClassAbove (.ref C)) none)
    (hC : Looks (model prog w) h (mroOf (.ref C)) l₀) (hl : (l₀.dropWhile (· != .ref D)).drop 1 = l) (X : K.In h)
    (hf : alongIn K "__init__" l = some (some (.builtin "Exception.__init__"))) (hx : h.get? x = some ox) (hxc : ox.cls = .ref C) (hsub : Looks (model prog w) h (isSubtype (.ref C) (.type "Exception")) true) (hxC : x ≠ C)
    (hq : Q (.done (.ret (.ref h.objs.size))) ⟨h.push { cls := .type "method-wrapper", data := .fields #[.builtin "Exception.__init__", .ref x] }, g, d, t, os⟩) :
    wpAny (model prog w) A (Builtin.«super.__getattribute__» ⟨[.ref so, .str "__init__" tk], []⟩) Q E ⟨h, g, d, t, os⟩ := by
  have hlk := mw_slot.lookup
  have hne : (Value.ref x == Value.ref C) = false := by simp [hxC]
  have hdt : ({ cls := .type "super", dict := none, data := .fields #[.ref D, .ref x, .ref C], slots := #[] } : Obj).data = .fields #[.ref D, .ref x, .ref C] := rfl
  have f0 : (#[.ref D, .ref x, .ref C] : Array Value)[0]? = some (.ref D) := rfl
  have f1 : (#[.ref D, .ref x, .ref C] : Array Value)[1]? = some (.ref x) := rfl
  have f2 : (#[.ref D, .ref x, .ref C] : Array Value)[2]? = some (.ref C) := rfl
  have hn : (Str.ofString "__init__" == Str.ofString "__class__") = false := by decide +kernel
  unfold Builtin.«super.__getattribute__»
  repeat (first
    | (with_reducible refine wpAny_field hso hdt f0 ?_) | (with_reducible refine wpAny_field hso hdt f1 ?_) | (with_reducible refine wpAny_field hso hdt f2 ?_)
    | (with_reducible refine ks_wpAny_notOpaque hno ?_)
    | (with_reducible refine Looks.at hC ?_; rw [hl])
    | (refine ks_forIn_along X (fun _ _ => rfl) rfl ?_ hf)
    | (simp only [hn, hne, Bool.or_false, Bool.false_eq_true, if_false])
    | wp_step
    | dsimp only)
  rw [show builtinKind "Exception.__init__" = some Manifest.AttrKind.slot by decide +kernel]
  refine wpAny_of_eq hlk ?_
  refine wpAny_bind (wpAny_holding (wpAny_call_entry mw_slot mw_type mw_entry ?_ (mw_args _ _ _)))
  have hown : ∀ {Q' : Bool → Shared → Prop}, Q' true ⟨h, g, d, t, os⟩ → wpAny (model prog w) A.in1 (isInstance (.ref x) (.type "Exception")) Q' E ⟨h, g, d, t, os⟩ := by
    intro Q' hq'
    unfold isInstance
    repeat (first | (with_reducible refine wpAny_loadPart_at hx ?_; rw [hxc]) | (with_reducible refine Looks.at hsub ?_) | wp_step)
    all_goals exact hq'
  unfold Builtin.«wrapper_descriptor.__get__»
  repeat (first
    | (with_reducible refine hown ?_)
    | wp_step
    | dsimp only)
  rw [hxc, show (".".intercalate ("Exception.__init__".cutAt '.').dropLast) = "Exception" by decide +kernel]
  refine Looks.at hsub ?_
  repeat wp_step
  all_goals exact ⟨_, rfl, wpAny_bind (wpAny_pure (wpAny_pure (wpAny_pure hq)))⟩

theorem ini_lookup : typeLookup (.type "super") "__getattribute__" = pure (some (.builtin "super.__getattribute__")) := F.ks_slot_super_ga.lookup
theorem getMethod_super_exc {so D x C : Addr} {ox : Obj} {l₀ l : List Value} {K : Frag} {pl : Sem Bool} {Q : Value × List Value → Shared → Prop}
    (hso : h.get? so = some { cls := .type "super", dict := none, data := .fields #[.ref D, .ref x, .ref C], slots := #[] }) (hno : Looks (model prog w) h (opaqueClassAbove (.ref C)) none)
    (hC : Looks (model prog w) h (mroOf (.ref C)) l₀) (hl : (l₀.dropWhile (· != .ref D)).drop 1 = l) (X : K.In h)
    (hf : alongIn K "__init__" l = some (some (.builtin "Exception.__init__"))) (hx : h.get? x = some ox) (hxc : ox.cls = .ref C) (hsub : Looks (model prog w) h (isSubtype (.ref C) (.type "Exception")) true) (hxC : x ≠ C)
    (hq : Q (.ref h.objs.size, []) ⟨h.push { cls := .type "method-wrapper", data := .fields #[.builtin "Exception.__init__", .ref x] }, g, d, t + 1, os⟩) :
    wpAny (model prog w) A (getMethod (.ref so) "__init__" pl) Q E ⟨h, g, d, t, os⟩ := by
  have hlk := F.ks_slot_super_ga.lookup
  have hcan := F.ks_canon_super_ga
  have hT : ∀ t', (⟨h, g, d, t', os⟩ : Shared).TypeIs (.ref so) "super" := fun _ => ⟨_, hso, rfl⟩
  unfold getMethod
  refine wpAny_bind (wpAny_specialOf (hT _) hlk ?_)
  show wpAny _ _ (if (Manifest.canonical "super.__getattribute__" != "object.__getattribute__") = true then _ else _) _ _ _
  rw [if_pos hcan]
  unfold getAttr getAttrBy
  refine wpAny_bind (wpAny_bind (wpAny_mkText (wpAny_holding (wpAny_bind (wpAny_typeOf (hT _) (wpAny_bind (wpAny_of_eq hlk ?_)))))))
  show wpAny _ _ (getAttrByItsOwn (.ref so) (.str _ t) (.type "super") (.builtin "super.__getattribute__") true false) _ _ _
  unfold getAttrByItsOwn hookBefore callGetattribute boundAndCalled
  refine wpAny_bind (wpAny_of_eq (show (if onTheHeap (.type "super") then typeLookup (.type "super") "__getattr__" else pure none) = pure none from rfl) ?_)
  refine wpAny_bind (wpAny_attempt (wpAny_holding ?_))
  show wpAny _ _ (bindSpecial (.builtin "super.__getattribute__") (.ref so) >>= _) _ _ _
  refine wpAny_bind (wpAny_of_eq (F.ks_slot_super_ga.bind _) ?_)
  refine wpAny_mono (Q := fun v s' => v = .ref h.objs.size ∧ s' = ⟨h.push { cls := .type "method-wrapper", data := .fields #[.builtin "Exception.__init__", .ref x] }, g, d, t + 1, os⟩) (E := fun _ _ => False)
    (wpAny_call_entry F.ks_slot_super_ga (hT _) F.ks_entry_super_ga (super_ga_exc hso hno hC hl X hf hx hxc hsub hxC ⟨_, rfl, rfl, rfl⟩) (F.ks_gaArgs_super _ _)) (fun v s' hv => ?_) fun _ _ z => z.elim
  obtain ⟨rfl, rfl⟩ := hv
  exact wpAny_pure (wpAny_pure hq)

theorem mw_sig : Manifest.signature? "Exception.__init__" = some ⟨.positional, "*", "Exception", .self, [⟨"args", .varPos, false⟩]⟩ := PySem.F.excCall_Exception.initRow
theorem mw_kind : builtinKind "Exception.__init__" = some .slot := PySem.F.excCall_Exception.initKind
end
end

section
open PySem PySem.W PyProof.Rows
section
variable {prog : Program} {w : World} {A : Around} {E : Value → Shared → Prop} {h : Heap} {g : Array GenState} {d : Drawn} {t : Nat} {os : OsState}
/-- the bound Exception.__init__ called upon its arguments: the exception's arguments stand anew -/
theorem call_mw_init {q x C : Addr} {K : Frag} {cd : ClassData} {dd : Option Addr} {vs : Array Value} {sl : Array (Option Value)} {t0 : Addr} {rest : List Value} {Q : Value → Shared → Prop} (X : K.In h) (hc : clsIn K C = some cd)
    (hq0 : h.get? q = some { cls := .type "method-wrapper", data := .fields #[.builtin "Exception.__init__", .ref x] }) (hx : h.get? x = some ⟨.ref C, dd, .fields vs, sl⟩) (h0 : vs[0]? = some (.ref t0))
    (hr : rest.length ≤ sizeLine)
    (hq : ∀ h', h'.get? x = some ⟨.ref C, dd, .fields (vs.setIfInBounds 0 (.ref h.objs.size)), sl⟩ → (∀ b o, b ≠ x → h.get? b = some o → h'.get? b = some o) → Q .none ⟨h', g, d, t, os⟩) :
    wpAny (model prog w) A (call (.ref q) rest) Q E ⟨h, g, d, t, os⟩ := by
  refine wpAny_call (codeAny_of_tree ?_)
  show wpAny _ A.in1 (callAny (.ref q) ⟨rest, []⟩) _ _ _
  unfold callAny
  refine wpAny_bind (wpAny_load hq0 ?_)
  have hstar := PySem.F.excCall_Exception.noStar
  simp only [show (Value.type "method-wrapper" == Value.type "method" || Value.type "method-wrapper" == Value.type "builtin_function_or_method" || Value.type "method-wrapper" == Value.type "method-wrapper") = true by decide, if_true,
    show (Value.type "method-wrapper" != Value.type "method") = true by decide]
  simp only [checkBoundCall, mw_sig, mw_kind]
  repeat (first | (with_reducible refine Looks.at (looks_clsIn X hc) ?_) | wp_step)
  refine wpAny_onRaise ?_
  rw [show ∀ (a b : String) (n : Nat), Bind.check ⟨.positional, "*", "Exception", .self, [⟨"args", .varPos, false⟩]⟩ a b n (List.map (fun x => x.fst) ({ pos := Value.ref x :: rest } : Args).kw) = pure () from
    fun a b n => check_star_args _ _ _ _ _ _]
  refine wpAny_pure ?_
  refine wpAny_pure ⟨Code.quiet_builtin _ (by decide +kernel), codeAny_builtin PySem.F.excCall_Exception.initEntry ?_⟩
  unfold Builtin.«BaseException.__init__» Builtin.BaseException.bexcPut
  have hx' : (h.push { cls := .type "tuple", data := .seq rest.toArray }).get? x = some ⟨.ref C, dd, .fields vs, sl⟩ := Heap.get?_push_of_some _ hx
  repeat (first | (with_reducible refine wpAny_field hx' rfl h0 ?_) | wp_step)
  rw [h0]
  refine wpAny_pure (wpAny_bind (wpAny_setField hx' rfl (Array.getElem?_eq_some_iff.mp h0).1 ?_))
  refine wpAny_letGo (wpAny_pure (hq _ (Heap.get?_update_self _ hx' rfl) fun b o hb e => (Heap.get?_update_other _ _ (Ne.symm hb)).trans (Heap.get?_push_of_some _ e)))

theorem osa_open2 {K : Frag} {s : Shared} {x C : Addr} {ox : Obj} {od : Option Obj} {name : Str} {tk : Tok} {v : Value} {r : Option Value} {R : Result → Shared → Prop} {cd : ClassData} (X : K.In s.heap) (I : InstAt s.heap x ox C od)
    (hc : clsIn K C = some cd) (hobj : mroIn K C (.type "object") = some true) (hre : ∀ self, refuseLoop self "__setattr__" cd.mro = pure ()) (ht : takerIn K C name = some r)
    (h : ∀ b, wpAny (model prog w) A.in1 (match r with | some a => Builtin.ObjectAttr.setByDescriptor a (.ref x) v | none => Builtin.ObjectAttr.storeInOwnDict (.ref x) (.ref C) (.str name tk) name v b)
      (fun fin s' => match fin with | .done f => R (.ok f) s' | .again c' => c'.quiet = true ∧ codeAny (model prog w) A c' R s') (fun e s' => R (.error e) s') s) :
    codeAny (model prog w) A (.call (.builtin "object.__setattr__") ⟨[.ref x, .str name tk, v], []⟩) R s := by
  have SF := PySem.F.store_object
  have sub : Looks (model prog w) s.heap (isInstance (.ref x) (.type "object")) true := I.type.andThen (looks_mroIn X hobj)
  refine codeAny_call_builtin SF.slot.plain SF.entry (@check_slot (model prog w) _ _ s "object.__setattr__" "object" "__setattr__" (.ref x) [.str name tk, v] [] _ SF.kind SF.split sub (SF.args (.ref x) (.str name tk) v) ?_)
  obtain ⟨attr, ha, hr⟩ := Option.bind_eq_some_iff.mp ht
  have hm : Looks (model prog w) s.heap (mroOf (.ref C)) cd.mro := (looks_clsIn X hc).andThen .now
  have L3 : Looks (model prog w) s.heap (Builtin.ObjectAttr.storeTaker? attr) r := by
    cases attr with
    | none => cases hr; exact .now
    | some a =>
      obtain ⟨b, hb, rfl⟩ := Option.map_eq_some_iff.mp hr
      refine (looks_takesIn X hb).andThen ?_
      cases b <;> exact .now
  rw [osa_eq, refuse_eq]
  refine wpAny_bind (wpAny_bind (I.type.here (wpAny_bind (hm.here ?_))))
  rw [hre]
  refine wpAny_pure (wpAny_bind (I.type.here (wpAny_bind ((looks_findIn X ha).here (wpAny_bind (L3.here ?_))))))
  exact h _

/-- the first attribute of an object that has no dict yet -/
theorem set_first {K : Frag} {s : Shared} {x C : Addr} {vs : Array Value} {sl : Array (Option Value)} {name : Str} {v : Value} {Q : Unit → Shared → Prop} (X : K.In s.heap) (hx : s.heap.get? x = some ⟨.ref C, none, .fields vs, sl⟩)
    (hs : findIn K (.ref C) "__setattr__" = some (some (.builtin "object.__setattr__"))) {cd : ClassData} (hc : clsIn K C = some cd) (hobj : mroIn K C (.type "object") = some true) (hre : ∀ self, refuseLoop self "__setattr__" cd.mro = pure ()) (ht : takerIn K C name = some none) (hd' : cd.hasDict = true)
    (hq : ∀ h' dx tk, h'.get? x = some ⟨.ref C, some dx, .fields vs, sl⟩ → (∀ b o, b ≠ x → s.heap.get? b = some o → h'.get? b = some o) → Q () { s with heap := h', toks := tk }) :
    wpAny (model prog w) A (setAttr (.ref x) name v) Q E s := by
  have I : InstAt s.heap x ⟨.ref C, none, .fields vs, sl⟩ C none := ⟨hx, rfl, rfl, trivial⟩
  refine set_plain X I hs (osa_open2 (s := { s with toks := s.toks + 1 }) X I hc hobj hre ht fun b => ?_)
  obtain ⟨h, g, d, t, os⟩ := s
  refine wpAny_bind (wpAny_pure (wpAny_bind (wpAny_bind (wpAny_loadPart hx (wpAny_bind (Looks.at (looks_clsIn X hc) ?_))))))
  rw [hd']
  simp only [Bool.not_true, Bool.false_eq_true, if_false, typeHasDict, Bool.or_self]
  refine wpAny_bind (wpAny_alloc ?_)
  have hx1 : (h.push { cls := .type "dict", data := .dict #[] }).get? x = some ⟨.ref C, none, .fields vs, sl⟩ := Heap.get?_push_of_some _ hx
  have hne : h.objs.size ≠ x := Nat.ne_of_gt (Heap.lt_size hx)
  have hD1 : (h.push { cls := .type "dict", data := .dict #[] }).get? h.objs.size = some { cls := .type "dict", data := .dict #[] } := Heap.get?_push_at rfl rfl
  refine wpAny_bind (wpAny_update hx1 ?_)
  refine wpAny_bind (wpAny_pure ?_)
  have hx2 := Heap.get?_update_self (h := h.push { cls := .type "dict", data := .dict #[] }) (fun o => { o with dict := some h.objs.size }) hx1 rfl
  have hD2 : ((h.push { cls := .type "dict", data := .dict #[] }).update x fun o => { o with dict := some h.objs.size }).get? h.objs.size = some { cls := .type "dict", data := .dict #[] } := (Heap.get?_update_other _ _ hne.symm).trans hD1
  refine wpAny_pure ?_
  unfold Builtin.ObjectAttr.storeInDict Builtin.ObjectAttr.newKeyGuard
  refine wpAny_bind (wpAny_pure ?_)
  refine wpAny_bind ?_
  unfold nsSet
  refine wpAny_bind (wpAny_bind (wpAny_askSetting (wpAny_pure (wpAny_bind (wpAny_mkText (wpAny_bind (wpAny_loadPart hD2 ?_)))))))
  dsimp only
  rw [show aRefKeyMayBeTheName name (#[] : Array DictEntry) = false by rw [aRefKeyMayBeTheName_at]; simp]
  refine wpAny_updatePart hD2 ?_
  have he : ({ cls := .type "dict", data := .dict #[] } : Obj) = dictOf [] 0 := rfl
  refine wpAny_bind (wpAny_lookBehind (Heap.get?_update_self _ hD2 (by rw [he, putName_dict]; rfl)) (by rw [he, putName_dict]; exact pastItsLine_dict (by rw [List.size_toArray, sizeLine_eq]; exact Nat.le_trans (Nat.le_of_eq (show _ = 1 from rfl)) (by decide))) ?_)
  refine wpAny_pure (hq _ h.objs.size _ ?_ fun b o hb e => ?_)
  · exact (Heap.get?_update_other _ _ hne).trans hx2
  · have hb' : h.objs.size ≠ b := Nat.ne_of_gt (Heap.lt_size e)
    exact (Heap.get?_update_other _ _ hb').trans ((Heap.get?_update_other _ _ (Ne.symm hb)).trans (Heap.get?_push_of_some _ e))
end
end

section
open PySem PySem.W PySem.Calls PyProof.Rows
section
variable {M : Model} {A : Around} {E : Value → Shared → Prop} {s : Shared}
theorem callWith_mw {pos : Pos} {u : Addr} {first : List Value} {args : List (Bool × Sem Value)} {Q : Value → Shared → Prop} (hplain : args.any (·.1) = false)
    (h : wpAny M A (evalArgs (.ref u) true args []) (fun x s₁ => (∃ e, s₁.heap.get? u = some { cls := .type "method-wrapper", data := .fields #[.builtin "Exception.__init__", .ref e] }) ∧ wpAny M A (call (.ref u) (first ++ x.pos) x.kw) Q E s₁) E s) : wpAny M A (callWith pos (.ref u) first args []) Q E s := by
  unfold callWith
  refine wpAny_bind (wpAny_holding (wpAny_mono h (fun x s₁ h₁ => wpAny_bind (wpAny_standAt ?_)) fun _ _ x => x))
  obtain ⟨⟨e, ho⟩, hcall⟩ := h₁
  simp only [hplain, List.any_nil, Bool.or_false]
  refine wpAny_bind (m := keeperOf (.ref u)) ?_
  unfold keeperOf
  refine wpAny_bind (wpAny_load ho ?_)
  simp only [show (Value.type "method-wrapper" != Value.type "method") = true by decide, show (Value.type "method-wrapper" == Value.type "builtin_function_or_method" || Value.type "method-wrapper" == Value.type "method-wrapper") = true by decide, if_true]
  refine wpAny_pure ?_
  exact wpAny_bind (wpAny_mono hcall (fun r s₂ hr => wpAny_bind (wpAny_holding (wpAny_point (wpAny_pure hr)))) fun _ _ x => x)
end

theorem frBut {G h h' : Heap} {L e : Addr} {m : Str → Option Value} (F : Fr G L h m) (hL : L ≠ e) (hG : G.get? e = none) (k : ∀ b o, b ≠ e → h.get? b = some o → h'.get? b = some o) : Fr G L h' m := by
  obtain ⟨oL, es, ep, hL', r⟩ := F.ns
  refine ⟨⟨oL, es, ep, k _ _ hL hL', r⟩, fun b o e' => k b o (fun q => ?_) (F.keep b o e'), F.above⟩
  rw [q, hG] at e'; cases e'


set_option maxHeartbeats 4000000 in
theorem ferr_init {w : World} {A : Around} {base G : Heap} {envs : List Env} {mean : ExcName → Option Value} {mg mb : Str → Option Value} {s : Shared} {Q E : Value → Shared → Prop}
    {e t : Addr} {x : Str} {u : Tok}
    (H : At w A base envs mean mg mb G s) (he : s.heap.get? e = some { cls := .ref 53, data := .fields #[.ref t, .none, .none, .none, .bool false, .none] }) (hG : G.get? e = none)
    (hd : A.depth + 2 < recursionLimit) (hu : A.units + 20 < cLine)
    (hret : ∀ a0 dd h' tk' , G.StaysIn h' → h'.get? e = some { cls := .ref 53, dict := dd, data := .fields #[a0, .none, .none, .none, .bool false, .none] } → Q .none { s with heap := h', toks := tk' }) :
    wpAny (model Challenge.pw_nu0267_01 w) A (call (.ref 30) [.ref e, .str x u]) Q E s := by
  refine wpAny_call ?_
  k_dflt (refine' enterS (news := [(e, { cls := .ref 53, data := .fields #[.ref t, .none, .none, .none, .bool false, .none] })]) H ?hN ?ho ?hcd ?hroom ?hbind ?hloc ?_ ?hcell ?hco ?hgen ?hk)
  case ho => k_is
  case hcd => k_is
  case hN => simp [he, hG]
  case hroom => omega
  case hbind => exact BindsTo.of_eq rfl
  case hloc => exact locs rfl
  case hcell => decide
  case hco => exact rfl
  case hgen => exact rfl
  case hk => exact rfl
  intro L' h₁ F N B X T hs hL
  (try dsimp only); (try ((show wpAny _ _ _ _ _ _); k_fold))
  refine ks_wpAt_execs_cons (ks_wpAt_Expr_any (ks_wpAt_MethodCall ?_))
  have I : InstAt h₁ e { cls := .ref 53, data := .fields #[.ref t, .none, .none, .none, .bool false, .none] } 53 none := ⟨(N _ (.head _)).1, rfl, rfl, trivial⟩
  k_dflt (refine ks_node F X N T (by k_is) (by rfl) (by rfl) I (by k_is) (by rfl) (by first | rfl | decide +kernel) (by k_is) (by k_is) (by k_is) (by k_is) (by decide) (by rfl) (by rfl) (by rfl) (by rfl) (by decide +kernel) (by first | boot_by_name | rfl | kernel_rfl) ?_)
  intro so h2 F2 N2 l2
  have X2 : (Mine.hd.heap_39 w.params).In h2 := X.keeps F2.keep
  have heC : e ≠ 53 := ks_ne (X.keeps F.keep) I (by k_is : clsIn (Mine.hd.heap_39 w.params) 53 = some _)
  obtain ⟨cd, hcd, hre, hdi⟩ : ∃ cd, clsIn (Mine.hd.heap_39 w.params) 53 = some cd ∧ (∀ self, refuseLoop self "__setattr__" cd.mro = pure ()) ∧ cd.hasDict = true :=
    ⟨_, by k_is, fun self => by dsimp only; rw [refuseLoop_ref, refuseLoop_ref]; exact PySem.F.store_Exception.passes self, rfl⟩
  have hsub : Looks (model Challenge.pw_nu0267_01 w) h2 (isSubtype (.ref 53) (.type "Exception")) true := looks_mroIn X2 (by k_is)
  have hal : ks_superIn (Mine.hd.heap_39 w.params) 53 40 "__init__" = some (some (.builtin "Exception.__init__")) := by ks_is
  unfold ks_superIn at hal
  rw [hcd] at hal
  refine getMethod_super_exc (N2 _ (.head _)).1 (looks_opaque X2 (by k_is)) ((looks_clsIn X2 hcd).andThen .now) rfl X2 hal (N2 _ (.tail _ (.head _))).1 rfl hsub heC ?_
  have F3 := F2.push { cls := .type "method-wrapper", data := .fields #[.builtin "Exception.__init__", .ref e] }
  have N3 := News.push F2 N2 { cls := .type "method-wrapper", data := .fields #[.builtin "Exception.__init__", .ref e] }
  refine callWith_mw (by rfl) (PySem.Calls.evalArgs_plain (PySem.Calls.spliced_cons ?_))
  (try dsimp only)
  generalize h2.push { cls := .type "method-wrapper", data := .fields #[.builtin "Exception.__init__", .ref e] } = h3 at F3 N3 ⊢
  generalize h2.objs.size = q at N3 ⊢
  rw [if_neg Bool.false_ne_true]
  refine nameX_L F3 (v := .str x u) rfl (PySem.Calls.spliced_nil ⟨⟨e, (N3 _ (.head _)).1⟩, ?_⟩)
  refine call_mw_init (X.keeps F3.keep) hcd (N3 _ (.head _)).1 (N3 _ (.tail _ (.tail _ (.head _)))).1 rfl (by rw [sizeLine_eq]; exact Nat.le_of_ble_eq_true rfl) fun h4 e4 k4 => ?_
  have hLe : L' ≠ e := Ne.symm (N3 _ (.tail _ (.tail _ (.head _)))).2.1
  have F4 := frBut F3 hLe hG k4
  have N4 : News G L' h4 [(e, _)] := fun p hp => by
    rw [List.mem_singleton.mp hp]
    exact ⟨e4, Ne.symm hLe, hG⟩
  refine PySem.wpAt_of_wpAny ?_
  (try dsimp only)
  (try ((show wpAny _ _ _ _ _ _); k_fold))
  k_steps
  k_dflt (refine set_first (X.keeps F4.keep) e4 (by k_is) hcd (by k_is) hre (by k_is) hdi ?_)
  intro h5 dx tk5 e5 k5
  have F5 := frBut F4 hLe hG k5
  (try dsimp only)
  refine wpAny_pure ?_
  k_unfold
  exact hret _ _ _ _ F5.keep e5
end

section
open PySem PySem.W PySem.Calls PyProof.Rows
/-- a ground without the frames of the calls under way -/
noncomputable def bare (G : Heap) (l : List Env) : Heap := hideAll G (l.filterMap (·.frame))
theorem bare_of {G : Heap} {l : List Env} {b : Addr} {o : Obj} (h : (bare G l).get? b = some o) : G.get? b = some o := of_hideAll _ h
theorem bare_get {G : Heap} {l : List Env} {b : Addr} {o : Obj} (h : G.get? b = some o) (n : b ∉ l.filterMap (·.frame)) : (bare G l).get? b = some o := hideAll_get _ h n
theorem bare_not {G : Heap} {l : List Env} {b : Addr} {o : Obj} (h : (bare G l).get? b = some o) : b ∉ l.filterMap (·.frame) := fun q => by
  have := hideAll_none (h := G) (l.filterMap (·.frame)) q
  unfold bare at h
  rw [this] at h; cases h
/-- a fault flies over the calls of l: what is no frame stands -/
noncomputable def Fly (B : Heap) (l : List Env) (e : Addr) (h : Heap) : Prop := ∃ a0, Heap.FlyingW B l e (.ref 53) a0 h
theorem Fly.base {B B' h : Heap} {l : List Env} {e : Addr} (x : Fly B l e h) (k : B'.StaysIn B) : Fly B' l e h := let ⟨a0, y⟩ := x; ⟨a0, flyingW_base k y⟩
theorem Fly.stays {B h : Heap} {l : List Env} {e : Addr} (x : Fly B l e h) : B.StaysIn h := let ⟨_, y⟩ := x; y.1
theorem Fly.frames {B h : Heap} {l : List Env} {e : Addr} (x : Fly B l e h) : h.FunFrames B l := let ⟨_, y⟩ := x; y.2.2.1

/-- a ground's frames have no place in its bare part -/
theorem funFrames_bare {base G h : Heap} {l : List Env} (x : h.FunFrames base l) : h.FunFrames (bare G l) l := by
  have : ∀ {l' : List Env}, h.FunFrames base l' → (∀ env ∈ l', env ∈ l) → h.FunFrames (bare G l) l' := by
    intro l'
    induction l' with
    | nil => exact fun _ _ => trivial
    | cons env r ih =>
      rintro ⟨hk, ⟨L, o, hf, hn, ho, hd⟩, hr⟩ hin
      refine ⟨hk, ⟨L, o, hf, ?_, ho, hd⟩, ih hr fun e he => hin e (.tail _ he)⟩
      exact hideAll_none _ (List.mem_filterMap.mpr ⟨env, hin env (.head _), hf⟩)
  exact this x fun _ h => h

section
variable {M : Model} {A : Around} {E : Value → Shared → Prop} {s' : Shared} {base G h : Heap} {envs : List Env} {L e : Addr} {m : Str → Option Value} {env : Env} {Q : Unit → Shared → Prop}

theorem bare_stays (K : Below A base envs G) (F : Fr G L h m) (hf : env.frame = some L) : (bare G envs).StaysIn (bare h (env :: envs)) := fun b o q => by
  refine bare_get (F.keep b o (bare_of q)) fun hm => ?_
  rw [List.filterMap_cons_some hf] at hm
  rcases List.mem_cons.mp hm with rfl | hm
  · exact absurd (Heap.lt_size (bare_of q)) (Nat.not_lt.mpr F.above)
  · exact bare_not q hm

/-- the fault leaves the call that raised it -/
theorem leave_first {a0 : Value} {dd : Option Addr} (K : Below A base envs G) (F : Fr G L h m) (hf : env.frame = some L) (hk : env.scope.kind = .function) (k : h.StaysIn s'.heap) (hen : h.get? e = none)
    (he : s'.heap.get? e = some { cls := .ref 53, dict := dd, data := .fields #[a0, .none, .none, .none, .bool false, .none] })
    (hQ : ∀ h', Fly (bare h (env :: envs)) envs e h' → h.UpToSlots h' → Q () { s' with heap := h' }) :
    wpAny M (A.deeper env) (leaving env (.ref e)) Q E s' := by
  have K' := pushX K F hf hk
  have st : (bare h (env :: envs)).StaysIn s'.heap := fun b o q => k b o (bare_of q)
  have hen' : (bare h (env :: envs)).get? e = none := by
    cases q : (bare h (env :: envs)).get? e with
    | none => rfl
    | some o => rw [bare_of q] at hen; cases hen
  refine wpAny_leaving_firstW (a0 := a0) K'.stack ((funFrames_bare K'.frames).of_keeps fun b o hb _ => ⟨o, k b o hb, rfl⟩) hf he st hen' rfl rfl rfl fun h' hL => ?_
  obtain ⟨k1, ⟨_, _, k2⟩, k3, k4⟩ := hL
  refine hQ h' ⟨a0, k1, hen', k2, k3⟩ (Heap.UpToSlots.trans (Heap.UpToSlots.of_keeps k) k4)

/-- the fault goes on through a call -/
theorem leave_on {B : Heap} (hA : A.frames = some envs) (hf : env.frame = some L) (R : Fly B (env :: envs) e s'.heap)
    (hQ : ∀ h', Fly B envs e h' → s'.heap.UpToSlots h' → Q () { s' with heap := h' }) : wpAny M (A.deeper env) (leaving env (.ref e)) Q E s' := by
  obtain ⟨a0, R⟩ := R
  exact wpAny_leaves_onW (Around.frames_deeper hA) hf R fun h' x1 x2 => hQ h' ⟨a0, x1⟩ x2
end

/-- what a callee finds when its caller's ledger's addresses W are its own to change -/
theorem callee_at {w : World} {A : Around} {base G : Heap} {envs : List Env} {mean : ExcName → Option Value} {mg mb : Str → Option Value} {s : Shared} {env : Env} {L : Addr} {m : Str → Option Value} (W : List Addr)
    (B : Below A base envs G) (X : (Mine.hd.heap_39 w.params).In G) (T : Top Mine.hd.view_39 (looseW Mine.hd.view_39 []) mean mg mb G) (hh : A.handled = none) (F : Fr G L s.heap m) (hf : env.frame = some L) (hk : env.scope.kind = .function)
    (hW : ∀ a ∈ W, G.get? a = none ∧ a ≠ L) : At w (A.deeper env) base (env :: envs) mean mg mb (hideAll s.heap W) s := by
  have st : G.StaysIn (hideAll s.heap W) := fun b o e => hideAll_get _ (F.keep b o e) fun q => by rw [(hW b q).1] at e; cases e
  have B₁ := pushX B F hf hk
  refine ⟨⟨B₁.stack, fun b o e => st b o (B.stays b o e), funFrames_hideAll B₁.frames fun env' he b hb hf' => ?_⟩, fun b o e => of_hideAll _ e, Nat.le_of_eq (hideAll_size _ _), X.keeps st, T.keeps st, hh⟩
  cases he with
  | head => exact (hW b hb).2 (Option.some.inj (hf'.symm.trans hf))
  | tail _ he =>
    obtain ⟨L₁, o₁, hf₁, ho₁⟩ := funFrames_in B.frames env' he
    rw [hf₁] at hf'
    have := (hW b hb).1
    rw [← (Option.some.inj hf' : L₁ = b), ho₁] at this; cases this
/-- the caller's frame behind the callee -/
theorem frBehind {G h h' : Heap} {L : Addr} {m : Str → Option Value} {W : List Addr} (F : Fr G L h m) (hW : ∀ a ∈ W, G.get? a = none ∧ a ≠ L) (k : (hideAll h W).StaysIn h') : Fr G L h' m := by
  obtain ⟨oL, es, ep, hL, r⟩ := F.ns
  exact ⟨⟨oL, es, ep, k _ _ (hideAll_get _ hL fun q => (hW _ q).2 rfl), r⟩, fun b o e => k b o (hideAll_get _ (F.keep b o e) fun q => by rw [(hW b q).1] at e; cases e), F.above⟩
/-- an entry of the caller's ledger that the callee had not to change -/
theorem newsBehind {G h h' : Heap} {L : Addr} {W : List Addr} {p : Addr × Obj} {news : List (Addr × Obj)} (N : News G L h news) (hp : p ∈ news) (k : (hideAll h W).StaysIn h') (hn : p.1 ∉ W) :
    h'.get? p.1 = some p.2 ∧ p.1 ≠ L ∧ G.get? p.1 = none := ⟨k _ _ (hideAll_get _ (N p hp).1 hn), (N p hp).2⟩
end

section
open PySem PySem.W PySem.Calls PyProof.Rows PySem.Spec
section
variable {w : World} {A : Around} {base G : Heap} {envs : List Env} {mean : ExcName → Option Value} {mg mb : Str → Option Value} {s : Shared} {E : Value → Shared → Prop}

theorem Below.under1 {c : Code} (hc : c.envs = []) (K : Below A base envs G) : Below (A.under c) base envs G := ⟨by
  show pushEnvs c.envs A.frames = some envs
  rw [hc]; exact K.stack, K.stays, K.frames⟩

set_option maxHeartbeats 1000000 in
theorem fault_call {Q : Value → Shared → Prop} {x : Str} {u : Tok} (H : At w A base envs mean mg mb G s) (hd : A.depth + 4 < recursionLimit) (hu : A.units + 40 < cLine)
    (hret : ∀ e a0 dd h' tk', s.heap.StaysIn h' → s.heap.get? e = none → h'.get? e = some { cls := .ref 53, dict := dd, data := .fields #[a0, .none, .none, .none, .bool false, .none] } → Q (.ref e) { s with heap := h', toks := tk' }) :
    wpAny (model Challenge.pw_nu0267_01 w) A (call (.ref 53) [.str x u]) Q E s := by
  have X : (Mine.hd.heap_39 w.params).In s.heap := H.kin.keeps H.stays
  obtain ⟨h, g, d, t, os⟩ := s
  k_dflt (refine' call_own (K := Mine.hd.heap_39 w.params) (fI := 30) X PySem.F.excBase_Exception ?hB ?hA ?hN (X 53 _ ?hC) ?hi ?hfi ?k ?hrest)
  case hC => k_is
  case hi => k_is
  case hfi => k_is
  case hB => decide +kernel
  case hA => decide +kernel
  case hN => decide +kernel
  case hrest => rw [sizeLine_eq]; exact Nat.le_of_ble_eq_true rfl
  intro h' e hz hm
  obtain ⟨t0, ht, -, -⟩ := hm.there
  have B1 : Below (A.under (.builtin "type.__call__" ⟨.ref 53 :: [.str x u], []⟩)) base envs h := Below.under1 rfl ⟨H.below.stack, fun b o z => H.stays b o (H.below.stays b o z), H.below.frames.of_keeps fun b o z _ => ⟨o, H.stays b o z, rfl⟩⟩
  refine ferr_init (G := h) ⟨B1, hm.keeps, hz, X, H.top.keeps H.stays, H.hh⟩ ht hm.new ?_ ?_ fun a0 dd h2 tk2 k2 e2 => ⟨rfl, hret e a0 dd h2 tk2 k2 hm.new e2⟩
  · rw [depth_under_make]; omega
  · rw [units_under_make]; omega
end
end

section
open PySem PySem.W PySem.Calls PyProof.Rows PySem.Spec
section
variable {M : Model} {A : Around} {E : Value → Shared → Prop} {env : Env}
variable {nm q : Str} {C N : Addr} {bs bm : List Value} {hdct : Bool} {sn : List Str} {sub : List Value} {ab : Bool} {col : Option Bool} {dd : Option Addr} {k0 k1 k2 k3 k5 : Option Value} {newId : String}
theorem raiseStmt_own {s : Shared} {x : Sem Value} {Q : Flow → Shared → Prop} (hbase : bm.contains (.type "BaseException") = true) (hh : A.handled = none)
    (h : wpAny M A x (fun v s₁ => ∃ e a0 de, v = .ref e ∧ s₁.heap.get? C = some (excClassObj nm q C N bs bm hdct sn sub ab col dd k0 k1 k2 k3 k5 newId) ∧
      s₁.heap.get? e = some { cls := .ref C, dict := de, data := .fields #[a0, .none, .none, .none, .bool false, .none] } ∧ E (.ref e) s₁) E s) :
    wpAny M A (raiseStmt env (some x) none) Q E s := by
  have hcB : (Value.ref C :: bm).contains (.type "BaseException") = true := by rw [List.contains_cons, hbase, Bool.or_true]
  unfold raiseStmt
  refine wpAny_bind (wpAny_mono h (fun v s₁ h₁ => ?_) fun _ _ x => x)
  obtain ⟨e, a0, de, rfl, hC, he, hE⟩ := h₁
  obtain ⟨hp, g, d, tk, os⟩ := s₁
  repeat (first | with_reducible refine wpAny_loadPart_at he ?_ | with_reducible refine wpAny_loadPart_at hC ?_ | (with_reducible refine wpAny_isSubtype_exc hC ?_; rw [hcB]) | wp_step)
  exact wpAny_raiseNew_none hh hE
end

section
variable {w : World} {A : Around} {base G : Heap} {envs : List Env} {mean : ExcName → Option Value} {mg mb : Str → Option Value} {s : Shared} {E : Value → Shared → Prop} {env : Env}
theorem raise_fault {x : Expr} {pos : Pos} {Q : Flow → Shared → Prop} (hh : A.handled = none)
    (h : wpAny (model Challenge.pw_nu0267_01 w) A (eval x env) (fun v s₁ => ∃ e a0 de, v = .ref e ∧ (Mine.hd.heap_39 w.params).In s₁.heap ∧
      s₁.heap.get? e = some { cls := .ref 53, dict := de, data := .fields #[a0, .none, .none, .none, .bool false, .none] } ∧ E (.ref e) s₁) E s) :
    wpAny (model Challenge.pw_nu0267_01 w) A (exec (.Raise (some x) none pos) env) Q E s := by
  rw [arm_exec_Raise, arm_evalOpt_some, show evalOpt none env = none from rfl]
  dsimp only [Option.map]
  refine wpAny_bind (wpAny_standAt ?_)
  k_dflt (refine' raiseStmt_own (C := 53) ?hB hh (wpAny_bind (wpAny_mono h (fun v s₁ h₁ => ?k) fun _ _ x => x)))
  case k =>
    obtain ⟨e, a0, de, rfl, X, he, hE⟩ := h₁
    refine' wpAny_bind (wpAny_standAt (wpAny_pure ⟨e, a0, de, rfl, X 53 _ ?hC, he, hE⟩))
    case hC => k_is
  case hB => decide +kernel
end

section
variable {w : World} {A₀ : Around} {E : Value → Shared → Prop} {s' : Shared} {g h B : Heap} {outer : List Env} {L a e : Addr} {m : Str → Option Value} {name : Str} {scope : Scope} {cd : Value}
  {b₀ : Stmt} {suite : List Stmt} {pos np : Pos} {rest : List ExceptHandler} {Q : Flow → Shared → Prop} {news : List (Addr × Obj)}
  {mean : ExcName → Option Value} {mg mb : Str → Option Value}
theorem caught_fault (hA : A₀.frames = some outer) (F : Fr g L h m) (hsm : h.UpToSlots s'.heap) (R : Fly B (envOf name scope L a cd :: outer) e s'.heap) (hB : g.StaysIn B)
    (hl : ∀ p ∈ news, B.get? p.1 = some p.2 ∧ g.get? p.1 = none) (X : (Mine.hd.heap_39 w.params).In g) (T : Top Mine.hd.view_39 (looseW Mine.hd.view_39 []) mean mg mb g)
    (k : ∀ h', Fr g L h' m → News g L h' news → h'.FunFrames g outer → s'.heap.UpToSlots h' →
      wpAny (model Challenge.pw_nu0267_01 w) ((A₀.deeper (envOf name scope L a cd)).mark (some (.ref e))) (execs (b₀ :: suite) (envOf name scope L a cd)) Q E { s' with heap := h' })
    (hk : scope.kind = .function := by rfl) (hx : (envOf name scope L a cd).kindOf "BoundFault" = some .globalImplicit := by rfl)
    (hE : PassesOwnAt (model Challenge.pw_nu0267_01 w) ((A₀.deeper (envOf name scope L a cd)).mark (some (.ref e))) (A₀.deeper (envOf name scope L a cd)) (envOf name scope L a cd) E) :
    wpAny (model Challenge.pw_nu0267_01 w) (A₀.deeper (envOf name scope L a cd)) (noteFrame (.ref e) (envOf name scope L a cd))
      (fun _ s₂ => wpAny (model Challenge.pw_nu0267_01 w) (A₀.deeper (envOf name scope L a cd)) (setFlight (.ref e) none) (fun _ s₃ =>
        wpAny (model Challenge.pw_nu0267_01 w) (A₀.deeper (envOf name scope L a cd)) (handleBy (.ref e) (envOf name scope L a cd) (.ExceptHandler (some (.Name "BoundFault" np)) none (b₀ :: suite) pos :: rest)) Q E s₃) E s₂) E s' := by
  obtain ⟨a0, hfl⟩ := R
  have hL : B.get? L = none := by
    obtain ⟨_, ⟨L', _, hf, hn', _⟩, _⟩ := hfl.2.2.1
    obtain rfl : L = L' := Option.some.inj hf
    exact hn'
  refine wpAny_looks_onW (Around.frames_deeper hA) rfl hfl fun h₄ hheld₄ hsm₄ => ?_
  refine wpAny_landsW hheld₄ fun h₅ hheld hsm₅' => ?_
  have hsm₅ := hsm₄.trans hsm₅'
  have hheld' := flyingW_base hB hheld
  have F₅ := F.of_stays hheld'.1 (hsm.trans hsm₅)
  obtain ⟨ob, hob, hobc⟩ := hheld'.there
  refine wpAny_handleBy_cons (codeAny_handlers_test ?_) (by intro q; cases q)
  k_dflt (refine' name_K (v := .ref 53) F₅ X (topRead_of T) ?hn ?k1 hk hx (by decide))
  case hn => k_is
  case k1 =>
    obtain ⟨hh, gs, d, tk, os⟩ := s'
    k_dflt (refine' wpAny_excMatches_sub_self ((X.keeps F₅.keep) 53 _ ?hC) hob hobc ?hB (codeAny_handlers_suite ?k2))
    case hC => k_is
    case hB => decide +kernel
    case k2 =>
      refine lands_againW hheld fun h₆ hfl₆ hsm₆ => ?_
      have hfl₆' := flyingW_base hB hfl₆
      have F₆ := F.of_stays hfl₆'.1 ((hsm.trans hsm₅).trans hsm₆)
      exact wpAny_passesOwnAt hE (k h₆ F₆ (fun q hq => ⟨hfl₆.1 _ _ (hl q hq).1, (fun z => by have := (hl q hq).1; rw [z, hL] at this; cases this), (hl q hq).2⟩) (funFrames_base hB hfl₆.2.2.1.2.2) (hsm₅.trans hsm₆))
end

section
variable {M : Model} {A : Around} {E : Value → Shared → Prop} {s' : Shared} {base G h : Heap} {envs : List Env} {L e : Addr} {m : Str → Option Value} {env : Env} {Q : Unit → Shared → Prop} {news : List (Addr × Obj)}
/-- the fault leaves the call that raised it, in the call's own words -/
theorem raise_out {a0 : Value} {dd : Option Addr} (k : h.StaysIn s'.heap) (K : Below A base envs G) (F : Fr G L h m) (N : News G L h news) (hf : env.frame = some L) (hk : env.scope.kind = .function) (hen : h.get? e = none)
    (he : s'.heap.get? e = some { cls := .ref 53, dict := dd, data := .fields #[a0, .none, .none, .none, .bool false, .none] })
    (hQ : ∀ h', Fly (bare G envs) envs e h' → G.UpToSlots h' → (∀ p ∈ news, h'.get? p.1 = some p.2) → Q () { s' with heap := h' }) :
    wpAny M (A.deeper env) (leaving env (.ref e)) Q E s' :=
  leave_first K F hf hk k hen he fun h' f u => hQ h' (f.base (bare_stays K F hf)) (Heap.UpToSlots.trans (Heap.UpToSlots.of_keeps F.keep) u) fun p hp => by
    refine f.stays _ _ (bare_get (N p hp).1 fun hm => ?_)
    rw [List.filterMap_cons_some hf] at hm
    rcases List.mem_cons.mp hm with hm | hm
    · exact (N p hp).2.1 hm
    · obtain ⟨env', he', hf'⟩ := List.mem_filterMap.mp hm
      obtain ⟨L₁, o₁, hf₁, ho₁⟩ := funFrames_in K.frames env' he'
      rw [hf₁] at hf'
      have := (N p hp).2.2
      rw [← (Option.some.inj hf' : L₁ = p.1), ho₁] at this; cases this
/-- the fault goes on through a call, whose callee's ground was what stood but the addresses W -/
theorem pass_out {W : List Addr} (K : Below A base envs G) (F : Fr G L h m) (hf : env.frame = some L) (hW : ∀ a ∈ W, G.get? a = none ∧ a ≠ L) (R : Fly (bare (hideAll h W) (env :: envs)) (env :: envs) e s'.heap) (u : (hideAll h W).UpToSlots s'.heap)
    (hQ : ∀ h', Fly (bare G envs) envs e h' → G.UpToSlots h' → s'.heap.UpToSlots h' → (bare (hideAll h W) (env :: envs)).StaysIn h' → Q () { s' with heap := h' }) :
    wpAny M (A.deeper env) (leaving env (.ref e)) Q E s' :=
  leave_on K.stack hf R fun h' f u' => by
    have st : G.StaysIn (hideAll h W) := fun b o e => hideAll_get _ (F.keep b o e) fun q => by rw [(hW b q).1] at e; cases e
    refine hQ h' (f.base fun b o q => ?_) (Heap.UpToSlots.trans (Heap.UpToSlots.trans (Heap.UpToSlots.of_keeps st) u) u') u' f.stays
    refine bare_get (st b o (bare_of q)) fun hm => ?_
    rw [List.filterMap_cons_some hf] at hm
    rcases List.mem_cons.mp hm with rfl | hm
    · exact absurd (Heap.lt_size (bare_of q)) (Nat.not_lt.mpr F.above)
    · exact bare_not q hm
end
end

section
open PySem PySem.W PySem.Calls PyProof.Rows PySem.Spec
theorem belowUp {A : Around} {base G g : Heap} {envs : List Env} (B : Below A base envs G) (k : G.StaysIn g) : Below A base envs g :=
  ⟨B.stack, fun b o e => k b o (B.stays b o e), B.frames.of_keeps fun b o e _ => ⟨o, k b o e, rfl⟩⟩

inductive TurnEnd (g : Heap) (L : Addr) (J : (Str → Option Value) → Prop) (news : List (Addr × Obj)) (s₁ s₂ : Shared) : Prop
  | mk (h' : Heap) (tk : Nat) (m' : Str → Option Value) (e : s₂ = { s₁ with heap := h', toks := tk }) (F : Fr g L h' m') (N : News g L h' news) (j : J m') : TurnEnd g L J news s₁ s₂
noncomputable def TurnPost (g : Heap) (L : Addr) (J : (Str → Option Value) → Prop) (news : List (Addr × Obj)) (s₁ : Shared) (Q : Flow → Shared → Prop) (f : Flow) (s₂ : Shared) : Prop :=
  match f with
  | .ret v => Q (.ret v) s₂
  | .brk => Q .next s₂
  | _ => TurnEnd g L J news s₁ s₂

section
variable {prog : Program} {w : World} {A A₀ : Around} {E : Value → Shared → Prop} {s : Shared} {env : Env} {base G : Heap} {envs : List Env} {x : Str} {body : List Stmt} {Q : Flow → Shared → Prop}
  {K : Frag} {p : Program} {loose : List Str} {mean : ExcName → Option Value} {mg mb : Str → Option Value}
theorem iter_walks {I : Addr} {fp : List Addr} {n : Nat} {P : Nat → Value → Prop} {St : Nat → Heap → Prop} {m₀ : Str → Option Value} {news : List (Addr × Obj)} (J : Nat → (Str → Option Value) → Prop)
    (W : Walks prog w A I fp [I] n P St) (hI : I ∈ fp) (hLf : env.locals ∉ fp) (hwr : G.get? I = none) (hfp : ∀ q ∈ news, q.1 ∉ fp) (hst : St 0 s.heap)
    (F : Fr G env.locals s.heap m₀) (N : News G env.locals s.heap news) (hj : J 0 m₀)
    (turn : ∀ i v m₁ h tk own, i < n → P i v → J i m₁ → Fr G env.locals h (fun y => if y = x then some v else m₁ y) → News G env.locals h (news ++ own) →
      wpAny (model prog w) A (execs body env) (TurnPost G env.locals (J (i + 1)) (news ++ own) { s with heap := h, toks := tk } Q) E { s with heap := h, toks := tk })
    (done : ∀ m₁ h tk, J n m₁ → Fr G env.locals h m₁ → News G env.locals h news → Q .next { s with heap := h, toks := tk }) :
    LoopAtV prog w A G env x body Q E (.ref I) s := by
  let J' : Nat → (Str → Option Value) → List (Addr × Obj) → Prop := fun i m₁ news₁ => news₁ = news ∧ J i m₁
  refine ⟨I, fp, [I], n, P, St, m₀, news, J', rfl, W, hLf, fun b hb => (List.mem_singleton.mp hb) ▸ hwr, fun p hp q => hfp p hp ((List.mem_singleton.mp q) ▸ hI), hst, F, N, ⟨rfl, hj⟩, ?_, ?_⟩
  · rintro i v m₁ news₁ s₁ own ⟨hh', tk', rfl⟩ hin hP ⟨rfl, hJ⟩ hoff hown hget _ _ F₁ N₁
    have N₂ : News G env.locals hh' (news₁ ++ own) := fun p hp => N₁ p (List.mem_append.mpr ((List.mem_append.mp hp).symm))
    refine wpAny_mono (turn i v m₁ hh' tk' own hin hP hJ F₁ N₂) (fun f s₂ p => ?_) fun _ _ e => e
    have fin : TurnEnd G env.locals (J (i + 1)) (news₁ ++ own) { s with heap := hh', toks := tk' } s₂ → LoopStepU G env.locals [I] own (J' (i + 1)) { s with heap := hh', toks := tk' } .next s₂ := by
      rintro ⟨h', tk, m', e, F', N', hm⟩
      exact ⟨rfl, h', tk, m', news₁, e, F', fun p hp => N' p (List.mem_append.mpr ((List.mem_append.mp hp).symm)), hoff, rfl, hm⟩
    cases f with
    | ret v => exact .ret p
    | brk => exact .brk p
    | next => exact .next (fin p)
    | cont => exact .cont (fin p)
  · rintro h' tk m' news' F' N' _ ⟨rfl, hJ⟩
    exact done m' h' tk hJ F' N'

/-- a loop over a tuple or a list of the ground -/
theorem iter_seq {l : Addr} {vs : List Value} {m₀ : Str → Option Value} {news : List (Addr × Obj)} (J : Nat → (Str → Option Value) → Prop)
    (hh : A.handled = none) (hl : G.IsTuple l vs.toArray ∨ G.IsList l vs.toArray) (F : Fr G env.locals s.heap m₀) (N : News G env.locals s.heap news) (hj : J 0 m₀)
    (turn : ∀ i v m₁ h tk own, vs[i]? = some v → J i m₁ → Fr G env.locals h (fun y => if y = x then some v else m₁ y) → News G env.locals h (news ++ own) →
      wpAny (model prog w) A (execs body env) (TurnPost G env.locals (J (i + 1)) (news ++ own) { s with heap := h, toks := tk } Q) E { s with heap := h, toks := tk })
    (done : ∀ m₁ h tk, J vs.length m₁ → Fr G env.locals h m₁ → News G env.locals h news → Q .next { s with heap := h, toks := tk }) :
    wpAny (model prog w) A (pyIter (.ref l)) (fun it s₂ => LoopAtV prog w A G env x body Q E it s₂) E s := by
  have hnew := next_is_new F
  have hlt : l < G.objs.size := by
    rcases hl with ⟨o, ho, _⟩ | ⟨o, ho, _⟩ <;> exact Heap.lt_size ho
  have hls : l < s.heap.objs.size := Nat.lt_trans (Nat.lt_of_lt_of_le hlt F.above) F.ns.lt
  have hne : l ≠ s.heap.objs.size := Nat.ne_of_lt hls
  have hlL : env.locals ≠ l := fun q => absurd (Nat.lt_of_lt_of_le hlt F.above) (q ▸ Nat.lt_irrefl _)
  have hLf : env.locals ∉ [s.heap.objs.size, l] := by
    intro q
    rcases List.mem_cons.mp q with q | q
    · exact absurd F.ns.lt (q ▸ Nat.lt_irrefl _)
    · exact hlL (List.mem_singleton.mp q)
  have hfp : ∀ q ∈ news, q.1 ∉ [s.heap.objs.size, l] := by
    intro p hp q
    rcases List.mem_cons.mp q with q | q
    · exact absurd (Heap.lt_size (N p hp).1) (q ▸ Nat.lt_irrefl _)
    · have := (N p hp).2.2
      rw [List.mem_singleton.mp q] at this
      rcases hl with ⟨o, ho, _⟩ | ⟨o, ho, _⟩ <;> · rw [ho] at this; cases this
  have hlen : vs.toArray.size = vs.length := by simp
  rcases hl with hl | hl
  · have hs : s.heap.IsTuple l vs.toArray := let ⟨o, ho, r⟩ := hl; ⟨o, F.keep _ _ ho, r⟩
    refine wpAny_pyIter_tuple hs ?_
    have W := Walks.tuple (prog := prog) (w := w) hh s.heap.objs.size l hne vs.toArray
    rw [hlen] at W
    refine iter_walks (s := { s with heap := s.heap.push _ }) J W (List.mem_cons_self ..) hLf hnew hfp ⟨⟨_, Heap.get?_push_size _ rfl, rfl, rfl⟩, let ⟨o, ho, r⟩ := hs; ⟨o, Heap.get?_push_of_some _ ho, r⟩⟩ (F.push _) (fun p hp => ⟨Heap.get?_push_of_some _ (N p hp).1, (N p hp).2⟩) hj ?_ done
    exact fun i v m₁ h tk own _ hP => turn i v m₁ h tk own (by simpa using hP)
  · have hs : s.heap.IsList l vs.toArray := hl.at fun o e => F.keep l o e
    refine wpAny_pyIter_list hs ?_
    have W := Walks.list (prog := prog) (w := w) hh s.heap.objs.size l hne vs.toArray
    rw [hlen] at W
    refine iter_walks (s := { s with heap := s.heap.push _ }) J W (List.mem_cons_self ..) hLf hnew hfp ⟨⟨_, Heap.get?_push_size _ rfl, rfl, rfl⟩, hs.at fun o e => Heap.get?_push_of_some _ e⟩ (F.push _) (fun p hp => ⟨Heap.get?_push_of_some _ (N p hp).1, (N p hp).2⟩) hj ?_ done
    exact fun i v m₁ h tk own _ hP => turn i v m₁ h tk own (by simpa using hP)

theorem map_two {x x2 : Str} {m₁ m₀ : Str → Option Value} (v : Option Value) (h : ∀ y, y ≠ x → y ≠ x2 → m₁ y = m₀ y) :
    (fun y => if y = x then v else m₁ y) = fun y => if y = x then v else if y = x2 then m₁ y else m₀ y := by
  funext y
  by_cases h1 : y = x
  · simp [h1]
  · by_cases h2 : y = x2
    · subst h2; simp [h1]
    · simp [h1, h2, h y h1 h2]
/-- a loop over a tuple or a list of the ground, its stored names x and x2 -/
theorem iter_seqF {l : Addr} {vs : List Value} {m₀ : Str → Option Value} {news : List (Addr × Obj)} (x2 : Str) (P : Nat → (Str → Option Value) → Prop)
    (hl : G.IsTuple l vs.toArray ∨ G.IsList l vs.toArray) (hh : A.handled = none) (F : Fr G env.locals s.heap m₀) (N : News G env.locals s.heap news) (hj : P 0 m₀)
    (turn : ∀ i v u h tk own, vs[i]? = some v → P i u → Fr G env.locals h (fun y => if y = x then some v else if y = x2 then u y else m₀ y) → News G env.locals h (news ++ own) →
      wpAny (model prog w) A (execs body env) (TurnPost G env.locals (fun m' => (∀ y, y ≠ x → y ≠ x2 → m' y = m₀ y) ∧ P (i + 1) m') (news ++ own) { s with heap := h, toks := tk } Q) E { s with heap := h, toks := tk })
    (done : ∀ u h tk, P vs.length u → Fr G env.locals h (fun y => if y = x then u y else if y = x2 then u y else m₀ y) → News G env.locals h news → Q .next { s with heap := h, toks := tk }) :
    wpAny (model prog w) A (pyIter (.ref l)) (fun it s₂ => LoopAtV prog w A G env x body Q E it s₂) E s := by
  refine iter_seq (fun i m => (∀ y, y ≠ x → y ≠ x2 → m y = m₀ y) ∧ P i m) hh hl F N ⟨fun _ _ _ => rfl, hj⟩ ?_ ?_
  · rintro i v m₁ h tk own hv ⟨hm, hP⟩ F₁ N₁
    rw [map_two (some v) hm] at F₁
    exact turn i v m₁ h tk own hv hP F₁ N₁
  · rintro m₁ h tk ⟨hm, hP⟩ F₁ N₁
    refine done m₁ h tk hP ?_ N₁
    have e : m₁ = fun y => if y = x then m₁ y else if y = x2 then m₁ y else m₀ y := by
      funext y
      by_cases h1 : y = x
      · simp [h1]
      · by_cases h2 : y = x2
        · simp [h2]
        · simp [h1, h2, hm y h1 h2]
    exact e ▸ F₁

/-- a loop over a range by ones -/
theorem iter_rangeF {r : Addr} {a b : Int} {t0 u0 v0 : Tok} {n : Nat} {m₀ : Str → Option Value} {news : List (Addr × Obj)} (x2 : Str) (P : Nat → (Str → Option Value) → Prop)
    (hr : IsRange s.heap r a b 1 t0 u0 v0) (hsmall : Builtin.Range.small a b 1 = true) (hn : Builtin.Range.rangeSize a b 1 = (n : Int)) (hh : A.handled = none) (F : Fr G env.locals s.heap m₀) (N : News G env.locals s.heap news) (hj : P 0 m₀)
    (turn : ∀ (i : Nat) t u h tk own, i < n → P i u → Fr G env.locals h (fun y => if y = x then some (.int (a + i) t) else if y = x2 then u y else m₀ y) → News G env.locals h (news ++ own) →
      wpAny (model prog w) A (execs body env) (TurnPost G env.locals (fun m' => (∀ y, y ≠ x → y ≠ x2 → m' y = m₀ y) ∧ P (i + 1) m') (news ++ own) { s with heap := h, toks := tk } Q) E { s with heap := h, toks := tk })
    (done : ∀ u h tk, P n u → Fr G env.locals h (fun y => if y = x then u y else if y = x2 then u y else m₀ y) → News G env.locals h news → Q .next { s with heap := h, toks := tk }) :
    wpAny (model prog w) A (pyIter (.ref r)) (fun it s₂ => LoopAtV prog w A G env x body Q E it s₂) E s := by
  refine wpAny_pyIter_range hr hsmall ?_
  have hnew := next_is_new F
  have W := Walks.range (prog := prog) (w := w) hh s.heap.objs.size a 1 n
  refine iter_walks (s := { s with heap := s.heap.push _ }) (fun i m => (∀ y, y ≠ x → y ≠ x2 → m y = m₀ y) ∧ P i m) W (List.mem_cons_self ..) (fun q => absurd F.ns.lt ((List.mem_singleton.mp q) ▸ Nat.lt_irrefl _)) hnew
    (fun p hp q => absurd (Heap.lt_size (N p hp).1) ((List.mem_singleton.mp q) ▸ Nat.lt_irrefl _)) (by show IsRangeIter _ _ _ _ _; rw [hn]; simpa using Heap.get?_push_size _ rfl) (F.push _) (fun p hp => ⟨Heap.get?_push_of_some _ (N p hp).1, (N p hp).2⟩) ⟨fun _ _ _ => rfl, hj⟩ ?_ ?_
  · rintro i v m₁ h tk own hi ⟨t, rfl⟩ ⟨hm, hP⟩ F₁ N₁
    rw [map_two _ hm, Int.mul_one] at F₁
    exact turn i t m₁ h tk own hi hP F₁ N₁
  · rintro m₁ h tk ⟨hm, hP⟩ F₁ N₁
    refine done m₁ h tk hP ?_ N₁
    have e : m₁ = fun y => if y = x then m₁ y else if y = x2 then m₁ y else m₀ y := by
      funext y
      by_cases h1 : y = x
      · simp [h1]
      · by_cases h2 : y = x2
        · simp [h2]
        · simp [h1, h2, hm y h1 h2]
    exact e ▸ F₁
end
end

section
open PySem PySem.W PySem.Calls PyProof.Rows PySem.Spec
/-- what stands in a row: an int, or False -/
inductive Cel where
  | int (i : Int)
  | no
  deriving DecidableEq
noncomputable def CelIs : Cel → Value → Prop
  | .int i, v => ∃ t, v = .int i t
  | .no, v => v = .bool false
inductive CelsAre : List Value → List Cel → Prop
  | nil : CelsAre [] []
  | cons {v : Value} {vs : List Value} {c : Cel} {cs : List Cel} (x : CelIs c v) (r : CelsAre vs cs) : CelsAre (v :: vs) (c :: cs)
/-- a row upon the heap: a tuple of such -/
inductive RowAt (h : Heap) (r : List Cel) (v : Value) : Prop
  | of  (a) (vs) (z1 : v = .ref a) (z2 : h.IsTuple a vs.toArray) (z3 : CelsAre vs r) : RowAt h r v
inductive RowsAre (h : Heap) : List Value → List (List Cel) → Prop
  | nil : RowsAre h [] []
  | cons {v : Value} {vs : List Value} {r : List Cel} {rs : List (List Cel)} (x : RowAt h r v) (t : RowsAre h vs rs) : RowsAre h (v :: vs) (r :: rs)
/-- a set as it is handed about: a tuple of rows, or a list of rows -/
structure Rel where
  tup : Bool
  rows : List (List Cel)
inductive RelAt (h : Heap) (a : Addr) (R : Rel) : Prop
  | of  (vs) (z1 : (if R.tup = true then h.IsTuple a vs.toArray else h.IsList a vs.toArray)) (z2 : RowsAre h vs R.rows) : RelAt h a R

inductive CelGet (cs : List Cel) (i : Nat) (v : Value) : Prop
  | of (c : Cel) (e : cs[i]? = some c) (x : CelIs c v) : CelGet cs i v
inductive RowGet (h : Heap) (rs : List (List Cel)) (i : Nat) (v : Value) : Prop
  | of (r : List Cel) (e : rs[i]? = some r) (x : RowAt h r v) : RowGet h rs i v
theorem CelsAre.length {vs : List Value} {cs : List Cel} (h : CelsAre vs cs) : vs.length = cs.length := by
  induction h with
  | nil => rfl
  | cons _ _ ih => exact congrArg Nat.succ ih
theorem CelsAre.get {vs : List Value} {cs : List Cel} (h : CelsAre vs cs) : ∀ {i : Nat} {v : Value}, vs[i]? = some v → CelGet cs i v := by
  induction h with
  | nil => intro i v e; cases e
  | cons x _ ih =>
    intro i v e
    cases i with
    | zero => exact ⟨_, rfl, Option.some.inj e ▸ x⟩
    | succ i => exact let ⟨c, a, b⟩ := ih e; ⟨c, a, b⟩
theorem RowsAre.length {h : Heap} {vs : List Value} {rs : List (List Cel)} (x : RowsAre h vs rs) : vs.length = rs.length := by
  induction x with
  | nil => rfl
  | cons _ _ ih => exact congrArg Nat.succ ih
theorem RowsAre.get {h : Heap} {vs : List Value} {rs : List (List Cel)} (x : RowsAre h vs rs) : ∀ {i : Nat} {v : Value}, vs[i]? = some v → RowGet h rs i v := by
  induction x with
  | nil => intro i v e; cases e
  | cons x _ ih =>
    intro i v e
    cases i with
    | zero => exact ⟨_, rfl, Option.some.inj e ▸ x⟩
    | succ i => exact let ⟨c, a, b⟩ := ih e; ⟨c, a, b⟩
theorem tupKeeps {h h' : Heap} {a : Addr} {items : Array Value} (x : h.IsTuple a items) (k : h.StaysIn h') : h'.IsTuple a items := let ⟨o, ho, r⟩ := x; ⟨o, k _ _ ho, r⟩
theorem RowAt.keeps {h h' : Heap} {r : List Cel} {v : Value} (x : RowAt h r v) (k : h.StaysIn h') : RowAt h' r v := let ⟨a, vs, e, t, c⟩ := x; ⟨a, vs, e, tupKeeps t k, c⟩
theorem RowsAre.keeps {h h' : Heap} {vs : List Value} {rs : List (List Cel)} (r : RowsAre h vs rs) (k : h.StaysIn h') : RowsAre h' vs rs := by
  induction r with
  | nil => exact .nil
  | cons x _ ih => exact .cons (x.keeps k) ih
theorem RelAt.keeps {h h' : Heap} {a : Addr} {R : Rel} (x : RelAt h a R) (k : h.StaysIn h') : RelAt h' a R := by
  obtain ⟨vs, s, r⟩ := x
  refine ⟨vs, ?_, r.keeps k⟩
  split at s
  · rw [if_pos (by assumption)]; exact tupKeeps s k
  · rw [if_neg (by assumption)]; exact s.at fun o e => k _ _ e
end

open PySem PySem.W PySem.Calls PyProof.Rows
local macro_rules | `(tactic| walk_at "for2") => `(tactic| (k_here; (rename Fr _ _ _ _ => lF'); (with_unfolding_all refine' For_invVF lF' ?k1 ?k2 ?_; (case k1 => exact rfl); (case k2 => exact rfl); k_whole)))
section
open PySem PySem.W PySem.Calls PyProof.Rows PySem.Spec
section
variable {prog : Program} {w : World} {A : Around} {E : Value → Shared → Prop} {h : Heap} {g : Array GenState} {d : Drawn} {t : Nat} {os : OsState}
noncomputable def IntsIs : List Value → List Int → Prop
  | [], [] => True
  | v :: vs, i :: is => (∃ t, v = .int i t) ∧ IntsIs vs is
  | _, _ => False
/-- the order of two rows of the same length -/
noncomputable def lexLt : List Int → List Int → Bool
  | a :: as, b :: bs => if a = b then lexLt as bs else decide (a < b)
  | _, _ => false
theorem IntsIs.length : ∀ {vs : List Value} {r : List Int}, IntsIs vs r → vs.length = r.length
  | [], [], _ => rfl
  | _ :: _, _ :: _, ⟨_, x⟩ => by rw [List.length_cons, List.length_cons, x.length]
noncomputable abbrev ltBody (op : CmpOp) (p : Value × Value) : Sem (ForInStep (Option PySem.Fin × Unit)) := match p with
  | (x, y) => do
    let e ← eqBool x y
    if (!e) = true then
      match op with
      | CmpOp.Eq => do
        let a ← ret (Value.bool false)
        pure (ForInStep.done (some a, ()))
      | CmpOp.NotEq => do
        let a ← ret (Value.bool true)
        pure (ForInStep.done (some a, ()))
      | _ => do
        rule "tuple.compare.by-the-first-pair-that-differs"
        let a ← richCompare op x y
        let a ← ret a
        pure (ForInStep.done (some a, ()))
    else pure (ForInStep.yield (none, ()))
theorem zip_lt {s : Shared} {Q : Option PySem.Fin × Unit → Shared → Prop} {vs us : List Value} {r q : List Int} (hr : IntsIs vs r) (hu : IntsIs us q) (hl : r.length = q.length)
    (hq : Q (if r = q then (none, ()) else (some (.done (.ret (.bool (lexLt r q)))), ())) s) :
    wpAny (model prog w) A (forIn (vs.zip us) ((none, ()) : Option PySem.Fin × Unit) fun x _ => ltBody .Lt x) Q E s := by
  induction vs generalizing us r q with
  | nil =>
    cases r with
    | cons _ _ => exact hr.elim
    | nil =>
      cases q with
      | cons _ _ => cases hl
      | nil => exact wpAny_pure hq
  | cons v vs ih =>
    cases r with
    | nil => exact hr.elim
    | cons a r =>
      cases q with
      | nil => cases hl
      | cons b q =>
        cases us with
        | nil => exact hu.elim
        | cons u us =>
          obtain ⟨⟨ta, rfl⟩, x⟩ := hr
          obtain ⟨⟨tb, rfl⟩, y⟩ := hu
          rw [List.zip_cons_cons, List.forIn_cons]
          refine wpAny_bind (wpAny_bind (wpAny_eqBool_int ?_))
          by_cases hab : a = b
          · subst hab
            rw [beq_self_eq_true]
            refine wpAny_pure (ih x y (by simpa using hl) ?_)
            have e : lexLt (a :: r) (a :: q) = lexLt r q := by simp [lexLt]
            rw [e] at hq
            simpa using hq
          · rw [show (a == b) = false by simpa using hab]
            have e : lexLt (a :: r) (b :: q) = decide (a < b) := by simp [lexLt, hab]
            rw [e, if_neg (by simp [hab])] at hq
            refine wpAny_bind (wpAny_rule ?_)
            refine wpAny_bind (PyProof.Rows.lt_int (wpAny_bind (wpAny_pure (wpAny_pure (wpAny_pure hq)))))
theorem tuple_lt {x y : Addr} {vs us : List Value} {r q : List Int} {Q : Value → Shared → Prop} (hx : h.IsTuple x vs.toArray) (hy : h.IsTuple y us.toArray) (hr : IntsIs vs r) (hq' : IntsIs us q) (hl : r.length = q.length) (hu : A.units < cLine)
    (hq : Q (.bool (lexLt r q)) ⟨h, g, d, t, os⟩) : wpAny (model prog w) A (compareOp .Lt (.ref x) (.ref y)) Q E ⟨h, g, d, t, os⟩ := by
  obtain ⟨ox, ex, cx, nx, dx⟩ := hx
  obtain ⟨oy, ey, cy, ny, dy⟩ := hy
  have hxT : (⟨h, g, d, t, os⟩ : Shared).TypeIs (.ref x) "tuple" := ⟨_, ex, cx⟩
  have hyT : (⟨h, g, d, t, os⟩ : Shared).TypeIs (.ref y) "tuple" := ⟨_, ey, cy⟩
  have hsub : isSubtype (.type "tuple") (.type "tuple") = pure true := by rw [isSubtype_type]; kernel_rfl
  refine cmp_ofLt (wpAny_richCompare_same_room (op := .Lt) hxT hyT F.slot_tuple_lt (wpAny_call_entry F.slot_tuple_lt hxT F.entry_tuple_lt ?_ (F.args_tuple_lt_2 _ _)) hu)
  unfold Builtin.«tuple.__lt__»
  repeat (any_goals (first | assumption | wp_step))
  rw [dx]
  repeat (any_goals (first | assumption | wp_step))
  rw [dy]
  repeat (any_goals (first | assumption | wp_step))
  show wpAny _ _ (forIn (vs.zip us) ((none, ()) : Option PySem.Fin × Unit) fun x _ => ltBody .Lt x) _ _ _
  refine zip_lt (vs := vs) (us := us) hr hq' hl ?_
  by_cases he : r = q
  · subst he
    rw [if_pos rfl]
    have e : lexLt r r = false := by clear hr hq' hl hq; induction r with
      | nil => rfl
      | cons a r ih => simp [lexLt, ih]
    have hz : vs.toArray.size = us.toArray.size := by rw [List.size_toArray, List.size_toArray, hr.length, hq'.length]
    refine wpAny_pure ⟨_, rfl, ?_, ?_⟩
    · rw [hz]; simp [Builtin.Tuple.tupleCompareSizes]
    · rw [hz]; rw [e] at hq; simpa [Builtin.Tuple.tupleCompareSizes] using hq
  · rw [if_neg he]
    exact wpAny_pure ⟨_, rfl, (fun z => nomatch z), hq⟩
end
end

section
open PySem PySem.W PySem.Calls PyProof.Rows PySem.Spec
theorem unhide {h h' : Heap} {W : List Addr} (k : (hideAll h W).StaysIn h') (hW : ∀ a ∈ W, ∀ o, h.get? a = some o → h'.get? a = some o) : h.StaysIn h' := fun b o e => by
  by_cases hb : b ∈ W
  · exact hW b hb o e
  · exact k b o (hideAll_get _ e hb)

noncomputable abbrev uniEs (q4 q5 : Int) (k4 k5 : Tok) (T D : Addr) : List DictEntry := [⟨q4, .str "names" k4, .ref T⟩, ⟨q5, .str "numbers" k5, .ref D⟩]
noncomputable abbrev tupObj (vs : List Value) : Obj := { cls := .type "tuple", data := .seq vs.toArray }
local macro_rules | `(tactic| walk_at $s) => Mine.red [("call builtin:len", "len")] s

set_option maxHeartbeats 4000000 in
theorem size_call {w : World} {A : Around} {base G : Heap} {envs : List Env} {mean : ExcName → Option Value} {mg mb : Str → Option Value} {s : Shared} {Q E : Value → Shared → Prop}
    {U Ud T D : Addr} {q4 q5 : Int} {k4 k5 : Tok} {names : List Value}
    (H : At w A base envs mean mg mb G s) (hd : A.depth ≤ 460) (hu : A.units ≤ 1000)
    (hN : ∀ p ∈ [(U, instObj 115 Ud), (Ud, dictOf (uniEs q4 q5 k4 k5 T D) 2), (T, tupObj names)], s.heap.get? p.1 = some p.2 ∧ G.get? p.1 = none) (hn : names.length ≤ 9)
    (hret : ∀ t h' tk' , G.StaysIn h' → (∀ p ∈ [(U, instObj 115 Ud), (Ud, dictOf (uniEs q4 q5 k4 k5 T D) 2), (T, tupObj names)], h'.get? p.1 = some p.2) → Q (.int names.length t) { s with heap := h', toks := tk' }) :
    wpAny (model Challenge.pw_nu0267_01 w) A (call (.ref 88) [.ref U]) Q E s := by
  revert hd hu
  refine At.lit (P := fun A => (A.depth ≤ _) → (A.units ≤ _) → wpAny _ A _ _ _ _) H fun dp gd un H hd hu => ?_
  dsimp only at hd hu
  refine wpAny_call ?_
  k_dflt (refine' enter (binds := [(Str.ofString "self", .ref U)]) H hN ?ho ?hcd ?hroom ?hbind ?hloc ?_ ?hcell ?hco ?hgen ?hk)
  case ho => k_is
  case hcd => k_is
  case hroom => k_room
  case hbind => exact BindsTo.of_eq rfl
  case hloc => exact locs rfl
  case hcell => decide
  case hco => exact rfl
  case hgen => exact rfl
  case hk => exact rfl
  intro L' h₁ env0 M0 F N B X T hs hL
  (try dsimp only); (try ((show wpAny _ _ _ _ _ _); k_fold))
  k_steps
  exact hret _ _ _ F.keep fun p hp => (N p hp).1

/-- a callee that changes nothing, upon a part of the caller's ledger -/
theorem use_pure {w : World} {A : Around} {base G : Heap} {envs : List Env} {mean : ExcName → Option Value} {mg mb : Str → Option Value} {s : Shared} {env : Env} {L : Addr} {m : Str → Option Value} {news : List (Addr × Obj)} (sub : List (Addr × Obj))
    (F : Fr G L s.heap m) (N : News G L s.heap news) (B : Below A base envs G) (X : (Mine.hd.heap_39 w.params).In G) (T : Top Mine.hd.view_39 (looseW Mine.hd.view_39 []) mean mg mb G) (hh : A.handled = none) (hf : env.frame = some L) (hk : env.scope.kind = .function)
    (hs : ∀ p ∈ sub, p ∈ news) :
    At w (A.deeper env) base (env :: envs) mean mg mb (hideAll s.heap (sub.map (·.1))) s ∧ (∀ p ∈ sub, s.heap.get? p.1 = some p.2 ∧ (hideAll s.heap (sub.map (·.1))).get? p.1 = none) ∧
      ∀ h', (hideAll s.heap (sub.map (·.1))).StaysIn h' → (∀ p ∈ sub, h'.get? p.1 = some p.2) → s.heap.StaysIn h' := by
  refine ⟨callee_at _ B X T hh F hf hk fun a ha => ?_, fun p hp => ⟨(N p (hs p hp)).1, hideAll_none _ (List.mem_map_of_mem hp)⟩, fun h' k kp => unhide k fun a ha o e => ?_⟩
  · obtain ⟨p, hp, rfl⟩ := List.mem_map.mp ha
    exact ⟨(N p (hs p hp)).2.2, (N p (hs p hp)).2.1⟩
  · obtain ⟨p, hp, rfl⟩ := List.mem_map.mp ha
    rw [(N p (hs p hp)).1] at e
    exact Option.some.inj e ▸ kp p hp

theorem size_use {w : World} {A : Around} {base G : Heap} {envs : List Env} {mean : ExcName → Option Value} {mg mb : Str → Option Value} {s : Shared} {env : Env} {L : Addr} {m : Str → Option Value} {news : List (Addr × Obj)} {Q E : Value → Shared → Prop}
    {U Ud T D : Addr} {q4 q5 : Int} {k4 k5 : Tok} {names : List Value}
    (F : Fr G L s.heap m) (N : News G L s.heap news) (B : Below A base envs G) (X : (Mine.hd.heap_39 w.params).In G) (T' : Top Mine.hd.view_39 (looseW Mine.hd.view_39 []) mean mg mb G) (hh : A.handled = none) (hf : env.frame = some L) (hk : env.scope.kind = .function)
    (h1 : (U, instObj 115 Ud) ∈ news) (h2 : (Ud, dictOf (uniEs q4 q5 k4 k5 T D) 2) ∈ news) (h3 : (T, tupObj names) ∈ news) (hd : (A.deeper env).depth ≤ 460) (hu : (A.deeper env).units ≤ 1000) (hn : names.length ≤ 9)
    (k : ∀ t h' tk', s.heap.StaysIn h' → Fr G L h' m → News G L h' news → Q (.int names.length t) { s with heap := h', toks := tk' }) :
    wpAny (model Challenge.pw_nu0267_01 w) (A.deeper env) (call (.ref 88) [.ref U]) Q E s := by
  obtain ⟨H, N1, U1⟩ := use_pure [(U, instObj 115 Ud), (Ud, dictOf (uniEs q4 q5 k4 k5 T D) 2), (T, tupObj names)] F N B X T' hh hf hk (by
    intro p hp
    rcases List.mem_cons.mp hp with rfl | hp
    · exact h1
    · rcases List.mem_cons.mp hp with rfl | hp
      · exact h2
      · rw [List.mem_singleton.mp hp]; exact h3)
  exact size_call H hd hu N1 hn fun t h' tk' k1 k2 => k t h' tk' (U1 h' k1 k2) (F.keeps (U1 h' k1 k2)) (N.grown (U1 h' k1 k2))
end

section
open PySem PySem.W PySem.Calls PyProof.Rows PySem.Spec
section
variable {prog : Program} {w : World} {A : Around} {E : Value → Shared → Prop} {s : Shared} {K : Frag}
theorem isi_tup {a : Addr} {items : Array Value} {Q : Value → Shared → Prop} (ht : s.heap.IsTuple a items) (X : K.In s.heap) (h : ∀ tk, Q (.bool true) { s with toks := tk }) :
    wpAny (model prog w) A (call (.builtin "isinstance") [.ref a, .type "tuple"]) Q E s :=
  let ⟨_, ho, hc, _⟩ := ht
  kia_one (K := K) kitx_tuple X ⟨_, ho, hc⟩ rfl (fun z => nomatch z) h
theorem isi_list {a : Addr} {items : Array Value} {Q : Value → Shared → Prop} (ht : s.heap.IsList a items) (X : K.In s.heap) (h : ∀ tk, Q (.bool false) { s with toks := tk }) :
    wpAny (model prog w) A (call (.builtin "isinstance") [.ref a, .type "tuple"]) Q E s :=
  let ⟨_, ho, hc, _⟩ := ht
  kia_one (K := K) kitx_list X ⟨_, ho, hc⟩ rfl (fun z => nomatch z) h
theorem field_small {a : Int} {t : Tok} {Q : Value → Shared → Prop} (h1 : 1 ≤ a) (h9 : a ≤ 9) (h : ∀ y t' tk, y.length ≤ 100 → Q (.str y t') { s with toks := tk }) :
    wpAny (model prog w) A (formatField (.int a t) Str.empty) Q E s := by
  have : a = 1 ∨ a = 2 ∨ a = 3 ∨ a = 4 ∨ a = 5 ∨ a = 6 ∨ a = 7 ∨ a = 8 ∨ a = 9 := by omega
  refine wpAny_formatField_int ?_ (h _ _ _ ?_)
  · rcases this with rfl | rfl | rfl | rfl | rfl | rfl | rfl | rfl | rfl <;> decide +kernel
  · rcases this with rfl | rfl | rfl | rfl | rfl | rfl | rfl | rfl | rfl <;> decide +kernel
end
set_option hygiene false in
local macro_rules | `(tactic| walk_at "formatField int") => `(tactic| (k_here; refine field_small (by assumption) (by assumption) ?_; intro _ _ _ _))

theorem lits : (PySem.Str.empty.length = 0) ∧ (Str.ofString ": a set of tuples is wanted").length ≤ 100 ∧ (Str.ofString ": a tuple of ").length ≤ 100 ∧ (Str.ofString " atoms is wanted").length ≤ 100 ∧ (Str.ofString ": there is no such atom").length ≤ 100 ∧ (Str.ofString ": the tuples do not ascend").length ≤ 100 ∧ (Str.ofString "two relations are called ").length ≤ 100 ∧ (Str.ofString ": an arity is 1 at least").length ≤ 100 ∧ (Str.ofString ": what it has for sure is not within what it can have").length ≤ 100 ∧ (Str.ofString "no relation is called ").length ≤ 100 ∧ (Str.ofString "no atom is called ").length ≤ 100 ∧ (Str.ofString "two atoms are called ").length ≤ 100 := ⟨rfl, by decide +kernel, by decide +kernel, by decide +kernel, by decide +kernel, by decide +kernel, by decide +kernel, by decide +kernel, by decide +kernel, by decide +kernel, by decide +kernel, by decide +kernel⟩
local macro_rules | `(tactic| walk_at $s) => Mine.red [("call builtin:isinstance", "isi"), ("formatField str", "fs"), ("exec Raise some none", "rz"), ("call ref", "f53"), ("And", "and"), ("joinParts", "jp"), ("leaving ref", "lv"), ("Frag.In", "fi"), ("call builtin:len", "len")] s
theorem ledgerKept {h : Heap} {news : List (Addr × Obj)} (x : ∀ p ∈ news, h.get? p.1 = some p.2) : LedgerKept h news := x
local macro_rules | `(tactic| walk_at $s) => Mine.red [("exec For Name Name cons nil", "for2")] s
theorem c88 {M : Model} {A : Around} {Q : Value → Shared → Prop} {E : Value → Shared → Prop} {s : Shared} {l : _} (h : wpAny M A (call (.ref 88) l) Q E s) : wpAny M A (call (.ref 88) l) Q E s := h
set_option hygiene false in
local macro_rules | `(tactic| walk_at "call ref") => `(tactic| (k_here; with_reducible refine Mine.c88 ?_; k_dflt (refine' size_use (by k_asm) (by k_asm) (by assumption) (by k_asm) (by k_asm) rfl rfl rfl (by k_mem) (by k_mem) (by k_mem) ?d ?u (by assumption) ?_; (case d => (simp only [depth_deeper]; omega)); (case u => (simp only [units_deeper]; omega)); intro _ _ _ _ _ _)))
noncomputable def okRow (n ar : Int) (r : List Cel) : Prop := (r.length : Int) = ar ∧ ∀ c ∈ r, ∃ i, c = .int i ∧ 0 ≤ i ∧ i < n
noncomputable def rowInts (r : List Cel) : List Int := r.map fun c => match c with | .int i => i | .no => 0
noncomputable def ascends (rows : List (List Cel)) : Prop := ∀ k, k + 1 < rows.length → lexLt (rowInts (rows.getD k [])) (rowInts (rows.getD (k + 1) [])) = true
noncomputable def wantOk (n ar : Int) (R : Rel) : Prop := R.tup = true ∧ (∀ r ∈ R.rows, okRow n ar r) ∧ ascends R.rows
theorem seqIdx {k : Int} {len j : Nat} (h : k = (j : Int)) (hj : j < len) : seqIndex? k len = some j := by
  subst h
  unfold seqIndex?
  have h0 : ¬ ((j : Int) < 0) := by omega
  have h1 : (j : Int) < (len : Int) := by omega
  simp [h0, h1]
theorem CelsAre.rowInts {n ar : Int} : ∀ {ws : List Value} {r : List Cel}, CelsAre ws r → okRow n ar r → IntsIs ws (rowInts r) := by
  intro ws r h ok
  have hi := ok.2
  clear ok
  induction h with
  | nil => trivial
  | cons x _ ih =>
    obtain ⟨i, rfl, _⟩ := hi _ (.head _)
    exact ⟨x, ih fun c hc => hi c (.tail _ hc)⟩
noncomputable abbrev wantL (B Bd bl nd U Ud T D : Addr) (q1 q2 q3 q4 q5 : Int) (k1 k2 k3 k4 k5 : Tok) (names : List Value) : List (Addr × Obj) := [(B, instObj 192 Bd), (Bd, dictOf [⟨q1, .str "universe" k1, .ref U⟩, ⟨q2, .str "bounds" k2, .ref bl⟩, ⟨q3, .str "numbers" k3, .ref nd⟩] 3), (U, instObj 115 Ud), (Ud, dictOf [⟨q4, .str "names" k4, .ref T⟩, ⟨q5, .str "numbers" k5, .ref D⟩] 2), (T, ({ cls := .type "tuple", data := .seq names.toArray } : Obj))]
theorem mem5 {α : Type} {a b c d e : α} {l : List α} (h1 : a ∈ l) (h2 : b ∈ l) (h3 : c ∈ l) (h4 : d ∈ l) (h5 : e ∈ l) : ∀ p ∈ [a, b, c, d, e], p ∈ l := allC h1 (allC h2 (allC h3 (allC h4 (allC h5 allN))))
local macro_rules | `(tactic| k_mem) => `(tactic| with_reducible assumption)
set_option maxHeartbeats 4000000 in
theorem want_set_call {w : World} {A : Around} {base G : Heap} {envs : List Env} {mean : ExcName → Option Value} {mg mb : Str → Option Value} {s : Shared} {Q E : Value → Shared → Prop}
    {B Bd bl nd U Ud T D a : Addr} {q1 q2 q3 q4 q5 : Int} {k1 k2 k3 k4 k5 : Tok} {x : Str} {u t : Tok} {ar : Int} {names : List Value} {c : Nat} {R : Rel}
    (H : At w A base envs mean mg mb G s) (hd : A.depth ≤ 450) (hu : A.units ≤ 500)
    (hN : ∀ p ∈ [(B, instObj 192 Bd), (Bd, dictOf [⟨q1, .str "universe" k1, .ref U⟩, ⟨q2, .str "bounds" k2, .ref bl⟩, ⟨q3, .str "numbers" k3, .ref nd⟩] 3), (U, instObj 115 Ud), (Ud, dictOf [⟨q4, .str "names" k4, .ref T⟩, ⟨q5, .str "numbers" k5, .ref D⟩] 2), (T, ({ cls := .type "tuple", data := .seq names.toArray } : Obj))],
      s.heap.get? p.1 = some p.2 ∧ G.get? p.1 = none)
    (hR : RelAt G a R) (hsz : ∀ r ∈ R.rows, r.length ≤ 9) (hnr : R.rows.length ≤ 20) (hx : x.length ≤ 100) (hn : names.length ≤ 9) (har : 1 ≤ ar) (har2 : ar ≤ 9)
    (hret : wantOk names.length ar R → ∀ h' tk' , G.StaysIn h' → (∀ p ∈ wantL B Bd bl nd U Ud T D q1 q2 q3 q4 q5 k1 k2 k3 k4 k5 names, h'.get? p.1 = some p.2) → Q .none { s with heap := h', toks := tk' })
    (hraise : ¬ wantOk names.length ar R → ∀ e h' tk', Fly (bare G envs) envs e h' → G.UpToSlots h' → (∀ p ∈ wantL B Bd bl nd U Ud T D q1 q2 q3 q4 q5 k1 k2 k3 k4 k5 names, h'.get? p.1 = some p.2) → E (.ref e) { s with heap := h', toks := tk' }) :
    wpAny (model Challenge.pw_nu0267_01 w) A (call (.ref 147) [.ref B, .str x u, .int ar t, .ref a]) Q E s := by
  revert hd hu
  refine At.lit (P := fun A => (A.depth ≤ _) → (A.units ≤ _) → wpAny _ A _ _ _ _) H fun dp gd un H hd hu => ?_
  dsimp only at hd hu
  refine wpAny_call ?_
  k_dflt (refine' enter (news := wantL B Bd bl nd U Ud T D q1 q2 q3 q4 q5 k1 k2 k3 k4 k5 names) (binds := [(Str.ofString "self", .ref B), (Str.ofString "name", .str x u), (Str.ofString "arity", .int ar t), (Str.ofString "some", .ref a)]) H hN ?ho ?hcd ?hroom ?hbind ?hloc ?_ ?hcell ?hco ?hgen ?hk)
  case ho => k_is
  case hcd => k_is
  case hroom => k_room
  case hbind => exact BindsTo.of_eq rfl
  case hloc => exact locs rfl
  case hcell => decide
  case hco => exact rfl
  case hgen => exact rfl
  case hk => exact rfl
  intro L' h₁ env0 M0 F N B₀ X T₀ hs hL
  let W : List (Addr × Obj) := wantL B Bd bl nd U Ud T D q1 q2 q3 q4 q5 k1 k2 k3 k4 k5 names
  replace N : News G L' h₁ W := N
  have m1 : (B, instObj 192 Bd) ∈ W := .head _
  have m2 : (Bd, dictOf [⟨q1, .str "universe" k1, .ref U⟩, ⟨q2, .str "bounds" k2, .ref bl⟩, ⟨q3, .str "numbers" k3, .ref nd⟩] 3) ∈ W := .tail _ (.head _)
  have m3 : (U, instObj 115 Ud) ∈ W := .tail _ (.tail _ (.head _))
  have m4 : (Ud, dictOf [⟨q4, .str "names" k4, .ref T⟩, ⟨q5, .str "numbers" k5, .ref D⟩] 2) ∈ W := .tail _ (.tail _ (.tail _ (.head _)))
  have m5 : (T, ({ cls := .type "tuple", data := .seq names.toArray } : Obj)) ∈ W := .tail _ (.tail _ (.tail _ (.tail _ (.head _))))
  (try dsimp only); (try ((show wpAny _ _ _ _ _ _); k_fold))
  obtain ⟨vs, hvs, hrows⟩ := hR
  obtain ⟨tup, rows⟩ := R
  have INt : ∀ {h h' : Heap} {m : Str → Option Value}, Fr G L' h m → h.StaysIn h' → (Mine.hd.heap_39 w.params).In h' := fun F k => Frag.In.keeps (Frag.In.keeps X (Fr.keep F)) k
  cases tup with
  | false =>
    rw [if_neg Bool.false_ne_true] at hvs
    k_steps
    · exact INt (by assumption) (by assumption)
    · exact hraise (fun h => Bool.noConfusion h.1) _ _ _ (by assumption) (by assumption) (fun p hp => (by with_reducible assumption : LedgerKept _ _) p (mem5 (by k_mem) (by k_mem) (by k_mem) (by k_mem) (by k_mem) p hp))
  | true =>
    rw [if_pos rfl] at hvs
    have hvl : vs.length ≤ 20 := by rw [hrows.length]; exact hnr
    k_steps
    refine iter_seqF "a" (fun i _ => ∀ j r, j < i → rows[j]? = some r → okRow names.length ar r) (.inl hvs) rfl (by assumption) (by assumption) (by intros; omega) ?turn ?done
    case turn =>
      intro i v u2 h2 tk2 own hv hP F2 N2
      obtain ⟨r, hr, b, ws, rfl, hb, hc⟩ := hrows.get hv
      have hr3 : r.length ≤ 9 := hsz r (List.mem_of_getElem? hr)
      have hw3 : ws.length ≤ 9 := by rw [hc.length]; exact hr3
      (try dsimp only); (try ((show wpAny _ _ _ _ _ _); k_fold))
      k_steps
      · exact INt (by assumption) (by assumption)
      · refine hraise (fun h => ?_) _ _ _ (by assumption) (by assumption) (fun p hp => (by with_reducible assumption : LedgerKept _ _) p (mem5 (by k_mem) (by k_mem) (by k_mem) (by k_mem) (by k_mem) p hp))
        have h1 := (h.2.1 r (List.mem_of_getElem? hr)).1
        have h2 := hc.length
        simp_all
      · refine iter_seqF "a" (fun i _ => ∀ j c, j < i → r[j]? = some c → ∃ k, c = .int k ∧ 0 ≤ k ∧ k < (names.length : Int)) (.inl hb) rfl (by assumption) (by assumption) (by intros; omega) ?turn2 ?done2
        case turn2 =>
          intro i2 v2 u3 h3 tk3 own3 hv2 hP2 F3 N3
          obtain ⟨c, hc3, hci⟩ := hc.get hv2
          cases c with
          | no =>
            obtain rfl : v2 = .bool false := hci
            (try dsimp only); (try ((show wpAny _ _ _ _ _ _); k_fold))
            k_steps
            · exact INt (by assumption) (by assumption)
            · refine hraise (fun h => ?_) _ _ _ (by assumption) (by assumption) (fun p hp => (by with_reducible assumption : LedgerKept _ _) p (mem5 (by k_mem) (by k_mem) (by k_mem) (by k_mem) (by k_mem) p hp))
              obtain ⟨i, hi, _⟩ := (h.2.1 r (List.mem_of_getElem? hr)).2 _ (List.mem_of_getElem? hc3)
              cases hi
          | int k =>
            obtain ⟨t3, rfl⟩ : ∃ t, v2 = .int k t := hci
            (try dsimp only); (try ((show wpAny _ _ _ _ _ _); k_fold))
            k_steps
            · refine ⟨_, _, _, rfl, by assumption, by assumption, fun y h1 h2 => by simp only [if_neg h1, if_neg h2], fun j c hj hjc => ?_⟩
              by_cases hji : j = i2
              · subst hji
                rw [hc3] at hjc
                cases hjc
                exact ⟨_, rfl, by assumption, by assumption⟩
              · exact hP2 j c (Nat.lt_of_le_of_ne (Nat.le_of_lt_succ hj) hji) hjc
            · exact INt (by assumption) (by assumption)
            · refine hraise (fun h => ?_) _ _ _ (by assumption) (by assumption) (fun p hp => (by with_reducible assumption : LedgerKept _ _) p (mem5 (by k_mem) (by k_mem) (by k_mem) (by k_mem) (by k_mem) p hp))
              obtain ⟨i, hi, _, _⟩ := (h.2.1 r (List.mem_of_getElem? hr)).2 _ (List.mem_of_getElem? hc3)
              cases hi
              simp_all
            · exact INt (by assumption) (by assumption)
            · refine hraise (fun h => ?_) _ _ _ (by assumption) (by assumption) (fun p hp => (by with_reducible assumption : LedgerKept _ _) p (mem5 (by k_mem) (by k_mem) (by k_mem) (by k_mem) (by k_mem) p hp))
              obtain ⟨i, hi, _, _⟩ := (h.2.1 r (List.mem_of_getElem? hr)).2 _ (List.mem_of_getElem? hc3)
              cases hi
              simp_all
        case done2 =>
          intro u4 h4 tk4 hP4 F4 N4
          refine wpAny_pure ?_
          (try k_unfold)
          (try dsimp only)
          refine ⟨_, _, _, rfl, F4, N4, fun y h1 h2 => by simp only [if_neg h1, if_neg h2], fun j r' hj hjr => ?_⟩
          by_cases hji : j = i
          · subst hji
            rw [hr] at hjr
            cases hjr
            refine ⟨?_, fun c hc' => ?_⟩
            · have := hc.length; simp_all
            · obtain ⟨j', hj'⟩ := List.getElem?_of_mem hc'
              exact hP4 j' c (by rw [hc.length]; exact (List.getElem?_eq_some_iff.mp hj').1) hj'
          · exact hP j r' (Nat.lt_of_le_of_ne (Nat.le_of_lt_succ hj) hji) hjr
    case done =>
      intro u4 h4 tk4 hP4 F4 N4
      (try dsimp only); (try ((show wpAny _ _ _ _ _ _); k_fold))
      k_steps
      refine iter_rangeF (n := vs.length - 1) "k" (fun i _ => ∀ k, k < i → k + 1 < rows.length → lexLt (rowInts (rows.getD k [])) (rowInts (rows.getD (k + 1) [])) = true) (by assumption) ?small ?rs rfl (by assumption) (by assumption) (by intros; omega) ?turn3 ?done3
      case small => rw [List.size_toArray]; exact small_one (by omega) (by omega) (by omega) (by omega)
      case rs => rw [List.size_toArray]; rw [rangeSize_nat]; omega
      case turn3 =>
        intro i t5 u5 h5 tk5 own5 hi hP5 F5 N5
        have hi1 : i + 1 < vs.length := Nat.add_lt_of_lt_sub hi
        have hi0 : i < vs.length := Nat.lt_of_succ_lt hi1
        obtain ⟨v0, e0⟩ : ∃ v, vs[i]? = some v := ⟨vs[i]'hi0, List.getElem?_eq_getElem hi0⟩
        obtain ⟨v1, e1⟩ : ∃ v, vs[i + 1]? = some v := ⟨vs[i + 1]'hi1, List.getElem?_eq_getElem hi1⟩
        obtain ⟨r0, g0, b0, w0, rfl, p0, c0⟩ := hrows.get e0
        obtain ⟨r1, g1, b1, w1, rfl, p1, c1⟩ := hrows.get e1
        have o0 := hP4 i r0 hi0 g0
        have o1 := hP4 (i + 1) r1 hi1 g1
        (try dsimp only); (try ((show wpAny _ _ _ _ _ _); k_fold))
        k_steps
        refine item_tupleT (l := vs) (j := i) (tupKeeps hvs F5.keep) (by omega) (by omega) (seqIdx (by omega) (by omega)) e0 ?_
        k_steps
        refine item_tupleT (l := vs) (j := i + 1) (tupKeeps hvs F5.keep) (by omega) (by omega) (seqIdx (by omega) (by omega)) e1 ?_
        k_steps
        refine tuple_lt (tupKeeps p0 F5.keep) (tupKeeps p1 F5.keep) (c0.rowInts o0) (c1.rowInts o1) (by simp [rowInts]; have q0 := o0.1; have q1 := o1.1; omega) (by rw [units_deeper, cLine_is]; dsimp only; omega) ?_
        have gd0 : rows.getD i [] = r0 := by rw [List.getD_eq_getElem?_getD, g0]; rfl
        have gd1 : rows.getD (i + 1) [] = r1 := by rw [List.getD_eq_getElem?_getD, g1]; rfl
        k_steps
        · rename_i hlt
          refine ⟨_, _, _, rfl, by assumption, by assumption, fun y h1 h2 => by simp only [if_neg h1, if_neg h2], fun k hk hkl => ?_⟩
          by_cases hki : k = i
          · subst hki
            rw [gd0, gd1]
            simpa using hlt
          · exact hP5 k (Nat.lt_of_le_of_ne (Nat.le_of_lt_succ hk) hki) hkl
        · exact INt (by assumption) (by assumption)
        · rename_i hlt _ _ _ _ _ _ _ _ _ _ _
          refine hraise (fun h => ?_) _ _ _ (by assumption) (by assumption) (fun p hp => (by with_reducible assumption : LedgerKept _ _) p (mem5 (by k_mem) (by k_mem) (by k_mem) (by k_mem) (by k_mem) p hp))
          have := h.2.2 i (by dsimp only; exact hrows.length ▸ hi1)
          dsimp only at this
          rw [gd0, gd1] at this
          simp_all
      case done3 =>
        intro u6 h6 tk6 hP6 F6 N6
        (try dsimp only); (try ((show wpAny _ _ _ _ _ _); k_fold))
        k_steps
        refine hret ⟨rfl, fun r hr => ?_, fun k hk => ?_⟩ _ _ F6.keep (fun p hp => (N6 p hp).1)
        · obtain ⟨j, hj⟩ := List.getElem?_of_mem hr
          exact hP4 j r (by rw [hrows.length]; exact (List.getElem?_eq_some_iff.mp hj).1) hj
        · have := hrows.length
          exact hP6 k (Nat.lt_sub_of_add_lt (this.symm ▸ hk)) hk
end

section
open PySem PySem.W PySem.Calls PyProof.Rows PySem.Spec
section
variable {prog : Program} {w : World} {A : Around} {E : Value → Shared → Prop} {R : Result → Shared → Prop} {s : Shared} {env : Env}

theorem lc_turn {elt target iter : Expr} {ifs : List Expr} {scope : Scope} {pos : Pos} {it acc : Value} {env : Env} (I : Nat → Shared → Prop)
    (turn : ∀ n s, I n s → wpAny (model prog w) A (pyNext it) (fun r s₁ => match r with
      | none => R (.ok .next) s₁
      | some v => wpAny (model prog w) A (letOwnedTupleGo target it v) (fun _ s₁ => wpAny (model prog w) A (assign target env v) (fun _ s₂ =>
          wpAny (model prog w) A (forIn ifs true fun c r => if r = true then do let ok ← isTrue c env (eval c env); pure (ForInStep.yield ok) else pure (ForInStep.yield r)) (fun ok s₃ =>
            if ok = true then wpAny (model prog w) A (eval elt env) (fun x s₄ =>
              wpAny (model prog w) A (call (.builtin "list.append") [acc, x]) (fun _ s₅ => ∃ m, m < n ∧ I m s₅) (notedBy (model prog w) A env fun e s' => R (.error e) s') s₄) (notedBy (model prog w) A env fun e s' => R (.error e) s') s₃
            else ∃ m, m < n ∧ I m s₃) (notedBy (model prog w) A env fun e s' => R (.error e) s') s₂) (notedBy (model prog w) A env fun e s' => R (.error e) s') s₁) (notedBy (model prog w) A env fun e s' => R (.error e) s') s₁) (notedBy (model prog w) A env fun e s' => R (.error e) s') s)
    (n : Nat) (h : I n s) :
    codeAny (model prog w) A (.compLoop (.ListComp elt [⟨target, iter, ifs, 0⟩] scope pos) 0 it acc env) R s := by
  refine codeAny_loop rfl I (fun n s hI => ?_) n h
  show wpAny _ A ((compTurn (.ListComp elt [⟨target, iter, ifs, 0⟩] scope pos) 0 it acc env).onRaise (fun x => do noteFrame x env; theTreesLotGoes x)) _ _ s
  refine wpAny_noted ?_
  rw [compTurn_list]
  refine wpAny_bind (wpAny_standAt (wpAny_bind (wpAny_mono (turn n s hI) (fun r s₁ h₁ => ?_) fun _ _ h' => h')))
  cases r with
  | none => exact wpAny_pure h₁
  | some v =>
    refine wpAny_bind (wpAny_mono h₁ (fun _ s₁ h₁ => ?_) fun _ _ h' => h')
    refine wpAny_bind (wpAny_mono h₁ (fun _ s₂ h₂ => wpAny_bind (wpAny_mono h₂ (fun ok s₃ h₃ => ?_) fun _ _ h' => h')) fun _ _ h' => h')
    cases ok with
    | false => exact wpAny_pure ⟨rfl, h₃⟩
    | true =>
      exact wpAny_bind (wpAny_bind (wpAny_mono h₃ (fun x s₄ h₄ => wpAny_bind (wpAny_mono h₄ (fun _ s₅ h₅ => wpAny_pure (wpAny_pure ⟨rfl, h₅⟩)) fun _ _ h' => h')) fun _ _ h' => h'))

/-- what a turn's draw and binding come to -/
inductive LcIt (s : Shared) (C : Addr) (wr : List Addr) (P : (Str → Option Value) → Prop) (St : Heap → Prop) : Shared → Prop
  | mk (h' : Heap) (tk : Nat) (m' : Str → Option Value) (z1 : P m') (z2 : St h') (z3 : h'.Ns C m') (z4 : ∀ b o, b ≠ C → b ∉ wr → s.heap.get? b = some o → h'.get? b = some o) : LcIt s C wr P St { s with heap := h', toks := tk }
inductive LcNext (prog : Program) (w : World) (A : Around) (target : Expr) (I : Addr) (cenv : Env) (s : Shared) (wr : List Addr) (P : (Str → Option Value) → Prop) (St : Heap → Prop) (E : Value → Shared → Prop) : Option Value → Shared → Prop
  | mk {s₁ : Shared} (v : Value) (k : wpAny (model prog w) A (letOwnedTupleGo target (.ref I) v) (fun _ s₂ => wpAny (model prog w) A (assign target cenv v) (fun _ => LcIt s cenv.locals wr P St) E s₂) E s₁) : LcNext prog w A target I cenv s wr P St E (some v) s₁
/-- where a block's turns draw from: what the map holds at turn i -/
structure LcSrc (prog : Program) (w : World) (A : Around) (target : Expr) (cenv : Env) (I : Addr) (fp wr : List Addr) (n : Nat) (P : Nat → (Str → Option Value) → Prop) (St : Nat → Heap → Prop) : Prop where
  sub : ∀ b ∈ wr, b ∈ fp
  frame : ∀ i h h', St i h → (∀ b ∈ fp, ∀ o, h.get? b = some o → h'.get? b = some o) → St i h'
  item : ∀ i (s : Shared) (m : Str → Option Value) (E : Value → Shared → Prop), i < n → St i s.heap → s.heap.Ns cenv.locals m → cenv.locals ∉ fp →
    wpAny (model prog w) A (pyNext (.ref I)) (LcNext prog w A target I cenv s wr (P i) (St (i + 1)) E) E s
  done : ∀ (s : Shared) (Q : Option Value → Shared → Prop) (E : Value → Shared → Prop), St n s.heap →
    (∀ h' tk, (∀ b o, b ∉ wr → s.heap.get? b = some o → h'.get? b = some o) → Q none { s with heap := h', toks := tk }) → wpAny (model prog w) A (pyNext (.ref I)) Q E s
  self : ∀ i (s : Shared) (Q : Value → Shared → Prop) (E : Value → Shared → Prop), St i s.heap → Q (.ref I) s → wpAny (model prog w) A (pyIter (.ref I)) Q E s

theorem LcSrc.name {x : Str} {px : Pos} {cenv : Env} {I : Addr} {fp wr : List Addr} {n : Nat} {P : Nat → Value → Prop} {St : Nat → Heap → Prop} (W : Walks prog w A I fp wr n P St)
    (hx : cenv.kindOf x = some .local) (hp : (cenv.scope.kind == .class || (cenv.scope.kind == .module && cenv.locals != cenv.globals)) = false) :
    LcSrc prog w A (.Name x px) cenv I fp wr n (fun i m => ∃ v, P i v ∧ m x = some v) St where
  sub := W.sub
  frame := W.frame
  item := fun i s m E hi st hn hC => by
    refine W.item i s _ E hi st fun v h₁ tk₁ hP st₁ k₁ => ⟨v, ?_⟩
    refine wpAny_of_eq (a := ()) rfl ?_
    have hCw : cenv.locals ∉ wr := fun h => hC (W.sub _ h)
    refine wpAny_assign_Name (wpAny_storeName_local hx (hn.at' fun o e => k₁ _ o hCw e) (fun h₂ hn₂ hs₂ => ?_) hp)
    exact ⟨h₂, _, _, ⟨v, hP, by simp⟩, W.frame _ _ _ st₁ fun b hb o e => hs₂.extBut b o (fun h => hC (h ▸ hb)) e, hn₂, fun b o hbC hbw e => hs₂.extBut b o hbC (k₁ b o hbw e)⟩
  done := W.done
  self := W.self

noncomputable abbrev lcTests (ifs : List Expr) (env : Env) : Sem Bool := forIn ifs true fun c r => if r = true then do let ok ← isTrue c env (eval c env); pure (ForInStep.yield ok) else pure (ForInStep.yield r)

inductive LcElt (g : Array GenState) (d : Drawn) (o : OsState) (h₃ : Heap) (P : Value → Heap → Prop) (y : Value) : Shared → Prop
  | mk (h₄ : Heap) (tk₄ : Nat) (k : h₃.StaysIn h₄) (p : P y h₄) : LcElt g d o h₃ P y ⟨h₄, g, d, tk₄, o⟩
inductive LcOk (prog : Program) (w : World) (A : Around) (elt : Expr) (cenv : Env) (g : Array GenState) (d : Drawn) (o : OsState) (h : Heap) (P : Value → Heap → Prop) (N : Heap → Prop) (E' : Value → Shared → Prop) : Bool → Shared → Prop
  | yes (h₃ : Heap) (tk₃ : Nat) (k : h.StaysIn h₃) (y : wpAny (model prog w) A (eval elt cenv) (LcElt g d o h₃ P) E' ⟨h₃, g, d, tk₃, o⟩) : LcOk prog w A elt cenv g d o h P N E' true ⟨h₃, g, d, tk₃, o⟩
  | no (h₃ : Heap) (tk₃ : Nat) (k : h.StaysIn h₃) (y : N h₃) : LcOk prog w A elt cenv g d o h P N E' false ⟨h₃, g, d, tk₃, o⟩
/-- one turn of a block keeps J -/
noncomputable def LcTurn (prog : Program) (w : World) (A : Around) (cenv : Env) (ifs : List Expr) (elt : Expr) (hid : List Addr) (J : Nat → List Value → Heap → Prop) (i : Nat) (ys : List Value) (s : Shared) : Prop :=
  ∀ E', wpAny (model prog w) A (lcTests ifs cenv) (LcOk prog w A elt cenv s.gens s.drawn s.os s.heap (fun y h₄ => J (i + 1) (ys ++ [y]) (hideAll h₄ hid)) (fun h₃ => J (i + 1) ys (hideAll h₃ hid)) E') E' s

theorem hideAll_up {h h' : Heap} {l : List Addr} (k : ∀ b o, b ∉ l → h.get? b = some o → h'.get? b = some o) : (hideAll h l).StaysIn (hideAll h' l) := fun b o e => by
  by_cases hb : b ∈ l
  · rw [hideAll_none _ hb] at e; cases e
  · exact hideAll_get _ (k b o hb (of_hideAll _ e)) hb

inductive LcI (s : Shared) (C D : Addr) (wr : List Addr) (n : Nat) (St : Nat → Heap → Prop) (J : Nat → List Value → Heap → Prop) : Nat → Shared → Prop
  | mk (h' : Heap) (tk : Nat) (m' : Str → Option Value) (ys : List Value) (i : Nat) (z1 : St i h') (z2 : h'.PlainList D (List.toArray ys)) (z3 : h'.Ns C m') (z4 : J i ys (hideAll h' (C :: D :: wr))) (z5 : ys.length ≤ i) (z6 : i ≤ n)
    (z7 : ∀ b o, b ≠ C → b ∉ wr → b ≠ D → s.heap.get? b = some o → h'.get? b = some o) : LcI s C D wr n St J (n + 1 - i) { s with heap := h', toks := tk }
theorem lc_loop {elt target iter : Expr} {ifs : List Expr} {scope : Scope} {pos : Pos} {I D : Addr} {fp wr : List Addr} {n : Nat} {P : Nat → (Str → Option Value) → Prop} {St : Nat → Heap → Prop}
    {cenv : Env} {m : Str → Option Value} (W : LcSrc prog w A target cenv I fp wr n P St) (J : Nat → List Value → Heap → Prop) (hJ : ∀ i ys X X', X.StaysIn X' → J i ys X → J i ys X')
    (hDC : D ≠ cenv.locals) (hDf : D ∉ fp) (hCf : cenv.locals ∉ fp)
    (hst : St 0 s.heap) (hacc : s.heap.PlainList D #[]) (hn : s.heap.Ns cenv.locals m) (hj : J 0 [] (hideAll s.heap (cenv.locals :: D :: wr)))
    (turn : ∀ i ys h tk m', i < n → ys.length ≤ i → P i m' → h.Ns cenv.locals m' → (hideAll s.heap (cenv.locals :: D :: wr)).StaysIn (hideAll h (cenv.locals :: D :: wr)) → J i ys (hideAll h (cenv.locals :: D :: wr)) →
      LcTurn prog w A cenv ifs elt (cenv.locals :: D :: wr) J i ys { s with heap := h, toks := tk })
    (hR : ∀ h' tk m' ys, h'.Ns cenv.locals m' → h'.PlainList D (List.toArray ys) → ys.length ≤ n → J n ys (hideAll h' (cenv.locals :: D :: wr)) →
      (∀ b o, b ≠ cenv.locals → b ∉ wr → b ≠ D → s.heap.get? b = some o → h'.get? b = some o) → R (.ok .next) { s with heap := h', toks := tk })
    (hsz : n ≤ sizeLine := by size_fits) :
    codeAny (model prog w) A (.compLoop (.ListComp elt [⟨target, iter, ifs, 0⟩] scope pos) 0 (.ref I) (.ref D) cenv) R s := by
  have hCw : cenv.locals ∉ wr := fun h => hCf (W.sub _ h)
  have hDw : D ∉ wr := fun h => hDf (W.sub _ h)
  refine lc_turn
    (LcI s cenv.locals D wr n St J) ?_ (n + 1)
    ⟨s.heap, s.toks, m, [], 0, hst, hacc, hn, hj, Nat.le_refl _, Nat.zero_le _, fun _ _ _ _ _ e => e⟩
  rintro k s' ⟨H, tk, m', ys, i, hst', hacc', hn', hj', hyl, hi, hk⟩
  by_cases hlt : i < n
  · refine wpAny_mono (W.item i _ m' _ hlt hst' hn' hCf) (fun r s₁ h₁ => ?_) fun _ _ e => e
    obtain ⟨v, h₁⟩ := h₁
    refine wpAny_mono h₁ (fun _ s₂ h₂ => wpAny_mono h₂ (fun _ s₃ h₃ => ?_) fun _ _ e => e) fun _ _ e => e
    obtain ⟨h₂, tk₂, m₂, hP, hst₂, hn₂, up₂⟩ := h₃
    have hj₂ : J i ys (hideAll h₂ (cenv.locals :: D :: wr)) := hJ _ _ _ _ (hideAll_up fun b o hb e => up₂ b o (fun q => hb (q ▸ .head _)) (fun q => hb (.tail _ (.tail _ q))) e) hj'
    have st₂ : (hideAll s.heap (cenv.locals :: D :: wr)).StaysIn (hideAll h₂ (cenv.locals :: D :: wr)) := hideAll_up fun b o hb e => up₂ b o (fun q => hb (q ▸ .head _)) (fun q => hb (.tail _ (.tail _ q)))
      (hk b o (fun q => hb (q ▸ .head _)) (fun q => hb (.tail _ (.tail _ q))) (fun q => hb (q ▸ .tail _ (.head _))) e)
    have hacc₂ : h₂.PlainList D (List.toArray ys) := hacc'.at fun o e => up₂ D o hDC hDw e
    refine wpAny_mono (turn i ys h₂ tk₂ m₂ hlt hyl hP hn₂ st₂ hj₂ _) (fun ok s₃ h₃ => ?_) fun _ _ e => e
    cases h₃ with
    | no h₃ tk₃ k₃ h₃' =>
      rw [if_neg Bool.false_ne_true]
      exact ⟨n + 1 - (i + 1), decN hi, h₃, tk₃, m₂, ys, i + 1, W.frame _ _ _ hst₂ fun b _ o e => k₃ b o e, hacc₂.at fun o e => k₃ _ o e, hn₂.keeps k₃, h₃', Nat.le_succ_of_le hyl, hlt,
        fun b o hbC hbw hbD e => k₃ b o (up₂ b o hbC hbw (hk b o hbC hbw hbD e))⟩
    | yes h₃ tk₃ k₃ h₃' =>
      rw [if_pos rfl]
      refine wpAny_mono h₃' (fun y s₄ h₄ => ?_) fun _ _ e => e
      obtain ⟨h₄, tk₄, k₄, hj₄⟩ := h₄
      have hys : ys.toArray.size ≤ sizeLine := by rw [List.size_toArray]; exact Nat.le_trans hyl (Nat.le_trans hi hsz)
      refine wpAny_list_append_plain (hsz := hys) (hacc₂.at fun o e => k₄ _ o (k₃ _ o e)) fun h₅ hl₅ hs₅ => ?_
      rw [List.push_toArray] at hl₅
      refine ⟨n + 1 - (i + 1), decN hi, h₅, tk₄, m₂, ys ++ [y], i + 1, ?_, hl₅, (hn₂.keeps fun b o e => k₄ b o (k₃ b o e)).sameBut hs₅ (Ne.symm hDC), ?_, by rw [List.length_append, List.length_singleton]; exact Nat.succ_le_succ hyl, hlt,
        fun b o hbC hbw hbD e => hs₅.extBut b o hbD (k₄ b o (k₃ b o (up₂ b o hbC hbw (hk b o hbC hbw hbD e))))⟩
      · exact W.frame _ _ _ hst₂ fun b hb o e => hs₅.extBut b o (fun h => hDf (h ▸ hb)) (k₄ b o (k₃ b o e))
      · exact hJ _ _ _ _ (hideAll_up fun b o hb e => hs₅.extBut b o (fun q => hb (q ▸ .tail _ (.head _))) e) hj₄
  · obtain rfl : i = n := Nat.le_antisymm hi (Nat.le_of_not_lt hlt)
    refine W.done _ _ _ hst' fun h₁ tk₁ hk₁ => ?_
    exact hR h₁ tk₁ m' ys (hn'.at' fun o e => hk₁ _ o hCw e) (hacc'.at fun o e => hk₁ _ o hDw e) hyl (hJ _ _ _ _ (hideAll_up fun b o hb e => hk₁ b o (fun q => hb (.tail _ (.tail _ q))) e) hj')
      fun b o hbC hbf hbD e => hk₁ b o hbf (hk b o hbC hbf hbD e)

theorem lc_block {elt target iter : Expr} {ifs : List Expr} {scope : Scope} {cl : List (Str × Addr)} {pos : Pos} {s₂ : Shared} {I : Addr} {fp wr : List Addr} {n : Nat} {P : Nat → (Str → Option Value) → Prop}
    {St : Nat → Heap → Prop} (W : ∀ C, LcSrc prog w A target (compEnvC scope cl C env) I fp wr n P St) (J : Nat → List Value → Heap → Prop) (hJ : ∀ i ys X X', X.StaysIn X' → J i ys X → J i ys X') {RR : Value → Addr → Result → Shared → Prop}
    (hcell : ∀ y ∈ scope.names, y.2 ≠ .cell) (hkind : scope.kind = .function) (hst : St 0 s₂.heap) (hfp : ∀ b ∈ fp, b < s₂.heap.objs.size) (hj : J 0 [] (hideAll s₂.heap wr))
    (turn : ∀ C D i ys h tk m, s₂.heap.objs.size ≤ C → s₂.heap.objs.size ≤ D → D < C → i < n → ys.length ≤ i → P i m → h.Ns C m → (hideAll s₂.heap wr).StaysIn (hideAll h (C :: D :: wr)) → J i ys (hideAll h (C :: D :: wr)) →
      LcTurn prog w A (compEnvC scope cl C env) ifs elt (C :: D :: wr) J i ys { s₂ with heap := h, toks := tk })
    (hRR : ∀ D C h' tk m' ys, s₂.heap.objs.size ≤ C → s₂.heap.objs.size ≤ D → D ≠ C → h'.Ns C m' → h'.PlainList D (List.toArray ys) → ys.length ≤ n → J n ys (hideAll h' (C :: D :: wr)) →
      (∀ b o, b ∉ wr → s₂.heap.get? b = some o → h'.get? b = some o) → RR (.ref D) C (.ok .next) { s₂ with heap := h', toks := tk })
    (hsz : n ≤ sizeLine := by size_fits) :
    wpAny (model prog w) A (newList []) (fun acc s₃ => wpAny (model prog w) A (newFunctionEnv scope env.globals cl [] env.qual none .none (some env)) (fun cenv s₄ =>
      codeAny (model prog w) A (.compStart (.ListComp elt [⟨target, iter, ifs, 0⟩] scope pos) 0 (.ref I) acc { cenv with scope := relabel scope env }) (RR acc cenv.locals) s₄) E s₃) E s₂ := by
  refine wpAny_newObj_type (wpAny_newFunctionEnv hcell (by intro y hy; simp at hy) (fun h₁ hns₁ hsb₁ => ?_) hkind)
  dsimp only at hns₁ hsb₁ ⊢
  generalize hH2 : s₂.heap.push { cls := .type "list", dict := none, data := .seq ([] : List Value).toArray } = H2 at hns₁ hsb₁ ⊢
  have hC : H2.objs.size = s₂.heap.objs.size + 1 := by rw [← hH2, Heap.size_push]
  have hDC : s₂.heap.objs.size ≠ H2.objs.size := by rw [hC]; exact Nat.ne_of_lt (Nat.lt_succ_self _)
  have hCle : s₂.heap.objs.size ≤ H2.objs.size := by rw [hC]; exact Nat.le_succ _
  have below : ∀ b, b < s₂.heap.objs.size → b ≠ H2.objs.size ∧ b ≠ s₂.heap.objs.size := fun b hb => ⟨by rw [hC]; exact Nat.ne_of_lt (Nat.lt_succ_of_lt hb), Nat.ne_of_lt hb⟩
  have hDf : s₂.heap.objs.size ∉ fp := fun hm => Nat.lt_irrefl _ (hfp _ hm)
  have hCf : H2.objs.size ∉ fp := fun hm => by have := hfp _ hm; rw [hC] at this; exact Nat.lt_irrefl _ (Nat.lt_of_succ_lt this)
  have old : ∀ b o, s₂.heap.get? b = some o → h₁.get? b = some o := fun b o e => hsb₁.extBut b o (below b (Heap.lt_size e)).1 (Heap.get?_push_of_some _ (hH2 ▸ Heap.get?_push_of_some _ e))
  have hacc : h₁.PlainList s₂.heap.objs.size #[] := ⟨_, hsb₁.extBut _ _ hDC (Heap.get?_push_of_some _ (hH2 ▸ Heap.get?_push_size _ rfl))⟩
  have st1 : (hideAll s₂.heap wr).StaysIn (hideAll h₁ (H2.objs.size :: s₂.heap.objs.size :: wr)) := fun b o e => by
    have e' := of_hideAll _ e
    refine hideAll_get _ (old b o e') fun q => ?_
    rcases List.mem_cons.mp q with q | q
    · exact (below b (Heap.lt_size e')).1 q
    · rcases List.mem_cons.mp q with q | q
      · exact (below b (Heap.lt_size e')).2 q
      · rw [hideAll_none _ q] at e; cases e
  have hst₁ : St 0 h₁ := (W H2.objs.size).frame _ _ _ hst fun b _ o e => old b o e
  have loop : ∀ s₃ : Shared, s₃ = { s₂ with heap := h₁, toks := s₂.toks + ([] : List (Str × Value)).length } →
      codeAny (model prog w) A (.compLoop (.ListComp elt [⟨target, iter, ifs, 0⟩] scope pos) 0 (.ref I) (.ref s₂.heap.objs.size) (compEnvC scope cl H2.objs.size env))
        (RR (.ref s₂.heap.objs.size) H2.objs.size) s₃ := by
    rintro s₃ rfl
    refine lc_loop (hsz := hsz) (cenv := compEnvC scope cl H2.objs.size env) (W H2.objs.size) J hJ hDC hDf hCf hst₁ hacc hns₁ (hJ _ _ _ _ st1 hj)
      (fun i ys h tk m' hi hy hP hn st hj' => turn _ _ i ys h tk m' hCle (Nat.le_refl _) (by rw [hC]; exact Nat.lt_succ_self _) hi hy hP hn (fun b o e => st b o (st1 b o e)) hj') fun h' tk m' ys hn hl hy hj' hk => ?_
    exact hRR _ _ h' tk m' ys hCle (Nat.le_refl _) hDC hn hl hy hj' fun b o hbf e => hk b o (below b (Heap.lt_size e)).1 hbf (below b (Heap.lt_size e)).2 (old b o e)
  exact codeAny_compStart_list (loop _ rfl) ((W H2.objs.size).self 0 _ _ _ hst₁ (loop _ rfl))

/-- what the source of a comprehension comes to, and its turns -/
inductive LcGoI (prog : Program) (w : World) (A : Around) (target : Expr) (scope : Scope) (cl : List (Str × Addr)) (env : Env) (ifs : List Expr) (elt : Expr) (J : Nat → List Value → Heap → Prop) (Q : Value → Shared → Prop) : Value → Shared → Prop
  | mk {s₂ : Shared} (I : Addr) (fp wr : List Addr) (n : Nat) (P : Nat → (Str → Option Value) → Prop) (St : Nat → Heap → Prop) (z1 : (∀ C, LcSrc prog w A target (compEnvC scope cl C env) I fp wr n P St)) (z2 : n ≤ sizeLine) (z3 : St 0 s₂.heap) (z4 : (∀ b ∈ fp, b < s₂.heap.objs.size)) (z5 : J 0 [] (hideAll s₂.heap wr)) (z6 : (∀ C D i ys h tk m, s₂.heap.objs.size ≤ C → s₂.heap.objs.size ≤ D → D < C → i < n → ys.length ≤ i → P i m → h.Ns C m → (hideAll s₂.heap wr).StaysIn (hideAll h (C :: D :: wr)) → J i ys (hideAll h (C :: D :: wr)) → LcTurn prog w A (compEnvC scope cl C env) ifs elt (C :: D :: wr) J i ys { s₂ with heap := h, toks := tk })) (z7 : (∀ D C h' tk ys, s₂.heap.objs.size ≤ C → s₂.heap.objs.size ≤ D → D ≠ C → h'.PlainList D (List.toArray ys) → ys.length ≤ n → J n ys (hideAll h' (C :: D :: wr)) → (∀ b o, b ∉ wr → s₂.heap.get? b = some o → h'.get? b = some o) → Q (.ref D) { s₂ with heap := h', toks := tk })) : LcGoI prog w A target scope cl env ifs elt J Q (.ref I) s₂
/-- a list comprehension by what holds of the list made so far -/
theorem lc_inv {elt target iter : Expr} {ifs : List Expr} {scope : Scope} {cl : List (Str × Addr)} {pos : Pos} {Q : Value → Shared → Prop} (J : Nat → List Value → Heap → Prop) (hJ : ∀ i ys X X', X.StaysIn X' → J i ys X → J i ys X')
    (hclos : closureFor scope env = pure cl) (hcell : ∀ y ∈ scope.names, y.2 ≠ .cell) (hkind : scope.kind = .function)
    (hnames : ∀ y ∈ scope.names, y.2 = .local → scope.names.lookup y.1 = some .local)
    (h : wpAny (model prog w) A (eval iter env) (fun xv s₁ => wpAny (model prog w) A (pyIter xv) (LcGoI prog w A target scope cl env ifs elt J Q) E s₁) E s)
    (hs : ∀ x, foldedSetIterable iter env x = pure x := by intro _; rfl) :
    wpAny (model prog w) A (eval (.ListComp elt [⟨target, iter, ifs, 0⟩] scope pos) env) Q E s := by
  rw [eval_ListComp]
  refine wpAny_comprehension_free (use := none) rfl hs hclos hkind hnames (wpAny_mono h (fun xv s₁ h₁ => wpAny_mono h₁ (fun it s₂ h₂ => ?_) fun _ _ e => e) fun _ _ e => e)
  obtain ⟨I, fp, wr, n, P, St, W, hsz, hst, hfp, hj, turn, hQ⟩ := h₂
  refine lc_block (RR := fun acc C => compPost (model prog w) A E none Q acc C) (hsz := hsz) W J hJ hcell hkind hst hfp hj turn ?_
  intro D C h' tk m' ys hC hD hDC hn hpl hy hj' hk
  refine ⟨m', hn, fun h'' hs'' => hQ D C h'' tk ys hC hD hDC (hpl.extBut hs''.extBut hDC) hy (hJ _ _ _ _ (hideAll_up fun b o hb e => hs''.extBut b o (fun q => hb (q ▸ .head _)) e) hj') fun b o hbf e => hs''.extBut b o (fun q => ?_) (hk b o hbf e)⟩
  have := Heap.lt_size e
  exact absurd (q ▸ this) (Nat.not_lt.mpr hC)

/-- the same, where it is stored in a local -/
inductive LcGoA (prog : Program) (w : World) (A : Around) (target : Expr) (scope : Scope) (cl : List (Str × Addr)) (env : Env) (y : Str) (ifs : List Expr) (elt : Expr) (J : Nat → List Value → Heap → Prop) (Q : Flow → Shared → Prop) : Value → Shared → Prop
  | mk {s₂ : Shared} (I : Addr) (fp wr : List Addr) (n : Nat) (P : Nat → (Str → Option Value) → Prop) (St : Nat → Heap → Prop) (m₀ : Str → Option Value) (z1 : (∀ C, LcSrc prog w A target (compEnvC scope cl C env) I fp wr n P St)) (z2 : n ≤ sizeLine) (z3 : St 0 s₂.heap) (z4 : (∀ b ∈ fp, b < s₂.heap.objs.size)) (z5 : env.locals ∉ wr) (z6 : s₂.heap.Ns env.locals m₀) (z7 : J 0 [] (hideAll s₂.heap wr)) (z8 : (∀ C D i ys h tk m, s₂.heap.objs.size ≤ C → s₂.heap.objs.size ≤ D → D < C → i < n → ys.length ≤ i → P i m → h.Ns C m → (hideAll s₂.heap wr).StaysIn (hideAll h (C :: D :: wr)) → J i ys (hideAll h (C :: D :: wr)) → LcTurn prog w A (compEnvC scope cl C env) ifs elt (C :: D :: wr) J i ys { s₂ with heap := h, toks := tk })) (z9 : (∀ D C h' tk ys, s₂.heap.objs.size ≤ C → s₂.heap.objs.size ≤ D → D ≠ C → h'.PlainList D (List.toArray ys) → ys.length ≤ n → J n ys (hideAll h' (env.locals :: C :: D :: wr)) → h'.Ns env.locals (fun z => if z = y then some (.ref D) else m₀ z) → (∀ b o, b ≠ env.locals → b ∉ wr → s₂.heap.get? b = some o → h'.get? b = some o) → Q .next { s₂ with heap := h', toks := tk })) : LcGoA prog w A target scope cl env y ifs elt J Q (.ref I) s₂
/-- such a comprehension at once stored in a local -/
theorem lc_assign {elt target iter : Expr} {ifs : List Expr} {y : Str} {py : Pos} {scope : Scope} {cl : List (Str × Addr)} {pos spos : Pos} {Q : Flow → Shared → Prop} (J : Nat → List Value → Heap → Prop) (hJ : ∀ i ys X X', X.StaysIn X' → J i ys X → J i ys X')
    (hsw : swapsWith (.ListComp elt [⟨target, iter, ifs, 0⟩] scope pos) (some (.Name y py)) spos.line env = pure true)
    (hclos : closureFor scope env = pure cl) (hcell : ∀ y ∈ scope.names, y.2 ≠ .cell) (hkind : scope.kind = .function)
    (hnames : ∀ y ∈ scope.names, y.2 = .local → scope.names.lookup y.1 = some .local)
    (hy : env.kindOf y = some .local) (hp : (env.scope.kind == .class || (env.scope.kind == .module && env.locals != env.globals)) = false)
    (h : wpAny (model prog w) A (eval iter env) (fun xv s₁ => wpAny (model prog w) A (pyIter xv) (LcGoA prog w A target scope cl env y ifs elt J Q) E s₁) E s)
    (hJL : ∀ i ys X L, J i ys X → X.get? L ≠ none → L = env.locals → J i ys (hideAll X [L]))
    (hs : ∀ x, foldedSetIterable iter env x = pure x := by intro _; rfl) :
    wpAny (model prog w) A (exec (.Assign [.Name y py] (.ListComp elt [⟨target, iter, ifs, 0⟩] scope pos) spos) env) Q E s := by
  rw [exec_Assign_Name_used _ _ _ _ hsw]
  refine wpAny_bind (wpAny_standAt (wpAny_bind ?_))
  show wpAny _ A (do let _ ← comprehension (.ListComp elt [⟨target, iter, ifs, 0⟩] scope pos) scope env _ (newList []) false (eval iter env) (some (assign (.Name y py) env))) _ _ s
  refine wpAny_bind (wpAny_mono (wpAny_comprehension_free (use := some (assign (.Name y py) env)) (Q := fun _ s' => Q .next s') rfl hs hclos hkind hnames
    (wpAny_mono h (fun xv s₁ h₁ => wpAny_mono h₁ (fun it s₂ h₂ => ?_) fun _ _ e => e) fun _ _ e => e)) (fun _ s' hq => wpAny_pure (wpAny_pure hq)) fun _ _ e => e)
  obtain ⟨I, fp, wr, n, P, St, m, W, hsz, hst, hfp, hLf, hn, hj, turn, hQ⟩ := h₂
  refine lc_block (RR := fun acc C => compPost (model prog w) A E (some (assign (.Name y py) env)) (fun _ s' => Q .next s') acc C) (hsz := hsz) W J hJ hcell hkind hst hfp hj turn ?_
  intro D C h' tk m' ys hC hD hDC hnC hplD hyl hj' hk
  have hLlt : env.locals < s₂.heap.objs.size := by obtain ⟨o, _, _, ho, _⟩ := hn; exact Heap.lt_size ho
  have hLC : env.locals ≠ C := Nat.ne_of_lt (Nat.lt_of_lt_of_le hLlt hC)
  have hLD : env.locals ≠ D := Nat.ne_of_lt (Nat.lt_of_lt_of_le hLlt hD)
  show wpAny _ A (assign (.Name y py) env (.ref D)) _ _ _
  refine wpAny_assign_Name (wpAny_storeName_local hy (hn.at' fun o e => hk _ o hLf e) (fun h₂ hn₂ hs₂ => ?_) hp)
  refine ⟨m', hnC.sameBut hs₂ (Ne.symm hLC), fun h₃ hs₃ => ?_⟩
  refine hQ D C h₃ _ ys hC hD hDC ((hplD.extBut hs₂.extBut (Ne.symm hLD)).extBut hs₃.extBut hDC) hyl ?_ (hn₂.sameBut hs₃ hLC) fun b o hbL hbf e =>
    hs₃.extBut b o (fun q => absurd (q ▸ Heap.lt_size e) (Nat.not_lt.mpr hC)) (hs₂.extBut b o hbL (hk b o hbf e))
  have hX : J n ys (hideAll (hideAll h' (C :: D :: wr)) [env.locals]) := by
    refine hJL _ _ _ _ hj' ?_ rfl
    obtain ⟨o, _, _, ho, _⟩ := hn
    rw [hideAll_get _ (hk _ o hLf ho) (fun q => by
      rcases List.mem_cons.mp q with q | q
      · exact hLC q
      · rcases List.mem_cons.mp q with q | q
        · exact hLD q
        · exact hLf q)]
    exact Option.some_ne_none _
  refine hJ _ _ _ _ (fun b o e => ?_) hX
  have e1 := of_hideAll _ e
  have nL : b ≠ env.locals := fun q => by rw [q, hideAll_none _ (List.mem_singleton.mpr rfl)] at e; cases e
  have nI : b ∉ C :: D :: wr := fun q => by rw [hideAll_none _ q] at e1; cases e1
  refine hideAll_get _ (hs₃.extBut b o (fun q => nI (q ▸ .head _)) (hs₂.extBut b o nL (of_hideAll _ e1))) fun q => ?_
  rcases List.mem_cons.mp q with q | q
  · exact nL q
  · exact nI q
end
end

section
open PySem PySem.W PySem.Calls PyProof.Rows PySem.Spec
/-! data -/
noncomputable def celD : Cel → PyData
  | .int i => .int i
  | .no => .bool false
noncomputable def rowD (r : List Cel) : PyData := .tuple (r.map celD)
noncomputable def relD (R : Rel) : PyData := if R.tup = true then .tuple (R.rows.map rowD) else .list (R.rows.map rowD)
theorem reads_cels {h : Heap} {vs : List Value} {r : List Cel} (x : CelsAre vs r) : ReadsAll h vs (r.map celD) [] := by
  induction x with
  | nil => exact .nil
  | @cons v _ c _ x _ ih =>
    cases c with
    | int i =>
      obtain ⟨t, rfl⟩ : ∃ t, v = .int i t := x
      exact .cons (as := []) (.int i t) ih
    | no =>
      obtain rfl : v = .bool false := x
      exact .cons (as := []) (.bool false) ih
theorem reads_row {h : Heap} {v : Value} {r : List Cel} (x : RowAt h r v) : Reads h v (rowD r) [] := by
  obtain ⟨a, vs, rfl, ⟨o, ho, hc, n, hd⟩, hcs⟩ := x
  exact .tuple ho hc hd (reads_cels hcs)
theorem reads_rows {h : Heap} {vs : List Value} {rs : List (List Cel)} (x : RowsAre h vs rs) : ReadsAll h vs (rs.map rowD) [] := by
  induction x with
  | nil => exact .nil
  | cons x _ ih => exact .cons (as := []) (reads_row x) ih
theorem reads_rel {h : Heap} {a : Addr} {R : Rel} (x : RelAt h a R) : ∃ as, Reads h (.ref a) (relD R) as := by
  obtain ⟨vs, s, r⟩ := x
  unfold relD
  split at s
  · rename_i ht
    obtain ⟨o, ho, hc, n, hd⟩ := s
    rw [if_pos ht]; exact ⟨_, .tuple ho hc hd (reads_rows r)⟩
  · rename_i ht
    obtain ⟨o, ho, hc, n, hd⟩ := s
    rw [if_neg ht]; exact ⟨_, .list ho hc hd (reads_rows r)⟩
theorem canLay_cels : ∀ r : List Cel, PyData.canLayAll0 (r.map celD) = true
  | [] => by simp [PyData.canLayAll0]
  | .int i :: r => by simp [PyData.canLayAll0, PyData.canLay0, celD, canLay_cels r]
  | .no :: r => by simp [PyData.canLayAll0, PyData.canLay0, celD, canLay_cels r]
theorem canLay_rows : ∀ rs : List (List Cel), PyData.canLayAll0 (rs.map rowD) = true
  | [] => by simp [PyData.canLayAll0]
  | r :: rs => by simp [PyData.canLayAll0, PyData.canLay0, rowD, canLay_cels r, canLay_rows rs]
theorem canLay_rel (R : Rel) : (relD R).canLay0 = true := by
  unfold relD; split <;> simp [PyData.canLay0, canLay_rows]
theorem depth_cels : ∀ r : List Cel, PyData.depthAll (r.map celD) = 0
  | [] => by simp [PyData.depthAll]
  | .int i :: r => by simp [PyData.depthAll, PyData.depth, celD, depth_cels r]
  | .no :: r => by simp [PyData.depthAll, PyData.depth, celD, depth_cels r]
theorem depth_rows : ∀ rs : List (List Cel), PyData.depthAll (rs.map rowD) ≤ 1
  | [] => by simp [PyData.depthAll]
  | r :: rs => by simp [PyData.depthAll, PyData.depth, rowD, depth_cels r]; have := depth_rows rs; omega
theorem depth_rel (R : Rel) : (relD R).depth ≤ 2 := by
  unfold relD; have := depth_rows R.rows; split <;> simp [PyData.depth] <;> omega
theorem shaped_of {d : PyData} (h : d.canLay0 = true) (h2 : d.depth ≤ 64) : PySem.SeqAt.shaped d = true := by unfold PySem.SeqAt.shaped; rw [h, decide_eq_true h2]; rfl
theorem shaped_rel (R : Rel) : PySem.SeqAt.shaped (relD R) = true := shaped_of (canLay_rel R) (Nat.le_trans (depth_rel R) (by decide))
theorem shaped_row (r : List Cel) : PySem.SeqAt.shaped (rowD r) = true := shaped_of (by simp [rowD, PyData.canLay0, canLay_cels]) (by simp [rowD, PyData.depth, depth_cels])
/-- rows of ints alone -/
noncomputable def intRow (r : List Cel) : Prop := ∀ c ∈ r, ∃ i, c = .int i
theorem eqv_cels : ∀ {r q : List Cel}, intRow r → intRow q → PyData.eqvAll (r.map celD) (q.map celD) = decide (r = q)
  | [], [], _, _ => by simp [PyData.eqvAll]
  | [], _ :: _, _, _ => by simp [PyData.eqvAll]
  | _ :: _, [], _, _ => by simp [PyData.eqvAll]
  | c :: r, d :: q, h, h' => by
    obtain ⟨i, rfl⟩ := h c (.head _)
    obtain ⟨j, rfl⟩ := h' d (.head _)
    have ih := eqv_cels (fun c hc => h c (.tail _ hc)) (fun c hc => h' c (.tail _ hc))
    simp only [List.map_cons, PyData.eqvAll, celD, PyData.eqv, ih]
    by_cases e : i = j <;> by_cases e2 : r = q <;> simp [e, e2]
theorem eqv_row {r q : List Cel} (h : intRow r) (h' : intRow q) : PyData.eqv (rowD r) (rowD q) = decide (r = q) := by
  unfold rowD; rw [PyData.eqv, eqv_cels h h']
theorem eqv_rows : ∀ {rs qs : List (List Cel)}, (∀ r ∈ rs, intRow r) → (∀ q ∈ qs, intRow q) → PyData.eqvAll (rs.map rowD) (qs.map rowD) = decide (rs = qs)
  | [], [], _, _ => by simp [PyData.eqvAll]
  | [], _ :: _, _, _ => by simp [PyData.eqvAll]
  | _ :: _, [], _, _ => by simp [PyData.eqvAll]
  | r :: rs, q :: qs, h, h' => by
    simp only [List.map_cons, PyData.eqvAll, eqv_row (h r (.head _)) (h' q (.head _)), eqv_rows (fun r hr => h r (.tail _ hr)) (fun q hq => h' q (.tail _ hq))]
    by_cases e : r = q <;> by_cases e2 : rs = qs <;> simp [e, e2]
theorem okRow.int {n ar : Int} {r : List Cel} (h : okRow n ar r) : intRow r := fun c hc => let ⟨i, e, _⟩ := h.2 c hc; ⟨i, e⟩

/-! entering a def whose names are captured -/
theorem enterC {w : World} {A : Around} {base G : Heap} {envs : List Env} {mean : ExcName → Option Value} {mg mb : Str → Option Value} {s : Shared} {news : List (Addr × Obj)}
    {R : Result → Shared → Prop} {name qual : Str} {params : Arguments} {body : List Stmt} {scope : Scope} {dV kV doc pm cdv ct oc : Value} {an od : Option Addr} {osl : Array (Option Value)} {f : Addr} {args : Args} {binds : List (Str × Value)}
    (H : At w A base envs mean mg mb G s) (hN : ∀ p ∈ news, s.heap.get? p.1 = some p.2 ∧ G.get? p.1 = none)
    (ho : (Mine.hd.heap_39 w.params).lookup f = some ⟨oc, od, .func (fnOf name qual params body scope dV kV doc pm an cdv ct), osl⟩) (hcd : codeIn (Mine.hd.heap_39 w.params) cdv qual = true) (hroom : A.depth < recursionLimit)
    (hbind : BindsTo s (fnOf name qual params body scope dV kV doc pm an cdv ct) args binds)
    (hkind : (binds.all fun y => scope.names.lookup y.1 == some .local || scope.names.lookup y.1 == some .cell) = true) (hnd : ((cellsFrom 0 scope.names []).map (·.1)).Nodup)
    (h : ∀ L' h₁ tk cells, let env0 := envOfC qual scope L' f cdv; let M0 := bindL env0.kindOf binds fun _ => none; Fr G L' h₁ M0 → News G L' h₁ (cells ++ news) →
      CellsAre (bindC (envOfC qual scope L' f cdv).kindOf binds fun _ => none) (cellsFrom (L' + 1) scope.names []) cells → Below A base envs G → (Mine.hd.heap_39 w.params).In G → Top Mine.hd.view_39 (looseW Mine.hd.view_39 []) mean mg mb G →
      s.heap.StaysIn h₁ → L' = s.heap.objs.size → (∀ p ∈ news, p.1 < L') →
      wpAny (model Challenge.pw_nu0267_01 w) (A.deeper env0) (execs body env0)
        (fun fl s' => R (.ok (.ret (match fl with | .ret v => v | _ => .none))) s')
        (fun e s' => wpAny (model Challenge.pw_nu0267_01 w) (A.deeper env0) (leaving env0 e) (fun _ s'' => R (.error e) s'') (fun e' s'' => R (.error e') s'') s')
        { s with heap := h₁, toks := tk })
    (hco : scope.isCoroutine = false) (hgen : scope.isGenerator = false) (hk : scope.kind = .function) :
    codeAny (model Challenge.pw_nu0267_01 w) A (.call (.ref f) args) R s := by
  have X : (Mine.hd.heap_39 w.params).In s.heap := H.kin.keeps H.stays
  refine codeAny_call_function hroom (X _ _ ho) rfl hco hgen rfl (codeRec_of X hcd) (hbind _ _ _ _ ?_)
  refine wpAny_newFunctionEnv_cells hk (kindsX hkind _) fun env' he s' x => ?_
  subst he
  refine ⟨(H.top.nolimit.keeps H.stays).keeps x.toInCall.keep, codeAny_func ?_⟩
  obtain ⟨h₁, tk, rfl, _⟩ := x.done
  have hk₁ := x.toInCall.keep
  obtain ⟨cells, NC, Y⟩ := Cl.news (h₀ := s.heap) (Nat.le_refl _) fun n c hm => ⟨x.cell n c (lookup_of_mem_nodup (cellsFrom_names scope.names 0 (s.heap.objs.size + 1) [] [] rfl ▸ hnd) hm), x.above n c hm⟩
  refine h _ h₁ tk cells ⟨x.toInCall.ns, fun b o e => hk₁ b o (H.stays b o e), H.size⟩ (fun p hp => ?_) Y H.below H.kin H.top hk₁ rfl (fun p hp => Heap.lt_size (hN p hp).1)
  rcases List.mem_append.mp hp with hp | hp
  · refine ⟨(NC p hp).1, (NC p hp).2.1, ?_⟩
    cases q : G.get? p.1 with
    | none => rfl
    | some o => have := H.stays _ _ q; rw [(NC p hp).2.2] at this; cases this
  · exact ⟨hk₁ _ _ (hN p hp).1, Nat.ne_of_lt (Heap.lt_size (hN p hp).1), (hN p hp).2⟩

theorem after_call {G h h' : Heap} {L : Addr} {m : Str → Option Value} {news : List (Addr × Obj)} (F : Fr G L h m) (N : News G L h news) (k : h.StaysIn h') : Fr G L h' m ∧ News G L h' news := ⟨F.keeps k, N.grown k⟩
theorem pureAt {w : World} {A : Around} {base G : Heap} {envs : List Env} {mean : ExcName → Option Value} {mg mb : Str → Option Value} {s : Shared} {env : Env} {L : Addr} {m : Str → Option Value}
    (B : Below A base envs G) (X : (Mine.hd.heap_39 w.params).In G) (T : Top Mine.hd.view_39 (looseW Mine.hd.view_39 []) mean mg mb G) (hh : A.handled = none) (F : Fr G L s.heap m) (hf : env.frame = some L) (hk : env.scope.kind = .function) :
    At w (A.deeper env) base (env :: envs) mean mg mb s.heap s := callee_at [] B X T hh F hf hk fun _ h => nomatch h
end

section
open PySem PySem.W PySem.Calls PyProof.Rows PySem.Spec
section
variable {prog : Program} {w : World} {A : Around} {E : Value → Shared → Prop} {s : Shared} {env : Env} {G : Heap}
theorem staysPush {h : Heap} (o : Obj) : h.StaysIn (h.push o) := fun _ _ e => Heap.get?_push_of_some _ e
theorem stays_wr {h h' : Heap} {C D I : Addr} {o : Obj} (hI : I = h.objs.size) (hk : (hideAll (h.push o) [I]).StaysIn (hideAll h' (C :: D :: [I]))) : h.StaysIn h' := fun b ob e =>
  of_hideAll _ (hk b ob (hideAll_get _ (Heap.get?_push_of_some _ e) fun q => by
    have := Heap.lt_size e
    rw [List.mem_singleton.mp q, hI] at this
    exact Nat.lt_irrefl _ this))

theorem lcElt {g : Array GenState} {d : Drawn} {o : OsState} {h₃ h₄ : Heap} {tk₄ : Nat} {P : Value → Heap → Prop} {y : Value} (k : h₃.StaysIn h₄) (h : P y h₄) : LcElt g d o h₃ P y ⟨h₄, g, d, tk₄, o⟩ := ⟨h₄, tk₄, k, h⟩
theorem lcYes {g : Array GenState} {d : Drawn} {o : OsState} {elt : Expr} {cenv : Env} {h h₃ : Heap} {tk₃ : Nat} {P : Value → Heap → Prop} {no : Heap → Prop} {E' : Value → Shared → Prop} (k : h.StaysIn h₃) (y : wpAny (model prog w) A (eval elt cenv) (LcElt g d o h₃ P) E' ⟨h₃, g, d, tk₃, o⟩) :
    LcOk prog w A elt cenv g d o h P no E' true ⟨h₃, g, d, tk₃, o⟩ := .yes h₃ tk₃ k y
theorem lcNo {g : Array GenState} {d : Drawn} {o : OsState} {elt : Expr} {cenv : Env} {h h₃ : Heap} {tk₃ : Nat} {P : Value → Heap → Prop} {no : Heap → Prop} {E' : Value → Shared → Prop} (k : h.StaysIn h₃) (y : no h₃) : LcOk prog w A elt cenv g d o h P no E' false ⟨h₃, g, d, tk₃, o⟩ := .no h₃ tk₃ k y
theorem lcIf {g : Array GenState} {d : Drawn} {o : OsState} {elt : Expr} {cenv : Env} {h h₃ : Heap} {tk₃ : Nat} {P : Value → Heap → Prop} {no : Heap → Prop} {E' : Value → Shared → Prop} {ok : Bool} (k : h.StaysIn h₃) (y : ok = true → wpAny (model prog w) A (eval elt cenv) (LcElt g d o h₃ P) E' ⟨h₃, g, d, tk₃, o⟩) (n : ok = false → no h₃) :
    LcOk prog w A elt cenv g d o h P no E' ok ⟨h₃, g, d, tk₃, o⟩ := by
  cases ok with
  | true => exact lcYes k (y rfl)
  | false => exact lcNo k (n rfl)
theorem lcTests_nil {g : Array GenState} {d : Drawn} {o : OsState} {elt : Expr} {cenv : Env} {h : Heap} {tk : Nat} {P : Value → Heap → Prop} {no : Heap → Prop} {E' : Value → Shared → Prop} (y : wpAny (model prog w) A (eval elt cenv) (LcElt g d o h P) E' ⟨h, g, d, tk, o⟩) :
    wpAny (model prog w) A (lcTests [] cenv) (LcOk prog w A elt cenv g d o h P no E') E' ⟨h, g, d, tk, o⟩ := wpAny_tests_nil (lcYes (fun _ _ e => e) y)
theorem lcTests_one {cenv : Env} {c : Expr} {Q : Bool → Shared → Prop} (h : wpAny (model prog w) A (isTrue c cenv (eval c cenv)) Q E s) : wpAny (model prog w) A (lcTests [c] cenv) Q E s := wpAny_tests_one h

/-- what a comprehension over a tuple or a list comes to, where what it makes says nothing of the heap -/
theorem lc_seq {x : Str} {px : Pos} {elt : Expr} {ifs : List Expr} {scope : Scope} {cl : List (Str × Addr)} {l : Addr} {vs : List Value} {m : Str → Option Value} {news : List (Addr × Obj)} {Q : Value → Shared → Prop} (J : Nat → List Value → Prop)
    (hh : A.handled = none) (hl : s.heap.IsTuple l vs.toArray ∨ s.heap.IsList l vs.toArray) (F : Fr G env.locals s.heap m) (N : News G env.locals s.heap news)
    (hkind : scope.kind = .function) (hx : scope.names.lookup x = some .local) (hsz : vs.length ≤ sizeLine) (hj : J 0 [])
    (turn : ∀ C i v ys h tk m₂ E', vs[i]? = some v → ys.length ≤ i → J i ys → s.heap.StaysIn h → h.Ns C m₂ → m₂ x = some v →
      wpAny (model prog w) A (lcTests ifs (compEnvC scope cl C env)) (LcOk prog w A elt (compEnvC scope cl C env) s.gens s.drawn s.os h (fun y _ => J (i + 1) (ys ++ [y])) (fun _ => J (i + 1) ys) E') E' { s with heap := h, toks := tk })
    (done : ∀ D h' tk ys k, Fr G env.locals h' m → News G env.locals h' ((D, listOf ys.toArray k) :: news) → (∀ p ∈ news, p.1 < D) → ys.length ≤ vs.length → J vs.length ys → s.heap.StaysIn h' → s.heap.objs.size ≤ D → Q (.ref D) { s with heap := h', toks := tk }) :
    wpAny (model prog w) A (pyIter (.ref l)) (LcGoI prog w A (.Name x px) scope cl env ifs elt (fun i ys _ => J i ys) Q) E s := by
  have hlt : l < s.heap.objs.size := by rcases hl with ⟨o, ho, _⟩ | ⟨o, ho, _⟩ <;> exact Heap.lt_size ho
  have hne : l ≠ s.heap.objs.size := Nat.ne_of_lt hlt
  have hlen : vs.toArray.size = vs.length := by simp
  have hsz' : vs.toArray.size ≤ sizeLine := by rw [hlen]; exact hsz
  have key : ∀ (cls : String) (o : Obj) (fp : List Addr) (P : Nat → Value → Prop) (St : Nat → Heap → Prop), (∀ b ∈ fp, b = s.heap.objs.size ∨ b = l) → (∀ i v, P i v → vs[i]? = some v) → Walks prog w A s.heap.objs.size fp [s.heap.objs.size] vs.length P St → St 0 (s.heap.push o) →
      LcGoI prog w A (.Name x px) scope cl env ifs elt (fun i ys _ => J i ys) Q (.ref s.heap.objs.size) { s with heap := s.heap.push o } := by
    intro cls o fp P St hfp hP W hst
    refine ⟨s.heap.objs.size, fp, [s.heap.objs.size], vs.length, _, St, fun C => LcSrc.name W (lookup_relabel_local hx) (by simp [compEnvC, relabel, hkind]), hsz, hst, fun b hb => ?_, hj, ?_, ?_⟩
    · rw [Heap.size_push]; rcases hfp b hb with rfl | rfl
      · exact Nat.lt_succ_self _
      · exact Nat.lt_succ_of_lt hlt
    · rintro C D i ys h tk m' hC hD _ hi hy ⟨v, hv, hm⟩ hn st hJ E'
      have st' : s.heap.StaysIn h := stays_wr rfl st
      exact turn C i v ys h tk m' E' (hP i v hv) hy hJ st' hn hm
    · intro D C h' tk ys hC hD hDC hpl hy hJ hk
      have st' : s.heap.StaysIn h' := fun b ob e => hk b ob (fun q => by have := Heap.lt_size e; rw [List.mem_singleton.mp q] at this; exact Nat.lt_irrefl _ this) (Heap.get?_push_of_some _ e)
      obtain ⟨k, hk'⟩ := hpl
      have hDs : s.heap.objs.size ≤ D := by rw [Heap.size_push] at hD; exact Nat.le_of_succ_le hD
      have F' := frStays F st'
      have N' := newsStays N st'
      refine done D h' tk ys k F' ?_ (fun p hp => Nat.lt_of_lt_of_le (Heap.lt_size (N p hp).1) hDs) hy hJ st' hDs
      intro p hp
      rcases List.mem_cons.mp hp with rfl | hp
      · refine ⟨hk', fun q => ?_, ?_⟩
        · have := F.ns.lt
          have hq : D = env.locals := q
          rw [← hq] at this
          exact absurd this (Nat.not_lt.mpr hDs)
        · cases q : G.get? D with
          | none => rfl
          | some ob => exact absurd (Heap.lt_size (F.keep _ _ q)) (Nat.not_lt.mpr hDs)
      · exact N' p hp
  rcases hl with hl | hl
  · refine wpAny_pyIter_tuple hl ?_
    have W := Walks.tuple (prog := prog) (w := w) hh s.heap.objs.size l hne vs.toArray
    rw [hlen] at W
    exact key "tuple" _ _ _ _ (fun b hb => by simpa using hb) (fun i v hv => by simpa using hv) W ⟨⟨_, Heap.get?_push_size _ rfl, rfl, rfl⟩, let ⟨o, ho, r⟩ := hl; ⟨o, Heap.get?_push_of_some _ ho, r⟩⟩
  · refine wpAny_pyIter_list hl ?_
    have W := Walks.list (prog := prog) (w := w) hh s.heap.objs.size l hne vs.toArray
    rw [hlen] at W
    exact key "list" _ _ _ _ (fun b hb => by simpa using hb) (fun i v hv => by simpa using hv) W ⟨⟨_, Heap.get?_push_size _ rfl, rfl, rfl⟩, hl.at fun o e => Heap.get?_push_of_some _ e⟩

/-- the same, where what it makes says something of the heap -/
inductive LcGoH (prog : Program) (w : World) (A : Around) (G : Heap) (env : Env) (scope : Scope) (cl : List (Str × Addr)) (x : Str) (ifs : List Expr) (elt : Expr) (J : Nat → List Value → Heap → Prop) (Q : Value → Shared → Prop) : Value → Shared → Prop
  | mk {s : Shared} (l : Addr) (vs : List Value) (m : Str → Option Value) (news : List (Addr × Obj)) (z2 : (s.heap.IsTuple l vs.toArray ∨ s.heap.IsList l vs.toArray)) (z3 : Fr G env.locals s.heap m) (z4 : News G env.locals s.heap news) (z5 : vs.length ≤ sizeLine) (z6 : J 0 [] s.heap) (z7 : (∀ C i v ys h tk m₂ E' X, vs[i]? = some v → ys.length ≤ i → s.heap.StaysIn X → X.StaysIn h → J i ys X → h.Ns C m₂ → m₂ x = some v → wpAny (model prog w) A (lcTests ifs (compEnvC scope cl C env)) (LcOk prog w A elt (compEnvC scope cl C env) s.gens s.drawn s.os h (fun y h₄ => ∀ X', X.StaysIn X' → (∀ b o, h.objs.size ≤ b → h₄.get? b = some o → X'.get? b = some o) → J (i + 1) (ys ++ [y]) X') (fun _ => J (i + 1) ys X) E') E' { s with heap := h, toks := tk })) (z8 : (∀ D h' tk ys k X, Fr G env.locals h' m → News G env.locals h' ((D, listOf ys.toArray k) :: news) → (∀ p ∈ news, p.1 < D) → ys.length ≤ vs.length → s.heap.StaysIn X → X.StaysIn h' → X.get? D = none → J vs.length ys X → s.heap.objs.size ≤ D → Q (.ref D) { s with heap := h', toks := tk })) : LcGoH prog w A G env scope cl x ifs elt J Q (.ref l) s
theorem lc_overH {x : Str} {px pos : Pos} {elt iter : Expr} {ifs : List Expr} {scope : Scope} {cl : List (Str × Addr)} {Q : Value → Shared → Prop} (J : Nat → List Value → Heap → Prop) (hJ : ∀ i ys X X', X.StaysIn X' → J i ys X → J i ys X')
    (hclos : closureFor scope env = pure cl) (hcell : ∀ y ∈ scope.names, y.2 ≠ .cell) (hkind : scope.kind = .function)
    (hnames : ∀ y ∈ scope.names, y.2 = .local → scope.names.lookup y.1 = some .local) (hx : scope.names.lookup x = some .local) (hh : A.handled = none)
    (h : wpAny (model prog w) A (eval iter env) (LcGoH prog w A G env scope cl x ifs elt J Q) E s)
    (hs : ∀ x, foldedSetIterable iter env x = pure x := by intro _; rfl) :
    wpAny (model prog w) A (eval (.ListComp elt [⟨.Name x px, iter, ifs, 0⟩] scope pos) env) Q E s := by
  refine lc_inv J hJ hclos hcell hkind hnames (wpAny_mono h (fun xv s h₁ => ?_) fun _ _ e => e) hs
  obtain ⟨l, vs, m, news, hl, F, N, hsz, hj, turn, done⟩ := h₁
  have hlt : l < s.heap.objs.size := by rcases hl with ⟨o, ho, _⟩ | ⟨o, ho, _⟩ <;> exact Heap.lt_size ho
  have hne : l ≠ s.heap.objs.size := Nat.ne_of_lt hlt
  have hlen : vs.toArray.size = vs.length := by simp
  have hsz' : vs.toArray.size ≤ sizeLine := by rw [hlen]; exact hsz
  have up : ∀ o, s.heap.StaysIn (hideAll (s.heap.push o) [s.heap.objs.size]) := fun o b ob e => hideAll_get _ (Heap.get?_push_of_some _ e) fun q => by
    have := Heap.lt_size e; rw [List.mem_singleton.mp q] at this; exact Nat.lt_irrefl _ this
  have key : ∀ (o : Obj) (fp : List Addr) (P : Nat → Value → Prop) (St : Nat → Heap → Prop), (∀ b ∈ fp, b = s.heap.objs.size ∨ b = l) → (∀ i v, P i v → vs[i]? = some v) → Walks prog w A s.heap.objs.size fp [s.heap.objs.size] vs.length P St → St 0 (s.heap.push o) →
      LcGoI prog w A (.Name x px) scope cl env ifs elt J Q (.ref s.heap.objs.size) { s with heap := s.heap.push o } := by
    intro o fp P St hfp hP W hst
    refine ⟨s.heap.objs.size, fp, [s.heap.objs.size], vs.length, _, St, fun C => LcSrc.name W (lookup_relabel_local hx) (by simp [compEnvC, relabel, hkind]), hsz, hst, fun b hb => ?_, hJ _ _ _ _ (up o) hj, ?_, ?_⟩
    · rw [Heap.size_push]; rcases hfp b hb with rfl | rfl
      · exact Nat.lt_succ_self _
      · exact Nat.lt_succ_of_lt hlt
    · rintro C D i ys h tk m' hC hD hDC hi hy ⟨v, hv, hm⟩ hn st hJi E'
      have hCs : C < h.objs.size := by obtain ⟨oC, _, _, hoC, _⟩ := hn; exact Heap.lt_size hoC
      have small : ∀ b ∈ C :: D :: [s.heap.objs.size], b < h.objs.size := fun b hb => by
        rw [Heap.size_push] at hC
        rcases List.mem_cons.mp hb with rfl | hb
        · exact hCs
        · rcases List.mem_cons.mp hb with rfl | hb
          · exact Nat.lt_trans hDC hCs
          · rw [List.mem_singleton.mp hb]; exact Nat.lt_of_lt_of_le (Nat.lt_of_lt_of_le (Nat.lt_succ_self _) hC) (Nat.le_of_lt hCs)
      refine wpAny_mono (turn C i v ys h tk m' E' (hideAll h (C :: D :: [s.heap.objs.size])) (hP i v hv) hy (fun b ob e => st b ob (up o b ob e)) (fun b ob e => of_hideAll _ e) hJi hn hm) (fun ok s₃ h₃ => ?_) fun _ _ e => e
      cases h₃ with
      | no h₃ tk₃ k₃ h₃' => exact .no h₃ tk₃ k₃ (hJ _ _ _ _ (hideAll_up fun b o _ e => k₃ b o e) h₃')
      | yes h₃ tk₃ k₃ h₃' =>
        refine .yes h₃ tk₃ k₃ (wpAny_mono h₃' (fun y s₄ h₄ => ?_) fun _ _ e => e)
        obtain ⟨h₄, tk₄, k₄, hj₄⟩ := h₄
        exact ⟨h₄, tk₄, k₄, hj₄ _ (hideAll_up fun b o _ e => k₄ b o (k₃ b o e)) fun b o hb e => hideAll_get _ e fun q => absurd (small b q) (Nat.not_lt.mpr hb)⟩
    · intro D C h' tk ys hC hD hDC hpl hy hJn hk
      have st' : s.heap.StaysIn h' := fun b ob e => hk b ob (fun q => by have := Heap.lt_size e; rw [List.mem_singleton.mp q] at this; exact Nat.lt_irrefl _ this) (Heap.get?_push_of_some _ e)
      obtain ⟨k, hk'⟩ := hpl
      have hDs : s.heap.objs.size ≤ D := by rw [Heap.size_push] at hD; exact Nat.le_of_succ_le hD
      have hCs : s.heap.objs.size ≤ C := by rw [Heap.size_push] at hC; exact Nat.le_of_succ_le hC
      have F' := frStays F st'
      have N' := newsStays N st'
      refine done D h' tk ys k (hideAll h' (C :: D :: [s.heap.objs.size])) F' ?_ (fun p hp => Nat.lt_of_lt_of_le (Heap.lt_size (N p hp).1) hDs) hy (fun b ob e => hideAll_get _ (st' b ob e) fun q => ?_) (fun b ob e => of_hideAll _ e) (hideAll_none _ (.tail _ (.head _))) hJn hDs
      · intro p hp
        rcases List.mem_cons.mp hp with rfl | hp
        · refine ⟨hk', fun q => ?_, ?_⟩
          · have := F.ns.lt
            have hq : D = env.locals := q
            rw [← hq] at this
            exact absurd this (Nat.not_lt.mpr hDs)
          · cases q : G.get? D with
            | none => rfl
            | some ob => exact absurd (Heap.lt_size (F.keep _ _ q)) (Nat.not_lt.mpr hDs)
        · exact N' p hp
      · have := Heap.lt_size e
        rcases List.mem_cons.mp q with rfl | q
        · exact absurd this (Nat.not_lt.mpr hCs)
        · rcases List.mem_cons.mp q with rfl | q
          · exact absurd this (Nat.not_lt.mpr hDs)
          · rw [List.mem_singleton.mp q] at this; exact Nat.lt_irrefl _ this
  rcases hl with hl | hl
  · refine wpAny_pyIter_tuple hl ?_
    have W := Walks.tuple (prog := prog) (w := w) hh s.heap.objs.size l hne vs.toArray
    rw [hlen] at W
    exact key _ _ _ _ (fun b hb => by simpa using hb) (fun i v hv => by simpa using hv) W ⟨⟨_, Heap.get?_push_size _ rfl, rfl, rfl⟩, let ⟨o, ho, r⟩ := hl; ⟨o, Heap.get?_push_of_some _ ho, r⟩⟩
  · refine wpAny_pyIter_list hl ?_
    have W := Walks.list (prog := prog) (w := w) hh s.heap.objs.size l hne vs.toArray
    rw [hlen] at W
    exact key _ _ _ _ (fun b hb => by simpa using hb) (fun i v hv => by simpa using hv) W ⟨⟨_, Heap.get?_push_size _ rfl, rfl, rfl⟩, hl.at fun o e => Heap.get?_push_of_some _ e⟩

/-- what the source of a comprehension comes to, and its turns -/
inductive LcGo (prog : Program) (w : World) (A : Around) (G : Heap) (env : Env) (scope : Scope) (cl : List (Str × Addr)) (x : Str) (ifs : List Expr) (elt : Expr) (J : Nat → List Value → Prop) (Q : Value → Shared → Prop) : Value → Shared → Prop
  | mk {s : Shared} (l : Addr) (vs : List Value) (m : Str → Option Value) (news : List (Addr × Obj)) (z2 : (s.heap.IsTuple l vs.toArray ∨ s.heap.IsList l vs.toArray)) (z3 : Fr G env.locals s.heap m) (z4 : News G env.locals s.heap news) (z5 : vs.length ≤ sizeLine) (z6 : (∀ C i v ys h tk m₂ E', vs[i]? = some v → ys.length ≤ i → J i ys → s.heap.StaysIn h → h.Ns C m₂ → m₂ x = some v → wpAny (model prog w) A (lcTests ifs (compEnvC scope cl C env)) (LcOk prog w A elt (compEnvC scope cl C env) s.gens s.drawn s.os h (fun y _ => J (i + 1) (ys ++ [y])) (fun _ => J (i + 1) ys) E') E' { s with heap := h, toks := tk })) (z7 : (∀ D h' tk ys k, Fr G env.locals h' m → News G env.locals h' ((D, listOf ys.toArray k) :: news) → (∀ p ∈ news, p.1 < D) → ys.length ≤ vs.length → J vs.length ys → s.heap.StaysIn h' → s.heap.objs.size ≤ D → Q (.ref D) { s with heap := h', toks := tk })) : LcGo prog w A G env scope cl x ifs elt J Q (.ref l) s
theorem lcGo {scope : Scope} {cl : List (Str × Addr)} {x : Str} {ifs : List Expr} {elt : Expr} {J : Nat → List Value → Prop} {Q : Value → Shared → Prop} {l : Addr} {vs : List Value} {m : Str → Option Value} {news : List (Addr × Obj)}
    (hl : s.heap.IsTuple l vs.toArray ∨ s.heap.IsList l vs.toArray) (F : Fr G env.locals s.heap m) (N : News G env.locals s.heap news) (hsz : vs.length ≤ sizeLine)
    (turn : ∀ C i v ys h tk m₂ E', vs[i]? = some v → ys.length ≤ i → J i ys → s.heap.StaysIn h → h.Ns C m₂ → m₂ x = some v →
        wpAny (model prog w) A (lcTests ifs (compEnvC scope cl C env)) (LcOk prog w A elt (compEnvC scope cl C env) s.gens s.drawn s.os h (fun y _ => J (i + 1) (ys ++ [y])) (fun _ => J (i + 1) ys) E') E' { s with heap := h, toks := tk })
    (done : ∀ D h' tk ys k, Fr G env.locals h' m → News G env.locals h' ((D, listOf ys.toArray k) :: news) → (∀ p ∈ news, p.1 < D) → ys.length ≤ vs.length → J vs.length ys → s.heap.StaysIn h' → s.heap.objs.size ≤ D → Q (.ref D) { s with heap := h', toks := tk }) :
    LcGo prog w A G env scope cl x ifs elt J Q (.ref l) s := ⟨l, vs, m, news, hl, F, N, hsz, turn, done⟩

/-- a comprehension over a tuple or a list -/
theorem lc_over {x : Str} {px pos : Pos} {elt iter : Expr} {ifs : List Expr} {scope : Scope} {cl : List (Str × Addr)} {Q : Value → Shared → Prop} (J : Nat → List Value → Prop)
    (hclos : closureFor scope env = pure cl) (hcell : ∀ y ∈ scope.names, y.2 ≠ .cell) (hkind : scope.kind = .function)
    (hnames : ∀ y ∈ scope.names, y.2 = .local → scope.names.lookup y.1 = some .local) (hx : scope.names.lookup x = some .local) (hh : A.handled = none) (hj : J 0 [])
    (h : wpAny (model prog w) A (eval iter env) (LcGo prog w A G env scope cl x ifs elt J Q) E s)
    (hs : ∀ x, foldedSetIterable iter env x = pure x := by intro _; rfl) :
    wpAny (model prog w) A (eval (.ListComp elt [⟨.Name x px, iter, ifs, 0⟩] scope pos) env) Q E s := by
  refine lc_inv (fun i ys _ => J i ys) (fun _ _ _ _ _ x => x) hclos hcell hkind hnames (wpAny_mono h (fun xv s₁ h₁ => ?_) fun _ _ e => e) hs
  obtain ⟨l, vs, m, news, hl, F, N, hsz, turn, done⟩ := h₁
  exact lc_seq (px := px) J hh hl F N hkind hx hsz hj turn done
theorem CelsAre.snoc {vs : List Value} {cs : List Cel} {v : Value} {c : Cel} (h : CelsAre vs cs) (x : CelIs c v) : CelsAre (vs ++ [v]) (cs ++ [c]) := by
  induction h with
  | nil => exact .cons x .nil
  | cons y _ ih => exact .cons y ih
theorem RowsAre.snoc {h : Heap} {vs : List Value} {rs : List (List Cel)} {v : Value} {r : List Cel} (y : RowsAre h vs rs) (x : RowAt h r v) : RowsAre h (vs ++ [v]) (rs ++ [r]) := by
  induction y with
  | nil => exact .cons x .nil
  | cons y _ ih => exact .cons y ih
theorem reads_listOf {h : Heap} {D : Addr} {ys : List Value} {cs : List Cel} {k : Nat} (e : h.get? D = some (listOf ys.toArray k)) (hc : CelsAre ys cs) : Reads h (.ref D) (.list (cs.map celD)) [D] := .list e rfl rfl (reads_cels hc)
theorem reads_nilOf {h : Heap} {D : Addr} {k : Nat} (e : h.get? D = some (listOf #[] k)) : Reads h (.ref D) (.list []) [D] := .list e rfl rfl .nil
theorem eqv_nil (cs : List Cel) : PyData.eqv (.list (cs.map celD)) (.list []) = cs.isEmpty := by cases cs <;> simp [PyData.eqv, PyData.eqvAll]
theorem shaped_cels (cs : List Cel) : PySem.SeqAt.shaped (.list (cs.map celD)) = true := shaped_of (by simp [PyData.canLay0, canLay_cels]) (by simp [PyData.depth, depth_cels])
theorem cels_nil {ys : List Value} {cs : List Cel} (h : CelsAre ys cs) : cs.isEmpty = true ↔ ys = [] := by
  cases h <;> simp
open AutoSeq1 in
theorem notIn_range {k n : Int} {t : Tok} {r : Addr} {t1 u1 v1 : Tok} {Q : Value → Shared → Prop} (hr : IsRange s.heap r 0 n 1 t1 u1 v1) (h : Q (.bool (!decide (0 ≤ k ∧ k < n))) s) :
    wpAny (model prog w) A (compareOp .NotIn (.int k t) (.ref r)) Q E s := by
  have hT : s.TypeIs (.ref r) "range" := ⟨_, hr, rfl⟩
  refine NotIn_slot hT F.slot_range_contains (wpAny_call_entry F.slot_range_contains hT F.entry_range_contains ?_ (F.args_range_contains_2 _ _))
  obtain ⟨hp, g, d, tk, os⟩ := s
  wp_walk using wpAny_loadPart' hr
  refine ⟨_, rfl, ?_⟩
  have e : (Builtin.Range.rangePlace? 0 n 1 k).isSome = decide (0 ≤ k ∧ k < n) := by
    unfold Builtin.Range.rangePlace?
    by_cases h1 : 0 ≤ k <;> by_cases h2 : k < n <;> simp [h1, h2]
  rw [e]
  exact wpAny_truthy_bool h
theorem newsAdd {h h' : Heap} {L d : Addr} {o : Obj} {m : Str → Option Value} {news : List (Addr × Obj)} (F : Fr G L h m) (N : News G L h' news) (hd : h.objs.size ≤ d) (ho : h'.get? d = some o) : News G L h' ((d, o) :: news) := fun p hp => by
  rcases List.mem_cons.mp hp with rfl | hp
  · refine ⟨ho, fun q => ?_, ?_⟩
    · have := F.ns.lt
      have hq : d = L := q
      rw [← hq] at this
      exact absurd this (Nat.not_lt.mpr hd)
    · cases q : G.get? d with
      | none => rfl
      | some ob => exact absurd (Heap.lt_size (F.keep _ _ q)) (Nat.not_lt.mpr hd)
  · exact N p hp
end
end

section
open PySem PySem.W PySem.Calls PyProof.Rows PySem.Spec
theorem code_lex : (keys12.all fun a => keys12.all fun b => !(a.length == b.length) || (decide (rowCode a < rowCode b) == lexLt a b)) = true := by decide +kernel
theorem code_lt {a b : List Int} (ha : a ∈ keys12) (hb : b ∈ keys12) (hl : a.length = b.length) : rowCode a < rowCode b ↔ lexLt a b = true := by
  have h := List.all_eq_true.mp (List.all_eq_true.mp code_lex a ha) b hb
  have e : decide (rowCode a < rowCode b) = lexLt a b := by simpa [hl] using h
  rw [← e]; simp
theorem rowInts_len (r : List Cel) : (rowInts r).length = r.length := by simp [rowInts]
inductive LenCons {α : Type} (n : Nat) : List α → Prop
  | mk (a : α) (t : List α) (h : t.length = n) : LenCons n (a :: t)
theorem lenCons {α : Type} {n : Nat} {l : List α} (h : l.length = n + 1) : LenCons n l := by
  cases l with
  | nil => cases h
  | cons a t => exact ⟨a, t, Nat.succ.inj h⟩
theorem in12_of {n ar : Int} {r : List Cel} (hn : n ≤ 3) (har : ar = 1 ∨ ar = 2) (h : okRow n ar r) : rowInts r ∈ keys12 := by
  obtain ⟨hl, hc⟩ := h
  have one : ∀ c, c ∈ r → ∃ i : Int, c = .int i ∧ (i = 0 ∨ i = 1 ∨ i = 2) := fun c hm => by
    obtain ⟨i, e, h0, h1⟩ := hc c hm
    exact ⟨i, e, by omega⟩
  rcases har with rfl | rfl
  · obtain ⟨c, r, h0⟩ := lenCons (n := 0) (l := r) (by omega)
    obtain rfl := List.eq_nil_of_length_eq_zero h0
    obtain ⟨i, rfl, h | h | h⟩ := one c (.head _) <;> subst h <;> decide
  · obtain ⟨c, r, h1⟩ := lenCons (n := 1) (l := r) (by omega)
    obtain ⟨d, r, h0⟩ := lenCons (n := 0) h1
    obtain rfl := List.eq_nil_of_length_eq_zero h0
    obtain ⟨i, rfl, h⟩ := one c (.head _)
    obtain ⟨j, rfl, h'⟩ := one d (.tail _ (.head _))
    rcases h with h | h | h <;> rcases h' with h' | h' | h' <;> subst h <;> subst h' <;> decide
theorem celsOf_ints {r : List Cel} (h : intRow r) : (rowInts r).map Cel.int = r := by
  induction r with
  | nil => rfl
  | cons c r ih =>
    obtain ⟨i, rfl⟩ := h c (.head _)
    show Cel.int i :: _ = _
    rw [show List.map Cel.int (List.map _ r) = r from ih fun c hc => h c (.tail _ hc)]
theorem rowInts_map (k : List Int) : rowInts (k.map Cel.int) = k := by
  induction k with
  | nil => rfl
  | cons i k ih => show i :: _ = _; rw [show List.map _ (List.map Cel.int k) = k from ih]
/-- sorted lists that are the same but for their order are the same -/
theorem eq_of_perm {α : Type} {f : α → Int} : ∀ {l k : List α}, l.Perm k → l.Pairwise (fun a b => f a < f b) → k.Pairwise (fun a b => f a < f b) → l = k
  | [], k, p, _, _ => (List.nil_perm.mp p).symm ▸ rfl
  | a :: l, [], p, _, _ => absurd p.length_eq (by simp)
  | a :: l, b :: k, p, hl, hk => by
    obtain ⟨hla, hl'⟩ := List.pairwise_cons.mp hl
    obtain ⟨hkb, hk'⟩ := List.pairwise_cons.mp hk
    have hab : a = b := by
      have h1 : a ∈ b :: k := p.mem_iff.mp (.head _)
      have h2 : b ∈ a :: l := p.mem_iff.mpr (.head _)
      rcases List.mem_cons.mp h1 with e | h1
      · exact e
      · rcases List.mem_cons.mp h2 with e | h2
        · exact e.symm
        · have := hla b h2; have := hkb a h1; omega
    subst hab
    rw [eq_of_perm (List.perm_cons a |>.mp p) hl' hk']
theorem pairwise_of_step {α : Type} {f : α → Int} : ∀ {l : List α}, (∀ k (h : k + 1 < l.length), f (l[k]'(by omega)) < f (l[k + 1]'h)) → l.Pairwise (fun a b => f a < f b)
  | [], _ => .nil
  | [a], _ => by simp
  | a :: b :: l, h => by
    have hr := pairwise_of_step (l := b :: l) fun k hk => h (k + 1) (Nat.succ_lt_succ hk)
    refine List.pairwise_cons.mpr ⟨fun c hc => ?_, hr⟩
    have hab : f a < f b := by simpa using h 0 (by simp)
    rcases List.mem_cons.mp hc with rfl | hc
    · exact hab
    · have := (List.pairwise_cons.mp hr).1 c hc
      omega
theorem step_of_pairwise {α : Type} {f : α → Int} {l : List α} (h : l.Pairwise (fun a b => f a < f b)) (k : Nat) (hk : k + 1 < l.length) : f (l[k]'(by omega)) < f (l[k + 1]'hk) :=
  (List.pairwise_iff_getElem.mp h) k (k + 1) (by omega) hk (Nat.lt_succ_self _)
theorem getD_map_rows (rows : List (List Cel)) (k : Nat) (hk : k < rows.length) : rowInts (rows.getD k []) = (rows.map rowInts)[k]'(by simpa using hk) := by
  simp [List.getD_eq_getElem?_getD, hk]
/-- a list is its own sorted set just if it ascends -/
theorem sorted_is {rows : List (List Cel)} {n ar : Int} {kl' ks : List (List Int)} (hn : n ≤ 3) (har : ar = 1 ∨ ar = 2) (hok : ∀ r ∈ rows, okRow n ar r)
    (hnd : ks.Nodup) (hm : ∀ k, k ∈ ks ↔ k ∈ rows.map rowInts) (hp : kl'.Perm ks) (hr : kl'.Pairwise fun a b => rowCode a < rowCode b) :
    rows = kl'.map (List.map Cel.int) ↔ ascends rows := by
  have in12 : ∀ k ∈ rows.map rowInts, k ∈ keys12 := fun k hk => by
    obtain ⟨r, hr, rfl⟩ := List.mem_map.mp hk
    exact in12_of hn har (hok r hr)
  have len : ∀ k ∈ rows.map rowInts, (k.length : Int) = ar := fun k hk => by
    obtain ⟨r, hr, rfl⟩ := List.mem_map.mp hk
    rw [rowInts_len]; exact (hok r hr).1
  have back : (rows.map rowInts).map (List.map Cel.int) = rows := by
    rw [List.map_map]
    exact (List.map_congr_left fun r hr => celsOf_ints (hok r hr).int).trans (List.map_id _)
  have asc_iff : ascends rows ↔ (rows.map rowInts).Pairwise fun a b => rowCode a < rowCode b := by
    constructor
    · intro h
      refine pairwise_of_step fun k hk => ?_
      have hk' : k + 1 < rows.length := by simpa using hk
      have q := h k hk'
      rw [getD_map_rows rows k (by omega), getD_map_rows rows (k + 1) hk'] at q
      have m1 := List.getElem_mem (l := rows.map rowInts) (n := k) (by simpa using Nat.lt_of_succ_lt hk')
      have m2 := List.getElem_mem (l := rows.map rowInts) (n := k + 1) hk
      exact (code_lt (in12 _ m1) (in12 _ m2) (by have := len _ m1; have := len _ m2; omega)).mpr q
    · intro h k hk
      have hk' : k + 1 < (rows.map rowInts).length := by simpa using hk
      have q := step_of_pairwise h k hk'
      rw [getD_map_rows rows k (by omega), getD_map_rows rows (k + 1) hk]
      have m1 := List.getElem_mem (l := rows.map rowInts) (n := k) (by omega)
      have m2 := List.getElem_mem (l := rows.map rowInts) (n := k + 1) hk'
      exact (code_lt (in12 _ m1) (in12 _ m2) (by have := len _ m1; have := len _ m2; omega)).mp q
  rw [asc_iff]
  constructor
  · intro h
    have : rows.map rowInts = kl' := by
      rw [h, List.map_map]
      exact (List.map_congr_left fun k _ => rowInts_map k).trans (List.map_id _)
    rw [this]; exact hr
  · intro h
    have nd : (rows.map rowInts).Nodup := h.imp fun {a b} hab => fun e => by rw [e] at hab; exact absurd hab (Int.lt_irrefl _)
    have p : (rows.map rowInts).Perm ks := (List.perm_ext_iff_of_nodup nd hnd).mpr fun k => (hm k).symm
    have := eq_of_perm (p.trans hp.symm) h hr
    rw [← this, back]
/-- rows as keys -/
theorem RowAt.key {prog : Program} {w : World} {h : Heap} {v : Value} {r : List Cel} (x : RowAt h r v) (hi : intRow r) : ∃ a, v = .ref a ∧ KeyAt prog w h (rowInts r) a := by
  obtain ⟨a, vs, rfl, ⟨o, ho, hc, n, hd⟩, hcs⟩ := x
  refine ⟨a, rfl, o, _, n, ho, hc, hd, ?_⟩
  clear ho hd hc
  induction hcs with
  | nil => exact .nil
  | @cons v _ c _ x _ ih =>
    obtain ⟨i, rfl⟩ := hi c (.head _)
    obtain ⟨t, rfl⟩ : ∃ t, v = .int i t := x
    exact .cons (by simp [intKind, Value.isInt]) (ih fun c hc => hi c (.tail _ hc))
theorem rows_keys {prog : Program} {w : World} {h : Heap} {vs : List Value} {rows : List (List Cel)} (x : RowsAre h vs rows) (hi : ∀ r ∈ rows, intRow r) : KeysAre prog w h vs (rows.map rowInts) := by
  refine ⟨by rw [x.length, List.length_map], fun i v hv => ?_⟩
  obtain ⟨r, hr, hrv⟩ := x.get hv
  obtain ⟨a, rfl, hk⟩ := hrv.key (prog := prog) (w := w) (hi r (List.mem_of_getElem? hr))
  exact ⟨_, a, by simp [hr], rfl, hk⟩
theorem reads_key {prog : Program} {w : World} {h : Heap} {k : List Int} {a : Addr} (x : KeyAt prog w h k a) : Reads h (.ref a) (rowD (k.map Cel.int)) [] := by
  obtain ⟨o, items, n, ho, hc, hd, hi⟩ := x
  refine .tuple ho hc hd ?_
  clear ho hc hd
  generalize items.toList = vs at hi
  induction hi with
  | nil => exact .nil
  | @cons k v ks vs h1 _ ih =>
    obtain ⟨t, rfl⟩ := Value.isInt_shape h1
    exact .cons (as := []) (.int k t) ih
theorem reads_keys {prog : Program} {w : World} {h : Heap} : ∀ {vs : List Value} {kl : List (List Int)}, KeysAre prog w h vs kl → ReadsAll h vs ((kl.map (List.map Cel.int)).map rowD) []
  | [], [], _ => .nil
  | [], _ :: _, x => by have := x.1; simp at this
  | _ :: _, [], x => by have := x.1; simp at this
  | v :: vs, k :: kl, x => by
    obtain ⟨k', a, e, rfl, hk⟩ := x.2 0 v rfl
    obtain rfl : k = k' := by simpa using e
    exact .cons (as := []) (reads_key hk) (reads_keys (kl := kl) ⟨by have := x.1; simpa using this, fun i u hu => let ⟨k', a, p, q, r⟩ := x.2 (i + 1) u (by simpa using hu); ⟨k', a, p, q, r⟩⟩)
theorem reads_rowsOf {h : Heap} {D : Addr} {vs : List Value} {rows : List (List Cel)} {k : Nat} (e : h.get? D = some (listOf vs.toArray k)) (hc : RowsAre h vs rows) : Reads h (.ref D) (.list (rows.map rowD)) [D] := .list e rfl rfl (reads_rows hc)
theorem reads_keysOf {prog : Program} {w : World} {h : Heap} {D : Addr} {vs : List Value} {kl : List (List Int)} {k : Nat} (e : h.get? D = some (seqObj "list" vs.toArray k)) (hc : KeysAre prog w h vs kl) : Reads h (.ref D) (.list ((kl.map (List.map Cel.int)).map rowD)) [D] := .list e rfl rfl (reads_keys hc)
theorem eqv_rowsList {rows qs : List (List Cel)} (h : ∀ r ∈ rows, intRow r) (h' : ∀ r ∈ qs, intRow r) : PyData.eqv (.list (rows.map rowD)) (.list (qs.map rowD)) = decide (rows = qs) := by rw [PyData.eqv]; exact eqv_rows h h'
theorem intRow_map (k : List Int) : intRow (k.map Cel.int) := fun c hc => by obtain ⟨i, _, rfl⟩ := List.mem_map.mp hc; exact ⟨i, rfl⟩
theorem shaped_rowsList (rows : List (List Cel)) : PySem.SeqAt.shaped (.list (rows.map rowD)) = true := shaped_of (by simp only [PyData.canLay0, canLay_rows]) (by have := depth_rows rows; simp only [PyData.depth]; omega)
end

section
open PySem PySem.W PySem.Calls PyProof.Rows PySem.Spec
local macro_rules | `(tactic| walk_at $s) => Mine.red [("call builtin:isinstance", "isi"), ("exec For Name Name cons nil", "for2"), ("call builtin:len", "len"), ("compareOp Eq", "m"), ("eval ListComp", "m")] s
set_option hygiene false in
local macro_rules | `(tactic| walk_at "compareOp NotIn") => `(tactic| (k_here; (with_reducible show wpAny _ _ (compareOp CmpOp.NotIn (Value.int _ _) (Value.ref _)) _ _ _); refine notIn_range (by assumption) ?_))
theorem News.drop2 {G h : Heap} {L : Addr} {p q : Addr × Obj} {news : List (Addr × Obj)} (N : News G L h (p :: q :: news)) : News G L h news := fun x hx => N x (.tail _ (.tail _ hx))
set_option maxHeartbeats 4000000 in
theorem is_set_call {w : World} {A : Around} {base G : Heap} {envs : List Env} {mean : ExcName → Option Value} {mg mb : Str → Option Value} {s : Shared} {Q E : Value → Shared → Prop}
    {a : Addr} {ar n : Int} {t u : Tok} {R : Rel}
    (H : At w A base envs mean mg mb G s) (hd : A.depth ≤ 450) (hu : A.units ≤ 500)
    (hR : RelAt G a R) (hsz : ∀ r ∈ R.rows, r.length ≤ 9) (hnr : R.rows.length ≤ 20) (hn : 1 ≤ n ∧ n ≤ 3) (har : ar = 1 ∨ ar = 2)
    (hret : ∀ b h' tk', (b = true ↔ wantOk n ar R) → G.StaysIn h' → Q (.bool b) { s with heap := h', toks := tk' }) :
    wpAny (model Challenge.pw_nu0267_01 w) A (call (.ref 213) [.ref a, .int ar t, .int n u]) Q E s := by
  revert hd hu
  refine At.lit (P := fun A => (A.depth ≤ _) → (A.units ≤ _) → wpAny _ A _ _ _ _) H fun dp gd un H hd hu => ?_
  dsimp only at hd hu
  refine wpAny_call ?_
  k_dflt (refine' enterC (binds := [(Str.ofString "some", .ref a), (Str.ofString "arity", .int ar t), (Str.ofString "n", .int n u)]) (news := []) H ?hN ?ho ?hcd ?hroom ?hbind ?hkind ?hnd ?_ ?hco ?hgen ?hk)
  case hN => exact fun _ h => nomatch h
  case ho => k_is
  case hcd => k_is
  case hroom => k_room
  case hbind => exact BindsTo.of_eq rfl
  case hkind => exact rfl
  case hnd => decide +kernel
  case hco => exact rfl
  case hgen => exact rfl
  case hk => exact rfl
  intro L' h₁ tk cells env0 M0 F N Y B X T hs hL l1
  k_cells Y
  (try dsimp only [List.cons_append, List.nil_append] at N)
  (try dsimp only); (try ((show wpAny _ _ _ _ _ _); k_fold))
  obtain ⟨vs, hvs, hrows⟩ := hR
  obtain ⟨tup, rows⟩ := R
  cases tup with
  | false =>
    rw [if_neg Bool.false_ne_true] at hvs
    k_steps
    exact hret false _ _ (Iff.intro (fun h => nomatch h) fun h => nomatch h.1) F.keep
  | true =>
    rw [if_pos rfl] at hvs
    have hvl : vs.length ≤ 20 := by rw [hrows.length]; exact hnr
    k_steps
    refine iter_seqF "row" (fun i _ => ∀ j r, j < i → rows[j]? = some r → okRow n ar r) (.inl hvs) rfl (by assumption) (by assumption) (by intros; omega) ?turn ?done
    case turn =>
      intro i v u2 h2 tk2 own hv hP F2 N2
      obtain ⟨r, hr, b, ws, rfl, hb, hc⟩ := hrows.get hv
      have hr3 : r.length ≤ 9 := hsz r (List.mem_of_getElem? hr)
      have hw3 : ws.length ≤ 9 := by rw [hc.length]; exact hr3
      (try dsimp only); (try ((show wpAny _ _ _ _ _ _); k_fold))
      k_steps
      · rename_i hlen _
        refine hret false _ _ (Iff.intro (fun h => nomatch h) fun h => ?_) (Fr.keep (by assumption))
        have h1 := (h.2.1 r (List.mem_of_getElem? hr)).1
        have h2 := hc.length
        simp_all
      · have hlen : (r.length : Int) = ar := by
          have h2 := hc.length
          simp_all
        refine lc_over (G := G) (fun i ys => (∃ cs, CelsAre ys cs) ∧ (ys = [] ↔ ∀ j c, j < i → r[j]? = some c → ∃ k, c = .int k ∧ 0 ≤ k ∧ k < n)) (by rfl) (by decide) rfl (by decide) rfl rfl ⟨⟨[], .nil⟩, by simp⟩ ?_
        k_steps
        refine lcGo (.inl (tupKeeps hb (Fr.keep (by assumption)))) (by assumption) (by assumption) (by rw [sizeLine_eq]; omega) ?turn2 ?done2
        case turn2 =>
          intro C i2 v2 ys h3 tk3 m3 E3 hv2 hyl hJ st3 hn3 hm3
          obtain ⟨c, hc3, hci⟩ := hc.get hv2
          have F3 := frStays (by assumption) st3
          have N3 := newsStays (by assumption) st3
          refine lcTests_one ?_
          cases c with
          | no =>
            obtain rfl : v2 = .bool false := hci
            k_steps
            refine lcYes (fun _ _ e => e) ?_
            k_steps
            refine lcElt (fun _ _ e => e) ⟨hJ.1.elim fun cs hcs => ⟨_, hcs.snoc (c := .no) rfl⟩, Iff.intro (fun h => by simp at h) fun h => ?_⟩
            obtain ⟨k, hk, _⟩ := h i2 _ (Nat.lt_succ_self _) hc3
            cases hk
          | int k =>
            obtain ⟨t3, rfl⟩ : ∃ t, v2 = .int k t := hci
            k_steps
            · rename_i hck
              refine lcNo (by assumption) ⟨hJ.1, hJ.2.trans (Iff.intro (fun h j c hj hjc => ?_) fun h j c hj => h j c (Nat.lt_succ_of_lt hj))⟩
              by_cases hji : j = i2
              · subst hji
                rw [hc3] at hjc
                cases hjc
                exact ⟨k, rfl, by simpa using hck⟩
              · exact h j c (by omega) hjc
            · rename_i hck
              rename_i up
              have hn4 := hn3.keeps up
              refine lcYes up ?_
              k_steps
              refine lcElt (fun _ _ e => e) ?_
              refine ⟨hJ.1.elim fun cs hcs => ⟨_, hcs.snoc (c := .int k) (v := .int k t3) (Exists.intro t3 rfl)⟩, Iff.intro (fun h => by simp at h) fun h => ?_⟩
              obtain ⟨k', hk, h0, h1⟩ := h i2 _ (Nat.lt_succ_self _) hc3
              cases hk
              simp_all
        case done2 =>
          intro D h3 tk3 ys k F3 N3 lD hyl hJ st3 hD
          (try dsimp only)
          obtain ⟨⟨cs, hcs⟩, hys⟩ := hJ
          have hok : cs.isEmpty = true ↔ okRow n ar r := by
            rw [cels_nil hcs, hys]
            refine Iff.intro (fun h => ⟨hlen, fun c hc' => ?_⟩) fun h j c _ hjc => h.2 c (List.mem_of_getElem? hjc)
            obtain ⟨j, hj⟩ := List.getElem?_of_mem hc'
            exact h j c (by rw [hc.length]; exact (List.getElem?_eq_some_iff.mp hj).1) hj
          k_steps
          refine ne_dataH (reads_listOf (News.get (by assumption) (.tail _ (.head _))) hcs) (reads_nilOf (News.get (by assumption) (.head _))) (shaped_cels cs) (by decide +kernel) (by rw [units_deeper, cLine_is]; dsimp only; omega) ?_
          rw [eqv_nil]
          k_steps
          · rename_i hce
            refine ⟨_, _, _, rfl, by assumption, News.drop2 (by assumption), fun y h1 h2 => by simp only [if_neg h1], fun j r' hj hjr => ?_⟩
            by_cases hji : j = i
            · subst hji
              rw [hr] at hjr
              cases hjr
              exact hok.mp (by simpa using hce)
            · exact hP j r' (by omega) hjr
          · rename_i hce
            refine hret false _ _ (Iff.intro (fun h => nomatch h) fun h => ?_) (Fr.keep (by assumption))
            have := hok.mpr (h.2.1 r (List.mem_of_getElem? hr))
            simp_all
    case done =>
      intro u4 h4 tk4 hP4 F4 N4
      (try dsimp only); (try ((show wpAny _ _ _ _ _ _); k_fold))
      k_steps
      have hokr : ∀ r ∈ rows, okRow n ar r := fun r hr => by
        obtain ⟨j, hj⟩ := List.getElem?_of_mem hr
        exact hP4 j r (by rw [hrows.length]; exact (List.getElem?_eq_some_iff.mp hj).1) hj
      have hint : ∀ r ∈ rows, intRow r := fun r hr => (hokr r hr).int
      obtain ⟨nn, hnn⟩ : ∃ nn : Nat, (nn : Int) = ar ∧ (nn = 1 ∨ nn = 2) := har.elim (fun e => ⟨1, e.symm, .inl rfl⟩) fun e => ⟨2, e.symm, .inr rfl⟩
      refine call_set_tuple (kl := rows.map rowInts) (n := nn) rfl (by rw [units_deeper, cLine_is]; dsimp only; omega) (tupKeeps hvs (Fr.keep (by assumption))) ((rows_keys hrows hint).mono (Fr.keep (by assumption)))
        (fun k hk => by obtain ⟨r, hr, rfl⟩ := List.mem_map.mp hk; exact in12_of hn.2 har (hokr r hr)) hnn.2 (fun k hk => by obtain ⟨r, hr, rfl⟩ := List.mem_map.mp hk; have := (hokr r hr).1; rw [rowInts_len]; omega) ?_
      intro h5 tk5 ks hS hmem k5
      have F5 := frStays (by assumption) k5
      have N5 := newsStays (by assumption) k5
      k_steps
      refine call_sorted_set (n := nn) rfl hS hnn.2 (fun k hk => ?_) ?_
      · obtain ⟨r, hr, rfl⟩ := List.mem_map.mp ((hmem k).mp hk)
        have := (hokr r hr).1
        rw [rowInts_len]; omega
      intro h6 tk6 D6 c6 out kl' k6 fr6 hD6 hSo
      have F6 := frStays F5 k6
      have N6 := newsStays N5 k6
      have hnd : ks.Nodup := by obtain ⟨es, ep, t, ho, X⟩ := hS; exact X.nodup
      have r1 := reads_rowsOf (News.get N6 (.head _)) (hrows.keeps F6.keep)
      have r2 := reads_keysOf hD6 hSo.are
      refine eq_dataH r1 r2 (shaped_rowsList _) (shaped_rowsList _) (by rw [units_deeper, cLine_is]; dsimp only; omega) ?_
      rw [eqv_rowsList hint fun q hq => by obtain ⟨k, _, rfl⟩ := List.mem_map.mp hq; exact intRow_map k]
      k_steps
      refine hret _ _ _ ?_ F6.keep
      rw [decide_eq_true_iff, sorted_is hn.2 har hokr hnd hmem hSo.perm hSo.rises]
      exact ⟨fun h => ⟨rfl, hokr, h⟩, fun h => h.2.2⟩
end

section
open PySem PySem.W PySem.Calls PyProof.Rows PySem.Spec
theorem list_no_key : typeLookup (.type "list") "keys" = pure none := am_miss_of_fast (by decide +kernel)
theorem entry_upd_loop : entryFor table "dict.update.loop" = some Builtin.«dict.update.loop» := entryFor_of_tree (by kernel_rfl)
theorem plain_upd_loop : plainId "dict.update.loop" = true := by decide +kernel
section
variable {prog : Program} {w : World} {A : Around} {E : Value → Shared → Prop} {s : Shared} {R : Result → Shared → Prop}

set_option maxHeartbeats 2000000 in
theorem list_no_keys {a : Addr} {o : Obj} {xs : Array Value} {k : Nat} {Q : Option Value → Shared → Prop} (hx : s.heap.get? a = some o) (hc : o.cls = .type "list") (hdat : o.data = .seq xs k) (hd : o.dict = none) (hA : A.handled = none)
    (h : ∀ h' tk, s.heap.StaysIn h' → Q none { s with heap := h', toks := tk }) : wpAny (model prog w) A (getAttr? (.ref a) "keys") Q E s := by
  obtain ⟨c, dct, dat, sl⟩ := o
  simp only at hc hdat hd
  subst hc hdat hd
  obtain ⟨hp, g, d, tk, os⟩ := s
  have hT : ∀ tk', (⟨hp, g, d, tk', os⟩ : Shared).TypeIs (.ref a) "list" := fun _ => ⟨_, hx, rfl⟩
  have f1 := sub_AttributeError
  have f3 := F.slot_list_getattribute.lookup
  have f4 := F.slot_list_getattribute.bind (.ref a)
  have f5 := am_list_getattr_none
  have hmiss : typeLookup (.type "list") (Str.ofString "keys") = pure none := list_no_key
  have hname : (["__module__", "__name__", "__qualname__", "__doc__", "__annotations__"] : List Str).contains (Str.ofString "keys") = false := by decide +kernel
  have hsz : (Str.ofString "keys").length + 100 ≤ sizeLine := by rw [sizeLine_eq]; decide +kernel
  unfold getAttr? getAttrBy? getAttrBy
  repeat (any_goals (first | assumption | exact hT _ | ((with_reducible show wpAny _ _ (call (Value.builtin "list.__getattribute__") _ _) _ _ _); refine call_meets F.slot_list_getattribute (hT _) am_entry_list_getattribute (F.args_list_getattribute_2 _ _) (meets_getattribute_miss_list a xs k sl _ _ hmiss hname hsz) ⟨hx, hA, fun h' tk' e hx' => ?_⟩) | wp_step))
  obtain ⟨t', u', he⟩ := hx'.there
  show wpAny _ _ (getattributeRaised _ _ _ _ _ _ _) _ _ _
  unfold getattributeRaised
  repeat (any_goals (first | assumption | wp_step))
  exact h _ _ hx'.of.keeps

/-- pairs of a key and True -/
inductive PairGet (prog : Program) (w : World) (Z h : Heap) (kl : List (List Int)) (i : Nat) (v : Value) : Prop
  | of (k : List Int) (a b : Addr) (z1 : kl[i]? = some k) (z2 : v = .ref b) (z3 : h.IsTuple b #[.ref a, .bool true]) (z4 : KeyAt prog w h k a) (z5 : KeyAt prog w Z k a) : PairGet prog w Z h kl i v
noncomputable def PairsAre (prog : Program) (w : World) (Z h : Heap) (vs : List Value) (kl : List (List Int)) : Prop :=
  vs.length = kl.length ∧ ∀ (i : Nat) (v : Value), vs[i]? = some v → PairGet prog w Z h kl i v
theorem PairsAre.mono {Z h h' : Heap} {vs : List Value} {kl : List (List Int)} (x : PairsAre prog w Z h vs kl) (hk : ∀ b o, h.get? b = some o → h'.get? b = some o) : PairsAre prog w Z h' vs kl :=
  ⟨x.1, fun i v e => by obtain ⟨k, a, b, p, q, ⟨o, ho, r⟩, t, z⟩ := x.2 i v e; exact ⟨k, a, b, p, q, ⟨o, hk _ _ ho, r⟩, t.mono hk, z⟩⟩

theorem KeyAt.but {h h' : Heap} {k : List Int} {a b : Addr} {o : Obj} (x : KeyAt prog w h k a) (e : h.get? b = some o) (hc : o.cls ≠ .type "tuple") (hk : ∀ c ob, c ≠ b → h.get? c = some ob → h'.get? c = some ob) : KeyAt prog w h' k a := by
  obtain ⟨oa, items, n, ha, hca, r⟩ := x
  refine ⟨oa, items, n, hk a oa (fun q => ?_) ha, hca, r⟩
  rw [q, e] at ha
  exact hc (Option.some.inj ha ▸ hca)
theorem tup_but {h h' : Heap} {a b : Addr} {o : Obj} {its : Array Value} (x : h.IsTuple a its) (e : h.get? b = some o) (hc : o.cls ≠ .type "tuple") (hk : ∀ c ob, c ≠ b → h.get? c = some ob → h'.get? c = some ob) : h'.IsTuple a its := by
  obtain ⟨oa, ha, hca, r⟩ := x
  refine ⟨oa, hk a oa (fun q => ?_) ha, hca, r⟩
  rw [q, e] at ha
  exact hc (Option.some.inj ha ▸ hca)
theorem PairsAre.but {Z h h' : Heap} {vs : List Value} {kl : List (List Int)} {b : Addr} {o : Obj} (x : PairsAre prog w Z h vs kl) (e : h.get? b = some o) (hc : o.cls ≠ .type "tuple") (hk : ∀ c ob, c ≠ b → h.get? c = some ob → h'.get? c = some ob) : PairsAre prog w Z h' vs kl :=
  ⟨x.1, fun i v ev => by obtain ⟨k, a, b, p, q, t, r, z⟩ := x.2 i v ev; exact ⟨k, a, b, p, q, tup_but t e hc hk, r.but e hc hk, z⟩⟩
noncomputable abbrev tk12 (prog : Program) (w : World) : HeapKind prog w (List Int) := tupleKind (intKind prog w)
theorem DictOfH.but {h h' : Heap} {d b : Addr} {o : Obj} {xs : List (List Int × Addr × Value)} (x : h.DictOfH (tk12 prog w) d xs) (e : h.get? b = some o) (hc : o.cls ≠ .type "tuple") (hdb : d ≠ b) (hk : ∀ c ob, c ≠ b → h.get? c = some ob → h'.get? c = some ob) :
    h'.DictOfH (tk12 prog w) d xs := by
  obtain ⟨od, es, ep, h1, h2, h3, h4, h5, h6⟩ := x
  exact ⟨od, es, ep, hk _ _ hdb h1, h2, h3, h4, fun y hy => KeyAt.but (h5 y hy) e hc hk, h6⟩
theorem DictOfH.keeps {h h' : Heap} {d : Addr} {xs : List (List Int × Addr × Value)} (x : h.DictOfH (tk12 prog w) d xs) (hk : h.StaysIn h') : h'.DictOfH (tk12 prog w) d xs := by
  obtain ⟨od, es, ep, h1, h2, h3, h4, h5, h6⟩ := x
  exact ⟨od, es, ep, hk _ _ h1, h2, h3, h4, fun y hy => KeyAt.mono (h5 y hy) hk, h6⟩
theorem DictOfH.typeIs' {d : Addr} {xs : List (List Int × Addr × Value)} (hm : s.heap.DictOfH (tk12 prog w) d xs) : s.TypeIs (.ref d) "dict" := Heap.DictOfH.typeIs hm
theorem keys_stored (xs : List (List Int × Addr × Value)) (k : List Int) (a : Addr) (v : Value) : ∀ k', k' ∈ (storedH xs k a v).map (·.1) ↔ k' ∈ xs.map (·.1) ∨ k' = k := fun k' => by
  unfold storedH
  split
  · rename_i h
    rw [keys_map_putAt]
    constructor
    · exact .inl
    · rintro (h' | rfl)
      · exact h'
      · obtain ⟨p, hp⟩ := Option.isSome_iff_exists.mp h
        unfold atKey at hp
        obtain ⟨x, hx, _⟩ := Option.map_eq_some_iff.mp hp
        have h1 := List.mem_of_find?_eq_some hx
        have h2 := List.find?_some hx
        exact List.mem_map.mpr ⟨x, h1, of_decide_eq_true h2⟩
  · simp
theorem at_iff (xs : List (List Int × Addr × Value)) (k : List Int) : (atKey xs k).isSome = decide (k ∈ xs.map (·.1)) := by
  unfold atKey
  rw [Option.isSome_map]
  by_cases h : k ∈ xs.map (·.1)
  · obtain ⟨x, hx, e⟩ := List.mem_map.mp h
    simp only [h, decide_true]
    exact List.find?_isSome.mpr ⟨x, hx, by simpa using e⟩
  · simp only [h, decide_false]
    cases q : (xs.find? (fun x : List Int × Addr × Value => decide (x.1 = k))) with
    | none => rfl
    | some x => exact absurd (List.mem_map.mpr ⟨x, List.mem_of_find?_eq_some q, of_decide_eq_true (p := x.1 = k) (List.find?_some (p := fun x : List Int × Addr × Value => decide (x.1 = k)) q)⟩) h

theorem dict_loop {Z : Heap} {d I ax : Addr} {vs : List Value} {kl : List (List Int)} (hh : A.handled = none) (hu : A.units + 2 < cLine) (hdI : d ≠ I) (hdx : d ≠ ax) (hne : ax ≠ I) (h9 : kl.length ≤ 20) :
    ∀ (m i : Nat) (s : Shared) (xs : List (List Int × Addr × Value)), vs.length - i = m → i ≤ vs.length → s.heap.IsListIter I ax i → s.heap.IsList ax vs.toArray → PairsAre prog w Z s.heap vs kl → s.heap.DictOfH (tk12 prog w) d xs → (∀ x ∈ xs, KeyAt prog w Z x.1 x.2.1) →
      xs.length ≤ i → (∀ k, k ∈ xs.map (·.1) ↔ k ∈ kl.take i) →
      (∀ h' tk xs', h'.DictOfH (tk12 prog w) d xs' → (∀ x ∈ xs', KeyAt prog w Z x.1 x.2.1) → (∀ k, k ∈ xs'.map (·.1) ↔ k ∈ kl) → (∀ b o, b ≠ d → b ≠ I → s.heap.get? b = some o → h'.get? b = some o) → R (.ok (.ret .none)) { s with heap := h', toks := tk }) →
      codeAny (model prog w) A (.builtin "dict.update.loop" ⟨[.ref d, .ref I, rawInt i, .none], []⟩) R s := by
  intro m
  have W := Walks.list (prog := prog) (w := w) (A := A.in1) (by exact hh) I ax hne vs.toArray
  have hsz : vs.toArray.size = vs.length := List.size_toArray ..
  rw [hsz] at W
  induction m with
  | zero =>
    intro i s xs hm hi hit hl hP hD hz hxl hmem hR
    obtain rfl : i = vs.length := Nat.le_antisymm hi (Nat.sub_eq_zero_iff_le.mp hm)
    refine codeAny_builtin entry_upd_loop ?_
    rw [Around.under_plainId plain_upd_loop _]
    unfold Builtin.«dict.update.loop»
    show wpAny _ A.in1 (pyNext (.ref I) >>= _) _ _ s
    refine wpAny_bind (W.done s _ _ ⟨hit, hl⟩ fun h' tk hk => ?_)
    have hk' : ∀ b o, b ≠ I → s.heap.get? b = some o → h'.get? b = some o := fun b o hb e => hk b o (by simpa using hb) e
    obtain ⟨oI, e1, cI, e2⟩ := hit
    show wpAny _ A.in1 (Builtin.Dict.addKeywords d [] >>= _) _ _ _
    refine wpAny_bind (wpAny_pure (wpAny_pure (hR h' tk xs (DictOfH.but hD e1 (by rw [cI]; decide) hdI hk') hz (fun k => ?_) fun b o _ hb e => hk' b o hb e)))
    rw [hmem k, hP.1, List.take_length]
  | succ m ih =>
    intro i s xs hm hi hit hl hP hD hz hxl hmem hR
    have hlt : i < vs.length := Nat.lt_of_sub_eq_succ hm
    refine codeAny_builtin entry_upd_loop ?_
    rw [Around.under_plainId plain_upd_loop _]
    unfold Builtin.«dict.update.loop»
    show wpAny _ A.in1 (pyNext (.ref I) >>= _) _ _ s
    refine wpAny_bind (W.item i s _ _ hlt ⟨hit, hl⟩ fun v h' tk hv hst' hk => ?_)
    have hk' : ∀ b o, b ≠ I → s.heap.get? b = some o → h'.get? b = some o := fun b o hb e => hk b o (by simpa using hb) e
    obtain ⟨oI, e1, cI, e2⟩ := id hit
    have nI : oI.cls ≠ .type "tuple" := by rw [cI]; decide
    have hP' := hP.but e1 nI hk'
    have hD' := DictOfH.but hD e1 nI hdI hk'
    obtain ⟨k, a, b, b1, rfl, ht, hka, hkz⟩ := hP'.2 i v (by simpa using hv)
    obtain ⟨ot, hot, hct, nt, hdt⟩ := id ht
    show wpAny _ A.in1 (holding [Value.ref b] _ >>= _) _ _ _
    refine wpAny_bind (wpAny_holding ?_)
    refine wpAny_bind (wpAny_tryCatch ?_)
    unfold Builtin.Dict.pairItems
    refine wpAny_bind (wpAny_typeOf (T := "tuple") (show (Shared.TypeIs { s with heap := h', toks := tk } (.ref b) "tuple") from ⟨_, hot, hct⟩) ?_)
    rw [if_pos (by decide)]
    refine wpAny_bind ?_
    refine wpAny_seqItems (s := { s with heap := h', toks := tk }) hot hdt (wpAny_pure ?_)
    show wpAny _ A.in1 (holding [Value.ref a, Value.bool true] (dictSet d (.ref a) (.bool true))) _ _ _
    refine wpAny_holding ?_
    refine wpAny_dictSet_heap (knd := tk12 prog w) (hsz := by have := hP.1; rw [sizeLine_eq]; omega) (show A.in1.units < cLine from by simp only [Around.in1_units]; omega) hka hD' fun h'' hD2 hsb => ?_
    obtain ⟨od, es, ep, hod, hcd, _⟩ := id hD'
    have nd : od.cls ≠ .type "tuple" := by rw [hcd.1]; decide
    have kp : ∀ b o, b ≠ d → h'.get? b = some o → h''.get? b = some o := fun b o hb e => (hsb.2 b hb).trans e
    refine wpAny_pure ⟨plainId_quiet plain_upd_loop _, ?_⟩
    refine ih (i + 1) _ (storedH xs k a (.bool true)) (congrArg Nat.pred hm) hlt ?_ ?_ (hP'.but hod nd kp) hD2 (fun x hx => ?_) ?_ (fun k' => ?_) fun h3 tk3 xs3 c1 cz c2 c3 => ?_
    · obtain ⟨oJ, f1, f2⟩ := hst'.1
      exact ⟨oJ, kp _ _ (Ne.symm hdI) f1, f2⟩
    · exact hst'.2.at fun o e => kp ax o (Ne.symm hdx) e
    · rcases mem_storedH hx with ⟨y, hy, e1, e2⟩ | ⟨e1, e2⟩
      · rw [e1, e2]; exact hz y hy
      · rw [e1, e2]; exact hkz
    · unfold storedH; split
      · rw [List.length_map]; omega
      · rw [List.length_append, List.length_singleton]; omega
    · rw [keys_stored, hmem k', List.take_add_one, b1]
      simp
    · exact hR h3 tk3 xs3 c1 cz c2 fun b o hbd hbI e => c3 b o hbd hbI (kp b o hbd (hk' b o hbI e))

theorem call_dict_pairs {Z : Heap} {l : Addr} {vs : List Value} {kl : List (List Int)} {c : Nat} {Q : Value → Shared → Prop} (hh : A.handled = none) (hu : A.units + 20 < cLine) (hl : s.heap.get? l = some (listOf vs.toArray c)) (hP : PairsAre prog w Z s.heap vs kl) (h9 : kl.length ≤ 20)
    (h : ∀ h' tk xs, h'.DictOfH (tk12 prog w) s.heap.objs.size xs → (∀ x ∈ xs, KeyAt prog w Z x.1 x.2.1) → (∀ k, k ∈ xs.map (·.1) ↔ k ∈ kl) → s.heap.StaysIn h' → Q (.ref s.heap.objs.size) { s with heap := h', toks := tk }) :
    wpAny (model prog w) A (call (.type "dict") [.ref l]) Q E s := by
  refine callType_codes (Q₁ := fun obj s₁ => obj = .ref s.heap.objs.size ∧ s₁ = { s with heap := s.heap.push { cls := .type "dict", data := .dict #[] } }) F.kt_called_dict (F.kt_typeCall_dict_1 _) F.entry_dict_init (kt_code_dict_new _ ⟨rfl, rfl⟩) ?_
  rintro obj s₁ ⟨rfl, rfl⟩
  have hnew : (s.heap.push { cls := .type "dict", data := .dict #[] }).DictOfH (tk12 prog w) s.heap.objs.size [] := Heap.DictOfH.new s.heap
  have hll := Heap.lt_size hl
  have hl' : (s.heap.push { cls := .type "dict", data := .dict #[] }).get? l = some (listOf vs.toArray c) := Heap.get?_push_of_some _ hl
  have hP' := hP.mono (h' := s.heap.push { cls := .type "dict", data := .dict #[] }) fun b o e => Heap.get?_push_of_some _ e
  have up0 : s.heap.StaysIn (s.heap.push { cls := .type "dict", data := .dict #[] }) := fun b o e => Heap.get?_push_of_some _ e
  have hsz1 : (s.heap.push { cls := .type "dict", data := .dict #[] }).objs.size = s.heap.objs.size + 1 := Heap.size_push ..
  refine ⟨DictOfH.typeIs' hnew, F.args_dict_init_2 _ _, ?_⟩
  unfold Builtin.«dict.__init__»
  refine wpAny_bind ?_
  unfold Builtin.Dict.selfAndRest
  refine wpAny_bind (wpAny_notOrdered_dict (DictOfH.typeIs' hnew) ?_)
  show wpAny _ _ (pure (s.heap.objs.size, [Value.ref l])) _ _ _
  refine wpAny_pure ?_
  show wpAny _ _ (Builtin.Dict.updateFrom "dict.__init__" s.heap.objs.size (.ref l) [] .none) _ _ _
  generalize hH : s.heap.push { cls := .type "dict", data := .dict #[] } = H at hnew hl' hP' up0 hsz1 ⊢
  generalize hdz : s.heap.objs.size = dz at hnew hsz1 hll h ⊢
  unfold Builtin.Dict.updateFrom
  refine wpAny_bind (wpAny_typeOf (T := "list") ⟨_, hl', rfl⟩ ?_)
  rw [if_pos (by decide)]
  refine wpAny_bind ?_
  refine list_no_keys (s := { s with heap := H }) hl' rfl rfl rfl hh fun h1 tk1 k1 => ?_
  simp only [Option.isNone_none, if_true]
  refine wpAny_bind (wpAny_rule ?_)
  refine wpAny_bind ?_
  have hl1 : h1.IsList l vs.toArray := ⟨_, k1 _ _ hl', rfl, _, rfl⟩
  refine wpAny_pyIter_list (s := { s with heap := h1, toks := tk1 }) hl1 ?_
  refine wpAny_pure ?_
  have lt1 : dz < h1.objs.size := by obtain ⟨od, _, _, hod, _⟩ := hnew; exact Heap.lt_size (k1 _ _ hod)
  have ll1 : l < h1.objs.size := Heap.lt_size (k1 _ _ hl')
  have up2 : ∀ o, h1.StaysIn (h1.push o) := fun o b ob e => Heap.get?_push_of_some _ e
  refine ⟨plainId_quiet plain_upd_loop _, ?_⟩
  have g1 := hl1.at (h' := h1.push { cls := .type "list_iterator", data := .fields #[.ref l, .int 0 0] }) fun o e => up2 _ _ _ e
  have g2 := hP'.mono (h' := h1.push { cls := .type "list_iterator", data := .fields #[.ref l, .int 0 0] }) fun b o e => up2 _ _ _ (k1 _ _ e)
  have g3 := DictOfH.keeps (DictOfH.keeps hnew k1) (up2 { cls := .type "list_iterator", data := .fields #[.ref l, .int 0 0] })
  have g4 : (h1.push { cls := .type "list_iterator", data := .fields #[.ref l, .int 0 0] }).IsListIter h1.objs.size l 0 := ⟨_, Heap.get?_push_size _ rfl, rfl, rfl⟩
  refine dict_loop (A := A.in1) (prog := prog) (w := w) (s := { s with heap := h1.push { cls := .type "list_iterator", data := .fields #[.ref l, .int 0 0] }, toks := tk1 }) (vs := vs) (kl := kl) (ax := l) (I := h1.objs.size) hh (show A.units + 1 + 2 < cLine by omega) (Nat.ne_of_lt lt1) (Nat.ne_of_gt hll) (Nat.ne_of_lt ll1) h9 vs.length 0 [] (by omega) (Nat.zero_le _) g4 g1 g2 g3 (fun x hx => nomatch hx) (Nat.le_refl _) (fun k => by simp) fun h' tk xs c1 cz c2 c3 => ?_
  refine ⟨rfl, h h' tk xs c1 cz c2 fun b o e => c3 b o (fun q => ?_) (fun q => ?_) (up2 _ _ _ (k1 _ _ (up0 _ _ e)))⟩
  · have := Heap.lt_size e; rw [q, hdz] at this; exact Nat.lt_irrefl _ this
  · have := Heap.lt_size (k1 _ _ (up0 _ _ e)); rw [q] at this; exact Nat.lt_irrefl _ this
end
end

section
open PySem PySem.W PySem.Calls PyProof.Rows PySem.Spec
local macro_rules | `(tactic| walk_at $s) => Mine.red [("eval ListComp", "m"), ("newTuple", "m")] s

theorem bigOf {p : Program} {loose : List Str} {mean : ExcName → Option Value} {mg mb : Str → Option Value} {G : Heap} (T : Top p loose mean mg mb G) : sysModules < G.objs.size := by
  obtain ⟨o, _, _, ho, _⟩ := T.g
  exact Nat.lt_trans (show sysModules < mainGlobals by decide) (Heap.lt_size ho)
set_option maxHeartbeats 4000000 in
theorem minus_call {w : World} {A : Around} {base G : Heap} {envs : List Env} {mean : ExcName → Option Value} {mg mb : Str → Option Value} {s : Shared} {Q E : Value → Shared → Prop}
    {a b : Addr} {P R : List (List Cel)}
    (H : At w A base envs mean mg mb G s) (hd : A.depth ≤ 460) (hu : A.units ≤ 600)
    (hP : RelAt G a ⟨true, P⟩) (hR : RelAt G b ⟨true, R⟩) (hp : P.length ≤ 20) (hr : R.length ≤ 20) (ip : ∀ r ∈ P, intRow r) (ir : ∀ r ∈ R, intRow r)
    (hret : ∀ D ys qs h' tk', G.StaysIn h' → h'.IsTuple D (List.toArray ys) → RowsAre G ys qs → (qs.isEmpty = true ↔ ∀ r ∈ P, r ∈ R) → Q (.ref D) { s with heap := h', toks := tk' }) :
    wpAny (model Challenge.pw_nu0267_01 w) A (call (.ref 60) [.ref a, .ref b]) Q E s := by
  revert hd hu
  refine At.lit (P := fun A => (A.depth ≤ _) → (A.units ≤ _) → wpAny _ A _ _ _ _) H fun dp gd un H hd hu => ?_
  dsimp only at hd hu
  refine wpAny_call ?_
  k_dflt (refine' enterC (binds := [(Str.ofString "s", .ref a), (Str.ofString "t", .ref b)]) (news := []) H ?hN ?ho ?hcd ?hroom ?hbind ?hkind ?hnd ?_ ?hco ?hgen ?hk)
  case hN => exact fun _ h => nomatch h
  case ho => k_is
  case hcd => k_is
  case hroom => k_room
  case hbind => exact BindsTo.of_eq rfl
  case hkind => exact rfl
  case hnd => decide +kernel
  case hco => exact rfl
  case hgen => exact rfl
  case hk => exact rfl
  intro L' h₁ tk cells env0 M0 F N Y B X T hs hL l1
  k_cells Y
  (try dsimp only [List.cons_append, List.nil_append] at N)
  (try dsimp only); (try ((show wpAny _ _ _ _ _ _); k_fold))
  obtain ⟨vs, hvs, hprows⟩ := hP
  obtain ⟨us, hus, hrrows⟩ := hR
  rw [if_pos rfl] at hvs hus
  have hvl : vs.length ≤ 20 := by rw [hprows.length]; exact hp
  have hul : us.length ≤ 20 := by rw [hrrows.length]; exact hr
  k_steps
  refine lc_overH (G := G) (fun i ys X => PairsAre Challenge.pw_nu0267_01 w G X ys ((R.take i).map rowInts)) (fun i ys X X' k x => x.mono k) (by rfl) (by decide) rfl (by decide) rfl rfl ?_
  k_steps
  refine ⟨b, us, _, _, .inl (tupKeeps hus (Fr.keep (by assumption))), by assumption, by assumption, by rw [sizeLine_eq]; omega, ⟨by simp, fun i v e => by simp at e⟩, ?turn, ?done⟩
  case turn =>
    intro C i v ys h2 tk2 m2 E2 X2 hv hyl sX X2h hJ hn2 hm2
    obtain ⟨r, hr', c, ws, rfl, hc, hcs⟩ := hrrows.get hv
    have F2 := frStays (by assumption) (fun x y e => X2h x y (sX x y e))
    have N2 := newsStays (by assumption) (fun x y e => X2h x y (sX x y e))
    refine wpAny_tests_nil (.yes h2 tk2 (fun _ _ e => e) ?_)
    k_steps
    refine wpAny_newObj_type ?_ (by show Array.size _ ≤ sizeLine; rw [sizeLine_eq]; exact Nat.le_of_ble_eq_true rfl)
    obtain ⟨c', he, hk⟩ := RowAt.key (prog := Challenge.pw_nu0267_01) (w := w) ⟨c, ws, rfl, hc, hcs⟩ (ir r (List.mem_of_getElem? hr'))
    obtain rfl : c = c' := Value.ref.inj he
    have hlen : i < R.length := (List.getElem?_eq_some_iff.mp hr').1
    have hyi : ys.length = i := by have := hJ.1; simp at this; omega
    refine ⟨_, _, fun x o e => Heap.get?_push_of_some _ e, fun X' s1 s2 => ⟨by simp; omega, fun j u hj => ?_⟩⟩
    by_cases hji : j < i
    · rw [List.getElem?_append_left (by omega)] at hj
      obtain ⟨k, a', b', p1, p2, p3, p4, p5⟩ := (hJ.mono s1).2 j u hj
      refine ⟨k, a', b', ?_, p2, p3, p4, p5⟩
      rw [List.getElem?_map, List.getElem?_take] at p1 ⊢
      rw [if_pos hji] at p1
      rw [if_pos (by omega)]; exact p1
    · obtain rfl : j = i := by
        have := (List.getElem?_eq_some_iff.mp hj).1
        rw [List.length_append, List.length_singleton] at this
        omega
      have hu : u = .ref h2.objs.size := by
        rw [List.getElem?_append_right (by omega), hyi, Nat.sub_self] at hj
        exact (Option.some.inj hj).symm
      refine ⟨rowInts r, c, h2.objs.size, by rw [List.getElem?_map, List.getElem?_take, if_pos (Nat.lt_succ_self _), hr']; rfl, hu, ⟨_, s2 _ _ (Nat.le_refl _) (Heap.get?_push_size _ rfl), rfl, _, rfl⟩, (hk.mono (Fr.keep F)).mono fun x o e => s1 x o (sX x o e), hk⟩
  case done =>
    intro D h3 tk3 ys k X3 F3 N3 lD hyl sX X3h hXD hJ hD
    (try dsimp only)
    k_steps
    rw [show R.take us.length = R by rw [hrrows.length]; exact List.take_length] at hJ
    refine call_dict_pairs (kl := R.map rowInts) rfl (by rw [units_deeper, cLine_is]; dsimp only; omega) (News.get N3 (.head _)) (hJ.mono X3h) (by rw [List.length_map]; exact hr) ?_
    intro h4 tk4 xs hdct hkey hmem k4
    have F4 := frStays F3 k4
    have N4 := newsStays N3 k4
    obtain ⟨od, es, ep, hod, hd1, hd2, hd3, hd4, hd5⟩ := hdct
    have N4' := newsAdd F3 N4 (Nat.le_refl _) hod
    have hdS : (h3.objs.size == sysModules) = false := Fr.notModules F3 (bigOf T)
    have ld : @LT.lt Nat _ D h3.objs.size := Heap.lt_size (News.get N3 (.head _))
    clear N4
    dsimp only at N4' F4 hod ld ⊢
    generalize h3.objs.size = d at N4' hod ld hdS ⊢
    have lD2 : @LT.lt Nat _ (L' + 1) D := lD _ (.head _)
    k_steps
    refine lc_over (G := G) (fun i ys => ∃ qs, RowsAre G ys qs ∧ (qs.isEmpty = true ↔ ∀ r ∈ P.take i, r ∈ R)) (by rfl) (by decide) rfl (by decide) rfl rfl ⟨[], .nil, by simp⟩ ?_
    k_steps
    refine lcGo (.inl (tupKeeps hvs (Fr.keep (by assumption)))) (by assumption) (by assumption) (by rw [sizeLine_eq]; omega) ?turn2 ?done2
    case turn2 =>
      intro C i2 v2 ys2 h5 tk5 m5 E5 hv2 hyl2 hJ2 st5 hn5 hm5
      obtain ⟨r, hr2, c, ws, rfl, hc, hcs⟩ := hprows.get hv2
      have F5 := frStays (by assumption) st5
      have N5 := newsStays (by assumption) st5
      refine lcTests_one ?_
      k_steps
      obtain ⟨c', he, hk⟩ := RowAt.key (prog := Challenge.pw_nu0267_01) (w := w) ⟨c, ws, rfl, hc, hcs⟩ (ip r (List.mem_of_getElem? hr2))
      obtain rfl : c = c' := Value.ref.inj he
      have hdict : h5.DictOfH (tk12 Challenge.pw_nu0267_01 w) d xs := ⟨od, es, ep, News.get N5 (.head _), hd1, hd2, hd3, fun x hx => (hkey x hx).mono F5.keep, hd5⟩
      refine wpAny_notIn_heap (knd := tk12 Challenge.pw_nu0267_01 w) (show _ < cLine by rw [Around.in1_units, units_deeper, cLine_is]; dsimp only; omega) (hk.mono F5.keep) hdS hdict ?_
      rw [at_iff]
      have hin : rowInts r ∈ xs.map (·.1) ↔ r ∈ R := by
        rw [hmem]
        constructor
        · intro h
          obtain ⟨q, hq, e⟩ := List.mem_map.mp h
          rw [← celsOf_ints (ip r (List.mem_of_getElem? hr2)), ← e, celsOf_ints (ir q hq)]; exact hq
        · exact fun h => List.mem_map_of_mem h
      have tsucc : P.take (i2 + 1) = P.take i2 ++ [r] := by rw [List.take_add_one, hr2]; rfl
      obtain ⟨qs, hqs, hqi⟩ := hJ2
      k_steps
      refine lcIf (fun _ _ e => e) (fun hno => ?_) fun hyes => ?_
      · k_steps
        refine lcElt (fun _ _ e => e) ⟨qs ++ [r], hqs.snoc ⟨c, ws, rfl, hc, hcs⟩, Iff.intro (fun h => by simp at h) fun h => ?_⟩
        have := hin.mpr (h r (by rw [tsucc]; simp))
        rw [decide_eq_true this] at hno
        cases hno
      · refine ⟨qs, hqs, ?_⟩
        rw [hqi, tsucc]
        have hrR : r ∈ R := hin.mp (by simpa using hyes)
        constructor
        · intro h q hq
          rcases List.mem_append.mp hq with hq | hq
          · exact h q hq
          · rw [List.mem_singleton.mp hq]; exact hrR
        · exact fun h q hq => h q (List.mem_append_left _ hq)
    case done2 =>
      intro D2 h5 tk5 ys2 k2 F5 N5 lD5 hyl2 hJ2 st5 hD5
      (try dsimp only)
      k_steps
      obtain ⟨qs, hqs, hqi⟩ := hJ2
      refine hret _ ys2 qs _ _ (Fr.keep (by assumption)) (News.isTup (by assumption) (.head _)) hqs ?_
      rw [hqi, hprows.length, List.take_length]
end

section
open PySem PySem.W PySem.Calls PyProof.Rows PySem.Spec
local macro_rules | `(tactic| walk_at $s) => Mine.red [("call ref", "g"), ("compareOp Eq", "m"), ("newTuple", "m")] s

theorem newTup_stays {M : Model} {A : Around} {E : Value → Shared → Prop} {s : Shared} {G : Heap} {L : Addr} {m : Str → Option Value} {news : List (Addr × Obj)} {vs : List Value} {Q : Value → Shared → Prop} (F : Fr G L s.heap m) (N : News G L s.heap news)
    (h : ∀ h', Fr G L h' m → News G L h' ((s.heap.objs.size, { cls := .type "tuple", data := .seq vs.toArray }) :: news) → s.heap.StaysIn h' → (∀ p ∈ news, p.1 < s.heap.objs.size) → Q (.ref s.heap.objs.size) { s with heap := h' }) (hsz : vs.length ≤ sizeLine) :
    wpAny M A (newTuple vs) Q E s := wpAny_newObj_type (h _ (F.push _) (N.push F _) (fun _ _ e => Heap.get?_push_of_some _ e) fun p hp => Heap.lt_size (N p hp).1) (by show vs.toArray.size ≤ sizeLine; rw [List.size_toArray]; exact hsz)
theorem RelAt.mk {h : Heap} {a : Addr} {vs : List Value} {rows : List (List Cel)} (t : h.IsTuple a vs.toArray) (r : RowsAre h vs rows) : RelAt h a ⟨true, rows⟩ := ⟨vs, by rw [if_pos rfl]; exact t, r⟩
theorem eqv_niltup (rows : List (List Cel)) : PyData.eqv (relD ⟨true, rows⟩) (.tuple []) = rows.isEmpty := by cases rows <;> simp [relD, PyData.eqv, PyData.eqvAll]

set_option maxHeartbeats 4000000 in
theorem within_call {w : World} {A : Around} {base G : Heap} {envs : List Env} {mean : ExcName → Option Value} {mg mb : Str → Option Value} {s : Shared} {Q E : Value → Shared → Prop}
    {a b : Addr} {P R : List (List Cel)}
    (H : At w A base envs mean mg mb G s) (hd : A.depth ≤ 455) (hu : A.units ≤ 550)
    (hP : RelAt G a ⟨true, P⟩) (hR : RelAt G b ⟨true, R⟩) (hp : P.length ≤ 20) (hr : R.length ≤ 20) (ip : ∀ r ∈ P, intRow r) (ir : ∀ r ∈ R, intRow r)
    (hret : ∀ c h' tk', (c = true ↔ ∀ r ∈ P, r ∈ R) → G.StaysIn h' → Q (.bool c) { s with heap := h', toks := tk' }) :
    wpAny (model Challenge.pw_nu0267_01 w) A (call (.ref 67) [.ref a, .ref b]) Q E s := by
  revert hd hu
  refine At.lit (P := fun A => (A.depth ≤ _) → (A.units ≤ _) → wpAny _ A _ _ _ _) H fun dp gd un H hd hu => ?_
  dsimp only at hd hu
  refine wpAny_call ?_
  k_dflt (refine' enter (binds := [(Str.ofString "s", .ref a), (Str.ofString "t", .ref b)]) (news := []) H ?hN ?ho ?hcd ?hroom ?hbind ?hloc ?_ ?hcell ?hco ?hgen ?hk)
  case hN => exact fun _ h => nomatch h
  case ho => k_is
  case hcd => k_is
  case hroom => k_room
  case hbind => exact BindsTo.of_eq rfl
  case hloc => exact locs rfl
  case hcell => decide
  case hco => exact rfl
  case hgen => exact rfl
  case hk => exact rfl
  intro L' h₁ env0 M0 F N B X T hs hL
  (try dsimp only); (try ((show wpAny _ _ _ _ _ _); k_fold))
  k_steps
  refine minus_call (pureAt B X T rfl F rfl rfl) (by rw [depth_deeper]; dsimp only; omega) (by rw [units_deeper]; dsimp only; omega) (hP.keeps F.keep) (hR.keeps F.keep) hp hr ip ir ?_
  intro D ys qs h2 tk2 k2 ht hrows hq
  have F2 := frStays F k2
  have N2 := newsStays N k2
  k_steps
  refine newTup_stays F2 N2 (fun h3 F3 N3 k3 _ => ?_) (by rw [sizeLine_eq]; exact Nat.le_of_ble_eq_true rfl)
  have kk := fun x o e => k3 x o (k2 x o e)
  obtain ⟨as, r1⟩ := reads_rel (RelAt.mk (tupKeeps ht k3) (hrows.keeps kk))
  have r2 : Reads h3 (.ref h2.objs.size) (.tuple []) [] := .tuple (News.get N3 (.head _)) rfl rfl .nil
  refine eq_dataH r1 r2 (shaped_rel _) (by decide +kernel) (by rw [units_deeper, cLine_is]; dsimp only; omega) ?_
  rw [eqv_niltup]
  k_steps
  exact hret _ _ _ hq F3.keep
end

open PySem PySem.W PySem.Calls PyProof.Rows PySem.Spec PyProof.V
local macro_rules | `(tactic| walk_at $s) => Mine.red [("call ref", "m"), ("eval ListComp", "m"), ("newTuple", "m"), ("formatField str", "fs"), ("exec Raise some none", "rz"), ("And", "and"), ("joinParts", "jp"), ("leaving ref", "lv"), ("Frag.In", "fi"), ("compareOp Eq", "g"), ("compareOp NotEq", "g"), ("setItem", "m"), ("call builtin:list.append", "m")] s
local macro_rules | `(tactic| walk_at $s) => Mine.red [("call ref", "f53")] s
set_option hygiene false in
local macro_rules | `(tactic| walk_at "compareOp In") => `(tactic| (k_here; (with_reducible show wpAny _ _ (compareOp CmpOp.In (Value.str _ _) (Value.ref _)) _ _ _); k_dflt (refine' in_tab same_str (strKind_is _ _ _ _) ?T ?_; (case T => exact TabAt.ofNews (by k_asm) (by k_mem) (by assumption) (by assumption) (by assumption)))))
set_option hygiene false in
local macro_rules | `(tactic| walk_at "compareOp NotIn") => `(tactic| (k_here; (with_reducible show wpAny _ _ (compareOp CmpOp.NotIn (Value.str _ _) (Value.ref _)) _ _ _); k_dflt (refine' notin_tab same_str (strKind_is _ _ _ _) ?T ?_; (case T => exact TabAt.ofNews (by k_asm) (by k_mem) (by assumption) (by assumption) (by assumption)))))
set_option hygiene false in
local macro_rules | `(tactic| walk_at "call builtin:len") => `(tactic| (k_here; (with_reducible show wpAny _ _ (call (Value.builtin "len") [Value.ref _]) _ _ _); k_dflt (refine' PyProof.Rows.len_list ?t ?f ?_; (case t => exact News.isList (by k_asm) (by k_mem)); (case f => (simp only [List.size_toArray]; omega)); k_whole)))
section
open PySem PySem.W PySem.Calls PyProof.Rows PySem.Spec PyProof.V
noncomputable def CalmObj (o : Obj) : Prop := o.cls ≠ .ref 53 ∧ ∀ ts, o.data = .fields ts → ts[3]? ≠ some .none
/-- a fault that a callee raised, whose ledger stands, told over the whole heap of the call -/
theorem Fly.unhide {h h' : Heap} {W : List Addr} {l : List Env} {e : Addr} (x : Fly (bare (hideAll h W) l) l e h') (hk : ∀ a ∈ W, ∀ o, h.get? a = some o → h'.get? a = some o ∧ CalmObj o) : Fly (bare h l) l e h' := by
  obtain ⟨a0, f1, f2, f3, oe, vs, T, oT, ts, a1, a2, a3, a4, a5, a6, a7, a8, a9⟩ := x
  have fresh : ∀ {c : Addr} {oc : Obj}, (bare (hideAll h W) l).get? c = none → h'.get? c = some oc → (oc.cls = .ref 53 ∨ ∃ ts, oc.data = .fields ts ∧ ts[3]? = some .none) → (bare h l).get? c = none := by
    intro c oc hn hc hcls
    cases q : (bare h l).get? c with
    | none => rfl
    | some o =>
      have hb := bare_of q
      by_cases hw : c ∈ W
      · obtain ⟨k1, k2, k3⟩ := hk c hw o hb
        rw [hc] at k1
        obtain rfl := Option.some.inj k1
        rcases hcls with h1 | ⟨ts, h1, h2⟩
        · exact absurd h1 k2
        · exact absurd h2 (k3 ts h1)
      · rw [bare_get (hideAll_get _ hb hw) (bare_not q)] at hn; cases hn
  refine ⟨a0, fun b o q => ?_, fresh f2 a1 (.inl a2.1), funFrames_bare f3, oe, vs, T, oT, ts, a1, a2, a3, a4, fresh a5 a7 (.inr ⟨ts, a8, a9⟩), a6, a7, a8, a9⟩
  by_cases hw : b ∈ W
  · exact (hk b hw o (bare_of q)).1
  · exact f1 b o (bare_get (hideAll_get _ (bare_of q) hw) (bare_not q))
theorem upSlots_unhide {h h' : Heap} {W : List Addr} (u : (hideAll h W).UpToSlots h') (hk : ∀ a ∈ W, ∀ o, h.get? a = some o → h'.get? a = some o) : h.UpToSlots h' := fun a o e hd => by
  by_cases hw : a ∈ W
  · exact ⟨o.slots, by rw [hk a hw o e]⟩
  · exact u a o (hideAll_get _ e hw) hd
section
variable {M : Model} {A : Around} {E : Value → Shared → Prop} {s' : Shared} {base G h : Heap} {envs : List Env} {L e : Addr} {m : Str → Option Value} {env : Env} {Q : Unit → Shared → Prop} {news : List (Addr × Obj)}
/-- a fault that a callee raised goes on through its caller -/
theorem pass_up (K : Below A base envs G) (F : Fr G L h m) (N : News G L h news) (hf : env.frame = some L) (R : Fly (bare h (env :: envs)) (env :: envs) e s'.heap) (u : h.UpToSlots s'.heap)
    (hQ : ∀ h', Fly (bare G envs) envs e h' → G.UpToSlots h' → LedgerKept h' news → Q () { s' with heap := h' }) : wpAny M (A.deeper env) (leaving env (.ref e)) Q E s' :=
  leave_on K.stack hf R fun h' f u' => by
    refine hQ h' (f.base (bare_stays K F hf)) (Heap.UpToSlots.trans (Heap.UpToSlots.trans (Heap.UpToSlots.of_keeps F.keep) u) u') fun p hp => f.stays _ _ (bare_get (N p hp).1 fun hm => ?_)
    rw [List.filterMap_cons_some hf] at hm
    rcases List.mem_cons.mp hm with hm | hm
    · exact (N p hp).2.1 hm
    · obtain ⟨env', he', hf'⟩ := List.mem_filterMap.mp hm
      obtain ⟨L₁, o₁, hf₁, ho₁⟩ := funFrames_in K.frames env' he'
      rw [hf₁] at hf'
      have := (N p hp).2.2
      rw [← (Option.some.inj hf' : L₁ = p.1), ho₁] at this; cases this
end
theorem calm_inst {C d : Addr} (h : C ≠ 53) : CalmObj (instObj C d) := ⟨fun e => h (Value.ref.inj e), fun ts e => by cases e <;> simp⟩
theorem calm_dict {es : List DictEntry} {n : Nat} : CalmObj (dictOf es n) := ⟨(fun e => nomatch e), (fun ts e => nomatch e)⟩
theorem calm_tup {vs : List Value} : CalmObj { cls := .type "tuple", data := .seq vs.toArray } := ⟨(fun e => nomatch e), (fun ts e => nomatch e)⟩

/-- want_set called by a method of Bounds -/
theorem want_use {w : World} {A : Around} {base G : Heap} {envs : List Env} {mean : ExcName → Option Value} {mg mb : Str → Option Value} {s : Shared} {env : Env} {L : Addr} {m : Str → Option Value} {news : List (Addr × Obj)} {Q E : Value → Shared → Prop}
    {B Bd bl nd U Ud T D a : Addr} {q1 q2 q3 q4 q5 : Int} {k1 k2 k3 k4 k5 : Tok} {x : Str} {u t : Tok} {ar : Int} {names : List Value} {R : Rel}
    (F : Fr G L s.heap m) (N : News G L s.heap news) (K : Below A base envs G) (X : (Mine.hd.heap_39 w.params).In G) (T' : Top Mine.hd.view_39 (looseW Mine.hd.view_39 []) mean mg mb G) (hh : A.handled = none) (hf : env.frame = some L) (hk : env.scope.kind = .function)
    (hs : ∀ p ∈ wantL B Bd bl nd U Ud T D q1 q2 q3 q4 q5 k1 k2 k3 k4 k5 names, p ∈ news) (hd : (A.deeper env).depth ≤ 450) (hu : (A.deeper env).units ≤ 500)
    (hR : RelAt G a R) (hsz : ∀ r ∈ R.rows, r.length ≤ 9) (hnr : R.rows.length ≤ 20) (hx : x.length ≤ 100) (hn : names.length ≤ 9) (har : 1 ≤ ar) (har2 : ar ≤ 9)
    (ok : wantOk names.length ar R → ∀ h' tk', s.heap.StaysIn h' → Q .none { s with heap := h', toks := tk' })
    (no : ¬ wantOk names.length ar R → ∀ e h' tk', Fly (bare s.heap (env :: envs)) (env :: envs) e h' → s.heap.UpToSlots h' → E (.ref e) { s with heap := h', toks := tk' }) :
    wpAny (model Challenge.pw_nu0267_01 w) (A.deeper env) (call (.ref 147) [.ref B, .str x u, .int ar t, .ref a]) Q E s := by
  obtain ⟨H, N1, U1⟩ := use_pure (wantL B Bd bl nd U Ud T D q1 q2 q3 q4 q5 k1 k2 k3 k4 k5 names) F N K X T' hh hf hk hs
  have hRl : RelAt (hideAll s.heap ((wantL B Bd bl nd U Ud T D q1 q2 q3 q4 q5 k1 k2 k3 k4 k5 names).map (·.1))) a R := hR.keeps fun b o e => hideAll_get _ (F.keep b o e) fun q => by
    obtain ⟨p, hp, rfl⟩ := List.mem_map.mp q
    rw [(N p (hs p hp)).2.2] at e; cases e
  refine want_set_call (names := names) (c := 0) H hd hu N1 hRl hsz hnr hx hn har har2 (fun hok h' tk' k1 k2 => ok hok h' tk' (U1 h' k1 k2)) fun hno e h' tk' fl us kp => ?_
  have key : ∀ b ∈ (wantL B Bd bl nd U Ud T D q1 q2 q3 q4 q5 k1 k2 k3 k4 k5 names).map (·.1), ∀ o, s.heap.get? b = some o → h'.get? b = some o ∧ CalmObj o := fun b hb o ho => by
    obtain ⟨p, hp, rfl⟩ := List.mem_map.mp hb
    have e1 := (N p (hs p hp)).1
    rw [ho] at e1
    obtain rfl := Option.some.inj e1
    refine ⟨kp p hp, ?_⟩
    simp only [wantL, List.mem_cons, List.not_mem_nil, or_false] at hp
    rcases hp with rfl | rfl | rfl | rfl | rfl
    · exact calm_inst (by decide)
    · exact calm_dict
    · exact calm_inst (by decide)
    · exact calm_dict
    · exact calm_tup
  exact no hno e h' tk' (fl.unhide key) (upSlots_unhide us fun b hb o ho => (key b hb o ho).1)
end

section
open PySem PySem.W PySem.Calls PyProof.Rows PySem.Spec PyProof.V
/-- what add takes -/
noncomputable def addOk (n : Int) (D : List (PyData × PyData)) (x : Str) (mv : Value) (RL RU : Rel) : Prop :=
  (lookup (.str x) D).isSome = false ∧ ∃ ar t, mv = .int ar t ∧ 1 ≤ ar ∧ wantOk n ar RL ∧ wantOk n ar RU ∧ ∀ r ∈ RL.rows, r ∈ RU.rows

set_option hygiene false in
local macro_rules | `(tactic| k_mem) => `(tactic| first | with_reducible assumption | exact List.Mem.head _ | (refine' List.Mem.tail _ ?_; k_mem))
set_option maxHeartbeats 4000000 in
theorem add_call {w : World} {A : Around} {base G : Heap} {envs : List Env} {mean : ExcName → Option Value} {mg mb : Str → Option Value} {s : Shared} {Q E : Value → Shared → Prop}
    {B Bd bl nd U Ud T D lo up : Addr} {q1 q2 q3 q4 q5 : Int} {k1 k2 k3 k4 k5 : Tok} {x : Str} {u : Tok} {mv : Value} {names items : List Value} {kb : Nat} {RL RU : Rel} {ond : Obj} {kvs : List (Str × Value)} {Dn : List (PyData × PyData)}
    (H : At w A base envs mean mg mb G s) (hd : A.depth ≤ 430) (hu : A.units ≤ 300)
    (hN : ∀ p ∈ (bl, listOf items.toArray kb) :: (nd, ond) :: wantL B Bd bl nd U Ud T D q1 q2 q3 q4 q5 k1 k2 k3 k4 k5 names, s.heap.get? p.1 = some p.2 ∧ G.get? p.1 = none)
    (hlo : (nd == sysModules) = false) (hdi : ond.IsDictOf (strKind Challenge.pw_nu0267_01 w) kvs) (hfl : FlatPairs PyData.str kvs Dn)
    (hRL : RelAt G lo RL) (hRU : RelAt G up RU) (hm : (∃ ar t, mv = .int ar t ∧ 0 ≤ ar ∧ ar ≤ 2) ∨ mv = .bool true)
    (hx : x.length ≤ 100) (hn : names.length ≤ 9) (hi : items.length ≤ 9)
    (hap : (nd ≠ bl) ∧ ∀ p ∈ wantL B Bd bl nd U Ud T D q1 q2 q3 q4 q5 k1 k2 k3 k4 k5 names, p.1 ≠ nd ∧ p.1 ≠ bl) (hDn : Dn.length ≤ 9)
    (hszl : ∀ r ∈ RL.rows, r.length ≤ 9) (hszu : ∀ r ∈ RU.rows, r.length ≤ 9) (hnl : RL.rows.length ≤ 20) (hnu : RU.rows.length ≤ 20)
    (hret : addOk names.length Dn x mv RL RU → ∀ t h' tk' ond' a4 kb' t1, G.StaysIn h' → G.get? a4 = none → s.heap.get? a4 = none → ond'.IsDictOf (strKind Challenge.pw_nu0267_01 w) (stored kvs x (.int items.length t1)) → FlatPairs PyData.str (stored kvs x (.int items.length t1)) (putD (.str x) (.int items.length) Dn) →
      (∀ p ∈ (a4, ({ cls := .type "tuple", data := .seq #[.str x u, mv, .ref lo, .ref up] } : Obj)) :: (bl, listOf (items ++ [Value.ref a4]).toArray kb') :: (nd, ond') :: wantL B Bd bl nd U Ud T D q1 q2 q3 q4 q5 k1 k2 k3 k4 k5 names, h'.get? p.1 = some p.2) → Q (.int items.length t) { s with heap := h', toks := tk' })
    (hraise : ¬ addOk names.length Dn x mv RL RU → ∀ e h' tk', Fly (bare G envs) envs e h' → G.UpToSlots h' → LedgerKept h' ((bl, listOf items.toArray kb) :: (nd, ond) :: wantL B Bd bl nd U Ud T D q1 q2 q3 q4 q5 k1 k2 k3 k4 k5 names) → E (.ref e) { s with heap := h', toks := tk' }) :
    wpAny (model Challenge.pw_nu0267_01 w) A (call (.ref 140) [.ref B, .str x u, mv, .ref lo, .ref up]) Q E s := by
  revert hd hu
  refine At.lit (P := fun A => (A.depth ≤ _) → (A.units ≤ _) → wpAny _ A _ _ _ _) H fun dp gd un H hd hu => ?_
  dsimp only at hd hu
  refine wpAny_call ?_
  k_dflt (refine' enter (binds := [(Str.ofString "self", .ref B), (Str.ofString "name", .str x u), (Str.ofString "arity", mv), (Str.ofString "lower", .ref lo), (Str.ofString "upper", .ref up)]) H hN ?ho ?hcd ?hroom ?hbind ?hloc ?_ ?hcell ?hco ?hgen ?hk)
  case ho => k_is
  case hcd => k_is
  case hroom => k_room
  case hbind => exact BindsTo.of_eq rfl
  case hloc => exact locs rfl
  case hcell => decide
  case hco => exact rfl
  case hgen => exact rfl
  case hk => exact rfl
  intro L' h₁ env0 M0 F N B₀ X T₀ hs hL
  let W : List (Addr × Obj) := wantL B Bd bl nd U Ud T D q1 q2 q3 q4 q5 k1 k2 k3 k4 k5 names
  replace N : News G L' h₁ ((bl, listOf items.toArray kb) :: (nd, ond) :: W) := N
  replace hap : nd ≠ bl ∧ ∀ p ∈ W, p.1 ≠ nd ∧ p.1 ≠ bl := hap
  have m1 : (B, instObj 192 Bd) ∈ W := .head _
  have m2 : (Bd, dictOf [⟨q1, .str "universe" k1, .ref U⟩, ⟨q2, .str "bounds" k2, .ref bl⟩, ⟨q3, .str "numbers" k3, .ref nd⟩] 3) ∈ W := .tail _ (.head _)
  (try dsimp only); (try ((show wpAny _ _ _ _ _ _); k_fold))
  have INt : ∀ {h h' : Heap} {m : Str → Option Value}, Fr G L' h m → h.StaysIn h' → (Mine.hd.heap_39 w.params).In h' := fun F k => Frag.In.keeps (Frag.In.keeps X (Fr.keep F)) k
  rcases hm with ⟨ar, t, rfl, ha0, ha2⟩ | rfl
  · k_steps
    · exact INt (by assumption) (by assumption)
    · refine hraise (fun h => ?_) _ _ _ (by assumption) (by assumption) (by assumption)
      have := h.1
      simp_all
    · exact INt (by assumption) (by assumption)
    · refine hraise (fun h => ?_) _ _ _ (by assumption) (by assumption) (by assumption)
      obtain ⟨_, ar', t', e, h1, _⟩ := h
      cases e
      omega
    · rename_i hlk tk9 har
      refine want_use (names := names) (by assumption) N B₀ X T₀ rfl rfl rfl (fun p hp => .tail _ (.tail _ hp)) (by rw [depth_deeper]; dsimp only; omega) (by rw [units_deeper]; dsimp only; omega) hRL hszl hnl hx hn (by omega) (by omega) ?ok1 ?no1
      case no1 =>
        intro hno e h2 tk2 fl us
        (try k_unfold)
        refine pass_up B₀ F N rfl fl us fun h3 f3 u3 l3 => ?_
        (try k_unfold)
        exact hraise (fun h => by obtain ⟨_, ar', t', e, _, h1, _⟩ := h; cases e; exact hno h1) _ _ _ f3 u3 l3
      case ok1 =>
        intro ok1 h2 tk2 k2
        have F2 := frStays F k2
        have N2 := newsStays N k2
        k_steps
        refine want_use (names := names) F2 N2 B₀ X T₀ rfl rfl rfl (fun p hp => .tail _ (.tail _ hp)) (by rw [depth_deeper]; dsimp only; omega) (by rw [units_deeper]; dsimp only; omega) hRU hszu hnu hx hn (by omega) (by omega) ?ok2 ?no2
        case no2 =>
          intro hno e h3 tk3 fl us
          (try k_unfold)
          refine pass_up B₀ F2 N2 rfl fl us fun h4 f4 u4 l4 => ?_
          (try k_unfold)
          exact hraise (fun h => by obtain ⟨_, ar', t', e, _, _, h1, _⟩ := h; cases e; exact hno h1) _ _ _ f4 u4 l4
        case ok2 =>
          intro ok2 h3 tk3 k3
          have F3 := frStays F2 k3
          have N3 := newsStays N2 k3
          k_steps
          obtain ⟨tl, rl⟩ := RL
          obtain ⟨tu, ru⟩ := RU
          obtain rfl : tl = true := ok1.1
          obtain rfl : tu = true := ok2.1
          refine within_call (pureAt B₀ X T₀ rfl F3 rfl rfl) (by rw [depth_deeper]; dsimp only; omega) (by rw [units_deeper]; dsimp only; omega) (hRL.keeps F3.keep) (hRU.keeps F3.keep) hnl hnu (fun r hr => (ok1.2.1 r hr).int) (fun r hr => (ok2.2.1 r hr).int) ?_
          intro c h4 tk4 hc k4
          have F4 := frStays F3 k4
          have N4 := newsStays N3 k4
          k_steps
          · rename_i hcc
            refine setItem_K (k := x) same_str (strKind_is _ _ _ _) (Flat.int _ _) F4 N4 (.tail (Ne.symm hap.1) (.head fun p hp => (hap.2 p hp).1)) hdi hfl (fun h5 o5 F5 N5 hd5 hf5 => ?_) (by rw [sizeLine_eq]; omega)
            (try dsimp only at N5)
            k_steps
            refine newTup_stays F5 N5 (fun h6 F6 N6 k6 l6 => ?_) (by rw [sizeLine_eq]; exact Nat.le_of_ble_eq_true rfl)
            k_steps
            have l7 : h5.objs.size ≠ bl := Nat.ne_of_gt (l6 _ (.head _))
            refine append_K F6 N6 (.tail l7 (.head fun p hp => ?_)) (fun h7 F7 N7 => ?_) (by rw [List.size_toArray, sizeLine_eq]; omega)
            · rcases List.mem_cons.mp hp with rfl | hp
              · exact hap.1
              · exact (hap.2 p hp).2
            have N8 := ledgerKept fun p hp => (N7 p hp).1
            have F8 := F7.keep
            have fr8 : G.get? h5.objs.size = none := News.fresh N7 (.head _)
            have fs8 : s.heap.get? h5.objs.size = none := by
              cases q : s.heap.get? h5.objs.size with
              | none => rfl
              | some o =>
                have h1 := Heap.lt_size q
                have h2 := F5.ns.lt
                exact absurd (Nat.lt_trans (hL ▸ h1 : h5.objs.size < L') h2) (Nat.lt_irrefl _)
            k_steps
            k_dflt (refine' PyProof.Rows.len_list (items := items.toArray.push (.ref h5.objs.size)) ⟨_, N8 _ (.tail _ (.head _)), rfl, _, rfl⟩ (by simp; omega) ?_)
            k_steps
            have e8 : ((items.toArray.push (Value.ref h5.objs.size)).size : Int) - 1 = items.length := by simp
            rw [e8]
            refine hret ⟨by simp_all, ar, t, rfl, by omega, ok1, ok2, hc.mp (by simpa using hcc)⟩ _ _ _ o5 h5.objs.size (kb + 1) _ F8 fr8 fs8 hd5 hf5 fun p hp => N8 p ?_
            rw [List.push_toArray]
            exact hp
          · exact INt (by assumption) (by assumption)
          · refine hraise (fun h => ?_) _ _ _ (by assumption) (by assumption) (by assumption)
            obtain ⟨_, _, _, _, _, _, _, h1⟩ := h
            have := hc.mpr h1
            simp_all
  · k_steps
    · exact INt (by assumption) (by assumption)
    · exact hraise (fun h => by obtain ⟨_, ar', t', e, _⟩ := h; cases e) _ _ _ (by assumption) (by assumption) (by assumption)
    · exact INt (by assumption) (by assumption)
    · exact hraise (fun h => by obtain ⟨_, ar', t', e, _⟩ := h; cases e) _ _ _ (by assumption) (by assumption) (by assumption)
end

section
open PySem PySem.W PySem.Calls PyProof.Rows PySem.Spec PyProof.V
/-- the addresses, keys and hashes of a Bounds and its universe -/
structure Bnd where
  (B Bd bl nd U Ud T D : Addr) (q1 q2 q3 q4 q5 : Int) (k1 k2 k3 k4 k5 : Tok) (names : List Value)
noncomputable abbrev Bnd.fix (b : Bnd) : List (Addr × Obj) := wantL b.B b.Bd b.bl b.nd b.U b.Ud b.T b.D b.q1 b.q2 b.q3 b.q4 b.q5 b.k1 b.k2 b.k3 b.k4 b.k5 b.names
/-- what a Bounds holds -/
structure Held where
  (items : List Value) (kb : Nat) (ond : Obj) (kvs : List (Str × Value)) (Dn : List (PyData × PyData))
noncomputable abbrev Bnd.led (b : Bnd) (d : Held) : List (Addr × Obj) := (b.bl, listOf d.items.toArray d.kb) :: (b.nd, d.ond) :: b.fix
structure Held.Ok (b : Bnd) (d : Held) (w : World) : Prop where
  lo : (b.nd == sysModules) = false
  di : d.ond.IsDictOf (strKind Challenge.pw_nu0267_01 w) d.kvs
  fl : FlatPairs PyData.str d.kvs d.Dn
  ap : (b.nd ≠ b.bl) ∧ ∀ p ∈ b.fix, p.1 ≠ b.nd ∧ p.1 ≠ b.bl
  dn : d.Dn.length ≤ 9
  it : d.items.length ≤ 9
  nm : b.names.length ≤ 9
noncomputable def Small (R : Rel) : Prop := (∀ r ∈ R.rows, r.length ≤ 9) ∧ R.rows.length ≤ 20
noncomputable abbrev tldObj (x : Str) (u : Tok) (mv : Value) (lo up : Addr) : Obj := { cls := .type "tuple", data := .seq #[.str x u, mv, .ref lo, .ref up] }
/-- what a call that adds a relation comes to -/
noncomputable def AddSpec (w : World) (dm um : Nat) (f : Addr) (args : List Value) (b : Bnd) (x : Str) (u : Tok) (mv : Value) (lo up : Addr) : Prop :=
  ∀ {A : Around} {base G : Heap} {envs : List Env} {mean : ExcName → Option Value} {mg mb : Str → Option Value} {s : Shared} {Q E : Value → Shared → Prop} {d : Held} {RL RU : Rel},
    At w A base envs mean mg mb G s → A.depth ≤ dm → A.units ≤ um → (∀ p ∈ b.led d, s.heap.get? p.1 = some p.2 ∧ G.get? p.1 = none) → d.Ok b w →
    RelAt G lo RL → RelAt G up RU → Small RL → Small RU → ((∃ ar t, mv = .int ar t ∧ 0 ≤ ar ∧ ar ≤ 2) ∨ mv = .bool true) → x.length ≤ 100 →
    (addOk b.names.length d.Dn x mv RL RU → ∀ t h' tk' (d' : Held) a4 t1, G.StaysIn h' → s.heap.get? a4 = none → d'.items = d.items ++ [.ref a4] → d'.ond.IsDictOf (strKind Challenge.pw_nu0267_01 w) d'.kvs → FlatPairs PyData.str d'.kvs d'.Dn →
      d'.kvs = stored d.kvs x (.int d.items.length t1) → d'.Dn = putD (.str x) (.int d.items.length) d.Dn → h'.get? a4 = some (tldObj x u mv lo up) → (∀ p ∈ b.led d', h'.get? p.1 = some p.2) → Q (.int d.items.length t) { s with heap := h', toks := tk' }) →
    (¬ addOk b.names.length d.Dn x mv RL RU → ∀ e h' tk', Fly (bare G envs) envs e h' → G.UpToSlots h' → LedgerKept h' (b.led d) → E (.ref e) { s with heap := h', toks := tk' }) →
    wpAny (model Challenge.pw_nu0267_01 w) A (call (.ref f) args) Q E s
theorem add_spec {w : World} {b : Bnd} {x : Str} {u : Tok} {mv : Value} {lo up : Addr} : AddSpec w 430 300 140 [.ref b.B, .str x u, mv, .ref lo, .ref up] b x u mv lo up := by
  intro A base G envs mean mg mb s Q E d RL RU H hd hu hN hok hRL hRU sL sU hm hx ok no
  refine add_call (names := b.names) H hd hu hN hok.lo hok.di hok.fl hRL hRU hm hx hok.nm hok.it hok.ap hok.dn sL.1 sU.1 sL.2 sU.2 (fun h t h' tk' ond' a4 kb' t1 k1 _ k3 k4 k5 k6 => ?_) no
  exact ok h t h' tk' ⟨d.items ++ [.ref a4], kb', ond', _, _⟩ a4 t1 k1 k3 rfl k4 k5 rfl rfl (k6 _ (.head _)) fun p hp => k6 p (.tail _ hp)

/-- such a call from a frame whose ledger ends in the Bounds' -/
theorem add_use {w : World} {dm um : Nat} {f : Addr} {args : List Value} {b : Bnd} {x : Str} {u : Tok} {mv : Value} {lo up : Addr} (S : AddSpec w dm um f args b x u mv lo up)
    {A : Around} {base G : Heap} {envs : List Env} {mean : ExcName → Option Value} {mg mb : Str → Option Value} {s : Shared} {env : Env} {L : Addr} {m : Str → Option Value} {news : List (Addr × Obj)} {Q E : Value → Shared → Prop} {d : Held} {RL RU : Rel}
    (F : Fr G L s.heap m) (N : News G L s.heap news) (K : Below A base envs G) (X : (Mine.hd.heap_39 w.params).In G) (T' : Top Mine.hd.view_39 (looseW Mine.hd.view_39 []) mean mg mb G) (hh : A.handled = none) (hf : env.frame = some L) (hk : env.scope.kind = .function)
    (hs : ∀ p ∈ b.led d, p ∈ news) (hd : (A.deeper env).depth ≤ dm) (hu : (A.deeper env).units ≤ um) (hok : d.Ok b w) (Z : Heap) (hZ : Z.StaysIn s.heap) (hZd : ∀ p ∈ b.led d, Z.get? p.1 = none)
    (hRL : RelAt Z lo RL) (hRU : RelAt Z up RU) (sL : Small RL) (sU : Small RU) (hm : (∃ ar t, mv = .int ar t ∧ 0 ≤ ar ∧ ar ≤ 2) ∨ mv = .bool true) (hx : x.length ≤ 100)
    (ok : addOk b.names.length d.Dn x mv RL RU → ∀ t h' tk' (d' : Held) a4 t1, Fr G L h' m → s.heap.get? a4 = none → d'.items = d.items ++ [.ref a4] → d'.ond.IsDictOf (strKind Challenge.pw_nu0267_01 w) d'.kvs → FlatPairs PyData.str d'.kvs d'.Dn →
      d'.kvs = stored d.kvs x (.int d.items.length t1) → d'.Dn = putD (.str x) (.int d.items.length) d.Dn → h'.get? a4 = some (tldObj x u mv lo up) → (∀ p ∈ b.led d', h'.get? p.1 = some p.2) → (∀ c o, c ∉ (b.led d).map (·.1) → s.heap.get? c = some o → h'.get? c = some o) → Q (.int d.items.length t) { s with heap := h', toks := tk' })
    (no : ¬ addOk b.names.length d.Dn x mv RL RU → ∀ e h' tk', Fly (bare s.heap (env :: envs)) (env :: envs) e h' → s.heap.UpToSlots h' → E (.ref e) { s with heap := h', toks := tk' }) :
    wpAny (model Challenge.pw_nu0267_01 w) (A.deeper env) (call (.ref f) args) Q E s := by
  have hW : ∀ a ∈ (b.led d).map (·.1), G.get? a = none ∧ a ≠ L := fun a ha => by
    obtain ⟨p, hp, rfl⟩ := List.mem_map.mp ha
    exact ⟨(N p (hs p hp)).2.2, (N p (hs p hp)).2.1⟩
  have zUp : Z.StaysIn (hideAll s.heap ((b.led d).map (·.1))) := fun c o e => hideAll_get _ (hZ c o e) fun q => by
    obtain ⟨p, hp, rfl⟩ := List.mem_map.mp q
    rw [hZd p hp] at e; cases e
  refine S (callee_at _ K X T' hh F hf hk hW) hd hu (fun p hp => ⟨(N p (hs p hp)).1, hideAll_none _ (List.mem_map_of_mem hp)⟩) hok (hRL.keeps zUp) (hRU.keeps zUp) sL sU hm hx
    (fun h t h' tk' d' a4 t1 k1 k2 k3 k4 k5 k6 k7 k8 k9 => ok h t h' tk' d' a4 t1 (frBehind F hW k1) k2 k3 k4 k5 k6 k7 k8 k9 fun c o hc e => k1 c o (hideAll_get _ e hc)) fun hno e h' tk' fl us kp => ?_
  have key : ∀ c ∈ (b.led d).map (·.1), ∀ o, s.heap.get? c = some o → h'.get? c = some o ∧ CalmObj o := fun c hc o ho => by
    obtain ⟨p, hp, rfl⟩ := List.mem_map.mp hc
    have e1 := (N p (hs p hp)).1
    rw [ho] at e1
    obtain rfl := Option.some.inj e1
    refine ⟨kp p hp, ?_⟩
    simp only [Bnd.led, Bnd.fix, wantL, List.mem_cons, List.not_mem_nil, or_false] at hp
    rcases hp with rfl | rfl | rfl | rfl | rfl | rfl | rfl
    · exact ⟨(fun e => nomatch e), (fun ts e => nomatch e)⟩
    · obtain ⟨es, ep, hx1, hd1, _⟩ := hok.di
      exact ⟨(fun e => by rw [hx1.1] at e; cases e), (fun ts e => by rw [hd1] at e; cases e)⟩
    · exact calm_inst (by decide)
    · exact calm_dict
    · exact calm_inst (by decide)
    · exact calm_dict
    · exact calm_tup
  exact no hno e h' tk' (fl.unhide key) (upSlots_unhide us fun c hc o ho => (key c hc o ho).1)

set_option maxHeartbeats 4000000 in
theorem exact_spec {w : World} {b : Bnd} {x : Str} {u : Tok} {mv : Value} {up : Addr} : AddSpec w 427 280 154 [.ref b.B, .str x u, mv, .ref up] b x u mv up up := by
  intro A base G envs mean mg mb s Q E d RL RU H hd hu hN hok hRL hRU sL sU hm hx ok no
  revert hd hu
  refine At.lit (P := fun A => (A.depth ≤ _) → (A.units ≤ _) → wpAny _ A _ _ _ _) H fun dp gd un H hd hu => ?_
  dsimp only at hd hu
  refine wpAny_call ?_
  k_dflt (refine' enter (binds := [(Str.ofString "self", .ref b.B), (Str.ofString "name", .str x u), (Str.ofString "arity", mv), (Str.ofString "some", .ref up)]) H hN ?ho ?hcd ?hroom ?hbind ?hloc ?_ ?hcell ?hco ?hgen ?hk)
  case ho => k_is
  case hcd => k_is
  case hroom => k_room
  case hbind => exact BindsTo.of_eq rfl
  case hloc => exact locs rfl
  case hcell => decide
  case hco => exact rfl
  case hgen => exact rfl
  case hk => exact rfl
  intro L' h₁ env0 M0 F N B X T hs hL
  (try dsimp only); (try ((show wpAny _ _ _ _ _ _); k_fold))
  k_steps
  have zd : ∀ p ∈ b.led d, G.get? p.1 = none := fun p hp => (hN p hp).2
  refine add_use add_spec F N B X T rfl rfl rfl (fun p hp => hp) (by rw [depth_deeper]; dsimp only; omega) (by rw [units_deeper]; dsimp only; omega) hok G F.keep zd hRL hRU sL sU hm hx ?ok1 ?no1
  case ok1 =>
    intro h t h2 tk2 d' a4 t1 F2 fr4 k3 k4 k5 k6 k7 k8 k9 _
    k_steps
    refine ok h t _ _ d' a4 t1 F2.keep ?_ k3 k4 k5 k6 k7 k8 k9
    cases q : s.heap.get? a4 with
    | none => rfl
    | some o => rw [hs _ _ q] at fr4; cases fr4
  case no1 =>
    intro hno e h2 tk2 fl us
    (try k_unfold)
    refine pass_up B F N rfl fl us fun h4 f4 u4 l4 => ?_
    (try k_unfold)
    exact no hno _ _ _ f4 u4 l4
end

section
open PySem PySem.W PySem.Calls PyProof.Rows PySem.Spec PyProof.V
theorem frLow {g G h : Heap} {L : Addr} {m : Str → Option Value} (F : Fr G L h m) (k : g.StaysIn G) (s : g.objs.size ≤ G.objs.size) : Fr g L h m := ⟨F.ns, fun b o e => F.keep b o (k b o e), Nat.le_trans s F.above⟩
theorem bare_up {G : Heap} {l : List Env} : (bare G l).StaysIn G := fun _ _ e => bare_of e
theorem base_bare {base G : Heap} {envs : List Env} {A : Around} (B : Below A base envs G) : base.StaysIn (bare G envs) := fun b o e => bare_get (B.stays b o e) fun hm => by
  obtain ⟨env', he', hf'⟩ := List.mem_filterMap.mp hm
  have : ∀ {l : List Env}, G.FunFrames base l → ∀ env ∈ l, ∀ L, env.frame = some L → base.get? L = none := by
    intro l
    induction l with
    | nil => intro _ env hm; cases hm
    | cons env r ih =>
      rintro ⟨_, ⟨L, o, hf, hn, _, _⟩, hr⟩ env' hm L' hL'
      rcases List.mem_cons.mp hm with rfl | hm
      · rw [hf] at hL'; exact (Option.some.inj hL') ▸ hn
      · exact ih hr env' hm L' hL'
  rw [this B.frames env' he' b hf'] at e; cases e
/-- a fault that a callee raised is caught here -/
theorem catch_here {w : World} {A₀ : Around} {E : Value → Shared → Prop} {s' : Shared} {base G h : Heap} {envs : List Env} {L a e : Addr} {m : Str → Option Value} {name : Str} {scope : Scope} {cd : Value}
    {b₀ : Stmt} {suite : List Stmt} {pos np : Pos} {rest : List ExceptHandler} {Q : Flow → Shared → Prop} {news : List (Addr × Obj)} {mean : ExcName → Option Value} {mg mb : Str → Option Value}
    (K : Below A₀ base envs G) (XB : (Mine.hd.heap_39 w.params).In base) (TB : Top Mine.hd.view_39 (looseW Mine.hd.view_39 []) mean mg mb base) (F : Fr G L h m) (N : News G L h news)
    (R : Fly (bare h (envOf name scope L a cd :: envs)) (envOf name scope L a cd :: envs) e s'.heap) (u : h.UpToSlots s'.heap)
    (k : ∀ h', Fr (bare G envs) L h' m → News (bare G envs) L h' news → G.UpToSlots h' → (Mine.hd.heap_39 w.params).In (bare G envs) → Top Mine.hd.view_39 (looseW Mine.hd.view_39 []) mean mg mb (bare G envs) →
      wpAny (model Challenge.pw_nu0267_01 w) ((A₀.deeper (envOf name scope L a cd)).mark (some (.ref e))) (execs (b₀ :: suite) (envOf name scope L a cd)) Q E { s' with heap := h' })
    (hk : scope.kind = .function := by rfl) (hx : (envOf name scope L a cd).kindOf "BoundFault" = some .globalImplicit := by rfl)
    (hE : PassesOwnAt (model Challenge.pw_nu0267_01 w) ((A₀.deeper (envOf name scope L a cd)).mark (some (.ref e))) (A₀.deeper (envOf name scope L a cd)) (envOf name scope L a cd) E) :
    wpAny (model Challenge.pw_nu0267_01 w) (A₀.deeper (envOf name scope L a cd)) (noteFrame (.ref e) (envOf name scope L a cd))
      (fun _ s₂ => wpAny (model Challenge.pw_nu0267_01 w) (A₀.deeper (envOf name scope L a cd)) (setFlight (.ref e) none) (fun _ s₃ =>
        wpAny (model Challenge.pw_nu0267_01 w) (A₀.deeper (envOf name scope L a cd)) (handleBy (.ref e) (envOf name scope L a cd) (.ExceptHandler (some (.Name "BoundFault" np)) none (b₀ :: suite) pos :: rest)) Q E s₃) E s₂) E s' := by
  have st := bare_stays (env := envOf name scope L a cd) K F rfl
  have X := XB.keeps (base_bare K)
  have T := TB.keeps (base_bare K)
  refine caught_fault (g := bare G envs) (m := m) (news := news) K.stack (frLow F bare_up (Nat.le_of_eq (hideAll_size _ _))) u R st (fun p hp => ⟨bare_get (N p hp).1 fun hm => ?_, ?_⟩) X T (fun h' F' N' _ u' => k h' F' N' (Heap.UpToSlots.trans (Heap.UpToSlots.trans (Heap.UpToSlots.of_keeps F.keep) u) u') X T) hk hx hE
  · rw [List.filterMap_cons_some (show (envOf name scope L a cd).frame = some L from rfl)] at hm
    rcases List.mem_cons.mp hm with hm | hm
    · exact (N p hp).2.1 hm
    · obtain ⟨env', he', hf'⟩ := List.mem_filterMap.mp hm
      obtain ⟨L₁, o₁, hf₁, ho₁⟩ := funFrames_in K.frames env' he'
      rw [hf₁] at hf'
      have := (N p hp).2.2
      rw [← (Option.some.inj hf' : L₁ = p.1), ho₁] at this; cases this
  · cases q : (bare G envs).get? p.1 with
    | none => rfl
    | some o => have := (N p hp).2.2; rw [bare_of q] at this; cases this

set_option maxHeartbeats 4000000 in
theorem taken_call {w : World} {b : Bnd} {x : Str} {u : Tok} {mv : Value} {lo up : Addr} {ex : Bool}
    {A : Around} {base G : Heap} {envs : List Env} {mean : ExcName → Option Value} {mg mb : Str → Option Value} {s : Shared} {Q E : Value → Shared → Prop} {d : Held} {RL RU : Rel}
    (H : At w A base envs mean mg mb G s) (XB : (Mine.hd.heap_39 w.params).In base) (TB : Top Mine.hd.view_39 (looseW Mine.hd.view_39 []) mean mg mb base) (hd : A.depth ≤ 420) (hu : A.units ≤ 260) (hN : ∀ p ∈ b.led d, s.heap.get? p.1 = some p.2 ∧ G.get? p.1 = none) (hok : d.Ok b w)
    (hRL : RelAt G lo RL) (hRU : RelAt G up RU) (sL : Small RL) (sU : Small RU) (hm : (∃ ar t, mv = .int ar t ∧ 0 ≤ ar ∧ ar ≤ 2) ∨ mv = .bool true) (hx : x.length ≤ 100) (hex : ex = true → lo = up ∧ RL = RU)
    (ok : addOk b.names.length d.Dn x mv RL RU → ∀ t h' tk' (d' : Held) a4 t1, G.StaysIn h' → s.heap.get? a4 = none → d'.items = d.items ++ [.ref a4] → d'.ond.IsDictOf (strKind Challenge.pw_nu0267_01 w) d'.kvs → FlatPairs PyData.str d'.kvs d'.Dn →
      d'.kvs = stored d.kvs x (.int d.items.length t1) → d'.Dn = putD (.str x) (.int d.items.length) d.Dn → h'.get? a4 = some (tldObj x u mv lo up) → (∀ p ∈ b.led d', h'.get? p.1 = some p.2) → Q (.int d.items.length t) { s with heap := h', toks := tk' })
    (no : ¬ addOk b.names.length d.Dn x mv RL RU → ∀ t h' tk', (bare G envs).StaysIn h' → G.UpToSlots h' → (∀ p ∈ b.led d, h'.get? p.1 = some p.2) → Q (.int (-1) t) { s with heap := h', toks := tk' }) :
    wpAny (model Challenge.pw_nu0267_01 w) A (call (.ref 227) [.ref b.B, .str x u, mv, .ref lo, .ref up, .bool ex]) Q E s := by
  revert hd hu
  refine At.lit (P := fun A => (A.depth ≤ _) → (A.units ≤ _) → wpAny _ A _ _ _ _) H fun dp gd un H hd hu => ?_
  dsimp only at hd hu
  refine wpAny_call ?_
  k_dflt (refine' enter (binds := [(Str.ofString "bounds", .ref b.B), (Str.ofString "name", .str x u), (Str.ofString "arity", mv), (Str.ofString "lower", .ref lo), (Str.ofString "upper", .ref up), (Str.ofString "is_exact", .bool ex)]) H hN ?ho ?hcd ?hroom ?hbind ?hloc ?_ ?hcell ?hco ?hgen ?hk)
  case ho => k_is
  case hcd => k_is
  case hroom => k_room
  case hbind => exact BindsTo.of_eq rfl
  case hloc => exact locs rfl
  case hcell => decide
  case hco => exact rfl
  case hgen => exact rfl
  case hk => exact rfl
  intro L' h₁ env0 M0 F N B X T hs hL
  (try dsimp only); (try ((show wpAny _ _ _ _ _ _); k_fold))
  have zd : ∀ p ∈ b.led d, G.get? p.1 = none := fun p hp => (hN p hp).2
  cases ex with
  | true =>
    obtain ⟨rfl, rfl⟩ := hex rfl
    k_steps
    refine add_use exact_spec F N B X T rfl rfl rfl (fun p hp => hp) (by rw [depth_deeper]; dsimp only; omega) (by rw [units_deeper]; dsimp only; omega) hok G F.keep zd hRL hRU sL sU hm hx ?ok1 ?no1
    case ok1 =>
      intro h t h2 tk2 d' a4 t1 F2 fr4 k3 k4 k5 k6 k7 k8 k9 _
      k_steps
      refine ok h t _ _ d' a4 t1 F2.keep ?_ k3 k4 k5 k6 k7 k8 k9
      cases q : s.heap.get? a4 with
      | none => rfl
      | some o => rw [hs _ _ q] at fr4; cases fr4
    case no1 =>
      intro hno e h2 tk2 fl us
      refine catch_here B XB TB F N fl us (fun h3 F3 N3 u3 X3 T3 => ?_) rfl rfl ?pass
      case pass => with_unfolding_all passes_own
      clear F N B X T
      k_steps
      exact no hno _ _ _ F3.keep u3 fun p hp => (N3 p hp).1
  | false =>
    k_steps
    refine add_use add_spec F N B X T rfl rfl rfl (fun p hp => hp) (by rw [depth_deeper]; dsimp only; omega) (by rw [units_deeper]; dsimp only; omega) hok G F.keep zd hRL hRU sL sU hm hx ?ok2 ?no2
    case ok2 =>
      intro h t h2 tk2 d' a4 t1 F2 fr4 k3 k4 k5 k6 k7 k8 k9 _
      k_steps
      refine ok h t _ _ d' a4 t1 F2.keep ?_ k3 k4 k5 k6 k7 k8 k9
      cases q : s.heap.get? a4 with
      | none => rfl
      | some o => rw [hs _ _ q] at fr4; cases fr4
    case no2 =>
      intro hno e h2 tk2 fl us
      refine catch_here B XB TB F N fl us (fun h3 F3 N3 u3 X3 T3 => ?_) rfl rfl ?pass2
      case pass2 => with_unfolding_all passes_own
      clear F N B X T
      k_steps
      exact no hno _ _ _ F3.keep u3 fun p hp => (N3 p hp).1
end

section
open PySem PySem.W PySem.Calls PyProof.Rows PySem.Spec PyProof.V
theorem led_calm {w : World} {b : Bnd} {d : Held} {G h h' : Heap} {L : Addr} {news : List (Addr × Obj)} (N : News G L h news) (hok : d.Ok b w) (hs : ∀ p ∈ b.led d, p ∈ news) (kp : LedgerKept h' (b.led d)) :
    ∀ c ∈ (b.led d).map (·.1), ∀ o, h.get? c = some o → h'.get? c = some o ∧ CalmObj o := fun c hc o ho => by
  obtain ⟨p, hp, rfl⟩ := List.mem_map.mp hc
  have e1 := (N p (hs p hp)).1
  rw [ho] at e1
  obtain rfl := Option.some.inj e1
  refine ⟨kp p hp, ?_⟩
  simp only [Bnd.led, Bnd.fix, wantL, List.mem_cons, List.not_mem_nil, or_false] at hp
  rcases hp with rfl | rfl | rfl | rfl | rfl | rfl | rfl
  · exact ⟨(fun e => nomatch e), (fun ts e => nomatch e)⟩
  · obtain ⟨es, ep, hx1, hd1, _⟩ := hok.di
    exact ⟨(fun e => by rw [hx1.1] at e; cases e), (fun ts e => by rw [hd1] at e; cases e)⟩
  · exact calm_inst (by decide)
  · exact calm_dict
  · exact calm_inst (by decide)
  · exact calm_dict
  · exact calm_tup

set_option maxHeartbeats 4000000 in
theorem number_of_call {w : World} {b : Bnd} {x : Str} {u : Tok}
    {A : Around} {base G : Heap} {envs : List Env} {mean : ExcName → Option Value} {mg mb : Str → Option Value} {s : Shared} {Q E : Value → Shared → Prop} {d : Held}
    (H : At w A base envs mean mg mb G s) (hd : A.depth ≤ 430) (hu : A.units ≤ 300) (hN : ∀ p ∈ b.led d, s.heap.get? p.1 = some p.2 ∧ G.get? p.1 = none) (hok : d.Ok b w) (hx : x.length ≤ 100)
    (ok : ∀ i, lookup (.str x) d.Dn = some (.int i) → ∀ t h' tk', G.StaysIn h' → (∀ p ∈ b.led d, h'.get? p.1 = some p.2) → Q (.int i t) { s with heap := h', toks := tk' })
    (hint : ∀ dv, lookup (.str x) d.Dn = some dv → ∃ i, dv = .int i)
    (no : lookup (.str x) d.Dn = none → ∀ e h' tk', Fly (bare G envs) envs e h' → G.UpToSlots h' → LedgerKept h' (b.led d) → E (.ref e) { s with heap := h', toks := tk' }) :
    wpAny (model Challenge.pw_nu0267_01 w) A (call (.ref 189) [.ref b.B, .str x u]) Q E s := by
  revert hd hu
  refine At.lit (P := fun A => (A.depth ≤ _) → (A.units ≤ _) → wpAny _ A _ _ _ _) H fun dp gd un H hd hu => ?_
  dsimp only at hd hu
  refine wpAny_call ?_
  k_dflt (refine' enter (binds := [(Str.ofString "self", .ref b.B), (Str.ofString "name", .str x u)]) H hN ?ho ?hcd ?hroom ?hbind ?hloc ?_ ?hcell ?hco ?hgen ?hk)
  case ho => k_is
  case hcd => k_is
  case hroom => k_room
  case hbind => exact BindsTo.of_eq rfl
  case hloc => exact locs rfl
  case hcell => decide
  case hco => exact rfl
  case hgen => exact rfl
  case hk => exact rfl
  intro L' h₁ env0 M0 F N B X T hs hL
  (try dsimp only); (try ((show wpAny _ _ _ _ _ _); k_fold))
  have INt : ∀ {h h' : Heap} {m : Str → Option Value}, Fr G L' h m → h.StaysIn h' → (Mine.hd.heap_39 w.params).In h' := fun F k => Frag.In.keeps (Frag.In.keeps X (Fr.keep F)) k
  obtain ⟨lo, di, fl, ap, dn, it, nm⟩ := hok
  k_steps
  · rename_i hl
    obtain ⟨dv, hdv⟩ : ∃ dv, lookup (.str x) d.Dn = some dv := by
      cases q : lookup (.str x) d.Dn with
      | some dv => exact ⟨dv, rfl⟩
      | none => rw [q] at hl; simp at hl
    obtain ⟨i, rfl⟩ := hint dv hdv
    obtain ⟨_, kvs, hdo, hf⟩ := TabAt.ofNews N (.tail _ (.head _)) lo di fl
    obtain ⟨v, hv, hfv⟩ := hf.of_lookup same_str hdv
    refine wpAny_getItem_of (strKind_is _ _ _ _) hdo.mapOf hv ?_
    obtain ⟨t, rfl⟩ : ∃ t, v = .int i t := by cases hfv {} with | int i t => exact ⟨t, rfl⟩
    k_steps
    exact ok i hdv _ _ _ F.keep fun p hp => (N p hp).1
  · exact INt (by assumption) (by assumption)
  · rename_i hl _ _ _ _ _ _ _ _ _ _ _ _
    refine no ?_ _ _ _ (by assumption) (by assumption) (by assumption)
    cases q : lookup (.str x) d.Dn with
    | none => rfl
    | some dv => simp_all

set_option maxHeartbeats 4000000 in
theorem law_number_call {w : World} {b : Bnd} {x : Str} {u : Tok}
    {A : Around} {base G : Heap} {envs : List Env} {mean : ExcName → Option Value} {mg mb : Str → Option Value} {s : Shared} {Q E : Value → Shared → Prop} {d : Held}
    (H : At w A base envs mean mg mb G s) (XB : (Mine.hd.heap_39 w.params).In base) (TB : Top Mine.hd.view_39 (looseW Mine.hd.view_39 []) mean mg mb base) (hd : A.depth ≤ 420) (hu : A.units ≤ 260) (hN : ∀ p ∈ b.led d, s.heap.get? p.1 = some p.2 ∧ G.get? p.1 = none) (hok : d.Ok b w) (hx : x.length ≤ 100)
    (hint : ∀ dv, lookup (.str x) d.Dn = some dv → ∃ i, dv = .int i)
    (ok : ∀ i, (lookup (.str x) d.Dn = some (.int i) ∨ (lookup (.str x) d.Dn = none ∧ i = -1)) → ∀ t h' tk', (bare G envs).StaysIn h' → G.UpToSlots h' → (∀ p ∈ b.led d, h'.get? p.1 = some p.2) → Q (.int i t) { s with heap := h', toks := tk' }) :
    wpAny (model Challenge.pw_nu0267_01 w) A (call (.ref 234) [.ref b.B, .str x u]) Q E s := by
  revert hd hu
  refine At.lit (P := fun A => (A.depth ≤ _) → (A.units ≤ _) → wpAny _ A _ _ _ _) H fun dp gd un H hd hu => ?_
  dsimp only at hd hu
  refine wpAny_call ?_
  k_dflt (refine' enter (binds := [(Str.ofString "bounds", .ref b.B), (Str.ofString "name", .str x u)]) H hN ?ho ?hcd ?hroom ?hbind ?hloc ?_ ?hcell ?hco ?hgen ?hk)
  case ho => k_is
  case hcd => k_is
  case hroom => k_room
  case hbind => exact BindsTo.of_eq rfl
  case hloc => exact locs rfl
  case hcell => decide
  case hco => exact rfl
  case hgen => exact rfl
  case hk => exact rfl
  intro L' h₁ env0 M0 F N B X T hs hL
  (try dsimp only); (try ((show wpAny _ _ _ _ _ _); k_fold))
  k_steps
  have hW : ∀ a ∈ (b.led d).map (·.1), G.get? a = none ∧ a ≠ L' := fun a ha => by
    obtain ⟨p, hp, rfl⟩ := List.mem_map.mp ha
    exact ⟨(N p hp).2.2, (N p hp).2.1⟩
  refine number_of_call (callee_at _ B X T rfl F rfl rfl hW) (by rw [depth_deeper]; dsimp only; omega) (by rw [units_deeper]; dsimp only; omega) (fun p hp => ⟨(N p hp).1, hideAll_none _ (List.mem_map_of_mem hp)⟩) hok hx ?ok1 hint ?no1
  case ok1 =>
    intro i hi t h2 tk2 k2 kp
    have k3 : Heap.StaysIn h₁ h2 := unhide k2 fun a ha o e => by
      obtain ⟨p, hp, rfl⟩ := List.mem_map.mp ha
      rw [(N p hp).1] at e
      exact Option.some.inj e ▸ kp p hp
    k_steps
    exact ok i (.inl hi) _ _ _ (fun c o e => k3 c o (F.keep c o (bare_of e))) (Heap.UpToSlots.of_keeps fun c o e => k3 c o (F.keep c o e)) kp
  case no1 =>
    intro hno e h2 tk2 fl us kp
    have key := led_calm N hok (fun p hp => hp) kp
    refine catch_here B XB TB F N (fl.unhide key) (upSlots_unhide us fun c hc o ho => (key c hc o ho).1) (fun h3 F3 N3 u3 X3 T3 => ?_) rfl rfl ?pass
    case pass => with_unfolding_all passes_own
    clear F N B X T
    k_steps
    exact ok _ (.inr ⟨hno, rfl⟩) _ _ _ F3.keep u3 fun p hp => (N3 p hp).1
end

section
open PySem PySem.W PySem.Calls PyProof.Rows PySem.Spec
/-- all stands but the slots of the frames fr -/
noncomputable def KeepBut (fr : List Addr) (h h' : Heap) : Prop := (∀ b o, b ∉ fr → h.get? b = some o → h'.get? b = some o) ∧ ∀ b o, b ∈ fr → h.get? b = some o → (∀ vs, o.data ≠ .fields vs) → ∃ sl, h'.get? b = some { o with slots := sl }
theorem KeepBut.refl {fr : List Addr} {h : Heap} : KeepBut fr h h := ⟨fun _ _ _ e => e, fun b o _ e _ => ⟨o.slots, e⟩⟩
theorem KeepBut.trans {fr : List Addr} {h h' h'' : Heap} (x : KeepBut fr h h') (y : KeepBut fr h' h'') : KeepBut fr h h'' := by
  refine ⟨fun b o n e => y.1 b o n (x.1 b o n e), fun b o m e nf => ?_⟩
  obtain ⟨sl, h1⟩ := x.2 b o m e nf
  obtain ⟨sl2, h2⟩ := y.2 b _ m h1 nf
  exact ⟨sl2, h2⟩
theorem stk {fr : List Addr} {h h' : Heap} (k : h.StaysIn h') : KeepBut fr h h' := ⟨fun b o _ e => k b o e, fun b o _ e _ => ⟨o.slots, k b o e⟩⟩
section
variable {prog : Program} {w : World} {A : Around} {E : Value → Shared → Prop} {R : Result → Shared → Prop} {s : Shared} {env : Env}
inductive LcEltF (g : Array GenState) (d : Drawn) (o : OsState) (fr : List Addr) (h : Heap) (P : Value → Prop) (y : Value) : Shared → Prop
  | mk (h₄ : Heap) (tk₄ : Nat) (k : KeepBut fr h h₄) (p : P y) : LcEltF g d o fr h P y ⟨h₄, g, d, tk₄, o⟩
inductive LcIF (s : Shared) (C D : Addr) (wr fr : List Addr) (n : Nat) (St : Nat → Heap → Prop) (J : Nat → List Value → Prop) : Nat → Shared → Prop
  | mk (h' : Heap) (tk : Nat) (m' : Str → Option Value) (ys : List Value) (i : Nat) (z1 : St i h') (z2 : h'.PlainList D (List.toArray ys)) (z3 : h'.Ns C m') (z4 : J i ys) (z5 : ys.length = i) (z6 : i ≤ n)
    (z7 : KeepBut fr (hideAll s.heap (C :: D :: wr)) (hideAll h' (C :: D :: wr))) : LcIF s C D wr fr n St J (n + 1 - i) { s with heap := h', toks := tk }
theorem lc_loopF {elt target iter : Expr} {scope : Scope} {pos : Pos} {I D : Addr} {fp wr fr : List Addr} {n : Nat} {P : Nat → (Str → Option Value) → Prop} {St : Nat → Heap → Prop}
    {cenv : Env} {m : Str → Option Value} (W : LcSrc prog w A target cenv I fp wr n P St) (J : Nat → List Value → Prop)
    (hDC : D ≠ cenv.locals) (hDf : D ∉ fp) (hCf : cenv.locals ∉ fp) (fD : D ∉ fr) (fC : cenv.locals ∉ fr) (ff : ∀ b ∈ fp, b ∉ fr)
    (hst : St 0 s.heap) (hacc : s.heap.PlainList D #[]) (hn : s.heap.Ns cenv.locals m) (hj : J 0 [])
    (turn : ∀ i ys h tk m', i < n → ys.length = i → P i m' → h.Ns cenv.locals m' → KeepBut fr (hideAll s.heap (cenv.locals :: D :: wr)) (hideAll h (cenv.locals :: D :: wr)) → J i ys →
      ∀ E', wpAny (model prog w) A (eval elt cenv) (LcEltF s.gens s.drawn s.os fr h (fun y => J (i + 1) (ys ++ [y]))) E' { s with heap := h, toks := tk })
    (hR : ∀ h' tk m' ys, h'.Ns cenv.locals m' → h'.PlainList D (List.toArray ys) → ys.length = n → J n ys → KeepBut fr (hideAll s.heap (cenv.locals :: D :: wr)) (hideAll h' (cenv.locals :: D :: wr)) → R (.ok .next) { s with heap := h', toks := tk })
    (hsz : n ≤ sizeLine) :
    codeAny (model prog w) A (.compLoop (.ListComp elt [⟨target, iter, [], 0⟩] scope pos) 0 (.ref I) (.ref D) cenv) R s := by
  have hCw : cenv.locals ∉ wr := fun h => hCf (W.sub _ h)
  have hDw : D ∉ wr := fun h => hDf (W.sub _ h)
  have up : ∀ {h h' : Heap}, (∀ b o, b ≠ cenv.locals → b ∉ wr → b ≠ D → h.get? b = some o → h'.get? b = some o) → KeepBut fr (hideAll h (cenv.locals :: D :: wr)) (hideAll h' (cenv.locals :: D :: wr)) := by
    intro h h' k
    have st : (hideAll h (cenv.locals :: D :: wr)).StaysIn (hideAll h' (cenv.locals :: D :: wr)) := hideAll_up fun b o hb e => k b o (fun q => hb (q ▸ .head _)) (fun q => hb (.tail _ (.tail _ q))) (fun q => hb (q ▸ .tail _ (.head _))) e
    exact ⟨fun b o _ e => st b o e, fun b o _ e _ => ⟨o.slots, st b o e⟩⟩
  have hid : ∀ {h h' : Heap}, KeepBut fr h h' → KeepBut fr (hideAll h (cenv.locals :: D :: wr)) (hideAll h' (cenv.locals :: D :: wr)) := by
    intro h h' k
    refine ⟨fun b o nb e => ?_, fun b o mb e nf => ?_⟩
    · by_cases hb : b ∈ cenv.locals :: D :: wr
      · rw [hideAll_none _ hb] at e; cases e
      · exact hideAll_get _ (k.1 b o nb (of_hideAll _ e)) hb
    · by_cases hb : b ∈ cenv.locals :: D :: wr
      · rw [hideAll_none _ hb] at e; cases e
      · obtain ⟨sl, hs⟩ := k.2 b o mb (of_hideAll _ e) nf
        exact ⟨sl, hideAll_get _ hs hb⟩
  refine lc_turn
    (LcIF s cenv.locals D wr fr n St J) ?_ (n + 1)
    ⟨s.heap, s.toks, m, [], 0, hst, hacc, hn, hj, rfl, Nat.zero_le _, KeepBut.refl⟩
  rintro k s' ⟨H, tk, m', ys, i, hst', hacc', hn', hj', hyl, hi, hk⟩
  by_cases hlt : i < n
  · refine wpAny_mono (W.item i _ m' _ hlt hst' hn' hCf) (fun r s₁ h₁ => ?_) fun _ _ e => e
    obtain ⟨v, h₁⟩ := h₁
    refine wpAny_mono h₁ (fun _ s₂ h₂ => wpAny_mono h₂ (fun _ s₃ h₃ => ?_) fun _ _ e => e) fun _ _ e => e
    obtain ⟨h₂, tk₂, m₂, hP, hst₂, hn₂, up₂⟩ := h₃
    have k₂ := hk.trans (up (h := H) (h' := h₂) fun b o h1 h2 _ e => up₂ b o h1 h2 e)
    have hacc₂ : h₂.PlainList D (List.toArray ys) := hacc'.at fun o e => up₂ D o hDC hDw e
    refine wpAny_tests_nil ?_
    rw [if_pos rfl]
    refine wpAny_mono (turn i ys h₂ tk₂ m₂ hlt hyl hP hn₂ k₂ hj' _) (fun y s₄ h₄ => ?_) fun _ _ e => e
    obtain ⟨h₄, tk₄, k₄, hj₄⟩ := h₄
    have hys : ys.toArray.size ≤ sizeLine := by rw [List.size_toArray, hyl]; exact Nat.le_trans hi hsz
    refine wpAny_list_append_plain (hsz := hys) (hacc₂.at fun o e => k₄.1 _ o fD e) fun h₅ hl₅ hs₅ => ?_
    rw [List.push_toArray] at hl₅
    refine ⟨n + 1 - (i + 1), decN hi, h₅, tk₄, m₂, ys ++ [y], i + 1, ?_, hl₅, (hn₂.at' fun o e => k₄.1 _ o fC e).sameBut hs₅ (Ne.symm hDC), hj₄, by rw [List.length_append, List.length_singleton, hyl], hlt, ?_⟩
    · exact W.frame _ _ _ hst₂ fun b hb o e => hs₅.extBut b o (fun h => hDf (h ▸ hb)) (k₄.1 b o (ff b hb) e)
    · exact (k₂.trans (hid k₄)).trans (up fun b o _ _ hbD e => hs₅.extBut b o hbD e)
  · obtain rfl : i = n := Nat.le_antisymm hi (Nat.le_of_not_lt hlt)
    refine W.done _ _ _ hst' fun h₁ tk₁ hk₁ => ?_
    exact hR h₁ tk₁ m' ys (hn'.at' fun o e => hk₁ _ o hCw e) (hacc'.at fun o e => hk₁ _ o hDw e) hyl hj' (hk.trans (up fun b o _ h2 _ e => hk₁ b o h2 e))

inductive LcGoF (prog : Program) (w : World) (A : Around) (env : Env) (scope : Scope) (cl : List (Str × Addr)) (x : Str) (elt : Expr) (J : Nat → List Value → Prop) (fr : List Addr) (Q : Value → Shared → Prop) : Value → Shared → Prop
  | mk {s : Shared} (l : Addr) (vs : List Value) (z1 : s.heap.IsTuple l vs.toArray) (z2 : l ∉ fr) (z3 : (∀ b ∈ fr, b < s.heap.objs.size)) (z4 : vs.length ≤ sizeLine) (z5 : (∀ C i v ys h tk m₂ E', vs[i]? = some v → ys.length = i → J i ys → KeepBut fr s.heap h → h.Ns C m₂ → m₂ x = some v → s.heap.objs.size ≤ C → wpAny (model prog w) A (eval elt (compEnvC scope cl C env)) (LcEltF s.gens s.drawn s.os fr h (fun y => J (i + 1) (ys ++ [y]))) E' { s with heap := h, toks := tk })) (z6 : (∀ D h' tk ys k, h'.get? D = some (listOf ys.toArray k) → s.heap.objs.size ≤ D → ys.length = vs.length → J vs.length ys → KeepBut fr s.heap h' → Q (.ref D) { s with heap := h', toks := tk })) : LcGoF prog w A env scope cl x elt J fr Q (.ref l) s
/-- a comprehension over a tuple, whose calls may turn frames' slots -/
theorem lc_overF {x : Str} {px pos : Pos} {elt iter : Expr} {scope : Scope} {cl : List (Str × Addr)} {Q : Value → Shared → Prop} (J : Nat → List Value → Prop) (fr : List Addr)
    (hclos : closureFor scope env = pure cl) (hcell : ∀ y ∈ scope.names, y.2 ≠ .cell) (hkind : scope.kind = .function)
    (hnames : ∀ y ∈ scope.names, y.2 = .local → scope.names.lookup y.1 = some .local) (hx : scope.names.lookup x = some .local) (hh : A.handled = none) (hj : J 0 [])
    (h : wpAny (model prog w) A (eval iter env) (LcGoF prog w A env scope cl x elt J fr Q) E s)
    (hs : ∀ x, foldedSetIterable iter env x = pure x := by intro _; rfl) :
    wpAny (model prog w) A (eval (.ListComp elt [⟨.Name x px, iter, [], 0⟩] scope pos) env) Q E s := by
  rw [eval_ListComp]
  refine wpAny_comprehension_free (use := none) rfl hs hclos hkind hnames (wpAny_mono h (fun xv s h₁ => ?_) fun _ _ e => e)
  obtain ⟨l, vs, hl, hlf, hfr, hsz, turn, done⟩ := h₁
  have hlt : l < s.heap.objs.size := by obtain ⟨o, ho, _⟩ := hl; exact Heap.lt_size ho
  have hne : l ≠ s.heap.objs.size := Nat.ne_of_lt hlt
  have hlen : vs.toArray.size = vs.length := by simp
  refine wpAny_pyIter_tuple hl ?_
  have W0 := Walks.tuple (prog := prog) (w := w) hh s.heap.objs.size l hne vs.toArray
  rw [hlen] at W0
  refine wpAny_newObj_type (wpAny_newFunctionEnv hcell (by intro y hy; simp at hy) (fun h₁ hns₁ hsb₁ => ?_) hkind)
  dsimp only at hns₁ hsb₁ ⊢
  generalize hH1 : s.heap.push { cls := .type "tuple_iterator", data := .fields #[.ref l, .int 0 0] } = H1 at hns₁ hsb₁ ⊢
  generalize hH2 : H1.push { cls := .type "list", dict := none, data := .seq ([] : List Value).toArray } = H2 at hns₁ hsb₁ ⊢
  have z1 : H1.objs.size = s.heap.objs.size + 1 := by rw [← hH1, Heap.size_push]
  have z2 : H2.objs.size = s.heap.objs.size + 2 := by rw [← hH2, Heap.size_push, z1]
  have u1 : s.heap.StaysIn H1 := fun b o e => hH1 ▸ Heap.get?_push_of_some _ e
  have u2 : H1.StaysIn H2 := fun b o e => hH2 ▸ Heap.get?_push_of_some _ e
  have u3 : ∀ b o, b ≠ H2.objs.size → H2.get? b = some o → h₁.get? b = some o := fun b o hb e => hsb₁.extBut b o hb (Heap.get?_push_of_some _ e)
  have small : ∀ b, b < s.heap.objs.size → b ≠ H2.objs.size ∧ b ≠ H1.objs.size ∧ b ≠ s.heap.objs.size := fun b hb => ⟨by rw [z2]; exact Nat.ne_of_lt (Nat.lt_of_lt_of_le hb (Nat.le_add_right _ _)), by rw [z1]; exact Nat.ne_of_lt (Nat.lt_succ_of_lt hb), Nat.ne_of_lt hb⟩
  have old : s.heap.StaysIn h₁ := fun b o e => u3 b o (small b (Heap.lt_size e)).1 (u2 b o (u1 b o e))
  have eI : h₁.get? s.heap.objs.size = some { cls := .type "tuple_iterator", data := .fields #[.ref l, .int 0 0] } := u3 _ _ (by rw [z2]; exact Nat.ne_of_lt (Nat.lt_of_lt_of_le (Nat.lt_succ_self _) (Nat.le_succ _))) (u2 _ _ (hH1 ▸ Heap.get?_push_size _ rfl))
  have eD : h₁.PlainList H1.objs.size #[] := ⟨_, u3 _ _ (by rw [z1, z2]; exact Nat.ne_of_lt (Nat.lt_succ_self _)) (hH2 ▸ Heap.get?_push_size _ rfl)⟩
  have notfr : ∀ b, s.heap.objs.size ≤ b → b ∉ fr := fun b hb q => absurd (hfr b q) (Nat.not_lt.mpr hb)
  have hide : KeepBut fr s.heap (hideAll h₁ (H2.objs.size :: H1.objs.size :: [s.heap.objs.size])) := by
    have st : s.heap.StaysIn (hideAll h₁ (H2.objs.size :: H1.objs.size :: [s.heap.objs.size])) := fun b o e => hideAll_get _ (old b o e) fun q => by
      obtain ⟨n1, n2, n3⟩ := small b (Heap.lt_size e)
      rcases List.mem_cons.mp q with q | q
      · exact n1 q
      · rcases List.mem_cons.mp q with q | q
        · exact n2 q
        · exact n3 (List.mem_singleton.mp q)
    exact ⟨fun b o _ e => st b o e, fun b o _ e _ => ⟨o.slots, st b o e⟩⟩
  have out : ∀ {h' : Heap}, KeepBut fr (hideAll h₁ (H2.objs.size :: H1.objs.size :: [s.heap.objs.size])) (hideAll h' (H2.objs.size :: H1.objs.size :: [s.heap.objs.size])) → KeepBut fr s.heap h' := by
    intro h' k
    have k' := hide.trans k
    refine ⟨fun b o nb e => of_hideAll _ (k'.1 b o nb e), fun b o mb e nf => ?_⟩
    obtain ⟨sl, hs⟩ := k'.2 b o mb e nf
    exact ⟨sl, of_hideAll _ hs⟩
  have a1 : H1.objs.size ∉ [s.heap.objs.size, l] := fun q => by
    rcases List.mem_cons.mp q with q | q
    · rw [z1] at q; exact absurd q (Nat.succ_ne_self _)
    · exact (small l hlt).2.1 (List.mem_singleton.mp q).symm
  have a2 : H2.objs.size ∉ [s.heap.objs.size, l] := fun q => by
    rcases List.mem_cons.mp q with q | q
    · rw [z2] at q; exact absurd q (by omega)
    · exact (small l hlt).1 (List.mem_singleton.mp q).symm
  have a3 : ∀ b ∈ [s.heap.objs.size, l], b ∉ fr := fun b hb => by
    rcases List.mem_cons.mp hb with rfl | hb
    · exact notfr _ (Nat.le_refl _)
    · rw [List.mem_singleton.mp hb]; exact hlf
  have loop : ∀ s₃ : Shared, s₃ = { s with heap := h₁, toks := s.toks + ([] : List (Str × Value)).length } →
      codeAny (model prog w) A (.compLoop (.ListComp elt [⟨.Name x px, iter, [], 0⟩] scope pos) 0 (.ref s.heap.objs.size) (.ref H1.objs.size) (compEnvC scope cl H2.objs.size env))
        (compPost (model prog w) A E none Q (.ref H1.objs.size) H2.objs.size) s₃ := by
    rintro s₃ rfl
    refine lc_loopF (fr := fr) (cenv := compEnvC scope cl H2.objs.size env) (I := s.heap.objs.size) (D := H1.objs.size) (LcSrc.name W0 (lookup_relabel_local hx) (by simp [compEnvC, relabel, hkind])) J
      (by show H1.objs.size ≠ H2.objs.size; rw [z1, z2]; exact Nat.ne_of_lt (Nat.lt_succ_self _)) a1 a2
      (notfr _ (by rw [z1]; exact Nat.le_succ _)) (notfr _ (by show s.heap.objs.size ≤ H2.objs.size; rw [z2]; exact Nat.le_add_right _ _)) a3
      ⟨⟨_, eI, rfl, rfl⟩, let ⟨o, ho, r⟩ := hl; ⟨o, old _ _ ho, r⟩⟩ eD hns₁ hj (fun i ys h tk m' hi hy hP hn st hJi E' => ?_) (fun h' tk m' ys hn hpl hy hJn st => ?_) hsz
    · obtain ⟨v, hv, hm⟩ := hP
      exact turn H2.objs.size i v ys h tk m' E' (by simpa using hv) hy hJi (out st) hn hm (by rw [z2]; exact Nat.le_add_right _ _)
    · obtain ⟨k, hk⟩ := hpl
      refine ⟨m', hn, fun h'' hs'' => done H1.objs.size h'' tk ys k (hs''.extBut _ _ (by rw [z1, z2]; exact Nat.ne_of_lt (Nat.lt_succ_self _)) hk) (by rw [z1]; exact Nat.le_succ _) hy hJn (out (st.trans (stk (hideAll_up fun b o hb e => hs''.extBut b o (fun q => hb (q ▸ .head _)) e))))⟩
  exact codeAny_compStart_list (loop _ rfl) (wpAny_pyIter_tupleiter ⟨_, eI, rfl, rfl⟩ (loop _ rfl))
end
end

section
open PySem PySem.W PySem.Calls PyProof.Rows PySem.Spec PyProof.V
local macro_rules | `(tactic| walk_at $s) => Mine.red [("subscriptTail", "g")] s
section
variable {w : World} {b : Bnd} {A : Around} {base G : Heap} {envs : List Env} {mean : ExcName → Option Value} {mg mb : Str → Option Value} {s : Shared} {Q E : Value → Shared → Prop} {d : Held}
set_option maxHeartbeats 4000000 in
theorem bsize_call (H : At w A base envs mean mg mb G s) (hd : A.depth ≤ 430) (hu : A.units ≤ 300) (hN : ∀ p ∈ b.led d, s.heap.get? p.1 = some p.2 ∧ G.get? p.1 = none) (hi : d.items.length ≤ 9)
    (ok : ∀ t h' tk', G.StaysIn h' → (∀ p ∈ b.led d, h'.get? p.1 = some p.2) → Q (.int d.items.length t) { s with heap := h', toks := tk' }) :
    wpAny (model Challenge.pw_nu0267_01 w) A (call (.ref 168) [.ref b.B]) Q E s := by
  revert hd hu
  refine At.lit (P := fun A => (A.depth ≤ _) → (A.units ≤ _) → wpAny _ A _ _ _ _) H fun dp gd un H hd hu => ?_
  dsimp only at hd hu
  refine wpAny_call ?_
  k_dflt (refine' enter (binds := [(Str.ofString "self", .ref b.B)]) H hN ?ho ?hcd ?hroom ?hbind ?hloc ?_ ?hcell ?hco ?hgen ?hk)
  case ho => k_is
  case hcd => k_is
  case hroom => k_room
  case hbind => exact BindsTo.of_eq rfl
  case hloc => exact locs rfl
  case hcell => decide
  case hco => exact rfl
  case hgen => exact rfl
  case hk => exact rfl
  intro L' h₁ env0 M0 F N B X T hs hL
  (try dsimp only); (try ((show wpAny _ _ _ _ _ _); k_fold))
  k_steps
  exact ok _ _ _ F.keep fun p hp => (N p hp).1

theorem list_at {l : Addr} {vs : List Value} {k : Int} {u : Tok} {j : Nat} {x : Value} {value slice : Expr} {prog : Program} {A : Around} {E : Value → Shared → Prop} {s : Shared} {Q : Value → Shared → Prop} (hl : s.heap.IsList l vs.toArray) (hk : k = (j : Int)) (h9 : j < 1000) (hx : vs[j]? = some x) (h : Q x s)
    (hs : subscripted slice false (.ref l) (.int k u) = operate [.ref l, .int k u] (getItem (.ref l) (.int k u)) := by with_unfolding_all rfl) :
    wpAny (model prog w) A (subscriptTail value slice (.ref l) (.int k u)) Q E s := by
  subst hk
  exact tail_any hl.typeIs slot_list_getitem.lookup (wpAny_getItem_list (x := x) hl (by omega) (by omega) (by simpa using hx) h) hs

set_option maxHeartbeats 4000000 in
theorem bound_call {r : Int} {j : Nat} {v : Value} {u : Tok} (H : At w A base envs mean mg mb G s) (hd : A.depth ≤ 430) (hu : A.units ≤ 300) (hN : ∀ p ∈ b.led d, s.heap.get? p.1 = some p.2 ∧ G.get? p.1 = none) (hr : r = (j : Int)) (hj : d.items[j]? = some v) (h9 : j < 1000)
    (ok : ∀ h' tk', G.StaysIn h' → (∀ p ∈ b.led d, h'.get? p.1 = some p.2) → Q v { s with heap := h', toks := tk' }) :
    wpAny (model Challenge.pw_nu0267_01 w) A (call (.ref 161) [.ref b.B, .int r u]) Q E s := by
  revert hd hu
  refine At.lit (P := fun A => (A.depth ≤ _) → (A.units ≤ _) → wpAny _ A _ _ _ _) H fun dp gd un H hd hu => ?_
  dsimp only at hd hu
  refine wpAny_call ?_
  k_dflt (refine' enter (binds := [(Str.ofString "self", .ref b.B), (Str.ofString "r", .int r u)]) H hN ?ho ?hcd ?hroom ?hbind ?hloc ?_ ?hcell ?hco ?hgen ?hk)
  case ho => k_is
  case hcd => k_is
  case hroom => k_room
  case hbind => exact BindsTo.of_eq rfl
  case hloc => exact locs rfl
  case hcell => decide
  case hco => exact rfl
  case hgen => exact rfl
  case hk => exact rfl
  intro L' h₁ env0 M0 F N B X T hs hL
  (try dsimp only); (try ((show wpAny _ _ _ _ _ _); k_fold))
  k_steps
  refine list_at (News.isList N (.head _)) hr h9 hj ?_
  k_steps
  exact ok _ _ F.keep fun p hp => (N p hp).1

theorem tup_at {l : Addr} {vs : Array Value} {k : Int} {u : Tok} {j : Nat} {x : Value} {value slice : Expr} {prog : Program} {A : Around} {E : Value → Shared → Prop} {s : Shared} {Q : Value → Shared → Prop} (hl : s.heap.get? l = some { cls := .type "tuple", data := .seq vs }) (hk : k = (j : Int)) (h9 : j < 1000) (hx : vs.toList[j]? = some x) (h : Q x s)
    (hs : subscripted slice false (.ref l) (.int k u) = operate [.ref l, .int k u] (getItem (.ref l) (.int k u)) := by with_unfolding_all rfl) :
    wpAny (model prog w) A (subscriptTail value slice (.ref l) (.int k u)) Q E s := by
  refine item_tupleT (l := vs.toList) (j := j) ⟨_, hl, rfl, _, rfl⟩ (by omega) (by omega) (seqIdx hk ?_) hx h hs
  exact (List.getElem?_eq_some_iff.mp hx).1

set_option maxHeartbeats 4000000 in
theorem lower_call {r : Int} {j : Nat} {a : Addr} {x : Str} {u ux : Tok} {mv : Value} {lo up : Addr} (H : At w A base envs mean mg mb G s) (hd : A.depth ≤ 430) (hu : A.units ≤ 300) (hN : ∀ p ∈ b.led d, s.heap.get? p.1 = some p.2 ∧ G.get? p.1 = none) (hr : r = (j : Int)) (hj : d.items[j]? = some (.ref a)) (h9 : j < 1000)
    (ha : G.get? a = some (tldObj x ux mv lo up))
    (ok : ∀ h' tk', G.StaysIn h' → (∀ p ∈ b.led d, h'.get? p.1 = some p.2) → Q (.ref lo) { s with heap := h', toks := tk' }) :
    wpAny (model Challenge.pw_nu0267_01 w) A (call (.ref 175) [.ref b.B, .int r u]) Q E s := by
  revert hd hu
  refine At.lit (P := fun A => (A.depth ≤ _) → (A.units ≤ _) → wpAny _ A _ _ _ _) H fun dp gd un H hd hu => ?_
  dsimp only at hd hu
  refine wpAny_call ?_
  k_dflt (refine' enter (binds := [(Str.ofString "self", .ref b.B), (Str.ofString "r", .int r u)]) H hN ?ho ?hcd ?hroom ?hbind ?hloc ?_ ?hcell ?hco ?hgen ?hk)
  case ho => k_is
  case hcd => k_is
  case hroom => k_room
  case hbind => exact BindsTo.of_eq rfl
  case hloc => exact locs rfl
  case hcell => decide
  case hco => exact rfl
  case hgen => exact rfl
  case hk => exact rfl
  intro L' h₁ env0 M0 F N B X T hs hL
  (try dsimp only); (try ((show wpAny _ _ _ _ _ _); k_fold))
  k_steps
  refine list_at (News.isList N (.head _)) hr h9 hj ?_
  k_steps
  refine tup_at (F.keep _ _ ha) (j := 2) rfl (by decide) rfl ?_
  k_steps
  exact ok _ _ F.keep fun p hp => (N p hp).1

set_option maxHeartbeats 4000000 in
theorem upper_call {r : Int} {j : Nat} {a : Addr} {x : Str} {u ux : Tok} {mv : Value} {lo up : Addr} (H : At w A base envs mean mg mb G s) (hd : A.depth ≤ 430) (hu : A.units ≤ 300) (hN : ∀ p ∈ b.led d, s.heap.get? p.1 = some p.2 ∧ G.get? p.1 = none) (hr : r = (j : Int)) (hj : d.items[j]? = some (.ref a)) (h9 : j < 1000)
    (ha : G.get? a = some (tldObj x ux mv lo up))
    (ok : ∀ h' tk', G.StaysIn h' → (∀ p ∈ b.led d, h'.get? p.1 = some p.2) → Q (.ref up) { s with heap := h', toks := tk' }) :
    wpAny (model Challenge.pw_nu0267_01 w) A (call (.ref 182) [.ref b.B, .int r u]) Q E s := by
  revert hd hu
  refine At.lit (P := fun A => (A.depth ≤ _) → (A.units ≤ _) → wpAny _ A _ _ _ _) H fun dp gd un H hd hu => ?_
  dsimp only at hd hu
  refine wpAny_call ?_
  k_dflt (refine' enter (binds := [(Str.ofString "self", .ref b.B), (Str.ofString "r", .int r u)]) H hN ?ho ?hcd ?hroom ?hbind ?hloc ?_ ?hcell ?hco ?hgen ?hk)
  case ho => k_is
  case hcd => k_is
  case hroom => k_room
  case hbind => exact BindsTo.of_eq rfl
  case hloc => exact locs rfl
  case hcell => decide
  case hco => exact rfl
  case hgen => exact rfl
  case hk => exact rfl
  intro L' h₁ env0 M0 F N B X T hs hL
  (try dsimp only); (try ((show wpAny _ _ _ _ _ _); k_fold))
  k_steps
  refine list_at (News.isList N (.head _)) hr h9 hj ?_
  k_steps
  refine tup_at (F.keep _ _ ha) (j := 3) rfl (by decide) rfl ?_
  k_steps
  exact ok _ _ F.keep fun p hp => (N p hp).1
end
end

open PySem PySem.W PySem.Calls PyProof.Rows PySem.Spec PyProof.V
local macro_rules | `(tactic| walk_at $s) => Mine.red [("subscriptTail", "g"), ("subscriptTail Name", "g"), ("subscriptTail Name Name ref int", "m"), ("subscriptTail Name Constant ref int", "m"), ("subscriptTail Name BinOp ref int", "m"), ("subscriptTail Name UnaryOp ref int", "m"), ("subscriptTail Name Slice ref ref", "m"), ("subscriptTail Subscript", "m"), ("subscriptTail Subscript Name Name Constant ref int", "m"), ("compareOp Eq ref", "m"), ("compareOp Eq ref ref", "m"), ("compareOp NotEq ref", "m"), ("compareOp NotEq ref ref", "m"), ("call builtin:len", "g"), ("pyIter ref", "m")] s
section
open PySem PySem.W PySem.Calls PyProof.Rows PySem.Spec PyProof.V
section
variable {w : World} {A : Around} {base G h h' : Heap} {envs : List Env} {mean : ExcName → Option Value} {mg mb : Str → Option Value} {s : Shared} {env : Env} {L : Addr} {m : Str → Option Value} {news sub : List (Addr × Obj)}
theorem notFrame (K : Below A base envs G) {p : Addr × Obj} (N : News G L h news) (hp : p ∈ news) : p.1 ∉ L :: envs.filterMap (·.frame) := fun hm => by
  rcases List.mem_cons.mp hm with hm | hm
  · exact (N p hp).2.1 hm
  · obtain ⟨env', he', hf'⟩ := List.mem_filterMap.mp hm
    obtain ⟨L₁, o₁, hf₁, ho₁⟩ := funFrames_in K.frames env' he'
    rw [hf₁] at hf'
    have := (N p hp).2.2
    rw [← (Option.some.inj hf' : L₁ = p.1), ho₁] at this; cases this
theorem baseNoFrame (K : Below A base envs G) (F : Fr G L h m) {b : Addr} {o : Obj} (e : base.get? b = some o) : b ∉ L :: envs.filterMap (·.frame) := fun hm => by
  have e1 := base_bare K b o e
  rcases List.mem_cons.mp hm with rfl | hm
  · exact absurd (Heap.lt_size (bare_of e1)) (Nat.not_lt.mpr F.above)
  · exact bare_not e1 hm
theorem keepUp {fr : List Addr} (k : KeepBut fr h h') : h.UpToSlots h' := fun a o e nf => by
  by_cases ha : a ∈ fr
  · exact k.2 a o ha e nf
  · exact ⟨o.slots, k.1 a o ha e⟩
theorem frAgain (K : Below A base envs G) (F : Fr G L h m) (k : KeepBut (L :: envs.filterMap (·.frame)) h h') : Fr (bare G envs) L h' m := by
  refine ⟨Heap.UpToSlots.ns (keepUp k) F.ns, fun b o e => k.1 b o (fun hm => ?_) (F.keep b o (bare_of e)), Nat.le_trans (Nat.le_of_eq (hideAll_size _ _)) F.above⟩
  rcases List.mem_cons.mp hm with rfl | hm
  · exact absurd (Heap.lt_size (bare_of e)) (Nat.not_lt.mpr F.above)
  · exact bare_not e hm
theorem newsAgain (K : Below A base envs G) (N : News G L h news) (k : KeepBut (L :: envs.filterMap (·.frame)) h h') : News (bare G envs) L h' news := fun p hp => by
  refine ⟨k.1 _ _ (notFrame K N hp) (N p hp).1, (N p hp).2.1, ?_⟩
  cases q : (bare G envs).get? p.1 with
  | none => rfl
  | some o => have := (N p hp).2.2; rw [bare_of q] at this; cases this
theorem frame_mem {env' : Env} {b : Addr} (hf : env.frame = some L) (he : env' ∈ env :: envs) (hf' : env'.frame = some b) : b ∈ L :: envs.filterMap (·.frame) := by
  rcases List.mem_cons.mp he with rfl | he
  · rw [hf] at hf'; exact (Option.some.inj hf') ▸ .head _
  · exact .tail _ (List.mem_filterMap.mpr ⟨env', he, hf'⟩)
/-- a call made again, the frames' slots turned meanwhile -/
theorem atAgain (K : Below A base envs G) (F : Fr G L h m) (N : News G L h news) (hs : ∀ p ∈ sub, p ∈ news) (XB : (Mine.hd.heap_39 w.params).In base) (TB : Top Mine.hd.view_39 (looseW Mine.hd.view_39 []) mean mg mb base) (hh : A.handled = none) (hf : env.frame = some L) (hk : env.scope.kind = .function)
    (k : KeepBut (L :: envs.filterMap (·.frame)) h h') (hsh : s.heap = h') : At w (A.deeper env) base (env :: envs) mean mg mb (hideAll h' (sub.map (·.1))) s := by
  subst hsh
  have nosub : ∀ {a : Addr}, a ∈ sub.map (·.1) → a ∉ L :: envs.filterMap (·.frame) ∧ base.get? a = none := fun {a} ha => by
    obtain ⟨p, hp, rfl⟩ := List.mem_map.mp ha
    refine ⟨notFrame K N (hs p hp), ?_⟩
    cases q : base.get? p.1 with
    | none => rfl
    | some o => have := (N p (hs p hp)).2.2; rw [K.stays _ _ q] at this; cases this
  have st : base.StaysIn (hideAll s.heap (sub.map (·.1))) := fun b o e => hideAll_get _ (k.1 b o (baseNoFrame K F e) (F.keep b o (K.stays b o e))) fun q => by rw [(nosub q).2] at e; cases e
  have K' := pushX K F hf hk
  refine ⟨⟨K'.stack, st, ?_⟩, fun b o e => of_hideAll _ e, Nat.le_of_eq (hideAll_size _ _), XB.keeps st, TB.keeps st, hh⟩
  refine funFrames_hideAll (K'.frames.of_keeps fun b o e nf => ?_) fun env' he b hb hf' => (nosub hb).1 (frame_mem hf he hf')
  obtain ⟨sl, hs⟩ := keepUp k b o e nf
  exact ⟨_, hs, rfl⟩
theorem keepOf (hl : ∀ p ∈ sub, h.get? p.1 = some p.2) {fr : List Env} (k : (bare (hideAll h (sub.map (·.1))) fr).StaysIn h') (u : (hideAll h (sub.map (·.1))).UpToSlots h') (kp : ∀ p ∈ sub, h'.get? p.1 = some p.2) : KeepBut (fr.filterMap (·.frame)) h h' := by
  have key : ∀ a ∈ sub.map (·.1), ∀ o, h.get? a = some o → h'.get? a = some o := fun a ha o e => by
    obtain ⟨p, hp, rfl⟩ := List.mem_map.mp ha
    rw [hl p hp] at e
    exact Option.some.inj e ▸ kp p hp
  refine ⟨fun b o nb e => ?_, fun b o _ e nf => upSlots_unhide u key b o e nf⟩
  by_cases hb : b ∈ sub.map (·.1)
  · exact key b hb o e
  · exact k b o (bare_get (hideAll_get _ e hb) nb)
end
end

section
open PySem PySem.W PySem.Calls PyProof.Rows PySem.Spec PyProof.V
noncomputable def StrsOf (ys : List Value) (ns : List Str) : Prop := ys.length = ns.length ∧ ∀ (j : Nat) y, ys[j]? = some y → ∃ x tok, ns[j]? = some x ∧ y = .str x tok
noncomputable def isStr (x : Str) : Value → Bool
  | .str y _ => y == x
  | _ => false
theorem StrsOf.tail {v : Value} {ys : List Value} {n : Str} {ns : List Str} (h : StrsOf (v :: ys) (n :: ns)) : StrsOf ys ns := ⟨by simpa using h.1, fun j y e => by simpa using h.2 (j + 1) y (by simpa using e)⟩
theorem StrsOf.head {v : Value} {ys : List Value} {n : Str} {ns : List Str} (h : StrsOf (v :: ys) (n :: ns)) : ∃ t, v = .str n t := by
  obtain ⟨x, t, e1, e2⟩ := h.2 0 v rfl
  obtain rfl : n = x := Option.some.inj e1
  exact ⟨t, e2⟩
theorem any_strs (x : Str) : ∀ {ys : List Value} {ns : List Str}, StrsOf ys ns → ys.any (isStr x) = decide (x ∈ ns)
  | [], [], _ => by simp
  | [], _ :: _, h => by have := h.1; simp at this
  | _ :: _, [], h => by have := h.1; simp at this
  | v :: ys, n :: ns, h => by
    obtain ⟨t, rfl⟩ := h.head
    rw [List.any_cons, any_strs x h.tail]
    by_cases e : n = x
    · subst e; simp [isStr]
    · have e' : ¬ x = n := fun q => e q.symm
      simp [isStr, e, e']
theorem gives_strs {x : Str} {u : Tok} {ys : List Value} {ns : List Str} (h : StrsOf ys ns) : ∀ y, y ∈ ys.toArray → MeetsSeq.EqGives y (.str x u) (isStr x y) := fun y hy => by
  obtain ⟨j, hj⟩ := List.getElem?_of_mem (show y ∈ ys by simpa using hy)
  obtain ⟨z, t, _, rfl⟩ := h.2 j y hj
  exact eqGives_str z x t u
section
variable {prog : Program} {w : World} {A : Around} {E : Value → Shared → Prop} {s : Shared}
theorem in_strs {l : Addr} {ys : List Value} {ns : List Str} {x : Str} {u : Tok} {Q : Value → Shared → Prop} (hl : s.heap.IsList l ys.toArray) (hy : StrsOf ys ns) (h : Q (.bool (decide (x ∈ ns))) s) :
    wpAny (model prog w) A (compareOp .In (.str x u) (.ref l)) Q E s :=
  PySem.SeqInW.in_listW (isStr x) (gives_strs hy) hl (by rw [← any_strs x hy] at h; simpa using h)
theorem notin_strs {l : Addr} {ys : List Value} {ns : List Str} {x : Str} {u : Tok} {Q : Value → Shared → Prop} (hl : s.heap.IsList l ys.toArray) (hy : StrsOf ys ns) (h : Q (.bool (!decide (x ∈ ns))) s) :
    wpAny (model prog w) A (compareOp .NotIn (.str x u) (.ref l)) Q E s :=
  PySem.SeqInW.notIn_listW (isStr x) (gives_strs hy) hl (by rw [← any_strs x hy] at h; simpa using h)
theorem index_strs {l : Addr} {ys : List Value} {ns : List Str} {x : Str} {u : Tok} {k : Nat} {Q : Value → Shared → Prop} (hl : s.heap.get? l = some (listOf ys.toArray k)) (hy : StrsOf ys ns) (hx : x ∈ ns) (h9 : ns.length ≤ 9) (h : Q (.int (ns.idxOf x) s.toks) { s with toks := s.toks + 1 }) :
    wpAny (model prog w) A (call (.builtin "list.index") [.ref l, .str x u]) Q E s := by
  have hj := List.idxOf_lt_length_of_mem hx
  have hlen := hy.1
  have hat : ∀ m (hm : m < ys.toArray.size), isStr x ys.toArray[m] = decide (ns[m]'(by simpa [← hlen] using hm) = x) := fun m hm => by
    have hm' : m < ys.length := by simpa using hm
    obtain ⟨z, t, e1, e2⟩ := hy.2 m ys[m] (List.getElem?_eq_getElem hm')
    have e3 : ns[m]'(by omega) = z := by rw [List.getElem?_eq_getElem (by omega)] at e1; exact Option.some.inj e1
    have e4 : ys.toArray[m] = .str z t := by simpa using e2
    rw [e4, e3]
    by_cases q : z = x <;> simp [isStr, q]
  refine call_meets PySem.F.slot_list_index ⟨_, hl, rfl⟩ PySem.F.entry_list_index (PySem.F.args_list_index_2 _ _)
    (MeetsSeq.list_index l ys.toArray k (.str x u) (isStr x) (gives_strs hy) (ns.idxOf x) (by simpa [hlen] using hj) (by omega) ?_ ?_) ⟨hl, h⟩
  · rw [hat]; simp
  · intro m hm hlt
    rw [hat]
    have := List.not_of_lt_findIdx (p := (· == x)) (xs := ns) (i := m) hlt
    simpa using this
end
end

section
open PySem PySem.W PySem.Calls PyProof.Rows PySem.Spec PyProof.V
local macro_rules | `(tactic| walk_at $s) => Mine.red [("compareOp In str ref", "m"), ("call builtin:list.index", "m")] s
/-- a relation that was told -/
structure Tld where
  (x : Str) (many : Int) (lo up : Addr) (RL RU : Rel)
inductive TldAt (h : Heap) (t : Tld) (v : Value) : Prop
  | of  (a) (u) (mt) (z1 : v = .ref a) (z2 : h.get? a = some (tldObj t.x u (.int t.many mt) t.lo t.up)) (z3 : RelAt h t.lo t.RL) (z4 : RelAt h t.up t.RU) : TldAt h t v
inductive TldGet (h : Heap) (ts : List Tld) (i : Nat) (v : Value) : Prop
  | of (t : Tld) (e : ts[i]? = some t) (x : TldAt h t v) : TldGet h ts i v
noncomputable def TldsAre (h : Heap) (vs : List Value) (ts : List Tld) : Prop := vs.length = ts.length ∧ ∀ (i : Nat) (v : Value), vs[i]? = some v → TldGet h ts i v
theorem TldAt.keeps {h h' : Heap} {t : Tld} {v : Value} (x : TldAt h t v) (k : h.StaysIn h') : TldAt h' t v := let ⟨a, u, mt, e, g, r1, r2⟩ := x; ⟨a, u, mt, e, k _ _ g, r1.keeps k, r2.keeps k⟩
theorem TldsAre.keeps {h h' : Heap} {vs : List Value} {ts : List Tld} (x : TldsAre h vs ts) (k : h.StaysIn h') : TldsAre h' vs ts := ⟨x.1, fun i v e => let ⟨t, a, b⟩ := x.2 i v e; ⟨t, a, b.keeps k⟩⟩
noncomputable def numOf (ns : List Str) (x : Str) : Int := if x ∈ ns then (ns.idxOf x : Int) else -1
/-- the dict of numbers tells the places of the names -/
noncomputable def NumsAre (Dn : List (PyData × PyData)) (ns : List Str) : Prop := ∀ x, lookup (.str x) Dn = if x ∈ ns then some (.int (ns.idxOf x)) else none

theorem led_stays {G h h' : Heap} {L : Addr} {news sub : List (Addr × Obj)} (N : News G L h news) (hs : ∀ p ∈ sub, p ∈ news) (k : (hideAll h (sub.map (·.1))).StaysIn h') (kp : ∀ p ∈ sub, h'.get? p.1 = some p.2) : h.StaysIn h' :=
  unhide k fun a ha o e => by
    obtain ⟨p, hp, rfl⟩ := List.mem_map.mp ha
    rw [(N p (hs p hp)).1] at e
    exact Option.some.inj e ▸ kp p hp
theorem led_out {G h : Heap} {L : Addr} {news sub : List (Addr × Obj)} (N : News G L h news) (hs : ∀ p ∈ sub, p ∈ news) : ∀ a ∈ sub.map (·.1), G.get? a = none ∧ a ≠ L := fun a ha => by
  obtain ⟨p, hp, rfl⟩ := List.mem_map.mp ha
  exact ⟨(N p (hs p hp)).2.2, (N p (hs p hp)).2.1⟩
theorem led_in {G h : Heap} {L : Addr} {news sub : List (Addr × Obj)} (N : News G L h news) (hs : ∀ p ∈ sub, p ∈ news) : ∀ p ∈ sub, h.get? p.1 = some p.2 ∧ (hideAll h (sub.map (·.1))).get? p.1 = none := fun p hp => ⟨(N p (hs p hp)).1, hideAll_none _ (List.mem_map_of_mem hp)⟩
theorem led_up {G h : Heap} {L : Addr} {news sub : List (Addr × Obj)} (N : News G L h news) (hs : ∀ p ∈ sub, p ∈ news) (k : G.StaysIn h) : G.StaysIn (hideAll h (sub.map (·.1))) := fun b o e => hideAll_get _ (k b o e) fun q => by
  rw [(led_out N hs b q).1] at e; cases e
noncomputable def tldD (t : Tld) : PyData := .tuple [.str t.x, .int t.many, relD t.RL, relD t.RU]
theorem eqv_cels_refl : ∀ r : List Cel, PyData.eqvAll (r.map celD) (r.map celD) = true
  | [] => by simp [PyData.eqvAll]
  | .int i :: r => by simp [PyData.eqvAll, celD, PyData.eqv, eqv_cels_refl r]
  | .no :: r => by simp [PyData.eqvAll, celD, PyData.eqv, eqv_cels_refl r]
theorem eqv_rows_refl : ∀ rs : List (List Cel), PyData.eqvAll (rs.map rowD) (rs.map rowD) = true
  | [] => by simp [PyData.eqvAll]
  | r :: rs => by simp [PyData.eqvAll, rowD, PyData.eqv, eqv_cels_refl r, eqv_rows_refl rs]
theorem eqv_rel_refl (R : Rel) : PyData.eqv (relD R) (relD R) = true := by unfold relD; split <;> simp [PyData.eqv, eqv_rows_refl]
theorem eqv_tld_refl (t : Tld) : PyData.eqv (tldD t) (tldD t) = true := by simp [tldD, PyData.eqv, PyData.eqvAll, eqv_rel_refl]
theorem shaped_tld {t : Tld} (h : (PyData.str t.x).canLay0 = true) : PySem.SeqAt.shaped (tldD t) = true := shaped_of (by simp [tldD, PyData.canLay0, PyData.canLayAll0, canLay_rel]; simpa [PyData.canLay0] using h)
  (by have := depth_rel t.RL; have := depth_rel t.RU; simp [tldD, PyData.depth, PyData.depthAll]; omega)
theorem reads_tld {h : Heap} {t : Tld} {a : Addr} {u mt : Tok} (g : h.get? a = some (tldObj t.x u (.int t.many mt) t.lo t.up)) (r1 : RelAt h t.lo t.RL) (r2 : RelAt h t.up t.RU) : ∃ as, Reads h (.ref a) (tldD t) as := by
  obtain ⟨a1, x1⟩ := reads_rel r1
  obtain ⟨a2, x2⟩ := reads_rel r2
  exact ⟨_, .tuple g rfl rfl (.cons (.str t.x u) (.cons (.int t.many mt) (.cons x1 (.cons x2 .nil))))⟩
theorem reads3 {h : Heap} {f : Nat → Int} {ys : List Value} (hl : ys.length = 3) (hy : ∀ (j : Nat) y, ys[j]? = some y → ∃ tok, y = .int (f j) tok) : ReadsAll h ys [.int (f 0), .int (f 1), .int (f 2)] [] := by
  obtain ⟨a, ys, g2⟩ := lenCons (n := 2) hl
  obtain ⟨b, ys, g1⟩ := lenCons (n := 1) g2
  obtain ⟨c, ys, g0⟩ := lenCons (n := 0) g1
  obtain rfl := List.eq_nil_of_length_eq_zero g0
  obtain ⟨t1, rfl⟩ := hy 0 a rfl
  obtain ⟨t2, rfl⟩ := hy 1 b rfl
  obtain ⟨t3, rfl⟩ := hy 2 c rfl
  exact .cons (as := []) (.int _ _) (.cons (as := []) (.int _ _) (.cons (as := []) (.int _ _) .nil))
set_option maxHeartbeats 4000000 in
theorem is_kept_call {w : World} {b : Bnd} {A : Around} {base G : Heap} {envs : List Env} {mean : ExcName → Option Value} {mg mb : Str → Option Value} {s : Shared} {Q E : Value → Shared → Prop} {d : Held} {tl : Addr} {titems : List Value} {ts : List Tld}
    (H : At w A base envs mean mg mb G s) (XB : (Mine.hd.heap_39 w.params).In base) (TB : Top Mine.hd.view_39 (looseW Mine.hd.view_39 []) mean mg mb base) (hd : A.depth ≤ 415) (hu : A.units ≤ 250)
    (hN : ∀ p ∈ b.led d, s.heap.get? p.1 = some p.2 ∧ G.get? p.1 = none) (hok : d.Ok b w) (hl : G.IsList tl titems.toArray) (h1 : TldsAre G d.items ts) (h2 : TldsAre G titems ts) (hD : NumsAre d.Dn (ts.map (·.x))) (hts : ts.length ≤ 9) (hxs : ∀ t ∈ ts, t.x.length ≤ 100 ∧ (PyData.str t.x).canLay0 = true)
    (ok : ∀ h' tk', (bare G envs).StaysIn h' → G.UpToSlots h' → (∀ p ∈ b.led d, h'.get? p.1 = some p.2) → Q (.bool true) { s with heap := h', toks := tk' }) :
    wpAny (model Challenge.pw_nu0267_01 w) A (call (.ref 239) [.ref b.B, .ref tl]) Q E s := by
  revert hd hu
  refine At.lit (P := fun A => (A.depth ≤ _) → (A.units ≤ _) → wpAny _ A _ _ _ _) H fun dp gd un H hd hu => ?_
  dsimp only at hd hu
  refine wpAny_call ?_
  k_dflt (refine' enterC (binds := [(Str.ofString "bounds", .ref b.B), (Str.ofString "told", .ref tl)]) H hN ?ho ?hcd ?hroom ?hbind ?hkind ?hnd ?_ ?hco ?hgen ?hk)
  case ho => k_is
  case hcd => k_is
  case hroom => k_room
  case hbind => exact BindsTo.of_eq rfl
  case hkind => exact rfl
  case hnd => decide +kernel
  case hco => exact rfl
  case hgen => exact rfl
  case hk => exact rfl
  intro L' h₁ tk cells env0 M0 F N Y B X T hs hL l1
  k_cells Y
  (try dsimp only [List.cons_append, List.nil_append] at N)
  (try dsimp only); (try ((show wpAny _ _ _ _ _ _); k_fold))
  have hsub : ∀ {q1 q2 : Addr × Obj}, ∀ p ∈ b.led d, p ∈ q1 :: q2 :: b.led d := fun p hp => .tail _ (.tail _ hp)
  have ht9 : titems.length ≤ 9 := by rw [h2.1]; exact hts
  have hlen : d.items.length = titems.length := by rw [h1.1, h2.1]
  k_steps
  refine bsize_call (callee_at _ B X T rfl F rfl rfl (led_out N hsub)) (by rw [depth_deeper]; dsimp only; omega) (by rw [units_deeper]; dsimp only; omega) (led_in N hsub) hok.it fun t h2' tk2 k2 kp2 => ?_
  have F2 := frStays F (led_stays N hsub k2 kp2)
  have N2 := newsStays N (led_stays N hsub k2 kp2)
  k_steps
  refine PyProof.Rows.len_list (hl.at fun o e => Fr.keep (by assumption) _ o e) (by simp; omega) ?_
  k_steps
  refine PyProof.Rows.len_list (hl.at fun o e => Fr.keep (by assumption) _ o e) (by simp; omega) ?_
  k_steps
  refine iter_rangeF (n := titems.length) "r" (fun i _ => True) (by assumption) ?small ?rs rfl (by assumption) (by assumption) trivial ?turn ?done
  case small => rw [List.size_toArray]; exact small_one (by omega) (by omega) (by omega) (by omega)
  case rs => rw [List.size_toArray, rangeSize_nat]; omega
  case turn =>
    intro i t5 u5 h5 tk5 own5 hi5 _ F5 N5
    obtain ⟨v1, e1⟩ : ∃ v, d.items[i]? = some v := ⟨d.items[i]'(by omega), List.getElem?_eq_getElem (by omega)⟩
    obtain ⟨v2, e2⟩ : ∃ v, titems[i]? = some v := ⟨titems[i]'(by omega), List.getElem?_eq_getElem (by omega)⟩
    obtain ⟨t, g1, a1, u1, m1, rfl, ha1, rl1, ru1⟩ := h1.2 i v1 e1
    obtain ⟨t', g2, a2, u2, m2, rfl, ha2, rl2, ru2⟩ := h2.2 i v2 e2
    obtain rfl : t = t' := Option.some.inj (g1.symm.trans g2)
    have ht := List.mem_of_getElem? g1
    have hui : ∀ {e : Env}, (Around.deeper { handled := none, depth := dp, frames := some envs, guards := gd, units := un } e).units + 65 < cLine := fun {e} => by rw [units_deeper, cLine_is]; dsimp only; omega
    have hsubA : ∀ {q1 q2 : Addr × Obj} {own : List (Addr × Obj)}, ∀ p ∈ b.led d, p ∈ (q1 :: q2 :: b.led d) ++ own := fun p hp => List.mem_append_left _ (.tail _ (.tail _ hp))
    (try dsimp only); (try ((show wpAny _ _ _ _ _ _); k_fold))
    k_steps
    refine bound_call (j := i) (callee_at _ B X T rfl F5 rfl rfl (led_out N5 hsubA)) (by rw [depth_deeper]; dsimp only; omega) (by rw [units_deeper]; dsimp only; omega) (led_in N5 hsubA) (by omega) e1 (by omega) fun h6 tk6 k6 kp6 => ?_
    have F6 := frStays F5 (led_stays N5 hsubA k6 kp6)
    have N6 := newsStays N5 (led_stays N5 hsubA k6 kp6)
    clear F5 N5
    k_steps
    refine list_at (hl.at fun o e => F6.keep _ o e) (by omega) (by omega) e2 ?_
    k_steps
    obtain ⟨as1, r1⟩ := reads_tld (F6.keep _ _ ha1) (rl1.keeps F6.keep) (ru1.keeps F6.keep)
    obtain ⟨as2, r2⟩ := reads_tld (F6.keep _ _ ha2) (rl2.keeps F6.keep) (ru2.keeps F6.keep)
    refine ne_dataH r1 r2 (shaped_tld (hxs t ht).2) (shaped_tld (hxs t ht).2) (Nat.lt_of_succ_lt hui) ?_
    rw [eqv_tld_refl]
    k_steps
    refine lower_call (j := i) (callee_at _ B X T rfl F6 rfl rfl (led_out N6 hsubA)) (by rw [depth_deeper]; dsimp only; omega) (by rw [units_deeper]; dsimp only; omega) (led_in N6 hsubA) (by omega) e1 (by omega) (led_up N6 hsubA F6.keep _ _ ha1) fun h7 tk7 k7 kp7 => ?_
    have F7 := frStays F6 (led_stays N6 hsubA k7 kp7)
    have N7 := newsStays N6 (led_stays N6 hsubA k7 kp7)
    clear F6 N6
    k_steps
    refine list_at (hl.at fun o e => F7.keep _ o e) (by omega) (by omega) e2 ?_
    k_steps
    refine tup_at (F7.keep _ _ ha2) (j := 2) rfl (by decide) rfl ?_
    k_steps
    obtain ⟨as1, r1⟩ := reads_rel (rl1.keeps F7.keep)
    refine ne_dataH r1 r1 (shaped_rel _) (shaped_rel _) (Nat.lt_of_succ_lt hui) ?_
    rw [eqv_rel_refl]
    k_steps
    refine upper_call (j := i) (callee_at _ B X T rfl F7 rfl rfl (led_out N7 hsubA)) (by rw [depth_deeper]; dsimp only; omega) (by rw [units_deeper]; dsimp only; omega) (led_in N7 hsubA) (by omega) e1 (by omega) (led_up N7 hsubA F7.keep _ _ ha1) fun h8 tk8 k8 kp8 => ?_
    have F8 := frStays F7 (led_stays N7 hsubA k8 kp8)
    have N8 := newsStays N7 (led_stays N7 hsubA k8 kp8)
    clear F7 N7
    k_steps
    refine list_at (hl.at fun o e => F8.keep _ o e) (by omega) (by omega) e2 ?_
    k_steps
    refine tup_at (F8.keep _ _ ha2) (j := 3) rfl (by decide) rfl ?_
    k_steps
    obtain ⟨as1, r1⟩ := reads_rel (ru1.keeps F8.keep)
    refine ne_dataH r1 r1 (shaped_rel _) (shaped_rel _) (Nat.lt_of_succ_lt hui) ?_
    rw [eqv_rel_refl]
    k_steps
    exact ⟨_, _, _, rfl, F8, N8, fun y h1 h2 => by simp only [if_neg h1], trivial⟩
  case done =>
    intro u5 h5 tk5 _ F5 N5
    (try dsimp only); (try ((show wpAny _ _ _ _ _ _); k_fold))
    k_steps
    refine lc_over (G := G) (fun i ys => ys.length = i ∧ ∀ (j : Nat) y, ys[j]? = some y → ∃ t tok, ts[j]? = some t ∧ y = .str t.x tok) (by rfl) (by decide) rfl (by decide) rfl rfl ⟨rfl, fun j y e => by simp at e⟩ ?_
    k_steps
    refine lcGo (.inr (hl.at fun o e => Fr.keep (by assumption) _ o e)) (by assumption) (by assumption) (by rw [sizeLine_eq]; omega) ?turn2 ?done2
    case turn2 =>
      intro C i v ys h6 tk6 m6 E6 hv hyl hJ st6 hn6 hm6
      have F6 := frStays (by assumption) st6
      have N6 := newsStays (by assumption) st6
      obtain ⟨t, g1, a1, u1, m1, rfl, ha1, _, _⟩ := h2.2 i v hv
      refine lcTests_nil ?_
      k_steps
      refine tup_at (F6.keep _ _ ha1) (j := 0) rfl (by decide) rfl ?_
      k_steps
      refine lcElt (fun _ _ e => e) ⟨by rw [List.length_append, hJ.1]; rfl, fun j y hy => ?_⟩
      by_cases hji : j < ys.length
      · rw [List.getElem?_append_left hji] at hy
        exact hJ.2 j y hy
      · have hl1 := (List.getElem?_eq_some_iff.mp hy).1
        rw [List.length_append, List.length_singleton] at hl1
        obtain rfl : j = i := by have := hJ.1; omega
        rw [List.getElem?_append_right (by omega), hJ.1, Nat.sub_self] at hy
        exact ⟨t, u1, g1, (Option.some.inj hy).symm⟩
    case done2 =>
      intro D h6 tk6 ys k6 F6 N6 lD hyl hJ st6 hDz
      (try dsimp only)
      k_steps
      refine storeX_C (c := L' + 1 + 1) F6 N6 rfl (.tail (Nat.ne_of_gt (lD _ (.head _))) (.head fun p hp => ?_)) (by assumption) (fun h7 o7 F7 N7 d7 => ?_) rfl rfl
      · rcases List.mem_cons.mp hp with rfl | hp
        · exact Nat.ne_of_lt (Nat.lt_succ_self _)
        · exact Nat.ne_of_lt (Nat.lt_succ_of_lt (Nat.lt_succ_of_lt (l1 p hp)))
      clear F6 N6
      k_steps
      refine lc_overF (fun i ys => ys.length = i ∧ ∀ (j : Nat) y, ys[j]? = some y → ∃ tok, y = .int (numOf (ts.map (·.x)) ([Str.ofString "r", Str.ofString "s", Str.ofString "t"].getD j (Str.ofString "r"))) tok) (L' :: envs.filterMap (·.frame)) (by rfl) (by decide) rfl (by decide) rfl rfl ⟨rfl, fun j y e => by simp at e⟩ ?_
      k_steps
      have hsubC : ∀ {q1 q2 q3 q4 : Addr × Obj}, ∀ p ∈ b.led d, p ∈ q1 :: q2 :: q3 :: q4 :: b.led d := fun p hp => .tail _ (.tail _ (.tail _ (.tail _ hp)))
      refine newTup_stays F7 N7 (fun h8 F8 N8 k8 l8 => ?_) (by rw [sizeLine_eq]; exact Nat.le_of_ble_eq_true rfl)
      have X8 := XB.keeps (base_bare B)
      have T8 := TB.keeps (base_bare B)
      have hfr8 : ∀ c ∈ L' :: envs.filterMap (·.frame), c < h8.objs.size ∧ c ≠ h7.objs.size := fun c hc => by
        have : c < h7.objs.size := by
          rcases List.mem_cons.mp hc with rfl | hc
          · exact F7.ns.lt
          · obtain ⟨env', he', hf'⟩ := List.mem_filterMap.mp hc
            obtain ⟨L₁, o₁, hf₁, ho₁⟩ := funFrames_in B.frames env' he'
            rw [hf₁] at hf'
            exact (Option.some.inj hf') ▸ Heap.lt_size (F7.keep _ _ ho₁)
        exact ⟨Nat.lt_trans this (Heap.lt_size (N8 _ (.head _)).1), Nat.ne_of_lt this⟩
      clear F F7 N7
      refine ⟨h7.objs.size, _, ⟨_, (N8 _ (.head _)).1, rfl, _, rfl⟩, fun q => (hfr8 _ q).2 rfl, fun c hc => (hfr8 c hc).1, by rw [sizeLine_eq]; exact Nat.le_of_ble_eq_true rfl, ?turn3, ?done3⟩
      case turn3 =>
        intro C i v ys3 h9 tk9 m9 E9 hv hyl hJ kb hn9 hm9 hC
        have F9 := frAgain B F8 kb
        have N9 := newsAgain B N8 kb
        obtain ⟨xs, tok, rfl, hxs3, hx100⟩ : ∃ x tok, v = .str x tok ∧ x = [Str.ofString "r", Str.ofString "s", Str.ofString "t"].getD i (Str.ofString "r") ∧ x.length ≤ 100 := by
          match i, hv with
          | 0, hv => exact ⟨_, _, (Option.some.inj hv).symm, rfl, by decide +kernel⟩
          | 1, hv => exact ⟨_, _, (Option.some.inj hv).symm, rfl, by decide +kernel⟩
          | 2, hv => exact ⟨_, _, (Option.some.inj hv).symm, rfl, by decide +kernel⟩
          | i + 3, hv => simp at hv
        k_steps
        refine law_number_call (atAgain B F8 N8 hsubC XB TB rfl rfl rfl kb rfl) XB TB (by rw [depth_deeper]; dsimp only; omega) (by rw [units_deeper]; dsimp only; omega) (led_in N9 hsubC) hok hx100 (fun dv e => ?_) fun k hk t h10 tk10 k10 u10 kp10 => ?_
        · rw [hD xs] at e
          split at e
          · exact ⟨_, (Option.some.inj e).symm⟩
          · cases e
        have kb10 := keepOf (fun p hp => (N9 p (hsubC p hp)).1) k10 u10 kp10
        (try k_unfold)
        refine ⟨h10, _, kb10, by rw [List.length_append, hJ.1]; rfl, fun j y hy => ?_⟩
        by_cases hji : j < ys3.length
        · rw [List.getElem?_append_left hji] at hy
          exact hJ.2 j y hy
        · have hl1 := (List.getElem?_eq_some_iff.mp hy).1
          rw [List.length_append, List.length_singleton] at hl1
          obtain rfl : j = i := by have := hJ.1; omega
          rw [List.getElem?_append_right (by omega), hJ.1, Nat.sub_self] at hy
          rw [← hxs3, numOf]
          rw [hD xs] at hk
          obtain rfl := Option.some.inj hy
          refine ⟨t, ?_⟩
          by_cases hin : xs ∈ ts.map (·.x)
          · rw [if_pos hin] at hk
            rcases hk with hk | ⟨hk, _⟩
            · rw [if_pos hin, ← PyData.int.inj (Option.some.inj hk)]
            · cases hk
          · rw [if_neg hin] at hk
            rcases hk with hk | ⟨_, rfl⟩
            · cases hk
            · rw [if_neg hin]
      case done3 =>
        intro D3 h9 tk9 ys3 k9 hD3 hDs hyl hJ3 kb
        have F9 := frAgain B F8 kb
        have N9 := newsAdd (frLow F8 bare_up (Nat.le_of_eq (hideAll_size _ _))) (newsAgain B N8 kb) hDs hD3
        have k9' : G.UpToSlots h9 := Heap.UpToSlots.trans (Heap.UpToSlots.of_keeps F8.keep) (keepUp kb)
        clear F8 N8 B X T
        (try dsimp only)
        have hso : StrsOf ys (ts.map (·.x)) := ⟨by rw [List.length_map, hJ.1, h2.1], fun j y e => by
          obtain ⟨t, tok, g, e2⟩ := hJ.2 j y e
          exact ⟨t.x, tok, by rw [List.getElem?_map, g]; rfl, e2⟩⟩
        k_steps
        refine lc_over (G := bare G envs) (fun i ys => ys.length = i ∧ ∀ (j : Nat) y, ys[j]? = some y → ∃ tok, y = .int (numOf (ts.map (·.x)) ([Str.ofString "r", Str.ofString "s", Str.ofString "t"].getD j (Str.ofString "r"))) tok) (by rfl) (by decide) rfl (by decide) rfl rfl ⟨rfl, fun j y e => by simp at e⟩ ?_
        k_steps
        refine newTup_stays F9 N9 (fun h11 F11 N11 k11 l11 => ?_) (by rw [sizeLine_eq]; exact Nat.le_of_ble_eq_true rfl)
        refine lcGo (.inl ⟨_, (N11 _ (.head _)).1, rfl, _, rfl⟩) F11 N11 (by rw [sizeLine_eq]; exact Nat.le_of_ble_eq_true rfl) ?turn4 ?done4
        case turn4 =>
          intro C i v ys4 h12 tk12 m12 E12 hv hyl4 hJ4 st12 hn12 hm12
          have F12 := frStays F11 st12
          have N12 := newsStays N11 st12
          obtain ⟨xs, tok, rfl, hxs3⟩ : ∃ x tok, v = .str x tok ∧ x = [Str.ofString "r", Str.ofString "s", Str.ofString "t"].getD i (Str.ofString "r") := by
            match i, hv with
            | 0, hv => exact ⟨_, _, (Option.some.inj hv).symm, rfl⟩
            | 1, hv => exact ⟨_, _, (Option.some.inj hv).symm, rfl⟩
            | 2, hv => exact ⟨_, _, (Option.some.inj hv).symm, rfl⟩
            | i + 3, hv => simp at hv
          refine lcTests_nil ?_
          have hns : (ts.map (·.x)).length ≤ 9 := by rw [List.length_map]; exact hts
          have fin : ∀ k tk, k = numOf (ts.map (·.x)) xs → (ys4 ++ [Value.int k tk]).length = i + 1 ∧ ∀ (j : Nat) y, (ys4 ++ [Value.int k tk])[j]? = some y → ∃ tok, y = .int (numOf (ts.map (·.x)) ([Str.ofString "r", Str.ofString "s", Str.ofString "t"].getD j (Str.ofString "r"))) tok := by
            rintro k tk rfl
            refine ⟨by rw [List.length_append, hJ4.1]; rfl, fun j y hy => ?_⟩
            by_cases hji : j < ys4.length
            · rw [List.getElem?_append_left hji] at hy
              exact hJ4.2 j y hy
            · have hl1 := (List.getElem?_eq_some_iff.mp hy).1
              rw [List.length_append, List.length_singleton] at hl1
              obtain rfl : j = i := by have := hJ4.1; omega
              rw [List.getElem?_append_right (by omega), hJ4.1, Nat.sub_self] at hy
              rw [← hxs3]
              exact ⟨tk, (Option.some.inj hy).symm⟩
          k_steps
          refine in_strs (News.isList N12 (.tail _ (.tail _ (.tail _ (.head _))))) hso ?_
          k_steps
          · rename_i hin
            have hin' : xs ∈ ts.map (·.x) := by simpa using hin
            refine index_strs (N12 _ (.tail _ (.tail _ (.tail _ (.head _))))).1 hso hin' hns ?_
            k_steps
            exact lcElt (fun _ _ e => e) (fin _ _ (by rw [numOf, if_pos hin']))
          · rename_i hin
            have hin' : ¬ xs ∈ ts.map (·.x) := by simpa using hin
            exact lcElt (fun _ _ e => e) (fin _ _ (by rw [numOf, if_neg hin']))
        case done4 =>
          intro D4 h12 tk12 ys4 k12 F12 N12 lD4 hyl4 hJ4 st12 hD4
          (try dsimp only)
          have r1 : Reads h12 (.ref D3) (.list _) [D3] := .list (N12 _ (.tail _ (.tail _ (.head _)))).1 rfl rfl (reads3 (f := fun j => numOf (ts.map (·.x)) ([Str.ofString "r", Str.ofString "s", Str.ofString "t"].getD j (Str.ofString "r"))) hJ3.1 hJ3.2)
          have r2 : Reads h12 (.ref D4) (.list _) [D4] := .list (N12 _ (.head _)).1 rfl rfl (reads3 (f := fun j => numOf (ts.map (·.x)) ([Str.ofString "r", Str.ofString "s", Str.ofString "t"].getD j (Str.ofString "r"))) hJ4.1 hJ4.2)
          refine eq_dataH r1 r2 (shaped_of (by simp [PyData.canLay0, PyData.canLayAll0]) (by simp [PyData.depth, PyData.depthAll])) (shaped_of (by simp [PyData.canLay0, PyData.canLayAll0]) (by simp [PyData.depth, PyData.depthAll])) (by rw [units_deeper, cLine_is]; dsimp only; omega) ?_
          rw [show PyData.eqv _ _ = true by simp [PyData.eqv, PyData.eqvAll]]
          k_steps
          exact ok _ _ F12.keep (Heap.UpToSlots.trans k9' (Heap.UpToSlots.of_keeps fun c o e => st12 c o (k11 c o e))) fun p hp => (N12 p (.tail _ (.tail _ (.tail _ (hsubC p hp))))).1
end

section
open PySem PySem.W PySem.Calls PyProof.Rows PySem.Spec PyProof.V
set_option maxHeartbeats 4000000 in
theorem digit_call {w : World} {A : Around} {base G : Heap} {envs : List Env} {mean : ExcName → Option Value} {mg mb : Str → Option Value} {s : Shared} {Q E : Value → Shared → Prop}
    {r : Addr} {x k : Int} {t u : Tok} {n : Nat}
    (H : At w A base envs mean mg mb G s) (hr : s.heap.get? r = some (listOf #[.int x t] n)) (hG : G.get? r = none) (hk : 0 < k) (hk2 : k ≤ 1000) (hx : 0 ≤ x) (hx2 : x < 2 ^ 60)
    (hd : A.depth ≤ 450) (hu : A.units ≤ 500)
    (hret : ∀ t' u' n' h' tk' , G.StaysIn h' → h'.get? r = some (listOf #[.int (x / k) u'] n') → Q (.int (x % k) t') { s with heap := h', toks := tk' }) :
    wpAny (model Challenge.pw_nu0267_01 w) A (call (.ref 203) [.ref r, .int k u]) Q E s := by
  revert hd hu
  refine At.lit (P := fun A => (A.depth ≤ _) → (A.units ≤ _) → wpAny _ A _ _ _ _) H fun dp gd un H hd hu => ?_
  dsimp only at hd hu
  refine wpAny_call ?_
  k_dflt (refine' enter (binds := [(Str.ofString "rest", .ref r), (Str.ofString "many", .int k u)]) (news := [(r, listOf #[.int x t] n)]) H ?hN ?ho ?hcd ?hroom ?hbind ?hloc ?_ ?hcell ?hco ?hgen ?hk)
  case ho => k_is
  case hcd => k_is
  case hN => simp [hr, hG]
  case hroom => k_room
  case hbind => exact BindsTo.of_eq rfl
  case hloc => exact locs rfl
  case hcell => decide
  case hco => exact rfl
  case hgen => exact rfl
  case hk => exact rfl
  intro L' h₁ env0 M0 F N B X T hs hL
  (try dsimp only); (try ((show wpAny _ _ _ _ _ _); k_fold))
  k_steps
  refine list_at (vs := [.int x t]) (j := 0) (News.isList N (.head _)) rfl (by decide) rfl ?_
  k_steps
  refine list_at (vs := [.int x t]) (j := 0) (News.isList (by assumption) (.head _)) rfl (by decide) rfl ?_
  k_steps
  have e1 : Int.fmod x k = x % k := Int.fmod_eq_emod_of_nonneg _ (by omega)
  have e2 : Int.fdiv x k = x / k := Int.fdiv_eq_ediv_of_nonneg _ (by omega)
  (try dsimp only)
  rw [e1]
  (rename News _ _ _ _ => NN)
  (rename Fr _ _ _ _ => FF)
  have g := NN.get (.head _)
  rw [e2] at g
  exact hret _ _ _ _ _ FF.keep g
end

section
open PySem PySem.W PySem.Calls PyProof.Rows PySem.Spec
noncomputable abbrev lc2 (elt t1 i1 t2 i2 : Expr) (scope : Scope) (pos : Pos) : Expr := .ListComp elt [⟨t1, i1, [], 0⟩, ⟨t2, i2, [], 0⟩] scope pos
theorem compTurn2_in (elt t1 i1 t2 i2 : Expr) (scope : Scope) (pos : Pos) (it acc : Value) (env : Env) :
    compTurn (lc2 elt t1 i1 t2 i2 scope pos) 1 it acc env = (standAt i2.pos >>= fun _ => pyNext it >>= fun r => match r with
      | none => pure (.done .next)
      | some v => letOwnedTupleGo t2 it v >>= fun _ => assign t2 env v >>= fun _ =>
        (eval elt env >>= fun x => call (.builtin "list.append") [acc, x] >>= fun _ => pure ()) >>= fun _ =>
          again (.compLoop (lc2 elt t1 i1 t2 i2 scope pos) 1 it acc env)) := by rfl
theorem compTurn2_out (elt t1 i1 t2 i2 : Expr) (scope : Scope) (pos : Pos) (it acc : Value) (env : Env) :
    compTurn (lc2 elt t1 i1 t2 i2 scope pos) 0 it acc env = (standAt i1.pos >>= fun _ => pyNext it >>= fun r => match r with
      | none => pure (.done .next)
      | some v => letOwnedTupleGo t1 it v >>= fun _ => assign t1 env v >>= fun _ =>
        eval i2 env >>= fun x => standAt i2.pos >>= fun _ => foldedSetIterable i2 env x >>= fun x => holding [x] (pyIter x) >>= fun it' =>
          runOwn (.compStart (lc2 elt t1 i1 t2 i2 scope pos) 1 it' acc env) env >>= fun _ =>
          again (.compLoop (lc2 elt t1 i1 t2 i2 scope pos) 0 it acc env)) := by rfl
section
variable {prog : Program} {w : World} {A : Around} {E : Value → Shared → Prop} {R : Result → Shared → Prop} {s : Shared}
inductive Lc2I (s : Shared) (C D I : Addr) (hid : List Addr) (n : Nat) (f : Nat → Nat) (M : (Str → Option Value) → Prop) (St : Nat → Heap → Prop) (J : Nat → List Value → Heap → Prop) : Nat → Shared → Prop
  | mk (h' : Heap) (tk : Nat) (m' : Str → Option Value) (zs : List Value) (j : Nat) (z1 : St j h') (z2 : h'.PlainList D (List.toArray zs)) (z3 : h'.Ns C m') (z4 : M m') (z5 : J j zs (hideAll h' hid)) (z6 : zs.length = f j) (z7 : j ≤ n)
    (z8 : ∀ b o, b ≠ C → b ≠ D → b ≠ I → s.heap.get? b = some o → h'.get? b = some o) : Lc2I s C D I hid n f M St J (n + 1 - j) { s with heap := h', toks := tk }
theorem lc2_inner {elt t1 i1 i2 : Expr} {x y : Str} {px : Pos} {scope : Scope} {pos : Pos} {cenv : Env} {I D : Addr} {hid : List Addr} {n : Nat} {P : Nat → Value → Prop} {St : Nat → Heap → Prop} {m : Str → Option Value} {ys : List Value} {v : Value}
    (W : Walks prog w A I [I] [I] n P St) (hstI : ∀ j h, St j h → I < h.objs.size) (J : Nat → List Value → Heap → Prop) (hJ : ∀ j ys X X', X.StaysIn X' → J j ys X → J j ys X') (hy : cenv.kindOf y = some .local) (hp : (cenv.scope.kind == .class || (cenv.scope.kind == .module && cenv.locals != cenv.globals)) = false) (hxy : x ≠ y)
    (hC : cenv.locals ∈ hid) (hDh : D ∈ hid) (hI : I ∈ hid) (hDC : D ≠ cenv.locals) (hDI : D ≠ I) (hCI : cenv.locals ≠ I)
    (hst : St 0 s.heap) (hacc : s.heap.PlainList D (List.toArray ys)) (hn : s.heap.Ns cenv.locals m) (hm : m x = some v) (hj : J 0 ys (hideAll s.heap hid)) (hsz : ys.length + n ≤ sizeLine)
    (turn : ∀ j zs a h tk m', j < n → I < h.objs.size → P j a → zs.length = ys.length + j → h.Ns cenv.locals m' → m' x = some v → m' y = some a → (hideAll s.heap hid).StaysIn (hideAll h hid) → J j zs (hideAll h hid) →
      ∀ E', wpAny (model prog w) A (eval elt cenv) (LcElt s.gens s.drawn s.os h (fun z h₄ => J (j + 1) (zs ++ [z]) (hideAll h₄ hid))) E' { s with heap := h, toks := tk })
    (hR : ∀ h' tk m' zs, h'.Ns cenv.locals m' → h'.PlainList D (List.toArray zs) → zs.length = ys.length + n → J n zs (hideAll h' hid) → (∀ b o, b ∉ hid → s.heap.get? b = some o → h'.get? b = some o) → (∀ b o, b ≠ cenv.locals → b ≠ D → b ≠ I → s.heap.get? b = some o → h'.get? b = some o) → R (.ok .next) { s with heap := h', toks := tk }) :
    codeAny (model prog w) A (.compLoop (lc2 elt t1 i1 (.Name y px) i2 scope pos) 1 (.ref I) (.ref D) cenv) R s := by
  refine codeAny_loop rfl (Lc2I s cenv.locals D I hid n (fun j => ys.length + j) (fun m' => m' x = some v) St J) ?_ (n + 1) ⟨s.heap, s.toks, m, ys, 0, hst, hacc, hn, hm, hj, rfl, Nat.zero_le _, fun _ _ _ _ _ e => e⟩
  rintro k s' ⟨H, tk, m', zs, j, hst', hacc', hn', hm', hj', hzl, hjn, hk⟩
  show wpAny _ A ((compTurn (lc2 elt t1 i1 (.Name y px) i2 scope pos) 1 (.ref I) (.ref D) cenv).onRaise (fun x => do noteFrame x cenv; theTreesLotGoes x)) _ _ _
  refine wpAny_noted ?_
  rw [compTurn2_in]
  have outs : ∀ {h h' : Heap}, (∀ b o, b ≠ cenv.locals → b ≠ D → b ≠ I → h.get? b = some o → h'.get? b = some o) → (hideAll h hid).StaysIn (hideAll h' hid) := fun k => hideAll_up fun b o hb e => k b o (fun q => hb (q ▸ hC)) (fun q => hb (q ▸ hDh)) (fun q => hb (q ▸ hI)) e
  refine wpAny_bind (wpAny_standAt (wpAny_bind ?_))
  by_cases hlt : j < n
  · refine W.item j _ _ _ hlt hst' fun a h₁ tk₁ hP st₁ k₁ => ?_
    have k₁' : ∀ b o, b ≠ I → H.get? b = some o → h₁.get? b = some o := fun b o hb e => k₁ b o (by simpa using hb) e
    refine wpAny_bind (wpAny_of_eq (a := ()) rfl (wpAny_bind ?_))
    refine wpAny_assign_Name (wpAny_storeName_local hy (hn'.at' fun o e => k₁' _ o hCI e) (fun h₂ hn₂ hs₂ => ?_) hp)
    have k₂ : ∀ b o, b ≠ cenv.locals → b ≠ D → b ≠ I → H.get? b = some o → h₂.get? b = some o := fun b o h1 _ h3 e => hs₂.extBut b o h1 (k₁' b o h3 e)
    have st₂ : St (j + 1) h₂ := W.frame _ _ _ st₁ fun b hb o e => hs₂.extBut b o (fun q => hCI (q ▸ List.mem_singleton.mp hb)) e
    have acc₂ : h₂.PlainList D (List.toArray zs) := hacc'.at fun o e => hs₂.extBut D o hDC (k₁' D o hDI e)
    refine wpAny_bind (wpAny_bind (wpAny_mono (turn j zs a h₂ _ _ hlt (hstI _ _ st₂) hP hzl hn₂ (by simp only [if_neg hxy]; exact hm') (by simp) (fun b o e => outs (fun b o h1 h2 h3 e => k₂ b o h1 h2 h3 (hk b o h1 h2 h3 e)) b o e) (hJ _ _ _ _ (outs k₂) hj') _) (fun z s₄ h₄ => ?_) fun _ _ e => e))
    obtain ⟨h₄, tk₄, k₄, hj₄⟩ := h₄
    have hzs : zs.toArray.size ≤ sizeLine := by rw [List.size_toArray, hzl]; exact Nat.le_trans (Nat.add_le_add_left hjn _) hsz
    refine wpAny_bind (wpAny_list_append_plain (hsz := hzs) (acc₂.at fun o e => k₄ _ o e) fun h₅ hl₅ hs₅ => ?_)
    rw [List.push_toArray] at hl₅
    refine wpAny_pure (wpAny_pure ⟨rfl, n + 1 - (j + 1), decN hjn, h₅, tk₄, _, zs ++ [z], j + 1, ?_, hl₅, (hn₂.keeps k₄).sameBut hs₅ (Ne.symm hDC), by simp only [if_neg hxy]; exact hm', ?_, by rw [List.length_append, List.length_singleton, hzl]; rfl, hlt, fun b o h1 h2 h3 e => hs₅.extBut b o h2 (k₄ b o (k₂ b o h1 h2 h3 (hk b o h1 h2 h3 e)))⟩)
    · exact W.frame _ _ _ st₂ fun b hb o e => hs₅.extBut b o (fun q => hDI (q ▸ List.mem_singleton.mp hb)) (k₄ b o e)
    · exact hJ _ _ _ _ (outs fun b o _ h2 _ e => hs₅.extBut b o h2 e) hj₄
  · obtain rfl : j = n := Nat.le_antisymm hjn (Nat.le_of_not_lt hlt)
    refine W.done _ _ _ hst' fun h₁ tk₁ k₁ => ?_
    have k₁' : ∀ b o, b ≠ I → H.get? b = some o → h₁.get? b = some o := fun b o hb e => k₁ b o (by simpa using hb) e
    refine wpAny_pure (hR h₁ tk₁ m' zs (hn'.at' fun o e => k₁' _ o hCI e) (hacc'.at fun o e => k₁' _ o hDI e) hzl (hJ _ _ _ _ (outs fun b o _ _ h3 e => k₁' b o h3 e) hj') (fun b o hb e => ?_) fun b o h1 h2 h3 e => k₁' b o h3 (hk b o h1 h2 h3 e))
    exact k₁' b o (fun q => hb (q ▸ hI)) (hk b o (fun q => hb (q ▸ hC)) (fun q => hb (q ▸ hDh)) (fun q => hb (q ▸ hI)) e)
end
end

section
open PySem PySem.W PySem.Calls PyProof.Rows PySem.Spec
section
variable {prog : Program} {w : World} {A : Around} {E : Value → Shared → Prop} {R : Result → Shared → Prop} {s : Shared}
theorem compStart2_in {elt t1 i1 t2 i2 : Expr} {scope : Scope} {pos : Pos} {it acc : Value} {env : Env}
    (h0 : codeAny (model prog w) A (.compLoop (lc2 elt t1 i1 t2 i2 scope pos) 1 it acc env) R s)
    (h : wpAny (model prog w) A (pyIter it) (fun it' s' => codeAny (model prog w) A (.compLoop (lc2 elt t1 i1 t2 i2 scope pos) 1 it' acc env) R s')
      (notedBy (model prog w) A env fun x s' => R (.error x) s') s) :
    codeAny (model prog w) A (.compStart (lc2 elt t1 i1 t2 i2 scope pos) 1 it acc env) R s := by
  refine codeAny_of_tree ?_
  show wpAny _ _ ((compStart (lc2 elt t1 i1 t2 i2 scope pos) 1 it acc env).onRaise (fun x => do noteFrame x env; standAt theWindowsPlace)) _ _ s
  refine wpAny_notedAt ?_
  unfold compStart
  show wpAny _ _ (ask >>= _) _ _ s
  refine wpAny_bind (wpAny_askSetting (wpAny_ite ?_))
  split
  · first
      | exact wpAny_bind (wpAny_pure (wpAny_pure (And.intro rfl h0)))
      | exact wpAny_pure (And.intro rfl h0)
  · first
      | exact wpAny_bind (wpAny_rule (wpAny_bind (wpAny_standAt (wpAny_bind (wpAny_mono h (fun it' s' h' => wpAny_pure (And.intro rfl h')) fun _ _ x => x)))))
      | (refine wpAny_bind (wpAny_rule ?_); show wpAny _ _ (standAt i2.pos >>= _) _ _ s; exact wpAny_bind (wpAny_standAt (wpAny_bind (wpAny_mono h (fun it' s' h' => wpAny_pure (And.intro rfl h')) fun _ _ x => x))))

theorem hideAll_more {h : Heap} {l : List Addr} {a : Addr} (ha : h.get? a = none) : (hideAll h l).StaysIn (hideAll h (a :: l)) := fun b o e => by
  refine hideAll_get _ (of_hideAll _ e) fun q => ?_
  rcases List.mem_cons.mp q with rfl | q
  · have := of_hideAll _ e; rw [ha] at this; cases this
  · rw [hideAll_none _ q] at e; cases e
theorem hideAll_less {h : Heap} {l : List Addr} {a : Addr} : (hideAll h (a :: l)).StaysIn (hideAll h l) := fun b o e =>
  hideAll_get _ (of_hideAll _ e) fun q => by rw [hideAll_none _ (.tail _ q)] at e; cases e

inductive Lc2It (g : Array GenState) (d : Drawn) (o : OsState) (h : Heap) (n : Nat) : Value → Shared → Prop
  | mk (h₄ : Heap) (tk₄ : Nat) (r' : Addr) (t u v : Tok) (k : h.StaysIn h₄) (z : IsRange h₄ r' 0 n 1 t u v) : Lc2It g d o h n (.ref r') ⟨h₄, g, d, tk₄, o⟩
theorem lc2_outer {elt i1 i2 : Expr} {x y : Str} {px py : Pos} {scope : Scope} {pos : Pos} {cenv : Env} {I D : Addr} {fp : List Addr} {k n : Nat} {P : Nat → Value → Prop} {St : Nat → Heap → Prop} {m : Str → Option Value}
    (hh : A.handled = none) (W : Walks prog w A I fp [I] k P St) (hstI : ∀ j h, St j h → I < h.objs.size) (J : List Value → Heap → Prop) (hJ : ∀ ys X X', X.StaysIn X' → J ys X → J ys X')
    (hx : cenv.kindOf x = some .local) (hy : cenv.kindOf y = some .local) (hp : (cenv.scope.kind == .class || (cenv.scope.kind == .module && cenv.locals != cenv.globals)) = false) (hxy : x ≠ y)
    (hDC : D ≠ cenv.locals) (hDf : D ∉ fp) (hCf : cenv.locals ∉ fp)
    (hst : St 0 s.heap) (hacc : s.heap.PlainList D #[]) (hn : s.heap.Ns cenv.locals m) (hj : J [] (hideAll s.heap [cenv.locals, D, I])) (hsz : k * n ≤ sizeLine) (hns : Builtin.Range.small 0 n 1 = true) (hnr : Builtin.Range.rangeSize 0 n 1 = (n : Int))
    (hfold : ∀ v, foldedSetIterable i2 cenv v = pure v)
    (iter2 : ∀ h tk m' E', h.Ns cenv.locals m' → (hideAll s.heap [cenv.locals, D, I]).StaysIn (hideAll h [cenv.locals, D, I]) →
      wpAny (model prog w) A (eval i2 cenv) (Lc2It s.gens s.drawn s.os h n) E' { s with heap := h, toks := tk })
    (turn : ∀ i v j t zs h tk m' E' X, P i v → j < n → h.Ns cenv.locals m' → m' x = some v → m' y = some (.int (j : Nat) t) → (hideAll s.heap [cenv.locals, D, I]).StaysIn (hideAll h [cenv.locals, D, I]) → (hideAll s.heap [cenv.locals, D, I]).StaysIn X → J zs X → X.StaysIn h →
      wpAny (model prog w) A (eval elt cenv) (LcElt s.gens s.drawn s.os h (fun z h₄ => ∀ X', X.StaysIn X' → (∀ b o, h.objs.size ≤ b → h₄.get? b = some o → X'.get? b = some o) → J (zs ++ [z]) X')) E' { s with heap := h, toks := tk })
    (hR : ∀ h' tk m' zs, h'.Ns cenv.locals m' → h'.PlainList D (List.toArray zs) → zs.length = k * n → J zs (hideAll h' [cenv.locals, D, I]) → (∀ b o, b ≠ cenv.locals → b ≠ D → b ≠ I → s.heap.get? b = some o → h'.get? b = some o) → R (.ok .next) { s with heap := h', toks := tk }) :
    codeAny (model prog w) A (.compLoop (lc2 elt (.Name x px) i1 (.Name y py) i2 scope pos) 0 (.ref I) (.ref D) cenv) R s := by
  have hIf : I ∈ fp := W.sub _ (.head _)
  have hDI : D ≠ I := fun q => hDf (q ▸ hIf)
  have hCI : cenv.locals ≠ I := fun q => hCf (q ▸ hIf)
  refine codeAny_loop rfl (Lc2I s cenv.locals D I [cenv.locals, D, I] k (fun i => i * n) (fun _ => True) St (fun _ => J)) ?_ (k + 1) ⟨s.heap, s.toks, m, [], 0, hst, hacc, hn, trivial, hj, (Nat.zero_mul n).symm, Nat.zero_le _, fun _ _ _ _ _ e => e⟩
  rintro c s' ⟨H, tk, m', zs, i, hst', hacc', hn', _, hj', hzl, hik, hk⟩
  show wpAny _ A ((compTurn (lc2 elt (.Name x px) i1 (.Name y py) i2 scope pos) 0 (.ref I) (.ref D) cenv).onRaise (fun x => do noteFrame x cenv; theTreesLotGoes x)) _ _ _
  refine wpAny_noted ?_
  rw [compTurn2_out]
  have outs : ∀ {h h' : Heap}, (∀ b o, b ≠ cenv.locals → b ≠ D → b ≠ I → h.get? b = some o → h'.get? b = some o) → (hideAll h [cenv.locals, D, I]).StaysIn (hideAll h' [cenv.locals, D, I]) := fun k => hideAll_up fun b o hb e => k b o (fun q => hb (q ▸ .head _)) (fun q => hb (q ▸ .tail _ (.head _))) (fun q => hb (q ▸ .tail _ (.tail _ (.head _)))) e
  refine wpAny_bind (wpAny_standAt (wpAny_bind ?_))
  by_cases hlt : i < k
  · refine W.item i _ _ _ hlt hst' fun v h₁ tk₁ hP st₁ k₁ => ?_
    have k₁' : ∀ b o, b ≠ I → H.get? b = some o → h₁.get? b = some o := fun b o hb e => k₁ b o (by simpa using hb) e
    refine wpAny_bind (wpAny_of_eq (a := ()) rfl (wpAny_bind ?_))
    refine wpAny_assign_Name (wpAny_storeName_local hx (hn'.at' fun o e => k₁' _ o hCI e) (fun h₂ hn₂ hs₂ => ?_) hp)
    have k₂ : ∀ b o, b ≠ cenv.locals → b ≠ D → b ≠ I → H.get? b = some o → h₂.get? b = some o := fun b o h1 _ h3 e => hs₂.extBut b o h1 (k₁' b o h3 e)
    have hk₂ : ∀ b o, b ≠ cenv.locals → b ≠ D → b ≠ I → s.heap.get? b = some o → h₂.get? b = some o := fun b o h1 h2 h3 e => k₂ b o h1 h2 h3 (hk b o h1 h2 h3 e)
    have st₂ : St (i + 1) h₂ := W.frame _ _ _ st₁ fun b hb o e => hs₂.extBut b o (fun q => hCf (q ▸ hb)) e
    have acc₂ : h₂.PlainList D (List.toArray zs) := hacc'.at fun o e => hs₂.extBut D o hDC (k₁' D o hDI e)
    refine wpAny_bind (wpAny_mono (iter2 h₂ _ _ _ hn₂ (outs hk₂)) (fun r s₄ h₄ => ?_) fun _ _ e => e)
    obtain ⟨h₄, tk₄, r', t, u, vv, k₄, hr₄⟩ := h₄
    refine wpAny_bind (wpAny_standAt (wpAny_bind (wpAny_of_eq (hfold _) (wpAny_bind (wpAny_holding (wpAny_pyIter_range hr₄ hns ?_))))))
    have hW2 := Walks.range (prog := prog) (w := w) (A := A) hh h₄.objs.size 0 1 n
    refine wpAny_bind (wpAny_runOwn ?_)
    rw [Around.mark_none]
    have hn₄ := hn₂.keeps k₄
    have acc₄ := acc₂.at fun o e => k₄ _ o e
    have hC4 : @LT.lt Nat _ cenv.locals h₄.objs.size := by obtain ⟨oC, _, _, hoC, _⟩ := hn₄; exact Heap.lt_size hoC
    have hD4 : @LT.lt Nat _ D h₄.objs.size := by obtain ⟨oC, hoC⟩ := acc₄; exact Heap.lt_size hoC
    have none4 : h₄.get? h₄.objs.size = none := by
      cases q : h₄.get? h₄.objs.size with
      | none => rfl
      | some o => exact absurd (Heap.lt_size q) (Nat.lt_irrefl _)
    have tr := hsz
    generalize hH5 : h₄.push _ = H5
    have up5 : h₄.StaysIn H5 := fun b o e => hH5 ▸ Heap.get?_push_of_some _ e
    have hI4 : @LT.lt Nat _ I h₄.objs.size := hstI _ _ (W.frame _ _ _ st₂ fun b _ o e => k₄ b o e)
    have st0 : (hideAll s.heap [cenv.locals, D, I]).StaysIn (hideAll h₄ [cenv.locals, D, I]) := fun b o e => hideAll_up (fun b o _ e => k₄ b o e) b o (outs hk₂ b o e)
    have st5 : (hideAll h₄ [cenv.locals, D, I]).StaysIn (hideAll H5 (h₄.objs.size :: [cenv.locals, D, I])) := fun b o e => hideAll_up (fun b o _ e => up5 b o e) b o (hideAll_more none4 b o e)
    have hj5 : J zs (hideAll H5 (h₄.objs.size :: [cenv.locals, D, I])) := hJ _ _ _ (fun b o e => st5 b o (hideAll_up (fun b o _ e => k₄ b o e) b o e)) (hJ _ _ _ (outs k₂) hj')
    have hit5 : IsRangeIter H5 h₄.objs.size (0 + ((0 : Nat) : Int) * 1) ((n : Int) - ((0 : Nat) : Int)) 1 := by
      rw [← hH5, hnr]; simpa using Heap.get?_push_size _ rfl
    have inI : ∀ a, @LT.lt Nat _ a h₄.objs.size → a ≠ h₄.objs.size := fun a ha => Nat.ne_of_lt ha
    refine compStart2_in ?_ (wpAny_pyIter_rangeiter hit5 ?_)
    all_goals
      refine lc2_inner (hid := h₄.objs.size :: [cenv.locals, D, I]) (m := fun z => if z = x then some v else m' z) (v := v) hW2 (fun j h e => Heap.lt_size e) (fun _ ys X => J ys X) (fun _ _ _ _ k x => hJ _ _ _ k x) hy hp hxy
        (.tail _ (.head _)) (.tail _ (.tail _ (.head _))) (.head _) hDC (inI _ hD4) (inI _ hC4) hit5 (acc₄.at fun o e => up5 _ o e) (hn₄.keeps up5) (if_pos rfl) hj5 (by rw [hzl, ← Nat.succ_mul]; exact Nat.le_trans (Nat.mul_le_mul_right n hlt) hsz) ?_ ?_
      · rintro j ws a h tk5 m5 hjn hIh ⟨t5, rfl⟩ hwl hn5 hm5 hm5y st hJ5 E'
        have hx5 := fun b o (e : (hideAll s.heap [cenv.locals, D, I]).get? b = some o) => st b o (st5 b o (st0 b o e))
        refine wpAny_mono (turn i v j t5 ws h tk5 m5 E' (hideAll h (h₄.objs.size :: [cenv.locals, D, I])) hP hjn hn5 hm5 (by rw [hm5y]; simp) (fun b o e => hideAll_less b o (hx5 b o e)) hx5 hJ5 (fun b o e => of_hideAll _ e)) (fun z s₆ h₆ => ?_) fun _ _ e => e
        obtain ⟨h₆, tk₆, k₆, hj₆⟩ := h₆
        refine ⟨h₆, tk₆, k₆, hj₆ _ (hideAll_up fun b o _ e => k₆ b o e) fun b o hb e => hideAll_get _ e fun q => absurd hb (Nat.not_le.mpr ?_)⟩
        rcases List.mem_cons.mp q with rfl | q
        · exact hIh
        · rcases List.mem_cons.mp q with rfl | q
          · exact Nat.lt_trans hC4 hIh
          · rcases List.mem_cons.mp q with rfl | q
            · exact Nat.lt_trans hD4 hIh
            · rw [List.mem_singleton.mp q]; exact Nat.lt_trans hI4 hIh
      · intro h' tk' m₆ ws hn₆ acc₆ hwl hJ₆ up6 up6'
        have kk : ∀ b o, b ≠ cenv.locals → b ≠ D → b ≠ I → H.get? b = some o → h'.get? b = some o := fun b o h1 h2 h3 e => by
          have e4 := k₄ b o (k₂ b o h1 h2 h3 e)
          exact up6' b o h1 h2 (inI b (Heap.lt_size e4)) (up5 b o e4)
        refine wpAny_pure ⟨rfl, k + 1 - (i + 1), decN hik, h', tk', m₆, ws, i + 1, ?_, acc₆, hn₆, trivial, hJ _ _ _ (fun b o e => hideAll_less b o e) hJ₆, by rw [hwl, hzl, Nat.succ_mul], hlt, fun b o h1 h2 h3 e => kk b o h1 h2 h3 (hk b o h1 h2 h3 e)⟩
        refine W.frame _ _ _ st₂ fun b hb o e => ?_
        have e4 := k₄ b o e
        exact up6' b o (fun q => hCf (q ▸ hb)) (fun q => hDf (q ▸ hb)) (inI b (Heap.lt_size e4)) (up5 b o e4)
  · obtain rfl : i = k := Nat.le_antisymm hik (Nat.le_of_not_lt hlt)
    refine W.done _ _ _ hst' fun h₁ tk₁ k₁ => ?_
    have k₁' : ∀ b o, b ≠ I → H.get? b = some o → h₁.get? b = some o := fun b o hb e => k₁ b o (by simpa using hb) e
    exact wpAny_pure (hR h₁ tk₁ m' zs (hn'.at' fun o e => k₁' _ o hCI e) (hacc'.at fun o e => k₁' _ o hDI e) hzl (hJ _ _ _ (outs fun b o _ _ h3 e => k₁' b o h3 e) hj') fun b o h1 h2 h3 e => k₁' b o h3 (hk b o h1 h2 h3 e))
end
end

section
open PySem PySem.W PySem.Calls PyProof.Rows PySem.Spec
section
variable {prog : Program} {w : World} {A : Around} {E : Value → Shared → Prop} {s : Shared} {env : Env} {G : Heap}
inductive Lc2Go (prog : Program) (w : World) (A : Around) (G : Heap) (env : Env) (scope : Scope) (cl : List (Str × Addr)) (x y f : Str) (i2 elt : Expr) (J : List Value → Heap → Prop) (Q : Flow → Shared → Prop) : Value → Shared → Prop
  | mk {s : Shared} (l : Addr) (vs : List Value) (m : Str → Option Value) (news : List (Addr × Obj)) (n : Nat) (z1 : s.heap.IsList l vs.toArray) (z2 : Fr G env.locals s.heap m) (z3 : News G env.locals s.heap news) (z4 : vs.length * n ≤ sizeLine) (z5 : vs.length ≤ sizeLine) (z6 : Builtin.Range.small 0 n 1 = true) (z7 : Builtin.Range.rangeSize 0 n 1 = (n : Int)) (z8 : J [] s.heap) (z9 : (∀ C h tk m₂ E', s.heap.objs.size ≤ C → s.heap.StaysIn h → h.Ns C m₂ → wpAny (model prog w) A (eval i2 (compEnvC scope cl C env)) (Lc2It s.gens s.drawn s.os h n) E' { s with heap := h, toks := tk })) (z10 : (∀ C (i : Nat) v j t zs h tk m₂ E' X, s.heap.objs.size ≤ C → vs[i]? = some v → j < n → s.heap.StaysIn X → X.StaysIn h → J zs X → h.Ns C m₂ → m₂ x = some v → m₂ y = some (.int (j : Nat) t) → wpAny (model prog w) A (eval elt (compEnvC scope cl C env)) (LcElt s.gens s.drawn s.os h (fun z h₄ => ∀ X', X.StaysIn X' → (∀ b o, h.objs.size ≤ b → h₄.get? b = some o → X'.get? b = some o) → J (zs ++ [z]) X')) E' { s with heap := h, toks := tk })) (z11 : (∀ D h' tk zs k, Fr G env.locals h' (fun z => if z = f then some (.ref D) else m z) → News G env.locals h' ((D, listOf zs.toArray k) :: news) → (∀ p ∈ news, p.1 < D) → zs.length = vs.length * n → J zs h' → s.heap.objs.size ≤ D → (∀ b o, b ≠ env.locals → s.heap.get? b = some o → h'.get? b = some o) → Q .next { s with heap := h', toks := tk })) : Lc2Go prog w A G env scope cl x y f i2 elt J Q (.ref l) s

theorem lc2_assign {elt i1 i2 : Expr} {x y f : Str} {px py pf : Pos} {scope : Scope} {cl : List (Str × Addr)} {pos spos : Pos} {Q : Flow → Shared → Prop} (J : List Value → Heap → Prop) (hJ : ∀ ys X X', X.StaysIn X' → J ys X → J ys X')
    (hsw : swapsWith (lc2 elt (.Name x px) i1 (.Name y py) i2 scope pos) (some (.Name f pf)) spos.line env = pure true)
    (hclos : closureFor scope env = pure cl) (hcell : ∀ y ∈ scope.names, y.2 ≠ .cell) (hkind : scope.kind = .function)
    (hnames : ∀ y ∈ scope.names, y.2 = .local → scope.names.lookup y.1 = some .local) (hx : scope.names.lookup x = some .local) (hy : scope.names.lookup y = some .local) (hxy : x ≠ y)
    (hf : env.kindOf f = some .local) (hp : (env.scope.kind == .class || (env.scope.kind == .module && env.locals != env.globals)) = false) (hh : A.handled = none)
    (hJL : ∀ ys X m, X.Ns env.locals m → J ys X → J ys (hideAll X [env.locals]))
    (h : wpAny (model prog w) A (eval i1 env) (Lc2Go prog w A G env scope cl x y f i2 elt J Q) E s)
    (hs : ∀ x, foldedSetIterable i1 env x = pure x := by intro _; rfl)
    (hs2 : ∀ C x, foldedSetIterable i2 (compEnvC scope cl C env) x = pure x := by intro _ _; rfl) :
    wpAny (model prog w) A (exec (.Assign [.Name f pf] (lc2 elt (.Name x px) i1 (.Name y py) i2 scope pos) spos) env) Q E s := by
  rw [exec_Assign_Name_used _ _ _ _ hsw]
  refine wpAny_bind (wpAny_standAt (wpAny_bind ?_))
  show wpAny _ A (do let _ ← comprehension (lc2 elt (.Name x px) i1 (.Name y py) i2 scope pos) scope env _ (newList []) false (eval i1 env) (some (assign (.Name f pf) env))) _ _ s
  refine wpAny_bind (wpAny_mono (wpAny_comprehension_free (use := some (assign (.Name f pf) env)) (Q := fun _ s' => Q .next s') rfl hs hclos hkind hnames
    (wpAny_mono h (fun xv s₁ h₁ => ?_) fun _ _ e => e)) (fun _ s' hq => wpAny_pure (wpAny_pure hq)) fun _ _ e => e)
  obtain ⟨l, vs, m, news, n, hl, F, N, hsz, hsz1, hns, hnr, hj, iter2, turn, done⟩ := h₁
  have hlt : @LT.lt Nat _ l s₁.heap.objs.size := by obtain ⟨o, ho, _⟩ := hl; exact Heap.lt_size ho
  have hne : l ≠ s₁.heap.objs.size := Nat.ne_of_lt hlt
  have hlen : vs.toArray.size = vs.length := by simp
  have hLlt : @LT.lt Nat _ env.locals s₁.heap.objs.size := F.ns.lt
  refine wpAny_pyIter_list hl ?_
  have W0 := Walks.list (prog := prog) (w := w) hh s₁.heap.objs.size l hne vs.toArray
  rw [hlen] at W0
  refine wpAny_newObj_type (wpAny_newFunctionEnv hcell (by intro y hy; simp at hy) (fun h₁ hns₁ hsb₁ => ?_) hkind)
  dsimp only at hns₁ hsb₁ ⊢
  generalize hH1 : s₁.heap.push { cls := .type "list_iterator", data := .fields #[.ref l, .int 0 0] } = H1 at hns₁ hsb₁ ⊢
  generalize hH2 : H1.push { cls := .type "list", dict := none, data := .seq ([] : List Value).toArray } = H2 at hns₁ hsb₁ ⊢
  have z1 : H1.objs.size = s₁.heap.objs.size + 1 := by rw [← hH1, Heap.size_push]
  have z2 : H2.objs.size = s₁.heap.objs.size + 2 := by rw [← hH2, Heap.size_push, z1]
  have u1 : s₁.heap.StaysIn H1 := fun b o e => hH1 ▸ Heap.get?_push_of_some _ e
  have u2 : H1.StaysIn H2 := fun b o e => hH2 ▸ Heap.get?_push_of_some _ e
  have u3 : ∀ b o, b ≠ H2.objs.size → H2.get? b = some o → h₁.get? b = some o := fun b o hb e => hsb₁.extBut b o hb (Heap.get?_push_of_some _ e)
  have small : ∀ b, @LT.lt Nat _ b s₁.heap.objs.size → b ≠ H2.objs.size ∧ b ≠ H1.objs.size ∧ b ≠ s₁.heap.objs.size := fun b hb => ⟨by rw [z2]; exact Nat.ne_of_lt (Nat.lt_of_lt_of_le hb (Nat.le_add_right _ _)), by rw [z1]; exact Nat.ne_of_lt (Nat.lt_succ_of_lt hb), Nat.ne_of_lt hb⟩
  have old : s₁.heap.StaysIn h₁ := fun b o e => u3 b o (small b (Heap.lt_size e)).1 (u2 b o (u1 b o e))
  have eI : h₁.get? s₁.heap.objs.size = some { cls := .type "list_iterator", data := .fields #[.ref l, .int 0 0] } := u3 _ _ (by rw [z2]; exact Nat.ne_of_lt (Nat.lt_of_lt_of_le (Nat.lt_succ_self _) (Nat.le_succ _))) (u2 _ _ (hH1 ▸ Heap.get?_push_size _ rfl))
  have eD : h₁.PlainList H1.objs.size #[] := ⟨_, u3 _ _ (by rw [z1, z2]; exact Nat.ne_of_lt (Nat.lt_succ_self _)) (hH2 ▸ Heap.get?_push_size _ rfl)⟩
  have hDC : H1.objs.size ≠ H2.objs.size := by rw [z1, z2]; exact Nat.ne_of_lt (Nat.lt_succ_self _)
  have lC : s₁.heap.objs.size ≤ H2.objs.size := by rw [z2]; exact Nat.le_add_right _ _
  have lD : s₁.heap.objs.size ≤ H1.objs.size := by rw [z1]; exact Nat.le_succ _
  have inn : s₁.heap.StaysIn (hideAll h₁ [H2.objs.size, H1.objs.size, s₁.heap.objs.size]) := fun b o e => hideAll_get _ (old b o e) fun q => by
    obtain ⟨n1, n2, n3⟩ := small b (Heap.lt_size e)
    rcases List.mem_cons.mp q with q | q
    · exact n1 q
    · rcases List.mem_cons.mp q with q | q
      · exact n2 q
      · exact n3 (List.mem_singleton.mp q)
  have a1 : H1.objs.size ∉ [s₁.heap.objs.size, l] := fun q => by
    rcases List.mem_cons.mp q with q | q
    · rw [z1] at q; exact absurd q (Nat.succ_ne_self _)
    · exact (small l hlt).2.1 (List.mem_singleton.mp q).symm
  have a2 : H2.objs.size ∉ [s₁.heap.objs.size, l] := fun q => by
    rcases List.mem_cons.mp q with q | q
    · rw [z2] at q; exact absurd q (by omega)
    · exact (small l hlt).1 (List.mem_singleton.mp q).symm
  have loop : ∀ s₃ : Shared, s₃ = { s₁ with heap := h₁, toks := s₁.toks + ([] : List (Str × Value)).length } →
      codeAny (model prog w) A (.compLoop (lc2 elt (.Name x px) i1 (.Name y py) i2 scope pos) 0 (.ref s₁.heap.objs.size) (.ref H1.objs.size) (compEnvC scope cl H2.objs.size env))
        (compPost (model prog w) A E (some (assign (.Name f pf) env)) (fun _ s' => Q .next s') (.ref H1.objs.size) H2.objs.size) s₃ := by
    rintro s₃ rfl
    refine lc2_outer (cenv := compEnvC scope cl H2.objs.size env) hh W0 (fun j h e => by obtain ⟨⟨o, ho, _⟩, _⟩ := e; exact Heap.lt_size ho) J hJ (lookup_relabel_local hx) (lookup_relabel_local hy) (by simp [compEnvC, relabel, hkind]) hxy
      hDC a1 a2 ⟨⟨_, eI, rfl, rfl⟩, let ⟨o, ho, r⟩ := hl; ⟨o, old _ _ ho, r⟩⟩ eD hns₁ (hJ _ _ _ inn hj) hsz hns hnr (hs2 _) ?_ ?_ ?_
    · intro h tk m' E' hn st
      exact iter2 H2.objs.size h tk m' E' lC (fun b o e => of_hideAll _ (st b o (inn b o e))) hn
    · intro i v j t zs h tk m' E' X hP hjn hn hmx hmy st sX hJ5 Xh
      exact turn H2.objs.size i v j t zs h tk m' E' X lC (by simpa using hP) hjn (fun b o e => sX b o (inn b o e)) Xh hJ5 hn hmx hmy
    · intro h' tk m' zs hn hpl hzl hJn up
      have hLC : env.locals ≠ H2.objs.size := (small _ hLlt).1
      have hLD : env.locals ≠ H1.objs.size := (small _ hLlt).2.1
      have hLI : env.locals ≠ s₁.heap.objs.size := (small _ hLlt).2.2
      have up' : s₁.heap.StaysIn h' := fun b o e => up b o (small b (Heap.lt_size e)).1 (small b (Heap.lt_size e)).2.1 (small b (Heap.lt_size e)).2.2 (old b o e)
      show wpAny _ A (assign (.Name f pf) env (.ref H1.objs.size)) _ _ _
      refine wpAny_assign_Name (wpAny_storeName_local hf (F.ns.at' fun o e => up' _ o e) (fun h₂ hn₂ hs₂ => ?_) hp)
      refine ⟨m', hn.sameBut hs₂ (Ne.symm hLC), fun h₃ hs₃ => ?_⟩
      obtain ⟨kk, hkk⟩ := (hpl.extBut hs₂.extBut (Ne.symm hLD)).extBut hs₃.extBut hDC
      have nC : ∀ b o, s₁.heap.get? b = some o → b ≠ H2.objs.size := fun b o e => (small b (Heap.lt_size e)).1
      have k3 : ∀ b o, b ≠ env.locals → s₁.heap.get? b = some o → h₃.get? b = some o := fun b o hb e => hs₃.extBut b o (nC b o e) (hs₂.extBut b o hb (up' b o e))
      have nG : ∀ b o, G.get? b = some o → b ≠ env.locals := fun b o e q => absurd (q ▸ Heap.lt_size e) (Nat.not_lt.mpr F.above)
      refine done H1.objs.size h₃ _ zs kk ⟨hn₂.sameBut hs₃ hLC, fun b o e => k3 b o (nG b o e) (F.keep b o e), F.above⟩ ?_ (fun p hp => Nat.lt_of_lt_of_le (Heap.lt_size (N p hp).1) lD) hzl ?_ lD k3
      · intro p hp
        rcases List.mem_cons.mp hp with rfl | hp
        · refine ⟨hkk, fun q => hLD q.symm, ?_⟩
          cases q : G.get? H1.objs.size with
          | none => rfl
          | some ob => exact absurd (Heap.lt_size (F.keep _ _ q)) (Nat.not_lt.mpr lD)
        · exact ⟨k3 _ _ (N p hp).2.1 (N p hp).1, (N p hp).2⟩
      · have nL : env.locals ∉ [H2.objs.size, H1.objs.size, s₁.heap.objs.size] := fun q => by
          rcases List.mem_cons.mp q with q | q
          · exact hLC q
          · rcases List.mem_cons.mp q with q | q
            · exact hLD q
            · exact hLI (List.mem_singleton.mp q)
        have hX := hJL zs (hideAll h' [H2.objs.size, H1.objs.size, s₁.heap.objs.size]) _ ((F.ns.keeps up').at' fun o e => hideAll_get _ e nL) hJn
        refine hJ _ _ _ (fun b o e => ?_) hX
        have e1 := of_hideAll _ e
        have nL' : b ≠ env.locals := fun q => by rw [q, hideAll_none _ (List.mem_singleton.mpr rfl)] at e; cases e
        have nI : b ∉ [H2.objs.size, H1.objs.size, s₁.heap.objs.size] := fun q => by rw [hideAll_none _ q] at e1; cases e1
        exact hs₃.extBut b o (fun q => nI (q ▸ .head _)) (hs₂.extBut b o nL' (of_hideAll _ e1))
  exact codeAny_compStart_list (loop _ rfl) (wpAny_pyIter_listiter ⟨_, eI, rfl, rfl⟩ (loop _ rfl))
end
end

section
open PySem PySem.W PySem.Calls PyProof.Rows PySem.Spec
section
variable {prog : Program} {w : World} {A : Around} {E : Value → Shared → Prop} {s : Shared} {env : Env}
/-- what a turn of a loop ends in -/
inductive ForE (g : Array GenState) (d : Drawn) (o : OsState) (C : Addr) (Inv : (Str → Option Value) → Heap → Prop) (St : Heap → Prop) : Shared → Prop
  | mk (h' : Heap) (tk' : Nat) (m' : Str → Option Value) (z1 : h'.Ns C m') (z2 : Inv m' h') (z3 : St h') : ForE g d o C Inv St ⟨h', g, d, tk', o⟩
inductive ForI (s : Shared) (C : Addr) (n : Nat) (Inv : Nat → (Str → Option Value) → Heap → Prop) (St : Nat → Heap → Prop) : Nat → Shared → Prop
  | mk (h' : Heap) (tk' : Nat) (m' : Str → Option Value) (i : Nat) (z1 : St i h') (z2 : h'.Ns C m') (z3 : Inv i m' h') (z4 : i ≤ n) : ForI s C n Inv St (n + 1 - i) { s with heap := h', toks := tk' }
/-- a for loop by what holds of the heap: what its iterator and the frame hold apart -/
inductive ForGo (prog : Program) (w : World) (A : Around) (env : Env) (x : Str) (body : List Stmt) (Q : Flow → Shared → Prop) (E : Value → Shared → Prop) : Value → Shared → Prop
  | mk {s₂ : Shared} (I : Addr) (fp : List Addr) (n : Nat) (P : Nat → Value → Prop) (St : Nat → Heap → Prop) (m₀ : Str → Option Value) (Inv : Nat → (Str → Option Value) → Heap → Prop) (z1 : Walks prog w A I fp [I] n P St) (z2 : env.locals ∉ fp) (z3 : St 0 s₂.heap) (z4 : s₂.heap.Ns env.locals m₀) (z5 : Inv 0 m₀ s₂.heap) (z6 : (∀ i m h h', Inv i m h → (∀ b o, b ≠ I → b ≠ env.locals → h.get? b = some o → h'.get? b = some o) → Inv i m h')) (z7 : (∀ i v m h tk, i < n → P i v → Inv i m h → St (i + 1) h → h.Ns env.locals (fun y => if y = x then some v else m y) → wpAny (model prog w) A (execs body env) (fun f s₃ => match f with | .next | .cont => ForE s₂.gens s₂.drawn s₂.os env.locals (Inv (i + 1)) (St (i + 1)) s₃ | .brk => Q .next s₃ | .ret v => Q (.ret v) s₃) E { s₂ with heap := h, toks := tk })) (z8 : ∀ h' tk m', h'.Ns env.locals m' → Inv n m' h' → Q .next { s₂ with heap := h', toks := tk }) : ForGo prog w A env x body Q E (.ref I) s₂

theorem for_heap {Q : Flow → Shared → Prop} {x : Str} {px pos : Pos} {iter : Expr} {body : List Stmt} (hx : env.kindOf x = some .local)
    (hp : (env.scope.kind == .class || (env.scope.kind == .module && env.locals != env.globals)) = false)
    (h : wpAny (model prog w) A (eval iter env) (fun xv s₁ => wpAny (model prog w) A (pyIter xv) (ForGo prog w A env x body Q E) E s₁) E s)
    (hs : ∀ x, foldedSetIterable iter env x = pure x := by intro _; rfl)
    (hE : PassesOwn (model prog w) A env E := by passes_own) :
    wpAny (model prog w) A (exec (.For (.Name x px) iter body [] pos) env) Q E s := by
  refine wpAny_For (wpAny_mono h (fun xv s₁ h₁ => wpAny_mono h₁ (fun it s₂ h₂ => ?_) fun _ _ e => e) fun _ _ e => e) hs
  obtain ⟨I, fp, n, P, St, m₀, Inv, W, hLf, hst, hn, hI, hmono, turn, done⟩ := h₂
  have hIf : I ∈ fp := W.sub _ (.head _)
  have hLI : env.locals ≠ I := fun q => hLf (q ▸ hIf)
  refine codeAny_forLoop (ForI s₂ env.locals n Inv St) ?_ (n + 1) ⟨s₂.heap, s₂.toks, m₀, 0, hst, hn, hI, Nat.zero_le _⟩
  rintro k s' ⟨H, tk, m, i, hst', hn', hI', hin⟩
  by_cases hlt : i < n
  · refine W.item i _ _ _ hlt hst' fun v h₁ tk₁ hP st₁ k₁ => ?_
    have k₁' : ∀ b o, b ≠ I → H.get? b = some o → h₁.get? b = some o := fun b o hb e => k₁ b o (by simpa using hb) e
    refine wpAny_assign_Name (wpAny_storeName_local hx (hn'.at' fun o e => k₁' _ o hLI e) (fun h₂ hn₂ hs₂ => ?_) hp)
    have st₂ : St (i + 1) h₂ := W.frame _ _ _ st₁ fun b hb o e => hs₂.extBut b o (fun q => hLf (q ▸ hb)) e
    refine wpAny_mono (wpAny_passesOwn hE (turn i v m h₂ _ hlt hP (hmono _ _ _ _ hI' fun b o h1 h2 e => hs₂.extBut b o h2 (k₁' b o h1 e)) st₂ hn₂)) (fun f s₃ h₃ => ?_) fun _ _ e => e
    cases f with
    | next => obtain ⟨h', tk', m', a, b, c⟩ := h₃; exact ⟨n + 1 - (i + 1), decN hin, h', tk', m', i + 1, c, a, b, hlt⟩
    | cont => obtain ⟨h', tk', m', a, b, c⟩ := h₃; exact ⟨n + 1 - (i + 1), decN hin, h', tk', m', i + 1, c, a, b, hlt⟩
    | brk => exact h₃
    | ret v => exact h₃
  · obtain rfl : i = n := Nat.le_antisymm hin (Nat.le_of_not_lt hlt)
    refine W.done _ _ _ hst' fun h₁ tk₁ k₁ => ?_
    have k₁' : ∀ b o, b ≠ I → H.get? b = some o → h₁.get? b = some o := fun b o hb e => k₁ b o (by simpa using hb) e
    refine wpAny_execs_nil ?_
    exact done h₁ tk₁ m (hn'.at' fun o e => k₁' _ o hLI e) (hmono _ _ _ _ hI' fun b o h1 _ e => k₁' b o h1 e)

variable {G : Heap}
theorem hide_two {h h' : Heap} {L I : Addr} (k : ∀ b o, b ≠ I → b ≠ L → h.get? b = some o → h'.get? b = some o) : (hideAll h [L, I]).StaysIn (hideAll h' [L, I]) := hideAll_up fun b o hb e => k b o (fun q => hb (q ▸ .tail _ (.head _))) (fun q => hb (q ▸ .head _)) e
/-- what a turn of such a loop comes to -/
noncomputable def TurnH (env : Env) (Q : Flow → Shared → Prop) (J : (Str → Option Value) → Heap → Prop) (I : Addr) (own : List (Addr × Obj)) (s : Shared) (f : Flow) (s₃ : Shared) : Prop :=
  match f with
  | .next | .cont => ForE s.gens s.drawn s.os env.locals (fun m' h' => J m' (hideAll h' [env.locals, I])) (fun h' => ∀ p ∈ own, h'.get? p.1 = some p.2) s₃
  | .brk => Q .next s₃
  | .ret v => Q (.ret v) s₃
theorem forGo_range {x : Str} {body : List Stmt} {Q : Flow → Shared → Prop} {r : Addr} {a b : Int} {t0 u0 v0 : Tok} {n : Nat} {m₀ : Str → Option Value} (J : Nat → (Str → Option Value) → Heap → Prop) (hJ : ∀ i m X X', X.StaysIn X' → J i m X → J i m X')
    (hr : IsRange s.heap r a b 1 t0 u0 v0) (hsmall : Builtin.Range.small a b 1 = true) (hn : Builtin.Range.rangeSize a b 1 = (n : Int)) (hh : A.handled = none) (F : Fr G env.locals s.heap m₀) (hj : J 0 m₀ (hideAll s.heap [env.locals]))
    (turn : ∀ I io i t m h tk, i < n → s.heap.objs.size ≤ I → J i m (hideAll h [env.locals, I]) → h.get? I = some io → io.cls = .type "range_iterator" → h.Ns env.locals (fun y => if y = x then some (.int (a + (i : Nat)) t) else m y) →
      wpAny (model prog w) A (execs body env) (TurnH env Q (J (i + 1)) I [(I, io)] { s with heap := h, toks := tk }) E { s with heap := h, toks := tk })
    (done : ∀ I m h tk, s.heap.objs.size ≤ I → h.Ns env.locals m → J n m (hideAll h [env.locals, I]) → Q .next { s with heap := h, toks := tk }) :
    wpAny (model prog w) A (pyIter (.ref r)) (ForGo prog w A env x body Q E) E s := by
  refine wpAny_pyIter_range hr hsmall ?_
  have hLlt : @LT.lt Nat _ env.locals s.heap.objs.size := F.ns.lt
  have hLI : env.locals ≠ s.heap.objs.size := Nat.ne_of_lt hLlt
  refine ⟨s.heap.objs.size, [s.heap.objs.size], n, _, _, m₀, fun i m h => J i m (hideAll h [env.locals, s.heap.objs.size]), Walks.range hh s.heap.objs.size a 1 n, fun q => hLI (List.mem_singleton.mp q), by show IsRangeIter _ _ _ _ _; rw [hn]; simpa using Heap.get?_push_size _ rfl,
    F.ns.push _, hJ _ _ _ _ (fun c o e => ?_) hj, fun i m h h' hi k => hJ _ _ _ _ (hide_two k) hi, ?_, fun h' tk' m' hns hJ' => done _ _ _ _ (Nat.le_refl _) hns hJ'⟩
  · have e1 := of_hideAll _ e
    refine hideAll_get _ (Heap.get?_push_of_some _ e1) fun q => ?_
    rcases List.mem_cons.mp q with rfl | q
    · rw [hideAll_none _ (.head _)] at e; cases e
    · exact absurd (List.mem_singleton.mp q ▸ Heap.lt_size e1) (Nat.lt_irrefl _)
  · rintro i v m h tk hi ⟨t, rfl⟩ hJi hst hns
    rw [Int.mul_one] at hns
    refine wpAny_mono (turn _ _ i t m h tk hi (Nat.le_refl _) hJi hst rfl hns) (fun f s₃ h₃ => ?_) fun _ _ e => e
    cases f with
    | next => obtain ⟨h', tk', m', p, q, k⟩ := h₃; exact ⟨h', tk', m', p, q, k _ (.head _)⟩
    | cont => obtain ⟨h', tk', m', p, q, k⟩ := h₃; exact ⟨h', tk', m', p, q, k _ (.head _)⟩
    | brk => exact h₃
    | ret v => exact h₃
theorem forGo_list {x : Str} {body : List Stmt} {Q : Flow → Shared → Prop} {l : Addr} {vs : List Value} {k : Nat} {m₀ : Str → Option Value} (J : Nat → (Str → Option Value) → Heap → Prop) (hJ : ∀ i m X X', X.StaysIn X' → J i m X → J i m X')
    (hl : s.heap.get? l = some (listOf vs.toArray k)) (hlL : l ≠ env.locals) (hh : A.handled = none) (F : Fr G env.locals s.heap m₀) (hj : J 0 m₀ (hideAll s.heap [env.locals]))
    (turn : ∀ I io i v m h tk, vs[i]? = some v → s.heap.objs.size ≤ I → J i m (hideAll h [env.locals, I]) → h.get? I = some io → io.cls = .type "list_iterator" → h.get? l = some (listOf vs.toArray k) → h.Ns env.locals (fun y => if y = x then some v else m y) →
      wpAny (model prog w) A (execs body env) (TurnH env Q (J (i + 1)) I [(I, io), (l, listOf vs.toArray k)] { s with heap := h, toks := tk }) E { s with heap := h, toks := tk })
    (done : ∀ I m h tk, s.heap.objs.size ≤ I → h.Ns env.locals m → J vs.length m (hideAll h [env.locals, I]) → Q .next { s with heap := h, toks := tk }) :
    wpAny (model prog w) A (pyIter (.ref l)) (ForGo prog w A env x body Q E) E s := by
  have hL : s.heap.IsList l vs.toArray := ⟨_, hl, rfl, _, rfl⟩
  refine wpAny_pyIter_list hL ?_
  have hLlt : @LT.lt Nat _ env.locals s.heap.objs.size := F.ns.lt
  have hLI : env.locals ≠ s.heap.objs.size := Nat.ne_of_lt hLlt
  have hllt : @LT.lt Nat _ l s.heap.objs.size := Heap.lt_size hl
  have W := Walks.list (prog := prog) (w := w) hh s.heap.objs.size l (Nat.ne_of_lt hllt) vs.toArray
  have hlen : vs.toArray.size = vs.length := by simp
  rw [hlen] at W
  refine ⟨s.heap.objs.size, [s.heap.objs.size, l], vs.length, _, fun i h => h.IsListIter s.heap.objs.size l i ∧ h.get? l = some (listOf vs.toArray k), m₀, fun i m h => J i m (hideAll h [env.locals, s.heap.objs.size]),
    ⟨W.sub, fun i h h' e kk => ⟨(W.frame i h h' ⟨e.1, ⟨_, e.2, rfl, _, rfl⟩⟩ kk).1, kk l (.tail _ (.head _)) _ e.2⟩, fun i s Q E hi st hQ => W.item i s Q E hi ⟨st.1, ⟨_, st.2, rfl, _, rfl⟩⟩ fun v h' tk hP st' k' => hQ v h' tk hP ⟨st'.1, k' l _ (fun q => absurd (List.mem_singleton.mp q) (Nat.ne_of_lt hllt)) st.2⟩ k',
      fun s Q E st hQ => W.done s Q E ⟨st.1, ⟨_, st.2, rfl, _, rfl⟩⟩ hQ, fun i s Q E st hQ => W.self i s Q E ⟨st.1, ⟨_, st.2, rfl, _, rfl⟩⟩ hQ⟩,
    fun q => ?_, ⟨⟨_, Heap.get?_push_size _ rfl, rfl, rfl⟩, Heap.get?_push_of_some _ hl⟩, F.ns.push _, hJ _ _ _ _ (fun c o e => ?_) hj, fun i m h h' hi k => hJ _ _ _ _ (hide_two k) hi, ?_, fun h' tk' m' hns hJ' => done _ _ _ _ (Nat.le_refl _) hns hJ'⟩
  · rcases List.mem_cons.mp q with q | q
    · exact hLI q
    · exact hlL (List.mem_singleton.mp q).symm
  · have e1 := of_hideAll _ e
    refine hideAll_get _ (Heap.get?_push_of_some _ e1) fun q => ?_
    rcases List.mem_cons.mp q with rfl | q
    · rw [hideAll_none _ (.head _)] at e; cases e
    · exact absurd (List.mem_singleton.mp q ▸ Heap.lt_size e1) (Nat.lt_irrefl _)
  · rintro i v m h tk hi hP hJi ⟨⟨io, hio, hc, hd⟩, hls⟩ hns
    refine wpAny_mono (turn _ _ i v m h tk (by simpa using hP) (Nat.le_refl _) hJi hio hc hls hns) (fun f s₃ h₃ => ?_) fun _ _ e => e
    cases f with
    | next => obtain ⟨h', tk', m', p, q, k⟩ := h₃; exact ⟨h', tk', m', p, q, ⟨io, k _ (.head _), hc, hd⟩, k _ (.tail _ (.head _))⟩
    | cont => obtain ⟨h', tk', m', p, q, k⟩ := h₃; exact ⟨h', tk', m', p, q, ⟨io, k _ (.head _), hc, hd⟩, k _ (.tail _ (.head _))⟩
    | brk => exact h₃
    | ret v => exact h₃
end
end

section
open PySem PySem.W PySem.Calls PyProof.Rows PySem.Spec PyProof.V
local macro_rules | `(tactic| walk_at $s) => Mine.red [("exec For Name Call cons nil", "m"), ("binaryOp Add", "g"), ("binaryOp Add ref ref", "m"), ("exec For", "m"), ("exec Assign", "g")] s
noncomputable def NoSeq (h : Heap) (l : List Addr) : Prop := ∀ b ∈ l, ∀ o, h.get? b = some o → o.cls ≠ .type "tuple" ∨ ∀ xs n, o.data ≠ .seq xs n
theorem NoSeq.cons {h : Heap} {b : Addr} {l : List Addr} (h1 : ∀ o, h.get? b = some o → o.cls ≠ .type "tuple" ∨ ∀ xs n, o.data ≠ .seq xs n) (h2 : NoSeq h l) : NoSeq h (b :: l) := fun c hc => by
  rcases List.mem_cons.mp hc with rfl | hc
  · exact h1
  · exact h2 c hc
theorem NoSeq.nil {h : Heap} : NoSeq h [] := fun _ hc => nomatch hc
theorem noSeq_ns {h : Heap} {b : Addr} {m : Str → Option Value} (hn : h.Ns b m) : ∀ o, h.get? b = some o → o.cls ≠ .type "tuple" ∨ ∀ xs n, o.data ≠ .seq xs n := fun o e => .inr fun xs n q => by
  obtain ⟨o', es, ep, e', d, _⟩ := hn
  rw [e] at e'; obtain rfl := Option.some.inj e'
  rw [d] at q; cases q
theorem noSeq_cls {h : Heap} {b : Addr} {io : Obj} (e : h.get? b = some io) (d : io.cls ≠ .type "tuple") : ∀ o, h.get? b = some o → o.cls ≠ .type "tuple" ∨ ∀ xs n, o.data ≠ .seq xs n := fun o e' => .inl (by
  rw [e] at e'; exact Option.some.inj e' ▸ d)
theorem RowAt.hide {h : Heap} {l : List Addr} {r : List Cel} {v : Value} (hl : NoSeq h l) (x : RowAt h r v) : RowAt (hideAll h l) r v := by
  obtain ⟨a, vs, e, ⟨o, ho, hc, n, hd⟩, hcs⟩ := x
  exact ⟨a, vs, e, ⟨o, hideAll_get _ ho fun q => (hl a q o ho).elim (fun z => z hc) fun z => z _ _ hd, hc, n, hd⟩, hcs⟩
theorem RowsAre.hide {h : Heap} {l : List Addr} (hl : NoSeq h l) {vs : List Value} {rs : List (List Cel)} (x : RowsAre h vs rs) : RowsAre (hideAll h l) vs rs := by
  induction x with
  | nil => exact .nil
  | cons x _ ih => exact .cons (x.hide hl) ih
/-- what holds ahead of a lap -/
inductive RowsJ (G : Heap) (b : Nat) (m₀ : Str → Option Value) (c : Addr) (oc : Obj) (n i : Nat) (m : Str → Option Value) (X : Heap) : Prop
  | of (y1 : G.StaysIn X) (y2 : (∀ y, y ≠ Str.ofString "lap" → y ≠ Str.ofString "found" → m y = m₀ y)) (y3 : X.get? c = some oc) (D) (ys) (k) (rs) (z1 : m (Str.ofString "found") = some (.ref D)) (z2 : b ≤ D) (z3 : X.get? D = some (listOf ys.toArray k)) (z4 : RowsAre X ys rs) (z5 : rs.length = n ^ i) (z6 : ∀ r ∈ rs, r.length = i ∧ intRow r) : RowsJ G b m₀ c oc n i m X
theorem RowsJ.mono {G : Heap} {b : Nat} {m₀ : Str → Option Value} {c : Addr} {oc : Obj} {n : Nat} (i : Nat) (m : Str → Option Value) (X X' : Heap) (k : X.StaysIn X') (x : RowsJ G b m₀ c oc n i m X) : RowsJ G b m₀ c oc n i m X' := by
  obtain ⟨a1, a2, a3, D, ys, kk, rs, a4, a5, a6, a7, a8, a9⟩ := x
  exact ⟨fun b o e => k b o (a1 b o e), a2, k _ _ a3, D, ys, kk, rs, a4, a5, k _ _ a6, a7.keeps k, a8, a9⟩
theorem rows_for {w : World} {A : Around} {E : Value → Shared → Prop} {s : Shared} {env : Env} {G : Heap} {body : List Stmt} {Q : Flow → Shared → Prop} {r : Addr} {t0 u0 v0 : Tok} {ar n : Nat} {m₀ : Str → Option Value} {b : Nat} {c : Addr} {oc : Obj}
    (hr : IsRange s.heap r 0 (ar : Int) 1 t0 u0 v0) (hsmall : Builtin.Range.small 0 (ar : Int) 1 = true) (hn : Builtin.Range.rangeSize 0 (ar : Int) 1 = (ar : Int)) (hh : A.handled = none) (F : Fr G env.locals s.heap m₀) (hj : RowsJ G b m₀ c oc n 0 m₀ (hideAll s.heap [env.locals]))
    (turn : ∀ I io i t m h tk, i < ar → s.heap.objs.size ≤ I → RowsJ G b m₀ c oc n i m (hideAll h [env.locals, I]) → h.get? I = some io → io.cls = .type "range_iterator" → h.Ns env.locals (fun y => if y = Str.ofString "lap" then some (.int (0 + (i : Nat)) t) else m y) →
      wpAny (model Challenge.pw_nu0267_01 w) A (execs body env) (TurnH env Q (RowsJ G b m₀ c oc n (i + 1)) I [(I, io)] { s with heap := h, toks := tk }) E { s with heap := h, toks := tk })
    (done : ∀ I m h tk, s.heap.objs.size ≤ I → h.Ns env.locals m → RowsJ G b m₀ c oc n ar m (hideAll h [env.locals, I]) → Q .next { s with heap := h, toks := tk }) :
    wpAny (model Challenge.pw_nu0267_01 w) A (pyIter (.ref r)) (ForGo Challenge.pw_nu0267_01 w A env (Str.ofString "lap") body Q E) E s :=
  forGo_range (n := ar) (RowsJ G b m₀ c oc n) RowsJ.mono hr hsmall hn hh F hj turn done
theorem hideOff {h : Heap} {L b : Addr} {o : Obj} (e : h.get? b = some o) (n : b ≠ L) : (hideAll h [L]).get? b = some o := hideAll_get _ e fun q => n (List.mem_singleton.mp q)
theorem two_map {x f : Str} {v fv : Option Value} {m m₀ : Str → Option Value} (h : ∀ y, y ≠ x → y ≠ f → m y = m₀ y) (hf : m f = fv) : (fun y => if y = x then v else m y) = fun y => if y = x then v else if y = f then fv else m₀ y := by
  funext y
  by_cases h1 : y = x
  · simp [h1]
  · by_cases h2 : y = f
    · subst h2; simp [h1, hf]
    · simp [h1, h2, h y h1 h2]
theorem frMap {x f : Str} {fv fv' : Option Value} {m m₀ : Str → Option Value} {h : Heap} {L : Addr} (hns : h.Ns L m) (hm : ∀ y, y ≠ x → y ≠ f → m y = (fun y => if y = f then fv' else m₀ y) y) (hf : m f = fv) : h.Ns L (fun y => if y = x then m x else if y = f then fv else m₀ y) := by
  have e : m = fun y => if y = x then m x else if y = f then fv else m₀ y := by
    funext y
    by_cases h1 : y = x
    · simp [h1]
    · by_cases h2 : y = f
      · subst h2; simp [h1, hf]
      · rw [hm y h1 h2]; simp [h1, h2]
  exact e ▸ hns
/-- two tuples glued, the right one not empty; the heap grows at its end alone -/
theorem tup_glue {prog : Program} {w : World} {A : Around} {E : Value → Shared → Prop} {s : Shared} {a b : Addr} {vs ws : List Value} {Q : Value → Shared → Prop} (ha : s.heap.IsTuple a vs.toArray) (hb : s.heap.IsTuple b ws.toArray) (hw : ws ≠ [])
    (h0 : vs = [] → Q (.ref b) s) (h2 : vs ≠ [] → Q (.ref s.heap.objs.size) { s with heap := s.heap.push { cls := .type "tuple", data := .seq (vs ++ ws).toArray } }) (hsz : vs.length + ws.length ≤ sizeLine) :
    wpAny (model prog w) A (binaryOp .Add (.ref a) (.ref b)) Q E s := by
  obtain ⟨⟨c1, d1, x1, s1⟩, g1, e1, n1, f1⟩ := ha
  obtain ⟨⟨c2, d2, x2, s2⟩, g2, e2, n2, f2⟩ := hb
  dsimp only at e1 f1 e2 f2
  subst e1 f1 e2 f2
  by_cases hv : vs = []
  · exact concat_meets ⟨_, g1, rfl⟩ ⟨_, g2, rfl⟩ noFill_tuple_add seq_tuple_add PySem.F.slot_tuple_add PySem.F.entry_tuple_add (PySem.F.args_tuple_add_2 _ _) (tuple_addW0 a b vs.toArray ws.toArray n1 n2 d1 d2 s1 s2 (by simp [hv])) ⟨g1, g2, h0 hv⟩
  · refine concat_meets ⟨_, g1, rfl⟩ ⟨_, g2, rfl⟩ noFill_tuple_add seq_tuple_add PySem.F.slot_tuple_add PySem.F.entry_tuple_add (PySem.F.args_tuple_add_2 _ _) (tuple_addW2 a b vs.toArray ws.toArray n1 n2 d1 d2 s1 s2 (by simpa using hv) (by simpa using hw) (by rw [List.size_toArray, List.size_toArray]; exact hsz)) ⟨g1, g2, ?_⟩
    have e : vs.toArray ++ ws.toArray = (vs ++ ws).toArray := by simp
    rw [e]; exact h2 hv
/-- what a comprehension of rows has made -/
inductive RowsMade (len : Nat) (zs : List Value) (X : Heap) : Prop
  | of  (qs) (z1 : RowsAre X zs qs) (z2 : ∀ q ∈ qs, q.length = len ∧ intRow q) : RowsMade len zs X
theorem pow9 : ∀ i, i < 3 → ∀ n, n < 4 → n ^ i ≤ 9 := by decide
theorem range3 : ∀ n : Nat, n < 4 → Builtin.Range.small 0 (n : Int) 1 = true ∧ Builtin.Range.rangeSize 0 (n : Int) 1 = (n : Int) := by decide
theorem unhaltB {p : Prop} (h : p) : Halt p := h
set_option maxHeartbeats 4000000 in
theorem rows_call {w : World} {A : Around} {base G : Heap} {envs : List Env} {mean : ExcName → Option Value} {mg mb : Str → Option Value} {s : Shared} {Q E : Value → Shared → Prop}
    {n ar : Nat} {t u : Tok}
    (H : At w A base envs mean mg mb G s) (hn : 1 ≤ n ∧ n ≤ 3) (har : ar = 1 ∨ ar = 2)
    (hd : A.depth ≤ 450) (hu : A.units ≤ 500)
    (hret : ∀ D ys k rs h' tk' , G.StaysIn h' → s.heap.objs.size ≤ D → h'.get? D = some (listOf ys.toArray k) → RowsAre h' ys rs → rs.length ≤ 9 → (∀ r ∈ rs, r.length ≤ 2 ∧ intRow r) → Q (.ref D) { s with heap := h', toks := tk' }) :
    wpAny (model Challenge.pw_nu0267_01 w) A (call (.ref 208) [.int n t, .int ar u]) Q E s := by
  revert hd hu
  refine At.lit (P := fun A => (A.depth ≤ _) → (A.units ≤ _) → wpAny _ A _ _ _ _) H fun dp gd un H hd hu => ?_
  dsimp only at hd hu
  refine wpAny_call ?_
  k_dflt (refine' enterC (binds := [(Str.ofString "n", .int n t), (Str.ofString "arity", .int ar u)]) (news := []) H ?hN ?ho ?hcd ?hroom ?hbind ?hkind ?hnd ?_ ?hco ?hgen ?hk)
  case hN => exact fun _ h => nomatch h
  case ho => k_is
  case hcd => k_is
  case hroom => k_room
  case hbind => exact BindsTo.of_eq rfl
  case hkind => exact rfl
  case hnd => decide +kernel
  case hco => exact rfl
  case hgen => exact rfl
  case hk => exact rfl
  intro L' h₁ tk cells env0 M0 F N Y B X T hs hL l1
  k_cells Y
  rename Obj => oc
  rename _ = Data.cell _ => dc
  replace dc : oc.data = .cell (some (.int n t)) := dc
  replace F : Fr G L' h₁ (fun y => if y = Str.ofString "arity" then some (.int ar u) else none) := F
  (try dsimp only [List.cons_append, List.nil_append] at N)
  (try dsimp only); (try ((show wpAny _ _ _ _ _ _); k_fold))
  k_steps
  refine newTup_stays F N (fun h2 F2 N2 k2 l2 => ?_) (by rw [sizeLine_eq]; exact Nat.le_of_ble_eq_true rfl)
  k_steps
  refine unhaltB ?_
  refine' for_heap ?k1 ?k2 ?_
  case k1 => exact rfl
  case k2 => exact rfl
  k_steps
  (rename IsRange _ _ _ _ _ _ _ _ => hrg)
  (rename Fr _ _ _ _ => FF)
  (rename News _ _ _ _ => NN)
  have hrs : Builtin.Range.rangeSize 0 (ar : Int) 1 = (ar : Int) := (range3 ar (by omega)).2
  have hrm : Builtin.Range.small 0 (ar : Int) 1 = true := (range3 ar (by omega)).1
  refine rows_for (b := s.heap.objs.size) (n := n) hrg hrm hrs rfl FF ⟨fun b o e => hideOff (FF.keep b o e) (fun q => Nat.not_lt.mpr FF.above ((show b = L' from q) ▸ Heap.lt_size e)), fun _ _ _ => rfl, hideOff (NN.get (.tail _ (.tail _ (.head _)))) (Nat.succ_ne_self _), _, [_], 0, [[]], rfl, ?j0, hideOff (NN.get (.head _)) (NN.ne (.head _)), (.cons ⟨_, [], rfl, ⟨_, hideOff (NN.get (.tail _ (.head _))) (NN.ne (.tail _ (.head _))), rfl, _, rfl⟩, .nil⟩ .nil), by simp, fun r hr => by rw [List.mem_singleton.mp hr]; exact ⟨rfl, fun _ h => nomatch h⟩⟩ ?turn ?done
  case j0 =>
    (rename _ < _ ∧ _ < _ ∧ True => lb)
    exact Nat.le_of_lt (Nat.lt_trans (hL ▸ Nat.lt_succ_self _) lb.2.1)
  case turn =>
    intro I io i t m h tk2 hi hI hJ hio hic hns
    obtain ⟨st, hm, hc, D, ys, k, rs, hmD, hbD, hD, hrows, hlen, hrs⟩ := hJ
    rw [two_map hm hmD] at hns
    have F3 : Fr G L' h _ := ⟨hns, fun b o e => of_hideAll _ (st b o e), FF.above⟩
    have offL : ∀ {b o}, (hideAll h [L', I]).get? b = some o → b ≠ L' ∧ b ≠ I := fun {b o} e => ⟨(fun q => by rw [q, hideAll_none _ (.head _)] at e; cases e), (fun q => by rw [q, hideAll_none _ (.tail _ (.head _))] at e; cases e)⟩
    have gN : ∀ b, @LE.le Nat _ s.heap.objs.size b → G.get? b = none := fun b hb => by
      cases q : G.get? b with
      | none => rfl
      | some o => exact absurd (Heap.lt_size q) (Nat.not_lt.mpr (Nat.le_trans (Nat.le_trans FF.above (Nat.le_of_eq hL)) hb))
    have hLs : @LT.lt Nat _ L' I := Nat.lt_of_lt_of_le FF.ns.lt hI
    have N3 : News G L' h [(L' + 1, oc), (D, listOf ys.toArray k), (I, io)] := by
      exact allC ⟨of_hideAll _ hc, Nat.succ_ne_self _, gN _ (hL ▸ Nat.le_succ _)⟩ <| allC ⟨of_hideAll _ hD, (offL hD).1, gN _ hbD⟩ <| allC ⟨hio, Nat.ne_of_gt hLs, gN _ (Nat.le_of_lt (hL ▸ hLs))⟩ allN
    (try dsimp only)
    k_steps
    refine unhaltB ?_
    refine' lc2_assign (G := G) (cl := [(Str.ofString "n", L' + 1)]) (RowsMade (i + 1)) ?hJ ?hsw ?hclos ?hcell ?hkind ?hnames ?hx ?hy ?hxy ?hf ?hp rfl ?hJL ?_
    case hJ => exact fun ys X X' k x => let ⟨qs, a, b⟩ := x; ⟨qs, a.keeps k, b⟩
    case hsw => rfl
    case hclos => rfl
    case hcell => decide
    case hkind => rfl
    case hnames => decide
    case hx => rfl
    case hy => rfl
    case hxy => decide +kernel
    case hf => rfl
    case hp => rfl
    case hJL => exact fun ys X m hn x => let ⟨qs, a, b⟩ := x; ⟨qs, a.hide (NoSeq.cons (noSeq_ns hn) NoSeq.nil), b⟩
    k_steps
    have hyl : ys.length ≤ 9 := by
      rw [hrows.length, hlen]
      exact pow9 i (by omega) n (by omega)
    refine ⟨D, ys, _, _, n, News.isList (by assumption) (.tail _ (.head _)), by assumption, by assumption, ?sz, by rw [sizeLine_eq]; omega, ?sm, ?rg, ⟨[], .nil, fun _ h => nomatch h⟩, ?it2, ?turn2, ?done2⟩
    case sz => rw [sizeLine_eq]; have := Nat.mul_le_mul hyl hn.2; omega
    case sm => exact (range3 n (by omega)).1
    case rg => exact (range3 n (by omega)).2
    case it2 =>
      intro C h4 tk4 m4 E4 hC sX hn4
      have F4 := frStays (by assumption) sX
      have N4 := newsStays (by assumption) sX
      k_steps
      exact ⟨_, _, _, _, _, _, by assumption, by assumption⟩
    case turn2 =>
      intro C i2 v j t2 zs h4 tk4 m4 E4 X4 hC hv hj sX Xh hJ hn4 hmx hmy
      have F4 := frStays (by assumption) (fun b o e => Xh b o (sX b o e))
      have N4 := newsStays (by assumption) (fun b o e => Xh b o (sX b o e))
      obtain ⟨r, hr, ra, rvs, rfl, hrt, hrc⟩ := hrows.get hv
      have hrl := hrs r (List.mem_of_getElem? hr)
      k_steps
      refine newTup_stays F4 N4 (fun h5 F5 N5 k5 l5 => ?_) (by rw [sizeLine_eq]; exact Nat.le_of_ble_eq_true rfl)
      k_steps
      obtain ⟨qs, hqs, hq⟩ := hJ
      have b5 : h5.get? h4.objs.size = some { cls := .type "tuple", data := .seq #[.int j t2] } := (N5 _ (.head _)).1
      have hrt5 : h5.IsTuple ra rvs.toArray := tupKeeps (tupKeeps hrt (fun b o e => Xh b o (sX b o (of_hideAll _ e)))) k5
      refine tup_glue hrt5 (ws := [.int j t2]) ⟨_, b5, rfl, _, rfl⟩ (fun e => nomatch e) (fun e0 => ?_) (fun hne => ?_) (by rw [sizeLine_eq, hrc.length, hrl.1]; simp; omega)
      · refine ⟨h5, _, k5, fun X' k' u' => ⟨qs ++ [[.int j]], (hqs.keeps k').snoc ⟨_, [.int j t2], rfl, ⟨_, u' _ _ (Nat.le_refl _) b5, rfl, _, rfl⟩, (.cons (show CelIs (.int j) _ from ⟨t2, rfl⟩) .nil)⟩, fun q hq' => ?_⟩⟩
        rcases List.mem_append.mp hq' with hq' | hq'
        · exact hq q hq'
        · rw [List.mem_singleton.mp hq']
          have h0 := hrc.length
          rw [e0] at h0
          refine ⟨by have := hrl.1; simp at h0 ⊢; omega, fun c hc => ⟨j, List.mem_singleton.mp hc⟩⟩
      · have e6 : (h5.push (tupObj (rvs ++ [.int j t2]))).get? h5.objs.size = some (tupObj (rvs ++ [.int j t2])) := Heap.get?_push_size _ rfl
        have k6 := staysPush (h := h5) (tupObj (rvs ++ [.int j t2]))
        refine ⟨_, _, fun b o e => k6 b o (k5 b o e), fun X' k' u' => ⟨qs ++ [r ++ [.int j]], (hqs.keeps k').snoc ⟨_, rvs ++ [.int j t2], rfl, ⟨_, u' _ _ (Nat.le_of_lt (Heap.lt_size b5)) e6, rfl, _, rfl⟩, hrc.snoc (show CelIs (.int j) _ from ⟨t2, rfl⟩)⟩, fun q hq' => ?_⟩⟩
        rcases List.mem_append.mp hq' with hq' | hq'
        · exact hq q hq'
        · rw [List.mem_singleton.mp hq']
          refine ⟨by rw [List.length_append, hrl.1]; rfl, fun c hc => ?_⟩
          rcases List.mem_append.mp hc with hc | hc
          · exact hrl.2 c hc
          · exact ⟨j, List.mem_singleton.mp hc⟩
    case done2 =>
      intro D4 h4 tk4 zs k4 F4 N4 l4 hzl hJ hD4 up4
      k_steps
      obtain ⟨qs, hqs, hq⟩ := hJ
      have io4 := (N4 _ (.tail _ (.tail _ (.tail _ (.head _))))).1
      have ns4 : NoSeq h4 [L', I] := .cons (noSeq_ns F4.ns) (.cons (noSeq_cls io4 (by rw [hic]; decide)) .nil)
      have off4 : ∀ {b : Addr} {o : Obj}, h4.get? b = some o → b ≠ L' → b ≠ I → (hideAll h4 [L', I]).get? b = some o := fun e n1 n2 => hideAll_get _ e fun q => by
        rcases List.mem_cons.mp q with q | q
        · exact n1 q
        · exact n2 (List.mem_singleton.mp q)
      refine ⟨h4, _, _, F4.ns, ⟨fun b o e => off4 (F4.keep b o e) (fun q => Nat.not_lt.mpr FF.above ((show b = L' from q) ▸ Heap.lt_size e)) (fun q => ?_), fun y n1 n2 => ?_, off4 (N4 _ (.tail _ (.head _))).1 (Nat.succ_ne_self _) ?_, D4, zs, k4, qs, by simp, ?_, off4 (N4 _ (.head _)).1 (N4 _ (.head _)).2.1 ?_, RowsAre.hide ns4 hqs, ?_, hq⟩, fun p hp => by rw [List.mem_singleton.mp hp]; exact io4⟩
      · rw [show b = I from q, gN I (Nat.le_of_lt (hL ▸ hLs))] at e; cases e
      · simp only [if_neg n1, if_neg n2]
      · exact Nat.ne_of_lt (Nat.lt_of_lt_of_le (Heap.lt_size (NN.get (.tail _ (.tail _ (.head _))))) hI)
      · exact Nat.le_of_lt (Nat.lt_of_lt_of_le (hL ▸ F3.ns.lt) hD4)
      · exact Nat.ne_of_gt (Nat.lt_of_lt_of_le (Heap.lt_size hio) hD4)
      · rw [← hqs.length, hzl, hrows.length, hlen, Nat.pow_succ]
  case done =>
    intro I m h tk2 hI hns hJ
    obtain ⟨st, hm, hc, D, ys, k, rs, hmD, hbD, hD, hrows, hlen, hrs⟩ := hJ
    have F3 : Fr G L' h (fun y => if y = Str.ofString "lap" then m (Str.ofString "lap") else if y = Str.ofString "found" then some (.ref D) else if y = Str.ofString "arity" then some (.int ar u) else none) := ⟨frMap hns hm hmD, fun b o e => of_hideAll _ (st b o e), FF.above⟩
    k_steps
    have unh : Heap.StaysIn (hideAll h [L', I]) h := fun b o e => of_hideAll _ e
    refine hret D ys k rs h _ F3.keep hbD (unh _ _ hD) (hrows.keeps unh) ?_ (fun r hr => ⟨by rw [(hrs r hr).1]; omega, (hrs r hr).2⟩)
    rw [hlen]
    exact pow9 ar (by omega) n (by omega)
end

section
open PySem PySem.W PySem.Calls PyProof.Rows PySem.Spec PyProof.V
theorem noFill_tup_mul : fillsNumberSlot (.type "tuple") "mul" = pure false :=
  PySem.fillsNumberSlot_seq (id := "tuple.__mul__") (r := some (.builtin "tuple.__rmul__")) F.slot_tuple_mul.lookup (by decide +kernel) F.slot_tuple_rmul.lookup (by decide +kernel)
theorem repeat_tup : seqRepeat? (.type "tuple") = pure (some (.builtin "tuple.__mul__")) := by
  unfold seqRepeat?
  rw [PySem.seqSlot_of (T := "tuple") (name := "__mul__") (id := "tuple.__mul__") F.slot_tuple_mul.lookup (by decide +kernel), PySem.seqSlot_of (T := "tuple") (name := "__rmul__") (id := "tuple.__rmul__") F.slot_tuple_rmul.lookup (by decide +kernel)]
  rfl
section
variable {prog : Program} {w : World} {A : Around} {E : Value → Shared → Prop} {s : Shared}
theorem pick_mem {xs : Array Value} {lo st : Int} {n : Nat} : ∀ y ∈ (List.range n).filterMap fun (k : Nat) => xs[(lo + (k : Int) * st).toNat]?, y ∈ xs.toList := fun y hy => by
  obtain ⟨k, _, hk⟩ := List.mem_filterMap.mp hy
  exact Array.mem_toList_iff.mpr (Array.mem_of_getElem? hk)
theorem slice_part {v : Value} {o : Option Int} (h : IsPart v o) {Q : Option Int → Shared → Prop} (hq : Q o s) : wpAny (model prog w) A (Builtin.Slice.slicePartIndex v) Q E s := by
  cases h with
  | none => exact slicePart_none hq
  | int i u => exact slicePart_int hq
noncomputable abbrev slLo (lo hi st : Option Int) (n : Nat) : Int := (Builtin.Slice.sliceAdjust lo hi (st.getD 1) n).1
noncomputable abbrev slCnt (lo hi st : Option Int) (n : Nat) : Nat := Builtin.Slice.slicePlaces (slLo lo hi st n) (Builtin.Slice.sliceAdjust lo hi (st.getD 1) n).2 (st.getD 1)
theorem slice_appl {sl : Addr} {vl vu vk : Value} {lo hi st : Option Int} {n : Nat} {Q : Int × Int × Nat → Shared → Prop} (hs : s.heap.IsSliceOf sl vl vu vk) (pl : IsPart vl lo) (pu : IsPart vu hi) (pk : IsPart vk st) (h0 : (st.getD 1 == 0) = false)
    (hq : Q (slLo lo hi st n, st.getD 1, slCnt lo hi st n) s) : wpAny (model prog w) A (Builtin.Slice.sliceApplied (.ref sl) (pure (n : Int))) Q E s := by
  obtain ⟨os, hos, hcs, hds⟩ := id hs
  unfold Builtin.Slice.sliceApplied Builtin.Slice.sliceFields
  refine wpAny_bind (wpAny_bind (wpAny_field hos hds (x := vl) rfl (wpAny_bind (wpAny_field hos hds (x := vu) rfl (wpAny_bind (wpAny_field hos hds (x := vk) rfl (wpAny_pure ?_)))))))
  refine wpAny_bind (slice_part pk ?_)
  show wpAny _ _ (if (st.getD 1 == 0) = true then _ else _) _ _ s
  rw [if_neg (by rw [h0]; exact Bool.false_ne_true)]
  exact wpAny_bind (slice_part pl (wpAny_bind (slice_part pu (wpAny_bind (wpAny_pure (wpAny_pure hq))))))
/-- a slice of a tuple: the tuple itself, or a new one of items of it -/
theorem tup_slice {t sl : Addr} {items : Array Value} {vl vu vk : Value} {lo hi st : Option Int} {Q : Value → Shared → Prop} (ht : s.heap.IsTuple t items) (hs : s.heap.IsSliceOf sl vl vu vk) (pl : IsPart vl lo) (pu : IsPart vu hi) (pk : IsPart vk st) (h0 : (st.getD 1 == 0) = false)
    (same : Q (.ref t) s) (made : ∀ ys : List Value, (∀ y ∈ ys, y ∈ items.toList) → ys.length ≤ slCnt lo hi st items.size → Q (.ref s.heap.objs.size) { s with heap := s.heap.push (tupObj ys) }) (hsz : slCnt lo hi st items.size ≤ sizeLine) :
    wpAny (model prog w) A (getItem (.ref t) (.ref sl)) Q E s := by
  have hTs : s.TypeIs (.ref sl) "slice" := let ⟨os, hos, hcs, hds⟩ := hs; ⟨os, hos, hcs⟩
  have hl : ((List.range (slCnt lo hi st items.size)).filterMap fun (k : Nat) => items[(slLo lo hi st items.size + (k : Int) * (st.getD 1)).toNat]?).length ≤ slCnt lo hi st items.size := Nat.le_trans (List.length_filterMap_le _ _) (Nat.le_of_eq List.length_range)
  unfold getItem
  refine wpAny_holding ?_
  refine wpAny_bind (wpAny_sequenceKey ht.typeIs (by decide) ?_)
  refine wpAny_bind (wpAny_callSpecial?_slot (name := Str.ofString "__getitem__") ht.typeIs slot_tuple_getitem (wpAny_call_entry slot_tuple_getitem ht.typeIs entry_tuple_getitem ?_ (args_tuple_getitem _ _)))
  show wpAny _ _ (Builtin.Tuple.tupleItemsOf (.ref t) >>= _) _ _ s
  refine wpAny_bind (tupleItemsOf_ ht ?_)
  refine wpAny_bind (wpAny_typeOf hTs ?_)
  rw [if_pos (by decide)]
  refine wpAny_bind (slice_appl hs pl pu pk h0 ?_)
  have fin : wpAny (model prog w) A.in1 (Builtin.Tuple.tupleExact ((List.range (slCnt lo hi st items.size)).filterMap fun (k : Nat) => items[(slLo lo hi st items.size + (k : Int) * (st.getD 1)).toNat]?).toArray) Q E s := by
    unfold Builtin.Tuple.tupleExact
    refine wpAny_newObj_type (made _ pick_mem hl) ?_
    show (List.toArray _).size ≤ sizeLine
    rw [List.size_toArray]; exact Nat.le_trans hl hsz
  show wpAny _ _ (if (slLo lo hi st items.size == 0 && st.getD 1 == 1 && slCnt lo hi st items.size == items.size) = true then _ else _) _ _ s
  split
  · refine wpAny_bind (m := Builtin.Tuple.tupleIsExact _) ?_
    unfold Builtin.Tuple.tupleIsExact
    refine wpAny_bind (wpAny_typeOf ht.typeIs (wpAny_pure ?_))
    rw [if_pos (by decide)]
    refine wpAny_bind (wpAny_rule ?_)
    exact wpAny_bind (wpAny_pure (wpAny_pure ⟨_, rfl, wpAny_pure same⟩))
  · exact wpAny_bind (wpAny_mono fin (fun v s' hv => wpAny_pure ⟨_, rfl, wpAny_pure hv⟩) fun _ _ e => e)
theorem rmul_tup (x : Int) (u : Tok) (t : Addr) (v : Value) :
    Meets (Builtin.«int.__rmul__» ⟨[.int x u, .ref t], []⟩) (fun _ R s => s.heap.get? t = some (tupObj [v]) ∧ R (.ok (.ret Value.notImplemented)) s) :=
  .of_wp fun prog w A R s h => by obtain ⟨hp, g, d, tk, os⟩ := s; obtain ⟨hl, h⟩ := h; wp_walk; exact ⟨_, rfl, h⟩
theorem tup_times {t : Addr} {v : Value} {x : Int} {u : Tok} {Q : Value → Shared → Prop} (ht : s.heap.get? t = some (tupObj [v])) (hx : x = 1 ∨ x = 2 ∨ x = 3) (same : x = 1 → Q (.ref t) s)
    (made : x ≠ 1 → Q (.ref s.heap.objs.size) { s with heap := s.heap.push (tupObj (List.replicate x.toNat v)) }) : wpAny (model prog w) A (binaryOp .Mult (.ref t) (.int x u)) Q E s := by
  have hT : s.TypeIs (.ref t) "tuple" := ⟨_, ht, rfl⟩
  refine wpAny_binaryOp_repeat_ref (T := "tuple") (U := "int") (by decide) hT (fun s' => typeIs_int s' x u) noFill_tup_mul F.fills_int_mul F.slot_int_rmul repeat_tup F.slot_int_index.lookup
    (call_meets F.slot_int_rmul (typeIs_int s x u) F.entry_int_rmul (F.args_int_rmul_2 _ _) (rmul_tup x u t v) ⟨ht, rfl, hT, ?_⟩)
  refine wpAny_call_entry F.slot_tuple_mul hT F.entry_tuple_mul ?_ (F.args_tuple_mul_2 _ _)
  unfold Builtin.«tuple.__mul__»
  obtain ⟨hp, g, d, tk, os⟩ := s
  rcases hx with rfl | rfl | rfl
  · wp_walk
    exact ⟨_, rfl, same rfl⟩
  · wp_walk
    exact ⟨_, rfl, made (by decide)⟩
  · wp_walk
    exact ⟨_, rfl, made (by decide)⟩
variable {G : Heap} {L : Addr} {m : Str → Option Value} {news : List (Addr × Obj)}
/-- a slice of a tuple in the frame's words -/
theorem sub_any {value slice : Expr} {t : Addr} {vs ops : List Value} {vl vu vk : Value} {lo hi st : Option Int} {Q : Value → Shared → Prop} (F : Fr G L s.heap m) (N : News G L s.heap news) (ht : s.heap.IsTuple t vs.toArray)
    (pl : IsPart vl lo) (pu : IsPart vu hi) (pk : IsPart vk st) (h0 : (st.getD 1 == 0) = false) (h9 : vs.length ≤ 9) (hc : ∀ n, n ≤ 9 → slCnt lo hi st n ≤ 9)
    (h : ∀ (a : Addr) (ys : List Value) (h' : Heap), Fr G L h' m → News G L h' news → s.heap.StaysIn h' → h'.IsTuple a ys.toArray → (∀ y ∈ ys, y ∈ vs) → ys.length ≤ 9 → Q (.ref a) { s with heap := h' })
    (hs : subscripted slice false (.ref t) (.ref s.heap.objs.size) = operate ops (getItem (.ref t) (.ref s.heap.objs.size)) := by with_unfolding_all rfl)
    (hg : ∀ r, letTemporaryGo value (.ref t) r = pure () := by intro _; with_unfolding_all rfl) :
    wpAny (model prog w) A (subscriptTail value slice (.ref t) (.ref s.heap.objs.size)) Q E { s with heap := s.heap.push { cls := .type "slice", data := .fields #[vl, vu, vk] } } := by
  have k1 := staysPush (h := s.heap) { cls := .type "slice", data := .fields #[vl, vu, vk] }
  have ht' := tupKeeps ht k1
  have hc' := hc _ (by rw [List.size_toArray]; exact h9 : vs.toArray.size ≤ 9)
  refine subscriptTail_ops (s := { s with heap := s.heap.push { cls := .type "slice", data := .fields #[vl, vu, vk] } }) ht'.typeIs slot_tuple_getitem.lookup
    (tup_slice (s := { s with heap := s.heap.push { cls := .type "slice", data := .fields #[vl, vu, vk] } }) ht' (Heap.IsSliceOf.new ..) pl pu pk h0 ?_ (fun ys hy hl => ?_) (Nat.le_trans hc' (by rw [sizeLine_eq]; exact Nat.le_of_ble_eq_true rfl))) hs hg
  · exact h t vs _ (F.keeps k1) (N.grown k1) k1 ht' (fun _ e => e) h9
  · have k2 := staysPush (h := s.heap.push { cls := .type "slice", data := .fields #[vl, vu, vk] }) (tupObj ys)
    have k3 : s.heap.StaysIn _ := fun b o e => k2 b o (k1 b o e)
    exact h _ ys _ (F.keeps k3) (N.grown k3) k3 ⟨_, Heap.get?_push_size _ rfl, rfl, _, rfl⟩ (fun y e => by simpa using hy y e) (Nat.le_trans hl hc')
theorem glue_any {a b : Addr} {vs ws : List Value} {Q : Value → Shared → Prop} (F : Fr G L s.heap m) (N : News G L s.heap news) (ha : s.heap.IsTuple a vs.toArray) (hb : s.heap.IsTuple b ws.toArray) (h9 : vs.length ≤ 9) (h9' : ws.length ≤ 9)
    (h : ∀ (c : Addr) (h' : Heap), Fr G L h' m → News G L h' news → s.heap.StaysIn h' → h'.IsTuple c (vs ++ ws).toArray → Q (.ref c) { s with heap := h' }) :
    wpAny (model prog w) A (binaryOp .Add (.ref a) (.ref b)) Q E s := by
  have hz : vs.length + ws.length ≤ sizeLine := by rw [sizeLine_eq]; omega
  have self : ∀ {c : Addr}, s.heap.IsTuple c (vs ++ ws).toArray → Q (.ref c) s := fun {c} hc => h c s.heap F N (fun _ _ e => e) hc
  have made : ∀ zs, zs = vs ++ ws → Q (.ref s.heap.objs.size) { s with heap := s.heap.push (tupObj zs) } := by
    rintro _ rfl
    have k := staysPush (h := s.heap) (tupObj (vs ++ ws))
    exact h _ _ (F.keeps k) (N.grown k) k ⟨_, Heap.get?_push_size _ rfl, rfl, _, rfl⟩
  obtain ⟨⟨c1, d1, x1, s1⟩, g1, e1, n1, f1⟩ := id ha
  obtain ⟨⟨c2, d2, x2, s2⟩, g2, e2, n2, f2⟩ := id hb
  dsimp only at e1 f1 e2 f2
  subst e1 f1 e2 f2
  by_cases hv : vs = []
  · exact concat_meets ⟨_, g1, rfl⟩ ⟨_, g2, rfl⟩ noFill_tuple_add seq_tuple_add PySem.F.slot_tuple_add PySem.F.entry_tuple_add (PySem.F.args_tuple_add_2 _ _) (tuple_addW0 a b vs.toArray ws.toArray n1 n2 d1 d2 s1 s2 (by simp [hv]))
      ⟨g1, g2, self (by rw [hv]; exact hb)⟩
  · by_cases hw : ws = []
    · exact concat_meets ⟨_, g1, rfl⟩ ⟨_, g2, rfl⟩ noFill_tuple_add seq_tuple_add PySem.F.slot_tuple_add PySem.F.entry_tuple_add (PySem.F.args_tuple_add_2 _ _) (tuple_addW1 a b vs.toArray ws.toArray n1 n2 d1 d2 s1 s2 (by simpa using hv) (by simp [hw]))
        ⟨g1, g2, self (by rw [hw, List.append_nil]; exact ha)⟩
    · refine concat_meets ⟨_, g1, rfl⟩ ⟨_, g2, rfl⟩ noFill_tuple_add seq_tuple_add PySem.F.slot_tuple_add PySem.F.entry_tuple_add (PySem.F.args_tuple_add_2 _ _) (tuple_addW2 a b vs.toArray ws.toArray n1 n2 d1 d2 s1 s2 (by simpa using hv) (by simpa using hw) (by rw [List.size_toArray, List.size_toArray]; exact hz)) ⟨g1, g2, ?_⟩
      have e : vs.toArray ++ ws.toArray = (vs ++ ws).toArray := by simp
      rw [e]; exact made _ rfl
theorem times_any {t : Addr} {v : Value} {x : Int} {u : Tok} {Q : Value → Shared → Prop} (F : Fr G L s.heap m) (N : News G L s.heap news) (ht : s.heap.get? t = some (tupObj [v])) (hx : x = 1 ∨ x = 2 ∨ x = 3)
    (h : ∀ (c : Addr) (h' : Heap), Fr G L h' m → News G L h' news → s.heap.StaysIn h' → h'.IsTuple c (List.replicate x.toNat v).toArray → Q (.ref c) { s with heap := h' }) : wpAny (model prog w) A (binaryOp .Mult (.ref t) (.int x u)) Q E s := by
  refine tup_times ht hx (fun e => ?_) fun _ => ?_
  · subst e
    exact h t s.heap F N (fun _ _ e => e) ⟨_, ht, rfl, _, rfl⟩
  · have k := staysPush (h := s.heap) (tupObj (List.replicate x.toNat v))
    exact h _ _ (F.keeps k) (N.grown k) k ⟨_, Heap.get?_push_size _ rfl, rfl, _, rfl⟩
theorem tuple_any {l : Addr} {vs : List Value} {Q : Value → Shared → Prop} (F : Fr G L s.heap m) (N : News G L s.heap news) (hl : s.heap.IsList l vs.toArray) (h9 : vs.length ≤ 9)
    (h : ∀ (c : Addr) (h' : Heap), Fr G L h' m → News G L h' news → s.heap.StaysIn h' → h'.IsTuple c vs.toArray → Q (.ref c) { s with heap := h' }) : wpAny (model prog w) A (call (.type "tuple") [.ref l]) Q E s := by
  refine call_tuple_list hl (fun h' hk => ?_) (by rw [List.size_toArray, sizeLine_eq]; omega)
  have k := staysPush (h := h') (tupObj vs)
  exact h _ _ ((F.keeps hk).keeps k) ((N.grown hk).grown k) (fun b o e => k b o (hk b o e)) ⟨_, Heap.get?_push_size _ rfl, rfl, _, rfl⟩
end
theorem rows_of {h : Heap} {vs : List Value} {rows : List (List Cel)} (x : RowsAre h vs rows) : ∀ {ys : List Value}, (∀ y ∈ ys, y ∈ vs) → ∃ qs, RowsAre h ys qs ∧ ∀ q ∈ qs, q ∈ rows
  | [], _ => ⟨[], .nil, fun _ e => nomatch e⟩
  | y :: ys, hy => by
    obtain ⟨qs, a, b⟩ := rows_of x (ys := ys) fun z hz => hy z (.tail _ hz)
    obtain ⟨i, hi⟩ := List.getElem?_of_mem (hy y (.head _))
    obtain ⟨r, hr, hrow⟩ := x.get hi
    refine ⟨r :: qs, .cons hrow a, fun q hq => ?_⟩
    rcases List.mem_cons.mp hq with rfl | hq
    · exact List.mem_of_getElem? hr
    · exact b q hq
theorem RowsAre.app {h : Heap} {vs us : List Value} {rs qs : List (List Cel)} (x : RowsAre h vs rs) (y : RowsAre h us qs) : RowsAre h (vs ++ us) (rs ++ qs) := by
  induction x with
  | nil => exact y
  | cons a _ ih => exact .cons a ih
theorem cels_rep {c : Cel} {v : Value} (h : CelIs c v) : ∀ n : Nat, CelsAre (List.replicate n v) (List.replicate n c)
  | 0 => .nil
  | n + 1 => .cons h (cels_rep h n)
theorem cnt_rev : ∀ n, n ≤ 9 → slCnt none none (some (-1)) n ≤ 9 := by decide
theorem cnt_last : ∀ n, n ≤ 9 → slCnt (some (-1)) none none n ≤ 9 := by decide
theorem cnt_tail : ∀ n, n ≤ 9 → slCnt (some 1) none none n ≤ 9 := by decide
end

section
open PySem PySem.W PySem.Calls PyProof.Rows PySem.Spec PyProof.V
local macro_rules | `(tactic| walk_at $s) => Mine.red [("binaryOp Add", "g"), ("binaryOp Add ref ref", "m"), ("binaryOp Mult", "g"), ("binaryOp Mult ref int", "m"), ("call type:tuple", "m")] s
noncomputable def MvOk (mv : Value) : Prop := (∃ m t, mv = .int m t ∧ (m = 0 ∨ m = 1 ∨ m = 2)) ∨ mv = .bool true
noncomputable def Tiny (R : List (List Cel)) : Prop := R.length ≤ 9 ∧ ∀ r ∈ R, r.length ≤ 3
set_option maxHeartbeats 4000000 in
theorem bent_call {w : World} {A : Around} {base G : Heap} {envs : List Env} {mean : ExcName → Option Value} {mg mb : Str → Option Value} {sh : Heap} {sg : Array GenState} {sd : Drawn} {stk : Nat} {so : OsState} {Q E : Value → Shared → Prop}
    {n ar : Nat} {bd : Int} {tb tn ta : Tok} {lo up : Addr} {RL RU : List (List Cel)}
    (H : At w A base envs mean mg mb G ⟨sh, sg, sd, stk, so⟩) (hn : 1 ≤ n ∧ n ≤ 3) (har : ar = 1 ∨ ar = 2) (hd : A.depth ≤ 430) (hu : A.units ≤ 300)
    (hL : RelAt G lo ⟨true, RL⟩) (hU : RelAt G up ⟨true, RU⟩) (sL : Tiny RL) (sU : Tiny RU)
    (hret : ∀ t4 mv lo' up' RL' RU' h' tk', G.StaysIn h' → sh.get? t4 = none → h'.get? t4 = some (tupObj [mv, .ref lo', .ref up']) → MvOk mv → RelAt h' lo' RL' → RelAt h' up' RU' → Small RL' → Small RU' → (RL'.tup = true ∧ (RU'.tup = false → G.get? up' = none)) → Q (.ref t4) (⟨h', sg, sd, tk', so⟩ : Shared)) :
    wpAny (model Challenge.pw_nu0267_01 w) A (call (.ref 220) [.int bd tb, .int n tn, .int ar ta, .ref lo, .ref up]) Q E ⟨sh, sg, sd, stk, so⟩ := by
  revert hd hu
  refine At.lit (P := fun A => (A.depth ≤ _) → (A.units ≤ _) → wpAny _ A _ _ _ _) H fun dp gd un H hd hu => ?_
  dsimp only at hd hu
  refine wpAny_call ?_
  k_dflt (refine' enter (news := []) (binds := [(Str.ofString "bend", .int bd tb), (Str.ofString "n", .int n tn), (Str.ofString "arity", .int ar ta), (Str.ofString "lower", .ref lo), (Str.ofString "upper", .ref up)]) H ?hN ?ho ?hcd ?hroom ?hbind ?hloc ?_ ?hcell ?hco ?hgen ?hk)
  case hN => exact fun _ h => nomatch h
  case ho => k_is
  case hcd => k_is
  case hroom => k_room
  case hbind => exact BindsTo.of_eq rfl
  case hloc => exact locs rfl
  case hcell => decide
  case hco => exact rfl
  case hgen => exact rfl
  case hk => exact rfl
  intro L' h₁ env0 M0 F N B X T hs hL'
  (try dsimp only); (try ((show wpAny _ _ _ _ _ _); k_fold))
  have hnone : ∀ {h : Heap} {m : Str → Option Value}, Fr G L' h m → sh.get? h.objs.size = none := fun F => Heap.get?_none_of_le (Nat.le_of_lt (hL' ▸ F.ns.lt))
  have sml : ∀ {R : List (List Cel)}, R.length ≤ 18 → (∀ r ∈ R, r.length ≤ 3) → ∀ {b : Bool}, Small ⟨b, R⟩ := fun {_} h1 h2 {_} => ⟨fun r hr => Nat.le_trans (h2 r hr) (by decide), Nat.le_trans h1 (by decide)⟩
  have sL9 : Small ⟨true, RL⟩ := sml (Nat.le_trans sL.1 (by decide)) sL.2
  have sU9 : Small ⟨true, RU⟩ := sml (Nat.le_trans sU.1 (by decide)) sU.2
  have mva : MvOk (.int ar ta) := .inl ⟨_, _, rfl, by omega⟩
  have z1 : @LE.le Nat _ 1 sizeLine := by rw [sizeLine_eq]; exact Nat.le_of_ble_eq_true rfl
  have z3 : @LE.le Nat _ 3 sizeLine := by rw [sizeLine_eq]; exact Nat.le_of_ble_eq_true rfl
  obtain ⟨us, hut, hur⟩ := id hU
  rw [if_pos rfl] at hut
  dsimp only at hur
  have hu9 : us.length ≤ 9 := by rw [hur.length]; exact sU.1
  k_steps
  · refine sub_any F N (tupKeeps hut F.keep) .none .none (.int (-1) _) (by decide) hu9 cnt_rev fun a ys h2 F2 N2 k2 ta hy hl => ?_
    obtain ⟨qs, hqs, hq⟩ := rows_of (hur.keeps F2.keep) hy
    k_steps
    refine newTup_stays F2 N2 (fun h3 F3 N3 k3 l3 => ?_) z3
    k_unfold
    exact hret _ _ lo a _ ⟨true, qs⟩ _ _ F3.keep (hnone F2) (N3 _ (.head _)).1 mva (hL.keeps F3.keep) (RelAt.mk (tupKeeps ta k3) (hqs.keeps k3)) sL9 (sml (by rw [← hqs.length]; omega) fun r hr => sU.2 r (hq r hr)) ⟨rfl, fun h => nomatch h⟩
  · refine sub_any F N (tupKeeps hut F.keep) (.int (-1) _) .none .none (by decide) hu9 cnt_last fun a ys h2 F2 N2 k2 ta hy hl => ?_
    obtain ⟨qs, hqs, hq⟩ := rows_of (hur.keeps F2.keep) hy
    k_steps
    refine glue_any F2 N2 (tupKeeps hut F2.keep) ta hu9 hl fun c h3 F3 N3 k3 tc => ?_
    k_steps
    refine newTup_stays F3 N3 (fun h4 F4 N4 k4 l4 => ?_) z3
    k_unfold
    exact hret _ _ lo c _ ⟨true, RU ++ qs⟩ _ _ F4.keep (hnone F3) (N4 _ (.head _)).1 mva (hL.keeps F4.keep) (RelAt.mk (tupKeeps tc k4) ((hur.keeps F4.keep).app ((hqs.keeps k3).keeps k4))) sL9
      (sml (by rw [List.length_append, ← hqs.length]; have := sU.1; omega) fun r hr => (List.mem_append.mp hr).elim (sU.2 r) fun hr => sU.2 r (hq r hr)) ⟨rfl, fun h => nomatch h⟩
  · (rename Fr _ _ _ _ => F2)
    refine newTup_stays F2 (by assumption) (fun h3 F3 N3 k3 l3 => ?_) z3
    k_unfold
    exact hret _ _ lo _ _ ⟨false, RU⟩ _ _ F3.keep (hnone F2) (N3 _ (.head _)).1 mva (hL.keeps F3.keep) ⟨us, by rw [if_neg Bool.false_ne_true]; exact News.isList N3 (.tail _ (.head _)), hur.keeps F3.keep⟩ sL9 (sml (Nat.le_trans sU.1 (by decide)) sU.2) ⟨rfl, fun _ => (N3 _ (.tail _ (.head _))).2.2⟩
  · refine newTup_stays F N (fun h2 F2 N2 k2 l2 => ?_) z1
    k_steps
    refine times_any F2 N2 (N2 _ (.head _)).1 (by omega) fun c h3 F3 N3 k3 tc => ?_
    k_steps
    refine newTup_stays F3 N3 (fun h4 F4 N4 k4 l4 => ?_) z1
    k_steps
    refine glue_any F4 N4 (tupKeeps hut F4.keep) (ws := [.ref c]) ⟨_, (N4 _ (.head _)).1, rfl, _, rfl⟩ hu9 (Nat.le_of_ble_eq_true rfl) fun d h5 F5 N5 k5 td => ?_
    k_steps
    refine newTup_stays F5 N5 (fun h6 F6 N6 k6 l6 => ?_) z3
    k_unfold
    exact hret _ _ lo d _ ⟨true, RU ++ [List.replicate (ar : Int).toNat (.int n)]⟩ _ _ F6.keep (hnone F5) (N6 _ (.head _)).1 mva (hL.keeps F6.keep)
      (RelAt.mk (tupKeeps td k6) ((hur.keeps F6.keep).app (.cons ⟨c, _, rfl, tupKeeps (tupKeeps (tupKeeps tc k4) k5) k6, cels_rep (show CelIs (.int n) _ from ⟨tn, rfl⟩) _⟩ .nil))) sL9
      (sml (by rw [List.length_append]; have := sU.1; simp; omega) fun r hr => (List.mem_append.mp hr).elim (sU.2 r) fun hr => by rw [List.mem_singleton.mp hr, List.length_replicate]; omega) ⟨rfl, fun h => nomatch h⟩
  · refine newTup_stays F N (fun h2 F2 N2 k2 l2 => ?_) z1
    k_steps
    refine times_any F2 N2 (N2 _ (.head _)).1 (by omega) fun c h3 F3 N3 k3 tc => ?_
    k_steps
    refine newTup_stays F3 N3 (fun h4 F4 N4 k4 l4 => ?_) z1
    k_steps
    refine glue_any F4 N4 (tupKeeps hut F4.keep) (ws := [.ref c]) ⟨_, (N4 _ (.head _)).1, rfl, _, rfl⟩ hu9 (Nat.le_of_ble_eq_true rfl) fun d h5 F5 N5 k5 td => ?_
    k_steps
    refine newTup_stays F5 N5 (fun h6 F6 N6 k6 l6 => ?_) z3
    k_unfold
    exact hret _ _ lo d _ ⟨true, RU ++ [List.replicate ((ar : Int) + 1).toNat (.int ((n : Int) - 1))]⟩ _ _ F6.keep (hnone F5) (N6 _ (.head _)).1 mva (hL.keeps F6.keep)
      (RelAt.mk (tupKeeps td k6) ((hur.keeps F6.keep).app (.cons ⟨c, _, rfl, tupKeeps (tupKeeps (tupKeeps tc k4) k5) k6, cels_rep (show CelIs (.int ((n : Int) - 1)) _ from ⟨_, rfl⟩) _⟩ .nil))) sL9
      (sml (by rw [List.length_append]; have := sU.1; simp; omega) fun r hr => (List.mem_append.mp hr).elim (sU.2 r) fun hr => by rw [List.mem_singleton.mp hr, List.length_replicate]; omega) ⟨rfl, fun h => nomatch h⟩
  · refine rows_call (pureAt B X T rfl F rfl rfl) hn har (by rw [depth_deeper]; dsimp only; omega) (by rw [units_deeper]; dsimp only; omega) fun D ys k rs h2 tk2 k2 lD gD hrs h9 hr2 => ?_
    have F2 := frStays F k2
    have N2 := newsStays N k2
    k_steps
    refine tuple_any F2 N2 ⟨_, gD, rfl, _, rfl⟩ (by rw [hrs.length]; exact h9) fun c h3 F3 N3 k3 tc => ?_
    k_steps
    refine newTup_stays F3 N3 (fun h4 F4 N4 k4 l4 => ?_) z3
    k_unfold
    exact hret _ _ c up ⟨true, rs⟩ ⟨true, RU⟩ _ _ F4.keep (hnone F3) (N4 _ (.head _)).1 mva (RelAt.mk (tupKeeps tc k4) ((hrs.keeps k3).keeps k4)) (hU.keeps F4.keep) (sml (Nat.le_trans h9 (by decide)) fun r hr => Nat.le_trans (hr2 r hr).1 (by decide)) sU9 ⟨rfl, fun h => nomatch h⟩
  · refine newTup_stays F N (fun h2 F2 N2 k2 l2 => ?_) z1
    k_steps
    refine times_any F2 N2 (N2 _ (.head _)).1 (by omega) fun c h3 F3 N3 k3 tc => ?_
    k_steps
    refine newTup_stays F3 N3 (fun h4 F4 N4 k4 l4 => ?_) z1
    k_steps
    refine sub_any F4 N4 (tupKeeps hut F4.keep) (.int 1 _) .none .none (by decide) hu9 cnt_tail fun a ys h5 F5 N5 k5 ta hy hl => ?_
    obtain ⟨qs, hqs, hq⟩ := rows_of (hur.keeps F5.keep) hy
    k_steps
    refine glue_any F5 N5 (vs := [.ref c]) ⟨_, (N5 _ (.head _)).1, rfl, _, rfl⟩ ta (Nat.le_of_ble_eq_true rfl) hl fun d h6 F6 N6 k6 td => ?_
    k_steps
    refine newTup_stays F6 N6 (fun h7 F7 N7 k7 l7 => ?_) z3
    k_unfold
    exact hret _ _ lo d _ ⟨true, [List.replicate (ar : Int).toNat .no] ++ qs⟩ _ _ F7.keep (hnone F6) (N7 _ (.head _)).1 mva (hL.keeps F7.keep)
      (RelAt.mk (tupKeeps td k7) (RowsAre.app (.cons ⟨c, _, rfl, tupKeeps (tupKeeps (tupKeeps (tupKeeps tc k4) k5) k6) k7, cels_rep (show CelIs .no _ from rfl) _⟩ .nil) ((hqs.keeps k6).keeps k7))) sL9
      (sml (by rw [List.length_append, ← hqs.length]; simp; omega) fun r hr => (List.mem_append.mp hr).elim (fun hr => by rw [List.mem_singleton.mp hr, List.length_replicate]; omega) fun hr => sU.2 r (hq r hr)) ⟨rfl, fun h => nomatch h⟩
  all_goals
    refine newTup_stays F N (fun h2 F2 N2 k2 l2 => ?_) z3
    k_unfold
  · exact hret _ _ lo up ⟨true, RL⟩ ⟨true, RU⟩ _ _ F2.keep (hnone F) (N2 _ (.head _)).1 (.inl ⟨_, _, rfl, .inl rfl⟩) (hL.keeps F2.keep) (hU.keeps F2.keep) sL9 sU9 ⟨rfl, fun h => nomatch h⟩
  · exact hret _ _ lo up ⟨true, RL⟩ ⟨true, RU⟩ _ _ F2.keep (hnone F) (N2 _ (.head _)).1 (.inr rfl) (hL.keeps F2.keep) (hU.keeps F2.keep) sL9 sU9 ⟨rfl, fun h => nomatch h⟩
  · exact hret _ _ lo up ⟨true, RL⟩ ⟨true, RU⟩ _ _ F2.keep (hnone F) (N2 _ (.head _)).1 mva (hL.keeps F2.keep) (hU.keeps F2.keep) sL9 sU9 ⟨rfl, fun h => nomatch h⟩
end

section
open PySem PySem.W PySem.Calls PyProof.Rows PySem.Spec
section
variable {prog : Program} {w : World} {A : Around} {E : Value → Shared → Prop} {s : Shared} {env : Env} {G : Heap}
theorem LcSrc.enum {xi xv : Str} {pi pv pt : Pos} {x1 : Nat} {cenv : Env} {e it l : Addr} {vs : List Value} (hh : A.handled = none) (hei : e ≠ it) (hle : l ≠ e) (hli : l ≠ it) (hxi : cenv.kindOf xi = some .local) (hxv : cenv.kindOf xv = some .local) (hne : xi ≠ xv)
    (hp : (cenv.scope.kind == .class || (cenv.scope.kind == .module && cenv.locals != cenv.globals)) = false) :
    LcSrc prog w A (.Tuple [.Name xi pi, .Name xv pv] x1 pt) cenv e [e, it, l] [e, it] vs.length (fun i m => ∃ v tk, vs[i]? = some v ∧ m xv = some v ∧ m xi = some (.int (i : Nat) tk))
      (fun i h => (∃ old, IsEnum h e it (i : Nat) old) ∧ h.IsListIter it l i ∧ h.IsList l vs.toArray) := by
  have W := WalksT.enumerate (prog := prog) (w := w) hh e it l hei hle hli vs.toArray
  have hlen : vs.toArray.size = vs.length := by simp
  rw [hlen] at W
  refine ⟨W.sub, W.frame, fun i s m E hi st hn hC => ?_, W.done, W.self⟩
  have hCe : cenv.locals ≠ e := fun q => hC (q ▸ .head _)
  have hCi : cenv.locals ≠ it := fun q => hC (q ▸ .tail _ (.head _))
  have hCw : cenv.locals ∉ [e, it] := fun q => by
    rcases List.mem_cons.mp q with q | q
    · exact hCe q
    · exact hCi (List.mem_singleton.mp q)
  refine W.item i s _ E hi st fun T vals h₁ tk₁ hP hT hTt hM k₁ => ⟨.ref T, ?_⟩
  obtain ⟨tki, v, hv, rfl⟩ := hP
  refine W.go _ _ _ i T _ _ _ hM fun h₂ st₂ k₂ => ?_
  have hT2 : h₂.IsTuple T #[.int i tki, v] := let ⟨o, ho, r⟩ := hTt; ⟨o, k₂ T o (W.apart i T h₁ hM) ho, r⟩
  refine wpAny_assign_Tuple hh hT2 rfl rfl fun h₃ hx₃ => ?_
  replace hx₃ : Heap.ExtBut h₂.objs.size h₂ h₃ := hx₃
  have u₃ : h₂.StaysIn h₃ := fun b o q => hx₃ b o (Nat.ne_of_lt (Heap.lt_size q)) q
  have hn₃ : h₃.Ns cenv.locals m := hn.at' fun o q => u₃ _ _ (k₂ _ o hCw (k₁ _ o hCw q))
  show wpAny _ A (do holding [v] (assign (.Name xi pi) cenv (.int i tki)); do holding [] (assign (.Name xv pv) cenv v); pure ()) _ _ _
  refine wpAny_bind (wpAny_holding (wpAny_assign_Name (wpAny_storeName_local hxi hn₃ (fun h₄ hn₄ hs₄ => ?_) hp)))
  refine wpAny_bind (wpAny_holding (wpAny_assign_Name (wpAny_storeName_local hxv hn₄ (fun h₅ hn₅ hs₅ => wpAny_pure ?_) hp)))
  have k5 : ∀ b o, b ≠ cenv.locals → h₂.get? b = some o → h₅.get? b = some o := fun b o hb q => hs₅.extBut b o hb (hs₄.extBut b o hb (u₃ b o q))
  refine ⟨h₅, _, _, ⟨v, tki, by simpa using hv, by simp, by simp [hne]⟩, W.frame _ _ _ st₂ fun b hb o q => k5 b o (fun z => hC (z ▸ hb)) q, hn₅, fun b o hbC hbw q => k5 b o hbC (k₂ b o hbw (k₁ b o hbw q))⟩
/-- what the source of a comprehension over enumerate(list) comes to, and its turns -/
inductive LcGoE (prog : Program) (w : World) (A : Around) (G : Heap) (env : Env) (scope : Scope) (cl : List (Str × Addr)) (xi xv : Str) (ifs : List Expr) (elt : Expr) (J : Nat → List Value → Prop) (Q : Value → Shared → Prop) : Value → Shared → Prop
  | mk {s : Shared} (e it l : Addr) (vs : List Value) (m : Str → Option Value) (news : List (Addr × Obj)) (h₀ : Heap) (z1 : e ≠ it) (z2 : h₀.objs.size ≤ e) (z3 : h₀.objs.size ≤ it) (z4 : h₀.StaysIn s.heap) (z5 : IsEnum s.heap e it 0 .none) (z6 : s.heap.IsListIter it l 0) (z7 : h₀.IsList l vs.toArray) (z8 : Fr G env.locals h₀ m) (z9 : News G env.locals h₀ news) (z10 : vs.length ≤ sizeLine) (z11 : (∀ C i v tki ys h tk m₂ E', vs[i]? = some v → ys.length ≤ i → J i ys → h₀.StaysIn h → h.Ns C m₂ → m₂ xv = some v → m₂ xi = some (.int (i : Nat) tki) → wpAny (model prog w) A (lcTests ifs (compEnvC scope cl C env)) (LcOk prog w A elt (compEnvC scope cl C env) s.gens s.drawn s.os h (fun y _ => J (i + 1) (ys ++ [y])) (fun _ => J (i + 1) ys) E') E' { s with heap := h, toks := tk })) (z12 : (∀ D h' tk ys k, Fr G env.locals h' m → News G env.locals h' ((D, listOf ys.toArray k) :: news) → (∀ p ∈ news, p.1 < D) → ys.length ≤ vs.length → J vs.length ys → h₀.StaysIn h' → Q (.ref D) { s with heap := h', toks := tk })) : LcGoE prog w A G env scope cl xi xv ifs elt J Q (.ref e) s
theorem lc_enum {xi xv : Str} {pi pv pt pos : Pos} {x1 : Nat} {elt iter : Expr} {ifs : List Expr} {scope : Scope} {cl : List (Str × Addr)} {Q : Value → Shared → Prop} (J : Nat → List Value → Prop)
    (hclos : closureFor scope env = pure cl) (hcell : ∀ y ∈ scope.names, y.2 ≠ .cell) (hkind : scope.kind = .function)
    (hnames : ∀ y ∈ scope.names, y.2 = .local → scope.names.lookup y.1 = some .local) (hxi : scope.names.lookup xi = some .local) (hxv : scope.names.lookup xv = some .local) (hne : xi ≠ xv) (hh : A.handled = none) (hj : J 0 [])
    (h : wpAny (model prog w) A (eval iter env) (LcGoE prog w A G env scope cl xi xv ifs elt J Q) E s)
    (hs : ∀ x, foldedSetIterable iter env x = pure x := by intro _; rfl) :
    wpAny (model prog w) A (eval (.ListComp elt [⟨.Tuple [.Name xi pi, .Name xv pv] x1 pt, iter, ifs, 0⟩] scope pos) env) Q E s := by
  refine lc_inv (fun i ys _ => J i ys) (fun _ _ _ _ _ x => x) hclos hcell hkind hnames (wpAny_mono h (fun r s h₁ => ?_) fun _ _ e => e) hs
  obtain ⟨e, it, l, vs, m, news, h₀, hei, he0, hi0, h0s, hE, hI, hl, F, N, hsz, turn, done⟩ := h₁
  have hllt : @LT.lt Nat _ l h₀.objs.size := by obtain ⟨o, ho, _⟩ := hl; exact Heap.lt_size ho
  have hle : l ≠ e := Nat.ne_of_lt (Nat.lt_of_lt_of_le hllt he0)
  have hli : l ≠ it := Nat.ne_of_lt (Nat.lt_of_lt_of_le hllt hi0)
  have hls : s.heap.IsList l vs.toArray := hl.at fun o q => h0s _ _ q
  have up : ∀ {h' : Heap}, (∀ b o, b ∉ [e, it] → s.heap.get? b = some o → h'.get? b = some o) → h₀.StaysIn h' := fun k b o q => k b o (fun z => by
    have hb := Heap.lt_size q
    rcases List.mem_cons.mp z with rfl | z
    · exact absurd hb (Nat.not_lt.mpr he0)
    · exact absurd hb (Nat.not_lt.mpr (List.mem_singleton.mp z ▸ hi0))) (h0s b o q)
  refine wpAny_pyIter_enum hE ⟨e, [e, it, l], [e, it], vs.length, _, _, fun C => LcSrc.enum hh hei hle hli (lookup_relabel_local hxi) (lookup_relabel_local hxv) hne (by simp [compEnvC, relabel, hkind]), hsz, ⟨⟨_, hE⟩, hI, hls⟩, fun b hb => ?_, hj, ?_, ?_⟩
  · rcases List.mem_cons.mp hb with rfl | hb
    · exact Heap.lt_size hE
    · rcases List.mem_cons.mp hb with rfl | hb
      · obtain ⟨o, ho, _⟩ := hI; exact Heap.lt_size ho
      · obtain ⟨o, ho, _⟩ := hls; exact List.mem_singleton.mp hb ▸ Heap.lt_size ho
  · rintro C D i ys h tk m' hC hD _ hi hy ⟨v, tki, hv, hmv, hmi⟩ hn st hJ E'
    refine turn C i v tki ys h tk m' E' hv hy hJ (up fun b o hb q => of_hideAll _ (st b o (hideAll_get _ q hb))) hn hmv hmi
  · intro D C h' tk ys hC hD hDC hpl hy hJ hk
    have st' := up hk
    obtain ⟨k, hk'⟩ := hpl
    have hDs : h₀.objs.size ≤ D := Nat.le_trans (Nat.le_of_lt (Nat.lt_of_le_of_lt he0 (Heap.lt_size hE))) hD
    have F' := frStays F st'
    have N' := newsStays N st'
    exact done D h' tk ys k F' (newsAdd F N' hDs hk') (fun p hp => Nat.lt_of_lt_of_le (Heap.lt_size (N p hp).1) hDs) hy hJ st'
theorem lcGoE {e it l : Addr} {scope : Scope} {cl : List (Str × Addr)} {xi xv : Str} {ifs : List Expr} {elt : Expr} {J : Nat → List Value → Prop} {Q : Value → Shared → Prop} {vs : List Value} {m : Str → Option Value} {news : List (Addr × Obj)} {h₀ : Heap}
    (hei : e ≠ it) (he : h₀.objs.size ≤ e) (hi : h₀.objs.size ≤ it) (h0 : h₀.StaysIn s.heap) (hE : IsEnum s.heap e it 0 .none) (hI : s.heap.IsListIter it l 0) (hl : h₀.IsList l vs.toArray) (F : Fr G env.locals h₀ m) (N : News G env.locals h₀ news) (hsz : vs.length ≤ sizeLine)
    (turn : ∀ C i v tki ys h tk m₂ E', vs[i]? = some v → ys.length ≤ i → J i ys → h₀.StaysIn h → h.Ns C m₂ → m₂ xv = some v → m₂ xi = some (.int (i : Nat) tki) →
        wpAny (model prog w) A (lcTests ifs (compEnvC scope cl C env)) (LcOk prog w A elt (compEnvC scope cl C env) s.gens s.drawn s.os h (fun y _ => J (i + 1) (ys ++ [y])) (fun _ => J (i + 1) ys) E') E' { s with heap := h, toks := tk })
    (done : ∀ D h' tk ys k, Fr G env.locals h' m → News G env.locals h' ((D, listOf ys.toArray k) :: news) → (∀ p ∈ news, p.1 < D) → ys.length ≤ vs.length → J vs.length ys → h₀.StaysIn h' → Q (.ref D) { s with heap := h', toks := tk }) :
    LcGoE prog w A G env scope cl xi xv ifs elt J Q (.ref e) s := ⟨e, it, l, vs, m, news, h₀, hei, he, hi, h0, hE, hI, hl, F, N, hsz, turn, done⟩
end
end

section
open PySem PySem.W PySem.Calls PyProof.Rows PySem.Spec PyProof.V
local macro_rules | `(tactic| walk_at $s) => Mine.red [("subscriptTail Attribute Name Name ref int", "m"), ("call builtin:str.join", "m"), ("binaryOp Add str str", "m")] s
noncomputable def atomTxt (nm : List Str) : Cel → Str
  | .int i => nm.getD i.toNat Str.empty
  | .no => Str.empty
noncomputable def rowTxt (nm : List Str) (r : List Cel) : Str := Txt.join (Str.ofString "->") (r.map (atomTxt nm))
noncomputable def setTxt (nm : List Str) (rs : List (List Cel)) : Str := Txt.join (Str.ofString ", ") (rs.map (rowTxt nm))
noncomputable abbrev uniL (U Ud T D : Addr) (q4 q5 : Int) (k4 k5 : Tok) (names : List Value) : List (Addr × Obj) := [(U, instObj 115 Ud), (Ud, dictOf (uniEs q4 q5 k4 k5 T D) 2), (T, tupObj names)]
structure NamesOk (names : List Value) (nm : List Str) : Prop where
  are : StrsOf names nm
  few : nm.length ≤ 9
  small : ∀ x ∈ nm, x.length ≤ 10
  full : ∀ x ∈ nm, x ≠ Str.empty
  lay : ∀ x ∈ nm, (PyData.str x).canLay0 = true
noncomputable def inN (nm : List Str) (r : List Cel) : Prop := ∀ c ∈ r, ∃ i, c = .int i ∧ 0 ≤ i ∧ i < (nm.length : Int)
theorem strs_of {α : Type} {f : α → Str} : ∀ {ys : List Value} {xs : List α}, ys.length = xs.length → (∀ (j : Nat) y, ys[j]? = some y → ∃ t x, xs[j]? = some x ∧ y = .str (f x) t) → StrsAre ys (xs.map f)
  | [], [], _, _ => .nil
  | [], _ :: _, h, _ => by simp at h
  | _ :: _, [], h, _ => by simp at h
  | y :: ys, x :: xs, hl, h => by
    obtain ⟨t, x', e, rfl⟩ := h 0 y rfl
    obtain rfl : x = x' := Option.some.inj e
    exact .cons _ t (strs_of (by simpa using hl) fun j y e => by simpa using h (j + 1) y (by simpa using e))
theorem snocJ {P : Nat → Value → Prop} {ys : List Value} {i : Nat} {z : Value} (h : ys.length = i ∧ ∀ (j : Nat) y, ys[j]? = some y → P j y) (hz : P i z) : (ys ++ [z]).length = i + 1 ∧ ∀ (j : Nat) y, (ys ++ [z])[j]? = some y → P j y := by
  refine ⟨by rw [List.length_append, h.1]; rfl, fun j y hy => ?_⟩
  by_cases hji : j < ys.length
  · rw [List.getElem?_append_left hji] at hy
    exact h.2 j y hy
  · have hl1 := (List.getElem?_eq_some_iff.mp hy).1
    rw [List.length_append, List.length_singleton] at hl1
    obtain rfl : j = i := by have := h.1; omega
    rw [List.getElem?_append_right (by omega), h.1, Nat.sub_self] at hy
    exact Option.some.inj hy ▸ hz
theorem sum_le {B : Nat} : ∀ {l : List Str}, (∀ x ∈ l, x.length ≤ B) → (l.map (·.length)).sum ≤ l.length * B
  | [], _ => Nat.zero_le _
  | x :: l, h => by
    have h1 := h x (.head _)
    have h2 := sum_le fun y hy => h y (List.mem_cons_of_mem x hy)
    rw [List.map_cons, List.sum_cons, List.length_cons, Nat.add_mul]; omega
theorem join_le {sep : Str} {l : List Str} {B : Nat} (h : ∀ x ∈ l, x.length ≤ B) (hs : sep.length ≤ 2) : (Txt.join sep l).length ≤ l.length * B + l.length * 2 := by
  have e : Txt.join sep l = Str.join sep l := StrLaws.glued_eq_join sep l
  rw [e]
  exact Nat.le_trans (StrLaws.join_length_le sep l) (Nat.add_le_add (sum_le h) (Nat.mul_le_mul_left _ hs))
theorem atomTxt_le {nm : List Str} (h : ∀ x ∈ nm, x.length ≤ 10) (c : Cel) : (atomTxt nm c).length ≤ 10 := by
  cases c with
  | no => exact Nat.zero_le _
  | int i =>
    show (nm.getD i.toNat Str.empty).length ≤ 10
    rw [List.getD_eq_getElem?_getD]
    cases e : nm[i.toNat]? with
    | none => exact Nat.zero_le _
    | some x => exact h x (List.mem_of_getElem? e)
theorem sepRow : (Str.ofString "->").length ≤ 2 := by decide +kernel
theorem sepSet : (Str.ofString ", ").length ≤ 2 := by decide +kernel
theorem rowTxt_le {nm : List Str} (h : ∀ x ∈ nm, x.length ≤ 10) {r : List Cel} (hr : r.length ≤ 9) : (rowTxt nm r).length ≤ 108 := by
  refine Nat.le_trans (join_le (B := 10) (fun x hx => ?_) sepRow) (by rw [List.length_map]; omega)
  obtain ⟨c, _, rfl⟩ := List.mem_map.mp hx
  exact atomTxt_le h c
theorem atom_at {names : List Value} {nm : List Str} (hnm : NamesOk names nm) {k : Int} (k0 : 0 ≤ k) (kn : k < (nm.length : Int)) : ∃ t, names[k.toNat]? = some (.str (atomTxt nm (.int k)) t) := by
  have hl := hnm.are.1
  obtain ⟨v, hv⟩ : ∃ v, names[k.toNat]? = some v := ⟨names[k.toNat]'(by omega), List.getElem?_eq_getElem (by omega)⟩
  obtain ⟨x, t, e1, rfl⟩ := hnm.are.2 _ _ hv
  refine ⟨t, ?_⟩
  show _ = some (Value.str (nm.getD k.toNat Str.empty) t)
  rw [hv, List.getD_eq_getElem?_getD, e1]; rfl
set_option maxHeartbeats 4000000 in
theorem text_of_call {w : World} {A : Around} {base G : Heap} {envs : List Env} {mean : ExcName → Option Value} {mg mb : Str → Option Value} {s : Shared} {Q E : Value → Shared → Prop}
    {U Ud T D row : Addr} {q4 q5 : Int} {k4 k5 : Tok} {names : List Value} {nm : List Str} {r : List Cel}
    (H : At w A base envs mean mg mb G s) (hd : A.depth ≤ 440) (hu : A.units ≤ 400)
    (hN : ∀ p ∈ uniL U Ud T D q4 q5 k4 k5 names, s.heap.get? p.1 = some p.2 ∧ G.get? p.1 = none)
    (hnm : NamesOk names nm) (hr : RowAt G r (.ref row)) (hrl : r.length ≤ 9) (hok : inN nm r)
    (ok : ∀ t h' tk', G.StaysIn h' → (∀ p ∈ uniL U Ud T D q4 q5 k4 k5 names, h'.get? p.1 = some p.2) → Q (.str (rowTxt nm r) t) { s with heap := h', toks := tk' }) :
    wpAny (model Challenge.pw_nu0267_01 w) A (call (.ref 107) [.ref U, .ref row]) Q E s := by
  revert hd hu
  refine At.lit (P := fun A => (A.depth ≤ _) → (A.units ≤ _) → wpAny _ A _ _ _ _) H fun dp gd un H hd hu => ?_
  dsimp only at hd hu
  refine wpAny_call ?_
  k_dflt (refine' enterC (binds := [(Str.ofString "self", .ref U), (Str.ofString "row", .ref row)]) H hN ?ho ?hcd ?hroom ?hbind ?hkind ?hnd ?_ ?hco ?hgen ?hk)
  case ho => k_is
  case hcd => k_is
  case hroom => k_room
  case hbind => exact BindsTo.of_eq rfl
  case hkind => exact rfl
  case hnd => decide +kernel
  case hco => exact rfl
  case hgen => exact rfl
  case hk => exact rfl
  intro L' h₁ tk cells env0 M0 F N Y B X T' hs hL l1
  k_cells Y
  rename Obj => oc
  rename _ = Data.cell _ => dc
  replace dc : oc.data = .cell (some (.ref U)) := dc
  replace F : Fr G L' h₁ (fun y => if y = Str.ofString "row" then some (.ref row) else none) := F
  (try dsimp only [List.cons_append, List.nil_append] at N)
  (try dsimp only); (try ((show wpAny _ _ _ _ _ _); k_fold))
  obtain ⟨ra, vs, e0, hrt, hrc⟩ := hr
  cases e0
  k_steps
  refine lc_over (G := G) (cl := [(Str.ofString "self", L' + 1)]) (fun i ys => ys.length = i ∧ ∀ (j : Nat) y, ys[j]? = some y → ∃ t c, r[j]? = some c ∧ y = .str (atomTxt nm c) t) (by rfl) (by decide) rfl (by decide) rfl rfl ⟨rfl, fun j y e => by simp at e⟩ ?_
  k_steps
  refine lcGo (.inl (tupKeeps hrt (Fr.keep (by assumption)))) (by assumption) (by assumption) (by rw [sizeLine_eq, hrc.length]; omega) ?turn ?done
  case turn =>
    intro C i v ys h2 tk2 m2 E2 hv hyl hJ st2 hn2 hm2
    have F2 := frStays (by assumption) st2
    have N2 := newsStays (by assumption) st2
    obtain ⟨c, hc, hci⟩ := hrc.get hv
    obtain ⟨k, rfl, k0, kn⟩ := hok c (List.mem_of_getElem? hc)
    obtain ⟨t3, rfl⟩ : ∃ t, v = .int k t := hci
    refine lcTests_nil ?_
    k_steps
    obtain ⟨t4, hat⟩ := atom_at hnm k0 kn
    refine tup_at (vs := names.toArray) (j := k.toNat) (N2 _ (.tail _ (.tail _ (.tail _ (.head _))))).1 (by omega) (by have := hnm.few; omega) hat ?_
    exact lcElt (fun _ _ e => e) (snocJ hJ ⟨t4, _, hc, rfl⟩)
  case done =>
    intro D2 h2 tk2 ys k F2 N2 lD hyl hJ st2 hD2
    (try dsimp only)
    k_steps
    have hl9 : (r.map (atomTxt nm)).length ≤ 9 := by rw [List.length_map]; exact hrl
    have hw := sum_le (l := r.map (atomTxt nm)) (B := 10) fun x hx => by
      obtain ⟨c, _, rfl⟩ := List.mem_map.mp hx
      exact atomTxt_le hnm.small c
    refine join_listW (News.isList N2 (.head _)) (ys := r.map (atomTxt nm)) (strs_of (by rw [hJ.1, hrc.length]) hJ.2) (by decide +kernel) (by omega) fun t' k' => ?_
    exact ok _ _ _ F2.keep fun p hp => (N2 p (.tail _ (.tail _ hp))).1
end

section
open PySem PySem.W PySem.Calls PyProof.Rows PySem.Spec PyProof.V
local macro_rules | `(tactic| walk_at $s) => Mine.red [("subscriptTail Name Name ref int", "m"), ("call builtin:str.join", "m"), ("binaryOp Add str str", "m"), ("exec For", "for2"), ("exec For Name Name cons nil", "for2")] s
/-- rows of atoms, few and short -/
structure Shown (nm : List Str) (rows : List (List Cel)) : Prop where
  few : rows.length ≤ 20
  short : ∀ r ∈ rows, r.length ≤ 9
  full : ∀ r ∈ rows, r ≠ []
  ok : ∀ r ∈ rows, inN nm r
noncomputable def setStr (nm : List Str) (rs : List (List Cel)) : Str := Str.ofString "{" ++ setTxt nm rs ++ Str.ofString "}"
theorem brace1 : (Str.ofString "{").length ≤ 1 := by decide +kernel
theorem brace2 : (Str.ofString "}").length ≤ 1 := by decide +kernel
theorem setTxt_le {nm : List Str} (h : ∀ x ∈ nm, x.length ≤ 10) {rows : List (List Cel)} (hr : ∀ r ∈ rows, r.length ≤ 9) (h20 : rows.length ≤ 20) : (setTxt nm rows).length ≤ 2200 := by
  refine Nat.le_trans (join_le (B := 108) (fun x hx => ?_) sepSet) (by rw [List.length_map]; omega)
  obtain ⟨r, hr', rfl⟩ := List.mem_map.mp hx
  exact rowTxt_le h (hr r hr')
theorem text_of_use {w : World} {A : Around} {base G : Heap} {envs : List Env} {mean : ExcName → Option Value} {mg mb : Str → Option Value} {s : Shared} {env : Env} {L : Addr} {m : Str → Option Value} {news : List (Addr × Obj)} {Q E : Value → Shared → Prop}
    {U Ud T D row : Addr} {q4 q5 : Int} {k4 k5 : Tok} {names : List Value} {nm : List Str} {r : List Cel}
    (F : Fr G L s.heap m) (N : News G L s.heap news) (B : Below A base envs G) (X : (Mine.hd.heap_39 w.params).In G) (T' : Top Mine.hd.view_39 (looseW Mine.hd.view_39 []) mean mg mb G) (hh : A.handled = none) (hf : env.frame = some L) (hk : env.scope.kind = .function)
    (hs : ∀ p ∈ uniL U Ud T D q4 q5 k4 k5 names, p ∈ news) (hd : (A.deeper env).depth ≤ 440) (hu : (A.deeper env).units ≤ 400) (hnm : NamesOk names nm) (hr : RowAt G r (.ref row)) (hrl : r.length ≤ 9) (hok : inN nm r)
    (k : ∀ t h' tk', s.heap.StaysIn h' → Q (.str (rowTxt nm r) t) { s with heap := h', toks := tk' }) :
    wpAny (model Challenge.pw_nu0267_01 w) (A.deeper env) (call (.ref 107) [.ref U, .ref row]) Q E s := by
  obtain ⟨H, N1, U1⟩ := use_pure (uniL U Ud T D q4 q5 k4 k5 names) F N B X T' hh hf hk hs
  exact text_of_call H hd hu N1 hnm (hr.keeps (led_up N hs F.keep)) hrl hok fun t h' tk' k1 k2 => k t h' tk' (U1 h' k1 k2)
set_option maxHeartbeats 4000000 in
theorem set_text_call {w : World} {A : Around} {base G : Heap} {envs : List Env} {mean : ExcName → Option Value} {mg mb : Str → Option Value} {s : Shared} {Q E : Value → Shared → Prop}
    {U Ud T D a : Addr} {q4 q5 : Int} {k4 k5 : Tok} {names : List Value} {nm : List Str} {rows : List (List Cel)}
    (H : At w A base envs mean mg mb G s) (hd : A.depth ≤ 430) (hu : A.units ≤ 300)
    (hN : ∀ p ∈ uniL U Ud T D q4 q5 k4 k5 names, s.heap.get? p.1 = some p.2 ∧ G.get? p.1 = none)
    (hnm : NamesOk names nm) (hR : RelAt G a ⟨true, rows⟩) (hok : Shown nm rows)
    (ok : ∀ t h' tk', G.StaysIn h' → (∀ p ∈ uniL U Ud T D q4 q5 k4 k5 names, h'.get? p.1 = some p.2) → Q (.str (setStr nm rows) t) { s with heap := h', toks := tk' }) :
    wpAny (model Challenge.pw_nu0267_01 w) A (call (.ref 112) [.ref U, .ref a]) Q E s := by
  revert hd hu
  refine At.lit (P := fun A => (A.depth ≤ _) → (A.units ≤ _) → wpAny _ A _ _ _ _) H fun dp gd un H hd hu => ?_
  dsimp only at hd hu
  refine wpAny_call ?_
  k_dflt (refine' enterC (binds := [(Str.ofString "self", .ref U), (Str.ofString "some", .ref a)]) H hN ?ho ?hcd ?hroom ?hbind ?hkind ?hnd ?_ ?hco ?hgen ?hk)
  case ho => k_is
  case hcd => k_is
  case hroom => k_room
  case hbind => exact BindsTo.of_eq rfl
  case hkind => exact rfl
  case hnd => decide +kernel
  case hco => exact rfl
  case hgen => exact rfl
  case hk => exact rfl
  intro L' h₁ tk cells env0 M0 F N Y B X T' hs hL l1
  k_cells Y
  rename Obj => oc
  rename _ = Data.cell _ => dc
  replace dc : oc.data = .cell (some (.ref U)) := dc
  replace F : Fr G L' h₁ (fun y => if y = Str.ofString "some" then some (.ref a) else none) := F
  (try dsimp only [List.cons_append, List.nil_append] at N)
  (try dsimp only); (try ((show wpAny _ _ _ _ _ _); k_fold))
  obtain ⟨vs, hvs, hrows⟩ := hR
  rw [if_pos rfl] at hvs
  dsimp only at hrows
  have hvl := hrows.length
  have h20 := hok.few
  have hsub : ∀ p ∈ uniL U Ud T D q4 q5 k4 k5 names, p ∈ (L' + 1, oc) :: uniL U Ud T D q4 q5 k4 k5 names := fun p hp => .tail _ hp
  k_steps
  refine lc_over (G := G) (cl := [(Str.ofString "self", L' + 1)]) (fun i ys => ys.length = i ∧ ∀ (j : Nat) y, ys[j]? = some y → ∃ t r, rows[j]? = some r ∧ y = .str (rowTxt nm r) t) (by rfl) (by decide) rfl (by decide) rfl rfl ⟨rfl, fun j y e => by simp at e⟩ ?_
  k_steps
  refine lcGo (.inl (tupKeeps hvs (Fr.keep (by assumption)))) (by assumption) (by assumption) (by rw [sizeLine_eq]; omega) ?turn ?done
  case turn =>
    intro C i v ys h2 tk2 m2 E2 hv hyl hJ st2 hn2 hm2
    have F2 := frStays (by assumption) st2
    have N2 := newsStays (by assumption) st2
    obtain ⟨r, hr, b, ws, rfl, hb, hc⟩ := hrows.get hv
    have hrm := List.mem_of_getElem? hr
    refine lcTests_nil ?_
    k_steps
    refine text_of_use F2 N2 B X T' rfl rfl rfl hsub (by rw [depth_deeper]; dsimp only; omega) (by rw [units_deeper]; dsimp only; omega) hnm ⟨b, ws, rfl, hb, hc⟩ (hok.short r hrm) (hok.ok r hrm) fun t h3 tk3 k3 => ?_
    (try k_unfold)
    exact lcElt k3 (snocJ hJ ⟨t, r, hr, rfl⟩)
  case done =>
    intro D2 h2 tk2 ys k F2 N2 lD hyl hJ st2 hD2
    (try dsimp only)
    k_steps
    have hw := sum_le (l := rows.map (rowTxt nm)) (B := 108) fun x hx => by
      obtain ⟨r, hr, rfl⟩ := List.mem_map.mp hx
      exact rowTxt_le hnm.small (hok.short r hr)
    rw [List.length_map] at hw
    refine join_listW (News.isList N2 (.head _)) (ys := rows.map (rowTxt nm)) (strs_of (by rw [hJ.1, hvl]) hJ.2) (by decide +kernel) (by rw [List.length_map]; omega) fun t' k' => ?_
    have hz := setTxt_le hnm.small hok.short hok.few
    have z1 := brace1
    have z2 := brace2
    k_steps
    refine PyProof.Rows.add_str (fun t5 tk5 => ?_) (by show _ + (setTxt nm rows).length ≤ _; rw [sizeLine_eq]; omega)
    k_steps
    refine PyProof.Rows.add_str (fun t6 tk6 => ?_) (by rw [Str.length_append, sizeLine_eq]; show _ + (setTxt nm rows).length + _ ≤ _; omega)
    k_steps
    exact ok _ _ _ F2.keep fun p hp => (N2 p (.tail _ (.tail _ hp))).1
end

section
open PySem PySem.W PySem.Calls PyProof.Rows PySem.Spec PyProof.V
local macro_rules | `(tactic| walk_at $s) => Mine.red [("subscriptTail Name Name ref int", "m"), ("call builtin:str.join", "m"), ("binaryOp Add str str", "m"), ("exec For Name Name cons nil", "for2")] s
theorem map_f {x f : Str} {v fv : Option Value} {u m₀ : Str → Option Value} (h : u f = fv) : (fun y => if y = x then v else if y = f then u y else m₀ y) = fun y => if y = x then v else if y = f then fv else m₀ y := by
  funext y
  by_cases h1 : y = x
  · simp [h1]
  · by_cases h2 : y = f
    · subst h2; simp [h1, h]
    · simp [h1, h2]
theorem map_d {x f : Str} {fv : Option Value} {u m₀ : Str → Option Value} (h : u f = fv) : (fun y => if y = x then u y else if y = f then u y else m₀ y) = fun y => if y = x then u x else if y = f then fv else m₀ y := by
  funext y
  by_cases h1 : y = x
  · simp [h1]
  · by_cases h2 : y = f
    · subst h2; simp [h1, h]
    · simp [h1, h2]
noncomputable def preTxt (nm : List Str) (rows : List (List Cel)) (i : Nat) : Str := setTxt nm (rows.take i)
theorem joinSnoc (sep a : Str) : ∀ l : List Str, Str.join sep (l ++ [a]) = if l = [] then a else Str.join sep l ++ sep ++ a
  | [] => rfl
  | [x] => rfl
  | x :: y :: r => by
    have ih := joinSnoc sep a (y :: r)
    rw [if_neg (fun h => nomatch h)] at ih ⊢
    show x ++ sep ++ Str.join sep ((y :: r) ++ [a]) = x ++ sep ++ Str.join sep (y :: r) ++ sep ++ a
    rw [ih]; simp only [Str.append_assoc]
theorem preTxt_step {nm : List Str} {rows : List (List Cel)} {i : Nat} {r : List Cel} (hr : rows[i]? = some r) : preTxt nm rows (i + 1) = if i = 0 then rowTxt nm r else preTxt nm rows i ++ Str.ofString ", " ++ rowTxt nm r := by
  have hi := (List.getElem?_eq_some_iff.mp hr).1
  unfold preTxt setTxt
  rw [List.take_add_one, hr]
  show Txt.join _ ((rows.take i ++ [r]).map (rowTxt nm)) = _
  rw [List.map_append]
  have e : ∀ l, Txt.join (Str.ofString ", ") l = Str.join (Str.ofString ", ") l := StrLaws.glued_eq_join _
  rw [e, e]
  show Str.join _ ((rows.take i).map (rowTxt nm) ++ [rowTxt nm r]) = _
  rw [joinSnoc]
  by_cases h0 : i = 0
  · subst h0; simp
  · rw [if_neg h0, if_neg]
    intro q
    have := congrArg List.length q
    simp at this
    rcases this with h | h
    · exact h0 h
    · rw [h] at hi; simp at hi
theorem rowTxt_pos {names : List Value} {nm : List Str} (hnm : NamesOk names nm) {r : List Cel} (h : r ≠ []) (hok : inN nm r) : 0 < (rowTxt nm r).length := by
  cases r with
  | nil => exact absurd rfl h
  | cons c r =>
    have hc : 0 < (atomTxt nm c).length := by
      obtain ⟨i, rfl, h0, h1⟩ := hok c (.head _)
      show 0 < (nm.getD i.toNat Str.empty).length
      rw [List.getD_eq_getElem?_getD]
      cases e : nm[i.toNat]? with
      | none => rw [List.getElem?_eq_none_iff] at e; omega
      | some x =>
        have := hnm.full x (List.mem_of_getElem? e)
        refine Nat.pos_of_ne_zero fun q => this ?_
        exact Str.ext' (Array.eq_empty_of_size_eq_zero q)
    have e : rowTxt nm (c :: r) = Str.join (Str.ofString "->") (atomTxt nm c :: r.map (atomTxt nm)) := StrLaws.glued_eq_join _ _
    rw [e]
    cases r with
    | nil => exact hc
    | cons d r =>
      show 0 < (atomTxt nm c ++ Str.ofString "->" ++ Str.join _ _).length
      rw [Str.length_append, Str.length_append]; omega
theorem preTxt_ne {names : List Value} {nm : List Str} (hnm : NamesOk names nm) {rows : List (List Cel)} (hf : ∀ r ∈ rows, r ≠ []) (hok : ∀ r ∈ rows, inN nm r) {i : Nat} (hi : i < rows.length) (h0 : i ≠ 0) : preTxt nm rows i ≠ Str.ofString "" := by
  obtain ⟨j, rfl⟩ : ∃ j, i = j + 1 := ⟨i - 1, by omega⟩
  have hr : rows[j]? = some (rows[j]'(by omega)) := List.getElem?_eq_getElem (by omega)
  have hm := List.mem_of_getElem? hr
  have hp := rowTxt_pos hnm (hf _ hm) (hok _ hm)
  intro q
  have := congrArg Str.length q
  rw [preTxt_step hr, show (Str.ofString "").length = 0 by decide +kernel] at this
  split at this
  · omega
  · rw [Str.length_append] at this; omega
noncomputable def sepOf : Bool → Str
  | true => Str.ofString ", "
  | false => Str.ofString ""
theorem emptyStr (x : Str) : x ++ Str.ofString "" = x := by
  rw [show Str.ofString "" = Str.empty by decide +kernel]; exact Str.append_empty x
theorem emptyStr' (x : Str) : Str.ofString "" ++ x = x := by
  rw [show Str.ofString "" = Str.empty by decide +kernel]; exact Str.empty_append x
theorem preTxt_next {names : List Value} {nm : List Str} (hnm : NamesOk names nm) {rows : List (List Cel)} (hok : Shown nm rows) {i : Nat} {r : List Cel} (hr : rows[i]? = some r) {b : Bool} (q : (preTxt nm rows i != Str.ofString "") = b) : preTxt nm rows i ++ sepOf b ++ rowTxt nm r = preTxt nm rows (i + 1) := by
  have hi := (List.getElem?_eq_some_iff.mp hr).1
  rw [preTxt_step hr]
  by_cases h0 : i = 0
  · subst h0
    have e : preTxt nm rows 0 = Str.ofString "" := by rw [show Str.ofString "" = Str.empty by decide +kernel]; rfl
    rw [e] at q ⊢
    have hb : b = false := by rw [← q]; simp
    subst hb
    rw [if_pos rfl]
    show Str.ofString "" ++ Str.ofString "" ++ _ = _
    rw [emptyStr, emptyStr']
  · have := preTxt_ne hnm hok.full hok.ok hi h0
    have hb : b = true := by rw [← q]; simpa using this
    subst hb
    rw [if_neg h0]; rfl
theorem preTxt_le {nm : List Str} (h : ∀ x ∈ nm, x.length ≤ 10) {rows : List (List Cel)} (hok : Shown nm rows) (i : Nat) : (preTxt nm rows i).length ≤ 2200 :=
  setTxt_le h (fun r hr => hok.short r (List.mem_of_mem_take hr)) (by rw [List.length_take]; have := hok.few; omega)
theorem sepOf_le (b : Bool) : (sepOf b).length ≤ 2 := by cases b <;> decide +kernel
set_option maxHeartbeats 4000000 in
theorem law_text_call {w : World} {A : Around} {base G : Heap} {envs : List Env} {mean : ExcName → Option Value} {mg mb : Str → Option Value} {s : Shared} {Q E : Value → Shared → Prop}
    {l a : Addr} {names : List Value} {nm : List Str} {rows : List (List Cel)}
    (H : At w A base envs mean mg mb G s) (hd : A.depth ≤ 430) (hu : A.units ≤ 300) (hl : G.IsList l names.toArray)
    (hnm : NamesOk names nm) (hR : RelAt G a ⟨true, rows⟩) (hok : Shown nm rows)
    (ok : ∀ t h' tk', G.StaysIn h' → Q (.str (setStr nm rows) t) { s with heap := h', toks := tk' }) :
    wpAny (model Challenge.pw_nu0267_01 w) A (call (.ref 256) [.ref l, .ref a]) Q E s := by
  revert hd hu
  refine At.lit (P := fun A => (A.depth ≤ _) → (A.units ≤ _) → wpAny _ A _ _ _ _) H fun dp gd un H hd hu => ?_
  dsimp only at hd hu
  refine wpAny_call ?_
  k_dflt (refine' enterC (news := []) (binds := [(Str.ofString "names", .ref l), (Str.ofString "some", .ref a)]) H ?hN ?ho ?hcd ?hroom ?hbind ?hkind ?hnd ?_ ?hco ?hgen ?hk)
  case hN => exact fun _ h => nomatch h
  case ho => k_is
  case hcd => k_is
  case hroom => k_room
  case hbind => exact BindsTo.of_eq rfl
  case hkind => exact rfl
  case hnd => decide +kernel
  case hco => exact rfl
  case hgen => exact rfl
  case hk => exact rfl
  intro L' h₁ tk cells env0 M0 F N Y B X T' hs hL l1
  k_cells Y
  rename Obj => oc
  rename _ = Data.cell _ => dc
  replace dc : oc.data = .cell (some (.ref l)) := dc
  replace F : Fr G L' h₁ (fun y => if y = Str.ofString "some" then some (.ref a) else none) := F
  (try dsimp only [List.cons_append, List.nil_append] at N)
  (try dsimp only); (try ((show wpAny _ _ _ _ _ _); k_fold))
  obtain ⟨vs, hvs, hrows⟩ := hR
  rw [if_pos rfl] at hvs
  dsimp only at hrows
  have hvl := hrows.length
  have h20 := hok.few
  k_steps
  refine iter_seqF "found" (fun i u => ∃ t, u (Str.ofString "found") = some (.str (preTxt nm rows i) t)) (.inl hvs) rfl (by assumption) (by assumption) ⟨_, rfl⟩ ?turn ?done
  case turn =>
    intro i v u h2 tk2 own hv hP F2 N2
    obtain ⟨tf, hu2⟩ := hP
    rw [map_f hu2] at F2
    obtain ⟨r, hr, b, ws, rfl, hb, hc⟩ := hrows.get hv
    have hrm := List.mem_of_getElem? hr
    (try dsimp only); (try ((show wpAny _ _ _ _ _ _); k_fold))
    k_steps
    all_goals
      rename_i q
      have e := preTxt_next hnm hok hr q
      have z1 := preTxt_le hnm.small hok i
      have z2 := rowTxt_le hnm.small (hok.short r hrm)
      have z3 := sepSet
      have z4 : (Str.ofString "").length = 0 := lits.1
      refine PyProof.Rows.add_str (fun t5 tk5 => ?_) (by rw [sizeLine_eq]; omega)
      k_steps
      refine lc_over (G := G) (cl := [(Str.ofString "names", L' + 1)]) (fun i ys => ys.length = i ∧ ∀ (j : Nat) y, ys[j]? = some y → ∃ t c, r[j]? = some c ∧ y = .str (atomTxt nm c) t) (by rfl) (by decide) rfl (by decide) rfl rfl ⟨rfl, fun j y e => by simp at e⟩ ?_
      k_steps
      refine lcGo (.inl (tupKeeps hb F2.keep)) F2 N2 (by rw [sizeLine_eq, hc.length]; have := hok.short r hrm; omega) ?turn3 ?done3
      case turn3 =>
        intro C i3 v3 ys h3 tk3 m3 E3 hv3 hyl hJ st3 hn3 hm3
        have F3 := frStays F2 st3
        have N3 := newsStays N2 st3
        obtain ⟨c, hc3, hci⟩ := hc.get hv3
        obtain ⟨k, rfl, k0, kn⟩ := hok.ok r hrm c (List.mem_of_getElem? hc3)
        obtain ⟨t3, rfl⟩ : ∃ t, v3 = .int k t := hci
        refine lcTests_nil ?_
        k_steps
        obtain ⟨t4, hat⟩ := atom_at hnm k0 kn
        refine list_at (vs := names) (j := k.toNat) (hl.at fun o e => F3.keep _ o e) (by omega) (by have := hnm.few; omega) hat ?_
        exact lcElt (fun _ _ e => e) (snocJ hJ ⟨t4, _, hc3, rfl⟩)
      case done3 =>
        intro D3 h3 tk3 ys k F3 N3 lD hyl hJ st3 hD3
        (try dsimp only)
        k_steps
        have hl9 : (r.map (atomTxt nm)).length ≤ 9 := by rw [List.length_map]; exact hok.short r hrm
        have hw := sum_le (l := r.map (atomTxt nm)) (B := 10) fun x hx => by
          obtain ⟨c, _, rfl⟩ := List.mem_map.mp hx
          exact atomTxt_le hnm.small c
        refine join_listW (News.isList N3 (.head _)) (ys := r.map (atomTxt nm)) (strs_of (by rw [hJ.1, hc.length]) hJ.2) (by decide +kernel) (by omega) fun t' k' => ?_
        k_steps
        refine PyProof.Rows.add_str (fun t6 tk6 => ?_) (by rw [Str.length_append, sizeLine_eq]; show _ + _ + (rowTxt nm r).length ≤ _; omega)
        k_steps
        (rename News _ _ _ _ => N4)
        exact ⟨_, _, _, rfl, by assumption, fun p hp => N4 p (.tail _ hp), fun y h1 h2 => by simp only [if_neg h1, if_neg h2], t6, congrArg (fun z => some (Value.str z t6)) e⟩
  case done =>
    intro u h2 tk2 hP F2 N2
    obtain ⟨tf, hu2⟩ := hP
    rw [map_d hu2] at F2
    (try dsimp only); (try ((show wpAny _ _ _ _ _ _); k_fold))
    k_steps
    have e : preTxt nm rows vs.length = setTxt nm rows := by rw [hvl]; simp [preTxt]
    rw [e]
    have hz := setTxt_le hnm.small hok.short hok.few
    have z1 := brace1
    have z2 := brace2
    refine PyProof.Rows.add_str (fun t5 tk5 => ?_) (by rw [sizeLine_eq]; omega)
    k_steps
    refine PyProof.Rows.add_str (fun t6 tk6 => ?_) (by rw [Str.length_append, sizeLine_eq]; omega)
    k_steps
    exact ok _ _ _ F2.keep
end

section
open PySem PySem.W PySem.Calls PyProof.Rows PySem.Spec PyProof.V
section
variable {prog : Program} {w : World} {A : Around} {E : Value → Shared → Prop} {s : Shared} {env : Env} {G : Heap}
theorem forGo_tuple {x : Str} {body : List Stmt} {Q : Flow → Shared → Prop} {l : Addr} {vs : List Value} {m₀ : Str → Option Value} (J : Nat → (Str → Option Value) → Heap → Prop) (hJ : ∀ i m X X', X.StaysIn X' → J i m X → J i m X')
    (hl : s.heap.get? l = some (tupObj vs)) (hlL : l ≠ env.locals) (hh : A.handled = none) (F : Fr G env.locals s.heap m₀) (hj : J 0 m₀ (hideAll s.heap [env.locals]))
    (turn : ∀ I io i v m h tk, vs[i]? = some v → s.heap.objs.size ≤ I → J i m (hideAll h [env.locals, I]) → h.get? I = some io → io.cls = .type "tuple_iterator" → h.get? l = some (tupObj vs) → h.Ns env.locals (fun y => if y = x then some v else m y) →
      wpAny (model prog w) A (execs body env) (TurnH env Q (J (i + 1)) I [(I, io), (l, tupObj vs)] { s with heap := h, toks := tk }) E { s with heap := h, toks := tk })
    (done : ∀ I m h tk, s.heap.objs.size ≤ I → h.Ns env.locals m → J vs.length m (hideAll h [env.locals, I]) → Q .next { s with heap := h, toks := tk }) :
    wpAny (model prog w) A (pyIter (.ref l)) (ForGo prog w A env x body Q E) E s := by
  have hT : s.heap.IsTuple l vs.toArray := ⟨_, hl, rfl, _, rfl⟩
  refine wpAny_pyIter_tuple hT ?_
  have hLI : env.locals ≠ s.heap.objs.size := Nat.ne_of_lt F.ns.lt
  have hllt : @LT.lt Nat _ l s.heap.objs.size := Heap.lt_size hl
  have W := Walks.tuple (prog := prog) (w := w) hh s.heap.objs.size l (Nat.ne_of_lt hllt) vs.toArray
  have hlen : vs.toArray.size = vs.length := by simp
  rw [hlen] at W
  have tp : ∀ {h : Heap}, h.get? l = some (tupObj vs) → h.IsTuple l vs.toArray := fun e => ⟨_, e, rfl, _, rfl⟩
  refine ⟨s.heap.objs.size, [s.heap.objs.size, l], vs.length, _, fun i h => _ ∧ h.get? l = some (tupObj vs), m₀, fun i m h => J i m (hideAll h [env.locals, s.heap.objs.size]),
    ⟨W.sub, fun i h h' e kk => ⟨(W.frame i h h' ⟨e.1, tp e.2⟩ kk).1, kk l (.tail _ (.head _)) _ e.2⟩, fun i s Q E hi st hQ => W.item i s Q E hi ⟨st.1, tp st.2⟩ fun v h' tk hP st' k' => hQ v h' tk hP ⟨st'.1, k' l _ (fun q => absurd (List.mem_singleton.mp q) (Nat.ne_of_lt hllt)) st.2⟩ k',
      fun s Q E st hQ => W.done s Q E ⟨st.1, tp st.2⟩ hQ, fun i s Q E st hQ => W.self i s Q E ⟨st.1, tp st.2⟩ hQ⟩,
    fun q => ?_, ⟨⟨_, Heap.get?_push_size _ rfl, rfl, rfl⟩, Heap.get?_push_of_some _ hl⟩, F.ns.push _, hJ _ _ _ _ (fun c o e => ?_) hj, fun i m h h' hi k => hJ _ _ _ _ (hide_two k) hi, ?_, fun h' tk' m' hns hJ' => done _ _ _ _ (Nat.le_refl _) hns hJ'⟩
  · rcases List.mem_cons.mp q with q | q
    · exact hLI q
    · exact hlL (List.mem_singleton.mp q).symm
  · have e1 := of_hideAll _ e
    refine hideAll_get _ (Heap.get?_push_of_some _ e1) fun q => ?_
    rcases List.mem_cons.mp q with rfl | q
    · rw [hideAll_none _ (.head _)] at e; cases e
    · exact absurd (List.mem_singleton.mp q ▸ Heap.lt_size e1) (Nat.lt_irrefl _)
  · rintro i v m h tk hi hP hJi ⟨⟨io, hio, hc, hd⟩, hls⟩ hns
    refine wpAny_mono (turn _ _ i v m h tk (by simpa using hP) (Nat.le_refl _) hJi hio hc hls hns) (fun f s₃ h₃ => ?_) fun _ _ e => e
    cases f with
    | next => obtain ⟨h', tk', m', p, q, k⟩ := h₃; exact ⟨h', tk', m', p, q, ⟨io, k _ (.head _), hc, hd⟩, k _ (.tail _ (.head _))⟩
    | cont => obtain ⟨h', tk', m', p, q, k⟩ := h₃; exact ⟨h', tk', m', p, q, ⟨io, k _ (.head _), hc, hd⟩, k _ (.tail _ (.head _))⟩
    | brk => exact h₃
    | ret v => exact h₃
end
theorem NumsAre.nil : NumsAre [] [] := fun x => by simp [Spec.lookup]
theorem NumsAre.isSome {Dn : List (PyData × PyData)} {ns : List Str} (h : NumsAre Dn ns) (x : Str) : (lookup (.str x) Dn).isSome = decide (x ∈ ns) := by
  rw [h x]; by_cases e : x ∈ ns <;> simp [e]
theorem NumsAre.put {Dn : List (PyData × PyData)} {ns : List Str} {x : Str} {i : Int} (h : NumsAre Dn ns) (hx : x ∉ ns) (hi : i = (ns.length : Int)) : NumsAre (putD (.str x) (.int i) Dn) (ns ++ [x]) := fun y => by
  subst hi
  rw [PyProof.Rows.lookup_putD_str, h y]
  by_cases e : y = x
  · subst e
    rw [if_pos rfl, if_pos (by simp), List.idxOf_append, if_neg hx]; simp
  · rw [if_neg e]
    by_cases e2 : y ∈ ns
    · rw [if_pos e2, if_pos (by simp [e2]), List.idxOf_append, if_pos e2]
    · rw [if_neg e2, if_neg (by simp [e, e2])]
end

section
open PySem PySem.W PySem.Calls PyProof.Rows PySem.Spec PyProof.V
local macro_rules | `(tactic| walk_at $s) => Mine.red [("exec For Name Attribute cons nil", "m"), ("call type:tuple", "m")] s
/-- what holds ahead of a turn of Universe.__init__ -/
inductive UniJ (w : World) (G : Heap) (m₀ : Str → Option Value) (U Ud T D : Addr) (oUd : Obj) (names : List Value) (nm : List Str) (i : Nat) (m : Str → Option Value) (X : Heap) : Prop
  | of (y1 : G.StaysIn X) (y2 : (∀ y, y ≠ Str.ofString "name" → m y = m₀ y)) (y3 : X.get? U = some (instObj 115 Ud)) (y4 : X.get? Ud = some oUd) (y5 : X.get? T = some (tupObj names)) (y6 : (nm.take i).Nodup) (ond) (kvs) (Dn) (z1 : X.get? D = some ond) (z2 : ond.IsDictOf (strKind Challenge.pw_nu0267_01 w) kvs) (z3 : FlatPairs PyData.str kvs Dn) (z4 : NumsAre Dn (nm.take i)) (z5 : Dn.length = i) : UniJ w G m₀ U Ud T D oUd names nm i m X
theorem UniJ.mono {w : World} {G : Heap} {m₀ : Str → Option Value} {U Ud T D : Addr} {oUd : Obj} {names : List Value} {nm : List Str} (i : Nat) (m : Str → Option Value) (X X' : Heap) (k : X.StaysIn X') (x : UniJ w G m₀ U Ud T D oUd names nm i m X) : UniJ w G m₀ U Ud T D oUd names nm i m X' := by
  obtain ⟨a1, a2, a3, a4, a5, a6, ond, kvs, Dn, a7, a8, a9, aA, aB⟩ := x
  exact ⟨fun b o e => k b o (a1 b o e), a2, k _ _ a3, k _ _ a4, k _ _ a5, a6, ond, kvs, Dn, k _ _ a7, a8, a9, aA, aB⟩
theorem nodup_not {nm : List Str} {i : Nat} {x : Str} (hx : nm[i]? = some x) (hm : x ∈ nm.take i) : ¬ nm.Nodup := fun h => by
  rw [← List.take_append_drop i nm, List.nodup_append] at h
  refine h.2.2 x hm x ?_ rfl
  refine List.mem_of_getElem? (i := 0) ?_
  rw [List.getElem?_drop]; exact hx
theorem nodup_snoc {nm : List Str} {i : Nat} {x : Str} (hx : nm[i]? = some x) (h : (nm.take i).Nodup) (hm : x ∉ nm.take i) : nm.take (i + 1) = nm.take i ++ [x] ∧ (nm.take (i + 1)).Nodup := by
  have e : nm.take (i + 1) = nm.take i ++ [x] := by rw [List.take_add_one, hx]; rfl
  refine ⟨e, ?_⟩
  rw [e, List.nodup_append]
  exact ⟨h, by simp, fun a ha b hb q => hm (by rw [← List.mem_singleton.mp hb, ← q]; exact ha)⟩
theorem hideNews {G h : Heap} {L b : Addr} {o : Obj} {news : List (Addr × Obj)} (N : News G L h news) (hp : (b, o) ∈ news) : (hideAll h [L]).get? b = some o := hideOff (N _ hp).1 (N _ hp).2.1
theorem one_map {x : Str} {v : Option Value} {m m₀ : Str → Option Value} (h : ∀ y, y ≠ x → m y = m₀ y) : (fun y => if y = x then v else m y) = fun y => if y = x then v else m₀ y := by
  funext y
  by_cases h1 : y = x
  · simp [h1]
  · simp [h1, h y h1]
set_option maxHeartbeats 4000000 in
theorem uinit_call {w : World} {A : Around} {base G : Heap} {envs : List Env} {mean : ExcName → Option Value} {mg mb : Str → Option Value} {s : Shared} {R : Result → Shared → Prop}
    {U Ud l : Addr} {names : List Value} {nm : List Str}
    (H : At w A base envs mean mg mb G s) (hd : A.depth ≤ 440) (hu : A.units ≤ 400)
    (hN : ∀ p ∈ [(U, instObj 115 Ud), (Ud, dictOf [] 0)], s.heap.get? p.1 = some p.2 ∧ G.get? p.1 = none) (hUd : @LT.lt Nat _ Ud U) (hl : G.IsList l names.toArray) (hnm : NamesOk names nm)
    (ok : nm.Nodup → ∀ T D q4 q5 k4 k5 ond kvs Dn h' tk', G.StaysIn h' → (∀ p ∈ (D, ond) :: uniL U Ud T D q4 q5 k4 k5 names, h'.get? p.1 = some p.2 ∧ G.get? p.1 = none) → (D == sysModules) = false → ond.IsDictOf (strKind Challenge.pw_nu0267_01 w) kvs → FlatPairs PyData.str kvs Dn → NumsAre Dn nm → R (.ok (.ret .none)) { s with heap := h', toks := tk' })
    (no : ¬ nm.Nodup → ∀ e h' tk', Fly (bare G envs) envs e h' → G.UpToSlots h' → R (.error (.ref e)) { s with heap := h', toks := tk' }) :
    codeAny (model Challenge.pw_nu0267_01 w) A (.call (.ref 81) ⟨[.ref U, .ref l], []⟩) R s := by
  revert hd hu
  refine At.lit (P := fun A => (A.depth ≤ _) → (A.units ≤ _) → codeAny _ A _ _ _) H fun dp gd un H hd hu => ?_
  dsimp only at hd hu
  k_dflt (refine' enter (binds := [(Str.ofString "self", .ref U), (Str.ofString "names", .ref l)]) H hN ?ho ?hcd ?hroom ?hbind ?hloc ?_ ?hcell ?hco ?hgen ?hk)
  case ho => k_is
  case hcd => k_is
  case hroom => k_room
  case hbind => exact BindsTo.of_eq rfl
  case hloc => exact locs rfl
  case hcell => decide
  case hco => exact rfl
  case hgen => exact rfl
  case hk => exact rfl
  intro L' h₁ env0 M0 F N B X T' hs hL
  (try dsimp only); (try ((show wpAny _ _ _ _ _ _); k_fold))
  have hn9 : names.length ≤ 9 := by rw [hnm.are.1]; exact hnm.few
  k_steps
  refine kde_tupleOf (zs := names) F N (hl.at fun o e => F.keep _ o e) (by rw [List.size_toArray]; omega) rfl fun T h2 F2 N2 lT => ?_
  k_lt lT
  k_steps
  (rename Fr _ _ _ _ => F3)
  (rename News _ _ _ _ => N3o)
  rename Obj => oD
  (revert tkA; rename Addr => D; intro tkA)
  obtain ⟨q4, q5, k4, k5, N3⟩ : ∃ q4 q5 k4 k5, News G L' _ [(D, oD), (T, tupObj names), (U, instObj 115 Ud), (Ud, dictOf (uniEs q4 q5 k4 k5 T D) 2)] := ⟨_, _, _, _, N3o⟩
  clear N3o
  (rename (_ == sysModules) = false => lo)
  refine unhaltB ?_
  refine' for_heap ?k1 ?k2 ?_
  case k1 => exact rfl
  case k2 => exact rfl
  k_steps
  refine forGo_tuple (vs := names) (UniJ w G _ U Ud T D _ names nm) UniJ.mono (N3 _ (.tail _ (.head _))).1 (N3 _ (.tail _ (.head _))).2.1 rfl F3
    ⟨fun b o e => hideOff (F3.keep b o e) (fun q => Nat.not_lt.mpr F3.above ((show b = L' from q) ▸ Heap.lt_size e)), fun _ _ => rfl, hideNews N3 (.tail _ (.tail _ (.head _))), hideNews N3 (.tail _ (.tail _ (.tail _ (.head _)))), hideNews N3 (.tail _ (.head _)), by simp, oD, _, _, hideNews N3 (.head _), by assumption, by assumption, NumsAre.nil, rfl⟩ ?turn ?done
  case turn =>
    intro I io i v m h tk2 hv hI hJ hio hic hT hns
    obtain ⟨st, hm, eU, eUd, eT, hno, ond, kvs, Dn, eD, hdi, hfl, hnu, hlen⟩ := hJ
    rw [one_map hm] at hns
    have gI : G.get? I = none := Heap.get?_none_of_le (Nat.le_trans F3.above (Nat.le_of_lt (Nat.lt_of_lt_of_le F3.ns.lt hI)))
    have hIL : I ≠ L' := Nat.ne_of_gt (Nat.lt_of_lt_of_le F3.ns.lt hI)
    have F4 : Fr G L' h _ := ⟨hns, fun b o e => of_hideAll _ (st b o e), F3.above⟩
    have N4 : News G L' h [(D, ond), (T, tupObj names), (U, instObj 115 Ud), (Ud, dictOf (uniEs q4 q5 k4 k5 T D) 2), (I, io)] := by
      exact allC ⟨of_hideAll _ eD, (N3 _ (.head _)).2⟩ <| allC ⟨of_hideAll _ eT, (N3 _ (.tail _ (.head _))).2⟩ <| allC ⟨of_hideAll _ eU, (N3 _ (.tail _ (.tail _ (.head _)))).2⟩ <| allC ⟨of_hideAll _ eUd, (N3 _ (.tail _ (.tail _ (.tail _ (.head _))))).2⟩ <| allC ⟨hio, hIL, gI⟩ allN
    obtain ⟨x, tok, hx, rfl⟩ := hnm.are.2 i v hv
    have hx10 := hnm.small x (List.mem_of_getElem? hx)
    have INt : ∀ {h h' : Heap} {m : Str → Option Value}, Fr G L' h m → h.StaysIn h' → (Mine.hd.heap_39 w.params).In h' := fun F k => Frag.In.keeps (Frag.In.keeps X (Fr.keep F)) k
    clear eU eUd eT eD hns hm
    (try dsimp only)
    k_steps
    · exact INt (by assumption) (by assumption)
    · have hin : (lookup (.str x) Dn).isSome = true := by assumption
      rw [hnu.isSome] at hin
      exact no (nodup_not hx (by simpa using hin)) _ _ _ (by assumption) (by assumption)
    · have hin : (lookup (.str x) Dn).isSome = false := by assumption
      have hin' : x ∉ nm.take i := by have q := hin; rw [hnu.isSome] at q; simpa using q
      have hil := (List.getElem?_eq_some_iff.mp hv).1
      have hil2 := (List.getElem?_eq_some_iff.mp hx).1
      have hDI : D ≠ I := Nat.ne_of_lt (Nat.lt_of_lt_of_le (Heap.lt_size (N3 _ (.head _)).1) hI)
      have hTI : T ≠ I := Nat.ne_of_lt (Nat.lt_of_lt_of_le (Heap.lt_size (N3 _ (.tail _ (.head _))).1) hI)
      have hUI : U ≠ I := Nat.ne_of_lt (Nat.lt_of_lt_of_le (Heap.lt_size (N3 _ (.tail _ (.tail _ (.head _)))).1) hI)
      have hUdI : Ud ≠ I := Nat.ne_of_lt (Nat.lt_of_lt_of_le (Heap.lt_size (N3 _ (.tail _ (.tail _ (.tail _ (.head _))))).1) hI)
      rename _ < D ∧ _ => lD
      refine PyProof.Rows.len_tab (TabAt.ofNews N4 (.head _) lo hdi hfl) (by rw [hlen]; omega) ?_
      k_steps
      refine setItem_K (k := x) same_str (strKind_is _ _ _ _) (Flat.int _ _) F4 N4 (.head ?_) hdi hfl (fun h5 o5 F5 N5 hd5 hf5 => ?_) (by rw [hlen, sizeLine_eq]; omega)
      · exact allC (Nat.ne_of_lt lD.1) <| allC (Nat.ne_of_lt lD.2.1) <| allC (Nat.ne_of_lt lD.2.2.1) <| allC (Ne.symm hDI) allN
      k_steps
      obtain ⟨e1, e2⟩ := nodup_snoc hx hno hin'
      have off5 : ∀ {b : Addr} {o : Obj}, h5.get? b = some o → b ≠ L' → b ≠ I → (hideAll h5 [L', I]).get? b = some o := fun e n1 n2 => hideAll_get _ e fun q => by
        rcases List.mem_cons.mp q with q | q
        · exact n1 q
        · exact n2 (List.mem_singleton.mp q)
      have n5 : ∀ {b : Addr} {o : Obj}, (b, o) ∈ _ → b ≠ I → (hideAll h5 [L', I]).get? b = some o := fun {b o} hp n2 => off5 (N5 (b, o) hp).1 (N5 (b, o) hp).2.1 n2
      refine ⟨h5, _, _, F5.ns, ⟨fun b o e => off5 (F5.keep b o e) (fun q => Nat.not_lt.mpr F3.above ((show b = L' from q) ▸ Heap.lt_size e)) (fun q => by rw [show b = I from q, gI] at e; cases e), fun y n1 => by simp only [if_neg n1], n5 (.tail _ (.tail _ (.head _))) hUI, n5 (.tail _ (.tail _ (.tail _ (.head _)))) hUdI, n5 (.tail _ (.head _)) hTI, e2, o5, _, _, n5 (.head _) hDI, hd5, hf5, ?_, ?_⟩, fun p hp => ?_⟩
      · rw [e1]
        exact NumsAre.put hnu hin' (by rw [hlen, List.length_take]; omega)
      · rw [length_putD, if_neg (by rw [hin]; exact Bool.false_ne_true), hlen]
      · simp only [List.mem_cons, List.not_mem_nil, or_false] at hp
        rcases hp with rfl | rfl
        · exact (N5 _ (.tail _ (.tail _ (.tail _ (.tail _ (.head _)))))).1
        · exact (N5 _ (.tail _ (.head _))).1
  case done =>
    intro I m h tk2 hI hns hJ
    obtain ⟨st, hm, eU, eUd, eT, hno, ond, kvs, Dn, eD, hdi, hfl, hnu, hlen⟩ := hJ
    k_steps
    have gI : ∀ {p : Addr × Obj}, p ∈ [(D, oD), (T, tupObj names), (U, instObj 115 Ud), (Ud, dictOf (uniEs q4 q5 k4 k5 T D) 2)] → G.get? p.1 = none := fun hp => (N3 _ hp).2.2
    refine ok ?_ T D q4 q5 k4 k5 ond kvs Dn h _ (fun b o e => of_hideAll _ (st b o e)) (?_ : ∀ p ∈ [_, _, _, _], _) lo hdi hfl ?_
    · rwa [hnm.are.1, List.take_length] at hno
    · exact allC ⟨of_hideAll _ eD, (N3 _ (.head _)).2.2⟩ <| allC ⟨of_hideAll _ eU, gI (.tail _ (.tail _ (.head _)))⟩ <| allC ⟨of_hideAll _ eUd, gI (.tail _ (.tail _ (.tail _ (.head _))))⟩ <| allC ⟨of_hideAll _ eT, gI (.tail _ (.head _))⟩ allN
    · rwa [hnm.are.1, List.take_length] at hnu
end

section
open PySem PySem.W PySem.Calls PyProof.Rows PySem.Spec PyProof.V
/-- a universe made, upon the heap -/
structure UniMade (w : World) (G h : Heap) (U Ud T D : Addr) (q4 q5 : Int) (k4 k5 : Tok) (names : List Value) (nm : List Str) : Prop where
  at_ : ∀ p ∈ uniL U Ud T D q4 q5 k4 k5 names, h.get? p.1 = some p.2 ∧ G.get? p.1 = none
  tab : ∃ ond kvs Dn, h.get? D = some ond ∧ G.get? D = none ∧ (D == sysModules) = false ∧ ond.IsDictOf (strKind Challenge.pw_nu0267_01 w) kvs ∧ FlatPairs PyData.str kvs Dn ∧ NumsAre Dn nm
theorem At.under1 {w : World} {A : Around} {base G : Heap} {envs : List Env} {mean : ExcName → Option Value} {mg mb : Str → Option Value} {s : Shared} {c : Code} (H : At w A base envs mean mg mb G s) (hc : c.envs = []) (hh : (A.under c).handled = none) : At w (A.under c) base envs mean mg mb G s :=
  ⟨Below.under1 hc H.below, H.stays, H.size, H.kin, H.top, hh⟩
set_option maxHeartbeats 4000000 in
theorem made_call {w : World} {A : Around} {base G : Heap} {envs : List Env} {mean : ExcName → Option Value} {mg mb : Str → Option Value} {s : Shared} {Q E : Value → Shared → Prop}
    {l : Addr} {names : List Value} {nm : List Str}
    (H : At w A base envs mean mg mb G s) (XB : (Mine.hd.heap_39 w.params).In base) (TB : Top Mine.hd.view_39 (looseW Mine.hd.view_39 []) mean mg mb base) (hd : A.depth ≤ 420) (hu : A.units ≤ 260) (hl : G.IsList l names.toArray) (hnm : NamesOk names nm)
    (ok : nm.Nodup → ∀ U Ud T D q4 q5 k4 k5 h' tk', G.StaysIn h' → UniMade w G h' U Ud T D q4 q5 k4 k5 names nm → Q (.ref U) { s with heap := h', toks := tk' })
    (no : ¬ nm.Nodup → ∀ h' tk', (bare G envs).StaysIn h' → G.UpToSlots h' → Q .none { s with heap := h', toks := tk' }) :
    wpAny (model Challenge.pw_nu0267_01 w) A (call (.ref 246) [.ref l]) Q E s := by
  revert hd hu
  refine At.lit (P := fun A => (A.depth ≤ _) → (A.units ≤ _) → wpAny _ A _ _ _ _) H fun dp gd un H hd hu => ?_
  dsimp only at hd hu
  refine wpAny_call ?_
  k_dflt (refine' enter (news := []) (binds := [(Str.ofString "names", .ref l)]) H ?hN ?ho ?hcd ?hroom ?hbind ?hloc ?_ ?hcell ?hco ?hgen ?hk)
  case hN => exact fun _ h => nomatch h
  case ho => k_is
  case hcd => k_is
  case hroom => k_room
  case hbind => exact BindsTo.of_eq rfl
  case hloc => exact locs rfl
  case hcell => decide
  case hco => exact rfl
  case hgen => exact rfl
  case hk => exact rfl
  intro L' h₁ env0 M0 F N B X T' hs hL
  (try dsimp only); (try ((show wpAny _ _ _ _ _ _); k_fold))
  k_steps
  k_dflt (refine' call_cls (fI := 81) F X N ?m ?i ?f ?_)
  case m => k_is
  case i => k_is
  case f => k_is
  intro x dx h2 F2 N2 l1 l2
  have hW : ∀ a ∈ [x, dx], G.get? a = none ∧ a ≠ L' := fun a ha => by
    rcases List.mem_cons.mp ha with rfl | ha
    · exact ⟨(N2 _ (.head _)).2.2, (N2 _ (.head _)).2.1⟩
    · rw [List.mem_singleton.mp ha]; exact ⟨(N2 _ (.tail _ (.head _))).2.2, (N2 _ (.tail _ (.head _))).2.1⟩
  have st2 : G.StaysIn (hideAll h2 [x, dx]) := fun b o e => hideAll_get _ (F2.keep b o e) fun q => by rw [(hW b q).1] at e; cases e
  refine uinit_call (At.under1 (callee_at [x, dx] B X T' rfl F2 rfl rfl hW) rfl rfl) (by rw [depth_under_make, depth_deeper]; dsimp only; omega) (by rw [units_under_make, units_deeper]; dsimp only; omega) (fun p hp => ?_) l2 (hl.at fun o e => st2 _ _ e) hnm ?ok1 ?no1
  · simp only [List.mem_cons, List.not_mem_nil, or_false] at hp
    rcases hp with rfl | rfl
    · exact ⟨(N2 _ (.head _)).1, hideAll_none _ (.head _)⟩
    · exact ⟨(N2 _ (.tail _ (.head _))).1, hideAll_none _ (.tail _ (.head _))⟩
  case ok1 =>
    intro hno T D q4 q5 k4 k5 ond kvs Dn h3 tk3 k3 hall lo hdi hfl hnu
    refine ⟨rfl, ?_⟩
    have gn : ∀ {b : Addr}, (hideAll h2 [x, dx]).get? b = none → G.get? b = none := fun {b} e => by
      cases q : G.get? b with
      | none => rfl
      | some o => rw [st2 _ _ q] at e; cases e
    (try dsimp only)
    (try k_unfold)
    exact ok hno x dx T D q4 q5 k4 k5 h3 _ (fun b o e => k3 b o (st2 b o e)) ⟨fun p hp => ⟨(hall p (.tail _ hp)).1, gn (hall p (.tail _ hp)).2⟩, ond, kvs, Dn, (hall _ (.head _)).1, gn (hall _ (.head _)).2, lo, hdi, hfl, hnu⟩
  case no1 =>
    intro hno e h3 tk3 fl us
    have F3 := frBehind F2 hW (fun _ _ e => e)
    refine catch_here (h := hideAll h2 [x, dx]) (news := []) B XB TB F3 (fun _ h => nomatch h) fl us (fun h4 F4 N4 u4 X4 T4 => ?_) rfl rfl ?pass
    case pass => with_unfolding_all passes_own
    clear F N B X T' F2 N2 F3
    k_steps
    exact no hno _ _ F4.keep u4
end

section
open PySem PySem.W PySem.Calls PyProof.Rows PySem.Spec PyProof.V
section
variable {prog : Program} {w : World} {A : Around} {E : Value → Shared → Prop} {s : Shared} {env : Env} {G : Heap}
/-- what the source of a comprehension over a range comes to, and its turns -/
inductive LcGoR (prog : Program) (w : World) (A : Around) (G : Heap) (env : Env) (scope : Scope) (cl : List (Str × Addr)) (x : Str) (ifs : List Expr) (elt : Expr) (J : Nat → List Value → Prop) (Q : Value → Shared → Prop) : Value → Shared → Prop
  | mk {s : Shared} (a : Addr) (n : Nat) (t0 u0 v0 : Tok) (m : Str → Option Value) (news : List (Addr × Obj)) (z1 : IsRange s.heap a 0 (n : Int) 1 t0 u0 v0) (z2 : Builtin.Range.small 0 (n : Int) 1 = true) (z3 : Builtin.Range.rangeSize 0 (n : Int) 1 = (n : Int)) (z4 : Fr G env.locals s.heap m) (z5 : News G env.locals s.heap news) (z6 : n ≤ sizeLine) (z7 : (∀ C i t ys h tk m₂ E', i < n → ys.length ≤ i → J i ys → s.heap.StaysIn h → h.Ns C m₂ → m₂ x = some (.int (i : Nat) t) → wpAny (model prog w) A (lcTests ifs (compEnvC scope cl C env)) (LcOk prog w A elt (compEnvC scope cl C env) s.gens s.drawn s.os h (fun y _ => J (i + 1) (ys ++ [y])) (fun _ => J (i + 1) ys) E') E' { s with heap := h, toks := tk })) (z8 : (∀ D h' tk ys k, Fr G env.locals h' m → News G env.locals h' ((D, listOf ys.toArray k) :: news) → (∀ p ∈ news, p.1 < D) → ys.length ≤ n → J n ys → s.heap.StaysIn h' → s.heap.objs.size ≤ D → Q (.ref D) { s with heap := h', toks := tk })) : LcGoR prog w A G env scope cl x ifs elt J Q (.ref a) s
theorem lc_overR {x : Str} {px pos : Pos} {elt iter : Expr} {ifs : List Expr} {scope : Scope} {cl : List (Str × Addr)} {Q : Value → Shared → Prop} (J : Nat → List Value → Prop)
    (hclos : closureFor scope env = pure cl) (hcell : ∀ y ∈ scope.names, y.2 ≠ .cell) (hkind : scope.kind = .function)
    (hnames : ∀ y ∈ scope.names, y.2 = .local → scope.names.lookup y.1 = some .local) (hx : scope.names.lookup x = some .local) (hh : A.handled = none) (hj : J 0 [])
    (h : wpAny (model prog w) A (eval iter env) (LcGoR prog w A G env scope cl x ifs elt J Q) E s)
    (hs : ∀ x, foldedSetIterable iter env x = pure x := by intro _; rfl) :
    wpAny (model prog w) A (eval (.ListComp elt [⟨.Name x px, iter, ifs, 0⟩] scope pos) env) Q E s := by
  refine lc_inv (fun i ys _ => J i ys) (fun _ _ _ _ _ x => x) hclos hcell hkind hnames (wpAny_mono h (fun r s h₁ => ?_) fun _ _ e => e) hs
  obtain ⟨a, n, t0, u0, v0, m, news, hr, hsm, hrs, F, N, hsz, turn, done⟩ := h₁
  refine wpAny_pyIter_range hr hsm ?_
  have W := Walks.range (prog := prog) (w := w) (A := A) hh s.heap.objs.size 0 1 n
  refine ⟨s.heap.objs.size, [s.heap.objs.size], [s.heap.objs.size], n, _, _, fun C => LcSrc.name W (lookup_relabel_local hx) (by simp [compEnvC, relabel, hkind]), hsz, by show IsRangeIter _ _ _ _ _; rw [hrs]; simpa using Heap.get?_push_size _ rfl, fun b hb => ?_, hj, ?_, ?_⟩
  · rw [List.mem_singleton.mp hb, Heap.size_push]; exact Nat.lt_succ_self _
  · rintro C D i ys h tk m' hC hD _ hi hy ⟨v, ⟨t, rfl⟩, hm⟩ hn st hJ E'
    rw [Int.zero_add, Int.mul_one] at hm
    exact turn C i t ys h tk m' E' hi hy hJ (stays_wr rfl st) hn hm
  · intro D C h' tk ys hC hD hDC hpl hy hJ hk
    have st' : s.heap.StaysIn h' := fun b ob e => hk b ob (fun q => by have := Heap.lt_size e; rw [List.mem_singleton.mp q] at this; exact Nat.lt_irrefl _ this) (Heap.get?_push_of_some _ e)
    obtain ⟨k, hk'⟩ := hpl
    have hDs : s.heap.objs.size ≤ D := by rw [Heap.size_push] at hD; exact Nat.le_of_succ_le hD
    have F' := frStays F st'
    have N' := newsStays N st'
    exact done D h' tk ys k F' (newsAdd F N' hDs hk') (fun p hp => Nat.lt_of_lt_of_le (Heap.lt_size (N p hp).1) hDs) hy hJ st' hDs
end
/-- a digit drawn in a frame's words -/
theorem digit_use {w : World} {A : Around} {base G : Heap} {envs : List Env} {mean : ExcName → Option Value} {mg mb : Str → Option Value} {s : Shared} {env : Env} {L : Addr} {m : Str → Option Value} {news : List (Addr × Obj)} {Q E : Value → Shared → Prop}
    {r : Addr} {x k : Int} {t u : Tok} {n : Nat} {g : Obj → List (Addr × Obj)}
    (F : Fr G L s.heap m) (N : News G L s.heap news) (B : Below A base envs G) (X : (Mine.hd.heap_39 w.params).In G) (T : Top Mine.hd.view_39 (looseW Mine.hd.view_39 []) mean mg mb G) (hh : A.handled = none) (hf : env.frame = some L) (hk : env.scope.kind = .function)
    (U : UpdF r (listOf #[.int x t] n) news g) (hd : (A.deeper env).depth ≤ 450) (hu : (A.deeper env).units ≤ 500) (k0 : 0 < k) (k1 : k ≤ 1000) (x0 : 0 ≤ x) (x1 : x < 2 ^ 60)
    (h : ∀ t' u' n' h' tk', Fr G L h' m → News G L h' (g (listOf #[.int (x / k) u'] n')) → 0 ≤ x % k → x % k < k → 0 ≤ x / k → x / k < 2 ^ 60 → (hideAll s.heap [r]).StaysIn h' → Q (.int (x % k) t') { s with heap := h', toks := tk' }) :
    wpAny (model Challenge.pw_nu0267_01 w) (A.deeper env) (call (.ref 203) [.ref r, .int k u]) Q E s := by
  obtain ⟨pre, post, rfl, hg, a, b⟩ := U.split
  have hmem : (r, listOf #[.int x t] n) ∈ pre ++ (r, listOf #[.int x t] n) :: post := List.mem_append_right _ (.head _)
  have hW : ∀ c ∈ [r], G.get? c = none ∧ c ≠ L := fun c hc => by rw [List.mem_singleton.mp hc]; exact ⟨(N _ hmem).2.2, (N _ hmem).2.1⟩
  refine digit_call (callee_at [r] B X T hh F hf hk hW) (N _ hmem).1 (hideAll_none _ (.head _)) k0 k1 x0 x1 hd hu fun t' u' n' h' tk' st e => ?_
  refine h t' u' n' h' tk' (frBehind F hW st) ?_ (Int.emod_nonneg _ (by omega)) (Int.emod_lt_of_pos _ k0) (Int.ediv_nonneg x0 (by omega)) (Int.lt_of_le_of_lt (Int.ediv_le_self _ x0) x1) st
  rw [hg]
  intro p hp
  rcases List.mem_append.mp hp with hp | hp
  · exact newsBehind N (List.mem_append_left _ hp) st fun q => absurd (List.mem_singleton.mp q) (a p hp)
  · rcases List.mem_cons.mp hp with rfl | hp
    · exact ⟨e, (N _ hmem).2⟩
    · exact newsBehind N (List.mem_append_right _ (.tail _ hp)) st fun q => absurd (List.mem_singleton.mp q) (b p hp)
end

section
open PySem PySem.W PySem.Calls PyProof.Rows PySem.Spec PyProof.V
theorem post_ok (a : List WData) : PySem.Challenge.rw_nu0267_01.row.claim.post a (WData.bool true) a = true := by with_unfolding_all rfl
/-- ints of the script, cut to size -/
noncomputable def CellInts (items : List Value) : Prop := ∀ (j : Nat) y, items[j]? = some y → ∃ k t, y = .int k t ∧ 0 ≤ k ∧ k < 1000000007
inductive Cells1 (base : Heap) (L l : Addr) (o3 o2 o1 : Obj) (s : Shared) : Flow → Shared → Prop
  | mk (D : Addr) (items : List Value) (k : Nat) (h' : Heap) (tk' : Nat)
    (z1 : Fr base L h' (fun y => if y = Str.ofString "cells" then some (.ref D) else if y = Str.ofString "script" then some (.ref l) else none)) (z2 : News base L h' [(D, listOf items.toArray k), (L + 1 + 1 + 1, o3), (L + 1 + 1, o2), (L + 1, o1)])
    (z3 : 1 ≤ items.length) (z4 : items.length ≤ 9) (z5 : CellInts items) : Cells1 base L l o3 o2 o1 s .next { s with heap := h', toks := tk' }
theorem ints_at {vs : List Value} {ns : List Int} (h : IntsAre vs ns) : ∀ {i : Nat} {v : Value}, vs[i]? = some v → ∃ k t, v = .int k t := by
  induction h with
  | nil => intro i v e; simp at e
  | cons n t h ih =>
    intro i v e
    cases i with
    | zero => exact ⟨n, t, (Option.some.inj e).symm⟩
    | succ i => exact ih (by simpa using e)
theorem cells_lit {vs : List Value} {ks : List Int} (h : IntsAre vs ks) (hk : ∀ k ∈ ks, 0 ≤ k ∧ k < 1000000007) : CellInts vs := by
  induction h with
  | nil => intro j y e; simp at e
  | cons n t h ih =>
    intro j y e
    cases j with
    | zero => exact ⟨n, t, (Option.some.inj e).symm, hk n (.head _)⟩
    | succ j => exact ih (fun k hk' => hk k (.tail _ hk')) j y (by simpa using e)
end

section
open PySem PySem.W PySem.Calls PyProof.Rows PySem.Spec PyProof.V
section
variable {prog : Program} {w : World} {A : Around} {E : Value → Shared → Prop} {s : Shared} {env : Env} {G : Heap}
inductive LcGoRA (prog : Program) (w : World) (A : Around) (G : Heap) (env : Env) (scope : Scope) (cl : List (Str × Addr)) (x y : Str) (ifs : List Expr) (elt : Expr) (J : Nat → List Value → Prop) (Q : Flow → Shared → Prop) : Value → Shared → Prop
  | mk {s : Shared} (a : Addr) (n : Nat) (t0 u0 v0 : Tok) (m : Str → Option Value) (news : List (Addr × Obj)) (z1 : IsRange s.heap a 0 (n : Int) 1 t0 u0 v0) (z2 : Builtin.Range.small 0 (n : Int) 1 = true) (z3 : Builtin.Range.rangeSize 0 (n : Int) 1 = (n : Int)) (z4 : Fr G env.locals s.heap m) (z5 : News G env.locals s.heap news) (z6 : n ≤ sizeLine) (z7 : (∀ C i t ys h tk m₂ E', i < n → ys.length ≤ i → J i ys → s.heap.StaysIn h → h.Ns C m₂ → m₂ x = some (.int (i : Nat) t) → wpAny (model prog w) A (lcTests ifs (compEnvC scope cl C env)) (LcOk prog w A elt (compEnvC scope cl C env) s.gens s.drawn s.os h (fun y _ => J (i + 1) (ys ++ [y])) (fun _ => J (i + 1) ys) E') E' { s with heap := h, toks := tk })) (z8 : (∀ D h' tk ys k, Fr G env.locals h' (fun z => if z = y then some (.ref D) else m z) → News G env.locals h' ((D, listOf ys.toArray k) :: news) → (∀ p ∈ news, p.1 < D) → ys.length ≤ n → J n ys → Q .next { s with heap := h', toks := tk })) : LcGoRA prog w A G env scope cl x y ifs elt J Q (.ref a) s
theorem lc_assignR {x y : Str} {px py pos spos : Pos} {elt iter : Expr} {ifs : List Expr} {scope : Scope} {cl : List (Str × Addr)} {Q : Flow → Shared → Prop} (J : Nat → List Value → Prop)
    (hsw : swapsWith (.ListComp elt [⟨.Name x px, iter, ifs, 0⟩] scope pos) (some (.Name y py)) spos.line env = pure true)
    (hclos : closureFor scope env = pure cl) (hcell : ∀ y ∈ scope.names, y.2 ≠ .cell) (hkind : scope.kind = .function)
    (hnames : ∀ y ∈ scope.names, y.2 = .local → scope.names.lookup y.1 = some .local) (hx : scope.names.lookup x = some .local)
    (hy : env.kindOf y = some .local) (hp : (env.scope.kind == .class || (env.scope.kind == .module && env.locals != env.globals)) = false) (hh : A.handled = none) (hj : J 0 [])
    (h : wpAny (model prog w) A (eval iter env) (LcGoRA prog w A G env scope cl x y ifs elt J Q) E s)
    (hs : ∀ x, foldedSetIterable iter env x = pure x := by intro _; rfl) :
    wpAny (model prog w) A (exec (.Assign [.Name y py] (.ListComp elt [⟨.Name x px, iter, ifs, 0⟩] scope pos) spos) env) Q E s := by
  refine lc_assign (fun i ys _ => J i ys) (fun _ _ _ _ _ x => x) hsw hclos hcell hkind hnames hy hp (wpAny_mono h (fun r s h₁ => ?_) fun _ _ e => e) (fun _ _ _ _ x _ _ => x) hs
  obtain ⟨a, n, t0, u0, v0, m, news, hr, hsm, hrs, F, N, hsz, turn, done⟩ := h₁
  refine wpAny_pyIter_range hr hsm ?_
  have W := Walks.range (prog := prog) (w := w) (A := A) hh s.heap.objs.size 0 1 n
  refine ⟨s.heap.objs.size, [s.heap.objs.size], [s.heap.objs.size], n, _, _, m, fun C => LcSrc.name W (lookup_relabel_local hx) (by simp [compEnvC, relabel, hkind]), hsz, by show IsRangeIter _ _ _ _ _; rw [hrs]; simpa using Heap.get?_push_size _ rfl, fun b hb => ?_,
    fun q => absurd F.ns.lt ((List.mem_singleton.mp q) ▸ Nat.lt_irrefl _), F.ns.push _, hj, ?_, ?_⟩
  · rw [List.mem_singleton.mp hb, Heap.size_push]; exact Nat.lt_succ_self _
  · rintro C D i ys h tk m' hC hD _ hi hy ⟨v, ⟨t, rfl⟩, hm⟩ hn st hJ E'
    rw [Int.zero_add, Int.mul_one] at hm
    exact turn C i t ys h tk m' E' hi hy hJ (stays_wr rfl st) hn hm
  · intro D C h' tk ys hC hD hDC hpl hy hJ hns hk
    have st' : ∀ b ob, b ≠ env.locals → s.heap.get? b = some ob → h'.get? b = some ob := fun b ob hb e => hk b ob hb (fun q => by have := Heap.lt_size e; rw [List.mem_singleton.mp q] at this; exact Nat.lt_irrefl _ this) (Heap.get?_push_of_some _ e)
    obtain ⟨k, hk'⟩ := hpl
    have hDs : s.heap.objs.size ≤ D := by rw [Heap.size_push] at hD; exact Nat.le_of_succ_le hD
    have F' : Fr G env.locals h' (fun z => if z = _ then some (.ref D) else m z) := ⟨hns, fun b o e => st' b o (fun q => absurd (q ▸ Heap.lt_size e) (Nat.not_lt.mpr F.above)) (F.keep b o e), F.above⟩
    exact done D h' tk ys k F' (newsAdd F (fun p hp => ⟨st' _ _ (N p hp).2.1 (N p hp).1, (N p hp).2⟩) hDs hk') (fun p hp => Nat.lt_of_lt_of_le (Heap.lt_size (N p hp).1) hDs) hy hJ
end
/-- the atoms' names -/
noncomputable def atomName (i : Nat) : Str := Str.ofString "A$" ++ Str.ofString (toString (i : Int))
noncomputable def atomNames (n : Nat) : List Str := (List.range n).map atomName
theorem atomNames_ok : ∀ n, n ≤ 3 → ((atomNames n).all fun x => decide (x.length ≤ 10) && decide (x ≠ Str.empty) && (PyData.str x).canLay0 && decide (x ≠ Str.ofString "B$0")) = true ∧ decide (atomNames n).Nodup = true := by decide +kernel
end

section
open PySem PySem.W PySem.Calls PyProof.Rows PySem.Spec PyProof.V
theorem StrsOf.take {ys : List Value} {ns : List Str} (h : StrsOf ys ns) (k : Nat) : StrsOf (ys.take k) (ns.take k) := by
  refine ⟨by rw [List.length_take, List.length_take, h.1], fun j y e => ?_⟩
  rw [List.getElem?_take] at e ⊢
  by_cases hk : j < k
  · rw [if_pos hk] at e ⊢; exact h.2 j y e
  · rw [if_neg hk] at e; cases e
theorem StrsOf.app {ys zs : List Value} {ns ms : List Str} (h : StrsOf ys ns) (h' : StrsOf zs ms) : StrsOf (ys ++ zs) (ns ++ ms) := by
  refine ⟨by rw [List.length_append, List.length_append, h.1, h'.1], fun j y e => ?_⟩
  rw [List.getElem?_append] at e ⊢
  rw [← h.1]
  by_cases hk : j < ys.length
  · rw [if_pos hk] at e ⊢; exact h.2 j y e
  · rw [if_neg hk] at e ⊢; exact h'.2 _ y e
theorem names_of {ys : List Value} {n : Nat} (h : ys.length = n ∧ ∀ (j : Nat) y, ys[j]? = some y → ∃ t, y = .str (atomName j) t) : StrsOf ys (atomNames n) := by
  refine ⟨by rw [h.1]; simp [atomNames], fun j y e => ?_⟩
  obtain ⟨t, rfl⟩ := h.2 j y e
  have hj := (List.getElem?_eq_some_iff.mp e).1
  exact ⟨_, t, by rw [atomNames, List.getElem?_map, List.getElem?_range (h.1 ▸ hj)]; rfl, rfl⟩
theorem atomNames_at {n : Nat} (hn : n ≤ 3) {x : Str} (hx : x ∈ atomNames n) : x.length ≤ 10 ∧ x ≠ Str.empty ∧ (PyData.str x).canLay0 = true ∧ x ≠ Str.ofString "B$0" := by
  have h := List.all_eq_true.mp (atomNames_ok n hn).1 x hx
  simp only [Bool.and_eq_true, decide_eq_true_eq] at h
  exact ⟨h.1.1.1, h.1.1.2, h.1.2, h.2⟩
theorem atomNames_len (n : Nat) : (atomNames n).length = n := by simp [atomNames]
theorem namesOk {ys : List Value} {n : Nat} (hn : n ≤ 3) (h : StrsOf ys (atomNames n)) : NamesOk ys (atomNames n) :=
  ⟨h, by rw [atomNames_len]; omega, fun _ hx => (atomNames_at hn hx).1, fun _ hx => (atomNames_at hn hx).2.1, fun _ hx => (atomNames_at hn hx).2.2.1⟩
theorem twice_len (n : Nat) (h1 : 1 ≤ n) : ((atomNames n).take (n - 1) ++ (atomNames n).take 1).length = n := by simp [atomNames]; omega
theorem namesTwice {ys : List Value} {n : Nat} (h1 : 1 ≤ n) (hn : n ≤ 3) (h : StrsOf ys (atomNames n)) : NamesOk (ys.take (n - 1) ++ ys.take 1) ((atomNames n).take (n - 1) ++ (atomNames n).take 1) := by
  have key : ∀ x, x ∈ (atomNames n).take (n - 1) ++ (atomNames n).take 1 → x ∈ atomNames n := fun x hx => (List.mem_append.mp hx).elim List.mem_of_mem_take List.mem_of_mem_take
  exact ⟨(h.take _).app (h.take _), by rw [twice_len n h1]; omega, fun _ hx => (atomNames_at hn (key _ hx)).1, fun _ hx => (atomNames_at hn (key _ hx)).2.1, fun _ hx => (atomNames_at hn (key _ hx)).2.2.1⟩
theorem twiceNot : ∀ n : Nat, 2 ≤ n → n ≤ 3 → ¬ ((atomNames n).take (n - 1) ++ (atomNames n).take 1).Nodup := by
  intro n h1 h2
  obtain rfl | rfl : n = 2 ∨ n = 3 := by omega
  · decide +kernel
  · decide +kernel
theorem pick_init {ys : List Value} {n : Nat} (h : ys.length = n) (h1 : 2 ≤ n) (h2 : n ≤ 3) : slicePick ys.toArray none (some (-1)) none = (ys.take (n - 1)).toArray := by
  obtain ⟨a, ys, g1⟩ := lenCons (n := n - 1) (l := ys) (by omega)
  obtain ⟨b, ys, g2⟩ := lenCons (n := n - 2) (l := ys) (by omega)
  obtain rfl | rfl : n = 2 ∨ n = 3 := by omega
  · obtain rfl := List.eq_nil_of_length_eq_zero g2
    with_unfolding_all rfl
  · obtain ⟨c, ys, g3⟩ := lenCons (n := 0) g2
    obtain rfl := List.eq_nil_of_length_eq_zero g3
    with_unfolding_all rfl
theorem base_to {base h h' : Heap} {L : Addr} {m : Str → Option Value} {env : Env} (F : Fr base L h m) (hf : env.frame = some L) (k : (bare h [env]).StaysIn h') : base.StaysIn h' := fun b o e => k b o (bare_get (F.keep b o e) fun hm => by
  rw [List.filterMap_cons_some hf] at hm
  rw [List.mem_singleton.mp hm] at e
  exact Nat.not_lt.mpr F.above (Heap.lt_size e))
inductive Law2 (base : Heap) (L l D : Addr) (items : List Value) (kD n : Nat) (o3 o2 o1 : Obj) (s : Shared) : Flow → Shared → Prop
  | next (r Dn : Addr) (ys : List Value) (kn : Nat) (tn : Tok) (h' : Heap) (tk' : Nat)
    (z1 : Fr base L h' (fun y => if y = Str.ofString "names" then some (.ref Dn) else if y = Str.ofString "n" then some (.int n tn) else if y = Str.ofString "rest" then some (.ref r) else if y = Str.ofString "cells" then some (.ref D) else if y = Str.ofString "script" then some (.ref l) else none))
    (z2 : News base L h' [(Dn, listOf ys.toArray kn), (D, listOf items.toArray kD), (L + 1 + 1 + 1, o3), (L + 1 + 1, o2), (L + 1, o1)]) (z3 : StrsOf ys (atomNames n)) (z4 : L + 1 < Dn ∧ L + 1 + 1 < Dn ∧ L + 1 + 1 + 1 < Dn) : Law2 base L l D items kD n o3 o2 o1 s .next { s with heap := h', toks := tk' }
  | ret (h' : Heap) (tk' : Nat) (z : base.StaysIn h') : Law2 base L l D items kD n o3 o2 o1 s (.ret (.bool true)) { s with heap := h', toks := tk' }
theorem uni_news {G h h' : Heap} {L : Addr} {m : Str → Option Value} {news : List (Addr × Obj)} {D : Addr} {ond : Obj} {l : List (Addr × Obj)} (F : Fr G L h m) (N : News G L h news) (k : h.StaysIn h') (e1 : h'.get? D = some ond) (e2 : h.get? D = none) (hl : ∀ p ∈ l, h'.get? p.1 = some p.2 ∧ h.get? p.1 = none) :
    Fr G L h' m ∧ News G L h' ((D, ond) :: l ++ news) := by
  have F' := frStays F k
  have N' := newsStays N k
  have key : ∀ p ∈ (D, ond) :: l, h'.get? p.1 = some p.2 ∧ h.get? p.1 = none := fun p hp => by
    rcases List.mem_cons.mp hp with rfl | hp
    · exact ⟨e1, e2⟩
    · exact hl p hp
  refine ⟨F', fun p hp => ?_⟩
  rcases List.mem_append.mp hp with hp | hp
  · obtain ⟨a, b⟩ := key p hp
    refine ⟨a, fun q => ?_, ?_⟩
    · obtain ⟨o, es, ep, e, _⟩ := F.ns
      rw [q, e] at b; cases b
    · cases q : G.get? p.1 with
      | none => rfl
      | some o => rw [F.keep _ _ q] at b; cases b
  · exact N' p hp
theorem withPass {M : Model} {A : Around} {body : List Stmt} {env : Env} {Q : Flow → Shared → Prop} {E : Value → Shared → Prop} {s : Shared} (hE : PassesOwn M A env E) (h : PassesOwn M A env E → wpAny M A (execs body env) Q E s) : wpAny M A (execs body env) Q E s := h hE
theorem withHo {K : Frag} {f : Addr} {P : Prop} {name qual : Str} {params : Arguments} {body : List Stmt} {scope : Scope} {dV kV doc pm cdv ct oc : Value} {an od : Option Addr} {osl : Array (Option Value)}
    (ho : K.lookup f = some ⟨oc, od, .func (fnOf name qual params body scope dV kV doc pm an cdv ct), osl⟩) (h : K.lookup f = some ⟨oc, od, .func (fnOf name qual params body scope dV kV doc pm an cdv ct), osl⟩ → P) : P := h ho
end

section
open PySem PySem.W PySem.Calls PyProof.Rows PySem.Spec PyProof.V
/-- a piece of work that makes no call, and whose writes leave P true -/
inductive Quiet (P : Heap → Prop) {α : Type} : Sem α → Prop
  | pure (a : α) : Quiet P (.pure a)
  | raise (e : Value) : Quiet P (.raise e)
  | unsupported (w : String) : Quiet P (.unsupported w)
  | rule (t : String) {k} : Quiet P (k ()) → Quiet P (.rule t k)
  | load (a p) {k} : (∀ o, Quiet P (k o)) → Quiet P (.load a p k)
  | update (a p) {f k} : (∀ h, P h → P (h.update a f)) → Quiet P (k ()) → Quiet P (.update a p f k)
  | alloc (o) {k} : (∀ x, Quiet P (k x)) → Quiet P (.alloc o k)
  | loadIfAlive (a) {k} : (∀ o, Quiet P (k o)) → Quiet P (.loadIfAlive a k)
  | stack {k} : (∀ l, Quiet P (k l)) → Quiet P (.stack k)
theorem Quiet.bind {P : Heap → Prop} {α β : Type} {t : Sem α} {f : α → Sem β} (h : Quiet P t) (hf : ∀ a, Quiet P (f a)) : Quiet P (t >>= f) := by
  show Quiet P (Sem.bind t f)
  induction h with
  | pure a => exact hf a
  | raise e => exact .raise e
  | unsupported w => exact .unsupported w
  | rule t _ ih => exact .rule t ih
  | load a p _ ih => exact .load a p ih
  | update a p hu _ ih => exact .update a p hu ih
  | alloc o _ ih => exact .alloc o ih
  | loadIfAlive a _ ih => exact .loadIfAlive a ih
  | stack _ ih => exact .stack ih
theorem Quiet.wp {P : Heap → Prop} (hp : ∀ h o, P h → P (h.push o)) {α : Type} {M : Model} {Γ : PySem.Ctx} {t : Sem α} (q : Quiet P t) : ∀ {Q : α → Pos → Shared → Prop} {E : Value → Pos → Shared → Prop} {p : Pos} {s : Shared}, P s.heap → Sem.wp M Γ t Q E p s → Sem.wp M Γ t (fun a p s' => Q a p s' ∧ P s'.heap) (fun e p s' => E e p s' ∧ P s'.heap) p s := by
  induction q with
  | pure a => intro Q E p s h w; rw [Sem.wp] at w ⊢; exact ⟨w, h⟩
  | raise e => intro Q E p s h w; rw [Sem.wp] at w ⊢; exact ⟨w, h⟩
  | unsupported u => intro Q E p s h w; rw [Sem.wp] at w; exact w.elim
  | rule t _ ih => intro Q E p s h w; rw [Sem.wp] at w ⊢; exact ih h w
  | load a p _ ih => intro Q E p s h w; rw [Sem.wp] at w ⊢; obtain ⟨o, ho, w⟩ := w; exact ⟨o, ho, ih o h w⟩
  | update a p hu _ ih => intro Q E p s h w; rw [Sem.wp] at w ⊢; exact ⟨w.1, ih (hu _ h) w.2⟩
  | alloc o _ ih => intro Q E p s h w; rw [Sem.wp] at w ⊢; exact ih _ (hp _ o h) w
  | loadIfAlive a _ ih => intro Q E p s h w; rw [Sem.wp] at w ⊢; exact ih _ h w
  | stack _ ih => intro Q E p s h w; rw [Sem.wp] at w ⊢; exact ih _ h w
theorem Quiet.wpAny {P : Heap → Prop} (hp : ∀ h o, P h → P (h.push o)) {α : Type} {M : Model} {A : Around} {t : Sem α} {Q : α → Shared → Prop} {E : Value → Shared → Prop} {s : Shared} (q : Quiet P t) (h : P s.heap) (w : wpAny M A t Q E s) : wpAny M A t (fun a s' => Q a s' ∧ P s'.heap) (fun e s' => E e s' ∧ P s'.heap) s := fun Γ p hΓ => q.wp hp h (w Γ p hΓ)
/-- the exception e has no context -/
noncomputable def NoCtx (e : Addr) (h : Heap) : Prop := ∃ o vs, h.get? e = some o ∧ o.data = .fields vs ∧ vs[2]? = some .none
theorem NoCtx.push {e : Addr} (h : Heap) (o : Obj) (x : NoCtx e h) : NoCtx e (h.push o) := let ⟨ob, vs, a, b, c⟩ := x; ⟨ob, vs, Heap.get?_push_of_some _ a, b, c⟩
theorem NoCtx.field {e a : Addr} {i : Nat} {v : Value} (hi : i ≠ 2) (h : Heap) (x : NoCtx e h) : NoCtx e (h.update a (Obj.mapFields (·.setIfInBounds i v))) := by
  obtain ⟨ob, vs, e1, e2, e3⟩ := x
  by_cases q : a = e
  · subst q
    have d := Obj.data_mapFields e2 (·.setIfInBounds i v)
    exact ⟨_, _, Heap.get?_update_self _ e1 (Obj.isFreed_of_fields d), d, by rw [Array.getElem?_setIfInBounds_ne (Ne.symm (Ne.symm hi))]; exact e3⟩
  · exact ⟨ob, vs, (Heap.get?_update_other _ _ q).trans e1, e2, e3⟩
theorem NoCtx.slots {e a : Addr} {f : Obj → Array (Option Value)} (h : Heap) (x : NoCtx e h) : NoCtx e (h.update a fun o => { o with slots := f o }) := by
  obtain ⟨ob, vs, e1, e2, e3⟩ := x
  by_cases q : a = e
  · subst q
    exact ⟨_, vs, Heap.get?_update_self _ e1 (Obj.isFreed_of_fields (o := { ob with slots := f ob }) e2), e2, e3⟩
  · exact ⟨ob, vs, (Heap.get?_update_other _ _ q).trans e1, e2, e3⟩
section
variable {e : Addr}
theorem quiet_stack {P : Heap → Prop} : Quiet P stack := .stack fun _ => .pure _
theorem quiet_fieldsOf {P : Heap → Prop} (v : Value) : Quiet P (fieldsOf v) := by
  unfold fieldsOf
  cases v <;> first | exact .unsupported _ | skip
  refine .bind (.load _ _ fun _ => .pure _) fun o => ?_
  split
  · exact .pure _
  · exact .unsupported _
theorem quiet_field {P : Heap → Prop} (v : Value) (i : Nat) : Quiet P (field v i) := by
  unfold field
  refine .bind (quiet_fieldsOf v) fun o => ?_
  split
  · exact .pure _
  · exact .unsupported _
theorem quiet_setField {i : Nat} (hi : i ≠ 2) (v x : Value) : Quiet (NoCtx e) (setField v i x) := by
  unfold setField
  cases v <;> first | exact .unsupported _ | skip
  refine .bind (.load _ _ fun _ => .pure _) fun o => ?_
  split
  · split
    · exact .update _ _ (NoCtx.field hi) (.pure _)
    · exact .unsupported _
  · exact .unsupported _
theorem quiet_behind (env : Env) (outer : List Env) : Quiet (NoCtx e) (behindIsImport env outer) := by
  unfold behindIsImport
  split
  · exact .pure _
  · split
    · exact .pure _
    · exact .bind (quiet_field _ _) fun _ => .pure _
theorem quiet_kept (env : Env) (i : Bool) : ∀ outer : List Env, Quiet (NoCtx e) (keptBack env i outer)
  | [] => by
    simp only [keptBack]
    split
    · exact .pure _
    · unfold underTheClaimsCaller
      exact .bind (.bind quiet_stack fun _ => .pure _) fun _ => .pure _
  | _ :: _ => .pure _
theorem quiet_ready : ∀ l : List Env, Quiet (NoCtx e) (readyFrames l)
  | [] => .pure _
  | env :: outer => by
    unfold readyFrames
    split
    · refine .bind (.load _ _ fun _ => .pure _) fun o => ?_
      split
      · exact .pure _
      · exact .bind (quiet_behind env outer) fun i => .bind (quiet_kept env i outer) fun b => .bind (.update _ _ (fun h x => NoCtx.slots h x) (.pure _)) fun _ => quiet_ready outer
    · exact .unsupported _
theorem quiet_frameOf (env : Env) : Quiet (NoCtx e) (PySem.frameOf env) := by
  unfold PySem.frameOf
  refine .bind (.bind (quiet_stack) fun _ => .pure _) fun l => .bind ?_ fun r => ?_
  · cases l.dropWhile (·.frame != env.frame) with
    | nil => exact .pure _
    | cons a r => exact .bind (quiet_ready _) fun _ => .pure _
  · split
    · exact .pure _
    · exact .unsupported _
theorem quiet_place (f : Addr) (b : Bool) : Quiet (NoCtx e) (entryPlaceOf f b) := by
  unfold entryPlaceOf
  refine .bind quiet_stack fun l => ?_
  split
  · exact .pure _
  · exact .pure _
theorem quiet_entry (a b c d g : Value) (l : List Value) : Quiet (NoCtx e) (EntryCells.newEntry a b c d g l) := by
  unfold EntryCells.newEntry newFields newObj
  dsimp only
  have fin : ∀ c d, Quiet (NoCtx e) (newObjAsIs (.type c) d) := fun c d => by
    unfold newObjAsIs
    exact .bind (.alloc _ fun _ => .pure _) fun _ => .pure _
  generalize ([a, b, c, d, g] ++ if l.isEmpty = true then List.replicate 6 Value.none else l).toArray = vs
  split
  · exact .bind (.unsupported _) fun _ => fin _ _
  · exact fin _ _
theorem quiet_note (v : Value) (env : Env) : Quiet (NoCtx e) (noteFrame v env) := by
  unfold noteFrame
  split
  · refine .bind (quiet_field _ _) fun h => ?_
    have fin : ∀ f : Addr, Quiet (NoCtx e) (do setField v 1 (← EntryCells.newEntry h (← PySem.frameOf env) .none (rawInt f) .none (← entryPlaceOf f (h != .none)))) := fun f => .bind (quiet_frameOf env) fun _ => .bind (quiet_place _ _) fun _ => .bind (quiet_entry _ _ _ _ _ _) fun _ => quiet_setField (by decide) _ _
    split
    · refine .bind (quiet_field _ _) fun t => ?_
      split
      · exact .pure _
      · exact .bind (quiet_setField (by decide) _ _) fun _ => fin _
    · exact fin _
  · exact .unsupported _
theorem quiet_flight (v : Value) (f : Option Addr) : Quiet (NoCtx e) (setFlight v f) := by
  unfold setFlight
  refine .bind (quiet_field _ _) fun t => ?_
  split
  · exact quiet_setField (by decide) _ _
  · exact .pure _
theorem quiet_leaving (v : Value) (env : Env) : Quiet (NoCtx e) (leaving env v) := by
  unfold leaving
  exact .bind (quiet_note _ _) fun _ => quiet_flight _ _
end
end

section
open PySem PySem.W PySem.Calls PyProof.Rows PySem.Spec PyProof.V
section
variable {prog : Program} {w : World} {A : Around} {E : Value → Shared → Prop} {s : Shared}
theorem entry_unchain : entryFor table "proto.unchain" = some Builtin.«proto.unchain» := entryFor_of_tree (by kernel_rfl)
/-- an exception raised while another is handled -/
theorem raise_held {α : Type} {a e : Addr} {oa : Obj} {vs : Array Value} {Q : α → Shared → Prop} (hh : A.handled = some (.ref e)) (hae : a ≠ e) (hn : NoCtx e s.heap) (ha : s.heap.get? a = some oa) (hd : oa.data = .fields vs) (hs : 2 < vs.size)
    (h : E (.ref a) { s with heap := s.heap.update a (Obj.mapFields (·.setIfInBounds 2 (.ref e))) }) : wpAny (model prog w) A (raiseNew (.ref a) : Sem α) Q E s := by
  obtain ⟨oe, ves, e1, e2, e3⟩ := hn
  unfold raiseNew
  refine wpAny_bind (wpAny_handled ?_)
  rw [hh]
  have hne : (Value.ref e != Value.ref a) = true := by simp [Ne.symm hae]
  show wpAny _ A (do
    if Value.ref e != Value.ref a then
      let _ ← holding [Value.ref a] (runValue (.builtin "proto.unchain" ⟨[.ref a, .ref e, .ref e, .bool false], []⟩))
      updateField a 2 (.ref e)
    throw (Value.ref a)) Q E s
  rw [if_pos hne]
  refine wpAny_bind (wpAny_holding (runValue_entry entry_unchain ?_))
  show wpAny _ _ (field (.ref e) 2 >>= _) _ _ s
  refine wpAny_bind (wpAny_field e1 e2 e3 ?_)
  refine wpAny_pure ⟨.none, rfl, ?_⟩
  show wpAny _ _ (setField (.ref a) 2 (.ref e) >>= _) _ _ s
  exact wpAny_bind (wpAny_setField ha hd hs (wpAny_throw h))
theorem stop_held {α : Type} {e : Addr} {H : Heap} {Q' : α → Shared → Prop} {Q : Option Value → Shared → Prop} (hh : A.handled = some (.ref e)) (hn : NoCtx e H) (hQ : ∀ h', H.StaysIn h' → Q none { s with heap := h' }) :
    wpAny (model prog w) A.in1 (do raiseNew (← newExc (.type "StopIteration") []) : Sem α) Q' (fun x s' => wpAny (model prog w) A (do if ← isInstance x (.type "StopIteration") then pure none else throw x : Sem (Option Value)) Q E s') { s with heap := H } := by
  refine wpAny_bind ?_
  simp only [newExc, newTuple]
  refine wpAny_bind (wpAny_newObj_type ?_ (by size_fits))
  refine wpAny_bind (m := firstArgMember _ _) (wpAny_of_eq (a := Value.none) (by first | rfl | (simp only [firstArgMember]; rfl)) ?_)
  refine wpAny_newObj_type ?_ (by size_fits)
  have hn2 := NoCtx.push _ { cls := .type "tuple", data := .seq #[] } hn
  have hne : (H.push { cls := .type "tuple", data := .seq #[] }).objs.size ≠ e := by
    obtain ⟨o, vs, e1, _⟩ := hn2
    exact Nat.ne_of_gt (Heap.lt_size e1)
  refine raise_held (e := e) (show A.in1.handled = _ from hh) hne (NoCtx.push _ _ hn2) (Heap.get?_push_size _ rfl) rfl (show 3 ≤ _ from Nat.le_of_ble_eq_true rfl) ?_
  refine wpAny_bind (wpAny_isInstance (T := "StopIteration") (b := true) ⟨_, Heap.get?_update_self _ (Heap.get?_push_size _ rfl) rfl, rfl⟩ isSubtype_stop ?_)
  refine wpAny_pure (hQ _ fun b o q => ?_)
  refine (Heap.get?_update_other _ _ fun z => ?_).trans (Heap.get?_push_of_some _ (Heap.get?_push_of_some _ q))
  rw [← z, Heap.size_push] at q
  exact Nat.lt_irrefl _ (Nat.lt_of_succ_lt (Heap.lt_size q))
theorem list_end_held {it l e : Addr} {i : Nat} {items : Array Value} {Q : Option Value → Shared → Prop} (hh : A.handled = some (.ref e)) (hn : NoCtx e s.heap)
    (hit : s.heap.IsListIter it l i) (hl : s.heap.IsList l items) (hx : items[i]? = none) (hQ : ∀ h', Heap.ExtBut it s.heap h' → Q none { s with heap := h' }) : wpAny (model prog w) A (pyNext (.ref it)) Q E s := by
  obtain ⟨o, ho, hc, hd⟩ := id hit
  obtain ⟨ol, hol, _, nl, hdl⟩ := hl
  unfold pyNext
  refine wpAny_bind (wpAny_attempt (wpAny_callSpecial?_slot (name := Str.ofString "__next__") hit.typeIs slot_listiter_next
    (wpAny_call_entry slot_listiter_next hit.typeIs entry_listiter_next ?_ (args_listiter_next _))))
  show wpAny _ _ (field (.ref it) 0 >>= _) _ _ s
  refine wpAny_bind (wpAny_field ho hd (x := .ref l) rfl ?_)
  show wpAny _ _ (if (Value.ref l == Value.none) = true then _ else _) _ _ s
  rw [if_neg (show ¬ ((Value.ref l == Value.none) = true) from Bool.false_ne_true)]
  show wpAny _ _ (field (.ref it) 1 >>= _) _ _ s
  refine wpAny_bind (wpAny_field ho hd (x := .int i 0) rfl ?_)
  show wpAny _ _ (seqItems? (.ref l) >>= _) _ _ s
  refine wpAny_bind (wpAny_seqItems hol hdl ?_)
  simp only [Int.toNat_natCast, hx]
  refine wpAny_bind (wpAny_rule (wpAny_bind (wpAny_setField ho hd (by simp) ?_)))
  exact stop_held (E := E) hh (NoCtx.field (e := e) (a := it) (i := 0) (v := Value.none) (by decide) _ hn) fun h' k => hQ h' fun b o hb q => k b o ((Heap.get?_update_other _ _ (Ne.symm hb)).trans q)
theorem range_end_held {it e : Addr} {x left step : Int} {Q : Option Value → Shared → Prop} (hh : A.handled = some (.ref e)) (hn : NoCtx e s.heap) (hit : IsRangeIter s.heap it x left step) (hleft : left ≤ 0)
    (hQ : ∀ h', Heap.ExtBut it s.heap h' → Q none { s with heap := h' }) : wpAny (model prog w) A (pyNext (.ref it)) Q E s := by
  have hT : s.TypeIs (.ref it) "range_iterator" := ⟨_, hit, rfl⟩
  unfold pyNext
  refine wpAny_bind (wpAny_attempt (wpAny_callSpecial?_slot (name := Str.ofString "__next__") hT PySem.F.slot_range_iterator_next
    (wpAny_call_entry PySem.F.slot_range_iterator_next hT PySem.F.entry_range_iterator_next ?_ (PySem.F.args_range_iterator_next_1 _))))
  show wpAny _ _ (field (.ref it) 0 >>= _) _ _ s
  refine wpAny_bind (wpAny_field hit rfl (x := rawInt x) rfl ?_)
  show wpAny _ _ (field (.ref it) 1 >>= _) _ _ s
  refine wpAny_bind (wpAny_field hit rfl (x := rawInt left) rfl ?_)
  show wpAny _ _ (field (.ref it) 2 >>= _) _ _ s
  refine wpAny_bind (wpAny_field hit rfl (x := rawInt step) rfl ?_)
  show wpAny _ _ (if left ≤ 0 then _ else _) _ _ s
  rw [if_pos hleft]
  refine wpAny_bind (wpAny_rule ?_)
  exact wpAny_bind (stop_held (E := E) hh hn fun h' k => hQ h' fun b o _ q => k b o q)
end
theorem NoCtx.at {e : Addr} {h h' : Heap} (x : NoCtx e h) (k : ∀ o, h.get? e = some o → h'.get? e = some o) : NoCtx e h' := let ⟨o, vs, a, b⟩ := x; ⟨o, vs, k _ a, b⟩
theorem walks_list_held {prog : Program} {w : World} {A : Around} {e : Addr} (hh : A.handled = some (.ref e)) (I ax : Addr) (hne : ax ≠ I) (heI : e ≠ I) (items : Array Value) :
    Walks prog w A I [I, ax, e] [I] items.size (fun i v => items[i]? = some v) (fun i h => (h.IsListIter I ax i ∧ h.IsList ax items) ∧ NoCtx e h) where
  sub := fun b hb => by simp at hb; simp [hb]
  frame := fun _ _ _ st hk => ⟨⟨st.1.1.at fun o e => hk I (by simp) o e, st.1.2.at fun o e => hk ax (by simp) o e⟩, st.2.at fun o q => hk e (by simp) o q⟩
  item := fun i s Q E hi st hQ => by
    refine wpAny_pyNext_list_item st.1.1 st.1.2 (x := items[i]) (by simp [hi]) fun h' hit' hs' => ?_
    exact hQ _ h' s.toks (by simp [hi]) ⟨⟨hit', st.1.2.extBut hs'.extBut hne⟩, st.2.at fun o q => hs'.extBut e o heI q⟩ fun b o hb q => hs'.extBut b o (fun h => hb (by simp [h])) q
  done := fun s Q E st hQ => list_end_held hh st.2 st.1.1 st.1.2 (by simp) fun h' he' => hQ h' s.toks fun b o hb q => he' b o (fun h => hb (by simp [h])) q
  self := fun _ _ _ _ st hQ => wpAny_pyIter_listiter st.1.1 hQ
theorem walks_range_held {prog : Program} {w : World} {A : Around} {e : Addr} (hh : A.handled = some (.ref e)) (I : Addr) (heI : e ≠ I) (n : Nat) :
    Walks prog w A I [I, e] [I] n (fun i v => ∃ t, v = .int (0 + (i : Nat) * 1) t) (fun i h => IsRangeIter h I (0 + ((i : Nat) : Int) * 1) ((n : Int) - (i : Nat)) 1 ∧ NoCtx e h) where
  sub := fun b hb => by simp at hb; simp [hb]
  frame := fun _ _ _ st hk => ⟨hk I (by simp) _ st.1, st.2.at fun o q => hk e (by simp) o q⟩
  item := fun i s Q E hi st hQ => by
    refine wpAny_pyNext_range_item st.1 (by omega) fun h' hit' hs' => ?_
    refine hQ _ h' _ ⟨_, rfl⟩ ⟨?_, st.2.at fun o q => hs'.extBut e o heI q⟩ fun b o hb q => hs'.extBut b o (fun h => hb (by simp [h])) q
    have e1 : (0 : Int) + ((i + 1 : Nat) : Int) * 1 = 0 + (i : Int) * 1 + 1 := by omega
    have e2 : (n : Int) - ((i + 1 : Nat) : Int) = (n : Int) - (i : Int) - 1 := by omega
    rw [e1, e2]; exact hit'
  done := fun s Q E st hQ => range_end_held hh st.2 st.1 (by omega) fun h' he' => hQ h' s.toks fun b o hb q => he' b o (fun h => hb (by simp [h])) q
  self := fun _ _ _ _ st hQ => wpAny_pyIter_rangeiter st.1 hQ
end

section
open PySem PySem.W PySem.Calls PyProof.Rows PySem.Spec PyProof.V
section
variable {prog : Program} {w : World} {A : Around} {E : Value → Shared → Prop} {s : Shared}
/-- a list takes in a range while an exception is handled -/
theorem extend_held {R : Result → Shared → Prop} {r S e : Addr} {t u v : Tok} {n : Nat} {res : Value} {c₀ : Nat} (hh : A.handled = some (.ref e)) (hc : NoCtx e s.heap) (hr : IsRange s.heap r 0 (n : Int) 1 t u v) (hsmall : Builtin.Range.small 0 (n : Int) 1 = true)
    (hn : Builtin.Range.rangeSize 0 (n : Int) 1 = n) (hlen : n ≤ 9) (hS : s.heap.get? S = some { cls := .type "list", data := .seq #[] c₀ })
    (hR : ∀ h' tk acc' c', (∀ b o, b ≠ S → s.heap.get? b = some o → h'.get? b = some o) → h'.get? S = some { cls := .type "list", dict := none, data := .seq acc' c', slots := #[] } →
      ItemsOf (fun i v => ∃ t, v = .int (0 + (i : Nat) * 1) t) acc' n → R (.ok (.ret res)) { s with heap := h', toks := tk }) :
    wpAny (model prog w) A.in1 (Builtin.List.listExtendWith (.ref S) (.ref r) res)
      (fun fin s' => match fin with | .done f => R (.ok f) s' | .again c' => c'.quiet = true ∧ codeAny (model prog w) A c' R s') (fun e s' => R (.error e) s') s := by
  have hSr : S ≠ r := fun q => by rw [q, hr] at hS; simp at hS
  have hSe : S ≠ e := fun q => by
    obtain ⟨o, vs, a, b, _⟩ := hc
    rw [q, a] at hS
    rw [Option.some.inj hS] at b; cases b
  have hSI : S ≠ s.heap.objs.size := Nat.ne_of_lt (Heap.lt_size hS)
  have heI : e ≠ s.heap.objs.size := by
    obtain ⟨o, vs, a, _⟩ := hc
    exact Nat.ne_of_lt (Heap.lt_size a)
  have hSf : S ∉ [s.heap.objs.size, e] := fun q => by
    rcases List.mem_cons.mp q with q | q
    · exact hSI q
    · exact hSe (List.mem_singleton.mp q)
  have W := (walks_range_held (prog := prog) (w := w) (A := A.in1) hh s.heap.objs.size heI n).toS
  have key : ∀ (h : Heap) (c₁ tk : Nat), IsRangeIter h s.heap.objs.size (0 + ((0 : Nat) : Int) * 1) ((n : Int) - ((0 : Nat) : Int)) 1 ∧ NoCtx e h → (∀ b o, b ≠ S → s.heap.get? b = some o → h.get? b = some o) →
      h.get? S = some { cls := .type "list", data := .seq #[] c₁ } → codeAny (model prog w) A (.builtin "list.extend.loop" ⟨[.ref S, .ref s.heap.objs.size, res], []⟩) R { s with heap := h, toks := tk } := by
    intro h c₁ tk hit hk hS₁
    refine codeAny_extend_loopS W (by rw [sizeLine_eq]; omega) S hSf res n 0 _ #[] c₁ rfl (Nat.zero_le _) hit hS₁ (ItemsOf.nil _) fun s' acc' c' hm hS' hacc => ?_
    rw [Moved.eq_with hm]
    refine hR s'.heap s'.toks acc' c' (fun b o hb q => hm.heap b o (fun hmem => ?_) (hk b o hb q)) hS' hacc
    rcases List.mem_cons.mp hmem with e' | hmem
    · exact hb e'
    · exact absurd (Heap.lt_size q) (by rw [List.mem_singleton.mp hmem]; exact Nat.lt_irrefl _)
  unfold Builtin.List.listExtendWith
  refine wpAny_bind (wpAny_typeOf (T := "range") ⟨_, hr, rfl⟩ ?_)
  simp only [show Builtin.List.listSameRef (.ref S) (.ref r) = false by simp [Builtin.List.listSameRef, hSr], show (Value.type "range" == Value.type "list") = false by decide, show (Value.type "range" == Value.type "tuple") = false by decide, Bool.or_false, Bool.false_eq_true, if_false]
  refine wpAny_bind (wpAny_pyIter_range hr hsmall ?_)
  refine wpAny_bind (wpAny_holding (wpAny_hint_range (n := n) (Heap.get?_push_of_some _ hr) hn (by omega) ?_))
  have hc₁ := NoCtx.push _ { cls := .type "range_iterator", data := .fields #[rawInt 0, rawInt (Builtin.Range.rangeSize 0 (n : Int) 1), rawInt 1] } hc
  have hit₁ : IsRangeIter (s.heap.push { cls := .type "range_iterator", data := .fields #[rawInt 0, rawInt (Builtin.Range.rangeSize 0 (n : Int) 1), rawInt 1] }) s.heap.objs.size (0 + ((0 : Nat) : Int) * 1) ((n : Int) - ((0 : Nat) : Int)) 1 := by
    show IsRangeIter _ _ _ _ _; rw [hn]; simpa using Heap.get?_push_size _ rfl
  have hS₁ := Heap.get?_push_of_some { cls := .type "range_iterator", data := .fields #[rawInt 0, rawInt (Builtin.Range.rangeSize 0 (n : Int) 1), rawInt 1] } hS
  refine wpAny_ite_split (fun _ => ?_) (fun _ => wpAny_pure ⟨plainId_quiet PySem.F.plain_extend_loop _, key _ c₀ _ ⟨hit₁, hc₁⟩ (fun b o _ q => Heap.get?_push_of_some _ q) hS₁⟩)
  refine wpAny_bind (wpAny_rule ?_)
  refine wpAny_bind ?_
  show wpAny _ _ (updateSeq S (·.push .none) >>= fun _ => updateSeq S (·.pop)) _ _ _
  refine wpAny_bind (wpAny_updateSeq hS₁ rfl ?_)
  have hS₂ := Heap.get?_update_self (Obj.mapSeq (·.push Value.none)) hS₁ rfl
  refine wpAny_updateSeq (hz := by seq_fits) hS₂ rfl ?_
  have hS₃ := Heap.get?_update_self (Obj.mapSeq (·.pop)) hS₂ rfl
  have up : ∀ b o, b ≠ S → s.heap.get? b = some o → _ := fun b o hb q => (Heap.get?_update_other _ (Obj.mapSeq (·.pop)) (Ne.symm hb)).trans ((Heap.get?_update_other _ (Obj.mapSeq (·.push Value.none)) (Ne.symm hb)).trans (Heap.get?_push_of_some { cls := .type "range_iterator", data := .fields #[rawInt 0, rawInt (Builtin.Range.rangeSize 0 (n : Int) 1), rawInt 1] } q))
  exact wpAny_pure ⟨plainId_quiet PySem.F.plain_extend_loop _, key _ _ _ ⟨(Heap.get?_update_other _ _ hSI).trans ((Heap.get?_update_other _ _ hSI).trans hit₁), hc.at fun o q => up e o (Ne.symm hSe) q⟩ up hS₃⟩
theorem list_range_held {Q : Value → Shared → Prop} {r e : Addr} {t u v : Tok} {n : Nat} (hh : A.handled = some (.ref e)) (hc : NoCtx e s.heap) (hr : IsRange s.heap r 0 (n : Int) 1 t u v) (hsmall : Builtin.Range.small 0 (n : Int) 1 = true)
    (hn : Builtin.Range.rangeSize 0 (n : Int) 1 = n) (hlen : n ≤ 9)
    (hQ : ∀ h' tk acc' c', s.heap.StaysIn h' → h'.get? s.heap.objs.size = some { cls := .type "list", dict := none, data := .seq acc' c', slots := #[] } → ItemsOf (fun i v => ∃ t, v = .int (0 + (i : Nat) * 1) t) acc' n → Q (.ref s.heap.objs.size) { s with heap := h', toks := tk }) :
    wpAny (model prog w) A (call (.type "list") [.ref r]) Q E s := by
  refine callType_codes (Q₁ := fun obj s₁ => obj = .ref s.heap.objs.size ∧ s₁ = { s with heap := s.heap.push { cls := .type "list", data := .seq #[] } }) PySem.F.called_list (PySem.F.typeCall_list_1 _) PySem.F.entry_list_init
    (code_list_new _ ⟨rfl, rfl⟩) fun obj s₁ h₁ => ?_
  obtain ⟨rfl, rfl⟩ := h₁
  have hS : (s.heap.push { cls := .type "list", data := .seq #[] }).get? s.heap.objs.size = some { cls := .type "list", data := .seq #[] } := Heap.get?_push_size _ rfl
  refine ⟨⟨_, hS, rfl⟩, PySem.F.args_list_init_2 _ _, ?_⟩
  show wpAny _ _ (do let old ← Builtin.List.listItems (.ref s.heap.objs.size); Builtin.List.listUpdate (.ref s.heap.objs.size) (fun _ => #[]); letGo old.toList.reverse; Builtin.List.listExtendWith (.ref s.heap.objs.size) (.ref r) .none) _ _ _
  refine wpAny_bind ?_
  unfold Builtin.List.listItems
  refine wpAny_bind (wpAny_seqItems hS rfl (wpAny_pure ?_))
  show wpAny _ _ (updateSeq s.heap.objs.size (fun _ => #[]) >>= fun _ => letGo (#[] : Array Value).toList.reverse >>= fun _ => Builtin.List.listExtendWith (.ref s.heap.objs.size) (.ref r) .none) _ _ _
  refine wpAny_bind (wpAny_updateSeq hS rfl ?_)
  have hS₂ := Heap.get?_update_self (Obj.mapSeq (fun _ => (#[] : Array Value))) hS rfl
  have oth : ∀ b o, b ≠ s.heap.objs.size → s.heap.get? b = some o → ((s.heap.push { cls := .type "list", data := .seq #[] }).update s.heap.objs.size (Obj.mapSeq (fun _ => (#[] : Array Value)))).get? b = some o :=
    fun b o hb q => (Heap.get?_update_other _ _ (Ne.symm hb)).trans (Heap.get?_push_of_some _ q)
  have lt : ∀ {b : Addr} {o : Obj}, s.heap.get? b = some o → b ≠ s.heap.objs.size := fun q => Nat.ne_of_lt (Heap.lt_size q)
  refine wpAny_bind (wpAny_letGo ?_)
  refine' extend_held (A := A.in1) hh ?c ?r hsmall hn hlen ?S fun h' tk acc' c' hk hS' hacc => ?_
  case c => exact hc.at fun o q => oth e o (lt q) q
  case r => exact oth r _ (lt hr) hr
  case S => exact hS₂
  exact ⟨rfl, hQ h' tk acc' c' (fun b o q => hk b o (lt q) (oth b o (lt q) q)) hS' hacc⟩
end
end

section
open PySem PySem.W PySem.Calls PyProof.Rows PySem.Spec PyProof.V
section
variable {prog : Program} {w : World} {A : Around} {E : Value → Shared → Prop} {s : Shared} {env : Env} {G : Heap}
/-- a comprehension over a list while an exception is handled -/
inductive LcGoHeld (prog : Program) (w : World) (A : Around) (G : Heap) (env : Env) (scope : Scope) (cl : List (Str × Addr)) (x : Str) (ifs : List Expr) (elt : Expr) (e : Addr) (J : Nat → List Value → Prop) (Q : Value → Shared → Prop) : Value → Shared → Prop
  | mk {s : Shared} (l : Addr) (vs : List Value) (m : Str → Option Value) (news : List (Addr × Obj)) (z1 : s.heap.IsList l vs.toArray) (z2 : NoCtx e s.heap) (z3 : Fr G env.locals s.heap m) (z4 : News G env.locals s.heap news) (z5 : vs.length ≤ sizeLine) (z6 : (∀ C i v ys h tk m₂ E', vs[i]? = some v → ys.length ≤ i → J i ys → s.heap.StaysIn h → h.Ns C m₂ → m₂ x = some v → wpAny (model prog w) A (lcTests ifs (compEnvC scope cl C env)) (LcOk prog w A elt (compEnvC scope cl C env) s.gens s.drawn s.os h (fun y _ => J (i + 1) (ys ++ [y])) (fun _ => J (i + 1) ys) E') E' { s with heap := h, toks := tk })) (z7 : (∀ D h' tk ys k, Fr G env.locals h' m → News G env.locals h' ((D, listOf ys.toArray k) :: news) → (∀ p ∈ news, p.1 < D) → ys.length ≤ vs.length → J vs.length ys → s.heap.StaysIn h' → Q (.ref D) { s with heap := h', toks := tk })) : LcGoHeld prog w A G env scope cl x ifs elt e J Q (.ref l) s
theorem lc_overHeld {e : Addr} {x : Str} {px pos : Pos} {elt iter : Expr} {ifs : List Expr} {scope : Scope} {cl : List (Str × Addr)} {Q : Value → Shared → Prop} (J : Nat → List Value → Prop)
    (hclos : closureFor scope env = pure cl) (hcell : ∀ y ∈ scope.names, y.2 ≠ .cell) (hkind : scope.kind = .function)
    (hnames : ∀ y ∈ scope.names, y.2 = .local → scope.names.lookup y.1 = some .local) (hx : scope.names.lookup x = some .local) (hh : A.handled = some (.ref e)) (hj : J 0 [])
    (h : wpAny (model prog w) A (eval iter env) (LcGoHeld prog w A G env scope cl x ifs elt e J Q) E s)
    (hs : ∀ x, foldedSetIterable iter env x = pure x := by intro _; rfl) :
    wpAny (model prog w) A (eval (.ListComp elt [⟨.Name x px, iter, ifs, 0⟩] scope pos) env) Q E s := by
  refine lc_inv (fun i ys _ => J i ys) (fun _ _ _ _ _ x => x) hclos hcell hkind hnames (wpAny_mono h (fun r s h₁ => ?_) fun _ _ e => e) hs
  obtain ⟨l, vs, m, news, hl, hc, F, N, hsz, turn, done⟩ := h₁
  refine wpAny_pyIter_list hl ?_
  have hllt : @LT.lt Nat _ l s.heap.objs.size := by obtain ⟨o, ho, _⟩ := hl; exact Heap.lt_size ho
  have helt : @LT.lt Nat _ e s.heap.objs.size := by obtain ⟨o, vs, ho, _⟩ := hc; exact Heap.lt_size ho
  have W := walks_list_held (prog := prog) (w := w) (A := A) hh s.heap.objs.size l (Nat.ne_of_lt hllt) (Nat.ne_of_lt helt) vs.toArray
  rw [show vs.toArray.size = vs.length by simp] at W
  refine ⟨s.heap.objs.size, [s.heap.objs.size, l, e], [s.heap.objs.size], vs.length, _, _, fun C => LcSrc.name W (lookup_relabel_local hx) (by simp [compEnvC, relabel, hkind]), hsz, ⟨⟨⟨_, Heap.get?_push_size _ rfl, rfl, rfl⟩, hl.push _⟩, NoCtx.push _ _ hc⟩, fun b hb => ?_, hj, ?_, ?_⟩
  · rw [Heap.size_push]
    simp only [List.mem_cons, List.not_mem_nil, or_false] at hb
    rcases hb with rfl | rfl | rfl
    · exact Nat.lt_succ_self _
    · exact Nat.lt_succ_of_lt hllt
    · exact Nat.lt_succ_of_lt helt
  · rintro C D i ys h tk m' hC hD _ hi hy ⟨v, hv, hm⟩ hn st hJ E'
    exact turn C i v ys h tk m' E' (by simpa using hv) hy hJ (stays_wr rfl st) hn hm
  · intro D C h' tk ys hC hD hDC hpl hy hJ hk
    have st' : s.heap.StaysIn h' := fun b ob e => hk b ob (fun q => by have := Heap.lt_size e; rw [List.mem_singleton.mp q] at this; exact Nat.lt_irrefl _ this) (Heap.get?_push_of_some _ e)
    obtain ⟨k, hk'⟩ := hpl
    have hDs : s.heap.objs.size ≤ D := by rw [Heap.size_push] at hD; exact Nat.le_of_succ_le hD
    have F' := frStays F st'
    have N' := newsStays N st'
    exact done D h' tk ys k F' (newsAdd F N' hDs hk') (fun p hp => Nat.lt_of_lt_of_le (Heap.lt_size (N p hp).1) hDs) hy hJ st'
end
end

section
open PySem PySem.W PySem.Calls PyProof.Rows PySem.Spec PyProof.V
noncomputable abbrev bndEs (q1 q2 q3 : Int) (k1 k2 k3 : Tok) (U bl nd : Addr) : List DictEntry := [⟨q1, .str "universe" k1, .ref U⟩, ⟨q2, .str "bounds" k2, .ref bl⟩, ⟨q3, .str "numbers" k3, .ref nd⟩]
noncomputable abbrev bndL (B Bd bl nd U : Addr) (q1 q2 q3 : Int) (k1 k2 k3 : Tok) (kb : Nat) (ond : Obj) : List (Addr × Obj) := [(nd, ond), (bl, listOf #[] kb), (B, instObj 192 Bd), (Bd, dictOf (bndEs q1 q2 q3 k1 k2 k3 U bl nd) 3)]
set_option maxHeartbeats 4000000 in
theorem binit_call {w : World} {A : Around} {base G : Heap} {envs : List Env} {mean : ExcName → Option Value} {mg mb : Str → Option Value} {s : Shared} {R : Result → Shared → Prop}
    {B Bd U : Addr}
    (H : At w A base envs mean mg mb G s) (hd : A.depth ≤ 440) (hu : A.units ≤ 400)
    (hN : ∀ p ∈ [(B, instObj 192 Bd), (Bd, dictOf [] 0)], s.heap.get? p.1 = some p.2 ∧ G.get? p.1 = none) (hB : @LT.lt Nat _ Bd B)
    (ok : ∀ bl nd q1 q2 q3 k1 k2 k3 kb ond h' tk', G.StaysIn h' → News G s.heap.objs.size h' (bndL B Bd bl nd U q1 q2 q3 k1 k2 k3 kb ond) → (nd == sysModules) = false → ond.IsDictOf (strKind Challenge.pw_nu0267_01 w) [] → FlatPairs PyData.str ([] : List (Str × Value)) [] → (bl < nd ∧ B < nd ∧ Bd < nd) → (B < bl ∧ Bd < bl) → R (.ok (.ret .none)) { s with heap := h', toks := tk' }) :
    codeAny (model Challenge.pw_nu0267_01 w) A (.call (.ref 133) ⟨[.ref B, .ref U], []⟩) R s := by
  revert hd hu
  refine At.lit (P := fun A => (A.depth ≤ _) → (A.units ≤ _) → codeAny _ A _ _ _) H fun dp gd un H hd hu => ?_
  dsimp only at hd hu
  k_dflt (refine' enter (binds := [(Str.ofString "self", .ref B), (Str.ofString "universe", .ref U)]) H hN ?ho ?hcd ?hroom ?hbind ?hloc ?_ ?hcell ?hco ?hgen ?hk)
  case ho => k_is
  case hcd => k_is
  case hroom => k_room
  case hbind => exact BindsTo.of_eq rfl
  case hloc => exact locs rfl
  case hcell => decide
  case hco => exact rfl
  case hgen => exact rfl
  case hk => exact rfl
  intro L' h₁ env0 M0 F N B' X T' hs hL
  (try dsimp only); (try ((show wpAny _ _ _ _ _ _); k_fold))
  k_steps
  (rename Fr _ _ _ _ => F2)
  (rename News _ _ _ _ => N2)
  subst hL
  (rename _ < _ ∧ _ < _ ∧ _ < _ ∧ True => z3)
  (rename _ < _ ∧ _ < _ ∧ True => z2)
  refine ok _ _ _ _ _ _ _ _ _ _ _ _ F2.keep N2 (by assumption) (by assumption) (by assumption) ⟨z3.1, z3.2.1, z3.2.2.1⟩ ⟨z2.1, z2.2.1⟩
/-- a Bounds made in a frame's words -/
theorem bounds_use {w : World} {A : Around} {base G : Heap} {envs : List Env} {mean : ExcName → Option Value} {mg mb : Str → Option Value} {s : Shared} {env : Env} {L : Addr} {m : Str → Option Value} {news : List (Addr × Obj)} {Q E : Value → Shared → Prop} {U : Addr}
    (F : Fr G L s.heap m) (N : News G L s.heap news) (B : Below A base envs G) (X : (Mine.hd.heap_39 w.params).In G) (T : Top Mine.hd.view_39 (looseW Mine.hd.view_39 []) mean mg mb G) (hh : A.handled = none) (hf : env.frame = some L) (hk : env.scope.kind = .function)
    (hd : (A.deeper env).depth ≤ 430) (hu : (A.deeper env).units ≤ 390)
    (k : ∀ Bn Bd bl nd q1 q2 q3 k1 k2 k3 kb ond h' tk', Fr G L h' m → News G L h' (bndL Bn Bd bl nd U q1 q2 q3 k1 k2 k3 kb ond ++ news) → (∀ p ∈ news, p.1 < Bd) → @LT.lt Nat _ Bd Bn → (nd == sysModules) = false → ond.IsDictOf (strKind Challenge.pw_nu0267_01 w) [] → FlatPairs PyData.str ([] : List (Str × Value)) [] → (bl < nd ∧ Bn < nd ∧ Bd < nd) → (Bn < bl ∧ Bd < bl) → Q (.ref Bn) { s with heap := h', toks := tk' }) :
    wpAny (model Challenge.pw_nu0267_01 w) (A.deeper env) (call (.ref 192) [.ref U]) Q E s := by
  k_dflt (refine' call_cls (fI := 133) F X N ?m ?i ?f ?_)
  case m => k_is
  case i => k_is
  case f => k_is
  intro x dx h2 F2 N2 l1 l2
  have hW : ∀ a ∈ [x, dx], G.get? a = none ∧ a ≠ L := fun a ha => by
    rcases List.mem_cons.mp ha with rfl | ha
    · exact ⟨(N2 _ (.head _)).2.2, (N2 _ (.head _)).2.1⟩
    · rw [List.mem_singleton.mp ha]; exact ⟨(N2 _ (.tail _ (.head _))).2.2, (N2 _ (.tail _ (.head _))).2.1⟩
  refine binit_call (At.under1 (callee_at [x, dx] B X T hh F2 hf hk hW) rfl hh) (by rw [depth_under_make]; omega) (by rw [units_under_make]; omega) (fun p hp => ?_) l2 ?_
  · simp only [List.mem_cons, List.not_mem_nil, or_false] at hp
    rcases hp with rfl | rfl
    · exact ⟨(N2 _ (.head _)).1, hideAll_none _ (.head _)⟩
    · exact ⟨(N2 _ (.tail _ (.head _))).1, hideAll_none _ (.tail _ (.head _))⟩
  intro bl nd q1 q2 q3 k1 k2 k3 kb ond h3 tk3 kS N3 lo hdi hfl a1 a2
  refine ⟨rfl, ?_⟩
  have hns : ∃ o, (hideAll h2 [x, dx]).get? L = some o := by
    obtain ⟨o, es, ep, e, _⟩ := F2.ns
    exact ⟨o, hideAll_get _ e fun q => (hW L q).2 rfl⟩
  obtain ⟨oL, eL⟩ := hns
  refine k x dx bl nd q1 q2 q3 k1 k2 k3 kb ond h3 _ (frBehind F2 hW kS) (fun p hp => ?_) l1 l2 lo hdi hfl a1 a2
  rcases List.mem_append.mp hp with hp | hp
  · refine ⟨(N3 p hp).1, fun q => ?_, ?_⟩
    · have := (N3 p hp).2.2
      rw [q, eL] at this; cases this
    · cases q : G.get? p.1 with
      | none => rfl
      | some o =>
        have := (N3 p hp).2.2
        rw [hideAll_get _ (F2.keep _ _ q) fun q' => by rw [(hW _ q').1] at q; cases q] at this; cases this
  · exact newsBehind N2 (.tail _ (.tail _ hp)) kS fun q => by
      have h1 : @LT.lt Nat _ p.1 dx := l1 p hp
      rcases List.mem_cons.mp q with q | q
      · exact Nat.lt_irrefl _ (Nat.lt_trans (q ▸ h1) l2)
      · exact Nat.lt_irrefl _ (List.mem_singleton.mp q ▸ h1)
end

section
open PySem PySem.W PySem.Calls PyProof.Rows PySem.Spec PyProof.V
local macro_rules | `(tactic| walk_at $s) => Mine.red [("leaving ref", "m")] s
theorem raise_outI {M : Model} {A : Around} {E : Value → Shared → Prop} {s' : Shared} {base G h : Heap} {envs : List Env} {L e : Addr} {m : Str → Option Value} {env : Env} {Q : Unit → Shared → Prop} {news : List (Addr × Obj)} {a0 : Value} {dd : Option Addr}
    (k : h.StaysIn s'.heap) (K : Below A base envs G) (F : Fr G L h m) (N : News G L h news) (hf : env.frame = some L) (hk : env.scope.kind = .function) (hen : h.get? e = none)
    (he : s'.heap.get? e = some { cls := .ref 53, dict := dd, data := .fields #[a0, .none, .none, .none, .bool false, .none] })
    (hQ : ∀ h', Fly (bare G envs) envs e h' → G.UpToSlots h' → NoCtx e h' → (∀ p ∈ news, h'.get? p.1 = some p.2) → Q () { s' with heap := h' }) :
    wpAny M (A.deeper env) (leaving env (.ref e)) Q E s' := by
  have q := raise_out (M := M) (A := A) (E := E) (Q := fun _ s'' => ∃ h', s'' = { s' with heap := h' } ∧ Fly (bare G envs) envs e h' ∧ G.UpToSlots h' ∧ ∀ p ∈ news, h'.get? p.1 = some p.2) k K F N hf hk hen he fun h' f u l => ⟨h', rfl, f, u, l⟩
  refine wpAny_mono ((quiet_leaving (e := e) _ _).wpAny NoCtx.push ⟨_, _, he, rfl, rfl⟩ q) (fun _ s'' x => ?_) fun _ _ x => x.1
  obtain ⟨⟨h', rfl, f, u, l⟩, c⟩ := x
  exact hQ h' f u c l
noncomputable abbrev uniD (U Ud T D : Addr) (q4 q5 : Int) (k4 k5 : Tok) (names : List Value) (ond : Obj) : List (Addr × Obj) := (D, ond) :: uniL U Ud T D q4 q5 k4 k5 names
set_option maxHeartbeats 4000000 in
theorem atom_no_call {w : World} {A : Around} {base G : Heap} {envs : List Env} {mean : ExcName → Option Value} {mg mb : Str → Option Value} {s : Shared} {Q E : Value → Shared → Prop}
    {U Ud T D : Addr} {q4 q5 : Int} {k4 k5 : Tok} {names : List Value} {ond : Obj} {kvs : List (Str × Value)} {Dn : List (PyData × PyData)} {x : Str} {u : Tok}
    (H : At w A base envs mean mg mb G s) (hd : A.depth ≤ 430) (hu : A.units ≤ 300) (hN : ∀ p ∈ uniD U Ud T D q4 q5 k4 k5 names ond, s.heap.get? p.1 = some p.2 ∧ G.get? p.1 = none)
    (lo : (D == sysModules) = false) (di : ond.IsDictOf (strKind Challenge.pw_nu0267_01 w) kvs) (fl : FlatPairs PyData.str kvs Dn) (hx : x.length ≤ 100) (hno : (lookup (.str x) Dn).isSome = false)
    (no : ∀ e h' tk', Fly (bare G envs) envs e h' → G.UpToSlots h' → NoCtx e h' → (∀ p ∈ uniD U Ud T D q4 q5 k4 k5 names ond, h'.get? p.1 = some p.2) → E (.ref e) { s with heap := h', toks := tk' }) :
    wpAny (model Challenge.pw_nu0267_01 w) A (call (.ref 102) [.ref U, .str x u]) Q E s := by
  revert hd hu
  refine At.lit (P := fun A => (A.depth ≤ _) → (A.units ≤ _) → wpAny _ A _ _ _ _) H fun dp gd un H hd hu => ?_
  dsimp only at hd hu
  refine wpAny_call ?_
  k_dflt (refine' enter (binds := [(Str.ofString "self", .ref U), (Str.ofString "name", .str x u)]) H hN ?ho ?hcd ?hroom ?hbind ?hloc ?_ ?hcell ?hco ?hgen ?hk)
  case ho => k_is
  case hcd => k_is
  case hroom => k_room
  case hbind => exact BindsTo.of_eq rfl
  case hloc => exact locs rfl
  case hcell => decide
  case hco => exact rfl
  case hgen => exact rfl
  case hk => exact rfl
  intro L' h₁ env0 M0 F N B X T hs hL
  (try dsimp only); (try ((show wpAny _ _ _ _ _ _); k_fold))
  have INt : ∀ {h h' : Heap} {m : Str → Option Value}, Fr G L' h m → h.StaysIn h' → (Mine.hd.heap_39 w.params).In h' := fun F k => Frag.In.keeps (Frag.In.keeps X (Fr.keep F)) k
  k_steps
  · exact INt (by assumption) (by assumption)
  · refine unhaltB ?_
    refine raise_outI (by assumption) B F N rfl rfl (by assumption) (by assumption) fun h8 f8 u8 c8 l8 => ?_
    exact no _ _ _ f8 u8 c8 l8
/-- what a call finds, an exception being handled or not -/
structure AtN (w : World) (A : Around) (base : Heap) (envs : List Env) (mean : ExcName → Option Value) (mg mb : Str → Option Value) (G : Heap) (s : Shared) : Prop where
  below : Below A base envs G
  stays : G.StaysIn s.heap
  size : G.objs.size ≤ s.heap.objs.size
  kin : (Mine.hd.heap_39 w.params).In G
  top : Top Mine.hd.view_39 (looseW Mine.hd.view_39 []) mean mg mb G
theorem enterN {w : World} {A : Around} {base G : Heap} {envs : List Env} {mean : ExcName → Option Value} {mg mb : Str → Option Value} {s : Shared} {news : List (Addr × Obj)}
    {R : Result → Shared → Prop} {name qual : Str} {params : Arguments} {body : List Stmt} {scope : Scope} {dV kV doc pm cdv ct oc : Value} {an od : Option Addr} {osl : Array (Option Value)} {f : Addr} {args : Args} {binds : List (Str × Value)}
    (H : AtN w A base envs mean mg mb G s) (hN : ∀ p ∈ news, s.heap.get? p.1 = some p.2 ∧ G.get? p.1 = none)
    (ho : (Mine.hd.heap_39 w.params).lookup f = some ⟨oc, od, .func (fnOf name qual params body scope dV kV doc pm an cdv ct), osl⟩) (hcd : codeIn (Mine.hd.heap_39 w.params) cdv qual = true) (hroom : A.depth < recursionLimit)
    (hbind : BindsTo s (fnOf name qual params body scope dV kV doc pm an cdv ct) args binds) (hloc : ∀ y ∈ binds, scope.names.lookup y.1 = some .local)
    (h : ∀ L' h₁, let env0 := envOf qual scope L' f cdv; let M0 : Str → Option Value := fun y => binds.reverse.lookup y; Fr G L' h₁ M0 → News G L' h₁ news → Below A base envs G → (Mine.hd.heap_39 w.params).In G → Top Mine.hd.view_39 (looseW Mine.hd.view_39 []) mean mg mb G →
      wpAny (model Challenge.pw_nu0267_01 w) (A.deeper env0) (execs body env0)
        (fun fl s' => R (.ok (.ret (match fl with | .ret v => v | _ => .none))) s')
        (fun e s' => wpAny (model Challenge.pw_nu0267_01 w) (A.deeper env0) (leaving env0 e) (fun _ s'' => R (.error e) s'') (fun e' s'' => R (.error e') s'') s')
        { s with heap := h₁, toks := s.toks + binds.length })
    (hcell : ∀ x ∈ scope.names, x.2 ≠ .cell) (hco : scope.isCoroutine = false) (hgen : scope.isGenerator = false) (hk : scope.kind = .function) :
    codeAny (model Challenge.pw_nu0267_01 w) A (.call (.ref f) args) R s := by
  have X : (Mine.hd.heap_39 w.params).In s.heap := H.kin.keeps H.stays
  refine codeAny_call_def (fd := fnOf name qual params body scope dV kV doc pm an cdv ct) (body := body) (binds := binds) hroom (X _ _ ho) rfl (H.top.nolimit.keeps H.stays) (codeRec_of X hcd) rfl hbind hcell hloc (fun h₁ hns hk₁ => ?_) hco hgen hk
  exact h _ h₁ ⟨hns, fun b o e => hk₁ b o (H.stays b o e), H.size⟩ (fun p hp => ⟨hk₁ _ _ (hN p hp).1, Nat.ne_of_lt (Heap.lt_size (hN p hp).1), (hN p hp).2⟩) H.below H.kin H.top
set_option maxHeartbeats 4000000 in
theorem atom_ok_call {w : World} {A : Around} {base G : Heap} {envs : List Env} {mean : ExcName → Option Value} {mg mb : Str → Option Value} {s : Shared} {Q E : Value → Shared → Prop}
    {U Ud T D : Addr} {q4 q5 : Int} {k4 k5 : Tok} {names : List Value} {ond : Obj} {kvs : List (Str × Value)} {Dn : List (PyData × PyData)} {x : Str} {u : Tok} {i : Int}
    (H : AtN w A base envs mean mg mb G s) (hd : A.depth ≤ 430) (hu : A.units ≤ 300) (hN : ∀ p ∈ uniD U Ud T D q4 q5 k4 k5 names ond, s.heap.get? p.1 = some p.2 ∧ G.get? p.1 = none)
    (lo : (D == sysModules) = false) (di : ond.IsDictOf (strKind Challenge.pw_nu0267_01 w) kvs) (fl : FlatPairs PyData.str kvs Dn) (hx : x.length ≤ 100) (hi : lookup (.str x) Dn = some (.int i))
    (ok : ∀ t h' tk', G.StaysIn h' → (∀ p ∈ uniD U Ud T D q4 q5 k4 k5 names ond, h'.get? p.1 = some p.2) → Q (.int i t) { s with heap := h', toks := tk' }) :
    wpAny (model Challenge.pw_nu0267_01 w) A (call (.ref 102) [.ref U, .str x u]) Q E s := by
  obtain ⟨hnd, dp, fr, gd, un⟩ := A
  obtain rfl : fr = some envs := H.below.stack
  dsimp only at hd hu
  have hin : (lookup (.str x) Dn).isSome = true := by rw [hi]; rfl
  refine wpAny_call ?_
  k_dflt (refine' enterN (binds := [(Str.ofString "self", .ref U), (Str.ofString "name", .str x u)]) H hN ?ho ?hcd ?hroom ?hbind ?hloc ?_ ?hcell ?hco ?hgen ?hk)
  case ho => k_is
  case hcd => k_is
  case hroom => k_room
  case hbind => exact BindsTo.of_eq rfl
  case hloc => exact locs rfl
  case hcell => decide
  case hco => exact rfl
  case hgen => exact rfl
  case hk => exact rfl
  intro L' h₁ env0 M0 F N B X T
  (try dsimp only); (try ((show wpAny _ _ _ _ _ _); k_fold))
  k_steps
  exact ok _ _ _ F.keep fun p hp => (N p hp).1
set_option maxHeartbeats 4000000 in
theorem name_call {w : World} {A : Around} {base G : Heap} {envs : List Env} {mean : ExcName → Option Value} {mg mb : Str → Option Value} {s : Shared} {Q E : Value → Shared → Prop}
    {U Ud T D : Addr} {q4 q5 : Int} {k4 k5 : Tok} {names : List Value} {j : Nat} {u : Tok} {v : Value}
    (H : At w A base envs mean mg mb G s) (hd : A.depth ≤ 430) (hu : A.units ≤ 300) (hN : ∀ p ∈ uniL U Ud T D q4 q5 k4 k5 names, s.heap.get? p.1 = some p.2 ∧ G.get? p.1 = none)
    (hj : names[j]? = some v) (h9 : j < 9)
    (ok : ∀ h' tk', G.StaysIn h' → (∀ p ∈ uniL U Ud T D q4 q5 k4 k5 names, h'.get? p.1 = some p.2) → Q v { s with heap := h', toks := tk' }) :
    wpAny (model Challenge.pw_nu0267_01 w) A (call (.ref 95) [.ref U, .int j u]) Q E s := by
  revert hd hu
  refine At.lit (P := fun A => (A.depth ≤ _) → (A.units ≤ _) → wpAny _ A _ _ _ _) H fun dp gd un H hd hu => ?_
  dsimp only at hd hu
  refine wpAny_call ?_
  k_dflt (refine' enter (binds := [(Str.ofString "self", .ref U), (Str.ofString "a", .int j u)]) H hN ?ho ?hcd ?hroom ?hbind ?hloc ?_ ?hcell ?hco ?hgen ?hk)
  case ho => k_is
  case hcd => k_is
  case hroom => k_room
  case hbind => exact BindsTo.of_eq rfl
  case hloc => exact locs rfl
  case hcell => decide
  case hco => exact rfl
  case hgen => exact rfl
  case hk => exact rfl
  intro L' h₁ env0 M0 F N B X T hs hL
  (try dsimp only); (try ((show wpAny _ _ _ _ _ _); k_fold))
  k_steps
  refine tup_at (N _ (.tail _ (.tail _ (.head _)))).1 (j := j) rfl (by omega) (by simpa using hj) ?_
  k_steps
  exact ok _ _ F.keep fun p hp => (N p hp).1
end

section
open PySem PySem.W PySem.Calls PyProof.Rows PySem.Spec PyProof.V
section
variable {w : World} {A₀ : Around} {E : Value → Shared → Prop} {s' : Shared} {g h B : Heap} {outer : List Env} {L a e : Addr} {m : Str → Option Value} {name : Str} {scope : Scope} {cd : Value}
  {b₀ : Stmt} {suite : List Stmt} {pos np : Pos} {rest : List ExceptHandler} {Q : Flow → Shared → Prop} {news : List (Addr × Obj)}
  {mean : ExcName → Option Value} {mg mb : Str → Option Value}
theorem caughtC (hA : A₀.frames = some outer) (F : Fr g L h m) (hsm : h.UpToSlots s'.heap) (R : Fly B (envOfC name scope L a cd :: outer) e s'.heap) (hc : NoCtx e s'.heap) (hB : g.StaysIn B)
    (hl : ∀ p ∈ news, B.get? p.1 = some p.2 ∧ g.get? p.1 = none) (X : (Mine.hd.heap_39 w.params).In g) (T : Top Mine.hd.view_39 (looseW Mine.hd.view_39 []) mean mg mb g)
    (k : ∀ h', Fr g L h' m → News g L h' news → h'.FunFrames g outer → s'.heap.UpToSlots h' → NoCtx e h' →
      wpAny (model Challenge.pw_nu0267_01 w) ((A₀.deeper (envOfC name scope L a cd)).mark (some (.ref e))) (execs (b₀ :: suite) (envOfC name scope L a cd)) Q E { s' with heap := h' })
    (hk : scope.kind = .function := by rfl) (hx : (envOfC name scope L a cd).kindOf "BoundFault" = some .globalImplicit := by rfl)
    (hE : PassesOwnAt (model Challenge.pw_nu0267_01 w) ((A₀.deeper (envOfC name scope L a cd)).mark (some (.ref e))) (A₀.deeper (envOfC name scope L a cd)) (envOfC name scope L a cd) E) :
    wpAny (model Challenge.pw_nu0267_01 w) (A₀.deeper (envOfC name scope L a cd)) (noteFrame (.ref e) (envOfC name scope L a cd))
      (fun _ s₂ => wpAny (model Challenge.pw_nu0267_01 w) (A₀.deeper (envOfC name scope L a cd)) (setFlight (.ref e) none) (fun _ s₃ =>
        wpAny (model Challenge.pw_nu0267_01 w) (A₀.deeper (envOfC name scope L a cd)) (handleBy (.ref e) (envOfC name scope L a cd) (.ExceptHandler (some (.Name "BoundFault" np)) none (b₀ :: suite) pos :: rest)) Q E s₃) E s₂) E s' := by
  obtain ⟨a0, hfl⟩ := R
  have hL : B.get? L = none := by
    obtain ⟨_, ⟨L', _, hf, hn', _⟩, _⟩ := hfl.2.2.1
    obtain rfl : L = L' := Option.some.inj hf
    exact hn'
  have q1 := wpAny_looks_onW (M := model Challenge.pw_nu0267_01 w) (E := E) (Q := fun _ s₂ => ∃ h₄, s₂ = { s' with heap := h₄ } ∧ Heap.HeldW B (envOfC name scope L a cd :: outer) e (.ref 53) a0 L h₄ ∧ s'.heap.UpToSlots h₄) (Around.frames_deeper (env := envOfC name scope L a cd) hA) rfl hfl fun h₄ x y => ⟨h₄, rfl, x, y⟩
  refine wpAny_mono ((quiet_note (e := e) _ _).wpAny NoCtx.push hc q1) (fun _ s₂ x => ?_) fun _ _ x => x.1
  obtain ⟨⟨h₄, rfl, hheld₄, hsm₄⟩, c₄⟩ := x
  have q2 := wpAny_landsW (M := model Challenge.pw_nu0267_01 w) (A := A₀.deeper (envOfC name scope L a cd)) (s := { s' with heap := h₄ }) (E := E) (Q := fun _ s₂ => ∃ h₅, s₂ = { s' with heap := h₅ } ∧ Heap.FlyingW B (envOfC name scope L a cd :: outer) e (.ref 53) a0 h₅ ∧ h₄.UpToSlots h₅) hheld₄ fun h₅ x y => ⟨h₅, rfl, x, y⟩
  refine wpAny_mono ((quiet_flight (e := e) _ _).wpAny NoCtx.push c₄ q2) (fun _ s₂ x => ?_) fun _ _ x => x.1
  obtain ⟨⟨h₅, rfl, hheld, hsm₅'⟩, c₅⟩ := x
  have hsm₅ := hsm₄.trans hsm₅'
  have hheld' := flyingW_base hB hheld
  have F₅ := F.of_stays hheld'.1 (hsm.trans hsm₅)
  obtain ⟨ob, hob, hobc⟩ := hheld'.there
  refine wpAny_handleBy_cons (codeAny_handlers_test ?_) (by intro q; cases q)
  k_dflt (refine' nameX_K (v := .ref 53) F₅ X (topRead_of T) ?hn ?k1 hk hx (by decide))
  case hn => k_is
  case k1 =>
    obtain ⟨hh, gs, d, tk, os⟩ := s'
    k_dflt (refine' wpAny_excMatches_sub_self ((X.keeps F₅.keep) 53 _ ?hC) hob hobc ?hB (codeAny_handlers_suite ?k2))
    case hC => k_is
    case hB => decide +kernel
    case k2 =>
      have q3 := fun E' => lands_againW (M := model Challenge.pw_nu0267_01 w) (A := (A₀.deeper (envOfC name scope L a cd)).mark (some (.ref e))) (s := ⟨h₅, gs, d, tk, os⟩) (E := E') (Q := fun _ s₂ => ∃ h₆, s₂ = ⟨h₆, gs, d, tk, os⟩ ∧ Heap.FlyingW B (envOfC name scope L a cd :: outer) e (.ref 53) a0 h₆ ∧ h₅.UpToSlots h₆) hheld fun h₆ x y => ⟨h₆, rfl, x, y⟩
      refine wpAny_mono ((quiet_flight (e := e) _ _).wpAny NoCtx.push c₅ (q3 _)) (fun _ s₂ x => ?_) fun _ _ x => x.1
      obtain ⟨⟨h₆, rfl, hfl₆, hsm₆⟩, c₆⟩ := x
      have hfl₆' := flyingW_base hB hfl₆
      have F₆ := F.of_stays hfl₆'.1 ((hsm.trans hsm₅).trans hsm₆)
      exact wpAny_passesOwnAt hE (k h₆ F₆ (fun q hq => ⟨hfl₆.1 _ _ (hl q hq).1, (fun z => by have := (hl q hq).1; rw [z, hL] at this; cases this), (hl q hq).2⟩) (funFrames_base hB hfl₆.2.2.1.2.2) (hsm₅.trans hsm₆) c₆)
end
theorem catch_hereC {w : World} {A₀ : Around} {E : Value → Shared → Prop} {s' : Shared} {base G h : Heap} {envs : List Env} {L a e : Addr} {m : Str → Option Value} {name : Str} {scope : Scope} {cd : Value}
    {b₀ : Stmt} {suite : List Stmt} {pos np : Pos} {rest : List ExceptHandler} {Q : Flow → Shared → Prop} {news : List (Addr × Obj)} {mean : ExcName → Option Value} {mg mb : Str → Option Value}
    (K : Below A₀ base envs G) (XB : (Mine.hd.heap_39 w.params).In base) (TB : Top Mine.hd.view_39 (looseW Mine.hd.view_39 []) mean mg mb base) (F : Fr G L h m) (N : News G L h news)
    (R : Fly (bare h (envOfC name scope L a cd :: envs)) (envOfC name scope L a cd :: envs) e s'.heap) (u : h.UpToSlots s'.heap) (c : NoCtx e s'.heap)
    (k : ∀ h', Fr (bare G envs) L h' m → News (bare G envs) L h' news → G.UpToSlots h' → h'.FunFrames (bare G envs) envs → NoCtx e h' → (Mine.hd.heap_39 w.params).In (bare G envs) → Top Mine.hd.view_39 (looseW Mine.hd.view_39 []) mean mg mb (bare G envs) →
      wpAny (model Challenge.pw_nu0267_01 w) ((A₀.deeper (envOfC name scope L a cd)).mark (some (.ref e))) (execs (b₀ :: suite) (envOfC name scope L a cd)) Q E { s' with heap := h' })
    (hk : scope.kind = .function := by rfl) (hx : (envOfC name scope L a cd).kindOf "BoundFault" = some .globalImplicit := by rfl)
    (hE : PassesOwnAt (model Challenge.pw_nu0267_01 w) ((A₀.deeper (envOfC name scope L a cd)).mark (some (.ref e))) (A₀.deeper (envOfC name scope L a cd)) (envOfC name scope L a cd) E) :
    wpAny (model Challenge.pw_nu0267_01 w) (A₀.deeper (envOfC name scope L a cd)) (noteFrame (.ref e) (envOfC name scope L a cd))
      (fun _ s₂ => wpAny (model Challenge.pw_nu0267_01 w) (A₀.deeper (envOfC name scope L a cd)) (setFlight (.ref e) none) (fun _ s₃ =>
        wpAny (model Challenge.pw_nu0267_01 w) (A₀.deeper (envOfC name scope L a cd)) (handleBy (.ref e) (envOfC name scope L a cd) (.ExceptHandler (some (.Name "BoundFault" np)) none (b₀ :: suite) pos :: rest)) Q E s₃) E s₂) E s' := by
  have st := bare_stays (env := envOfC name scope L a cd) K F rfl
  have X := XB.keeps (base_bare K)
  have T := TB.keeps (base_bare K)
  refine caughtC (g := bare G envs) (m := m) (news := news) K.stack (frLow F bare_up (Nat.le_of_eq (hideAll_size _ _))) u R c st (fun p hp => ⟨bare_get (N p hp).1 ?_, ?_⟩) X T (fun h' F' N' ff u' c' => k h' F' N' (Heap.UpToSlots.trans (Heap.UpToSlots.trans (Heap.UpToSlots.of_keeps F.keep) u) u') ff c' X T) hk hx hE
  · rw [List.filterMap_cons_some (show (envOfC name scope L a cd).frame = some L from rfl)]
    exact notFrame K N hp
  · cases q : (bare G envs).get? p.1 with
    | none => rfl
    | some o => have := (N p hp).2.2; rw [bare_of q] at this; cases this
theorem atHeld {w : World} {A : Around} {base G h h5 : Heap} {envs : List Env} {mean : ExcName → Option Value} {mg mb : Str → Option Value} {s : Shared} {env : Env} {L : Addr} {m : Str → Option Value} {news sub : List (Addr × Obj)} {hd : Option Value}
    (K : Below A base envs G) (N5 : News G L h5 news) (F : Fr (bare G envs) L s.heap m) (N : News (bare G envs) L s.heap news) (ff : h.FunFrames (bare G envs) envs) (k : h.StaysIn s.heap) (hs : ∀ p ∈ sub, p ∈ news) (XB : (Mine.hd.heap_39 w.params).In base) (TB : Top Mine.hd.view_39 (looseW Mine.hd.view_39 []) mean mg mb base) (hf : env.frame = some L) (hk : env.scope.kind = .function) :
    AtN w ((A.deeper env).mark hd) base (env :: envs) mean mg mb (hideAll s.heap (sub.map (·.1))) s := by
  have up := base_bare K
  have nosub : ∀ {a : Addr}, a ∈ sub.map (·.1) → a ∉ L :: envs.filterMap (·.frame) ∧ base.get? a = none := fun {a} ha => by
    obtain ⟨p, hp, rfl⟩ := List.mem_map.mp ha
    refine ⟨notFrame K N5 (hs p hp), ?_⟩
    cases q : base.get? p.1 with
    | none => rfl
    | some o => have := (N p (hs p hp)).2.2; rw [up _ _ q] at this; cases this
  have st : base.StaysIn (hideAll s.heap (sub.map (·.1))) := fun b o e => hideAll_get _ (F.keep b o (up b o e)) fun q => by rw [(nosub q).2] at e; cases e
  refine ⟨⟨Around.frames_deeper (env := env) K.stack, st, funFrames_hideAll ?_ fun env' he b hb hf' => (nosub hb).1 (frame_mem hf he hf')⟩, fun b o e => of_hideAll _ e, Nat.le_of_eq (hideAll_size _ _), XB.keeps st, TB.keeps st⟩
  obtain ⟨o, es, ep, ho, hdt, _⟩ := F.ns
  have hL : base.get? L = none := by
    cases q : base.get? L with
    | none => rfl
    | some ob => exact absurd (Heap.lt_size (up _ _ q)) (Nat.not_lt.mpr F.above)
  exact ⟨by rw [hk]; decide, ⟨L, o, hf, hL, ho, fun vs q => by rw [hdt] at q; cases q⟩, funFrames_base up (ff.of_keeps fun b o e _ => ⟨o, k b o e, rfl⟩)⟩
end

section
open PySem PySem.W PySem.Calls PyProof.Rows PySem.Spec PyProof.V
theorem reads_strs {h : Heap} : ∀ {ys : List Value} {ns : List Str}, StrsOf ys ns → ReadsAll h ys (ns.map PyData.str) []
  | [], [], _ => .nil
  | [], _ :: _, h => by cases h.1
  | _ :: _, [], h => by cases h.1
  | v :: ys, n :: ns, h => by
    obtain ⟨t, rfl⟩ := StrsOf.head h
    exact .cons (as := []) (.str n t) (reads_strs h.tail)
theorem shaped_strs {nm : List Str} (h : ∀ x ∈ nm, (PyData.str x).canLay0 = true) : PySem.SeqAt.shaped (.list (nm.map PyData.str)) = true := by
  have k : ∀ {l : List Str}, (∀ x ∈ l, (PyData.str x).canLay0 = true) → PyData.canLayAll0 (l.map PyData.str) = true ∧ PyData.depthAll (l.map PyData.str) = 0 := by
    intro l
    induction l with
    | nil => exact fun _ => ⟨rfl, rfl⟩
    | cons x l ih =>
      intro h
      obtain ⟨a, b⟩ := ih fun y hy => h y (.tail _ hy)
      exact ⟨by rw [List.map_cons, PyData.canLayAll0, h x (.head _), a]; rfl, by rw [List.map_cons, PyData.depthAll, b]; rfl⟩
  exact shaped_of (by rw [PyData.canLay0]; exact (k h).1) (by rw [PyData.depth, (k h).2]; decide)
theorem eqv_strs : ∀ ns : List Str, PyData.eqvAll (ns.map PyData.str) (ns.map PyData.str) = true
  | [] => by simp [PyData.eqvAll]
  | n :: ns => by simp [PyData.eqvAll, PyData.eqv, eqv_strs ns]
theorem reads_nats {h : Heap} : ∀ (zs : List Value) (k : Nat), (∀ (j : Nat) z, zs[j]? = some z → ∃ t, z = .int ((k + j : Nat) : Int) t) → ReadsAll h zs ((List.range' k zs.length).map fun j : Nat => PyData.int (j : Int)) []
  | [], _, _ => .nil
  | z :: zs, k, hz => by
    obtain ⟨t, rfl⟩ := hz 0 z rfl
    exact .cons (as := []) (.int _ t) (reads_nats zs (k + 1) fun j y e => by
      obtain ⟨t, rfl⟩ := hz (j + 1) y (by simpa using e)
      exact ⟨t, by rw [show k + (j + 1) = k + 1 + j by omega]⟩)
theorem shaped_nats (l : List Nat) : PySem.SeqAt.shaped (.list (l.map fun j : Nat => PyData.int (j : Int))) = true := by
  have k : ∀ l : List Nat, PyData.canLayAll0 (l.map fun j : Nat => PyData.int (j : Int)) = true ∧ PyData.depthAll (l.map fun j : Nat => PyData.int (j : Int)) = 0 := by
    intro l
    induction l with
    | nil => exact ⟨rfl, rfl⟩
    | cons x l ih => exact ⟨by rw [List.map_cons, PyData.canLayAll0, ih.1]; rfl, by rw [List.map_cons, PyData.depthAll, ih.2]; rfl⟩
  exact shaped_of (by rw [PyData.canLay0]; exact (k l).1) (by rw [PyData.depth, (k l).2]; decide)
theorem eqv_nats : ∀ l : List Nat, PyData.eqvAll (l.map fun j : Nat => PyData.int (j : Int)) (l.map fun j : Nat => PyData.int (j : Int)) = true
  | [] => by simp [PyData.eqvAll]
  | n :: ns => by simp [PyData.eqvAll, PyData.eqv, eqv_nats ns]
set_option maxHeartbeats 4000000 in
theorem atoms_call {w : World} {A : Around} {base G : Heap} {envs : List Env} {mean : ExcName → Option Value} {mg mb : Str → Option Value} {s : Shared} {Q E : Value → Shared → Prop}
    {U Ud T D l : Addr} {q4 q5 : Int} {k4 k5 : Tok} {names : List Value} {nm : List Str} {ond : Obj} {kvs : List (Str × Value)} {Dn : List (PyData × PyData)}
    (H : At w A base envs mean mg mb G s) (XB : (Mine.hd.heap_39 w.params).In base) (TB : Top Mine.hd.view_39 (looseW Mine.hd.view_39 []) mean mg mb base) (hd : A.depth ≤ 420) (hu : A.units ≤ 260)
    (hN : ∀ p ∈ (D, ond) :: uniL U Ud T D q4 q5 k4 k5 names, s.heap.get? p.1 = some p.2 ∧ G.get? p.1 = none) (lo : (D == sysModules) = false) (di : ond.IsDictOf (strKind Challenge.pw_nu0267_01 w) kvs) (fl : FlatPairs PyData.str kvs Dn) (nu : NumsAre Dn nm)
    (hl : G.IsList l names.toArray) (hnm : NamesOk names nm) (hno : nm.Nodup) (hB : Str.ofString "B$0" ∉ nm)
    (ok : ∀ h' tk', (bare G envs).StaysIn h' → G.UpToSlots h' → (∀ p ∈ (D, ond) :: uniL U Ud T D q4 q5 k4 k5 names, h'.get? p.1 = some p.2) → Q (.bool true) { s with heap := h', toks := tk' }) :
    wpAny (model Challenge.pw_nu0267_01 w) A (call (.ref 251) [.ref U, .ref l]) Q E s := by
  revert hd hu
  refine At.lit (P := fun A => (A.depth ≤ _) → (A.units ≤ _) → wpAny _ A _ _ _ _) H fun dp gd un H hd hu => ?_
  dsimp only at hd hu
  refine wpAny_call ?_
  k_dflt (refine' enterC (binds := [(Str.ofString "universe", .ref U), (Str.ofString "names", .ref l)]) H hN ?ho ?hcd ?hroom ?hbind ?hkind ?hnd ?_ ?hco ?hgen ?hk)
  case ho => k_is
  case hcd => k_is
  case hroom => k_room
  case hbind => exact BindsTo.of_eq rfl
  case hkind => exact rfl
  case hnd => decide +kernel
  case hco => exact rfl
  case hgen => exact rfl
  case hk => exact rfl
  intro L' h₁ tk cells env0 M0 F N Y B X T' hs hL l1
  k_cells Y
  rename Obj => oc
  rename _ = Data.cell _ => dc
  replace dc : oc.data = .cell (some (.ref U)) := dc
  replace F : Fr G L' h₁ (fun y => if y = Str.ofString "names" then some (.ref l) else none) := F
  (try dsimp only [List.cons_append, List.nil_append] at N)
  (try dsimp only); (try ((show wpAny _ _ _ _ _ _); k_fold))
  k_steps
  have hn9 : names.length ≤ 9 := by rw [hnm.are.1]; exact hnm.few
  have hsU : ∀ {q1 q2 : Addr × Obj}, ∀ p ∈ uniL U Ud T D q4 q5 k4 k5 names, p ∈ q1 :: q2 :: uniL U Ud T D q4 q5 k4 k5 names := fun p hp => .tail _ (.tail _ hp)
  refine size_call (callee_at _ B X T' rfl F rfl rfl (led_out N hsU)) (by rw [depth_deeper]; dsimp only; omega) (by rw [units_deeper]; dsimp only; omega) (led_in N hsU) hn9 fun t h2 tk2 k2 kp2 => ?_
  have F2 := frStays F (led_stays N hsU k2 kp2)
  have N2 := newsStays N (led_stays N hsU k2 kp2)
  clear F N
  k_steps
  refine PyProof.Rows.len_list (hl.at fun o e => F2.keep _ o e) (by simp; omega) ?_
  rw [List.size_toArray]
  k_steps
  refine lc_overR (G := G) (cl := [(Str.ofString "universe", L' + 1)]) (fun i ys => ys.length = i ∧ ∀ (j : Nat) y, ys[j]? = some y → names[j]? = some y) rfl (by decide) rfl (by decide) rfl rfl ⟨rfl, fun j y e => by simp at e⟩ ?_
  k_steps
  refine PyProof.Rows.len_list (hl.at fun o e => F2.keep _ o e) (by simp; omega) ?_
  rw [List.size_toArray]
  k_steps
  refine ⟨_, names.length, _, _, _, _, _, by assumption, small_one (by omega) (by omega) (by omega) (by omega), by rw [rangeSize_nat]; omega, by assumption, by assumption, by rw [sizeLine_eq]; omega, ?turn, ?done⟩
  case turn =>
    intro C i ti ys h3 tk3 m3 E3 hi hyl hJ st3 hns3 hm3
    have F3 := frStays (by assumption) st3
    have N3 := newsStays (by assumption) st3
    refine lcTests_nil ?_
    k_steps
    obtain ⟨v, hv⟩ : ∃ v, names[i]? = some v := ⟨names[i], List.getElem?_eq_getElem hi⟩
    refine name_call (j := i) (callee_at _ B X T' rfl F3 rfl rfl (led_out N3 hsU)) (by rw [depth_deeper]; dsimp only; omega) (by rw [units_deeper]; dsimp only; omega) (led_in N3 hsU) hv (by omega) fun h4 tk4 k4 kp4 => ?_
    exact lcElt (led_stays N3 hsU k4 kp4) (snocJ (P := fun j y => names[j]? = some y) hJ hv)
  case done =>
    intro D5 h5 tk5 ys k5' F5 N5 lD5 hyl hJ st5 _
    have hys : ys = names := List.ext_getElem? fun j => by
      cases e : ys[j]? with
      | some y => exact (hJ.2 j y e).symm
      | none => rw [List.getElem?_eq_none_iff] at e; exact (List.getElem?_eq_none (by rw [← hJ.1]; exact e)).symm
    subst hys
    replace F5 : Fr G L' h5 (fun y => if y = Str.ofString "names" then some (.ref l) else none) := F5
    replace N5 : News G L' h5 _ := N5
    dsimp only
    k_steps
    have hlk := hl.at fun o e => F5.keep _ o e
    obtain ⟨o, ho, hoc, kk, hod⟩ := hlk
    have r1 : Reads h5 (.ref D5) (.list (nm.map PyData.str)) [D5] := .list (N5 _ (.head _)).1 rfl rfl (reads_strs hnm.are)
    have r2 : Reads h5 (.ref l) (.list (nm.map PyData.str)) [l] := .list ho hoc hod (by simpa using reads_strs hnm.are)
    refine ne_dataH r1 r2 (shaped_strs hnm.lay) (shaped_strs hnm.lay) (by rw [units_deeper, cLine_is]; dsimp only; omega) ?_
    rw [PyData.eqv, eqv_strs]
    replace N5 : News G L' h5 ((L' + 1, oc) :: (D, ond) :: uniL U Ud T D q4 q5 k4 k5 ys) := fun p hp => N5 p (.tail _ hp)
    k_steps
    refine wpAny_Try_except ?_
    k_steps
    have hsD : ∀ p ∈ uniD U Ud T D q4 q5 k4 k5 ys ond, p ∈ (L' + 1, oc) :: (D, ond) :: uniL U Ud T D q4 q5 k4 k5 ys := fun p hp => .tail _ hp
    have hnoB : (lookup (.str (Str.ofString "B$0")) Dn).isSome = false := by rw [nu.isSome]; exact decide_eq_false hB
    refine atom_no_call (callee_at _ B X T' rfl F5 rfl rfl (led_out N5 hsD)) (by rw [depth_deeper]; dsimp only; omega) (by rw [units_deeper]; dsimp only; omega) (led_in N5 hsD) lo di fl (by decide +kernel) hnoB fun e h6 tk6 f6 u6 c6 l6 => ?_
    have key : ∀ a ∈ (uniD U Ud T D q4 q5 k4 k5 ys ond).map (·.1), ∀ o, h5.get? a = some o → h6.get? a = some o ∧ CalmObj o := fun a ha o ho => by
      obtain ⟨p, hp, rfl⟩ := List.mem_map.mp ha
      have e1 := (N5 p (hsD p hp)).1
      rw [ho] at e1
      obtain rfl := Option.some.inj e1
      refine ⟨l6 p hp, ?_⟩
      simp only [uniD, uniL, List.mem_cons, List.not_mem_nil, or_false] at hp
      rcases hp with rfl | rfl | rfl | rfl
      · obtain ⟨es, ep, hx1, hd1, _⟩ := di
        exact ⟨(fun e => by rw [hx1.1] at e; cases e), (fun ts e => by rw [hd1] at e; cases e)⟩
      · exact calm_inst (by decide)
      · exact calm_dict
      · exact calm_tup
    refine catch_hereC (h := h5) B XB TB F5 N5 (f6.unhide key) (upSlots_unhide u6 fun a ha o e => (key a ha o e).1) c6 (fun h7 F7 N7 u7 ff c7 X7 T7 => ?_) rfl rfl ?pass
    case pass => with_unfolding_all passes_own
    clear key f6 u6 l6 c6
    dsimp only
    k_steps
    have hl7 : h7.IsList l ys.toArray := by
      obtain ⟨o, ho, hc, n, hd⟩ := hl
      obtain ⟨sl, hs⟩ := u7 l o ho fun vs q => by rw [hd] at q; cases q
      exact ⟨_, hs, hc, n, hd⟩
    refine lc_overHeld (G := bare G envs) (e := e) (cl := [(Str.ofString "universe", L' + 1)]) (fun i zs => zs.length = i ∧ ∀ (j : Nat) z, zs[j]? = some z → ∃ t, z = .int (j : Nat) t) rfl (by decide) rfl (by decide) rfl rfl ⟨rfl, fun j y e => by simp at e⟩ ?_
    k_steps
    refine ⟨l, ys, _, _, hl7, c7, F7, N7, by rw [sizeLine_eq]; omega, ?turn7, ?done7⟩
    case turn7 =>
      intro C i v zs h8 tk8 m8 E8 hv hzl hJz st8 hns8 hm8
      have F8 := frStays F7 st8
      have N8 := newsStays N7 st8
      obtain ⟨x, tx, hx, rfl⟩ := hnm.are.2 i v hv
      refine lcTests_nil ?_
      k_steps
      have hlk : lookup (.str x) Dn = some (.int (i : Int)) := by
        rw [nu x, if_pos (List.mem_of_getElem? hx)]
        have hi2 := (List.getElem?_eq_some_iff.mp hx)
        obtain ⟨hlt, rfl⟩ := hi2
        rw [hno.idxOf_getElem i hlt]
      refine atom_ok_call (atHeld (sub := uniD U Ud T D q4 q5 k4 k5 ys ond) B N5 F8 N8 ff st8 hsD XB TB rfl rfl) ?hd8 ?hu8 (led_in N8 hsD) lo di fl (Nat.le_trans (hnm.small x (List.mem_of_getElem? hx)) (by decide)) hlk fun t9 h9 tk9 k9 kp9 => ?_
      case hd8 => rw [depth_mark, depth_deeper]; dsimp only; omega
      case hu8 => rw [Around.mark_units, units_deeper]; dsimp only; omega
      exact lcElt (led_stays N8 hsD k9 kp9) (snocJ (P := fun j z => ∃ t, z = .int (j : Nat) t) hJz ⟨t9, rfl⟩)
    case done7 =>
      intro D9 h9 tk9 zs k9 F9 N9 lD9 hzl hJz st9
      replace F9 : Fr (bare G envs) L' h9 _ := F9
      replace N9 : News (bare G envs) L' h9 _ := N9
      have c9 := c7.at fun o q => st9 _ _ q
      dsimp only
      k_steps
      refine PyProof.Rows.len_list (hl7.at fun o q => st9 _ _ q) (by simp; omega) ?_
      rw [List.size_toArray]
      k_steps
      (rename Heap => hR)
      have stR : ∀ (b : Addr) (o : Obj), h9.get? b = some o → hR.get? b = some o := by assumption
      refine list_range_held (n := ys.length) rfl ?cX (by assumption) (small_one (by omega) (by omega) (by omega) (by omega)) (by rw [rangeSize_nat]; omega) (by omega) fun hA tkA acc kA stA eA iA => ?_
      case cX => exact c9.at fun o q => stR _ _ q
      (rename Fr _ _ _ _ => FR)
      (rename News _ _ _ _ => NR)
      have FA := frStays FR stA
      have NA := newsStays NR stA
      have hacc : acc.toList.length = ys.length ∧ ∀ (j : Nat) z, acc.toList[j]? = some z → ∃ t, z = .int ((0 + j : Nat) : Int) t := by
        refine ⟨by rw [Array.length_toList]; exact iA.1, fun j z e => ?_⟩
        obtain ⟨t, q⟩ := iA.2 j z (by simpa using e)
        exact ⟨t, by rw [q, show (0 : Int) + (j : Int) * 1 = ((0 + j : Nat) : Int) by omega]⟩
      have r1 := reads_nats (h := hA) zs 0 fun j z e => by
        obtain ⟨t, q⟩ := hJz.2 j z e
        exact ⟨t, by rw [q, Nat.zero_add]⟩
      have r2 := reads_nats (h := hA) acc.toList 0 hacc.2
      rw [hJz.1] at r1
      rw [hacc.1] at r2
      k_steps
      refine eq_dataH (.list (NA _ (.head _)).1 rfl rfl (by simpa using r1)) (.list eA rfl rfl r2) (shaped_nats _) (shaped_nats _) ?uX ?_
      case uX => rw [Around.mark_units, units_deeper, cLine_is]; dsimp only; omega
      rw [PyData.eqv, eqv_nats]
      k_steps
      exact ok hA _ FA.keep (Heap.UpToSlots.trans u7 (Heap.UpToSlots.of_keeps fun b o q => stA b o (stR b o (st9 b o q)))) fun p hp => (NA p (.tail _ (.tail _ hp))).1
end

section
open PySem PySem.W PySem.Calls PyProof.Rows PySem.Spec PyProof.V
/-- none of these is a cell of the law's frame -/
noncomputable def StatNe (L : Addr) (l : List Addr) : Prop := ∀ a ∈ l, a ≠ L + 1 ∧ a ≠ L + 1 + 1 ∧ a ≠ L + 1 + 1 + 1
theorem StatNe.n1 {L a : Addr} {l : List Addr} (h : StatNe L l) (m : a ∈ l) : a ≠ L + 1 := (h a m).1
theorem StatNe.n2 {L a : Addr} {l : List Addr} (h : StatNe L l) (m : a ∈ l) : a ≠ L + 1 + 1 := (h a m).2.1
theorem StatNe.n3 {L a : Addr} {l : List Addr} (h : StatNe L l) (m : a ∈ l) : a ≠ L + 1 + 1 + 1 := (h a m).2.2
noncomputable abbrev Bnd.adr (b : Bnd) : List Addr := [b.bl, b.nd, b.B, b.Bd, b.U, b.Ud, b.T]
noncomputable abbrev stat (b : Bnd) (tl Dn : Addr) : List Addr := [tl, b.bl, b.nd, b.B, b.Bd, b.U, b.Ud, b.T, Dn]
noncomputable abbrev hid (b : Bnd) (tl Dn L l : Addr) : List Addr := [l, tl, b.bl, b.nd, b.B, b.Bd, b.U, b.Ud, b.T, Dn, L + 1 + 1 + 1, L + 1 + 1, L + 1]
/-- what never changes in the law's loop -/
structure LawS (base : Heap) (L : Addr) (b : Bnd) (tl Dn : Addr) : Prop where
  none : ∀ a ∈ stat b tl Dn ++ [L + 1 + 1 + 1, L + 1 + 1, L + 1], base.get? a = none
  ne : StatNe L (stat b tl Dn)
  tl : tl ∉ b.adr ∧ tl ≠ Dn
  dn : Dn ∉ b.adr
  ap : b.nd ≠ b.bl ∧ ∀ p ∈ b.fix, p.1 ≠ b.nd ∧ p.1 ≠ b.bl
  lo : (b.nd == sysModules) = false
/-- the relations told, upon the heap -/
structure Told (w : World) (b : Bnd) (X : Heap) (d : Held) (titems : List Value) (ts : List Tld) : Prop where
  di : d.ond.IsDictOf (strKind Challenge.pw_nu0267_01 w) d.kvs
  fl : FlatPairs PyData.str d.kvs d.Dn
  inB : TldsAre X d.items ts
  inT : TldsAre X titems ts
  num : NumsAre d.Dn (ts.map (·.x))
  len : d.Dn.length = ts.length
  names : ∀ t ∈ ts, t.x.length ≤ 100 ∧ (PyData.str t.x).canLay0 = true
theorem Told.mono {w : World} {b : Bnd} {X X' : Heap} {d : Held} {titems : List Value} {ts : List Tld} (k : X.StaysIn X') (x : Told w b X d titems ts) : Told w b X' d titems ts :=
  ⟨x.di, x.fl, x.inB.keeps k, x.inT.keeps k, x.num, x.len, x.names⟩
inductive CellsAt (X : Heap) (L : Addr) : Prop
  | of (c1 c2 c3 : Obj) (v1 v2 v3 : Option Value) (z1 : X.get? (L + 1) = some c1) (z2 : X.get? (L + 1 + 1) = some c2) (z3 : X.get? (L + 1 + 1 + 1) = some c3) (z4 : c1.data = .cell v1) (z5 : c2.data = .cell v2) (z6 : c3.data = .cell v3) : CellsAt X L
inductive HeldAt (w : World) (L l : Addr) (b : Bnd) (tl Dn : Addr) (i : Nat) (X : Heap) : Prop
  | of (d : Held) (titems : List Value) (kt : Nat) (ts : List Tld) (z1 : ∀ p ∈ b.led d, X.get? p.1 = some p.2) (z2 : X.get? tl = some (listOf titems.toArray kt)) (z3 : Told w b (hideAll X (hid b tl Dn L l)) d titems ts) (z4 : ts.length ≤ i) : HeldAt w L l b tl Dn i X
/-- what holds ahead of a turn of the law's loop -/
structure LawJ (w : World) (base : Heap) (L l : Addr) (b : Bnd) (tl Dn : Addr) (kn n : Nat) (tn : Tok) (i : Nat) (m : Str → Option Value) (X : Heap) : Prop where
  st : base.StaysIn X
  names : m (Str.ofString "bounds") = some (.ref b.B) ∧ m (Str.ofString "told") = some (.ref tl) ∧ m (Str.ofString "universe") = some (.ref b.U) ∧ m (Str.ofString "names") = some (.ref Dn) ∧ m (Str.ofString "n") = some (.int n tn)
  cells : CellsAt X L
  nm : X.get? Dn = some (listOf b.names.toArray kn)
  held : HeldAt w L l b tl Dn i X
theorem hideAll_up' {h h' : Heap} {l : List Addr} (k : h.StaysIn h') : (hideAll h l).StaysIn (hideAll h' l) := hideAll_up fun b o _ e => k b o e
theorem LawJ.mono {w : World} {base : Heap} {L l : Addr} {b : Bnd} {tl Dn : Addr} {kn n : Nat} {tn : Tok} (i : Nat) (m : Str → Option Value) (X X' : Heap) (k : X.StaysIn X') (x : LawJ w base L l b tl Dn kn n tn i m X) : LawJ w base L l b tl Dn kn n tn i m X' := by
  obtain ⟨a1, a2, ⟨c1, c2, c3, v1, v2, v3, e1, e2, e3, f1, f2, f3⟩, a4, d, ti, kt, ts, g1, g2, g3, g4⟩ := x
  exact ⟨fun b o e => k b o (a1 b o e), a2, ⟨c1, c2, c3, v1, v2, v3, k _ _ e1, k _ _ e2, k _ _ e3, f1, f2, f3⟩, k _ _ a4, d, ti, kt, ts, fun p hp => k _ _ (g1 p hp), k _ _ g2, g3.mono (hideAll_up' k), g4⟩
/-- the frame's names, those that the turns read ahead -/
noncomputable abbrev lawMap (b : Bnd) (tl Dn : Addr) (n : Nat) (tn : Tok) (v : Value) (m : Str → Option Value) : Str → Option Value := fun y => if y = Str.ofString "number" then some v else if y = Str.ofString "bounds" then some (.ref b.B) else if y = Str.ofString "told" then some (.ref tl) else if y = Str.ofString "universe" then some (.ref b.U) else if y = Str.ofString "names" then some (.ref Dn) else if y = Str.ofString "n" then some (.int n tn) else m y
theorem LawJ.map {w : World} {base : Heap} {L l : Addr} {b : Bnd} {tl Dn : Addr} {kn n : Nat} {tn : Tok} {i : Nat} {m : Str → Option Value} {X : Heap} (x : LawJ w base L l b tl Dn kn n tn i m X) (v : Value) : (fun y => if y = Str.ofString "number" then some v else m y) = lawMap b tl Dn n tn v m := by
  obtain ⟨e1, e2, e3, e4, e5⟩ := x.names
  funext y
  unfold lawMap
  by_cases h0 : y = Str.ofString "number"
  · simp only [if_pos h0]
  simp only [if_neg h0]
  by_cases h1 : y = Str.ofString "bounds"
  · rw [if_pos h1, h1, e1]
  by_cases h2 : y = Str.ofString "told"
  · rw [if_neg h1, if_pos h2, h2, e2]
  by_cases h3 : y = Str.ofString "universe"
  · rw [if_neg h1, if_neg h2, if_pos h3, h3, e3]
  by_cases h4 : y = Str.ofString "names"
  · rw [if_neg h1, if_neg h2, if_neg h3, if_pos h4, h4, e4]
  by_cases h5 : y = Str.ofString "n"
  · rw [if_neg h1, if_neg h2, if_neg h3, if_neg h4, if_pos h5, h5, e5]
  · simp only [if_neg h1, if_neg h2, if_neg h3, if_neg h4, if_neg h5]
/-- the frame and the ledger of a turn -/
inductive OpenJ (w : World) (base h : Heap) (L I l : Addr) (b : Bnd) (tl Dn : Addr) (kn n : Nat) (tn : Tok) (i : Nat) (m : Str → Option Value) (io lo : Obj) (v : Value) : Prop
  | of (F : Fr base L h (lawMap b tl Dn n tn v m)) (c1 c2 c3 : Obj) (v1 v2 v3 : Option Value) (d : Held) (titems : List Value) (kt : Nat) (ts : List Tld) (z1 : c1.data = .cell v1) (z2 : c2.data = .cell v2) (z3 : c3.data = .cell v3)
    (z4 : Told w b (hideAll (hideAll h [L, I]) (hid b tl Dn L l)) d titems ts) (z5 : ts.length ≤ i)
    (z6 : News base L h ((I, io) :: (l, lo) :: (tl, listOf titems.toArray kt) :: (b.led d ++ [(Dn, listOf b.names.toArray kn), (L + 1 + 1 + 1, c3), (L + 1 + 1, c2), (L + 1, c1)]))) : OpenJ w base h L I l b tl Dn kn n tn i m io lo v
theorem LawJ.open {w : World} {base h : Heap} {L I l : Addr} {b : Bnd} {tl Dn : Addr} {kn n : Nat} {tn : Tok} {i : Nat} {m : Str → Option Value} {io lo : Obj} {v : Value} (x : LawJ w base L l b tl Dn kn n tn i m (hideAll h [L, I])) (S : LawS base L b tl Dn)
    (hn : h.Ns L (fun y => if y = Str.ofString "number" then some v else m y)) (hL : base.objs.size ≤ L) (hI : h.get? I = some io) (hIL : I ≠ L) (hIb : base.get? I = none) (hl : h.get? l = some lo) (hlL : l ≠ L) (hlb : base.get? l = none) :
    OpenJ w base h L I l b tl Dn kn n tn i m io lo v := by
  rw [x.map v] at hn
  obtain ⟨a1, a2, ⟨c1, c2, c3, v1, v2, v3, e1, e2, e3, f1, f2, f3⟩, a4, d, ti, kt, ts, g1, g2, g3, g4⟩ := x
  refine ⟨⟨hn, fun b o e => of_hideAll _ (a1 b o e), hL⟩, c1, c2, c3, v1, v2, v3, d, ti, kt, ts, f1, f2, f3, g3, g4, ?_⟩
  have key : ∀ {a : Addr} {o : Obj}, (hideAll h [L, I]).get? a = some o → a ∈ stat b tl Dn ++ [L + 1 + 1 + 1, L + 1 + 1, L + 1] → h.get? a = some o ∧ a ≠ L ∧ base.get? a = none := fun {a o} e hm => ⟨of_hideAll _ e, (fun q => by rw [q, hideAll_none _ (.head _)] at e; cases e), S.none a hm⟩
  intro p hp
  rcases List.mem_cons.mp hp with rfl | hp
  · exact ⟨hI, hIL, hIb⟩
  rcases List.mem_cons.mp hp with rfl | hp
  · exact ⟨hl, hlL, hlb⟩
  rcases List.mem_cons.mp hp with rfl | hp
  · exact key g2 (List.mem_append_left _ (.head _))
  rcases List.mem_append.mp hp with hp | hp
  · refine key (g1 p hp) (List.mem_append_left _ (.tail _ ?_))
    have : p.1 ∈ (b.led d).map (·.1) := List.mem_map_of_mem hp
    exact List.mem_append_left [Dn] (show p.1 ∈ b.adr from this)
  · simp only [List.mem_cons, List.not_mem_nil, or_false] at hp
    rcases hp with rfl | rfl | rfl | rfl
    · exact key a4 (List.mem_append_left _ (List.mem_append_right (tl :: b.adr) (.head _)))
    · exact key e3 (List.mem_append_right _ (.head _))
    · exact key e2 (List.mem_append_right _ (.tail _ (.head _)))
    · exact key e1 (List.mem_append_right _ (.tail _ (.tail _ (.head _))))
theorem News.nth {G h : Heap} {L a : Addr} {o : Obj} {news : List (Addr × Obj)} (N : News G L h news) (i : Nat) (e : news[i]? = some (a, o)) : h.get? a = some o ∧ a ≠ L ∧ G.get? a = none := N _ (List.mem_of_getElem? e)
theorem law_start {base h h4 : Heap} {L : Addr} {b : Bnd} {tl Dn D : Addr} {o0 o1 o2 o3 o4 o5 o6 o7 o8 o9 oA oB oC oD : Obj}
    (N : News base L h [(tl, o0), (b.nd, o1), (b.bl, o2), (b.B, o3), (b.Bd, o4), (b.D, o5), (b.U, o6), (b.Ud, o7), (b.T, o8), (Dn, o9), (D, oA), (L + 1 + 1 + 1, oB), (L + 1 + 1, oC), (L + 1, oD)])
    (lt : b.nd < tl ∧ b.bl < tl ∧ b.B < tl ∧ b.Bd < tl ∧ b.D < tl ∧ b.U < tl ∧ b.Ud < tl ∧ b.T < tl ∧ Dn < tl ∧ D < tl ∧ L + 1 + 1 + 1 < tl ∧ L + 1 + 1 < tl ∧ L + 1 < tl ∧ True)
    (l8 : ∀ p ∈ [(b.D, o5), (b.U, o6), (b.Ud, o7), (b.T, o8), (Dn, o9), (D, oA), (L + 1 + 1 + 1, oB), (L + 1 + 1, oC), (L + 1, oD)], p.1 < b.Bd) (l9 : @LT.lt Nat _ b.Bd b.B) (a1 : b.bl < b.nd ∧ b.B < b.nd ∧ b.Bd < b.nd) (a2 : b.B < b.bl ∧ b.Bd < b.bl)
    (lD : L + 1 < Dn ∧ L + 1 + 1 < Dn ∧ L + 1 + 1 + 1 < Dn) (hoff : Dn ∉ [b.D, b.U, b.Ud, b.T]) (lo : (b.nd == sysModules) = false)
    (hn : ∀ a ∈ [b.U, b.Ud, b.T], h4.get? a = none) (hs : ∀ a ∈ [L + 1, L + 1 + 1, L + 1 + 1 + 1], ∃ o, h4.get? a = some o) : LawS base L b tl Dn := by
  have hu : StatNe L [b.U, b.Ud, b.T] := fun a ha => by
    have e := hn a ha
    refine ⟨fun q => ?_, fun q => ?_, fun q => ?_⟩
    · obtain ⟨o, eo⟩ := hs _ (.head _); rw [q, eo] at e; cases e
    · obtain ⟨o, eo⟩ := hs _ (.tail _ (.head _)); rw [q, eo] at e; cases e
    · obtain ⟨o, eo⟩ := hs _ (.tail _ (.tail _ (.head _))); rw [q, eo] at e; cases e
  have i1 : @LT.lt Nat _ b.U b.Bd := l8 _ (.tail _ (.head _))
  have i2 : @LT.lt Nat _ b.Ud b.Bd := l8 _ (.tail _ (.tail _ (.head _)))
  have i3 : @LT.lt Nat _ b.T b.Bd := l8 _ (.tail _ (.tail _ (.tail _ (.head _))))
  have i4 : @LT.lt Nat _ Dn b.Bd := l8 _ (.tail _ (.tail _ (.tail _ (.tail _ (.head _)))))
  have i5 : @LT.lt Nat _ (L + 1 + 1 + 1) b.Bd := l8 _ (.tail _ (.tail _ (.tail _ (.tail _ (.tail _ (.tail _ (.head _)))))))
  have i6 : @LT.lt Nat _ (L + 1 + 1) b.Bd := Nat.lt_trans (Nat.lt_succ_self _) i5
  have i7 : @LT.lt Nat _ (L + 1) b.Bd := Nat.lt_trans (Nat.lt_succ_self _) i6
  have j1 : @LT.lt Nat _ b.bl b.nd := a1.1
  have j2 : @LT.lt Nat _ b.B b.bl := a2.1
  have t1 : @LT.lt Nat _ b.nd tl := lt.1
  have d1 : @LT.lt Nat _ (L + 1 + 1 + 1) Dn := lD.2.2
  have d2 : @LT.lt Nat _ (L + 1 + 1) Dn := lD.2.1
  have d3 : @LT.lt Nat _ (L + 1) Dn := lD.1
  have up : ∀ {a : Addr}, @LT.lt Nat _ (L + 1 + 1 + 1) a → a ≠ L + 1 ∧ a ≠ L + 1 + 1 ∧ a ≠ L + 1 + 1 + 1 := fun {a} q => ⟨Nat.ne_of_gt (Nat.lt_trans (Nat.lt_trans (Nat.lt_succ_self _) (Nat.lt_succ_self _)) q), Nat.ne_of_gt (Nat.lt_trans (Nat.lt_succ_self _) q), Nat.ne_of_gt q⟩
  have c1 := Nat.lt_trans i5 l9
  have c2 := Nat.lt_trans c1 j2
  have c3 := Nat.lt_trans c2 j1
  have x1 := Nat.lt_trans j2 j1
  have x2 := Nat.lt_trans l9 j2
  have x3 := Nat.lt_trans x2 j1
  refine ⟨(?_ : ∀ a ∈ [tl, b.bl, b.nd, b.B, b.Bd, b.U, b.Ud, b.T, Dn, L + 1 + 1 + 1, L + 1 + 1, L + 1], base.get? a = none), (?_ : ∀ a ∈ [tl, b.bl, b.nd, b.B, b.Bd, b.U, b.Ud, b.T, Dn], a ≠ L + 1 ∧ a ≠ L + 1 + 1 ∧ a ≠ L + 1 + 1 + 1), ⟨(?_ : tl ∉ [b.bl, b.nd, b.B, b.Bd, b.U, b.Ud, b.T]), Nat.ne_of_gt lt.2.2.2.2.2.2.2.2.1⟩, (?_ : Dn ∉ [b.bl, b.nd, b.B, b.Bd, b.U, b.Ud, b.T]), ⟨Nat.ne_of_gt j1, (?_ : ∀ p ∈ ([_, _, _, _, _] : List (Addr × Obj)), p.1 ≠ b.nd ∧ p.1 ≠ b.bl)⟩, lo⟩
  · exact allC ((News.nth N 0 rfl).2.2) <| allC ((News.nth N 2 rfl).2.2) <| allC ((News.nth N 1 rfl).2.2) <| allC ((News.nth N 3 rfl).2.2) <| allC ((News.nth N 4 rfl).2.2) <| allC ((News.nth N 6 rfl).2.2) <| allC ((News.nth N 7 rfl).2.2) <| allC ((News.nth N 8 rfl).2.2) <| allC ((News.nth N 9 rfl).2.2) <| allC ((News.nth N 11 rfl).2.2) <| allC ((News.nth N 12 rfl).2.2) <| allC ((News.nth N 13 rfl).2.2) allN
  · exact allC (up (Nat.lt_trans c3 t1)) <| allC (up c2) <| allC (up c3) <| allC (up c1) <| allC (up i5) <| allC (hu _ (.head _)) <| allC (hu _ (.tail _ (.head _))) <| allC (hu _ (.tail _ (.tail _ (.head _)))) <| allC (up d1) allN
  · exact niC (Nat.ne_of_gt lt.2.1) <| niC (Nat.ne_of_gt lt.1) <| niC (Nat.ne_of_gt lt.2.2.1) <| niC (Nat.ne_of_gt lt.2.2.2.1) <| niC (Nat.ne_of_gt lt.2.2.2.2.2.1) <| niC (Nat.ne_of_gt lt.2.2.2.2.2.2.1) <| niC (Nat.ne_of_gt lt.2.2.2.2.2.2.2.1) niN
  · exact niC (Nat.ne_of_lt (Nat.lt_trans i4 x2)) <| niC (Nat.ne_of_lt (Nat.lt_trans i4 x3)) <| niC (Nat.ne_of_lt (Nat.lt_trans i4 l9)) <| niC (Nat.ne_of_lt i4) <| niC (fun q => hoff (q ▸ .tail _ (.head _))) <| niC (fun q => hoff (q ▸ .tail _ (.tail _ (.head _)))) <| niC (fun q => hoff (q ▸ .tail _ (.tail _ (.tail _ (.head _))))) niN
  · exact allC (⟨Nat.ne_of_lt x1, Nat.ne_of_lt j2⟩) <| allC (⟨Nat.ne_of_lt x3, Nat.ne_of_lt x2⟩) <| allC (⟨Nat.ne_of_lt (Nat.lt_trans i1 x3), Nat.ne_of_lt (Nat.lt_trans i1 x2)⟩) <| allC (⟨Nat.ne_of_lt (Nat.lt_trans i2 x3), Nat.ne_of_lt (Nat.lt_trans i2 x2)⟩) <| allC (⟨Nat.ne_of_lt (Nat.lt_trans i3 x3), Nat.ne_of_lt (Nat.lt_trans i3 x2)⟩) allN
theorem law_j0 {w : World} {base h : Heap} {L l : Addr} {b : Bnd} {tl Dn D : Addr} {o5 oA c1 c2 c3 : Obj} {v1 v2 v3 : Option Value} {kt kb kn n : Nat} {tn : Tok} {ond : Obj} {m : Str → Option Value} {own : List (Addr × Obj)}
    (F : Fr base L h m) (N : News base L h (own ++ [(tl, listOf #[] kt), (b.nd, ond), (b.bl, listOf #[] kb), (b.B, instObj 192 b.Bd), (b.Bd, dictOf (bndEs b.q1 b.q2 b.q3 b.k1 b.k2 b.k3 b.U b.bl b.nd) 3), (b.D, o5), (b.U, instObj 115 b.Ud), (b.Ud, dictOf (uniEs b.q4 b.q5 b.k4 b.k5 b.T b.D) 2), (b.T, tupObj b.names), (Dn, listOf b.names.toArray kn), (D, oA), (L + 1 + 1 + 1, c3), (L + 1 + 1, c2), (L + 1, c1)]))
    (hm : m (Str.ofString "bounds") = some (.ref b.B) ∧ m (Str.ofString "told") = some (.ref tl) ∧ m (Str.ofString "universe") = some (.ref b.U) ∧ m (Str.ofString "names") = some (.ref Dn) ∧ m (Str.ofString "n") = some (.int n tn))
    (e1 : c1.data = .cell v1) (e2 : c2.data = .cell v2) (e3 : c3.data = .cell v3) (di : ond.IsDictOf (strKind Challenge.pw_nu0267_01 w) []) : LawJ w base L l b tl Dn kn n tn 0 m (hideAll h [L]) := by
  have g : ∀ {a : Addr} {o : Obj} (i : Nat), [(tl, listOf #[] kt), (b.nd, ond), (b.bl, listOf #[] kb), (b.B, instObj 192 b.Bd), (b.Bd, dictOf (bndEs b.q1 b.q2 b.q3 b.k1 b.k2 b.k3 b.U b.bl b.nd) 3), (b.D, o5), (b.U, instObj 115 b.Ud), (b.Ud, dictOf (uniEs b.q4 b.q5 b.k4 b.k5 b.T b.D) 2), (b.T, tupObj b.names), (Dn, listOf b.names.toArray kn), (D, oA), (L + 1 + 1 + 1, c3), (L + 1 + 1, c2), (L + 1, c1)][i]? = some (a, o) → (hideAll h [L]).get? a = some o := fun {a o} i e => hideNews (b := a) N (List.mem_append_right _ (List.mem_of_getElem? e))
  refine ⟨fun c o e => hideOff (F.keep c o e) fun q => Nat.not_lt.mpr F.above (q ▸ Heap.lt_size e), hm, ⟨c1, c2, c3, v1, v2, v3, g 13 rfl, g 12 rfl, g 11 rfl, e1, e2, e3⟩, g 9 rfl, ⟨[], kb, ond, [], []⟩, [], kt, [], (?_ : ∀ p ∈ ([_, _, _, _, _, _, _] : List (Addr × Obj)), (hideAll h [L]).get? p.1 = some p.2), g 0 rfl, ⟨di, .nil, ⟨rfl, fun _ _ e => by simp at e⟩, ⟨rfl, fun _ _ e => by simp at e⟩, NumsAre.nil, rfl, fun _ h => nomatch h⟩, Nat.le_refl _⟩
  exact allC (g 2 rfl) <| allC (g 1 rfl) <| allC (g 3 rfl) <| allC (g 4 rfl) <| allC (g 6 rfl) <| allC (g 7 rfl) <| allC (g 8 rfl) allN
theorem law_below {base h : Heap} {L : Addr} {b : Bnd} {tl Dn D : Addr} {p0 : Addr × Obj} {o0 o1 o2 o3 o4 o5 o6 o7 o8 o9 oA oB oC oD : Obj}
    (N : News base L h [p0, (tl, o0), (b.nd, o1), (b.bl, o2), (b.B, o3), (b.Bd, o4), (b.D, o5), (b.U, o6), (b.Ud, o7), (b.T, o8), (Dn, o9), (D, oA), (L + 1 + 1 + 1, oB), (L + 1 + 1, oC), (L + 1, oD)]) :
    ∀ a ∈ stat b tl Dn ++ [L + 1 + 1 + 1, L + 1 + 1, L + 1], @LT.lt Nat _ a h.objs.size := by
  exact (show ∀ a ∈ [tl, b.bl, b.nd, b.B, b.Bd, b.U, b.Ud, b.T, Dn, L + 1 + 1 + 1, L + 1 + 1, L + 1], @LT.lt Nat _ a h.objs.size from allC (Heap.lt_size (News.nth N 1 rfl).1) <| allC (Heap.lt_size (News.nth N 3 rfl).1) <| allC (Heap.lt_size (News.nth N 2 rfl).1) <| allC (Heap.lt_size (News.nth N 4 rfl).1) <| allC (Heap.lt_size (News.nth N 5 rfl).1) <| allC (Heap.lt_size (News.nth N 7 rfl).1) <| allC (Heap.lt_size (News.nth N 8 rfl).1) <| allC (Heap.lt_size (News.nth N 9 rfl).1) <| allC (Heap.lt_size (News.nth N 10 rfl).1) <| allC (Heap.lt_size (News.nth N 12 rfl).1) <| allC (Heap.lt_size (News.nth N 13 rfl).1) <| allC (Heap.lt_size (News.nth N 14 rfl).1) allN)
theorem law_fresh {hB hC : Heap} {L I l tl Dn : Addr} {b : Bnd} {ol : Obj} (below : ∀ a ∈ stat b tl Dn ++ [L + 1 + 1 + 1, L + 1 + 1, L + 1], @LT.lt Nat _ a hB.objs.size) (hl : l = hB.objs.size + 1) (el : hC.get? l = some ol) (hI : hC.objs.size ≤ I) : StatNe L [I, l] ∧ I ≠ l ∧ ∀ a ∈ stat b tl Dn, I ≠ a ∧ l ≠ a := by
  have lI : @LT.lt Nat _ l I := Nat.lt_of_lt_of_le (Heap.lt_size el) hI
  have key : ∀ a ∈ stat b tl Dn ++ [L + 1 + 1 + 1, L + 1 + 1, L + 1], I ≠ a ∧ l ≠ a := fun a ha => by
    have h1 : @LT.lt Nat _ a l := by rw [hl]; exact Nat.lt_succ_of_lt (below a ha)
    exact ⟨Nat.ne_of_gt (Nat.lt_trans h1 lI), Nat.ne_of_gt h1⟩
  have k1 := key (L + 1) (List.mem_append_right _ (.tail _ (.tail _ (.head _))))
  have k2 := key (L + 1 + 1) (List.mem_append_right _ (.tail _ (.head _)))
  have k3 := key (L + 1 + 1 + 1) (List.mem_append_right _ (.head _))
  refine ⟨fun a ha => ?_, Nat.ne_of_gt lI, fun a ha => key a (List.mem_append_left _ ha)⟩
  rcases List.mem_cons.mp ha with rfl | ha
  · exact ⟨k1.1, k2.1, k3.1⟩
  · rw [List.mem_singleton.mp ha]; exact ⟨k1.2, k2.2, k3.2⟩
end

section
open PySem PySem.W PySem.Calls PyProof.Rows PySem.Spec PyProof.V
/-- a tuple with no text in it -/
noncomputable def PartOk (o : Obj) : Prop := o.cls = .type "tuple" ∧ ∃ vs k, o.data = .seq vs k ∧ ∀ v ∈ vs.toList, ∀ x t, v ≠ .str x t
theorem ns_not {h : Heap} {L a : Addr} {m : Str → Option Value} {o : Obj} {vs : Array Value} {k : Nat} (hn : h.Ns L m) (e : h.get? a = some o) (d : o.data = .seq vs k) : a ≠ L := fun q => by
  obtain ⟨o', es, ep, e', d', _⟩ := hn
  rw [← q, e] at e'; obtain rfl := Option.some.inj e'
  rw [d] at d'; cases d'
/-- what own objects keep so -/
noncomputable def Keeps (G : Heap) (own : List (Addr × Obj)) (P : Heap → Prop) : Prop := ∀ h', G.StaysIn h' → (∀ p ∈ own, h'.get? p.1 = some p.2) → P h'
inductive OwnR (G h : Heap) (L : Addr) (P : Addr × Obj → Prop) (K : Heap → Prop) : Prop
  | of (ro : List (Addr × Obj)) (N : News G L h ro) (p : ∀ p ∈ ro, P p) (k : Keeps G ro K) : OwnR G h L P K
inductive OwnM (G h : Heap) (L : Addr) (lit : List (Addr × Obj)) (adr : List Addr) (K : Heap → Prop) : Prop
  | of (own : List (Addr × Obj)) (N : News G L h (lit ++ own)) (o : OwnOff own adr) (k : Keeps G own K) : OwnM G h L lit adr K
/-- an object kept: in the ground, or among one's own -/
theorem own_one {G h : Heap} {L a : Addr} {m : Str → Option Value} {o : Obj} {vs : Array Value} {k : Nat} (F : Fr G L h m) (e : h.get? a = some o) (d : o.data = .seq vs k) : OwnR G h L (fun p => p = (a, o)) (fun h' => h'.get? a = some o) := by
  cases q : G.get? a with
  | some o' =>
    have := F.keep _ _ q
    rw [e] at this
    obtain rfl := Option.some.inj this
    exact ⟨[], (fun _ h => nomatch h), (fun _ h => nomatch h), fun h' k _ => k _ _ q⟩
  | none => exact ⟨[(a, o)], fun p hp => by rw [List.mem_singleton.mp hp]; exact ⟨e, ns_not F.ns e d, q⟩, fun p hp => List.mem_singleton.mp hp, fun h' _ k => k _ (.head _)⟩
theorem News.app {G h : Heap} {L : Addr} {l l' : List (Addr × Obj)} (N : News G L h l) (N' : News G L h l') : News G L h (l ++ l') := fun p hp => (List.mem_append.mp hp).elim (N p) (N' p)
theorem cel_not {c : Cel} {v : Value} (h : CelIs c v) : ∀ x t, v ≠ .str x t := fun x t q => by
  subst q
  cases c with
  | int i => obtain ⟨t', e⟩ := h; cases e
  | no => cases (show Value.str x t = .bool false from h)
theorem cels_not {vs : List Value} {cs : List Cel} (h : CelsAre vs cs) : ∀ v ∈ vs, ∀ x t, v ≠ .str x t := by
  induction h with
  | nil => exact fun _ h => nomatch h
  | cons a _ ih => exact List.forall_mem_cons.mpr ⟨cel_not a, ih⟩
theorem rows_own {G X h : Heap} {L : Addr} {m : Str → Option Value} (F : Fr G L h m) (kX : X.StaysIn h) {ys : List Value} {rs : List (List Cel)} (x : RowsAre X ys rs) : OwnR G h L (fun p => PartOk p.2 ∧ X.get? p.1 = some p.2) (fun h' => RowsAre h' ys rs) := by
  induction x with
  | nil => exact ⟨[], (fun _ h => nomatch h), (fun _ h => nomatch h), fun _ _ _ => .nil⟩
  | cons x _ ih =>
    obtain ⟨a, vs, e, ⟨o, ho, hc, k, hd⟩, hcs⟩ := x
    obtain ⟨r1, N1, p1, k1⟩ := own_one F (kX _ _ ho) hd
    obtain ⟨r2, N2, p2, k2⟩ := ih
    refine ⟨r1 ++ r2, News.app N1 N2, fun p hp => ?_, fun h' g kk => .cons ⟨a, vs, e, ⟨o, k1 h' g fun p hp => kk p (List.mem_append_left _ hp), hc, k, hd⟩, hcs⟩ (k2 h' g fun p hp => kk p (List.mem_append_right _ hp))⟩
    rcases List.mem_append.mp hp with hp | hp
    · rw [p1 p hp]; exact ⟨⟨hc, _, k, hd, by simpa using cels_not hcs⟩, ho⟩
    · exact p2 p hp
theorem rows_refs {h : Heap} {ys : List Value} {rs : List (List Cel)} (x : RowsAre h ys rs) : ∀ v ∈ ys, ∀ x t, v ≠ .str x t := by
  induction x with
  | nil => exact fun _ h => nomatch h
  | cons x _ ih =>
    obtain ⟨a, _, e, _, _⟩ := x
    exact List.forall_mem_cons.mpr ⟨(fun x t q => by rw [e] at q; cases q), ih⟩
theorem rel_own {G X h : Heap} {L a : Addr} {m : Str → Option Value} {R : Rel} (F : Fr G L h m) (kX : X.StaysIn h) (hr : RelAt X a R) : OwnR G h L (fun p => (PartOk p.2 ∨ (R.tup = false ∧ p.1 = a)) ∧ X.get? p.1 = some p.2) (fun h' => RelAt h' a R) := by
  obtain ⟨ys, hs, hrs⟩ := hr
  obtain ⟨r2, N2, p2, k2⟩ := rows_own F kX hrs
  cases e : R.tup with
  | true =>
    rw [if_pos e] at hs
    obtain ⟨o, ho, hc, k, hd⟩ := hs
    obtain ⟨r1, N1, p1, k1⟩ := own_one F (kX _ _ ho) hd
    refine ⟨r1 ++ r2, News.app N1 N2, fun p hp => ?_, fun h' g kk => ⟨ys, by rw [if_pos e]; exact ⟨o, k1 h' g fun p hp => kk p (List.mem_append_left _ hp), hc, k, hd⟩, k2 h' g fun p hp => kk p (List.mem_append_right _ hp)⟩⟩
    rcases List.mem_append.mp hp with hp | hp
    · rw [p1 p hp]; exact ⟨.inl ⟨hc, _, k, hd, by simpa using rows_refs hrs⟩, ho⟩
    · exact ⟨.inl (p2 p hp).1, (p2 p hp).2⟩
  | false =>
    rw [if_neg (by rw [e]; exact Bool.false_ne_true)] at hs
    obtain ⟨o, ho, hc, k, hd⟩ := hs
    obtain ⟨r1, N1, p1, k1⟩ := own_one F (kX _ _ ho) hd
    refine ⟨r1 ++ r2, News.app N1 N2, fun p hp => ?_, fun h' g kk => ⟨ys, by rw [if_neg (by rw [e]; exact Bool.false_ne_true)]; exact ⟨o, k1 h' g fun p hp => kk p (List.mem_append_left _ hp), hc, k, hd⟩, k2 h' g fun p hp => kk p (List.mem_append_right _ hp)⟩⟩
    rcases List.mem_append.mp hp with hp | hp
    · rw [p1 p hp]; exact ⟨.inr ⟨rfl, rfl⟩, ho⟩
    · exact ⟨.inl (p2 p hp).1, (p2 p hp).2⟩
/-- parts are none of these -/
theorem parts_off {G h : Heap} {L : Addr} {news ro : List (Addr × Obj)} (N : News G L h news) (hn : ∀ q ∈ news, ¬ PartOk q.2) (Nr : News G L h ro) (hr : ∀ p ∈ ro, PartOk p.2) : OwnOff ro (news.map (·.1)) := fun p hp b hb q => by
  obtain ⟨c, hc, rfl⟩ := List.mem_map.mp hb
  have e := (Nr p hp).1
  rw [q, (N c hc).1] at e
  exact hn c hc ((Option.some.inj e).symm ▸ hr p hp)
theorem not_list {xs : Array Value} {k : Nat} : ¬ PartOk (listOf xs k) := fun h => absurd (show Value.type "list" = .type "tuple" from h.1) (by decide)
theorem not_cell {o : Obj} {v : Option Value} (e : o.data = .cell v) : ¬ PartOk o := fun h => by
  obtain ⟨_, vs, k, d, _⟩ := h
  rw [e] at d; cases d
theorem not_dict {w : World} {o : Obj} {kvs : List (Str × Value)} (e : o.IsDictOf (strKind Challenge.pw_nu0267_01 w) kvs) : ¬ PartOk o := fun h => by
  obtain ⟨_, vs, k, d, _⟩ := h
  obtain ⟨es, ep, _, d', _⟩ := e
  rw [d'] at d; cases d
theorem not_names {ys : List Value} {nm : List Str} (h : StrsOf ys nm) (hn : 1 ≤ nm.length) : ¬ PartOk (tupObj ys) := fun hp => by
  obtain ⟨_, vs, k, d, hv⟩ := hp
  cases d
  obtain ⟨y, hy⟩ : ∃ y, ys[0]? = some y := ⟨ys[0]'(by have := h.1; omega), List.getElem?_eq_getElem (by have := h.1; omega)⟩
  obtain ⟨x, t, _, rfl⟩ := h.2 0 y hy
  exact hv _ (by simpa using List.mem_of_getElem? hy) x t rfl
theorem OwnOff.app {l l' : List (Addr × Obj)} {adr : List Addr} (h : OwnOff l adr) (h' : OwnOff l' adr) : OwnOff (l ++ l') adr := fun p hp => (List.mem_append.mp hp).elim (h p) (h' p)
/-- none of the ledger of a turn is a part -/
theorem np_turn {w : World} {I l tl Dn rest a1 a2 a3 : Addr} {b : Bnd} {d : Held} {io lo : Obj} {xs ys zs : Array Value} {k1 k2 k3 : Nat} {kn n : Nat} {c1 c2 c3 : Obj} {v1 v2 v3 : Option Value}
    (hio : io.cls = .type "list_iterator") (hlo : lo = listOf ys k2) (di : d.ond.IsDictOf (strKind Challenge.pw_nu0267_01 w) d.kvs) (hnm : StrsOf b.names (atomNames n)) (n1 : 1 ≤ n) (e1 : c1.data = .cell v1) (e2 : c2.data = .cell v2) (e3 : c3.data = .cell v3) :
    ∀ q ∈ (rest, listOf xs k1) :: (I, io) :: (l, lo) :: (tl, listOf zs k3) :: (b.led d ++ [(Dn, listOf b.names.toArray kn), (a3, c3), (a2, c2), (a1, c1)]), ¬ PartOk q.2 := by
  subst hlo
  refine List.forall_mem_cons.mpr ⟨not_list, List.forall_mem_cons.mpr ⟨fun h => absurd (hio.symm.trans h.1) (by decide), List.forall_mem_cons.mpr ⟨not_list, List.forall_mem_cons.mpr ⟨not_list, ?_⟩⟩⟩⟩
  refine List.forall_mem_append.mpr ⟨List.forall_mem_cons.mpr ⟨not_list, List.forall_mem_cons.mpr ⟨not_dict di, List.forall_mem_cons.mpr ⟨(fun h => by cases h.1), List.forall_mem_cons.mpr ⟨fun h => ?_, List.forall_mem_cons.mpr ⟨(fun h => by cases h.1), List.forall_mem_cons.mpr ⟨fun h => ?_, List.forall_mem_cons.mpr ⟨not_names hnm (by rw [atomNames_len]; exact n1), List.forall_mem_nil _⟩⟩⟩⟩⟩⟩⟩,
    List.forall_mem_cons.mpr ⟨not_list, List.forall_mem_cons.mpr ⟨not_cell e3, List.forall_mem_cons.mpr ⟨not_cell e2, List.forall_mem_cons.mpr ⟨not_cell e1, List.forall_mem_nil _⟩⟩⟩⟩⟩
  · obtain ⟨_, vs, k, d, _⟩ := h; cases d
  · obtain ⟨_, vs, k, d, _⟩ := h; cases d
theorem Keeps.now {G h : Heap} {L : Addr} {m : Str → Option Value} {lit own : List (Addr × Obj)} {P : Heap → Prop} (k : Keeps G own P) (F : Fr G L h m) (N : News G L h (lit ++ own)) : P h := k h F.keep fun p hp => (N p (List.mem_append_right _ hp)).1
theorem own_more {G h : Heap} {L : Addr} {lit own rl : List (Addr × Obj)} {adr : List Addr} {P P' : Heap → Prop} (N : News G L h (lit ++ own)) (o : OwnOff own adr) (k : Keeps G own P) (N' : News G L h rl) (o' : OwnOff rl adr) (k' : Keeps G rl P') :
    OwnM G h L lit adr (fun h => P h ∧ P' h) :=
  ⟨rl ++ own, fun p hp => by
    rcases List.mem_append.mp hp with hp | hp
    · exact N p (List.mem_append_left _ hp)
    · rcases List.mem_append.mp hp with hp | hp
      · exact N' p hp
      · exact N p (List.mem_append_right _ hp), OwnOff.app o' o, fun h' g kk => ⟨k h' g fun p hp => kk p (List.mem_append_right _ hp), k' h' g fun p hp => kk p (List.mem_append_left _ hp)⟩⟩
theorem part_off {G h : Heap} {L : Addr} {news ro : List (Addr × Obj)} (N : News G L h news) (hn : ∀ q ∈ news, ¬ PartOk q.2) (Nr : News G L h ro) {p : Addr × Obj} (hp : p ∈ ro) (hr : PartOk p.2) : ∀ b ∈ news.map (·.1), p.1 ≠ b := fun b hb q => by
  obtain ⟨c, hc, rfl⟩ := List.mem_map.mp hb
  have e := (Nr p hp).1
  rw [q, (N c hc).1] at e
  exact hn c hc ((Option.some.inj e).symm ▸ hr)
/-- the own objects of two relations, beside others -/
theorem own_two {G h h0 : Heap} {L lo up : Addr} {m : Str → Option Value} {lit st own : List (Addr × Obj)} {RL RU : Rel} {P : Heap → Prop} (F : Fr G L h m) (N : News G L h (lit ++ own)) (hs : ∀ p ∈ st, p ∈ lit) (hn : ∀ q ∈ st, ¬ PartOk q.2) (o : OwnOff own (st.map (·.1))) (k : Keeps G own P) (hL : RelAt h lo RL) (hU : RelAt h up RU) (tL : RL.tup = true) (tU : RU.tup = false → h0.get? up = none) (h0s : ∀ p ∈ st, ∃ o, h0.get? p.1 = some o) :
    OwnM G h L lit (st.map (·.1)) (fun h => P h ∧ RelAt h lo RL ∧ RelAt h up RU) := by
  obtain ⟨r1, N1, p1, k1⟩ := rel_own F (fun _ _ e => e) hL
  obtain ⟨r2, N2, p2, k2⟩ := rel_own F (fun _ _ e => e) hU
  have Ns : News G L h st := fun p hp => N p (List.mem_append_left _ (hs p hp))
  refine own_more N o k (News.app N1 N2) (OwnOff.app (fun p hp => ?_) (fun p hp => ?_)) fun h' g kk => ⟨k1 h' g fun p hp => kk p (List.mem_append_left _ hp), k2 h' g fun p hp => kk p (List.mem_append_right _ hp)⟩
  · rcases (p1 p hp).1 with q | q
    · exact part_off Ns hn N1 hp q
    · rw [tL] at q; cases q.1
  · rcases (p2 p hp).1 with q | q
    · exact part_off Ns hn N2 hp q
    · intro b hb e
      obtain ⟨c, hc, rfl⟩ := List.mem_map.mp hb
      obtain ⟨o, ho⟩ := h0s c hc
      rw [← e, q.2, tU q.1] at ho; cases ho
/-- the own objects of the relations told -/
theorem tld_own {G X h : Heap} {L : Addr} {m : Str → Option Value} {t : Tld} {v : Value} (F : Fr G L h m) (kX : X.StaysIn h) (ht : TldAt X t v) : OwnR G h L (fun p => X.get? p.1 = some p.2) (fun h => TldAt h t v) := by
  obtain ⟨a, u, mt, e, g, r1, r2⟩ := ht
  obtain ⟨l0, N0, p0, k0⟩ := own_one F (kX _ _ g) rfl
  obtain ⟨l1, N1, p1, k1⟩ := rel_own F kX r1
  obtain ⟨l2, N2, p2, k2⟩ := rel_own F kX r2
  refine ⟨l0 ++ (l1 ++ l2), News.app N0 (News.app N1 N2), fun p hp => ?_, fun h' s k => ⟨a, u, mt, e, k0 h' s fun p hp => k p (List.mem_append_left _ hp), k1 h' s fun p hp => k p (List.mem_append_right _ (List.mem_append_left _ hp)), k2 h' s fun p hp => k p (List.mem_append_right _ (List.mem_append_right _ hp))⟩⟩
  rcases List.mem_append.mp hp with hp | hp
  · rw [p0 p hp]; exact g
  · rcases List.mem_append.mp hp with hp | hp
    · exact (p1 p hp).2
    · exact (p2 p hp).2
theorem TldsAre.nilI {X : Heap} : TldsAre X [] [] := ⟨rfl, fun _ _ e => by simp at e⟩
theorem TldsAre.consI {X : Heap} {v : Value} {vs : List Value} {t : Tld} {ts : List Tld} (h : TldAt X t v) (r : TldsAre X vs ts) : TldsAre X (v :: vs) (t :: ts) := ⟨by rw [List.length_cons, List.length_cons, r.1], fun i w e => by
  cases i with
  | zero => exact ⟨t, rfl, (Option.some.inj e) ▸ h⟩
  | succ i => exact let ⟨a, b, c⟩ := r.2 i w (by simpa using e); ⟨a, b, c⟩⟩
theorem TldsAre.parts {X : Heap} {v : Value} {vs : List Value} {t : Tld} {ts : List Tld} (h : TldsAre X (v :: vs) (t :: ts)) : TldAt X t v ∧ TldsAre X vs ts := by
  refine ⟨?_, by simpa using h.1, fun i w e => let ⟨a, b, c⟩ := h.2 (i + 1) w (by simpa using e); ⟨a, b, c⟩⟩
  obtain ⟨t', e, x⟩ := h.2 0 v rfl
  exact (Option.some.inj e).symm ▸ x
theorem tlds_own {G X h : Heap} {L : Addr} {m : Str → Option Value} (F : Fr G L h m) (kX : X.StaysIn h) : ∀ {vs : List Value} {ts : List Tld}, TldsAre X vs ts → OwnR G h L (fun p => X.get? p.1 = some p.2) (fun h => TldsAre h vs ts)
  | [], [], _ => ⟨[], (fun _ h => nomatch h), (fun _ h => nomatch h), fun _ _ _ => .nilI⟩
  | [], _ :: _, h => by cases h.1
  | _ :: _, [], h => by cases h.1
  | v :: vs, t :: ts, h => by
    obtain ⟨h1, h2⟩ := TldsAre.parts h
    obtain ⟨l1, N1, p1, k1⟩ := tld_own F kX h1
    obtain ⟨l2, N2, p2, k2⟩ := tlds_own F kX h2
    exact ⟨l1 ++ l2, News.app N1 N2, fun p hp => (List.mem_append.mp hp).elim (p1 p) (p2 p), fun h' s k => .consI (k1 h' s fun p hp => k p (List.mem_append_left _ hp)) (k2 h' s fun p hp => k p (List.mem_append_right _ hp))⟩
theorem told_own {w : World} {base h : Heap} {L I l tl Dn : Addr} {b : Bnd} {d : Held} {titems : List Value} {ts : List Tld} {m : Str → Option Value} (F : Fr base L h m) (hT : Told w b (hideAll (hideAll h [L, I]) (hid b tl Dn L l)) d titems ts) :
    OwnM base h L [] [I, l, tl, b.bl, b.nd, b.B, b.Bd, b.U, b.Ud, b.T, Dn, L + 1 + 1 + 1, L + 1 + 1, L + 1] (fun h => TldsAre h d.items ts ∧ TldsAre h titems ts) := by
  obtain ⟨l1, N1, p1, k1⟩ := tlds_own F (fun _ _ e => of_hideAll _ (of_hideAll _ e)) hT.inB
  obtain ⟨l2, N2, p2, k2⟩ := tlds_own F (fun _ _ e => of_hideAll _ (of_hideAll _ e)) hT.inT
  refine ⟨l1 ++ l2, (show News base L h (l1 ++ l2) from News.app N1 N2), fun p hp a ha q => ?_, fun h' s k => ⟨k1 h' s fun p hp => k p (List.mem_append_left _ hp), k2 h' s fun p hp => k p (List.mem_append_right _ hp)⟩⟩
  have e := (List.mem_append.mp hp).elim (p1 p) (p2 p)
  rw [q] at e
  rcases List.mem_cons.mp ha with rfl | ha
  · have e' := of_hideAll _ e
    rw [hideAll_none _ (.tail _ (.head _))] at e'; cases e'
  · rw [hideAll_none _ (show a ∈ hid b tl Dn L l from ha)] at e; cases e
theorem allLt_mem {d : Addr} {l : List (Addr × Obj)} (h : AllLt d l) : ∀ p ∈ l, @LT.lt Nat _ p.1 d := by
  induction l with
  | nil => exact fun _ h => nomatch h
  | cons q l ih =>
    unfold AllLt at h
    intro p hp
    rcases List.mem_cons.mp hp with e | hp
    · rw [e]; exact h.1
    · exact ih h.2 p hp
theorem own_new {ro : List (Addr × Obj)} {adr : List Addr} {d : Addr} (o : OwnOff ro adr) (h : AllLt d ro) : OwnOff ro (d :: adr) := fun p hp a ha => by
  rcases List.mem_cons.mp ha with rfl | ha
  · exact Nat.ne_of_lt (allLt_mem h p hp)
  · exact o p hp a ha
end

section
open PySem PySem.W PySem.Calls PyProof.Rows PySem.Spec PyProof.V
/-- the body of the first loop of a body -/
noncomputable def turnOf : List Stmt → List Stmt
  | [] => []
  | .For _ _ b _ _ :: _ => b
  | _ :: r => turnOf r
theorem withFn {K : Frag} {f : Addr} {P : List Stmt → Scope → Str → Value → Prop} {name qual : Str} {params : Arguments} {body : List Stmt} {scope : Scope} {dV kV doc pm cdv ct oc : Value} {an od : Option Addr} {osl : Array (Option Value)} {name' qual' : Str} {params' : Arguments} {body' : List Stmt} {scope' : Scope} {dV' kV' doc' pm' cdv' ct' oc' : Value} {an' od' : Option Addr} {osl' : Array (Option Value)}
    (ho : K.lookup f = some ⟨oc, od, .func (fnOf name qual params body scope dV kV doc pm an cdv ct), osl⟩) (ho' : K.lookup f = some ⟨oc', od', .func (fnOf name' qual' params' body' scope' dV' kV' doc' pm' an' cdv' ct'), osl'⟩) (h : K.lookup f = some ⟨oc, od, .func (fnOf name qual params body scope dV kV doc pm an cdv ct), osl⟩ → P body scope qual cdv) : P body' scope' qual' cdv' := by
  have h := h ho
  rw [ho] at ho'
  injection ho' with e
  injection e with e1 e2 e3 e4
  injection e3 with e5
  unfold fnOf at e5
  injection e5 with _ e6 _ e7 e8 _ _ _ _ _ _ _ e9
  injection e7 with e7
  subst e6 e7 e8 e9
  exact h
theorem pow_small {n : Nat} (h : n ≤ 9) : ∃ p : Int, (2 : Int) ^ ((n : Nat) : Int).toNat = p ∧ 1 ≤ p ∧ p ≤ 512 := by
  refine ⟨_, rfl, ?_⟩
  rw [Int.toNat_natCast]
  have key : ∀ n : Fin 10, (1 : Int) ≤ 2 ^ n.val ∧ (2 : Int) ^ n.val ≤ 512 := by decide
  exact key ⟨n, by omega⟩
theorem newsUnder {G h : Heap} {L D : Addr} {news : List (Addr × Obj)} (N : News G L h news) (lD : h.objs.size ≤ D) : ∀ p ∈ news, p.1 < D := fun p hp => Nat.lt_of_lt_of_le (Heap.lt_size (N p hp).1) lD
theorem News.drop1 {G h : Heap} {L : Addr} {p : Addr × Obj} {news : List (Addr × Obj)} (N : News G L h (p :: news)) : News G L h news := fun q hq => N q (.tail _ hq)
noncomputable def relName (x : Str) : Prop := x = Str.ofString "r" ∨ x = Str.ofString "s" ∨ x = Str.ofString "t"
theorem relName_ok {x : Str} (h : relName x) : x.length ≤ 100 ∧ (PyData.str x).canLay0 = true := by
  rcases h with rfl | rfl | rfl <;> decide +kernel
/-- the first part of due -/
inductive Due1 (base : Heap) (L : Addr) (M : Str → Option Value) (NL : List (Addr × Obj)) (x : Str) (mv : Value) (ns : List Str) (s : Shared) : Flow → Shared → Prop
  | mk (b : Bool) (h' : Heap) (tk' : Nat) (z1 : (b = true ↔ x ∉ ns ∧ ∃ m t, mv = .int m t ∧ 1 ≤ m)) (z2 : Fr base L h' (fun y => if y = Str.ofString "due" then some (.bool b) else M y)) (z3 : News base L h' NL) : Due1 base L M NL x mv ns s .next { s with heap := h', toks := tk' }
theorem due1_intro {base h' : Heap} {L : Addr} {M : Str → Option Value} {NL : List (Addr × Obj)} {x : Str} {mv : Value} {ns : List Str} {s : Shared} {b : Bool} {tk' : Nat} (F : Fr base L h' (fun y => if y = Str.ofString "due" then some (.bool b) else M y)) (N : News base L h' NL) (hb : b = true ↔ x ∉ ns ∧ ∃ m t, mv = .int m t ∧ 1 ≤ m) : Due1 base L M NL x mv ns s .next { s with heap := h', toks := tk' } := ⟨b, h', tk', hb, F, N⟩
/-- due, whole -/
inductive Due2 (base : Heap) (L : Addr) (M : Str → Option Value) (NL : List (Addr × Obj)) (P : Prop) (s : Shared) : Flow → Shared → Prop
  | mk (b : Bool) (h' : Heap) (tk' : Nat) (z1 : (b = true ↔ P)) (z2 : Fr base L h' (fun y => if y = Str.ofString "due" then some (.bool b) else M y)) (z3 : News base L h' NL) : Due2 base L M NL P s .next { s with heap := h', toks := tk' }
theorem due2_intro {base h' : Heap} {L : Addr} {M : Str → Option Value} {NL : List (Addr × Obj)} {P : Prop} {s : Shared} {b : Bool} {tk' : Nat} (F : Fr base L h' (fun y => if y = Str.ofString "due" then some (.bool b) else M y)) (N : News base L h' NL) (hb : b = true ↔ P) : Due2 base L M NL P s .next { s with heap := h', toks := tk' } := ⟨b, h', tk', hb, F, N⟩
theorem add_iff {b : Bnd} {ns : List Str} {d : Held} {x : Str} {mv : Value} {RL RU : Rel} {n : Nat} (hn : b.names.length = n) (h : NumsAre d.Dn ns) :
    addOk b.names.length d.Dn x mv RL RU ↔ x ∉ ns ∧ ∃ ar t, mv = .int ar t ∧ 1 ≤ ar ∧ wantOk n ar RL ∧ wantOk n ar RU ∧ ∀ r ∈ RL.rows, r ∈ RU.rows := by
  subst hn
  unfold addOk
  rw [h.isSome, decide_eq_false_iff_not]
theorem any_rows {rows : List (List Cel)} {r : List Cel} (h : ∀ q ∈ rows, intRow q) (hr : intRow r) : ((rows.map rowD).any fun y => PyData.eqv y (rowD r)) = decide (r ∈ rows) := by
  induction rows with
  | nil => simp
  | cons q rows ih =>
    rw [List.map_cons, List.any_cons, ih fun q hq => h q (.tail _ hq), eqv_row (h q (.head _)) hr]
    by_cases e : q = r
    · subst e; simp
    · have e' : ¬ r = q := fun p => e p.symm
      simp [e, e']
theorem eqv_nillist (rows : List (List Cel)) : PyData.eqv (.list (rows.map rowD)) (.list []) = rows.isEmpty := by cases rows <;> simp [PyData.eqv, PyData.eqvAll]
/-- what the comprehension of the rows not within has made -/
noncomputable def NotIn (vs : List Value) (RL RU : List (List Cel)) (i : Nat) (ys : List Value) : Prop := (∀ y ∈ ys, y ∈ vs) ∧ (ys = [] ↔ ∀ (j : Nat) r, j < i → RL[j]? = some r → r ∈ RU)
theorem NotIn.yes {vs ys : List Value} {RL RU : List (List Cel)} {i : Nat} {r : List Cel} {v : Value} (h : NotIn vs RL RU i ys) (hv : v ∈ vs) (hr : RL[i]? = some r) (hn : r ∉ RU) : NotIn vs RL RU (i + 1) (ys ++ [v]) := by
  refine ⟨fun y hy => (List.mem_append.mp hy).elim (h.1 y) fun hy => List.mem_singleton.mp hy ▸ hv, fun e => by simp at e, fun e => absurd (e i r (Nat.lt_succ_self _) hr) hn⟩
theorem NotIn.no {vs ys : List Value} {RL RU : List (List Cel)} {i : Nat} {r : List Cel} (h : NotIn vs RL RU i ys) (hr : RL[i]? = some r) (hn : r ∈ RU) : NotIn vs RL RU (i + 1) ys := by
  refine ⟨h.1, fun e j q hj hq => ?_, fun e => h.2.mpr fun j q hj hq => e j q (Nat.lt_succ_of_lt hj) hq⟩
  rcases Nat.lt_succ_iff_lt_or_eq.mp hj with hj | rfl
  · exact h.2.mp e j q hj hq
  · rw [hr] at hq; exact Option.some.inj hq ▸ hn
theorem newList_stays {M : Model} {A : Around} {E : Value → Shared → Prop} {s : Shared} {G : Heap} {L : Addr} {m : Str → Option Value} {news : List (Addr × Obj)} {vs : List Value} {Q : Value → Shared → Prop} (F : Fr G L s.heap m) (N : News G L s.heap news)
    (h : ∀ h', Fr G L h' m → News G L h' ((s.heap.objs.size, listOf vs.toArray 0) :: news) → s.heap.StaysIn h' → Q (.ref s.heap.objs.size) { s with heap := h' }) (hsz : vs.length ≤ sizeLine) :
    wpAny M A (newList vs) Q E s := wpAny_newObj_type (h _ (F.push _) (N.push F _) (fun _ _ e => Heap.get?_push_of_some _ e)) (by show vs.toArray.size ≤ sizeLine; rw [List.size_toArray]; exact hsz)
theorem canLay_row (r : List Cel) : (rowD r).canLay0 = true := by simp [rowD, PyData.canLay0, canLay_cels]
/-- the names that the second half of a turn reads -/
noncomputable abbrev lawMap2 (lo2 : Addr) (ex : Bool) (mv : Value) (x : Str) (tx : Tok) (b : Bnd) (tl Dn : Addr) (n : Nat) (tn : Tok) (M : Str → Option Value) : Str → Option Value := fun y => if y = Str.ofString "lower" then some (.ref lo2) else if y = Str.ofString "is_exact" then some (.bool ex) else if y = Str.ofString "many" then some mv else if y = Str.ofString "name" then some (.str x tx) else
  if y = Str.ofString "bounds" then some (.ref b.B) else if y = Str.ofString "told" then some (.ref tl) else if y = Str.ofString "universe" then some (.ref b.U) else if y = Str.ofString "names" then some (.ref Dn) else if y = Str.ofString "n" then some (.int n tn) else M y
theorem map_add {M : Str → Option Value} {x : Str} {v : Option Value} (h : M x = v) : M = fun y => if y = x then v else M y := by
  funext y
  by_cases e : y = x
  · rw [if_pos e, e, h]
  · rw [if_neg e]
theorem map_lift {M M' : Str → Option Value} {x : Str} {v : Option Value} (h : M x = v) (e : M = M') : M = fun y => if y = x then v else M' y := by
  rw [← e]; exact map_add h
theorem lawMap2_of {M : Str → Option Value} {lo2 : Addr} {ex : Bool} {mv : Value} {x : Str} {tx : Tok} {b : Bnd} {tl Dn : Addr} {n : Nat} {tn : Tok}
    (h1 : M (Str.ofString "lower") = some (.ref lo2)) (h2 : M (Str.ofString "is_exact") = some (.bool ex)) (h3 : M (Str.ofString "many") = some mv) (h4 : M (Str.ofString "name") = some (.str x tx)) (h5 : M (Str.ofString "bounds") = some (.ref b.B)) (h6 : M (Str.ofString "told") = some (.ref tl)) (h7 : M (Str.ofString "universe") = some (.ref b.U)) (h8 : M (Str.ofString "names") = some (.ref Dn)) (h9 : M (Str.ofString "n") = some (.int n tn)) :
    M = lawMap2 lo2 ex mv x tx b tl Dn n tn M := map_lift h1 (map_lift h2 (map_lift h3 (map_lift h4 (map_lift h5 (map_lift h6 (map_lift h7 (map_lift h8 (map_add h9))))))))
end

section
open PySem PySem.W PySem.Calls PyProof.Rows PySem.Spec PyProof.V
/-- what is kept is kept with parts of the heap hidden -/
theorem Keeps.hid {G h : Heap} {L : Addr} {m : Str → Option Value} {lit own : List (Addr × Obj)} {W adr : List Addr} {P : Heap → Prop} (k : Keeps G own P) (F : Fr G L h m) (N : News G L h (lit ++ own)) (o : OwnOff own adr) (hW : ∀ a ∈ W, a ∈ adr ∧ G.get? a = none) : P (hideAll h W) :=
  k _ (fun b ob e => hideAll_get _ (F.keep b ob e) fun q => by rw [(hW b q).2] at e; cases e) fun p hp => hideAll_get _ (N p (List.mem_append_right _ hp)).1 fun q => o p hp _ (hW _ q).1 rfl
noncomputable abbrev turnN (I l tl Dn L : Addr) (io lo : Obj) (b : Bnd) (d : Held) (titems : List Value) (kt kn : Nat) (c1 c2 c3 : Obj) (own : List (Addr × Obj)) : List (Addr × Obj) := (I, io) :: (l, lo) :: (tl, listOf titems.toArray kt) :: (b.led d ++ [(Dn, listOf b.names.toArray kn), (L + 1 + 1 + 1, c3), (L + 1 + 1, c2), (L + 1, c1)] ++ own)
noncomputable abbrev turnA (I l tl Dn L : Addr) (b : Bnd) : List Addr := [I, l, tl, b.bl, b.nd, b.B, b.Bd, b.U, b.Ud, b.T, Dn, L + 1 + 1 + 1, L + 1 + 1, L + 1]
theorem turnN_none {G h : Heap} {I l tl Dn L : Addr} {io lo : Obj} {b : Bnd} {d : Held} {titems : List Value} {kt kn : Nat} {c1 c2 c3 : Obj} {own : List (Addr × Obj)} (N : News G L h (turnN I l tl Dn L io lo b d titems kt kn c1 c2 c3 own)) : ∀ a ∈ turnA I l tl Dn L b, G.get? a = none ∧ a ≠ L ∧ ∃ o, h.get? a = some o := fun a ha => by
  have hm : a ∈ (turnN I l tl Dn L io lo b d titems kt kn c1 c2 c3 []).map (·.1) := ha
  obtain ⟨p, hp, rfl⟩ := List.mem_map.mp hm
  have hp' : p ∈ turnN I l tl Dn L io lo b d titems kt kn c1 c2 c3 [] ++ own := List.mem_append_left own hp
  exact ⟨(N p hp').2.2, (N p hp').2.1, _, (N p hp').1⟩
/-- the parts of a turn's ledger are apart -/
structure Apart (b : Bnd) (I l tl Dn L : Addr) : Prop where
  I : I ∉ [l, tl, b.bl, b.nd, b.B, b.Bd, b.U, b.Ud, b.T, Dn, L + 1 + 1 + 1, L + 1 + 1, L + 1]
  l : l ∉ [tl, b.bl, b.nd, b.B, b.Bd, b.U, b.Ud, b.T, Dn, L + 1 + 1 + 1, L + 1 + 1, L + 1]
  tl : tl ∉ [b.bl, b.nd, b.B, b.Bd, b.U, b.Ud, b.T, Dn, L + 1 + 1 + 1, L + 1 + 1, L + 1]
  dn : Dn ∉ [b.bl, b.nd, b.B, b.Bd, b.U, b.Ud, b.T]
  cells : ∀ a ∈ [L + 1 + 1 + 1, L + 1 + 1, L + 1], a ∉ [b.bl, b.nd, b.B, b.Bd, b.U, b.Ud, b.T]
theorem law_apart {base : Heap} {L I l tl Dn : Addr} {b : Bnd} (S : LawS base L b tl Dn) (hst : StatNe L [I, l, tl, b.bl, b.nd, b.B, b.Bd, b.U, b.Ud, b.T, Dn]) (hIl : I ≠ l) (hIs : ∀ a ∈ stat b tl Dn, I ≠ a ∧ l ≠ a) : Apart b I l tl Dn L := by
  have cel : ∀ {a : Addr}, a ∈ [I, l, tl, b.bl, b.nd, b.B, b.Bd, b.U, b.Ud, b.T, Dn] → a ∉ [L + 1 + 1 + 1, L + 1 + 1, L + 1] := fun {a} ha q => by
    simp only [List.mem_cons, List.not_mem_nil, or_false] at q
    rcases q with q | q | q
    · exact (hst a ha).2.2 q
    · exact (hst a ha).2.1 q
    · exact (hst a ha).1 q
  refine ⟨fun q => ?_, fun q => ?_, fun q => ?_, S.dn, fun a ha q => ?_⟩
  · rcases List.mem_cons.mp q with q | q
    · exact hIl q
    · rcases (List.mem_append (s := stat b tl Dn) (t := [L + 1 + 1 + 1, L + 1 + 1, L + 1])).mp q with q | q
      · exact (hIs I q).1 rfl
      · exact cel (.head _) q
  · rcases (List.mem_append (s := stat b tl Dn) (t := [L + 1 + 1 + 1, L + 1 + 1, L + 1])).mp q with q | q
    · exact (hIs l q).2 rfl
    · exact cel (.tail _ (.head _)) q
  · rcases (List.mem_append (s := b.adr) (t := [Dn, L + 1 + 1 + 1, L + 1 + 1, L + 1])).mp q with q | q
    · exact S.tl.1 q
    · rcases List.mem_cons.mp q with q | q
      · exact S.tl.2 q
      · exact cel (.tail _ (.tail _ (.head _))) q
  · exact cel (.tail _ (.tail _ (.tail _ (List.mem_append_left [Dn] q)))) ha
/-- the turn's ledger, all but the Bounds' own objects, behind a call that may change those -/
theorem turn_behind {G h h' : Heap} {L I l tl Dn : Addr} {m : Str → Option Value} {io lo : Obj} {b : Bnd} {d d' : Held} {titems : List Value} {kt kn : Nat} {c1 c2 c3 : Obj} {own : List (Addr × Obj)} (ap : Apart b I l tl Dn L) (F : Fr G L h m) (N : News G L h (turnN I l tl Dn L io lo b d titems kt kn c1 c2 c3 own)) (o : OwnOff own (turnA I l tl Dn L b))
    (k : (hideAll h ((b.led d).map (·.1))).StaysIn h') (kp : ∀ p ∈ b.led d', h'.get? p.1 = some p.2) : Fr G L h' m ∧ News G L h' (turnN I l tl Dn L io lo b d' titems kt kn c1 c2 c3 own) := by
  have A := turnN_none N
  have hadr : (b.led d).map (·.1) = b.adr := rfl
  have hA : ∀ a ∈ b.adr, a ∈ turnA I l tl Dn L b := fun a ha => .tail _ (.tail _ (.tail _ (List.mem_append_left [Dn, L + 1 + 1 + 1, L + 1 + 1, L + 1] ha)))
  refine ⟨frBehind F (fun a ha => ⟨(A a (hA a ha)).1, (A a (hA a ha)).2.1⟩) k, fun p hp => ?_⟩
  have beh : ∀ {q : Addr × Obj}, q ∈ turnN I l tl Dn L io lo b d titems kt kn c1 c2 c3 own → q.1 ∉ b.adr → h'.get? q.1 = some q.2 ∧ q.1 ≠ L ∧ G.get? q.1 = none := fun hq hn => newsBehind N hq k hn
  rcases List.mem_cons.mp hp with rfl | hp
  · exact beh (.head _) fun q => ap.I (.tail _ (.tail _ (List.mem_append_left [Dn, L + 1 + 1 + 1, L + 1 + 1, L + 1] q)))
  rcases List.mem_cons.mp hp with rfl | hp
  · exact beh (.tail _ (.head _)) fun q => ap.l (.tail _ (List.mem_append_left [Dn, L + 1 + 1 + 1, L + 1 + 1, L + 1] q))
  rcases List.mem_cons.mp hp with rfl | hp
  · exact beh (.tail _ (.tail _ (.head _))) fun q => ap.tl (List.mem_append_left [Dn, L + 1 + 1 + 1, L + 1 + 1, L + 1] q)
  rcases List.mem_append.mp hp with hp | hp
  · rcases List.mem_append.mp hp with hp | hp
    · have ha : p.1 ∈ b.adr := show p.1 ∈ (b.led d').map (·.1) from List.mem_map_of_mem hp
      exact ⟨kp p hp, (A _ (hA _ ha)).2.1, (A _ (hA _ ha)).1⟩
    · refine beh (.tail _ (.tail _ (.tail _ (List.mem_append_left _ (List.mem_append_right _ hp))))) fun q => ?_
      rcases List.mem_cons.mp hp with rfl | hp
      · exact ap.dn q
      · refine ap.cells p.1 ?_ q
        simp only [List.mem_cons, List.not_mem_nil, or_false] at hp
        rcases hp with rfl | rfl | rfl
        · exact .head _
        · exact .tail _ (.head _)
        · exact .tail _ (.tail _ (.head _))
  · exact beh (.tail _ (.tail _ (.tail _ (List.mem_append_right _ hp)))) fun q => o p hp _ (hA _ q) rfl
/-- one more own object, fresh -/
theorem own_cons {G h h' : Heap} {L I l tl Dn a : Addr} {ob : Obj} {m : Str → Option Value} {io lo : Obj} {b : Bnd} {d d' : Held} {titems : List Value} {kt kn : Nat} {c1 c2 c3 : Obj} {own : List (Addr × Obj)} (F : Fr G L h m) (N0 : News G L h (turnN I l tl Dn L io lo b d titems kt kn c1 c2 c3 own)) (o : OwnOff own (turnA I l tl Dn L b))
    (N : News G L h' (turnN I l tl Dn L io lo b d' titems kt kn c1 c2 c3 own)) (fa : h.get? a = none) (ea : h'.get? a = some ob) : News G L h' (turnN I l tl Dn L io lo b d' titems kt kn c1 c2 c3 ((a, ob) :: own)) ∧ OwnOff ((a, ob) :: own) (turnA I l tl Dn L b) := by
  have A := turnN_none N0
  refine ⟨fun p hp => ?_, fun p hp c hc => ?_⟩
  · rcases (List.mem_append (s := turnN I l tl Dn L io lo b d' titems kt kn c1 c2 c3 []) (t := (a, ob) :: own)).mp hp with hp | hp
    · exact N p (List.mem_append_left own hp)
    · rcases List.mem_cons.mp hp with rfl | hp
      · refine ⟨ea, fun q => ?_, ?_⟩
        · obtain ⟨o', es, ep, e', _⟩ := F.ns
          rw [show a = L from q, e'] at fa; cases fa
        · cases q : G.get? a with
          | none => rfl
          | some o' => rw [F.keep _ _ q] at fa; cases fa
      · exact N p (List.mem_append_right (turnN I l tl Dn L io lo b d' titems kt kn c1 c2 c3 []) hp)
  · rcases List.mem_cons.mp hp with rfl | hp
    · intro q
      obtain ⟨_, _, o', e'⟩ := A c hc
      rw [show a = c from q, e'] at fa; cases fa
    · exact o p hp c hc
theorem TldsAre.snoc {X : Heap} {vs : List Value} {ts : List Tld} {v : Value} {t : Tld} (h : TldsAre X vs ts) (h1 : TldAt X t v) : TldsAre X (vs ++ [v]) (ts ++ [t]) := by
  refine ⟨by rw [List.length_append, List.length_append, h.1]; rfl, fun j y e => ?_⟩
  have g := List.getElem?_append (l₁ := ts) (l₂ := [t]) (i := j)
  rw [← h.1] at g
  rw [List.getElem?_append] at e
  by_cases hk : j < vs.length
  · rw [if_pos hk] at e g
    exact let ⟨a, b, c⟩ := h.2 j y e; ⟨a, g.trans b, c⟩
  · rw [if_neg hk] at e g
    have : j - vs.length = 0 := by
      have := (List.getElem?_eq_some_iff.mp e).1
      simp at this; omega
    rw [this] at e g
    exact ⟨t, g, (Option.some.inj e) ▸ h1⟩
/-- what holds again behind a turn -/
theorem law_close {w : World} {base h : Heap} {L I l tl Dn : Addr} {m : Str → Option Value} {io lo : Obj} {b : Bnd} {d : Held} {titems : List Value} {ts : List Tld} {kt kn n i : Nat} {tn : Tok} {c1 c2 c3 : Obj} {v1 v2 v3 : Option Value} {own : List (Addr × Obj)} (ap : Apart b I l tl Dn L) (F : Fr base L h m) (N : News base L h (turnN I l tl Dn L io lo b d titems kt kn c1 c2 c3 own)) (o : OwnOff own (turnA I l tl Dn L b))
    (k : Keeps base own (fun h => TldsAre h d.items ts ∧ TldsAre h titems ts)) (hm : m (Str.ofString "bounds") = some (.ref b.B) ∧ m (Str.ofString "told") = some (.ref tl) ∧ m (Str.ofString "universe") = some (.ref b.U) ∧ m (Str.ofString "names") = some (.ref Dn) ∧ m (Str.ofString "n") = some (.int n tn))
    (e1 : c1.data = .cell v1) (e2 : c2.data = .cell v2) (e3 : c3.data = .cell v3) (di : d.ond.IsDictOf (strKind Challenge.pw_nu0267_01 w) d.kvs) (fl : FlatPairs PyData.str d.kvs d.Dn) (num : NumsAre d.Dn (ts.map (·.x))) (len : d.Dn.length = ts.length) (names : ∀ t ∈ ts, t.x.length ≤ 100 ∧ (PyData.str t.x).canLay0 = true) (hi : ts.length ≤ i) : LawJ w base L l b tl Dn kn n tn i m (hideAll h [L, I]) := by
  have A := turnN_none N
  have off : ∀ {p : Addr × Obj}, p ∈ turnN I l tl Dn L io lo b d titems kt kn c1 c2 c3 own → p.1 ≠ I → (hideAll h [L, I]).get? p.1 = some p.2 := fun {p} hp hI => hideAll_get _ (N p hp).1 fun q => by
    rcases List.mem_cons.mp q with q | q
    · exact (N p hp).2.1 q
    · exact hI (List.mem_singleton.mp q)
  have nI : ∀ {a : Addr}, a ∈ [l, tl, b.bl, b.nd, b.B, b.Bd, b.U, b.Ud, b.T, Dn, L + 1 + 1 + 1, L + 1 + 1, L + 1] → a ≠ I := fun {a} ha q => ap.I (q ▸ ha)
  have gI := (A I (.head _)).1
  have st : base.StaysIn (hideAll h [L, I]) := fun c ob e => hideAll_get _ (F.keep c ob e) fun q => by
    rcases List.mem_cons.mp q with rfl | q
    · exact Nat.not_lt.mpr F.above (Heap.lt_size e)
    · rw [List.mem_singleton.mp q, gI] at e; cases e
  have kk := k (hideAll (hideAll h [L, I]) (hid b tl Dn L l)) (fun c ob e => hideAll_get _ (st c ob e) fun q => by rw [(A c (.tail _ q)).1] at e; cases e) (fun p hp => hideAll_get _ (off (p := p) (List.mem_append_right (turnN I l tl Dn L io lo b d titems kt kn c1 c2 c3 []) hp) (o p hp I (.head _))) fun q => o p hp _ (.tail _ q) rfl)
  refine ⟨st, hm, ⟨c1, c2, c3, v1, v2, v3, off (p := (L + 1, c1)) ?_ (nI ?_), off (p := (L + 1 + 1, c2)) ?_ (nI ?_), off (p := (L + 1 + 1 + 1, c3)) ?_ (nI ?_), e1, e2, e3⟩, off (p := (Dn, listOf b.names.toArray kn)) ?_ (nI ?_), d, titems, kt, ts, fun p hp => off (p := p) ?_ (nI ?_), off (p := (tl, listOf titems.toArray kt)) (.tail _ (.tail _ (.head _))) (nI (.tail _ (.head _))), ⟨di, fl, kk.1, kk.2, num, len, names⟩, hi⟩
  · exact List.mem_of_getElem? (i := 13) rfl
  · exact List.mem_of_getElem? (i := 12) rfl
  · exact List.mem_of_getElem? (i := 12) rfl
  · exact List.mem_of_getElem? (i := 11) rfl
  · exact List.mem_of_getElem? (i := 11) rfl
  · exact List.mem_of_getElem? (i := 10) rfl
  · exact List.mem_of_getElem? (i := 10) rfl
  · exact List.mem_of_getElem? (i := 9) rfl
  · exact .tail _ (.tail _ (.tail _ (List.mem_append_left _ (List.mem_append_left _ hp))))
  · have ha : p.1 ∈ b.adr := show p.1 ∈ (b.led d).map (·.1) from List.mem_map_of_mem hp
    exact .tail _ (.tail _ (List.mem_append_left [Dn, L + 1 + 1 + 1, L + 1 + 1, L + 1] ha))
theorem tl_off {I l tl Dn L : Addr} {b : Bnd} {d : Held} {o0 c1 c2 c3 : Obj} {own : List (Addr × Obj)} (ap : Apart b I l tl Dn L) (o : OwnOff own (turnA I l tl Dn L b)) : ∀ p ∈ b.led d ++ [(Dn, o0), (L + 1 + 1 + 1, c3), (L + 1 + 1, c2), (L + 1, c1)] ++ own, p.1 ≠ tl := fun p hp q => by
  rcases List.mem_append.mp hp with hp | hp
  · have : p.1 ∈ [b.bl, b.nd, b.B, b.Bd, b.U, b.Ud, b.T, Dn, L + 1 + 1 + 1, L + 1 + 1, L + 1] := List.mem_map_of_mem (f := (·.1)) hp
    exact ap.tl (q ▸ this)
  · exact o p hp tl (.tail _ (.tail _ (.head _))) q
theorem own_front {G h : Heap} {L I l tl Dn : Addr} {io lo : Obj} {b : Bnd} {d : Held} {titems : List Value} {kt kn : Nat} {c1 c2 c3 : Obj} {own : List (Addr × Obj)} {p : Addr × Obj} (N : News G L h (p :: turnN I l tl Dn L io lo b d titems kt kn c1 c2 c3 own)) : News G L h (turnN I l tl Dn L io lo b d titems kt kn c1 c2 c3 (p :: own)) := fun q hq => by
  rcases (List.mem_append (s := turnN I l tl Dn L io lo b d titems kt kn c1 c2 c3 []) (t := p :: own)).mp hq with hq | hq
  · exact N q (.tail _ (List.mem_append_left own hq))
  · rcases List.mem_cons.mp hq with rfl | hq
    · exact N _ (.head _)
    · exact N q (.tail _ (List.mem_append_right (turnN I l tl Dn L io lo b d titems kt kn c1 c2 c3 []) hq))
theorem own_above {L I l tl Dn a : Addr} {io lo ob : Obj} {b : Bnd} {d : Held} {titems : List Value} {kt kn : Nat} {c1 c2 c3 : Obj} {own : List (Addr × Obj)} (o : OwnOff own (turnA I l tl Dn L b)) (hl : ∀ p ∈ turnN I l tl Dn L io lo b d titems kt kn c1 c2 c3 own, p.1 < a) : OwnOff ((a, ob) :: own) (turnA I l tl Dn L b) := fun p hp c hc => by
  rcases List.mem_cons.mp hp with rfl | hp
  · have hm : c ∈ (turnN I l tl Dn L io lo b d titems kt kn c1 c2 c3 []).map (·.1) := hc
    obtain ⟨q, hq, rfl⟩ := List.mem_map.mp hm
    exact Nat.ne_of_gt (hl q (List.mem_append_left own hq))
  · exact o p hp c hc
theorem shown_of {names : List Value} {n : Nat} {mm : Int} {ru : List (List Cel)} (hn : StrsOf names (atomNames n)) (h : wantOk names.length mm ⟨true, ru⟩) (h1 : 1 ≤ mm) (hs : Small ⟨true, ru⟩) : Shown (atomNames n) ru := by
  refine ⟨hs.2, hs.1, fun r hr e => ?_, fun r hr c hc => ?_⟩
  · have := (h.2.1 r hr).1
    rw [e] at this
    simp at this; omega
  · obtain ⟨i, e, a, b⟩ := (h.2.1 r hr).2 c hc
    exact ⟨i, e, a, by rw [← hn.1]; exact b⟩
end

section
open PySem PySem.W PySem.Calls PyProof.Rows PySem.Spec PyProof.V
local macro_rules | `(tactic| k_ne) => `(tactic| walk_at "kne")
local macro_rules | `(tactic| walk_at $s) => Mine.red [("compareOp NotIn str ref", "m"), ("compareOp NotIn ref ref", "m"), ("newList", "g")] s
theorem Keeps.at {G h : Heap} {L : Addr} {m : Str → Option Value} {NL own : List (Addr × Obj)} {P : Heap → Prop} (k : Keeps G own P) (F : Fr G L h m) (N : News G L h NL) (hs : ∀ p ∈ own, p ∈ NL) : P h := k h F.keep fun p hp => (N p (hs p hp)).1
set_option maxHeartbeats 8000000 in
theorem law_turn2 {w : World} {base : Heap} {mean : ExcName → Option Value} {mg mb : Str → Option Value} {L fa cd I l tl Dn lo2 up : Addr} {b : Bnd} {kn n i kt : Nat} {tn tx : Tok} {M : Str → Option Value} {h : Heap} {s : Shared} {io lo : Obj} {c1 c2 c3 : Obj} {v1 v2 : Option Value} {d : Held} {titems : List Value} {ts : List Tld} {own : List (Addr × Obj)} {RL RU : Rel} {mv : Value} {x : Str} {ex : Bool} {Q : Flow → Shared → Prop} {E : Value → Shared → Prop} {X : Heap}
    (K0 : Below callerA base [] base) (KX : (Mine.hd.heap_39 w.params).In base) (T : Top Mine.hd.view_39 (looseW Mine.hd.view_39 []) mean mg mb base)
    (S : LawS base L b tl Dn) (n1 : 1 ≤ n) (n3 : n ≤ 3) (hnm : StrsOf b.names (atomNames n)) (hi : i < 8) (hT : Told w b X d titems ts) (hti : ts.length ≤ i) (ap : Apart b I l tl Dn L)
    (F : Fr base L h M) (N : News base L h (turnN I l tl Dn L io lo b d titems kt kn c1 c2 c3 own))
    (oown : OwnOff own (turnA I l tl Dn L b)) (kown : Keeps base own (fun h => (TldsAre h d.items ts ∧ TldsAre h titems ts) ∧ RelAt h lo2 RL ∧ RelAt h up RU))
    (e1 : c1.data = .cell v1) (e2 : c2.data = .cell v2) (e3 : c3.data = .cell (some (.ref up))) (sL : Small RL) (sU : Small RU) (hmv : MvOk mv) (hx : relName x) (hex : ex = true → lo2 = up ∧ RL = RU)
    (hM : M = lawMap2 lo2 ex mv x tx b tl Dn n tn M)
    {name qual : Str} {params : Arguments} {body : List Stmt} {scope : Scope} {dV kV doc pm cdv ct oc : Value} {an od : Option Addr} {osl : Array (Option Value)}
    (ho : (Mine.hd.heap_39 w.params).lookup 261 = some ⟨oc, od, .func (fnOf name qual params body scope dV kV doc pm an cdv ct), osl⟩) :
    wpAny (model Challenge.pw_nu0267_01 w) (callerA.deeper (envOfC qual scope L fa (.ref cd))) (execs ((turnOf body).drop 10) (envOfC qual scope L fa (.ref cd)))
      (TurnH (envOfC qual scope L fa (.ref cd)) Q (LawJ w base L l b tl Dn kn n tn (i + 1)) I [(I, io), (l, lo)] { s with heap := h }) E { s with heap := h } := by
  refine' withFn (P := fun body scope qual _ => let env := envOfC qual scope L fa (.ref cd); wpAny (model Challenge.pw_nu0267_01 w) (callerA.deeper env) (execs ((turnOf body).drop 10) env)
      (TurnH env Q (LawJ w base L l b tl Dn kn n tn (i + 1)) I [(I, io), (l, lo)] { s with heap := h }) E { s with heap := h }) ?ho ho fun _ => ?_
  case ho => k_is
  intro env
  clear ho
  obtain ⟨heap, gens, drawn, toks, os⟩ := s
  let NL := turnN I l tl Dn L io lo b d titems kt kn c1 c2 c3 own
  let M2 := lawMap2 lo2 ex mv x tx b tl Dn n tn M
  replace F : Fr base L h M2 := by rw [hM] at F; exact F
  replace N : News base L h NL := N
  have hownL : ∀ p ∈ own, p ∈ NL := fun p hp => .tail _ (.tail _ (.tail _ (List.mem_append_right _ hp)))
  dsimp only [turnOf, List.drop]
  show wpAny _ _ _ _ _ _
  k_fold
  have hlt : titems.length = ts.length := hT.inT.1
  refine wpAny_execs_cons (wpAny_mono (Q := Due1 base L M2 NL x mv (ts.map (·.x)) { heap := h, gens := gens, drawn := drawn, toks := toks, os := os }) ?s1 (fun f s' hs1 => ?_) fun _ _ e => e)
  case s1 =>
    k_steps
    refine lc_over (G := base) (fun i ys => ys.length = i ∧ ∀ (j : Nat) y, ys[j]? = some y → ∃ t tok, ts[j]? = some t ∧ y = .str t.x tok) (by rfl) (by decide) rfl (by decide) rfl rfl ⟨rfl, fun j y e => by simp at e⟩ ?_
    k_steps
    refine lcGo (.inr (News.isList N (.tail _ (.tail _ (.head _))))) F N (by rw [sizeLine_eq]; omega) ?turn2 ?done2
    case turn2 =>
      intro C i v ys h6 tk6 m6 E6 hv hyl hJ st6 hn6 hm6
      have F6 := frStays F st6
      have N6 := newsStays N st6
      obtain ⟨t, g1, a1, u1, m1, rfl, ha1, _, _⟩ := (kown.at F6 N6 hownL).1.2.2 i v hv
      refine lcTests_nil ?_
      k_steps
      refine tup_at ha1 (j := 0) rfl (by decide) rfl ?_
      k_steps
      exact lcElt (fun _ _ e => e) (snocJ (P := fun j y => ∃ t tok, ts[j]? = some t ∧ y = .str t.x tok) hJ ⟨t, u1, g1, rfl⟩)
    case done2 =>
      intro D h6 tk6 ys k6 F6 N6 lD hyl hJ st6 hDz
      have hso : StrsOf ys (ts.map (·.x)) := ⟨by rw [List.length_map, hJ.1, hlt], fun j y e => by
        obtain ⟨t, tok, g, e2⟩ := hJ.2 j y e
        exact ⟨t.x, tok, by rw [List.getElem?_map, g]; rfl, e2⟩⟩
      (try dsimp only)
      k_steps
      refine notin_strs (News.isList N6 (.head _)) hso ?_
      replace N6 := News.drop1 N6
      replace F6 : Fr base L h6 _ := F6
      replace N6 : News base L h6 _ := N6
      k_steps
      · have hin : x ∈ ts.map (·.x) := by assumption
        refine due1_intro (by assumption) (by assumption) ⟨fun e => absurd hin (of_decide_eq_false ((Bool.not_eq_true' _).mp e)), fun e => absurd hin e.1⟩
      · have hin : ¬ x ∈ ts.map (·.x) := by assumption
        rcases hmv with ⟨mm, mt, rfl, hm012⟩ | rfl
        · k_steps
          refine due1_intro (by assumption) (by assumption) ⟨fun e => ⟨hin, mm, mt, rfl, Int.add_one_le_of_lt (show 0 < mm by simpa using e)⟩, fun e => ?_⟩
          obtain ⟨_, m', t', e', h1⟩ := e
          cases e'
          simpa using Int.lt_of_lt_of_le (show (0 : Int) < 1 by decide) h1
        · k_steps
          refine due1_intro (by assumption) (by assumption) ⟨fun e => absurd e (by decide), fun e => by obtain ⟨_, m', t', e', h1⟩ := e; cases e'⟩
  obtain ⟨d1, h2, tk2, hd1, F2, N2⟩ := hs1
  dsimp only
  clear F N
  refine wpAny_execs_cons (wpAny_mono (Q := Due2 base L (fun y => if y = Str.ofString "due" then some (.bool d1) else M2 y) NL (addOk b.names.length d.Dn x mv RL RU) { heap := h2, gens := gens, drawn := drawn, toks := tk2, os := os }) ?s2 (fun f s' hs2 => ?_) fun _ _ e => e)
  case s2 =>
    have hnl : b.names.length = n := by rw [hnm.1, atomNames_len]
    have hadd := add_iff (x := x) (mv := mv) (RL := RL) (RU := RU) hnl hT.num
    cases d1 with
    | false =>
      k_steps
      refine due2_intro (by assumption) (by assumption) ⟨fun e => absurd e (by decide), fun e => ?_⟩
      obtain ⟨a, ar, t, b, c, _⟩ := hadd.mp e
      exact absurd (hd1.mpr ⟨a, ar, t, b, c⟩) (by decide)
    | true =>
      obtain ⟨hin, mm, mt, rfl, hm1⟩ := hd1.mp rfl
      have hm12 : mm = 1 ∨ mm = 2 := by
        rcases hmv with ⟨_, _, e, h⟩ | e
        · cases e; omega
        · cases e
      have hn13 : (1 : Int) ≤ n ∧ (n : Int) ≤ 3 := by omega
      k_steps
      have hR := (kown.at F2 N2 hownL).2
      refine is_set_call (pureAt K0 KX T rfl F2 rfl rfl) (by rw [depth_deeper, depth_caller]; decide) (by rw [units_deeper, units_caller]; decide) hR.1 sL.1 sL.2 hn13 hm12 fun bl h3 tk3 hbl st3 => ?_
      have F3 := frStays F2 st3
      have N3 := newsStays N2 st3
      clear F2 N2
      dsimp only
      cases bl with
      | false =>
        k_steps
        refine due2_intro (by assumption) (by assumption) ⟨fun e => absurd e (by decide), fun e => ?_⟩
        obtain ⟨_, ar, t, e, _, c, _⟩ := hadd.mp e
        cases e
        exact absurd (hbl.mpr c) (by decide)
      | true =>
        have okL := hbl.mp rfl
        k_steps
        have hR := (kown.at F3 N3 hownL).2
        refine is_set_call (pureAt K0 KX T rfl F3 rfl rfl) (by rw [depth_deeper, depth_caller]; decide) (by rw [units_deeper, units_caller]; decide) hR.2 sU.1 sU.2 hn13 hm12 fun bu h4 tk4 hbu st4 => ?_
        have F4 := frStays F3 st4
        have N4 := newsStays N3 st4
        clear F3 N3
        dsimp only
        cases bu with
        | false =>
          k_steps
          refine due2_intro (by assumption) (by assumption) ⟨fun e => absurd e (by decide), fun e => ?_⟩
          obtain ⟨_, ar, t, e, _, _, c, _⟩ := hadd.mp e
          cases e
          exact absurd (hbu.mpr c) (by decide)
        | true =>
          have okU := hbu.mp rfl
          k_steps
          have hR := (kown.at F4 N4 hownL).2
          obtain ⟨tL, rl⟩ := RL
          obtain ⟨tU, ru⟩ := RU
          obtain rfl : tL = true := okL.1
          obtain rfl : tU = true := okU.1
          obtain ⟨⟨vs, hvs, hrows⟩, hRU⟩ := hR
          rw [if_pos rfl] at hvs
          have ir : ∀ r ∈ rl, intRow r := fun r hr => (okL.2.1 r hr).int
          have iu : ∀ r ∈ ru, intRow r := fun r hr => (okU.2.1 r hr).int
          have hvl : vs.length ≤ 20 := by rw [hrows.length]; exact sL.2
          refine lc_over (G := base) (cl := [(Str.ofString "upper", L + 1 + 1 + 1)]) (fun i ys => NotIn vs rl ru i ys) (by rfl) (by decide) rfl (by decide) rfl rfl ⟨fun _ h => (nomatch h), fun _ j r hj => absurd hj (Nat.not_lt_zero _), fun _ => rfl⟩ ?_
          k_steps
          refine lcGo (.inl hvs) F4 N4 (by rw [sizeLine_eq]; omega) ?turn3 ?done3
          case turn3 =>
            intro C i3 v ys h6 tk6 m6 E6 hv hyl hJ st6 hn6 hm6
            have F6 := frStays F4 st6
            have N6 := newsStays N4 st6
            obtain ⟨r, hr, hra⟩ := hrows.get hv
            have hra' := hra.keeps st6
            obtain ⟨a, cs, rfl, _⟩ := id hra
            have hrr := List.mem_of_getElem? hr
            refine lcTests_one ?_
            k_steps
            obtain ⟨as, rc⟩ := reads_rel (hRU.keeps st6)
            refine PySem.SeqAt.notIn_tuple_reads (xs := ru.map rowD) rc (reads_row hra') (canLay_rows ru) (canLay_row r) ?units ?_
            case units =>
              rw [units_deeper, units_caller, cLine_is]
              have := depth_rows ru
              have := Nat.min_le_left (PyData.depthAll (ru.map rowD)) (rowD r).depth
              omega
            rw [any_rows iu (ir r hrr)]
            k_steps
            exact lcIf (fun _ _ e => e) (fun q => by k_steps; exact lcElt (fun _ _ e => e) (hJ.yes (List.mem_of_getElem? hv) hr (of_decide_eq_false ((Bool.not_eq_true' _).mp q)))) (fun q => hJ.no hr (of_decide_eq_true (by simpa using q)))
          case done3 =>
            intro D h6 tk6 ys k6 F6 N6 lD hyl hJ st6 hDz
            replace F6 : Fr base L h6 _ := F6
            replace N6 : News base L h6 _ := N6
            dsimp only
            k_steps
            refine newList_stays F6 N6 (fun h7 F7 N7 st7 => ?_) (by rw [sizeLine_eq]; exact Nat.le_of_ble_eq_true rfl)
            obtain ⟨qs, hqs, _⟩ := rows_of (hrows.keeps (fun b o e => st7 b o (st6 b o e))) hJ.1
            have r1 : Reads h7 (.ref D) (.list (qs.map rowD)) [D] := .list (N7 _ (.tail _ (.head _))).1 rfl rfl (reads_rows hqs)
            have r2 : Reads h7 (.ref h6.objs.size) (.list []) [h6.objs.size] := .list (N7 _ (.head _)).1 rfl rfl .nil
            k_steps
            refine eq_dataH r1 r2 (shaped_rowsList _) (by decide +kernel) (by rw [units_deeper, units_caller, cLine_is]; decide) ?_
            rw [eqv_nillist]
            have hz : qs.isEmpty = true ↔ ∀ r ∈ rl, r ∈ ru := by
              have e1 : qs.isEmpty = true ↔ ys = [] := by
                rw [List.isEmpty_iff, ← List.length_eq_zero_iff, ← List.length_eq_zero_iff, hqs.length]
              rw [e1, hJ.2]
              refine ⟨fun h r hr => ?_, fun h j r _ hr => h r (List.mem_of_getElem? hr)⟩
              obtain ⟨j, hj⟩ := List.getElem?_of_mem hr
              exact h j r (by rw [hrows.length]; exact (List.getElem?_eq_some_iff.mp hj).1) hj
            clear F6 N6
            replace N7 := News.drop1 (News.drop1 N7)
            k_steps
            refine due2_intro (by assumption) (by assumption) (hz.trans ?_)
            rw [hadd]
            exact ⟨fun h => ⟨hin, mm, mt, rfl, hm1, okL, okU, h⟩, fun ⟨_, _, _, _, _, _, _, h⟩ => h⟩
  obtain ⟨dv, h5, tk5, hdv, F5, N5⟩ := hs2
  dsimp only
  clear F2
  have hnl : b.names.length = n := by rw [hnm.1, atomNames_len]
  have A5 := turnN_none N5
  have hA : ∀ a ∈ b.adr, a ∈ turnA I l tl Dn L b := fun a ha => .tail _ (.tail _ (.tail _ (List.mem_append_left [Dn, L + 1 + 1 + 1, L + 1 + 1, L + 1] ha)))
  have hsub : ∀ {d : Held} {titems : List Value} {kt : Nat} {own : List (Addr × Obj)}, ∀ p ∈ b.led d, p ∈ turnN I l tl Dn L io lo b d titems kt kn c1 c2 c3 own := fun p hp => .tail _ (.tail _ (.tail _ (List.mem_append_left _ (List.mem_append_left _ hp))))
  have hok : d.Ok b w := ⟨S.lo, hT.di, hT.fl, S.ap, by rw [hT.len]; omega, by rw [hT.inB.1]; omega, by omega⟩
  have hRh := (kown.hid (lit := turnN I l tl Dn L io lo b d titems kt kn c1 c2 c3 []) (W := b.adr) F5 N5 oown fun a ha => ⟨hA a ha, (A5 a (hA a ha)).1⟩).2
  have hmv' : (∃ ar t, mv = .int ar t ∧ 0 ≤ ar ∧ ar ≤ 2) ∨ mv = .bool true := hmv.imp (fun ⟨m, t, e, h⟩ => ⟨m, t, e, by omega, by omega⟩) id
  have hdl : d.items.length = titems.length := by rw [hT.inB.1, hT.inT.1]
  k_steps
  refine taken_call (b := b) (d := d) (callee_at b.adr K0 KX T rfl F5 rfl rfl (led_out N5 hsub)) KX T (by rw [depth_deeper, depth_caller]; decide) (by rw [units_deeper, units_caller]; decide) (led_in N5 hsub) hok hRh.1 hRh.2 sL sU hmv' (relName_ok hx).1 hex ?ok ?no
  case no =>
    intro hno t h6 tk6 k6 u6 kp6
    obtain rfl : dv = false := by
      cases dv with
      | false => rfl
      | true => exact absurd (hdv.mp rfl) hno
    have kb := keepOf (sub := b.led d) (fun p hp => (N5 p (hsub p hp)).1) k6 u6 kp6
    have F6 := frAgain K0 F5 kb
    have N6 := newsAgain K0 N5 kb
    replace F6 : Fr base L h6 _ := F6
    replace N6 : News base L h6 _ := N6
    dsimp only
    clear F5 N5 hRh
    k_steps
    have q6 := (kown.hid (lit := turnN I l tl Dn L io lo b d titems kt kn c1 c2 c3 []) (W := b.adr) F6 N6 oown fun a ha => ⟨hA a ha, (A5 a (hA a ha)).1⟩).1
    refine is_kept_call (b := b) (d := d) (ts := ts) (titems := titems) (callee_at _ K0 KX T rfl F6 rfl rfl (led_out N6 hsub)) KX T (by rw [depth_deeper, depth_caller]; decide) (by rw [units_deeper, units_caller]; decide) (led_in N6 hsub) hok ((News.isList N6 (.tail _ (.tail _ (.head _)))).at fun o e => hideAll_get _ e fun q => ap.tl (List.mem_append_left [Dn, L + 1 + 1 + 1, L + 1 + 1, L + 1] q)) q6.1 q6.2 hT.num (by omega) hT.names fun h7 tk7 k7 u7 kp7 => ?_
    have kb7 := keepOf (sub := b.led d) (fun p hp => (N6 p (hsub p hp)).1) k7 u7 kp7
    have F7 := frAgain K0 F6 kb7
    have N7 := newsAgain K0 N6 kb7
    replace F7 : Fr base L h7 _ := F7
    replace N7 : News base L h7 _ := N7
    dsimp only
    clear F6 N6 kb
    k_steps
    exact ⟨h7, _, _, F7.ns, law_close ap F7 N7 oown (fun h' g k => (kown h' g k).1) ⟨rfl, rfl, rfl, rfl, rfl⟩ e1 e2 e3 hT.di hT.fl hT.num hT.len hT.names (by omega), fun p hp => by
      rcases List.mem_cons.mp hp with rfl | hp
      · exact (N7 _ (.head _)).1
      · rw [List.mem_singleton.mp hp]; exact (N7 _ (.tail _ (.head _))).1⟩
  case ok =>
    intro hadd t h6 tk6 d' a4 t1 k6 fa4 i6 di6 fl6 kv6 dn6 ea4 kp6
    obtain rfl : dv = true := hdv.mpr hadd
    obtain ⟨F6, N6⟩ := turn_behind ap F5 N5 oown k6 kp6
    obtain ⟨N6, o6⟩ := own_cons F5 N5 oown N6 fa4 ea4
    obtain ⟨_, mm, mt, rfl, hm1, okL, okU, _⟩ := id hadd
    obtain ⟨tU, ru⟩ := RU
    obtain rfl : tU = true := okU.1
    have hin := ((add_iff (x := x) (mv := .int mm mt) (RL := RL) (RU := ⟨true, ru⟩) hnl hT.num).mp hadd).1
    have kown6 : Keeps base ((a4, tldObj x tx (.int mm mt) lo2 up) :: own) (fun h => (TldsAre h d'.items (ts ++ [⟨x, mm, lo2, up, RL, ⟨true, ru⟩⟩]) ∧ TldsAre h titems ts) ∧ RelAt h lo2 RL ∧ RelAt h up ⟨true, ru⟩) := fun h' g kk => by
      have q := kown h' g (fun p hp => kk p (.tail _ hp))
      rw [i6]
      exact ⟨⟨q.1.1.snoc ⟨a4, tx, mt, rfl, kk _ (.head _), q.2.1, q.2.2⟩, q.1.2⟩, q.2⟩
    rw [hdl]
    dsimp only
    clear F5 N5 hRh
    k_steps
    refine PyProof.Rows.len_list (News.isList N6 (.tail _ (.tail _ (.head _)))) (by rw [List.size_toArray]; omega) ?_
    rw [List.size_toArray]
    k_steps
    refine newTup_stays F6 N6 (fun h7 F7 N7 st7 l7 => ?_) (by rw [sizeLine_eq]; exact Nat.le_of_ble_eq_true rfl)
    generalize ht5 : h6.objs.size = t5 at N7 l7
    k_steps
    refine append_K F7 N7 (.tail (Nat.ne_of_gt (l7 _ (.tail _ (.tail _ (.head _))))) (.tail (fun q => ap.I (q ▸ .tail _ (.head _))) (.tail (fun q => ap.l (q ▸ .head _)) (.head fun p hp => tl_off ap o6 p hp)))) (fun h8 F8 N8 => ?_) (by rw [List.size_toArray, sizeLine_eq]; omega)
    rw [show titems.toArray.push (Value.ref t5) = (titems ++ [Value.ref t5]).toArray by simp] at N8
    replace N8 := own_front N8
    have o8 := own_above (ob := tldObj x tx (.int mm mt) lo2 up) o6 l7
    have kown8 : Keeps base ((t5, tldObj x tx (.int mm mt) lo2 up) :: (a4, tldObj x tx (.int mm mt) lo2 up) :: own) (fun h => (TldsAre h d'.items (ts ++ [⟨x, mm, lo2, up, RL, ⟨true, ru⟩⟩]) ∧ TldsAre h (titems ++ [Value.ref t5]) (ts ++ [⟨x, mm, lo2, up, RL, ⟨true, ru⟩⟩])) ∧ RelAt h lo2 RL ∧ RelAt h up ⟨true, ru⟩) := fun h' g kk => by
      have q := kown6 h' g (fun p hp => kk p (.tail _ hp))
      exact ⟨⟨q.1.1, q.1.2.snoc ⟨t5, tx, mt, rfl, kk _ (.head _), q.2.1, q.2.2⟩⟩, q.2⟩
    have hU : ∀ {titems : List Value} {kt : Nat} {own : List (Addr × Obj)}, ∀ p ∈ uniL b.U b.Ud b.T b.D b.q4 b.q5 b.k4 b.k5 b.names, p ∈ turnN I l tl Dn L io lo b d' titems kt kn c1 c2 c3 own := fun p hp => hsub p (.tail _ (.tail _ (.tail _ (.tail _ hp))))
    have hUA : ∀ a ∈ (uniL b.U b.Ud b.T b.D b.q4 b.q5 b.k4 b.k5 b.names).map (·.1), a ∈ b.adr := fun a ha => .tail _ (.tail _ (.tail _ (.tail _ ha)))
    clear F7 N7 F6 N6 kown6 l7 o6 st7
    let NL8 := turnN I l tl Dn L io lo b d' (titems ++ [Value.ref t5]) (kt + 1) kn c1 c2 c3 ((t5, tldObj x tx (.int mm mt) lo2 up) :: (a4, tldObj x tx (.int mm mt) lo2 up) :: own)
    replace N8 : News base L h8 NL8 := N8
    k_steps
    have q8 := (kown8.hid (lit := turnN I l tl Dn L io lo b d' (titems ++ [Value.ref t5]) (kt + 1) kn c1 c2 c3 []) (W := (uniL b.U b.Ud b.T b.D b.q4 b.q5 b.k4 b.k5 b.names).map (·.1)) F8 N8 o8 fun a ha => ⟨hA a (hUA a ha), (A5 a (hA a (hUA a ha))).1⟩).2.2
    have hshow := shown_of hnm okU hm1 sU
    refine set_text_call (callee_at _ K0 KX T rfl F8 rfl rfl (led_out N8 hU)) (by rw [depth_deeper, depth_caller]; decide) (by rw [units_deeper, units_caller]; decide) (led_in N8 hU) (namesOk n3 hnm) q8 hshow fun t9 h9 tk9 k9 kp9 => ?_
    have F9 := frStays F8 (led_stays N8 hU k9 kp9)
    have N9 := newsStays N8 (led_stays N8 hU k9 kp9)
    clear F8 N8
    dsimp only
    k_steps
    have q9 := (kown8.now (lit := turnN I l tl Dn L io lo b d' (titems ++ [Value.ref t5]) (kt + 1) kn c1 c2 c3 []) F9 N9).2.2
    refine law_text_call (pureAt K0 KX T rfl F9 rfl rfl) (by rw [depth_deeper, depth_caller]; decide) (by rw [units_deeper, units_caller]; decide) (News.isList N9 (List.mem_of_getElem? (i := 10) rfl)) (namesOk n3 hnm) q9 hshow fun tA hA1 tkA kA => ?_
    have FA := frStays F9 kA
    have NA := newsStays N9 kA
    clear F9 N9
    dsimp only
    k_steps
    have htsl : (ts ++ [(⟨x, mm, lo2, up, RL, ⟨true, ru⟩⟩ : Tld)]).length = ts.length + 1 := by rw [List.length_append]; rfl
    have hDl : d'.Dn.length = ts.length + 1 := by
      rw [dn6, length_putD, if_neg (by rw [hadd.1]; exact Bool.false_ne_true), hT.len]
    have hil : d'.items.length = ts.length + 1 := by rw [i6, List.length_append, hT.inB.1]; rfl
    have hok' : d'.Ok b w := ⟨S.lo, di6, fl6, S.ap, by omega, by omega, by omega⟩
    have hnum : NumsAre d'.Dn ((ts ++ [(⟨x, mm, lo2, up, RL, ⟨true, ru⟩⟩ : Tld)]).map (·.x)) := by
      rw [dn6, List.map_append]
      exact NumsAre.put hT.num hin (by rw [List.length_map, hT.inB.1])
    have hnms : ∀ t ∈ ts ++ [(⟨x, mm, lo2, up, RL, ⟨true, ru⟩⟩ : Tld)], t.x.length ≤ 100 ∧ (PyData.str t.x).canLay0 = true := fun t ht => by
      rcases List.mem_append.mp ht with ht | ht
      · exact hT.names t ht
      · rw [List.mem_singleton.mp ht]; exact relName_ok hx
    have qA := (kown8.hid (lit := turnN I l tl Dn L io lo b d' (titems ++ [Value.ref t5]) (kt + 1) kn c1 c2 c3 []) (W := b.adr) FA NA o8 fun a ha => ⟨hA a ha, (A5 a (hA a ha)).1⟩).1
    refine is_kept_call (b := b) (d := d') (ts := ts ++ [(⟨x, mm, lo2, up, RL, ⟨true, ru⟩⟩ : Tld)]) (titems := titems ++ [Value.ref t5]) (callee_at _ K0 KX T rfl FA rfl rfl (led_out NA hsub)) KX T (by rw [depth_deeper, depth_caller]; decide) (by rw [units_deeper, units_caller]; decide) (led_in NA hsub) hok' ((News.isList NA (.tail _ (.tail _ (.head _)))).at fun o e => hideAll_get _ e fun q => ap.tl (List.mem_append_left [Dn, L + 1 + 1 + 1, L + 1 + 1, L + 1] q)) qA.1 qA.2 hnum (by omega) hnms fun hB tkB kB uB kpB => ?_
    have kbB := keepOf (sub := b.led d') (fun p hp => (NA p (hsub p hp)).1) kB uB kpB
    have FB := frAgain K0 FA kbB
    have NB := newsAgain K0 NA kbB
    replace FB : Fr base L hB _ := FB
    replace NB : News base L hB _ := NB
    dsimp only
    clear FA NA
    k_steps
    exact ⟨hB, _, _, FB.ns, law_close ap FB NB o8 (fun h' g k => (kown8 h' g k).1) ⟨rfl, rfl, rfl, rfl, rfl⟩ e1 e2 e3 di6 fl6 hnum (hDl.trans htsl.symm) hnms (by omega), fun p hp => by
      rcases List.mem_cons.mp hp with rfl | hp
      · exact (NB _ (.head _)).1
      · rw [List.mem_singleton.mp hp]; exact (NB _ (.tail _ (.head _))).1⟩
end

section
open PySem PySem.W PySem.Calls PyProof.Rows PySem.Spec PyProof.V
/-- what of the ledger the first half of a turn lets alone -/
noncomputable abbrev turnW (I l tl Dn : Addr) (io lo : Obj) (b : Bnd) (d : Held) (titems : List Value) (kt kn : Nat) : List (Addr × Obj) := (I, io) :: (l, lo) :: (tl, listOf titems.toArray kt) :: (b.led d ++ [(Dn, listOf b.names.toArray kn)])
section
variable {base h : Heap} {I l tl Dn L rest : Addr} {io lo : Obj} {b : Bnd} {d : Held} {titems : List Value} {kt kn : Nat} {c1 c2 c3 : Obj} {own W : List (Addr × Obj)}
theorem turn_front (N : News base L h ((I, io) :: (l, lo) :: (tl, listOf titems.toArray kt) :: (b.led d ++ [(Dn, listOf b.names.toArray kn), (L + 1 + 1 + 1, c3), (L + 1 + 1, c2), (L + 1, c1)]))) (N0 : News base L h own) :
    News base L h ((L + 1 + 1 + 1, c3) :: (L + 1 + 1, c2) :: (L + 1, c1) :: (turnW I l tl Dn io lo b d titems kt kn ++ own)) := fun p hp => by
  rcases List.mem_cons.mp hp with rfl | hp
  · exact News.nth N 11 rfl
  rcases List.mem_cons.mp hp with rfl | hp
  · exact News.nth N 12 rfl
  rcases List.mem_cons.mp hp with rfl | hp
  · exact News.nth N 13 rfl
  rcases List.mem_append.mp hp with hp | hp
  · exact N p (List.mem_append_left [(L + 1 + 1 + 1, c3), (L + 1 + 1, c2), (L + 1, c1)] hp)
  · exact N0 p hp
theorem turn_back (N : News base L h ((L + 1 + 1 + 1, c3) :: (L + 1 + 1, c2) :: (L + 1, c1) :: (turnW I l tl Dn io lo b d titems kt kn ++ own))) : News base L h (turnN I l tl Dn L io lo b d titems kt kn c1 c2 c3 own) := fun p hp => by
  replace hp : p ∈ (turnW I l tl Dn io lo b d titems kt kn ++ [(L + 1 + 1 + 1, c3), (L + 1 + 1, c2), (L + 1, c1)]) ++ own := hp
  rcases List.mem_append.mp hp with hp | hp
  · rcases List.mem_append.mp hp with hp | hp
    · exact N p (.tail _ (.tail _ (.tail _ (List.mem_append_left _ hp))))
    · exact N p (List.mem_append_left (turnW I l tl Dn io lo b d titems kt kn ++ own) hp)
  · exact N p (.tail _ (.tail _ (.tail _ (List.mem_append_right _ hp))))
theorem turn_np {w : World} {n : Nat} {xs : Array Value} {k : Nat} (hio : io.cls = .type "list_iterator") (hlo : lo = listOf xs k) (di : d.ond.IsDictOf (strKind Challenge.pw_nu0267_01 w) d.kvs) (hnm : StrsOf b.names (atomNames n)) (n1 : 1 ≤ n) :
    ∀ q ∈ turnW I l tl Dn io lo b d titems kt kn, ¬ PartOk q.2 := fun q hq =>
  have z : (⟨.none, none, .cell none, #[]⟩ : Obj).data = .cell none := rfl
  np_turn (I := I) (l := l) (tl := tl) (Dn := Dn) (zs := titems.toArray) (k3 := kt) (kn := kn) (rest := 0) (a1 := 0) (a2 := 0) (a3 := 0) (xs := #[]) (k1 := 0) hio hlo di hnm n1 z z z q
    (.tail _ (List.mem_append_left [((0, ⟨.none, none, .cell none, #[]⟩) : Addr × Obj), (0, ⟨.none, none, .cell none, #[]⟩), (0, ⟨.none, none, .cell none, #[]⟩)] hq))
theorem turn_off (h : StatNe L [I, l, tl, b.bl, b.nd, b.B, b.Bd, b.U, b.Ud, b.T, Dn]) : OwnOff (turnW I l tl Dn io lo b d titems kt kn) [L + 1 + 1 + 1, L + 1 + 1, L + 1] := fun p hp a ha => by
  have := h p.1 (show p.1 ∈ (turnW I l tl Dn io lo b d titems kt kn).map (·.1) from List.mem_map_of_mem hp)
  rcases List.mem_cons.mp ha with rfl | ha
  · exact this.2.2
  rcases List.mem_cons.mp ha with rfl | ha
  · exact this.2.1
  · rw [List.mem_singleton.mp ha]; exact this.1
theorem turn_offA (o : OwnOff own [I, l, tl, b.bl, b.nd, b.B, b.Bd, b.U, b.Ud, b.T, Dn, L + 1 + 1 + 1, L + 1 + 1, L + 1]) : OwnOff own ((L + 1 + 1 + 1) :: (L + 1 + 1) :: (L + 1) :: (turnW I l tl Dn io lo b d titems kt kn).map (·.1)) := fun p hp a ha => by
  refine o p hp a (show a ∈ (turnW I l tl Dn io lo b d titems kt kn).map (·.1) ++ [L + 1 + 1 + 1, L + 1 + 1, L + 1] from ?_)
  exact (List.mem_append (s := [L + 1 + 1 + 1, L + 1 + 1, L + 1])).mp ha |>.elim (fun q => List.mem_append_right _ q) fun q => List.mem_append_left _ q
theorem turn_onA (o : OwnOff own (rest :: (L + 1 + 1 + 1) :: (L + 1 + 1) :: (L + 1) :: (turnW I l tl Dn io lo b d titems kt kn).map (·.1))) : OwnOff own (turnA I l tl Dn L b) := fun p hp a ha => by
  refine o p hp a (.tail _ ?_)
  exact (List.mem_append (s := (turnW I l tl Dn io lo b d titems kt kn).map (·.1)) (t := [L + 1 + 1 + 1, L + 1 + 1, L + 1])).mp ha |>.elim (fun q => List.mem_append_right [L + 1 + 1 + 1, L + 1 + 1, L + 1] q) fun q => List.mem_append_left _ q
theorem own_newA {adr adr' : List Addr} {x : Addr} (o : OwnOff own adr) (oW : OwnOff W adr') (h : AllLt x (W ++ own)) : OwnOff own (x :: adr) ∧ OwnOff W (x :: adr') :=
  ⟨fun p hp a ha => (List.mem_cons.mp ha).elim (fun q => q ▸ Nat.ne_of_lt (allLt_mem h p (List.mem_append_right _ hp))) fun q => o p hp a q,
   fun p hp a ha => (List.mem_cons.mp ha).elim (fun q => q ▸ Nat.ne_of_lt (allLt_mem h p (List.mem_append_left _ hp))) fun q => oW p hp a q⟩
theorem allApp {α : Type} {l l' : List α} {P : α → Prop} (h : ∀ p ∈ l, P p) (h' : ∀ p ∈ l', P p) : ∀ p ∈ l ++ l', P p := fun p hp => (List.mem_append.mp hp).elim (h p) (h' p)
theorem turn_gen {w : World} {n : Nat} {xs : Array Value} {k : Nat} {P : Prop} (hio : io.cls = .type "list_iterator") (hlo : lo = listOf xs k) (di : d.ond.IsDictOf (strKind Challenge.pw_nu0267_01 w) d.kvs) (hnm : StrsOf b.names (atomNames n)) (n1 : 1 ≤ n)
    (hst : StatNe L [I, l, tl, b.bl, b.nd, b.B, b.Bd, b.U, b.Ud, b.T, Dn]) (o : OwnOff own [I, l, tl, b.bl, b.nd, b.B, b.Bd, b.U, b.Ud, b.T, Dn, L + 1 + 1 + 1, L + 1 + 1, L + 1])
    (N : News base L h ((I, io) :: (l, lo) :: (tl, listOf titems.toArray kt) :: (b.led d ++ [(Dn, listOf b.names.toArray kn), (L + 1 + 1 + 1, c3), (L + 1 + 1, c2), (L + 1, c1)]))) (N0 : News base L h own)
    (q : ∀ W, turnW I l tl Dn io lo b d titems kt kn = W → (∀ q ∈ W, ¬ PartOk q.2) → OwnOff W [L + 1 + 1 + 1, L + 1 + 1, L + 1] → OwnOff own ((L + 1 + 1 + 1) :: (L + 1 + 1) :: (L + 1) :: W.map (·.1)) → News base L h ((L + 1 + 1 + 1, c3) :: (L + 1 + 1, c2) :: (L + 1, c1) :: (W ++ own)) → P) : P :=
  q _ rfl (turn_np hio hlo di hnm n1) (turn_off hst) (turn_offA o) (turn_front N N0)
theorem np4 {a1 a2 a3 : Addr} {xs : Array Value} {k : Nat} {v1 v2 v3 : Option Value} (hW : ∀ q ∈ W, ¬ PartOk q.2) (e1 : c1.data = .cell v1) (e2 : c2.data = .cell v2) (e3 : c3.data = .cell v3) :
    ∀ q ∈ (rest, listOf xs k) :: (a3, c3) :: (a2, c2) :: (a1, c1) :: W, ¬ PartOk q.2 :=
  List.forall_mem_cons.mpr ⟨not_list, List.forall_mem_cons.mpr ⟨not_cell e3, List.forall_mem_cons.mpr ⟨not_cell e2, List.forall_mem_cons.mpr ⟨not_cell e1, hW⟩⟩⟩⟩
end
/-- the names that the first half of a turn lets alone -/
noncomputable abbrev lawMap0 (b : Bnd) (tl Dn : Addr) (n : Nat) (tn : Tok) (m : Str → Option Value) : Str → Option Value := fun y => if y = Str.ofString "bounds" then some (.ref b.B) else if y = Str.ofString "told" then some (.ref tl) else if y = Str.ofString "universe" then some (.ref b.U) else if y = Str.ofString "names" then some (.ref Dn) else if y = Str.ofString "n" then some (.int n tn) else m y
end

section
open PySem PySem.W PySem.Calls PyProof.Rows PySem.Spec PyProof.V
local macro_rules | `(tactic| k_ne) => `(tactic| walk_at "kne")
local macro_rules | `(tactic| walk_at $s) => Mine.red [] s
local macro_rules | `(tactic| walk_at $s) => Mine.red [("binaryOp Add ref ref", "m"), ("exec Assign cons ListComp", "m"), ("execs cons", "due"), ("call type:tuple", "m")] s
set_option hygiene false in
local macro_rules | `(tactic| k_all) => `(tactic| (refine Mine.allApp ?a1 ?a2; (case a1 => exact OwnOff.ne (by assumption) (by k_memK)); (case a2 => exact OwnOff.ne (by assumption) (by k_memK))))
set_option maxHeartbeats 8000000 in
theorem law_turn {w : World} {base : Heap} {mean : ExcName → Option Value} {mg mb : Str → Option Value} {L fa cd I l tl Dn : Addr} {b : Bnd} {kn n i : Nat} {tn : Tok} {m : Str → Option Value} {h : Heap} {s : Shared} {io lo : Obj} {kv : Int} {vt : Tok} {Q : Flow → Shared → Prop} {E : Value → Shared → Prop}
    (K0 : Below callerA base [] base) (KX : (Mine.hd.heap_39 w.params).In base) (T : Top Mine.hd.view_39 (looseW Mine.hd.view_39 []) mean mg mb base)
    (S : LawS base L b tl Dn) (n1 : 1 ≤ n) (n3 : n ≤ 3) (hnm : StrsOf b.names (atomNames n)) (k0 : 0 ≤ kv) (k1 : kv < 1000000007) (hi : i < 8)
    (hJ : LawJ w base L l b tl Dn kn n tn i m (hideAll h [L, I])) (hL : base.objs.size ≤ L) (hio : h.get? I = some io) (hIL : I ≠ L) (gI : base.get? I = none) (hic : io.cls = .type "list_iterator") {lxs : Array Value} {lk : Nat} (hlo : lo = listOf lxs lk) (hls : h.get? l = some lo) (hlL : l ≠ L) (gl : base.get? l = none)
    (hIl : StatNe L [I, l]) (hII : I ≠ l) (hIs : ∀ a ∈ stat b tl Dn, I ≠ a ∧ l ≠ a) (hns : h.Ns L (fun y => if y = Str.ofString "number" then some (.int kv vt) else m y))
    {name qual : Str} {params : Arguments} {body : List Stmt} {scope : Scope} {dV kV doc pm cdv ct oc : Value} {an od : Option Addr} {osl : Array (Option Value)}
    (ho : (Mine.hd.heap_39 w.params).lookup 261 = some ⟨oc, od, .func (fnOf name qual params body scope dV kV doc pm an cdv ct), osl⟩) :
    wpAny (model Challenge.pw_nu0267_01 w) (callerA.deeper (envOfC qual scope L fa (.ref cd))) (execs (turnOf body) (envOfC qual scope L fa (.ref cd)))
      (TurnH (envOfC qual scope L fa (.ref cd)) Q (LawJ w base L l b tl Dn kn n tn (i + 1)) I [(I, io), (l, lo)] { s with heap := h }) E { s with heap := h } := by
  refine' withFn (P := fun body scope qual _ => let env := envOfC qual scope L fa (.ref cd); wpAny (model Challenge.pw_nu0267_01 w) (callerA.deeper env) (execs (turnOf body) env)
      (TurnH env Q (LawJ w base L l b tl Dn kn n tn (i + 1)) I [(I, io), (l, lo)] { s with heap := h }) E { s with heap := h }) ?ho ho fun hoL => ?_
  case ho => k_is
  intro env
  clear ho
  obtain ⟨F, c1, c2, c3, v1, v2, v3, d, titems, kt, ts, e1, e2, e3, hT, hti, N⟩ := hJ.open S hns hL hio hIL gI hls hlL gl
  clear hns
  obtain ⟨heap, gens, drawn, toks, os⟩ := s
  obtain ⟨ro0, N0, oro0, kro0⟩ := told_own F hT
  have hst : StatNe L [I, l, tl, b.bl, b.nd, b.B, b.Bd, b.U, b.Ud, b.T, Dn] := fun a ha => (List.mem_append (s := [I, l])).mp ha |>.elim (hIl a) (S.ne a)
  have ap := law_apart S hst hII hIs
  refine turn_gen hic hlo hT.di hnm n1 hst oro0 N N0 fun W hW hnp offW oro0 N => ?_
  clear hst
  let Ms := lawMap0 b tl Dn n tn m
  replace F : Fr base L h (fun y => if y = Str.ofString "number" then some (.int kv vt) else Ms y) := F
  dsimp only [turnOf]
  show wpAny _ _ _ _ _ _
  k_fold
  have z1 : kv < 2 ^ 60 := Int.lt_trans k1 (by decide)
  k_steps
  rename_i rest h1 lx h1b ls h2 F2 N2 lt2
  obtain ⟨oro0, offW⟩ := own_newA oro0 offW lx.2.2.2
  refine digit_use F2 N2 K0 KX T rfl rfl rfl (by k_updF) (by rw [depth_deeper, depth_caller]; decide) (by rw [units_deeper, units_caller]; decide) (by decide) (by decide) k0 z1 fun t3 u3 p3 h3 tk3 F3 N3 a3 b3 k03 k13 _ => ?_
  (try dsimp only)
  clear F2 N2
  obtain ⟨x, tx, hx1, hx⟩ : ∃ x t, [Value.str (Str.ofString "r") tkA, Value.str (Str.ofString "s") (tkA + 1), Value.str (Str.ofString "t") (tkA + 1 + 1)][(kv % 3).toNat]? = some (.str x t) ∧ relName x := by
    have e : kv % 3 = 0 ∨ kv % 3 = 1 ∨ kv % 3 = 2 := by omega
    rcases e with e | e | e <;> rw [e]
    · exact ⟨_, _, rfl, .inl rfl⟩
    · exact ⟨_, _, rfl, .inr (.inl rfl)⟩
    · exact ⟨_, _, rfl, .inr (.inr rfl)⟩
  k_steps
  refine list_at (vs := [Value.str (Str.ofString "r") tkA, Value.str (Str.ofString "s") (tkA + 1), Value.str (Str.ofString "t") (tkA + 1 + 1)]) (News.isList N3 (.head _)) (Int.toNat_of_nonneg a3).symm (by omega) hx1 ?_
  replace N3 := News.drop1 N3
  clear lt2
  k_steps
  refine digit_use F3 N3 K0 KX T rfl rfl rfl (by k_updF) (by rw [depth_deeper, depth_caller]; decide) (by rw [units_deeper, units_caller]; decide) (by decide) (by decide) k03 k13 fun t4 u4 p4 h4 tk4 F4 N4 a4 b4 k04 k14 _ => ?_
  (try dsimp only)
  clear F3 N3
  k_steps
  obtain ⟨ar, har, har12⟩ : ∃ ar : Nat, 1 + kv / 3 % 2 = (ar : Int) ∧ (ar = 1 ∨ ar = 2) := ⟨(1 + kv / 3 % 2).toNat, by omega, by omega⟩
  rw [har]
  refine newTup_stays F4 N4 (fun h5 F5 N5 s5 l5 => ?_) (by rw [sizeLine_eq]; exact Nat.le_of_ble_eq_true rfl)
  have kr : ∃ y : Int, kv / 3 / 2 = y ∧ 0 ≤ y ∧ y < 2 ^ 60 := ⟨_, rfl, k04, k14⟩
  obtain ⟨kw, hkw, k05, k15⟩ := kr
  rw [hkw] at N5
  clear hkw k04 k14 har hx1 a3 b3 a4 b4 k03 k13 l5 z1
  k_steps
  (rename Fr _ _ _ _ => F6)
  (rename News _ _ _ _ => N6)
  replace N6 := News.drop1 N6
  refine rows_call (pureAt K0 KX T rfl F6 rfl rfl) ⟨n1, n3⟩ har12 (by rw [depth_deeper, depth_caller]; decide) (by rw [units_deeper, units_caller]; decide) fun D ys kD rs h7 tk7 s7 lD hD hrows hr9 hrs => ?_
  have F7 := frStays F6 s7
  have N7 := newsStays N6 s7
  replace N7 := newsAdd F6 N7 lD hD
  have lD' := newsUnder N6 lD
  obtain ⟨rr, Nrr, prr, krr⟩ := rows_own F7 (fun _ _ e => e) hrows
  obtain ⟨ro, N7', oro, kro⟩ := own_more (lit := _ :: _ :: _ :: _ :: _ :: W) N7 oro0 kro0 Nrr (parts_off (news := _ :: _ :: _ :: _ :: W) (fun p hp => N7 p (.tail _ (List.mem_append_left ro0 hp))) (np4 hnp e1 e2 e3) Nrr fun p hp => (prr p hp).1) krr
  replace N7 : News base L h7 (_ :: _ :: _ :: _ :: _ :: (W ++ ro)) := N7'
  clear N7' Nrr prr krr oro0 kro0
  k_lt lD'
  clear F6 N6 lD hD s7
  (try dsimp only)
  have hy9 : ys.length ≤ 9 := by rw [hrows.length]; exact hr9
  k_steps
  refine PyProof.Rows.len_list (News.isList (by assumption) (.head _)) (by rw [List.size_toArray]; omega) ?_
  rw [List.size_toArray]
  k_steps
  obtain ⟨pw, hpw, p1, p2⟩ := pow_small hy9
  rw [hpw]
  (rename Fr _ _ _ _ => F8)
  (rename News _ _ _ _ => N8)
  refine digit_use F8 N8 K0 KX T rfl rfl rfl (by k_updF) (by rw [depth_deeper, depth_caller]; decide) (by rw [units_deeper, units_caller]; decide) (by omega) (by omega) k05 k15 fun t9 u9 p9 h9 tk9 F9 N9 a9 b9 k09 k19 _ => ?_
  dsimp only at N9 ⊢
  clear F8 N8
  k_steps
  refine PyProof.Rows.len_list (News.isList (by assumption) (.head _)) (by rw [List.size_toArray]; omega) ?_
  rw [List.size_toArray]
  (try clear F9 N9)
  k_steps
  rw [hpw]
  (rename Fr _ _ _ _ => F8)
  (rename News _ _ _ _ => N8)
  refine digit_use F8 N8 K0 KX T rfl rfl rfl (by k_updF) (by rw [depth_deeper, depth_caller]; decide) (by rw [units_deeper, units_caller]; decide) (by omega) (by omega) k09 k19 fun tA uA pA hA tkA FA NA aA bA k0A k1A _ => ?_
  dsimp only at NA ⊢
  clear F8 N8
  k_steps
  refine unhaltB ?_
  rename_i hM dM hB1 qA eA xA oU hU FU NU dU
  refine' lc_enum (G := base) (cl := [(Str.ofString "under", L + 1 + 1)]) (fun i zs => ∀ z ∈ zs, z ∈ ys) ?k1 ?k2 ?k3 ?k4 ?k5 ?k6 ?k7 rfl (fun _ h => nomatch h) ?_
  case k1 => rfl
  case k2 => decide
  case k3 => rfl
  case k4 => decide
  case k5 => rfl
  case k6 => rfl
  case k7 => decide
  k_steps
  refine call_enumerate_list (News.isList NU (.head _)) fun h' hE hI hsz hk => ?_
  refine lcGoE (Nat.succ_ne_self _) (Nat.le_succ _) (Nat.le_refl _) hk hE hI (News.isList NU (.head _)) FU NU (by rw [sizeLine_eq]; omega) ?tl ?dl
  case tl =>
    intro C i3 v tki zs h2 tk2 m2 E2 hv hzl hJz st2 hn2 hmx hmi
    have F2 := frStays FU st2
    have N2 := newsStays NU st2
    refine lcTests_one ?_
    k_steps
    exact lcIf (fun _ _ e => e) (fun _ => by k_steps; exact lcElt (fun _ _ e => e) (fun z hz => (List.mem_append.mp hz).elim (hJz z) fun hz => List.mem_singleton.mp hz ▸ List.mem_of_getElem? hv)) (fun _ => hJz)
  case dl =>
    intro D2 h2 tk2 zs k2 F2 N2 lD2 hzl hJz st2
    replace F2 : Fr base L h2 _ := F2
    replace N2 : News base L h2 _ := N2
    (try dsimp only)
    k_steps
    refine tuple_any F2 N2 (News.isList N2 (.head _)) (by omega) fun c h3 F3 N3 k3 tc => ?_
    replace N3 := News.drop1 N3
    obtain ⟨qs, hqs, hq⟩ := rows_of (kro.now (lit := _ :: _ :: _ :: _ :: _ :: W) F3 N3).2 hJz
    obtain ⟨rl, Nrl, prl, krl⟩ := rel_own F3 (fun _ _ e => e) (RelAt.mk tc hqs)
    obtain ⟨own, N4, oown, kown⟩ := own_more (lit := _ :: _ :: _ :: _ :: _ :: W) N3 oro kro Nrl (parts_off (news := _ :: _ :: _ :: _ :: W) (fun p hp => N3 p (.tail _ (List.mem_append_left ro hp))) (np4 hnp hB1 dU e3) Nrl fun p hp => (prl p hp).1.elim id fun x => nomatch x.1) krl
    have tinyL : Tiny qs := ⟨by rw [← hqs.length]; omega, fun r hr => Nat.le_trans (hrs r (hq r hr)).1 (by decide)⟩
    (try clear N3 N2 F2 NU FU); clear oro kro Nrl prl krl hE hI hk lD2 hJz hqs hq hzl st2 k3 tc
    replace N4 : News base L h3 (_ :: _ :: _ :: _ :: _ :: (W ++ own)) := N4
    k_steps
    refine unhaltB ?_
    rename_i hV FV NV
    refine' lc_enum (G := base) (cl := [(Str.ofString "mask", L + 1)]) (fun i zs => ∀ z ∈ zs, z ∈ ys) ?k1 ?k2 ?k3 ?k4 ?k5 ?k6 ?k7 rfl (fun _ h => nomatch h) ?_
    case k1 => rfl
    case k2 => decide
    case k3 => rfl
    case k4 => decide
    case k5 => rfl
    case k6 => rfl
    case k7 => decide
    k_steps
    refine call_enumerate_list (News.isList NV (.head _)) fun h' hE hI hsz hk => ?_
    refine lcGoE (Nat.succ_ne_self _) (Nat.le_succ _) (Nat.le_refl _) hk hE hI (News.isList NV (.head _)) FV NV (by rw [sizeLine_eq]; omega) ?tl ?dl
    case tl =>
      intro C i3 v tki zs h2 tk2 m2 E2 hv hzl hJz st2 hn2 hmx hmi
      have F2 := frStays FV st2
      have N2 := newsStays NV st2
      refine lcTests_one ?_
      k_steps
      exact lcIf (fun _ _ e => e) (fun _ => by k_steps; exact lcElt (fun _ _ e => e) (fun z hz => (List.mem_append.mp hz).elim (hJz z) fun hz => List.mem_singleton.mp hz ▸ List.mem_of_getElem? hv)) (fun _ => hJz)
    case dl =>
      intro D2 h2 tk2 zs k2 F2 N2 lD2 hzl hJz st2
      replace F2 : Fr base L h2 _ := F2
      replace N2 : News base L h2 _ := N2
      (try dsimp only)
      k_steps
      refine tuple_any F2 N2 (News.isList N2 (.head _)) (by omega) fun cu h3 F3 N3 k3 tc => ?_
      replace N3 := News.drop1 N3
      obtain ⟨qu, hqu, hq⟩ := rows_of (kown.now (lit := _ :: _ :: _ :: _ :: _ :: W) F3 N3).1.2 hJz
      obtain ⟨rl, Nrl, prl, krl⟩ := rel_own F3 (fun _ _ e => e) (RelAt.mk tc hqu)
      obtain ⟨own2, N4, oown2, kown2⟩ := own_more (lit := _ :: _ :: _ :: _ :: _ :: W) N3 oown kown Nrl (parts_off (news := _ :: _ :: _ :: _ :: W) (fun p hp => N3 p (.tail _ (List.mem_append_left own hp))) (np4 hnp hB1 dU e3) Nrl fun p hp => (prl p hp).1.elim id fun x => nomatch x.1) krl
      have tinyU : Tiny qu := ⟨by rw [← hqu.length]; omega, fun r hr => Nat.le_trans (hrs r (hq r hr)).1 (by decide)⟩
      (try clear N3 N2 F2 NV FV); clear oown kown Nrl prl krl hE hI hk lD2 hJz hqu hq hzl st2 k3 tc hpw
      replace N4 : News base L h3 (_ :: _ :: _ :: _ :: _ :: (W ++ own2)) := N4
      k_steps
      (rename Fr _ _ _ _ => F8)
      (rename News _ _ _ _ => N8)
      (rename _ = Data.cell (some (Value.ref cu)) => dV)
      refine digit_use F8 N8 K0 KX T rfl rfl rfl (by k_updF) (by rw [depth_deeper, depth_caller]; decide) (by rw [units_deeper, units_caller]; decide) (by decide) (by decide) k0A k1A fun tB uB pB hB tkB F9 N9 a9 b9 k0B k1B _ => ?_
      dsimp only at N9 ⊢
      clear F8 N8
      k_steps
      have hRR := kown2.now (lit := _ :: _ :: _ :: _ :: _ :: W) F9 N9
      refine bent_call (pureAt K0 KX T rfl F9 rfl rfl) ⟨n1, n3⟩ har12 (by rw [depth_deeper, depth_caller]; decide) (by rw [units_deeper, units_caller]; decide) hRR.1.2 hRR.2 tinyL tinyU fun t4 mv lo' up' RL RU h6 tk6 st6 e4 g4 hmv hL' hU' sL sU tup => ?_
      obtain ⟨F6, N6⟩ := uni_news (l := []) F9 N9 st6 g4 e4 (fun _ h => nomatch h)
      replace N6 : News base L h6 (_ :: _ :: _ :: _ :: _ :: _ :: (W ++ own2)) := N6
      obtain ⟨own3, N7, oown3, kown3⟩ := own_two (lit := _ :: _ :: _ :: _ :: _ :: _ :: W) (st := _ :: _ :: _ :: _ :: W) F6 N6 (fun p hp => .tail _ (.tail _ hp)) (np4 hnp hB1 dU dV) oown2 kown2 hL' hU' tup.1 tup.2 (fun p hp => ⟨_, (N9 p (.tail _ (List.mem_append_left own2 hp))).1⟩)
      have off4 : ∀ {a : Addr} {o : Obj}, hB.get? a = some o → t4 ≠ a := fun e q => by rw [q] at e4; exact absurd (e4.symm.trans e) (fun h => nomatch h)
      have hst4 : StatNe L [t4] := fun a ha => by
        rw [List.mem_singleton.mp ha]
        exact ⟨off4 (News.nth N9 4 rfl).1, off4 (News.nth N9 3 rfl).1, off4 (News.nth N9 2 rfl).1⟩
      replace N7 : News base L h6 (_ :: _ :: _ :: _ :: _ :: _ :: (W ++ own3)) := N7
      have h4r : t4 ≠ rest := off4 (News.nth N9 1 rfl).1
      clear off4 N6 N9 F9 oown2 kown2 hRR st6 e4 g4 hL' hU' tinyL tinyU
      (try dsimp only)
      k_steps
      (rename Fr _ _ _ _ => F8)
      (rename News _ _ _ _ => N8)
      (rename _ = Data.cell (some (Value.ref up')) => dW)
      refine digit_use F8 N8 K0 KX T rfl rfl rfl (by k_updF) (by rw [depth_deeper, depth_caller]; decide) (by rw [units_deeper, units_caller]; decide) (by decide) (by decide) k0B k1B fun tC uC pC hC tkC F9 N9 a9 b9 k0C k1C _ => ?_
      dsimp only at N9 ⊢
      clear F8 N8
      k_steps
      all_goals
        refine unhaltB ?_
        (try dsimp only)
        (rename Fr _ _ _ _ => FZ)
        (rename News _ _ _ _ => NZ)
        replace NZ := News.drop1 (News.drop1 (News.drop1 NZ))
        subst hW
        replace NZ := turn_back NZ
      · refine law_turn2 (tx := tx) (s := { heap := h, gens := gens, drawn := drawn, toks := _, os := os }) (lo2 := up') (up := up') (RL := RU) (RU := RU) (ex := true) K0 KX T S n1 n3 hnm hi hT hti ap FZ NZ (turn_onA oown3) (fun h' g k => ⟨(kown3 h' g k).1.1.1.1, (kown3 h' g k).2.2, (kown3 h' g k).2.2⟩) hB1 dU dW sU sU hmv hx (fun _ => ⟨rfl, rfl⟩) ?hM hoL
        exact lawMap2_of rfl (congrArg (fun b => some (Value.bool b)) (by simp; assumption)) rfl rfl rfl rfl rfl rfl rfl
      · refine law_turn2 (tx := tx) (s := { heap := h, gens := gens, drawn := drawn, toks := _, os := os }) (lo2 := lo') (up := up') (RL := RL) (RU := RU) (ex := false) K0 KX T S n1 n3 hnm hi hT hti ap FZ NZ (turn_onA oown3) (fun h' g k => ⟨(kown3 h' g k).1.1.1.1, (kown3 h' g k).2.1, (kown3 h' g k).2.2⟩) hB1 dU dW sL sU hmv hx (fun h => nomatch h) ?hM2 hoL
        exact lawMap2_of rfl (congrArg (fun b => some (Value.bool b)) (by simp; assumption)) rfl rfl rfl rfl rfl rfl rfl
end

section
open PySem PySem.W PySem.Calls PyProof.Rows PySem.Spec PyProof.V
local macro_rules | `(tactic| walk_at $s) => Mine.red [("binaryOp Add ref ref", "m"), ("exec For Name Subscript cons nil", "m"), ("exec For", "m"), ("exec Assign cons ListComp", "m")] s
set_option maxHeartbeats 8000000 in
theorem law_main {w : World} {base : Heap} {mean : ExcName → Option Value} {mg mb : Str → Option Value} {L fa cd l : Addr} {h₁ : Heap} {gens : Array GenState} {drawn : Drawn} {tk : Nat} {os : OsState} {vs : List Value} {ns : List Int} {o1 o2 o3 : Obj} {qk : Flow → Shared → Prop} {ek : Value → Shared → Prop}
    (K0 : Below callerA base [] base) (KX : (Mine.hd.heap_39 w.params).In base) (T : Top Mine.hd.view_39 (looseW Mine.hd.view_39 []) mean mg mb base) (hI : IntsAre vs ns) (h63 : ¬ ((63 : Nat) : Int) < (ns.length : Int)) (hlen : vs.length = ns.length) (hS : base.IsList l vs.toArray)
    (F : Fr base L h₁ fun y => if y = Str.ofString "script" then some (Value.ref l) else none) (N : News base L h₁ [(L + 1 + 1 + 1, o3), (L + 1 + 1, o2), (L + 1, o1)]) (d1 : o1.data = Data.cell none) (d2 : o2.data = Data.cell none) (d3 : o3.data = Data.cell none)
    (hret : ∀ (h' : Heap) (tk' : Nat), base.StaysIn h' → qk (Flow.ret (Value.bool true)) { heap := h', gens := gens, drawn := drawn, toks := tk', os := os })
    {name qual : Str} {params : Arguments} {body : List Stmt} {scope : Scope} {dV kV doc pm cdv ct oc : Value} {an od : Option Addr} {osl : Array (Option Value)}
    (ho : (Mine.hd.heap_39 w.params).lookup 261 = some ⟨oc, od, .func (fnOf name qual params body scope dV kV doc pm an cdv ct), osl⟩)
    (hE : PassesOwn (model Challenge.pw_nu0267_01 w) (callerA.deeper (envOfC qual scope L fa (.ref cd))) (envOfC qual scope L fa (.ref cd)) ek) :
    wpAny (model Challenge.pw_nu0267_01 w) (callerA.deeper (envOfC qual scope L fa (.ref cd))) (execs body (envOfC qual scope L fa (.ref cd))) qk ek { heap := h₁, gens := gens, drawn := drawn, toks := tk, os := os } := by
  refine' (withFn (P := fun body scope qual _ => let env := envOfC qual scope L fa (.ref cd); PassesOwn (model Challenge.pw_nu0267_01 w) (callerA.deeper env) env ek → wpAny (model Challenge.pw_nu0267_01 w) (callerA.deeper env) (execs body env) qk ek { heap := h₁, gens := gens, drawn := drawn, toks := tk, os := os }) ?ho ho fun hoL => ?_) hE
  case ho => k_is
  intro env hE
  have z9 : @LE.le Nat _ 9 sizeLine := by rw [sizeLine_eq]; exact Nat.le_of_ble_eq_true rfl
  refine wpAny_execs_cons (wpAny_mono (Q := Cells1 base L l o3 o2 o1 { heap := h₁, gens := gens, drawn := drawn, toks := tk, os := os }) ?s1 (fun f s' hs1 => ?_) fun _ _ e => e)
  case s1 =>
    k_steps
    refine PyProof.Rows.len_list (hS.at fun o e => F.keep _ o e) (by simp; omega) ?_
    k_steps
    · refine lc_over (G := base) (fun i ys => ys.length = i ∧ ∀ (j : Nat) y, ys[j]? = some y → ∃ k t, y = .int k t ∧ 0 ≤ k ∧ k < 1000000007) (by rfl) (by decide) rfl (by decide) rfl rfl ⟨rfl, fun j y e => by simp at e⟩ ?_
      k_steps
      refine slice_list F N (hS.at fun o e => F.keep _ o e) .none (.int 9 _) (fun h2 F2 N2 => ?_) (hsz := by rw [List.size_toArray, sizeLine_eq]; omega)
      rw [show slicePick vs.toArray none (some 9) none = (vs.take 9).toArray by simpa using slicePick_upto' vs.toArray 9] at N2
      have hl9 : (vs.take 9).length ≤ 9 := by rw [List.length_take]; exact Nat.min_le_left 9 _
      refine lcGo (.inr ⟨_, (N2 _ (.head _)).1, rfl, _, rfl⟩) F2 N2 (Nat.le_trans hl9 z9) ?turn ?done
      case turn =>
        intro C i v ys h3 tk3 m3 E3 hv hyl hJ st3 hn3 hm3
        have F3 := frStays F2 st3
        have N3 := newsStays N2 st3
        obtain ⟨k, t3, rfl⟩ := ints_at hI (show vs[i]? = some v by
          have := (List.getElem?_eq_some_iff.mp hv).1
          rw [List.length_take] at this
          rw [← hv, List.getElem?_take, if_pos (Nat.lt_of_lt_of_le this (Nat.min_le_left 9 _))])
        refine lcTests_nil ?_
        k_steps
        refine lcElt (fun _ _ e => e) ?_
        exact snocJ hJ ⟨_, _, rfl, Int.fmod_nonneg_of_pos _ (by decide), Int.fmod_lt_of_pos _ (by decide)⟩
      case done =>
        intro D3 h3 tk3 ys k3 F3 N3 lD hyl hJ st3 hD3
        (try dsimp only)
        k_steps
        (rename News _ _ _ _ => N4)
        have hy1 : 1 ≤ ys.length := by
          have h0 : 0 < (vs.toArray.size : Int) := by assumption
          rw [List.size_toArray] at h0
          rw [hJ.1, List.length_take]; exact Nat.le_min.mpr ⟨by decide, Int.natCast_pos.mp h0⟩
        exact ⟨D3, ys, k3, _, _, by assumption, fun p hp => by
          rcases List.mem_cons.mp hp with rfl | hp
          · exact N4 _ (.head _)
          · exact N4 _ (.tail _ (.tail _ hp)), hy1, by rw [hJ.1]; exact hl9, hJ.2⟩
    · exact ⟨_, _, _, _, _, by assumption, by assumption, Nat.le_of_ble_eq_true rfl, Nat.le_of_ble_eq_true rfl, cells_lit (.cons _ _ (.cons _ _ (.cons _ _ (.cons _ _ (.cons _ _ .nil))))) (by decide)⟩
  obtain ⟨D, items, kD, h2, tk2, F2, N2, i1, i9, hit⟩ := hs1
  dsimp only
  clear F N
  k_steps
  obtain ⟨y0, hy0⟩ : ∃ y, items[0]? = some y := ⟨items[0], List.getElem?_eq_getElem (by omega)⟩
  obtain ⟨c0, t0, rfl, c00, c01⟩ := hit 0 y0 hy0
  refine list_at (vs := items) (j := 0) (News.isList N2 (.head _)) rfl (by decide) hy0 ?_
  k_steps
  (rename News _ _ _ _ => N3)
  (rename Fr _ _ _ _ => F3)
  refine digit_use F3 N3 K0 KX T rfl rfl rfl (by k_updF) (by rw [depth_deeper, depth_caller]; decide) (by rw [units_deeper, units_caller]; decide) (by decide) (by decide) c00 (by omega) fun t4 u4 n4 h4 tk4 F4 N4 d0 d1' e0 e1 _ => ?_
  k_steps
  refine unhaltB ?_
  (rename News _ _ _ _ => N5)
  (rename Fr _ _ _ _ => F5)
  have e5 : c0 % 3 = 0 ∨ c0 % 3 = 1 ∨ c0 % 3 = 2 := by omega
  obtain ⟨n, hn, n1, n3⟩ : ∃ n : Nat, 1 + c0 % 3 = (n : Int) ∧ 1 ≤ n ∧ n ≤ 3 := by
    rcases e5 with e | e | e <;> rw [e]
    · exact ⟨1, rfl, by decide, by decide⟩
    · exact ⟨2, rfl, by decide, by decide⟩
    · exact ⟨3, rfl, by decide, by decide⟩
  rw [hn] at F5
  dsimp only at F5
  refine lc_assignR (G := base) (cl := []) (fun i ys => ys.length = i ∧ ∀ (j : Nat) y, ys[j]? = some y → ∃ t, y = .str (atomName j) t) rfl rfl (by decide) rfl (by decide) rfl rfl rfl rfl ⟨rfl, fun j y e => by simp at e⟩ ?_
  k_steps
  refine ⟨_, n, _, _, _, _, _, by assumption, (range3 n (Nat.lt_succ_of_le n3)).1, (range3 n (Nat.lt_succ_of_le n3)).2, by assumption, by assumption, by rw [sizeLine_eq]; omega, ?turn4, ?done4⟩
  case turn4 =>
    intro C i t ys h tk m2 E' hi hyl hJ st hns hm
    have F6 := frStays (by assumption) st
    have N6 := newsStays (by assumption) st
    refine lcTests_nil ?_
    k_steps
    refine lcElt (fun _ _ e => e) ?_
    exact snocJ hJ ⟨_, rfl⟩
  case done4 =>
    intro D3 h3 tk3 ys k3 F3 N3 lD hyl hJ
    have hso := names_of hJ
    replace F3 : Fr base L h3 (fun y => if y = Str.ofString "names" then some (.ref D3) else if y = Str.ofString "n" then some (.int n tk4) else if y = Str.ofString "rest" then some (.ref _) else if y = Str.ofString "cells" then some (.ref D) else if y = Str.ofString "script" then some (.ref l) else none) := F3
    replace N3 : News base L h3 [(D3, listOf ys.toArray k3), (_, listOf #[.int (c0 / 3) u4] n4), (D, listOf items.toArray kD), (L + 1 + 1 + 1, o3), (L + 1 + 1, o2), (L + 1, o1)] := N3
    have q0 := Int.ediv_nonneg c00 (show (0:Int) ≤ 3 by decide)
    have q1 : c0 / 3 < 2 ^ 60 := Int.lt_of_le_of_lt (Int.ediv_le_self _ c00) (by omega)
    have hyn : ys.length = n := hJ.1
    clear hn hJ
    dsimp only
    have lDn : L + 1 < D3 ∧ L + 1 + 1 < D3 ∧ L + 1 + 1 + 1 < D3 := ⟨lD (L + 1, o1) (.tail _ (.tail _ (.tail _ (.tail _ (.head _))))), lD (L + 1 + 1, o2) (.tail _ (.tail _ (.tail _ (.head _)))), lD (L + 1 + 1 + 1, o3) (.tail _ (.tail _ (.head _)))⟩
    k_lt lD
    refine wpAny_execs_cons (wpAny_mono (Q := Law2 base L l D items kD n o3 o2 o1 { heap := h3, gens := gens, drawn := drawn, toks := tk3, os := os }) ?s5 (fun f s' hs5 => ?_) fun _ _ e => e)
    case s5 =>
      k_steps
      · refine digit_use F3 N3 K0 KX T rfl rfl rfl (by k_updF) (by rw [depth_deeper, depth_caller]; decide) (by rw [units_deeper, units_caller]; decide) (by decide) (by decide) q0 q1 fun t5 u5 n5 h5 tk5 F5 N5 _ _ _ _ _ => ?_
        clear F3
        k_steps
        · refine slice_list F5 N5 (News.isList N5 (.head _)) .none (.int (-1) _) (fun h6 F6 N6 => ?_) (hsz := by rw [List.size_toArray]; omega)
          rw [pick_init hyn (by omega) n3] at N6
          k_steps
          refine slice_list F6 N6 (News.isList N6 (.tail _ (.head _))) .none (.int 1 _) (fun h7 F7 N7 => ?_) (hsz := by rw [List.size_toArray]; omega)
          rw [show slicePick ys.toArray none (some 1) none = (ys.take 1).toArray by simpa using slicePick_upto' ys.toArray 1] at N7
          k_steps
          refine add_lists F7 N7 (News.isList N7 (.tail _ (.head _))) (News.isList N7 (.head _)) (fun h8 F8 N8 => ?_) (by simp; omega)
          k_steps
          refine made_call (pureAt K0 KX T rfl F8 rfl rfl) KX T (by rw [depth_deeper, depth_caller]; decide) (by rw [units_deeper, units_caller]; decide) (News.isList N8 (.head _)) (namesTwice n1 n3 hso) (fun h => absurd h (twiceNot n (by omega) n3)) fun _ h9 tk9 st9 up9 => ?_
          have kb := keepOf (sub := []) (fun _ h => nomatch h) st9 up9 (fun _ h => nomatch h)
          have b9 := base_to F8 rfl st9
          have F9 := frAgain K0 F8 kb
          have N9 := newsAgain K0 N8 kb
          clear F5 N5 F6 N6 F7 N7 F8 N8
          dsimp only
          k_steps
          exact .ret _ _ b9
        · exact .next _ D3 ys k3 _ h5 _ F5 (fun p hp => by
            rcases List.mem_cons.mp hp with rfl | hp
            · exact N5 _ (.head _)
            · exact N5 _ (.tail _ (.tail _ hp))) hso lDn
      · exact .next _ D3 ys k3 _ h3 _ F3 (fun p hp => by
          rcases List.mem_cons.mp hp with rfl | hp
          · exact N3 _ (.head _)
          · exact N3 _ (.tail _ (.tail _ hp))) hso lDn
    rcases hs5 with ⟨r, Dn, ys', kn, tn, h4, tk4', F4, N4, hso4, lD4⟩ | ⟨h4, tk4', b4⟩
    · clear F3 N3 lD
      dsimp only
      k_steps
      refine made_call (pureAt K0 KX T rfl F4 rfl rfl) KX T (by rw [depth_deeper, depth_caller]; decide) (by rw [units_deeper, units_caller]; decide) (News.isList N4 (.head _)) (namesOk n3 hso4) (fun hno U Ud TT Dd q4 q5 k4 k5 h5 tk5 st5 um => ?_) fun h => absurd (of_decide_eq_true (atomNames_ok n n3).2) h
      dsimp only
      obtain ⟨ond, kvs, Dt, e1, e2, lo, di, fl, nu⟩ := um.tab
      obtain ⟨F5, N5⟩ := uni_news F4 N4 st5 e1 e2 um.at_
      have hoff : Dn ∉ ((Dd, ond) :: uniL U Ud TT Dd q4 q5 k4 k5 ys').map (·.1) := fun hm => by
        have eDn := (N4 _ (.head _)).1
        obtain ⟨p, hp, q⟩ := List.mem_map.mp hm
        rcases List.mem_cons.mp hp with rfl | hp
        · rw [← q, show h4.get? _ = none from e2] at eDn; cases eDn
        · rw [← q, show h4.get? _ = none from (um.at_ p hp).2] at eDn; cases eDn
      have hn4 : ∀ a ∈ [U, Ud, TT], h4.get? a = none := allC (um.at_ _ (.head _)).2 <| allC (um.at_ _ (.tail _ (.head _))).2 <| allC (um.at_ _ (.tail _ (.tail _ (.head _)))).2 allN
      have hs4 : ∀ a ∈ [L + 1, L + 1 + 1, L + 1 + 1 + 1], ∃ o, h4.get? a = some o := allC ⟨_, (News.nth N4 4 rfl).1⟩ <| allC ⟨_, (News.nth N4 3 rfl).1⟩ <| allC ⟨_, (News.nth N4 2 rfl).1⟩ allN
      clear F4 N4
      k_steps
      have hsub : ∀ p ∈ (Dd, ond) :: uniL U Ud TT Dd q4 q5 k4 k5 ys', p ∈ ((Dd, ond) :: uniL U Ud TT Dd q4 q5 k4 k5 ys') ++ [(Dn, listOf ys'.toArray kn), (D, listOf items.toArray kD), (L + 1 + 1 + 1, o3), (L + 1 + 1, o2), (L + 1, o1)] := fun p hp => List.mem_append_left _ hp
      (rename Fr _ _ _ _ => F6)
      (rename News _ _ _ _ => N6)
      refine atoms_call (callee_at _ K0 KX T rfl F6 rfl rfl (led_out N6 hsub)) KX T (by rw [depth_deeper, depth_caller]; decide) (by rw [units_deeper, units_caller]; decide) (led_in N6 hsub) lo di fl nu ((News.isList N6 (List.mem_append_right _ (.head _))).at fun o e => hideAll_get _ e hoff) (namesOk n3 hso4) hno (fun hm => (atomNames_at n3 hm).2.2.2 rfl) fun h7 tk7 st7 up7 kp7 => ?_
      have kb := keepOf (fun p hp => (N6 p (hsub p hp)).1) st7 up7 kp7
      have F7 := frAgain K0 F6 kb
      have N7 := newsAgain K0 N6 kb
      clear F6 N6
      simp only [uniL, List.cons_append, List.nil_append] at N7
      replace F7 : Fr base L h7 _ := F7
      replace N7 : News base L h7 _ := N7
      dsimp only
      k_steps
      refine bounds_use F7 N7 K0 KX T rfl rfl rfl (by rw [depth_deeper, depth_caller]; decide) (by rw [units_deeper, units_caller]; decide) fun B Bd bl nd q1 q2 q3 k1 k2 k3 kb ob h8 tk8 F8 N8 l8 l9 lo8 di8 fl8 a1 a2 => ?_
      simp only [bndL, List.cons_append, List.nil_append] at N8
      k_steps
      rename_i tl h9 F9 N9 lt9
      have S : LawS base L ⟨B, Bd, bl, nd, U, Ud, TT, Dd, q1, q2, q3, q4, q5, k1, k2, k3, k4, k5, ys'⟩ tl Dn := law_start (b := ⟨B, Bd, bl, nd, U, Ud, TT, Dd, q1, q2, q3, q4, q5, k1, k2, k3, k4, k5, ys'⟩) N9 lt9 l8 l9 a1 a2 lD4 hoff lo8 hn4 hs4
      clear hoff lD4 hn4 hs4 l8 l9 a1 a2 lo8 kp7 hsub e1 e2 lo
      refine newTup_stays F9 N9 (fun hA FA NA kA lA => ?_) (by rw [sizeLine_eq]; exact Nat.le_of_ble_eq_true rfl)
      k_steps
      refine unhaltB ?_
      (rename Fr _ _ _ _ => FB)
      (rename News _ _ _ _ => NB)
      refine' for_heap ?k1 ?k2 ?_ (hE := ?k3)
      case k3 => exact hE
      case k1 => exact rfl
      case k2 => exact rfl
      k_steps
      have below := law_below (b := ⟨B, Bd, bl, nd, U, Ud, TT, Dd, q1, q2, q3, q4, q5, k1, k2, k3, k4, k5, ys'⟩) NB
      refine slice_list FB NB (News.isList NB (by k_mem)) (.int 1 _) .none (fun hC FC NC => ?_) (hsz := by rw [List.size_toArray]; omega)
      rw [show slicePick items.toArray (some 1) none none = (items.drop 1).toArray by simpa using slicePick_from' items.toArray 1] at NC
      dsimp only at NC ⊢
      generalize hgl : Array.size _ + 1 = ls at NC ⊢
      k_steps
      refine forGo_list (vs := items.drop 1) (LawJ w base L ls ⟨B, Bd, bl, nd, U, Ud, TT, Dd, q1, q2, q3, q4, q5, k1, k2, k3, k4, k5, ys'⟩ tl Dn kn n tn) LawJ.mono (NC _ (.head _)).1 (NC _ (.head _)).2.1 rfl FC ?j0 ?turn ?done
      case done =>
        intro I m h tk2 hI hns hJ
        have FD : Fr base L h m := ⟨hns, fun b o e => of_hideAll _ (hJ.st b o e), FC.above⟩
        dsimp only
        k_steps
        exact hret _ _ FD.keep
      case j0 => exact law_j0 (b := ⟨B, Bd, bl, nd, U, Ud, TT, Dd, q1, q2, q3, q4, q5, k1, k2, k3, k4, k5, ys'⟩) (own := [_, _]) FC NC ⟨rfl, rfl, rfl, rfl, rfl⟩ d1 d2 d3 di8
      case turn =>
        intro I io i v m h tk2 hv hI hJ hio hic hls hns
        have gI : base.get? I = none := Heap.get?_none_of_le (Nat.le_trans FC.above (Nat.le_of_lt (Nat.lt_of_lt_of_le FC.ns.lt hI)))
        have hIL : I ≠ L := Nat.ne_of_gt (Nat.lt_of_lt_of_le FC.ns.lt hI)
        obtain ⟨kv, vt, rfl, kv0, kv1⟩ := hit (i + 1) v (by rw [← hv, List.getElem?_drop, Nat.add_comm])
        have hi8 : i < 8 := by
          have := (List.getElem?_eq_some_iff.mp hv).1
          rw [List.length_drop] at this; exact Nat.lt_of_lt_of_le this (Nat.sub_le_sub_right i9 1)
        obtain ⟨f1, f2, f3⟩ := law_fresh below hgl.symm (NC _ (.head _)).1 hI
        exact law_turn (s := { heap := h, gens := gens, drawn := drawn, toks := _, os := os }) K0 KX T S n1 n3 hso4 kv0 kv1 hi8 hJ FC.above hio hIL gI hic rfl hls (NC _ (.head _)).2.1 (NC _ (.head _)).2.2 f1 f2 f3 hns hoL
    · exact hret h4 _ b4
end

section
open PySem PySem.W PySem.Calls PyProof.Rows PySem.Spec PyProof.V
local macro_rules | `(tactic| walk_at $s) => Mine.red [("binaryOp Add ref ref", "m"), ("exec For Name Subscript cons nil", "m"), ("exec For", "m"), ("exec Assign cons ListComp", "m")] s
local macro_rules | `(tactic| k_qdec) => `(tactic| decide +kernel)
set_option maxHeartbeats 8000000 in
theorem law1 : PySem.Challenge.rw_nu0267_01.Holds := by
  w_on
  refine holds_law ws1 fun said => ?_
  refine holds_open (q := hd.view_39) (loose := []) (Xt := fun s => xlAt hd.view_39 [] s && recOk (RowW.records Challenge.rw_nu0267_01.row.toRowW) s) (XP := XL hd.view_39 []) (Yf := Hook.obs (kHook hd.heap_39 hdAs hdAs_is)) (Ya := Hook.val (kHook hd.heap_39 hdAs hdAs_is)) (YP := Hook.says (kHook hd.heap_39 hdAs hdAs_is)) (N := 3640) hdl (Hook.of (kHook hd.heap_39 hdAs hdAs_is)) (Hook.keeps (kHook hd.heap_39 hdAs hdAs_is)) (fun s e => xl_of s (Bool.and_eq_true_iff.mp e).1) XL.keeps (by rfl) (by rfl) (by rfl) (fun s e => recFacts_of (Bool.and_eq_true_iff.mp e).2) (by rfl) said (by decide +kernel) ⟨rfl, rfl, rfl, rfl, rfl, by decide +kernel⟩ ?hw ?hc
  case hw => w_witness2
  clear said
  k_go0
  (all_goals try k_fold)
  rename News _ _ _ _ => N
  rename Fr _ _ _ _ => F
  rename CellsAre _ _ _ => YC
  rename IntsAre _ _ => hI
  rename Below _ _ _ _ => K0
  rename Top _ _ _ _ _ _ => T
  rename Frag.In _ _ => KX
  rename Heap.IsList _ _ _ => hS
  rename ¬ (_ < _) => h63
  rename_i w s₀ s mg mb G YY fa o pm doc ho hg X9 V9 GL B TE TW bA bO M cd1 cdA hcd ns hs hlay0 hlay1 hr hl2 as1 as2 l vs as3 ra w1 r0 hr9 hc9 hD h₁ tk o3 o2 o1 d3 d2 d1
  clear hcd hD YC
  replace d3 : o3.data = .cell none := d3
  replace d2 : o2.data = .cell none := d2
  replace d1 : o1.data = .cell none := d1
  replace K0 : Below callerA s.heap [] s.heap := K0
  replace F : Fr s.heap s.heap.objs.size h₁ (fun y => if y = Str.ofString "script" then some (.ref l) else none) := F
  have hlen : vs.length = ns.length := hI.length
  clear G YY ho X9 V9 GL B TE TW M hs hlay0 hlay1 hr hl2 ra w1 r0 hr9 hc9
  obtain ⟨base, gens, drawn, toks, os⟩ := s
  dsimp only at *
  rw [show Challenge.rw_nu0267_01.row.prog = Challenge.pw_nu0267_01 from rfl]
  have hret : ∀ h' tk', base.StaysIn h' → qk (.ret (.bool true)) { heap := h', gens := gens, drawn := drawn, toks := tk', os := os } := by
    intro h' tk' st
    k_unfold
    exact ⟨.inl ⟨.bool true, .bool true, [], rfl, fun _ => rfl, .bool true, post_ok _, unshared_nil⟩, st, rfl, hg⟩
  refine withPass (by passes_own) fun hE => ?_
  clear_value qk ek
  generalize hLd : base.objs.size = L at F N hE ⊢
  refine' withHo (K := Mine.hd.heap_39 w.params) (f := 261) ?ho fun hoL => ?_
  case ho => k_is
  exact law_main K0 KX T hI h63 hlen hS F N d1 d2 d3 hret hoL hE
end

end Mine

theorem PySem.Challenge.cw_nu0267_01_holds : PySem.Challenge.rw_nu0267_01.Holds := by
  exact Mine.law1
