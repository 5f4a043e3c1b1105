import PyProof.Rows.All
import Wide.All
import OpenK.AllK
import Wide.FinOn
import PySem.Challenge.RW_on0262_01
open PySem PySem.W PyProof.Rows PySem.Calls PySem.Spec
set_option Elab.async false
set_option compiler.extract_closed false
set_option linter.unusedVariables false
set_option rowWalk.seconds 0
namespace Mine
local macro_rules | `(tactic| walk_at $s:str) => `(tactic| k_extra $s)
noncomputable def expFn (self : Value) (x : Code × Pos) : Bool := match x with
    | (.builtin "bytearray.__contains__" ⟨v :: _, _⟩, _) | (.builtin "bytearray.__mod__" ⟨v :: _, _⟩, _)
    | (.builtin "bytearray.__rmod__" ⟨_ :: v :: _, _⟩, _) | (.builtin "_struct.pack_into.held" ⟨v :: _, _⟩, _) => Builtin.Bytes.sameRef v self
    | (.builtin "bytearray.find.held" ⟨_ :: _ :: held, _⟩, _) => held.any (Builtin.Bytes.sameRef self)
    | (.builtin id ⟨v :: _, _⟩, _) => Builtin.Bytes.sameRef v self && Builtin.Bytes.decodersThatHold.contains id
    | _ => false
noncomputable def okCode (c : Code) : Prop := ∀ self p, expFn self (c, p) = false
def Clean (l : List (Code × Pos)) : Prop := ∀ x ∈ l, okCode x.1

def wpC {α : Type} (M : Model) (A : Around) (t : Sem α) (Q : α → Shared → Prop) (E : Value → Shared → Prop) (s : Shared) : Prop :=
  ∀ Γ p, Γ.In A → okCode Γ.code → Clean Γ.below → Sem.wp M Γ t (fun a _ s' => Q a s') (fun e _ s' => E e s') p s
def codeC (M : Model) (A : Around) (c : Code) (R : Result → Shared → Prop) (s : Shared) : Prop :=
  ∀ Γ p, Γ.code = c → Γ.Below A → Clean Γ.below → wpCode M Γ R p s

section
variable {α β : Type} {M : Model} {A : Around} {E : Value → Shared → Prop} {s : Shared}
theorem wpC.of {t : Sem α} {Q : α → Shared → Prop} (h : wpAny M A t Q E s) : wpC M A t Q E s := fun Γ p hΓ _ _ => h Γ p hΓ
theorem codeC.of {c : Code} {R : Result → Shared → Prop} (h : codeAny M A c R s) : codeC M A c R s := fun Γ p hc hΓ _ => h Γ p hc hΓ
theorem wpC_pure {a : α} {Q : α → Shared → Prop} (h : Q a s) : wpC M A (pure a) Q E s := fun _ _ _ _ _ => h
theorem wpC_mono {t : Sem α} {Q Q' : α → Shared → Prop} {E' : Value → Shared → Prop} (h : wpC M A t Q E s) (hQ : ∀ a s, Q a s → Q' a s) (hE : ∀ e s, E e s → E' e s) : wpC M A t Q' E' s :=
  fun Γ p hΓ k1 k2 => Sem.wp_mono M Γ t (fun a _ s => hQ a s) (fun e _ s => hE e s) p s (h Γ p hΓ k1 k2)
theorem wpC_bind {m : Sem α} {f : α → Sem β} {Q : β → Shared → Prop} (h : wpC M A m (fun a s' => wpC M A (f a) Q E s') E s) : wpC M A (m >>= f) Q E s := fun Γ p hΓ k1 k2 => by
  rw [Sem.wp_bind']
  exact Sem.wp_mono M Γ m (fun a p' s' h' => h' Γ p' hΓ k1 k2) (fun _ _ _ h' => h') p s (h Γ p hΓ k1 k2)
theorem wpC_holding {vs : List Value} {m : Sem α} {Q : α → Shared → Prop} (h : wpC M A m Q E s) : wpC M A (holding vs m) Q E s := fun Γ p hΓ k1 k2 => by rw [Sem.wp_holding]; exact h Γ p hΓ k1 k2
theorem wpC_onRaise {m : Sem α} {k : Value → Sem Unit} {Q : α → Shared → Prop} (h : wpC M A m Q (fun e s' => wpC M A (k e) (fun _ s'' => E e s'') E s') s) : wpC M A (m.onRaise k) Q E s := fun Γ p hΓ k1 k2 => by
  rw [Sem.wp_onRaise]
  exact Sem.wp_mono M Γ m (fun _ _ _ h' => h') (fun e p' s' h' => h' Γ p' hΓ k1 k2) p s (h Γ p hΓ k1 k2)
theorem wpC_attempt {m : Sem α} {Q : Except Value α → Shared → Prop} (h : wpC M A m (fun a => Q (.ok a)) (fun e => Q (.error e)) s) : wpC M A m.attempt Q E s := fun Γ p hΓ k1 k2 => by
  rw [Sem.wp_attempt]; exact h Γ p hΓ k1 k2
theorem wpC_standAt {pos : Pos} {Q : Unit → Shared → Prop} (h : Q () s) : wpC M A (standAt pos) Q E s := fun _ _ _ _ _ => h
theorem wpC_point {Q : Unit → Shared → Prop} (h : Q () s) : wpC M A point Q E s := fun _ _ _ _ _ => h
theorem wpC_rule {tag : String} {Q : Unit → Shared → Prop} (h : Q () s) : wpC M A (rule tag) Q E s := fun _ _ _ _ _ => h

theorem codeC_mono {c : Code} {R R' : Result → Shared → Prop} (h : codeC M A c R s) (hR : ∀ r s, R r s → R' r s) : codeC M A c R' s := fun Γ p hc hΓ k => wpCode_mono hR (h Γ p hc hΓ k)
theorem clean_enter {Γ : PySem.Ctx} (c : Code) (hd : Option Value) (p : Pos) (k1 : okCode Γ.code) (k2 : Clean Γ.below) : Clean (Γ.enter c hd p).below := fun x hx => by
  rcases List.mem_cons.mp hx with rfl | hx
  · exact k1
  · exact k2 x hx
theorem wpC_run {c : Code} {h : Option Value} {Q : Flow → Shared → Prop} (hc : codeC M (A.mark h) c (fun r s' => match r with | .ok f => Q f s' | .error e => E e s') s) (hnb : h ≠ some byPass := by intro x; cases x) :
    wpC M A (run c h) Q E s := fun Γ p hΓ k1 k2 => by rw [Sem.wp_run]; exact hc _ p rfl (hΓ.enter c h p hnb) (clean_enter c h p k1 k2)
theorem wpC_runValue {c : Code} {Q : Value → Shared → Prop} (hc : codeC M A c (fun r s' => match r with | .ok (.ret v) => Q v s' | .ok _ => False | .error e => E e s') s) : wpC M A (runValue c) Q E s := fun Γ p hΓ k1 k2 => by
  rw [Sem.wp_runValue]; exact hc _ p rfl (hΓ.enter c none p (by intro x; cases x)) (clean_enter c none p k1 k2)
theorem wpC_call {f : Value} {pos : List Value} {kw : List (Str × Value)} {Q : Value → Shared → Prop} (hc : codeC M A (.call f ⟨pos, kw⟩) (fun r s' => match r with | .ok (.ret v) => Q v s' | .ok _ => False | .error e => E e s') s) :
    wpC M A (call f pos kw) Q E s := wpC_runValue hc
theorem codeC_of_tree {c : Code} {R : Result → Shared → Prop} (hk : okCode c)
    (h : wpC M (A.under c) (M.den c) (fun fin s' => match fin with | .done f => R (.ok f) s' | .again c' => c'.quiet = true ∧ codeC M A c' R s') (fun e s' => R (.error e) s') s) : codeC M A c R s := fun Γ p hc hΓ k => by
  rw [wpCode_iff_wp, hc]
  refine Sem.wp_mono M Γ _ (fun fin p' s' h' => ?_) (fun _ _ _ h' => h') p s (h Γ p (hc ▸ hΓ.in) (hc ▸ hk) k)
  cases fin with
  | done f => exact h'
  | again c' => exact ⟨h'.1, h'.2 (Γ.goto c') p' rfl (hΓ.goto c') k⟩
theorem codeC_room {A' : Around} {c : Code} {R : Result → Shared → Prop} (h : codeC M A' c R s) (h1 : A.handled = A'.handled) (h2 : A.depth ≤ A'.depth) (h3 : A'.frames = none ∨ A.frames = A'.frames) (h4 : A'.guards = none) (h5 : A.units ≤ A'.units) : codeC M A c R s := by
  intro Γ p hc hΓ k
  refine h Γ p hc ⟨hΓ.1.trans h1, Nat.le_trans hΓ.2.1 h2, fun l hl => ?_, fun g hg => ?_, Nat.le_trans hΓ.2.2.2.2 h5⟩ k
  · rcases h3 with q | q
    · rw [q] at hl; cases hl
    · exact hΓ.2.2.1 l (q.trans hl)
  · rw [h4] at hg; cases hg
end
noncomputable def nth {α : Type} : List α → Nat → Option α
  | [], _ => none
  | a :: _, 0 => some a
  | _ :: l, n + 1 => nth l n
theorem nth_mem {α : Type} : ∀ {l : List α} (i : Nat) {a : α}, nth l i = some a → a ∈ l
  | _ :: _, 0, _, rfl => .head _
  | _ :: _, _ + 1, _, e => .tail _ (nth_mem _ e)
theorem sub_cons {α : Type} {n l : List α} {a : α} (i : Nat) (e : nth n i = some a) (r : ∀ p ∈ l, p ∈ n) : ∀ p ∈ a :: l, p ∈ n := fun p hp => by
  rcases List.mem_cons.mp hp with rfl | hp
  · exact nth_mem i e
  · exact r p hp
theorem allc {α : Type} {P : α → Prop} {a : α} {l : List α} (h : P a) (r : ∀ x ∈ l, P x) : ∀ x ∈ a :: l, P x := List.forall_mem_cons.mpr ⟨h, r⟩
theorem drink {α : Type} (a : α) (P : α → Prop) : ∃ x, P x → ∀ y, P y := by
  by_cases h : ∃ x, ¬ P x
  · exact h.elim fun x hx => ⟨x, fun p => absurd p hx⟩
  · exact ⟨a, fun _ y => Classical.byContradiction fun hy => h ⟨y, hy⟩⟩
noncomputable def anyW : World := ⟨fun _ _ => 0, { strHash := fun _ => 0, shareClass := fun _ => 0, mergeTok := id, idOf := fun _ => 0, idOfShared := fun _ _ => 0, followText := fun _ => false, idOfImm := fun _ => 0 }⟩
noncomputable def anyO : Obj := emptyDict
noncomputable def anyE : Env := envOf (Str.ofString "") { kind := .function, names := [], isGenerator := false, isCoroutine := false } 0 0 .none
noncomputable def difL {α : Type} : List α → List α → Bool
  | [], [] => false
  | [], _ :: _ => true
  | _ :: _, [] => true
  | _ :: l, _ :: r => difL l r
noncomputable def tagD : Data → Nat
  | .plain => 1
  | .seq _ _ => 2
  | .dict _ _ => 3
  | .bytearray _ _ => 4
  | .cell _ => 5
  | .func _ => 6
  | .fields _ => 7
  | _ => 0
noncomputable def difD : Data → Data → Bool
  | .dict a _, .dict b _ => difL a.toList b.toList
  | a, b => !(Nat.beq (tagD a) (tagD b))
theorem difL_self {α : Type} : ∀ l : List α, difL l l = false
  | [] => rfl
  | _ :: l => difL_self l
theorem difD_self (a : Data) : difD a a = false := by
  cases a
  case dict e n => exact difL_self e.toList
  all_goals rfl
theorem difD_ne {a b : Data} (h : difD a b = true) : a ≠ b := fun q => by
  subst q
  rw [difD_self] at h
  cases h
theorem ne_mem {g h : Heap} {L : Addr} {news : List (Addr × Obj)} (N : News g L h news) {a d : Addr} {o o' : Obj} (h1 : (a, o) ∈ news) (h2 : (d, o') ∈ news) (hs : difD o.data o'.data = true) : a ≠ d := fun q => by
  subst q
  have e1 := (N _ h1).1
  have e2 := (N _ h2).1
  rw [e1] at e2
  exact difD_ne hs (congrArg Obj.data (Option.some.inj e2))
noncomputable def nthTail {α : Type} : Nat → List α → List α
  | 0, l => l
  | _ + 1, [] => []
  | n + 1, _ :: l => nthTail n l
theorem nthTail_mem {α : Type} {p : α} : ∀ (i : Nat) {n : List α}, p ∈ nthTail i n → p ∈ n
  | 0, _, h => h
  | _ + 1, [], h => h
  | i + 1, _ :: _, h => .tail _ (nthTail_mem i h)
theorem sub_drop {α : Type} {n l : List α} (i : Nat) (e : nthTail i n = l) : ∀ p ∈ l, p ∈ n := fun p hp => nthTail_mem i (by rw [e]; exact hp)
def AL (d : Nat) : List (Addr × Obj) → Prop
  | [] => True
  | [p] => @LT.lt Nat _ p.1 d
  | p :: q :: r => @LT.lt Nat _ p.1 d ∧ AL d (q :: r)
theorem al_of {d : Addr} : ∀ {l : List (Addr × Obj)}, (∀ p ∈ l, p.1 < d) → AL d l
  | [], _ => trivial
  | [p], h => h p (.head _)
  | p :: q :: r, h => ⟨h p (.head _), al_of fun x hx => h x (.tail _ hx)⟩
theorem o_n1 {a : Nat} : a ≠ a + 1 := Nat.ne_of_lt (Nat.lt_succ_self _)
theorem o_n2 {a : Nat} : a ≠ a + 1 + 1 := Nat.ne_of_lt (Nat.lt_succ_of_lt (Nat.lt_succ_self _))
theorem o_n3 {a : Nat} : a ≠ a + 1 + 1 + 1 := Nat.ne_of_lt (Nat.lt_succ_of_lt (Nat.lt_succ_of_lt (Nat.lt_succ_self _)))
theorem o_c1 {a b : Nat} (h : a + 1 < b) : a < b := Nat.lt_of_succ_lt h
theorem o_d1 {a b : Nat} (h : a + 1 < b) : a ≠ b := Nat.ne_of_lt (o_c1 h)
theorem o_c2 {a b : Nat} (h : a + 1 + 1 < b) : a < b := o_c1 (o_c1 h)
theorem o_d2 {a b : Nat} (h : a + 1 + 1 < b) : a ≠ b := Nat.ne_of_lt (o_c2 h)
theorem o_c3 {a b : Nat} (h : a + 1 + 1 + 1 < b) : a < b := o_c2 (o_c1 h)
theorem o_d3 {a b : Nat} (h : a + 1 + 1 + 1 < b) : a ≠ b := Nat.ne_of_lt (o_c3 h)
theorem o_k1 {k : Int} : k ≤ k + 1 := Int.le_add_one (Int.le_refl _)
theorem o_k2 {k : Int} : k ≤ k + 1 + 1 := Int.le_add_one o_k1
theorem o_k3 {k : Int} : k + 1 ≤ k + 20 := Int.add_le_add_left (by decide) k
theorem o_k4 {k : Int} : k + 1 + 1 ≤ k + 20 := Int.add_assoc k 1 1 ▸ Int.add_le_add_left (by decide) k
theorem o_k5 {k : Int} : k + 1 + 1 ≤ k + 4 := Int.add_assoc k 1 1 ▸ Int.add_le_add_left (by decide) k
theorem o_k6 {k : Int} (h : 0 ≤ k) : 0 ≤ k + 1 := Int.le_add_one h
theorem o_k7 {k : Int} (h : k < 900) : k < 1000 := Int.lt_trans h (by decide)
theorem o_k8 {k : Int} (h : k < 900) : k + 1 < 1000 := Int.lt_of_le_of_lt (Int.add_one_le_of_lt h) (by decide)
theorem o_k9 {k : Int} (h : k ≤ 700) : k ≤ 800 := Int.le_trans h (by decide)
theorem o_a1 {a b : Int} (h : 0 ≤ a) (g : 0 ≤ b) : 0 ≤ a + b := Int.add_nonneg h g
theorem o_a2 {a b c v : Int} (h : a + b + c ≤ v) : a + (b + c) ≤ v := Int.add_assoc a b c ▸ h
theorem o_a3 {a b c v : Int} (h : a + b + c ≤ v) : a + c + b ≤ v := Int.add_right_comm a b c ▸ h
theorem o_a4 {a : Int} (h : 0 ≤ a) : 0 < a + 4 := Int.add_pos_of_nonneg_of_pos h (by decide)
theorem o_a5 {a : Int} (h : 0 ≤ a) : 0 < a + 5 := Int.add_pos_of_nonneg_of_pos h (by decide)
theorem o_a6 {a : Int} (h : 0 ≤ a) : 0 < a + 3 := Int.add_pos_of_nonneg_of_pos h (by decide)
theorem o_a7 {a : Int} (h : a ≤ 10) : a + 4 < 200 := Int.lt_of_le_of_lt (Int.add_le_add_right h 4) (by decide)
theorem o_a8 {a : Int} (h : a ≤ 10) : a + 3 < 200 := Int.lt_of_le_of_lt (Int.add_le_add_right h 3) (by decide)
theorem o_a9 {a : Int} (h : a ≤ 150) : a + 5 < 200 := Int.lt_of_le_of_lt (Int.add_le_add_right h 5) (by decide)
theorem o_b1 {n : Nat} (h : n ≤ 12) : n ≤ 1000 := Nat.le_trans h (by decide)
theorem o_b2 {n : Nat} (h : n ≤ 1000) : n ≤ 16777216 := Nat.le_trans h (by decide)
theorem o_b3 {n : Nat} (h : n ≤ 60) : n ≤ 1000 := Nat.le_trans h (by decide)
theorem o_m1 {a b c v : Int} (h : a + b + 1 * c ≤ v) : a + b + c * 1 ≤ v := Int.mul_comm 1 c ▸ h
theorem o_m8 {a b c v : Int} (h : a + b + 8 * c ≤ v) : a + b + c * 8 ≤ v := Int.mul_comm 8 c ▸ h
theorem o_m16 {a b c v : Int} (h : a + b + 16 * c ≤ v) : a + b + c * 16 ≤ v := Int.mul_comm 16 c ▸ h
theorem o_t1 {a b : Int} (h : ¬ a < b) : b ≤ a := Int.not_lt.mp h
theorem o_t2 {a b : Int} (h : ¬ a ≤ b) : b < a := Int.not_le.mp h
local macro_rules | `(tactic| k_mem) => `(tactic| k_extra "my mem")
local macro_rules | `(tactic| k_all) => `(tactic| k_extra "my kall")
local macro_rules | `(tactic| k_ne) => `(tactic| k_extra "my kne")
local macro_rules | `(tactic| k_lt $h:ident) => `(tactic| (have hAL := al_of $h; k_extra "my al"))
local macro_rules | `(tactic| omega) => `(tactic| k_extra "my omega")
theorem kwpre : True := by
  k_with "my mem" => k_dflt (first | exact nth_mem 0 rfl | exact nth_mem 1 rfl | exact nth_mem 2 rfl | exact nth_mem 3 rfl | exact nth_mem 4 rfl | exact nth_mem 5 rfl | exact nth_mem 6 rfl | exact nth_mem 7 rfl | exact nth_mem 8 rfl | exact nth_mem 9 rfl | exact nth_mem 10 rfl | exact nth_mem 11 rfl | exact nth_mem 12 rfl | exact nth_mem 13 rfl | exact nth_mem 14 rfl | exact nth_mem 15 rfl | exact nth_mem 16 rfl | exact nth_mem 17 rfl | exact nth_mem 18 rfl | exact nth_mem 19 rfl | exact nth_mem 20 rfl | exact nth_mem 21 rfl | exact nth_mem 22 rfl | exact nth_mem 23 rfl | exact nth_mem 24 rfl | exact nth_mem 25 rfl | exact nth_mem 26 rfl | exact nth_mem 27 rfl)
  k_with "my kall" => first | exact List.forall_mem_nil _ | (refine' allc ?ax5ca ?bx5ca; (case ax5ca => k_ne); (case bx5ca => k_all))
  k_with "my kne" => first | exact (by assumption) | exact Ne.symm (by assumption) | exact Nat.ne_of_lt (Nat.lt_succ_self _) | exact Nat.ne_of_gt (Nat.lt_succ_self _) | exact Nat.ne_of_lt (Nat.lt_succ_of_lt (Nat.lt_succ_self _)) | exact Nat.ne_of_gt (Nat.lt_succ_of_lt (Nat.lt_succ_self _)) | k_dflt (exact Nat.ne_of_gt ((by with_reducible assumption : ∀ p ∈ _, @LT.lt Nat _ p.1 _) (_, _) (by k_mem))) | k_dflt (exact Nat.ne_of_lt ((by with_reducible assumption : ∀ p ∈ _, @LT.lt Nat _ p.1 _) (_, _) (by k_mem))) | ((with_reducible rename PyProof.Rows.News _ _ _ _ => nN); k_dflt (exact ne_mem nN (by k_mem) (by k_mem) rfl))
  k_with "my omega" => first | with_reducible (first | assumption | exact Nat.le_refl _ | exact Int.le_refl _ | exact Nat.le_succ _ | exact Nat.lt_succ_self _ | exact Nat.le_of_lt (by assumption) | exact Nat.ne_of_lt (by assumption) | exact Nat.ne_of_gt (by assumption) | exact Int.le_of_lt (by assumption) | exact o_n1 | exact (o_n1).symm | exact o_n2 | exact (o_n2).symm | exact o_n3 | exact (o_n3).symm | exact o_c1 (by assumption) | exact o_d1 (by assumption) | exact (o_d1 (by assumption)).symm | exact o_c2 (by assumption) | exact o_d2 (by assumption) | exact (o_d2 (by assumption)).symm | exact o_c3 (by assumption) | exact o_d3 (by assumption) | exact (o_d3 (by assumption)).symm | exact o_k1 | exact o_k2 | exact o_k3 | exact o_k4 | exact o_k5 | exact o_k6 (by assumption) | exact o_k7 (by assumption) | exact o_k8 (by assumption) | exact o_k9 (by assumption) | exact o_a1 (by assumption) (by assumption) | exact o_a2 (by assumption) | exact o_a3 (by assumption) | exact o_a4 (by assumption) | exact o_a5 (by assumption) | exact o_a6 (by assumption) | exact o_a7 (by assumption) | exact o_a8 (by assumption) | exact o_a9 (by assumption) | exact o_b1 (by assumption) | exact o_b2 (by assumption) | exact o_b3 (by assumption) | exact o_m1 (by assumption) | exact o_m8 (by assumption) | exact o_m16 (by assumption) | exact o_t1 (by assumption) | exact o_t2 (by assumption)) | decide | omega (config := {})
  k_with "my al" => ((rename AL _ _ => hAL); dsimp only [AL] at hAL)
  exact trivial
namespace PySem.W
open PySem PySem.W PySem.Calls PyProof.Rows PySem.Spec
abbrev WalkC (q : Program) (loose : List Str) (XP : (Str → Option Value) → Heap → Prop) (YP : World → Heap → Prop) (r : RowW) (d : DefRec) (kwd : List (Str × Expr)) : Prop :=
  ∀ (w : World) (s₀ s₁ : Shared) (mg mb : Str → Option Value), Ground q loose r.records XP w s₀ mg mb s₁.heap → YP w s₁.heap → ∀ (a : Addr) (o : Obj) (pm cd doc dV kV : Value), s₁.heap.get? a = some o →
    o.data = .func { docDef d.name d.params d.body d.scope pm cd doc with defaults := dV, kwdefaults := kV } → s₁.heap.CodeRec cd d.name → Dflts mg s₁.heap d.params kwd dV kV → mg d.name = some (.ref a) → s₁.gens = #[] →
    ∀ (args : List WData) (vals : List Value) (as : List Addr), r.claim.pre args = true → WData.layableAll args = true → ReadsAllW r.records (classAt s₀.heap) s₁.heap vals args as → WellAll w.params s₁.heap vals args → (∀ a ∈ as, (a == sysModules) = false) →
      wpC (model r.prog w) callerA (call (.ref a) vals) (fun v s' => GoodWG r.claim (classAt s₀.heap) (ExcName.means s₀.heap) args s₁ (.ok (.ret v)) s')
        (fun e s' => GoodWG r.claim (classAt s₀.heap) (ExcName.means s₀.heap) args s₁ (.error e) s') s₁

theorem thread_clean {prog : Program} {w : World} {t : Sem Fin} {s : Shared} {R : Result → Shared → Prop} (hreg : s.asleep)
    (h : wpC (model prog w) callerA t (fun fin s' => ∃ f, fin = .done f ∧ R (.ok f) s' ∧ leftWithCleanup s'.gens = false) (fun e s' => R (.error e) s' ∧ leftWithCleanup s'.gens = false) s) :
    ∃ n r s' s'', runN (denote table) prog w n s ⟨t, .builtin "claim.caller" {}, default, []⟩ = .halted (outcomeOf r) s' ∧
      schedN (denote table) prog w n (.single s ⟨t, .builtin "claim.caller" {}, default, []⟩) = .halted (outcomeOf r) s' ∧ s'.forget = s''.forget ∧ R r s'' := by
  have q := h _ default caller_in (fun _ _ => by kernel_rfl) (fun _ hx => nomatch hx)
  obtain ⟨n, r, s₁, s₂, hs, hn, hfo, hR⟩ := wp_halts_full (M := model prog w) (R := R) hreg (Sem.wp_mono _ _ _ (fun fin _ s' ⟨f, e, x, y⟩ => by subst e; exact ⟨x, y⟩) (fun _ _ _ x => x) _ _ q)
  exact ⟨n, r, s₂, s₁, hn, hs, hfo, hR⟩
noncomputable section
namespace K_callFrom_clean
def KP (c : ClaimW) (w : World) (s : Shared) (free : Addr → Prop) (kept : Heap → Prop) : Prop := ∀ {tree : List Value → Sem Fin} {gens : Prop} (hz : s.asleep) (hgens : s.gens = #[]) (hspec : ∀ args, c.pre args = true → WData.layableAll args = true → ∀ ord : List DictEntry → List DictEntry, (∀ l, (ord l).Perm l) →
      ∃ vs s₁, layAllW c.records (classAt s.heap) w.params ord args s = some (vs, s₁) ∧
        wpC (model c.prog w) callerA (tree vs) (fun fin s' => ∃ f, fin = .done f ∧ (c.Ends s args vs s₁ (.ok f) s' ∧ s'.os = s.os ∧ kept s'.heap) ∧ leftWithCleanup s'.gens = false) (fun e s' => (c.Ends s args vs s₁ (.error e) s' ∧ s'.os = s.os ∧ kept s'.heap) ∧ leftWithCleanup s'.gens = false) s₁), c.CallFrom (fun vs => ⟨tree vs, .builtin "claim.caller" {}, default, []⟩) w free gens kept s
def KT (x : (ClaimW × World × Shared × (Addr → Prop) × (Heap → Prop))) : Prop := KP x.1 x.2.1 x.2.2.1 x.2.2.2.1 x.2.2.2.2
theorem Kex : ∃ x, KT x → ∀ y, KT y := drink ((PySem.Challenge.rw_on0262_01.row.toRowW.claim, anyW, {}, (fun _ => True), (fun _ => True))) _
@[irreducible] def Kx0 := Classical.choose Kex
@[irreducible] def c := Kx0.1
@[irreducible] def w := Kx0.2.1
@[irreducible] def s := Kx0.2.2.1
@[irreducible] def free := Kx0.2.2.2.1
@[irreducible] def kept := Kx0.2.2.2.2
set_option maxRecDepth 100000
set_option maxHeartbeats 4000000
theorem at0 : KP c w s free kept := by
  intro tree gens hz hgens hspec
  intro args hpre hlay ord hord
  obtain ⟨vs, s₁, hlaid, hcode⟩ := hspec args hpre hlay ord hord
  have hal := layAllW_rest _ _ _ hlaid
  obtain ⟨k, r, s', s'', hrun, hsched, hfo, hcase, hos, hkp⟩ := thread_clean (prog := c.prog) (w := w) (t := tree vs) (s := s₁) (R := fun r s' => c.Ends s args vs s₁ r s' ∧ s'.os = s.os ∧ kept s'.heap) (Shared.asleep_of_life hal.2.2.2 hz) hcode
  obtain ⟨eh, _, _, eo, _⟩ := Shared.forget_eq hfo
  have hcase := hcase.congr eh
  rw [← eo] at hos
  rw [← eh] at hkp
  refine ⟨vs, s₁, hlaid, k, _, s', hsched, ?_, (fun _ i x hx => by rw [hgens] at hx; simp at hx), hkp, by rw [(runN_life _ _ _ hrun).trans hal.2.2.2], Shared.rest_eq hos⟩
  rcases hcase with ⟨v, rfl, d1, d2, d3, d4, d5⟩ | ⟨e, ob, cls, rfl, d1, d2, d3, d4, d5⟩
  · exact .inl ⟨v, rfl, d1, d2, d3, fun b o y _ => d4 b o y, d5⟩
  · exact .inr ⟨e, ob, cls, rfl, d1, d2, d3, d4, fun b o y _ => d5 b o y⟩
end K_callFrom_clean
end
theorem callFrom_clean {c : ClaimW} {w : World} {s : Shared} {free : Addr → Prop} {kept : Heap → Prop} : K_callFrom_clean.KP c w s free kept :=
  @Classical.choose_spec _ _ K_callFrom_clean.Kex (by with_unfolding_all exact @K_callFrom_clean.at0) ((c, w, s, free, kept))
noncomputable section
namespace K_holds_open
def KP (r : OpenRow) : Prop := ∀ {q : Program} {loose : List Str} {Xt : Shared → Bool} {XP : (Str → Option Value) → Heap → Prop} {α : Type} {Yf : Shared → α} {Ya : World → α} {YP : World → Heap → Prop} {d : DefRec} {kwd : List (Str × Expr)} {N : Nat} (left : LeftO r.prog q loose Xt Yf Ya N) (hY : ∀ w s, Yf s = Ya w → YP w s.heap) (hYk : ∀ w h h', YP w h → (∀ b o, h.get? b = some o → h'.get? b = some o) → YP w h') (hX : ∀ s, Xt s = true → XP (s.heap.nsMap mainGlobals) s.heap) (hXk : ∀ mg h h', XP mg h → (∀ b o, h.get? b = some o → h'.get? b = some o) → XP mg h') (hdef : defOf q r.name = some (d, kwd)) (hp : r.prog.theDef r.name = some (d.params, d.body, d.scope)) (hk : kwWritten? d.params.kwonlyargs d.params.kw_defaults = some kwd) (hRf : ∀ s, Xt s = true → RecFacts r.records s.heap) (hwr : (!r.writes || r.records.isEmpty) = true) (k1 : r.wellSaid = true) (ok : (chainsOk q && opensWell r.prog && (frees r.toRowW && r.within.isEmpty)) = true) (hb : r.prog.bare) (hw : r.toRowW.promised) (call : WalkC q loose XP YP r.toRowW d kwd), r.Holds
def KT (x : OpenRow) : Prop := KP x
theorem Kex : ∃ x, KT x → ∀ y, KT y := drink (PySem.Challenge.rw_on0262_01.row) _
@[irreducible] def Kx0 := Classical.choose Kex
@[irreducible] def r := Kx0
set_option maxRecDepth 100000
set_option maxHeartbeats 4000000
theorem at0 : KP r := by
  intro q loose Xt XP α Yf Ya YP d kwd N left hY hYk hX hXk hdef hp hk hRf hwr k1 ok hb hw call
  simp only [Bool.and_eq_true] at ok
  obtain ⟨⟨hch, o1⟩, k5, k6⟩ := ok
  obtain ⟨hsame, hu, ha, hap, hm⟩ := frees_parts k5
  have hi := ident_freeW hu ha hap
  have hwi : r.claim.within = [] := List.isEmpty_iff.mp k6
  refine ⟨k1, hw, ⟨hb, o1, by show r.makers.map _ = []; rw [hm]; rfl⟩, hw.witness, fun w => ⟨(left.behind hX hch w).1, fun s' hs' => ?_⟩⟩
  obtain ⟨s₀, hf, hg0, s, hT, hz, hgens, hg, G00, y⟩ := (left.behind (XP := fun mg h => XP mg h ∧ RecFacts r.records h) (fun s hs => ⟨hX s hs, hRf s hs⟩) hch w).2 s' hs'
  have hgens : s.gens = #[] := Array.eq_empty_of_size_eq_zero (beq_iff_eq.mp hgens)
  have G0 : Ground q loose [] XP w s (s.heap.nsMap mainGlobals) (s.heap.nsMap builtinsNs) s.heap := ⟨G00.T, G00.B, G00.D, G00.TE, G00.TD, G00.W, G00.X.1, G00.cls, G00.has, G00.apart, G00.once, G00.K⟩
  have RF := G00.X.2
  have G : Ground q loose r.records XP w s _ _ s.heap := RF.ground G0
  refine ⟨s₀, hf, hg0, s, hT, fun n hn => ?_, RF.1, RF.2.1, callFrom_clean (tree := fun vs => do
    match ← nsGet mainNs r.name with
      | some f => do ret (← PySem.call f vs)
      | none => unsupported "claim.caller:no-such-global") hz hgens fun args hpre hlay ord hord => ?_⟩
  · obtain rfl : n = r.name := by split at hn <;> simp_all
    exact pinned_of_view hg G0 hdef hp hk
  obtain ⟨⟨vs, s₁⟩, hlaid⟩ := Option.isSome_iff_exists.mp (layAllW_isSome (P := w.params) (ord := ord) G.has args r.args s (pre_splitW hpre).1)
  have keeps := layAllW_keeps _ _ _ hlaid
  have hal := layAllW_rest _ _ _ hlaid
  obtain ⟨as, hrd, hin, hold⟩ := reads_layAllW hord _ _ _ hlaid hlay s₁.heap (fun _ _ e => e)
  have L : Laid r.records w s s₁ args vs as := ⟨⟨ord, hord, hlaid⟩, hrd, hin, hold, keeps, hal.1.trans hgens, hal.2.2.1⟩
  have G₁ := G.keeps hXk keeps
  obtain ⟨a, o, pm, cd, doc, dV, kV, h1, h2, h3, h4, h5⟩ := G₁.fn hdef
  have main := call w s s₁ _ _ G₁ (hYk _ _ _ (hY w s y) keeps) a o pm cd doc dV kV h2 h3 h4 h5 (defOf_name hdef ▸ h1) L.gens args vs as hpre hlay L.reads L.well (L.low G.low)
  refine ⟨vs, s₁, hlaid, ?_⟩
  refine wpC_bind (wpC.of (wpAny_nsGet G₁.T.g ?_))
  rw [h1]
  refine wpC_bind (wpC_mono main (fun v s' g => wpC_pure ⟨_, rfl, ?_⟩) fun e s' g => ?_)
  · have z := g.laid (c := r.claim) hsame hwi hi L
    exact ⟨⟨z.1, z.2.1, fun q => ⟨namesKept_of hT hg r.keeps keeps g.2.1.old, noTable hwr q⟩⟩, leftWithCleanup_false_of_bare z.2.2⟩
  · have z := g.laid (c := r.claim) hsame hwi hi L
    exact ⟨⟨z.1, z.2.1, fun q => ⟨namesKept_of hT hg r.keeps keeps g.2.1.old, noTable hwr q⟩⟩, leftWithCleanup_false_of_bare z.2.2⟩
end K_holds_open
end
theorem holds_open {r : OpenRow} : K_holds_open.KP r :=
  @Classical.choose_spec _ _ K_holds_open.Kex (by with_unfolding_all exact @K_holds_open.at0) (r)
end PySem.W
section
set_option hygiene false in
local macro_rules | `(tactic| o_head $_) => `(tactic| (refine (fun (_ : True) h => h) ?hw ?hc))
local macro_rules | `(tactic| o_law) => `(tactic| skip)
local macro_rules | `(tactic| w_on) => `(tactic| skip)
local macro_rules | `(tactic| w_witness2) => `(tactic| exact True.intro)
set_option maxHeartbeats 0 in
set_option maxRecDepth 100000 in
open_top hd for PySem.Challenge.rw_on0262_01.row
end

structure Gd (w : World) (loose : List Str) (mean : ExcName → Option Value) (mg mb : Str → Option Value) (b : Heap) : Prop where
  X : (hd.heap_1 w.params).In b
  T : Top topProg loose mean mg mb b
  c1 : CodeHd b 429 425
  c2 : CodeHd b 422 418
  c3 : CodeHd b 415 413
  c4 : CodeHd b 410 408
  c5 : CodeHd b 405 401
theorem Gd.keeps {w : World} {loose : List Str} {mean : ExcName → Option Value} {mg mb : Str → Option Value} {b g : Heap} (G : Gd w loose mean mg mb b) (k : b.StaysIn g) : Gd w loose mean mg mb g :=
  ⟨G.X.keeps k, G.T.keeps k, G.c1.keeps k, G.c2.keeps k, G.c3.keeps k, G.c4.keeps k, G.c5.keeps k⟩

noncomputable def lo (l : List (Str × Value)) : Str → Option Value := fun x => l.lookup x

def EndF (R : Result → Shared → Prop) (fl : Flow) (s' : Shared) : Prop := R (.ok (.ret (match fl with | .ret v => v | _ => .none))) s'

def Led (b h : Heap) (led : List (Addr × Obj)) : Prop := ∀ p ∈ led, h.get? p.1 = some p.2 ∧ b.get? p.1 = none
theorem Led.sub {b h : Heap} {l l' : List (Addr × Obj)} (D : Led b h l) (k : ∀ p ∈ l', p ∈ l) : Led b h l' := fun p hp => D p (k p hp)

structure After (h h' : Heap) (chg : List (Addr × Obj)) : Prop where
  now : ∀ p ∈ chg, h'.get? p.1 = some p.2
  keep : ∀ a o, h.get? a = some o → (∀ p ∈ chg, p.1 ≠ a) → h'.get? a = some o

inductive UpdM (chg : List (Addr × Obj)) : List (Addr × Obj) → List (Addr × Obj) → Prop
  | nil : UpdM chg [] []
  | upd {a o o' r r'} : (a, o') ∈ chg → UpdM chg r r' → UpdM chg ((a, o) :: r) ((a, o') :: r')
  | keep {p r r'} : (∀ q ∈ chg, q.1 ≠ p.1) → UpdM chg r r' → UpdM chg (p :: r) (p :: r')

section
variable {g h h' : Heap} {L : Addr} {m : Str → Option Value} {news news' led chg : List (Addr × Obj)}
theorem updM_news (N : News g L h news) (Af : After h h' chg) (U : UpdM chg news news') : News g L h' news' := by
  induction U with
  | nil => exact fun p hp => nomatch hp
  | upd hm _ ih =>
    intro p hp
    rcases List.mem_cons.mp hp with rfl | hp
    · exact ⟨Af.now _ hm, (N (_, _) (.head _)).2⟩
    · exact ih (fun q hq => N q (.tail _ hq)) p hp
  | keep hk _ ih =>
    intro p hp
    rcases List.mem_cons.mp hp with rfl | hp
    · exact ⟨Af.keep _ _ (N _ (.head _)).1 hk, (N _ (.head _)).2⟩
    · exact ih (fun q hq => N q (.tail _ hq)) p hp
theorem after_fr (F : Fr g L h m) (Af : After h h' chg) (hc : ∀ p ∈ chg, p.1 ≠ L ∧ g.get? p.1 = none) : Fr g L h' m := by
  obtain ⟨oL, es, ep, hL, r⟩ := F.ns
  refine ⟨⟨oL, es, ep, Af.keep _ _ hL fun p hp => (hc p hp).1, r⟩, fun b o e => Af.keep _ _ (F.keep b o e) fun p hp q => ?_, F.above⟩
  rw [← q, (hc p hp).2] at e; cases e
theorem chg_of (N : News g L h news) (k : ∀ p ∈ chg, ∃ o, (p.1, o) ∈ news) : ∀ p ∈ chg, p.1 ≠ L ∧ g.get? p.1 = none := fun p hp => by
  obtain ⟨o, ho⟩ := k p hp
  exact (N _ ho).2
theorem after_end (F : Fr g L h' m) (N : News g L h' news) (kp : ∀ a o, h.get? a = some o → a ∉ led.map (·.1) → g.get? a = some o) (hm : ∀ p ∈ chg, p ∈ news) (e : led.map (·.1) = chg.map (·.1)) : After h h' chg :=
  ⟨fun p hp => (N p (hm p hp)).1, fun a o q n => F.keep _ _ (kp a o q fun z => by
    rw [e] at z
    obtain ⟨p, hp, e'⟩ := List.mem_map.mp z
    exact n p hp e')⟩
theorem stays_list' {b h : Heap} {l : Addr} {items : Array Value} (k : ∀ a o, b.get? a = some o → h.get? a = some o) (x : b.IsList l items) : h.IsList l items := let ⟨o, ho, r⟩ := x; ⟨o, k l o ho, r⟩
theorem isList_off {led : List (Addr × Obj)} {l : Addr} {items : Array Value} (kp : ∀ a o, h.get? a = some o → a ∉ led.map (·.1) → g.get? a = some o) (x : h.IsList l items) (n : l ∉ led.map (·.1)) : g.IsList l items :=
  let ⟨o, ho, r⟩ := x; ⟨o, kp l o ho n, r⟩
end

section
variable {prog : Program} {w : World} {A : Around} {s : Shared} {b : Heap} {fl : List Env} {led : List (Addr × Obj)} {loose : List Str} {mean : ExcName → Option Value} {mg mb : Str → Option Value}
  {R : Result → Shared → Prop} {name qual : Str} {params : Arguments} {body : List Stmt} {scope : Scope} {dV kV doc pm cdv ct oc : Value} {an od : Option Addr} {osl : Array (Option Value)} {f : Addr} {args : Args} {binds : List (Str × Value)}

theorem hide_stays (k : b.StaysIn s.heap) (D : Led b s.heap led) : b.StaysIn (hideAll s.heap (led.map (·.1))) := fun a o e => hideAll_get _ (k a o e) fun q => by
  obtain ⟨p, hp, rfl⟩ := List.mem_map.mp q
  rw [(D p hp).2] at e; cases e

structure Got (b h0 g : Heap) (led : List (Addr × Obj)) (L : Addr) : Prop where
  kp : ∀ a o, h0.get? a = some o → a ∉ led.map (·.1) → g.get? a = some o
  new : h0.get? L = none
  st : b.StaysIn g
  D : Led b h0 led
  of : ∀ a o, g.get? a = some o → h0.get? a = some o
  lt : ∀ p ∈ led, p.1 < L
  sz : h0.objs.size = L
theorem got_hide (k : b.StaysIn s.heap) (D : Led b s.heap led) : Got b s.heap (hideAll s.heap (led.map (·.1))) led s.heap.objs.size :=
  ⟨fun a o q z => hideAll_get _ q z, Heap.get?_none_of_le (Nat.le_refl _), hide_stays k D, D, fun a o q => of_hideAll _ q, fun p hp => Heap.lt_size (D p hp).1, rfl⟩
theorem Got.below {A : Around} {g : Heap} {L : Addr} {h0 : Heap} (Z : Got b h0 g led L) (B : Below A b fl h0) (n : ∀ env ∈ fl, ∀ p ∈ led, env.frame ≠ some p.1) : Below A b fl g := by
  refine ⟨B.stack, Z.st, ?_⟩
  have : ∀ l : List Env, h0.FunFrames b l → (∀ env ∈ l, ∀ p ∈ led, env.frame ≠ some p.1) → g.FunFrames b l := by
    intro l
    induction l with
    | nil => exact fun _ _ => trivial
    | cons x r ih =>
      intro ⟨q1, ⟨L', o, q2, q3, q4, q5⟩, q6⟩ hn
      refine ⟨q1, ⟨L', o, q2, q3, Z.kp _ _ q4 fun z => ?_, q5⟩, ih q6 fun env he => hn env (.tail _ he)⟩
      obtain ⟨p, hp, e⟩ := List.mem_map.mp z
      exact hn x (.head _) p hp (by rw [q2, e])
  exact this fl B.frames n

theorem enterE' {g : Heap} {L' : Addr} (hg : g = hideAll s.heap (led.map (·.1))) (hL : L' = s.heap.objs.size) (k : b.StaysIn s.heap) (G : Gd w loose mean mg mb b) (D : Led b s.heap led)
    (ho : (hd.heap_1 w.params).lookup f = some ⟨oc, od, .func (fnOf name qual params body scope dV kV doc pm an cdv ct), osl⟩) (hcd : codeIn (hd.heap_1 w.params) cdv qual = true) (hroom : A.depth < recursionLimit)
    (hbind : BindsTo s (fnOf name qual params body scope dV kV doc pm an cdv ct) args binds) (hloc : ∀ y ∈ binds, scope.names.lookup y.1 = some .local)
    (h : ∀ h₁, Got b s.heap g led L' → Fr g L' h₁ (lo binds.reverse) → News g L' h₁ led →
      wpAny (model prog w) (A.deeper (envOf qual scope L' f cdv)) (execs body (envOf qual scope L' f cdv))
        (fun fl s' => EndF R fl s')
        (fun e s' => wpAny (model prog w) (A.deeper (envOf qual scope L' f cdv)) (leaving (envOf qual scope L' f cdv) e) (fun _ s'' => R (.error e) s'') (fun e' s'' => R (.error e') s'') s')
        { s with heap := h₁, toks := s.toks + binds.length })
    (hco : scope.isCoroutine = false) (hgen : scope.isGenerator = false) (hk : scope.kind = .function)
    (hcell : ∀ x ∈ scope.names, x.2 ≠ .cell) : codeAny (model prog w) A (.call (.ref f) args) R s := by
  subst hg hL
  have Xs := G.X.keeps k
  refine codeAny_call_def (fd := fnOf name qual params body scope dV kV doc pm an cdv ct) (body := body) (binds := binds) hroom (Xs _ _ ho) rfl (G.T.nolimit.keeps k) (codeRec_of Xs hcd) rfl hbind hcell hloc (fun h₁ hns hk₁ => ?_) hco hgen hk
  exact h h₁ (got_hide k D) ⟨hns, fun b o e => hk₁ b o (of_hideAll _ e), Nat.le_of_eq (hideAll_size _ _)⟩
    (fun p hp => ⟨hk₁ _ _ (D p hp).1, Nat.ne_of_lt (Heap.lt_size (D p hp).1), hideAll_none _ (List.mem_map_of_mem hp)⟩)

theorem enterE (k : b.StaysIn s.heap) (G : Gd w loose mean mg mb b) (D : Led b s.heap led)
    (ho : (hd.heap_1 w.params).lookup f = some ⟨oc, od, .func (fnOf name qual params body scope dV kV doc pm an cdv ct), osl⟩) (hcd : codeIn (hd.heap_1 w.params) cdv qual = true) (hroom : A.depth < recursionLimit)
    (hbind : BindsTo s (fnOf name qual params body scope dV kV doc pm an cdv ct) args binds) (hloc : ∀ y ∈ binds, scope.names.lookup y.1 = some .local)
    (h : ∀ g L' h₁, Got b s.heap g led L' → Fr g L' h₁ (lo binds.reverse) → News g L' h₁ led →
      wpAny (model prog w) (A.deeper (envOf qual scope L' f cdv)) (execs body (envOf qual scope L' f cdv))
        (fun fl s' => EndF R fl s')
        (fun e s' => wpAny (model prog w) (A.deeper (envOf qual scope L' f cdv)) (leaving (envOf qual scope L' f cdv) e) (fun _ s'' => R (.error e) s'') (fun e' s'' => R (.error e') s'') s')
        { s with heap := h₁, toks := s.toks + binds.length })
    (hco : scope.isCoroutine = false) (hgen : scope.isGenerator = false) (hk : scope.kind = .function)
    (hcell : ∀ x ∈ scope.names, x.2 ≠ .cell) : codeAny (model prog w) A (.call (.ref f) args) R s :=
  enterE' rfl rfl k G D ho hcd hroom hbind hloc (fun h₁ => h _ _ h₁) hco hgen hk hcell
theorem enterC' {g : Heap} {L' : Addr} (hg : g = hideAll s.heap (led.map (·.1))) (hL : L' = s.heap.objs.size) (k : b.StaysIn s.heap) (G : Gd w loose mean mg mb b) (D : Led b s.heap led)
    (ho : (hd.heap_1 w.params).lookup f = some ⟨oc, od, .func (fnOf name qual params body scope dV kV doc pm an cdv ct), osl⟩) (hcd : codeIn (hd.heap_1 w.params) cdv qual = true) (hroom : A.depth < recursionLimit)
    (hbind : BindsTo s (fnOf name qual params body scope dV kV doc pm an cdv ct) args binds) (hkind : (binds.all fun y => scope.names.lookup y.1 == some .local || scope.names.lookup y.1 == some .cell) = true)
    (hnd : ((cellsFrom 0 scope.names []).map (·.1)).Nodup)
    (h : ∀ h₁ tk cells, Got b s.heap g led L' → Fr g L' h₁ (bindL (envOfC qual scope L' f cdv).kindOf binds fun _ => none) → News g L' h₁ (cells ++ led) →
      CellsAre (bindC (envOfC qual scope L' f cdv).kindOf binds fun _ => none) (cellsFrom (L' + 1) scope.names []) cells →
      wpAny (model prog w) (A.deeper (envOfC qual scope L' f cdv)) (execs body (envOfC qual scope L' f cdv))
        (fun fl s' => EndF R fl s')
        (fun e s' => wpAny (model prog w) (A.deeper (envOfC qual scope L' f cdv)) (leaving (envOfC qual scope L' f cdv) e) (fun _ s'' => R (.error e) s'') (fun e' s'' => R (.error e') s'') s')
        { s with heap := h₁, toks := tk })
    (hco : scope.isCoroutine = false) (hgen : scope.isGenerator = false) (hk : scope.kind = .function) : codeAny (model prog w) A (.call (.ref f) args) R s := by
  subst hg hL
  have Xs := G.X.keeps k
  have hlim := G.T.nolimit.keeps k
  refine codeAny_call_function hroom (Xs _ _ ho) rfl hco hgen rfl (codeRec_of Xs hcd) (hbind _ _ _ _ ?_)
  refine wpAny_newFunctionEnv_cells hk (kindsX hkind _) fun env' he s' x => ?_
  subst he
  refine ⟨hlim.keeps x.toInCall.keep, codeAny_func ?_⟩
  obtain ⟨h₁, tk, rfl, _⟩ := x.done
  have hk₁ := x.toInCall.keep
  obtain ⟨cells, NC, Y⟩ := Cl.news (h₀ := s.heap) (Nat.le_refl _) fun n c hm => ⟨x.cell n c (lookup_of_mem_nodup (cellsFrom_names scope.names 0 (s.heap.objs.size + 1) [] [] rfl ▸ hnd) hm), x.above n c hm⟩
  refine h h₁ tk cells (got_hide k D) ⟨x.toInCall.ns, fun b o e => hk₁ b o (of_hideAll _ e), Nat.le_of_eq (hideAll_size _ _)⟩ (fun p hp => ?_) Y
  rcases List.mem_append.mp hp with hp | hp
  · refine ⟨(NC p hp).1, (NC p hp).2.1, ?_⟩
    cases q : (hideAll s.heap (led.map (·.1))).get? p.1 with
    | none => rfl
    | some o => have := of_hideAll _ q; rw [(NC p hp).2.2] at this; cases this
  · exact ⟨hk₁ _ _ (D p hp).1, Nat.ne_of_lt (Heap.lt_size (D p hp).1), hideAll_none _ (List.mem_map_of_mem hp)⟩
theorem enterC (k : b.StaysIn s.heap) (G : Gd w loose mean mg mb b) (D : Led b s.heap led)
    (ho : (hd.heap_1 w.params).lookup f = some ⟨oc, od, .func (fnOf name qual params body scope dV kV doc pm an cdv ct), osl⟩) (hcd : codeIn (hd.heap_1 w.params) cdv qual = true) (hroom : A.depth < recursionLimit)
    (hbind : BindsTo s (fnOf name qual params body scope dV kV doc pm an cdv ct) args binds) (hkind : (binds.all fun y => scope.names.lookup y.1 == some .local || scope.names.lookup y.1 == some .cell) = true)
    (hnd : ((cellsFrom 0 scope.names []).map (·.1)).Nodup)
    (h : ∀ g L' h₁ tk cells, Got b s.heap g led L' → Fr g L' h₁ (bindL (envOfC qual scope L' f cdv).kindOf binds fun _ => none) → News g L' h₁ (cells ++ led) →
      CellsAre (bindC (envOfC qual scope L' f cdv).kindOf binds fun _ => none) (cellsFrom (L' + 1) scope.names []) cells →
      wpAny (model prog w) (A.deeper (envOfC qual scope L' f cdv)) (execs body (envOfC qual scope L' f cdv))
        (fun fl s' => EndF R fl s')
        (fun e s' => wpAny (model prog w) (A.deeper (envOfC qual scope L' f cdv)) (leaving (envOfC qual scope L' f cdv) e) (fun _ s'' => R (.error e) s'') (fun e' s'' => R (.error e') s'') s')
        { s with heap := h₁, toks := tk })
    (hco : scope.isCoroutine = false) (hgen : scope.isGenerator = false) (hk : scope.kind = .function) : codeAny (model prog w) A (.call (.ref f) args) R s :=
  enterC' rfl rfl k G D ho hcd hroom hbind hkind hnd (fun h₁ tk cells => h _ _ h₁ tk cells) hco hgen hk
end

theorem codeAny_room {M : Model} {A A' : Around} {c : Code} {R : Result → Shared → Prop} {s : Shared} (h : codeAny M A' c R s) (h1 : A.handled = A'.handled) (h2 : A.depth ≤ A'.depth) (h3 : A'.frames = none ∨ A.frames = A'.frames) (h4 : A'.guards = none) (h5 : A.units ≤ A'.units) : codeAny M A c R s := by
  intro Γ p hc hΓ
  refine h Γ p hc ⟨hΓ.1.trans h1, Nat.le_trans hΓ.2.1 h2, fun l hl => ?_, fun g hg => ?_, Nat.le_trans hΓ.2.2.2.2 h5⟩
  · rcases h3 with q | q
    · rw [q] at hl; cases hl
    · exact hΓ.2.2.1 l (q.trans hl)
  · rw [h4] at hg; cases hg

def New (h h' : Heap) (nw : List (Addr × Obj)) : Prop := ∀ p ∈ nw, h.objs.size ≤ p.1 ∧ h'.get? p.1 = some p.2
theorem New.none {h h' : Heap} {nw : List (Addr × Obj)} (W : New h h' nw) : ∀ p ∈ nw, h.get? p.1 = .none := fun p hp => Heap.get?_none_of_le (W p hp).1
def AllNew (L : Nat) : List (Addr × Obj) → List (Addr × Obj) → Prop
  | [], _ => True
  | q :: r, news => (@LT.lt Nat _ L q.1 ∧ AllLt q.1 news) ∧ AllNew L r news
theorem allLt_nil {d : Addr} : AllLt d [] = True := rfl
theorem allLt_cons {d : Addr} {p : Addr × Obj} {r : List (Addr × Obj)} : AllLt d (p :: r) = (@LT.lt Nat _ p.1 d ∧ AllLt d r) := rfl
theorem allNew_of {L : Addr} {news : List (Addr × Obj)} : ∀ {nw : List (Addr × Obj)}, (∀ q ∈ nw, L < q.1 ∧ ∀ p ∈ news, p.1 < q.1) → AllNew L nw news
  | [], _ => trivial
  | q :: _, h => ⟨⟨(h q (.head _)).1, allLt_of (h q (.head _)).2⟩, allNew_of fun x hx => h x (.tail _ hx)⟩
theorem new_go {P : Prop} {g h h' : Heap} {L : Addr} {m : Str → Option Value} {news chg nw news' : List (Addr × Obj)} (F : Fr g L h m) (N : News g L h news) (Af : After h h' chg) (W : New h h' nw) (U : UpdM chg news news') (hc : ∀ p ∈ chg, ∃ o, (p.1, o) ∈ news)
    (k : Fr g L h' m → News g L h' (nw ++ news') → AllNew L nw news → P) : P := by
  have F' := after_fr F Af (chg_of N hc)
  have N' := updM_news N Af U
  have hL : L < h.objs.size := by obtain ⟨o, es, ep, ho, _⟩ := F.ns; exact Heap.lt_size ho
  refine k F' (fun p hp => ?_) (allNew_of fun q hq => ⟨Nat.lt_of_lt_of_le hL (W q hq).1, fun p hp => Nat.lt_of_lt_of_le (Heap.lt_size (N p hp).1) (W q hq).1⟩)
  rcases List.mem_append.mp hp with hp | hp
  · refine ⟨(W p hp).2, Nat.ne_of_gt (Nat.lt_of_lt_of_le hL (W p hp).1), ?_⟩
    cases e : g.get? p.1 with
    | none => rfl
    | some o => have := F.keep _ o e; rw [W.none p hp] at this; cases this
  · exact N' p hp
noncomputable def dPut (is : Value → Bool) (hs : Int) (key v : Value) (es : Array DictEntry) (ep : Nat) : Obj := match es.findIdx? (fun e => is e.key) with
  | some i => ⟨.type "dict", none, .dict (es.modify i fun e => { e with val := v }) ep, #[]⟩
  | none => ⟨.type "dict", none, .dict (es.push ⟨hs, key, v⟩) (ep + 1), #[]⟩

section
variable {prog : Program} {w : World} {K : Type} [DecidableEq K] {knd : KeyKind prog w K} {A : Around} {E : Value → Shared → Prop} {s : Shared} {d : Addr} {k : K} {key : Value}
theorem dictSet_obj {es : Array DictEntry} {ep : Nat} {v : Value} {Q : Unit → Shared → Prop} (hkey : knd.is k key = true) (ho : s.heap.get? d = some ⟨.type "dict", none, .dict es ep, #[]⟩) (hk : KeysOf knd es) (hz : es.size ≤ sizeLine)
    (hQ : ∀ h', h'.get? d = some (dPut (knd.is k) (knd.hash k) key v es ep) → Heap.SameBut d s.heap h' → Q () { s with heap := h', toks := s.toks + 1 }) :
    wpAny (model prog w) A (dictSet d key v) Q E s := by
  unfold dictSet
  try with_reducible refine wpAny_holding ?_
  refine wpAny_bind (knd.pyHash hkey ?_)
  unfold dictSetHashed
  try with_reducible refine wpAny_holding ?_
  refine wpAny_bind (wpAny_dictFind_of (s := { s with toks := s.toks + 1 }) hkey ho rfl hk ?_)
  unfold dPut at hQ
  cases hi : es.findIdx? fun e => knd.is k e.key with
  | some i =>
    rw [hi] at hQ
    refine wpAny_bind (wpAny_rule (wpAny_bind (wpAny_updateDict (s := { s with toks := s.toks + 1 }) ho rfl (wpAny_point (hQ _ (Heap.get?_update_self _ ho rfl) (Heap.SameBut.update ..))))))
  | none =>
    rw [hi] at hQ
    refine wpAny_bind (wpAny_rule (wpAny_updateDictKeys (hz := hz) (s := { s with toks := s.toks + 1 }) ho rfl (hQ _ (Heap.get?_update_self _ ho rfl) (Heap.SameBut.update ..))))
theorem setItem_obj {es : Array DictEntry} {ep : Nat} {v : Value} {Q : Unit → Shared → Prop} (hkey : knd.is k key = true) (ho : s.heap.get? d = some ⟨.type "dict", none, .dict es ep, #[]⟩) (hk : KeysOf knd es) (hz : es.size ≤ sizeLine)
    (hQ : ∀ h', h'.get? d = some (dPut (knd.is k) (knd.hash k) key v es ep) → Heap.SameBut d s.heap h' → Q () { s with heap := h', toks := s.toks + 1 }) :
    wpAny (model prog w) A (setItem (.ref d) key v) Q E s := by
  have hT : s.TypeIs (.ref d) "dict" := ⟨_, ho, rfl⟩
  unfold setItem
  try with_reducible refine wpAny_holding ?_
  refine wpAny_bind (wpAny_sequenceKey hT (by decide) ?_)
  refine wpAny_bind (wpAny_callSpecial?_slot (name := Str.ofString "__setitem__") hT slot_dict_setitem
    (wpAny_call_entry slot_dict_setitem hT entry_dict_setitem ?_ (args_dict_setitem _ _ _)))
  show wpAny _ _ (Builtin.Dict.notOrdered "__setitem__" ⟨[.ref d, key, v], []⟩ >>= _) _ _ s
  refine wpAny_bind (wpAny_notOrdered_dict hT ?_)
  show wpAny _ _ (dictSet d key v >>= _) _ _ s
  exact wpAny_bind (dictSet_obj hkey ho hk hz fun h' hm' hs' => wpAny_pure ⟨.none, rfl, wpAny_pure (hQ h' hm' hs')⟩)
end

section
variable {prog : Program} {w : World} {A : Around} {E : Value → Shared → Prop} {s : Shared} {h₀ : Heap} {L : Addr} {m : Str → Option Value} {news news' : List (Addr × Obj)} {d : Addr} {es es' : List DictEntry} {n n' : Nat} {x : Str} {t : Tok} {v : Value}

theorem keysLit_of (hk : KeysLit w.params es) : KeysOf (strKind prog w) es.toArray := fun e he => by
  obtain ⟨x, t, e1, e2⟩ := hk.all e (by simpa using he)
  exact ⟨x, by rw [e1]; exact strKind_is prog w x t, e2⟩
theorem mapOf_lit {h : Heap} (ho : h.get? d = some (dictOf es n)) (hk : KeysLit w.params es) : h.MapOf (strKind prog w) d (fun k => findBy Value.isStrOf es.toArray k) :=
  ⟨_, es.toArray, n, ho, ⟨rfl, rfl, rfl⟩, rfl, keysLit_of hk, fun _ => rfl⟩
theorem find_lit (e : getL x es = some (some v)) : findBy Value.isStrOf es.toArray x = some v := by
  unfold getL at e
  have q : (fun d : DictEntry => Value.isStrOf x d.key) = fun d => d.key.isStr x := funext fun d => (isStr_of x d.key).symm
  unfold findBy
  rw [List.find?_toArray, q]
  cases q' : List.find? (fun d => d.key.isStr x) es with
  | some e' => rw [q'] at e; exact congrArg _ (Option.some.inj (Option.some.inj e))
  | none =>
    rw [q'] at e
    dsimp only at e
    cases q2 : es.any (·.refKey) with
    | true => rw [q2, if_pos rfl] at e; cases e
    | false => rw [q2, if_neg Bool.false_ne_true] at e; cases e
theorem dget {value slice : Expr} {Q : Value → Shared → Prop} (N : News h₀ L s.heap news) (hm : (d, dictOf es n) ∈ news) (hk : KeysLit w.params es) (e : getL x es = some (some v)) (h : Q v { s with toks := s.toks + 1 })
    (hs : subscripted slice false (.ref d) (.str x t) = operate [.ref d, .str x t] (getItem (.ref d) (.str x t)) := by with_unfolding_all rfl) :
    wpAny (model prog w) A (subscriptTail value slice (.ref d) (.str x t)) Q E s :=
  have hmo := mapOf_lit (prog := prog) (N.get hm) hk
  tail_any hmo.typeIs slot_dict_getitem.lookup (wpAny_getItem_of (strKind_is prog w x t) hmo (find_lit e) h) hs

theorem dPut_lit : dPut ((strKind prog w).is x) ((strKind prog w).hash x) (.str x t) v es.toArray n = dictOf (putL x (PyData.keyHash w.params x) (.str x t) v es) (putN x es n) := by
  have h1 := putL_find x (PyData.keyHash w.params x) (.str x t) v es
  have h2 := any_of_findIdx x es
  have q : (fun e : DictEntry => (strKind prog w).is x e.key) = fun d => d.key.isStr x := funext fun d => (isStr_of x d.key).symm
  unfold dPut dictOf putN
  rw [List.findIdx?_toArray, q]
  cases h : List.findIdx? (fun e => e.key.isStr x) es with
  | none => rw [h] at h1 h2; rw [← h2, ← h1]; dsimp only; rw [List.push_toArray]; rfl
  | some i => rw [h] at h1 h2; rw [← h2, ← h1]; dsimp only; rw [List.modify_toArray]; rfl

theorem news_upd {h' : Heap} {o o' : Obj} (F : Fr h₀ L s.heap m) (N : News h₀ L s.heap news) (U : Upd d o o' news news') (hs : Heap.SameBut d s.heap h') (hd : h'.get? d = some o') : Fr h₀ L h' m ∧ News h₀ L h' news' := by
  obtain ⟨pre, post, rfl, rfl, a, b⟩ := U.split
  have hmem := N (d, o) (List.mem_append_right _ (.head _))
  refine ⟨F.change hs hmem.2.1 hmem.2.2, news_set N a b hs hd⟩

theorem dset {Q : Unit → Shared → Prop} (F : Fr h₀ L s.heap m) (N : News h₀ L s.heap news) (hk : KeysLit w.params es) (U : Upd d (dictOf es n) (dictOf es' n') news news')
    (e : (putL x (PyData.keyHash w.params x) (.str x t) v es, putN x es n) = (es', n')) (hz : es.length ≤ 1000)
    (h : ∀ h', Fr h₀ L h' m → News h₀ L h' news' → Q () { s with heap := h', toks := s.toks + 1 }) : wpAny (model prog w) A (setItem (.ref d) (.str x t) v) Q E s := by
  obtain ⟨e1, e2⟩ := Prod.mk.inj e
  have hmem : (d, dictOf es n) ∈ news := by obtain ⟨pre, post, rfl, _⟩ := U.split; exact List.mem_append_right _ (.head _)
  refine setItem_obj (knd := strKind prog w) (strKind_is prog w x t) (N.get hmem) (keysLit_of hk) (by simp only [List.size_toArray, sizeLine]; omega) fun h' hd hs => ?_
  rw [dPut_lit, e1, e2] at hd
  obtain ⟨F', N'⟩ := news_upd F N U hs hd
  exact h h' F' N'
end
inductive PutR (x : Str) (hs : Int) (key v : Value) : List DictEntry → Nat → List DictEntry → Nat → Prop
  | nil {n} : PutR x hs key v [] n [⟨hs, key, v⟩] (n + 1)
  | hit {h t v₀ r n} : PutR x hs key v (⟨h, .str x t, v₀⟩ :: r) n (⟨h, .str x t, v⟩ :: r) n
  | next {h y t u r n r' n'} : (y == x) = false → PutR x hs key v r n r' n' → PutR x hs key v (⟨h, .str y t, u⟩ :: r) n (⟨h, .str y t, u⟩ :: r') n'
theorem PutR.eq {x : Str} {hs : Int} {key v : Value} {es es' : List DictEntry} {n n' : Nat} (P : PutR x hs key v es n es' n') : (putL x hs key v es, putN x es n) = (es', n') := by
  induction P with
  | nil => rfl
  | @hit h t v₀ r n =>
    have q : (Value.str x t).isStr x = true := beq_self_eq_true x
    rw [putL]
    delta putN
    rw [List.any_cons]
    dsimp only
    rw [q, Bool.true_or, if_pos rfl, if_pos rfl]
  | @next h y t u r n r' n' hne _ ih =>
    have q : (Value.str y t).isStr x = false := hne
    obtain ⟨e1, e2⟩ := Prod.mk.inj ih
    rw [← e1, ← e2, putL]
    delta putN
    rw [List.any_cons]
    dsimp only
    rw [q, Bool.false_or, if_neg Bool.false_ne_true]
theorem dsetR {prog : Program} {w : World} {A : Around} {E : Value → Shared → Prop} {s : Shared} {h₀ : Heap} {L : Addr} {m : Str → Option Value} {news news' : List (Addr × Obj)} {d : Addr} {es es' : List DictEntry} {n n' : Nat} {x : Str} {t : Tok} {v : Value} {Q : Unit → Shared → Prop} (F : Fr h₀ L s.heap m) (N : News h₀ L s.heap news) (hk : KeysLit w.params es) (hm : (d, dictOf es n) ∈ news)
    (e : PutR x (PyData.keyHash w.params x) (.str x t) v es n es' n') (U : Upd d (dictOf es n) (dictOf es' n') news news') (hz : es.length ≤ 1000)
    (h : ∀ h', Fr h₀ L h' m → News h₀ L h' news' → Q () { s with heap := h', toks := s.toks + 1 }) : wpAny (model prog w) A (setItem (.ref d) (.str x t) v) Q E s := by
  let _ := hm
  exact dset F N hk U e.eq hz h
theorem fill0 : hd.heap_1 = hd.heap_1 ∧ PySem.Challenge.rw_on0262_01 = PySem.Challenge.rw_on0262_01 := by
  k_fill
  exact ⟨rfl, rfl⟩
theorem kwA2lines1 : True := by
  k_with "my all" => first | exact List.forall_mem_nil _ | (refine' allc ?ax922 ?bx922; (case ax922 => k_ne); (case bx922 => walk_at "my all"))
  k_with "subscriptTail Name Constant ref str" => (k_here; k_dflt (refine' dget ?Nxe99 ?mxe99 ?kxe99 ?exe99 ?_; (case Nxe99 => k_asm); (case mxe99 => k_mem); (case kxe99 => k_keys); (case exe99 => k_get); k_whole))
  k_with "my putr" => first | exact PutR.hit | (refine' PutR.next ?kaxe8b ?kbxe8b; (case kaxe8b => decide); (case kbxe8b => walk_at "my putr")) | exact PutR.nil
  k_with "setItem ref str" => (k_here; k_dflt (refine' dsetR ?Fx6d2 ?Nx6d2 ?kx6d2 ?mx6d2 ?ex6d2 ?Ux6d2 ?zx6d2 ?_; (case Fx6d2 => k_asm); (case Nx6d2 => k_asm); (case mx6d2 => k_mem); (case kx6d2 => k_keys); (case ex6d2 => walk_at "my putr"); (case Ux6d2 => k_upd); (case zx6d2 => exact Nat.le_of_ble_eq_true rfl); k_whole); intro h' F' N'; (try k_sweep))
  k_with "my go" => ((try k_fold); repeat' (first | (k_unfold; (try dsimp only)) | (walk1; (try dsimp only)) | (dsimp only; walk1)))
  k_with "my enter" => ( (case k6 => k_dflt k_is); (case k7 => k_dflt k_is); (case k8 => first | decide | assumption | k_room); (case k9 => first | exact BindsTo.of_eq rfl | exact binds_K (by assumption) rfl (by k_is) rfl rfl rfl); (case kB => exact locs rfl); (case c5 => decide); (case c2 => exact rfl); (case c3 => exact rfl); (case c4 => exact rfl))
  k_with "callWith ref" => (k_here; (first | ((with_reducible show wpAny _ _ (callWith _ (Value.ref _) _ (backTo _ (starEach (_ :: _) _)) []) _ _ _); k_dflt (refine' callWith_K ?k1xac6 ?k2xac6 ?_; (case k1xac6 => k_asm); (case k2xac6 => k_is); k_whole)) | ((with_reducible show wpAny _ _ (callWith _ (Value.ref _) _ (backTo _ (starEach [] _)) []) _ _ _); k_dflt (refine' callWith_K0 ?k1xac6 ?k2xac6 ?_; (case k1xac6 => k_in); (case k2xac6 => k_is); k_whole))))
  exact trivial
noncomputable abbrev deckO (w : World) (cl : Addr) (k : Int) (tk t1 t2 : Tok) (n : Nat) : Obj := dictOf
  [⟨PyData.keyHash w.params (Str.ofString "cells"), .str (Str.ofString "cells") t1, .ref cl⟩, ⟨PyData.keyHash w.params (Str.ofString "at"), .str (Str.ofString "at") t2, .int k tk⟩] n
noncomputable section
namespace K_draw_c
set_option maxRecDepth 100000 in
set_option maxHeartbeats 4000000 in
def KP (w : World) (b : Heap) (loose : List Str) (mean : ExcName → Option Value) (mg mb : Str → Option Value) (s : Shared) (dk cl : Addr) (k below : Int) (tk t1 t2 t3 : Tok) (n : Nat) (ns : List Int) (vs : List Value) (R : Result → Shared → Prop) : Prop := ∀ {A : Around} (st : b.StaysIn s.heap) (G : Gd w loose mean mg mb b) (D : Led b s.heap [(dk, deckO w cl k tk t1 t2 n)]) (hl : s.heap.IsList cl vs.toArray) (hne : cl ≠ dk) (hv : IntsAre vs ns) (hlen : ns.length ≤ 60) (hk0 : 0 ≤ k) (hk1 : k < 1000) (hb0 : 0 < below) (hb1 : below < 200) (hA : A = { depth := 900, units := 5000, frames := none, handled := none, guards := none }) (hR : ∀ r tk₁ tk₂ h' tks, 0 ≤ r → r < below → After s.heap h' [(dk, deckO w cl (k + 1) tk₂ t1 t2 n)] → R (.ok (.ret (.int r tk₁))) ⟨h', s.gens, s.drawn, tks, s.os⟩), codeAny (model Challenge.rw_on0262_01.row.prog w) A (.call (.ref 371) ⟨[.ref dk, .int below t3], []⟩) R s
set_option maxRecDepth 100000 in
set_option maxHeartbeats 4000000 in
def KT (x : (World × Heap × List Str × (ExcName → Option Value) × (Str → Option Value) × (Str → Option Value)) × (Shared × Addr × Addr × Int × Int × Tok) × (Tok × Tok × Tok × Nat × List Int × List Value) × (Result → Shared → Prop)) : Prop := KP x.1.1 x.1.2.1 x.1.2.2.1 x.1.2.2.2.1 x.1.2.2.2.2.1 x.1.2.2.2.2.2 x.2.1.1 x.2.1.2.1 x.2.1.2.2.1 x.2.1.2.2.2.1 x.2.1.2.2.2.2.1 x.2.1.2.2.2.2.2 x.2.2.1.1 x.2.2.1.2.1 x.2.2.1.2.2.1 x.2.2.1.2.2.2.1 x.2.2.1.2.2.2.2.1 x.2.2.1.2.2.2.2.2 x.2.2.2
theorem Kex : ∃ x, KT x → ∀ y, KT y := drink ((anyW, default, default, default, default, default), ({}, default, default, default, default, default), (default, default, default, default, default, default), (fun _ _ => True)) _
@[irreducible] def Kx0 := Classical.choose Kex
@[irreducible] def w := Kx0.1.1
@[irreducible] def b := Kx0.1.2.1
@[irreducible] def loose := Kx0.1.2.2.1
@[irreducible] def mean := Kx0.1.2.2.2.1
@[irreducible] def mg := Kx0.1.2.2.2.2.1
@[irreducible] def mb := Kx0.1.2.2.2.2.2
@[irreducible] def s := Kx0.2.1.1
@[irreducible] def dk := Kx0.2.1.2.1
@[irreducible] def cl := Kx0.2.1.2.2.1
@[irreducible] def k := Kx0.2.1.2.2.2.1
@[irreducible] def below := Kx0.2.1.2.2.2.2.1
@[irreducible] def tk := Kx0.2.1.2.2.2.2.2
@[irreducible] def t1 := Kx0.2.2.1.1
@[irreducible] def t2 := Kx0.2.2.1.2.1
@[irreducible] def t3 := Kx0.2.2.1.2.2.1
@[irreducible] def n := Kx0.2.2.1.2.2.2.1
@[irreducible] def ns := Kx0.2.2.1.2.2.2.2.1
@[irreducible] def vs := Kx0.2.2.1.2.2.2.2.2
@[irreducible] def R := Kx0.2.2.2
set_option maxRecDepth 100000
set_option maxHeartbeats 4000000
@[irreducible] def g : Heap := hideAll s.heap (([(dk, deckO w cl k tk t1 t2 n)] : List (Addr × Obj)).map (·.1))
@[irreducible] def L' : Addr := s.heap.objs.size
theorem KgE  : g = hideAll s.heap (([(dk, deckO w cl k tk t1 t2 n)] : List (Addr × Obj)).map (·.1)) := by with_unfolding_all rfl
theorem KlE : L' = s.heap.objs.size := by with_unfolding_all rfl
set_option maxRecDepth 100000 in
set_option maxHeartbeats 4000000 in
theorem at0 : KP w b loose mean mg mb s dk cl k below tk t1 t2 t3 n ns vs R := by
  intro A st G D hl hne hv hlen hk0 hk1 hb0 hb1 hA hR
  subst hA
  refine' enterE' KgE KlE (binds := [(Str.ofString "deck", .ref dk), (Str.ofString "below", .int below t3)]) st G D ?k6 ?k7 ?k8 ?k9 ?kB ?_ ?c2 ?c3 ?c4 ?c5
  walk_at "my enter"
  intro h' Z F' N'
  have hl' : g.IsList cl vs.toArray := isList_off Z.kp hl (by simpa using hne)
  obtain ⟨X', T', _, _, _, _, _⟩ := G.keeps Z.st
  clear hl G st
  walk_at "my go"
  all_goals first
    | exact hR _ _ _ _ _ (by rw [Int.fmod_eq_emod_of_nonneg _ (by omega)]; exact Int.emod_nonneg _ (by omega)) (by rw [Int.fmod_eq_emod_of_nonneg _ (by omega)]; exact Int.emod_lt_of_pos _ hb0) (after_end (by assumption) (by assumption) Z.kp (fun p hp => by obtain rfl := List.mem_singleton.mp hp; k_mem) rfl)
    | (exfalso; (rename decide (ns = []) = false => q); simp at q; (have := List.length_pos_iff.mpr q); omega)
end K_draw_c
end
theorem draw_c {w : World} {b : Heap} {loose : List Str} {mean : ExcName → Option Value} {mg mb : Str → Option Value} {s : Shared} {dk cl : Addr} {k below : Int} {tk t1 t2 t3 : Tok} {n : Nat} {ns : List Int} {vs : List Value} {R : Result → Shared → Prop} : K_draw_c.KP w b loose mean mg mb s dk cl k below tk t1 t2 t3 n ns vs R :=
  @Classical.choose_spec _ _ K_draw_c.Kex (by with_unfolding_all exact @K_draw_c.at0) ((w, b, loose, mean, mg, mb), (s, dk, cl, k, below, tk), (t1, t2, t3, n, ns, vs), R)
noncomputable abbrev over45 : List Value := [.ref 32, .type "Exception", .type "BaseException", .type "object"]
theorem cls45 {w : World} {h : Heap} (X : (hd.heap_1 w.params).In h) : ∃ nm q N bs hdct sn sub ab col dd k0 k1 k2 k3 k5,
    h.get? 45 = some (excClassObj nm q 45 N bs over45 hdct sn sub ab col dd k0 k1 k2 k3 k5 "Exception.__new__") :=
  ⟨_, _, _, _, _, _, _, _, _, _, _, _, _, _, _, X 45 _ (by k_is)⟩

noncomputable abbrev PG : Program := Challenge.rw_on0262_01.row.prog
noncomputable abbrev excO (t1 : Addr) (de : Option Addr) : Obj := { cls := .ref 45, dict := de, data := .fields #[.ref t1, .none, .none, .none, .bool false, .none] }

section
variable {w : World} {A : Around} {E : Value → Shared → Prop} {R : Result → Shared → Prop} {h : Heap} {g : Array GenState} {d : Drawn} {t : Nat} {os : OsState}
theorem cont45 (T : String) : (Value.ref 45 :: over45).contains (.type T) = ([.type "Exception", .type "BaseException", .type "object"] : List Value).contains (.type T) := by
  rw [List.contains_cons, List.contains_cons]
  show (false || (false || _)) = _
  rw [Bool.false_or, Bool.false_or]
end
noncomputable section
namespace K_fault_check_new
def KP (E : Value → Shared → Prop) (h : Heap) (g : Array GenState) (d : Drawn) (t : Nat) (os : OsState) (M : Model) (rest : List Value) (Q : Unit → Shared → Prop) (nm q : Str) (N : Addr) (bs : List Value) (hdct : Bool) (sn : List Str) (sub : List Value) (ab : Bool) (col : Option Bool) (dd : Option Addr) (k0 k1 k2 k3 k5 : Option Value) : Prop := ∀ {A : Around} (hC : h.get? 45 = some (excClassObj nm q 45 N bs over45 hdct sn sub ab col dd k0 k1 k2 k3 k5 "Exception.__new__")) (hq : Q () ⟨h, g, d, t, os⟩), wpAny M A (checkBuiltinCall "Exception.__new__" ⟨.ref 45 :: rest, []⟩) Q E ⟨h, g, d, t, os⟩
def KT (x : ((Value → Shared → Prop) × Heap × Array GenState × Drawn × Nat × OsState) × (Model × List Value × (Unit → Shared → Prop) × Str × Str × Addr) × (List Value × Bool × List Str × List Value × Bool × Option Bool) × (Option Addr × Option Value × Option Value × Option Value × Option Value × Option Value)) : Prop := KP x.1.1 x.1.2.1 x.1.2.2.1 x.1.2.2.2.1 x.1.2.2.2.2.1 x.1.2.2.2.2.2 x.2.1.1 x.2.1.2.1 x.2.1.2.2.1 x.2.1.2.2.2.1 x.2.1.2.2.2.2.1 x.2.1.2.2.2.2.2 x.2.2.1.1 x.2.2.1.2.1 x.2.2.1.2.2.1 x.2.2.1.2.2.2.1 x.2.2.1.2.2.2.2.1 x.2.2.1.2.2.2.2.2 x.2.2.2.1 x.2.2.2.2.1 x.2.2.2.2.2.1 x.2.2.2.2.2.2.1 x.2.2.2.2.2.2.2.1 x.2.2.2.2.2.2.2.2
theorem Kex : ∃ x, KT x → ∀ y, KT y := drink (((fun _ _ => True), default, default, ({} : Shared).drawn, default, ({} : Shared).os), ((model PG anyW), default, (fun _ _ => True), default, default, default), (default, default, default, default, default, default), (default, default, default, default, default, default)) _
@[irreducible] def Kx0 := Classical.choose Kex
@[irreducible] def E := Kx0.1.1
@[irreducible] def h := Kx0.1.2.1
@[irreducible] def g := Kx0.1.2.2.1
@[irreducible] def d := Kx0.1.2.2.2.1
@[irreducible] def t := Kx0.1.2.2.2.2.1
@[irreducible] def os := Kx0.1.2.2.2.2.2
@[irreducible] def M := Kx0.2.1.1
@[irreducible] def rest := Kx0.2.1.2.1
@[irreducible] def Q := Kx0.2.1.2.2.1
@[irreducible] def nm := Kx0.2.1.2.2.2.1
@[irreducible] def q := Kx0.2.1.2.2.2.2.1
@[irreducible] def N := Kx0.2.1.2.2.2.2.2
@[irreducible] def bs := Kx0.2.2.1.1
@[irreducible] def hdct := Kx0.2.2.1.2.1
@[irreducible] def sn := Kx0.2.2.1.2.2.1
@[irreducible] def sub := Kx0.2.2.1.2.2.2.1
@[irreducible] def ab := Kx0.2.2.1.2.2.2.2.1
@[irreducible] def col := Kx0.2.2.1.2.2.2.2.2
@[irreducible] def dd := Kx0.2.2.2.1
@[irreducible] def k0 := Kx0.2.2.2.2.1
@[irreducible] def k1 := Kx0.2.2.2.2.2.1
@[irreducible] def k2 := Kx0.2.2.2.2.2.2.1
@[irreducible] def k3 := Kx0.2.2.2.2.2.2.2.1
@[irreducible] def k5 := Kx0.2.2.2.2.2.2.2.2
set_option maxRecDepth 100000
set_option maxHeartbeats 4000000
theorem at0 : KP E h g d t os M rest Q nm q N bs hdct sn sub ab col dd k0 k1 k2 k3 k5 := by
  intro A hC hq
  have F := PySem.F.excBase_Exception
  have hcont : (Value.ref 45 :: over45).contains (.type "Exception") = true := (cont45 _).trans F.hasB
  have hstar := F.noStar
  unfold checkBuiltinCall
  rw [F.newKind, F.newSplit]
  dsimp only
  (try rw [F.newRow])
  (try dsimp only)
  repeat (first | refine wpAny_loadPart_at hC ?_ | (refine wpAny_isSubtype_exc hC ?_; rw [hcont]) | refine wpAny_staticBase_exc hC ?_ | refine wpAny_madeBy_exc hC ?_ | rw [bne_self_eq_false] | rw [if_neg Bool.false_ne_true] | wp_step)
  exact hq
end K_fault_check_new
end
theorem fault_check_new {E : Value → Shared → Prop} {h : Heap} {g : Array GenState} {d : Drawn} {t : Nat} {os : OsState} {M : Model} {rest : List Value} {Q : Unit → Shared → Prop} {nm q : Str} {N : Addr} {bs : List Value} {hdct : Bool} {sn : List Str} {sub : List Value} {ab : Bool} {col : Option Bool} {dd : Option Addr} {k0 k1 k2 k3 k5 : Option Value} : K_fault_check_new.KP E h g d t os M rest Q nm q N bs hdct sn sub ab col dd k0 k1 k2 k3 k5 :=
  @Classical.choose_spec _ _ K_fault_check_new.Kex (by with_unfolding_all exact @K_fault_check_new.at0) ((E, h, g, d, t, os), (M, rest, Q, nm, q, N), (bs, hdct, sn, sub, ab, col), (dd, k0, k1, k2, k3, k5))

section
variable {w : World} {A : Around} {E : Value → Shared → Prop} {R : Result → Shared → Prop} {h : Heap} {g : Array GenState} {d : Drawn} {t : Nat} {os : OsState}
theorem fault_new {v : Value} {nm q : Str} {N : Addr} {bs : List Value} {hdct : Bool} {sn : List Str} {sub : List Value} {ab : Bool} {col : Option Bool} {dd : Option Addr} {k0 k1 k2 k3 k5 : Option Value}
    (hC : h.get? 45 = some (excClassObj nm q 45 N bs over45 hdct sn sub ab col dd k0 k1 k2 k3 k5 "Exception.__new__"))
    (hq : R (.ok (.ret (.ref (h.objs.size + 1)))) ⟨(h.push { cls := .type "tuple", data := .seq #[v] }).push (excO h.objs.size none), g, d, t, os⟩) :
    codeAny (model PG w) A (.builtin "Exception.__new__" ⟨[.ref 45, v], []⟩) R ⟨h, g, d, t, os⟩ := by
  have F := PySem.F.excBase_Exception
  have hends := F.ends
  have hcB : (Value.ref 45 :: over45).contains (.type "Exception") = true := (cont45 _).trans F.hasB
  have hcA : (Value.ref 45 :: over45).contains (.type "AttributeError") = false := (cont45 _).trans F.noAttr
  have hcN : (Value.ref 45 :: over45).contains (.type "NameError") = false := (cont45 _).trans F.noName
  refine codeAny_builtinAt F.entry ?_
  unfold Builtin.«BaseException.__new__»
  refine PySem.wpAt_bind ?_
  show PySem.wpAt _ _ _ (stack >>= _) _ _ _
  refine PySem.wpAt_bind (PySem.wpAt_stack fun p below => PySem.wpAt_of_wpAny ?_)
  wp_walk
  refine PySem.wpAt_of_wpAny ?_
  rw [F.owner]
  repeat (first | with_reducible refine wpAny_madeHere_exc F.canon hC ?_ | with_reducible refine wpAny_loadPart_at hC ?_ | (with_reducible refine wpAny_isSubtype_exc hC ?_; first | rw [hcB] | rw [hcA] | rw [hcN]) | wp_step)
  show R _ _
  rw [Heap.size_push]
  exact hq
end
noncomputable section
namespace K_fault_type_call
def KP (w : World) (E : Value → Shared → Prop) (h : Heap) (g : Array GenState) (d : Drawn) (t : Nat) (os : OsState) (v : Value) (Q : Fin → Shared → Prop) : Prop := ∀ {A : Around} (X : (hd.heap_1 w.params).In h) (hq : wpAny (model PG w) A (call (.ref 29) [.ref (h.objs.size + 1), v]) (fun r s' => r = .none ∧ Q (.done (.ret (.ref (h.objs.size + 1)))) s') E ⟨(h.push { cls := .type "tuple", data := .seq #[v] }).push (excO h.objs.size none), g, d, t, os⟩), wpAny (model PG w) A (Builtin.«type.__call__» ⟨[.ref 45, v], []⟩) Q E ⟨h, g, d, t, os⟩
def KT (x : (World × (Value → Shared → Prop) × Heap × Array GenState × Drawn × Nat) × (OsState × Value × (Fin → Shared → Prop))) : Prop := KP x.1.1 x.1.2.1 x.1.2.2.1 x.1.2.2.2.1 x.1.2.2.2.2.1 x.1.2.2.2.2.2 x.2.1 x.2.2.1 x.2.2.2
theorem Kex : ∃ x, KT x → ∀ y, KT y := drink ((anyW, (fun _ _ => True), default, default, ({} : Shared).drawn, default), (({} : Shared).os, default, (fun _ _ => True))) _
@[irreducible] def Kx0 := Classical.choose Kex
@[irreducible] def w := Kx0.1.1
@[irreducible] def E := Kx0.1.2.1
@[irreducible] def h := Kx0.1.2.2.1
@[irreducible] def g := Kx0.1.2.2.2.1
@[irreducible] def d := Kx0.1.2.2.2.2.1
@[irreducible] def t := Kx0.1.2.2.2.2.2
@[irreducible] def os := Kx0.2.1
@[irreducible] def v := Kx0.2.2.1
@[irreducible] def Q := Kx0.2.2.2
set_option maxRecDepth 100000
set_option maxHeartbeats 4000000
theorem at0 : KP w E h g d t os v Q := by
  intro A X hq
  obtain ⟨nm, q, N, bs, hdct, sn, sub, ab, col, dd, k0, k1, k2, k3, k5, hC⟩ := cls45 X
  have F := PySem.F.excBase_Exception
  repeat (first | with_reducible refine wpAny_loadPart_at hC ?_ | with_reducible refine wpAny_madeBy_exc hC ?_ | wp_step)
  refine codeAny_call_builtin_code (Code.quiet_builtin _ F.quiet) (fault_check_new hC ?_)
  refine fault_new hC ?_
  show wpAny _ _ _ _ _ _
  have k : ∀ b o, h.get? b = some o → ((h.push { cls := .type "tuple", data := .seq #[v] }).push (excO h.objs.size none)).get? b = some o := fun b o e => Heap.get?_push_of_some _ (Heap.get?_push_of_some _ e)
  have hC₁ := k _ _ hC
  have X₁ := X.keeps k
  have hi := looks_findIn (M := model PG w) X₁ (t := .ref 45) (name := "__init__") (r := some (.ref 29)) (by k_is)
  have hget : ((h.push { cls := .type "tuple", data := .seq #[v] }).push (excO h.objs.size none)).get? (h.objs.size + 1) = some (excO h.objs.size none) := by heap_get
  have hcC : (Value.ref 45 :: over45).contains (.ref 45) = true := by simp
  unfold isInstance
  repeat (first | with_reducible refine wpAny_loadPart_at hget ?_ | (with_reducible refine wpAny_isSubtype_exc hC₁ ?_; rw [hcC]) | wp_step)
  show wpAny _ _ (typeLookup (.ref 45) _) _ _ _
  refine hi.at (wpAny_holding (wpAny_bind ((bind_fn X₁ (.ref (h.objs.size + 1)) (by k_is)).at (wpAny_bind (wpAny_mono hq (fun r s' hr => ?_) fun _ _ x => x)))))
  obtain ⟨rfl, hQ⟩ := hr
  wp_walk
  exact hQ
end K_fault_type_call
end
theorem fault_type_call {w : World} {E : Value → Shared → Prop} {h : Heap} {g : Array GenState} {d : Drawn} {t : Nat} {os : OsState} {v : Value} {Q : Fin → Shared → Prop} : K_fault_type_call.KP w E h g d t os v Q :=
  @Classical.choose_spec _ _ K_fault_type_call.Kex (by with_unfolding_all exact @K_fault_type_call.at0) ((w, E, h, g, d, t), (os, v, Q))
section
variable {w : World} {A : Around} {E : Value → Shared → Prop} {R : Result → Shared → Prop} {h : Heap} {g : Array GenState} {d : Drawn} {t : Nat} {os : OsState}
theorem fault_call {v : Value} {Q : Value → Shared → Prop} (X : (hd.heap_1 w.params).In h)
    (hq : wpAny (model PG w) (A.under (.builtin "type.__call__" ⟨[.ref 45, v], []⟩)) (call (.ref 29) [.ref (h.objs.size + 1), v]) (fun r s' => r = .none ∧ Q (.ref (h.objs.size + 1)) s') E ⟨(h.push { cls := .type "tuple", data := .seq #[v] }).push (excO h.objs.size none), g, d, t, os⟩) :
    wpAny (model PG w) A (call (.ref 45) [v]) Q E ⟨h, g, d, t, os⟩ := by
  obtain ⟨nm, q, N, bs, hdct, sn, sub, ab, col, dd, k0, k1, k2, k3, k5, hC⟩ := cls45 X
  have f1 := tc_lookup
  have f2 := tc_bind (.ref 45)
  have hT : (⟨h, g, d, t, os⟩ : Shared).TypeIs (.ref 45) "type" := ⟨_, hC, rfl⟩
  refine wpAny_call (codeAny_of_tree ?_)
  show wpAny _ _ (callAny (.ref 45) _) _ _ _
  repeat (any_goals (first | assumption | with_reducible refine wpAny_loadPart_at hC ?_ | wp_step))
  refine ⟨rfl, ?_⟩
  exact codeAny_call_builtin_at (Code.quiet_builtin _ (by decide +kernel)) entry_typeCall (wpAny_check_type_call_sub hC (fault_type_call X hq))
end

section
variable {w : World} {A : Around} {E : Value → Shared → Prop} {R : Result → Shared → Prop} {s : Shared} {L : Addr} {m : Str → Option Value} {base : Heap} {news : List (Addr × Obj)} {gg : Obj → List (Addr × Obj)} {e t1 : Addr} {v : Value}
set_option maxRecDepth 100000

theorem refuse45 (self : Value) : refuseLoop self "__setattr__" [.ref 45, .ref 32, .type "Exception", .type "BaseException", .type "object"] = pure () := by
  rw [refuseLoop_ref, refuseLoop_ref]; kernel_rfl
end
noncomputable section
namespace K_set_told
def KP (w : World) (E : Value → Shared → Prop) (s : Shared) (L : Addr) (m : Str → Option Value) (base : Heap) (e t1 : Addr) (v : Value) (Q : Unit → Shared → Prop) : Prop := ∀ {A : Around} {news : List (Addr × Obj)} {gg : Obj → List (Addr × Obj)} (F : Fr base L s.heap m) (X₀ : (hd.heap_1 w.params).In base) (N : News base L s.heap news) (U : UpdF e (excO t1 none) news gg) (h : ∀ de tk h' tk', Fr base L h' m → News base L h' ((de, dictOf [⟨PyData.keyHash w.params (Str.ofString "told"), .str (Str.ofString "told") tk, v⟩] 1) :: gg (excO t1 (some de))) → (∀ p ∈ news, p.1 < de) → Q () { s with heap := h', toks := tk' }), wpAny (model PG w) A (setAttr (.ref e) (Str.ofString "told") v) Q E s
def KT (x : (World × (Value → Shared → Prop) × Shared × Addr × (Str → Option Value) × Heap) × (Addr × Addr × Value × (Unit → Shared → Prop))) : Prop := KP x.1.1 x.1.2.1 x.1.2.2.1 x.1.2.2.2.1 x.1.2.2.2.2.1 x.1.2.2.2.2.2 x.2.1 x.2.2.1 x.2.2.2.1 x.2.2.2.2
theorem Kex : ∃ x, KT x → ∀ y, KT y := drink ((anyW, (fun _ _ => True), {}, default, default, default), (default, default, default, (fun _ _ => True))) _
@[irreducible] def Kx0 := Classical.choose Kex
@[irreducible] def w := Kx0.1.1
@[irreducible] def E := Kx0.1.2.1
@[irreducible] def s := Kx0.1.2.2.1
@[irreducible] def L := Kx0.1.2.2.2.1
@[irreducible] def m := Kx0.1.2.2.2.2.1
@[irreducible] def base := Kx0.1.2.2.2.2.2
@[irreducible] def e := Kx0.2.1
@[irreducible] def t1 := Kx0.2.2.1
@[irreducible] def v := Kx0.2.2.2.1
@[irreducible] def Q := Kx0.2.2.2.2
set_option maxRecDepth 100000
set_option maxHeartbeats 4000000
theorem at0 : KP w E s L m base e t1 v Q := by
  intro A news gg F X₀ N U h
  have X := X₀.keeps F.keep
  obtain ⟨own, rest, rfl, hg, h1, h2⟩ := U.split
  have he : s.heap.get? e = some (excO t1 none) := (N (e, excO t1 none) (List.mem_append_right _ (.head _))).1
  have ty : Looks (model PG w) s.heap (typeOf (.ref e)) (.ref 45) := (Looks.ld he).andThen .now
  have hs := looks_findIn (M := model PG w) X (t := .ref 45) (name := "__setattr__") (r := some (.builtin "object.__setattr__")) (by k_is)
  have ha := looks_findIn (M := model PG w) X (t := .ref 45) (name := Str.ofString "told") (r := none) (by k_is)
  have SF := PySem.F.store_object
  have sub : Looks (model PG w) s.heap (isInstance (.ref e) (.type "object")) true := ty.andThen (looks_mroIn X (by k_is))
  refine wpAny_bind (wpAny_mkText (wpAny_bind (wpAny_bind (wpAny_bind (ty.at (hs.at (wpAny_holding ?_)))))))
  rw [SF.slot.bind]
  refine wpAny_bind (wpAny_pure (wpAny_bind (wpAny_call ?_)))
  refine codeAny_call_builtin SF.slot.plain SF.entry (@check_slot (model PG w) _ _ _ "object.__setattr__" "object" "__setattr__" (.ref e) [.str (Str.ofString "told") _, v] [] _ SF.kind SF.split sub (SF.args (.ref e) (.str _ _) v) ?_)
  show wpAny _ _ (Builtin.«object.__setattr__» ⟨[.ref e, .str (Str.ofString "told") s.toks, v], []⟩) _ _ _
  rw [osa_eq, refuse_eq]
  have hm : Looks (model PG w) s.heap (mroOf (.ref 45)) [.ref 45, .ref 32, .type "Exception", .type "BaseException", .type "object"] := (looks_clsIn X (cd := _) (by k_is)).andThen .now
  refine wpAny_bind (wpAny_bind (ty.at (wpAny_bind (hm.at ?_))))
  rw [refuse45]
  refine wpAny_pure (wpAny_bind (ty.at (wpAny_bind (ha.at (wpAny_bind (wpAny_pure ?_))))))
  show wpAny _ _ (PySem.Builtin.ObjectAttr.storeInOwnDict _ _ _ _ _ _) _ _ _
  unfold PySem.Builtin.ObjectAttr.storeInOwnDict
  refine wpAny_bind (wpAny_pure (wpAny_bind ?_))
  unfold PySem.Builtin.ObjectAttr.ownDictForStores instanceDict
  have hcls := looks_clsIn (M := model PG w) X (C := 45) (cd := _) (by k_is)
  refine wpAny_bind (wpAny_loadPart he (wpAny_bind (hcls.at (wpAny_bind (wpAny_alloc (wpAny_bind (wpAny_update (o := excO t1 none) (Heap.get?_push_of_some _ he) ?_)))))))
  have hlt : e < s.heap.objs.size := Heap.lt_size he
  have hne : s.heap.objs.size ≠ e := Nat.ne_of_gt hlt
  refine wpAny_pure (a := some s.heap.objs.size) ?_
  show wpAny _ _ (PySem.Builtin.ObjectAttr.storeInDict _ _ _ _) _ _ _
  unfold PySem.Builtin.ObjectAttr.storeInDict
  refine wpAny_bind (wpAny_pure (wpAny_bind ?_))
  unfold nsSet
  have hd0 : ((s.heap.push { cls := .type "dict", data := .dict #[] }).update e fun o => { cls := o.cls, dict := some s.heap.objs.size, data := o.data, slots := o.slots }).get? s.heap.objs.size = some { cls := .type "dict", data := .dict #[] } := by
    rw [Heap.get?_update_other _ _ (Ne.symm hne)]; exact Heap.get?_push_size _ rfl
  refine wpAny_bind (wpAny_bind (wpAny_askSetting (wpAny_pure (wpAny_bind (wpAny_mkText (wpAny_bind (wpAny_loadPart hd0 ?_)))))))
  have c0 : aRefKeyMayBeTheName (Str.ofString "told") #[] = false := rfl
  show wpAny _ _ (if aRefKeyMayBeTheName (Str.ofString "told") #[] = true then _ else _) _ _ _
  rw [if_neg (by rw [c0]; decide)]
  refine wpAny_updatePart hd0 ?_
  have hd1 := Heap.get?_update_self (Obj.putName (Str.ofString "told") (PyData.keyHash w.params (Str.ofString "told")) (.str (Str.ofString "told") (s.toks + 1)) v) hd0 rfl
  refine wpAny_bind (wpAny_lookBehind hd1 (pastItsLine_dict (by rw [sizeLine_eq]; simp)) ?_)
  refine wpAny_pure (wpAny_pure (wpAny_pure ?_))
  have he1 : ((s.heap.push { cls := .type "dict", data := .dict #[] }).update e fun o => { cls := o.cls, dict := some s.heap.objs.size, data := o.data, slots := o.slots }).get? e = some (excO t1 (some s.heap.objs.size)) := Heap.get?_update_self _ (Heap.get?_push_of_some _ he) rfl
  have hmem := N (e, excO t1 none) (List.mem_append_right _ (.head _))
  have hL := F.ns.lt
  have old : ∀ b o, b ≠ e → s.heap.get? b = some o → (((s.heap.push { cls := .type "dict", data := .dict #[] }).update e fun o => { cls := o.cls, dict := some s.heap.objs.size, data := o.data, slots := o.slots }).update s.heap.objs.size
      (Obj.putName (Str.ofString "told") (PyData.keyHash w.params (Str.ofString "told")) (.str (Str.ofString "told") (s.toks + 1)) v)).get? b = some o := fun b o n q => by
    rw [Heap.get?_update_other _ _ (Nat.ne_of_gt (Heap.lt_size q)), Heap.get?_update_other _ _ (Ne.symm n)]
    exact Heap.get?_push_of_some _ q
  obtain ⟨oL, es, ep, hLo, r⟩ := F.ns
  refine h s.heap.objs.size (s.toks + 1) _ _ ⟨⟨oL, es, ep, old _ _ (Ne.symm hmem.2.1) hLo, r⟩, fun b o q => old b o (fun z => by rw [z, hmem.2.2] at q; cases q) (F.keep b o q), F.above⟩ (fun (p : Addr × Obj) hp => ?_) (fun p hp => Heap.lt_size (N p hp).1)
  rcases List.mem_cons.mp hp with rfl | hp
  · exact ⟨hd1, Nat.ne_of_gt hL, Heap.get?_none_of_le (Nat.le_trans F.above (Nat.le_of_lt hL))⟩
  · rw [hg] at hp
    rcases List.mem_append.mp hp with hp | hp
    · have n := N p (List.mem_append_left _ hp)
      exact ⟨old _ _ (h1 p hp) n.1, n.2⟩
    · rcases List.mem_cons.mp hp with rfl | hp
      · exact ⟨(Heap.get?_update_other _ _ hne).trans he1, hmem.2⟩
      · have n := N p (List.mem_append_right _ (.tail _ hp))
        exact ⟨old _ _ (h2 p hp) n.1, n.2⟩
end K_set_told
end
theorem set_told {w : World} {E : Value → Shared → Prop} {s : Shared} {L : Addr} {m : Str → Option Value} {base : Heap} {e t1 : Addr} {v : Value} {Q : Unit → Shared → Prop} : K_set_told.KP w E s L m base e t1 v Q :=
  @Classical.choose_spec _ _ K_set_told.Kex (by with_unfolding_all exact @K_set_told.at0) ((w, E, s, L, m, base), (e, t1, v, Q))
section
end

def FAt (B : Heap) (e de : Addr) (fl : Value) (h : Heap) : Prop :=
  ∃ vs T oT ts, h.get? e = some ⟨.ref 45, some de, .fields vs, #[]⟩ ∧ vs[1]? = some (.ref T) ∧ B.get? T = none ∧ T ≠ e ∧ h.get? T = some oT ∧ oT.data = .fields ts ∧ ts[3]? = some fl

structure Fly (w : World) (B : Heap) (l : List Env) (e de : Addr) (v fl : Value) (h : Heap) : Prop where
  stays : B.StaysIn h
  fresh : B.get? e = none
  told : ∃ tk n, B.get? de = some (dictOf [⟨PyData.keyHash w.params (Str.ofString "told"), .str (Str.ofString "told") tk, v⟩] n)
  frames : h.FunFrames B l
  there : FAt B e de fl h

section
variable {w : World} {M : Model} {A : Around} {E : Value → Shared → Prop} {s : Shared} {B : Heap} {env : Env} {outer l : List Env} {L e de : Addr} {v fl : Value} {Q : Unit → Shared → Prop}

theorem fly_entry {vs : Array Value} {head : Value} {hadNext : Bool} (hfr : A.frames = some (env :: outer)) (hl : s.heap.FunFrames B (env :: outer)) (hf : env.frame = some L)
    (he : s.heap.get? e = some ⟨.ref 45, some de, .fields vs, #[]⟩) (hkb : B.StaysIn s.heap) (hen : B.get? e = none) (hsz : 1 < vs.size)
    (h : ∀ h', B.StaysIn h' → h'.FunFrames B (env :: outer) → FAt B e de (rawInt L) h' → s.heap.UpToSlots h' → Q () { s with heap := h' }) :
    wpAny M A (do let a ← frameOf env; let pl ← entryPlaceOf L hadNext; let b ← EntryCells.newEntry head a .none (rawInt L) .none pl; setField (.ref e) 1 b) Q E s := by
  have off : e ∉ (env :: outer).filterMap (·.frame) := fun hm => by
    obtain ⟨_, o, ho, hnf⟩ := hl.mem hm
    rw [he] at ho; cases ho
    exact hnf vs rfl
  refine wpAny_bind (wpAny_frameOf_fun hfr hl hf fun h₁ x => ?_)
  refine wpAny_bind (wpAny_entryPlaceOf fun pl hpl => ?_)
  unfold EntryCells.newEntry newFields
  refine wpAny_bind (wpAny_newObj_type ?_ (hpl.sizeOk5 _ _ _ _ _))
  generalize hfs : ([head, Value.ref L, Value.none, rawInt L, Value.none] ++ (if pl.isEmpty then List.replicate 6 Value.none else pl)).toArray = fs
  have h3 : fs[3]? = some (rawInt L) := by subst hfs; simp
  have he₁ : h₁.get? e = some ⟨.ref 45, some de, .fields vs, #[]⟩ := (x.2.1 e off).trans he
  have kb₁ : B.StaysIn h₁ := fun a o q => (x.2.1 a fun hm => by rw [(hl.mem hm).1] at q; cases q).trans (hkb a o q)
  have he₂ := Heap.get?_push_of_some (h := h₁) { cls := .type "traceback", dict := none, data := .fields fs } he₁
  refine wpAny_setField he₂ rfl hsz ?_
  have ne : h₁.objs.size ≠ e := Nat.ne_of_gt (Heap.lt_size he₁)
  have he₃ := Heap.get?_update_self (Obj.mapFields (·.setIfInBounds 1 (Value.ref h₁.objs.size))) he₂ rfl
  have hT := (Heap.get?_update_other (h₁.push { cls := .type "traceback", dict := none, data := .fields fs }) (Obj.mapFields (·.setIfInBounds 1 (Value.ref h₁.objs.size))) (Ne.symm ne)).trans (Heap.get?_push_size h₁ rfl)
  have kp : ∀ a o, a ≠ e → h₁.get? a = some o → ((h₁.push { cls := .type "traceback", dict := none, data := .fields fs }).update e (Obj.mapFields (·.setIfInBounds 1 (Value.ref h₁.objs.size)))).get? a = some o := fun a o n q => by
    rw [Heap.get?_update_other _ _ (Ne.symm n)]
    exact Heap.get?_push_of_some _ q
  have nr : ∀ a o, s.heap.get? a = some o → (∀ vs, o.data ≠ .fields vs) → a ≠ e := fun a o q hn z => by
    rw [z, he] at q; cases q
    exact hn vs rfl
  refine h _ (fun a o q => kp a o (fun z => by rw [z, hen] at q; cases q) (kb₁ a o q)) (hl.of_keeps fun a o q hn => ?_)
    ⟨_, h₁.objs.size, _, _, he₃, by simp [hsz], kb₁.fresh, ne, hT, rfl, h3⟩ fun a o q hn => ?_
  · obtain ⟨sl, hs⟩ := x.2.2 a o q
    exact ⟨_, kp a _ (nr a o q hn) hs, rfl⟩
  · obtain ⟨sl, hs⟩ := x.2.2 a o q
    exact ⟨sl, kp a _ (nr a o q hn) hs⟩

theorem fly_set {u : Value} (hh : Fly w B l e de v u s.heap) (hQ : ∀ h', Fly w B l e de v .none h' → s.heap.UpToSlots h' → Q () { s with heap := h' }) : wpAny M A (setFlight (.ref e) none) Q E s := by
  obtain ⟨k1, k2, k3, k4, vs, T, oT, ts, he, h1, hn, hne, hT, hd, h3⟩ := hh
  have other : ∀ a, a ≠ T → (s.heap.update T (Obj.mapFields (·.setIfInBounds 3 Value.none))).get? a = s.heap.get? a := fun a n => Heap.get?_update_other _ _ (Ne.symm n)
  have nr : ∀ a o, s.heap.get? a = some o → (∀ vs, o.data ≠ .fields vs) → a ≠ T := fun a o q hq z => by
    rw [z, hT] at q; cases q
    exact hq ts hd
  have up : s.heap.UpToSlots (s.heap.update T (Obj.mapFields (·.setIfInBounds 3 Value.none))) := fun a o q hq => ⟨o.slots, (other a (nr a o q hq)).trans q⟩
  unfold setFlight
  refine wpAny_bind (wpAny_field he rfl h1 ?_)
  rw [if_pos (show (Value.ref T != Value.none) = true from by simp)]
  refine wpAny_setField hT hd (Array.getElem?_eq_some_iff.mp h3).1 (hQ _ ⟨fun a o q => (other a fun z => by rw [z, hn] at q; cases q).trans (k1 a o q), k2, k3, k4.of_keeps fun a o q hq => ⟨o, (other a (nr a o q hq)).trans q, rfl⟩,
    vs, T, _, _, (other e (Ne.symm hne)).trans he, h1, hn, hne, Heap.get?_update_self _ hT (Obj.isFreed_of_fields (Obj.data_mapFields hd _)), Obj.data_mapFields hd _, ?_⟩ up)
  simp [(Array.getElem?_eq_some_iff.mp h3).1]

theorem fly_note (hfr : A.frames = some (env :: outer)) (hf : env.frame = some L) (hh : Fly w B (env :: outer) e de v .none s.heap)
    (hQ : ∀ h', Fly w B (env :: outer) e de v (rawInt L) h' → s.heap.UpToSlots h' → Q () { s with heap := h' }) : wpAny M A (noteFrame (.ref e) env) Q E s := by
  obtain ⟨k1, k2, k3, k4, vs, T, oT, ts, he, h1, hn, hne, hT, hd, h3⟩ := hh
  unfold noteFrame
  simp only [hf]
  refine wpAny_bind (wpAny_field he rfl h1 ?_)
  rw [if_pos (show (Value.ref T != Value.none) = true from by simp)]
  refine wpAny_bind (wpAny_field hT hd h3 ?_)
  rw [if_neg (show ¬ ((Value.none == rawInt L) = true) from by simp [rawInt])]
  refine wpAny_bind (wpAny_setField hT hd (Array.getElem?_eq_some_iff.mp h3).1 ?_)
  have other : ∀ a, a ≠ T → (s.heap.update T (Obj.mapFields (·.setIfInBounds 3 Value.none))).get? a = s.heap.get? a := fun a n => Heap.get?_update_other _ _ (Ne.symm n)
  have nr : ∀ a o, s.heap.get? a = some o → (∀ vs, o.data ≠ .fields vs) → a ≠ T := fun a o q hq z => by
    rw [z, hT] at q; cases q
    exact hq ts hd
  refine fly_entry hfr (k4.of_keeps fun a o q hq => ⟨o, (other a (nr a o q hq)).trans q, rfl⟩) hf ((other e (Ne.symm hne)).trans he) (fun a o q => (other a fun z => by rw [z, hn] at q; cases q).trans (k1 a o q)) k2
    (Array.getElem?_eq_some_iff.mp h1).1 fun h' x1 x2 x3 x4 => hQ h' ⟨x1, k2, k3, x2, x3⟩ fun a o q hq => x4 a o ((other a (nr a o q hq)).trans q) hq

theorem fly_on (hfr : A.frames = some (env :: outer)) (hf : env.frame = some L) (hh : Fly w B (env :: outer) e de v .none s.heap)
    (hQ : ∀ h', Fly w B outer e de v .none h' → s.heap.UpToSlots h' → Q () { s with heap := h' }) : wpAny M A (leaving env (.ref e)) Q E s := by
  unfold leaving
  refine wpAny_bind (fly_note hfr hf hh fun h' x y => fly_set (s := { s with heap := h' }) x fun h'' x' y' => hQ h'' ⟨x'.stays, x'.fresh, x'.told, x'.frames.2.2, x'.there⟩ (y.trans y'))

theorem fly_first {t1 : Addr} (hfr : A.frames = some (env :: outer)) (hf : env.frame = some L) (hl : s.heap.FunFrames B (env :: outer)) (hB : B.StaysIn s.heap) (hen : B.get? e = none)
    (htold : ∃ tk n, B.get? de = some (dictOf [⟨PyData.keyHash w.params (Str.ofString "told"), .str (Str.ofString "told") tk, v⟩] n)) (he : s.heap.get? e = some (excO t1 (some de)))
    (hQ : ∀ h', Fly w B outer e de v .none h' → s.heap.UpToSlots h' → Q () { s with heap := h' }) : wpAny M A (leaving env (.ref e)) Q E s := by
  unfold leaving noteFrame
  simp only [hf]
  refine wpAny_bind (wpAny_bind (wpAny_field he rfl (i := 1) (x := .none) rfl ?_))
  rw [if_neg (show ¬ ((Value.none != Value.none) = true) from by simp)]
  exact fly_entry hfr hl hf he hB hen (by simp) fun h' x1 x2 x3 x4 => fly_set (l := env :: outer) (s := { s with heap := h' }) ⟨x1, hen, htold, x2, x3⟩ fun h'' x' y' => hQ h'' ⟨x'.stays, x'.fresh, x'.told, x'.frames.2.2, x'.there⟩ (x4.trans y')
end
section
variable {w : World} {A : Around} {E : Value → Shared → Prop} {R : Result → Shared → Prop} {s : Shared} {b : Heap} {loose : List Str} {mean : ExcName → Option Value} {mg mb : Str → Option Value} {v : Value}
set_option maxRecDepth 100000

theorem kwA6a61 : True := by
  k_with "setAttr ref" => (k_here; (with_reducible show wpAny _ _ (setAttr (Value.ref _) (Str.ofString "told") _) _ _ _); k_dflt (refine' set_told ?Fxd0a ?Xxd0a ?Nxd0a ?Uxd0a ?_; (case Fxd0a => k_asm); (case Xxd0a => k_asm); (case Nxd0a => k_asm); (case Uxd0a => k_updF); k_whole); intro de' tkd' h' tk' F' N' l1; (try dsimp only at N'); (try k_lt l1); (try k_sweep))
  exact trivial

theorem init_told {e t1 : Addr} (st : b.StaysIn s.heap) (G : Gd w loose mean mg mb b) (D : Led b s.heap [(e, excO t1 none)]) (hroom : A.depth < recursionLimit)
    (hR : ∀ h' de tk n tks, (∀ a o, s.heap.get? a = some o → a ≠ e → h'.get? a = some o) → s.heap.get? de = none → h'.get? e = some (excO t1 (some de)) →
      h'.get? de = some (dictOf [⟨PyData.keyHash w.params (Str.ofString "told"), .str (Str.ofString "told") tk, v⟩] n) → R (.ok (.ret .none)) { s with heap := h', toks := tks }) :
    codeAny (model PG w) A (.call (.ref 29) ⟨[.ref e, v], []⟩) R s := by
  have Xs := G.X.keeps st
  refine' enterE (binds := [(Str.ofString "self", .ref e), (Str.ofString "told", v)]) st G D ?k6 ?k7 ?k8 ?k9 ?kB ?_ ?c2 ?c3 ?c4 ?c5
  walk_at "my enter"
  intro g L' h' Z F' N'
  have fr : ∀ a, e < a → g.get? a = none → s.heap.get? a = none := fun a n q => by
    cases z : s.heap.get? a with
    | none => rfl
    | some o => rw [Z.kp a o z (by simp; exact Nat.ne_of_gt n)] at q; cases q
  obtain ⟨X', T', _, _, _, _, _⟩ := G.keeps Z.st
  walk_at "my go"
  (rename News g L' _ _ => N9); (rename Fr g L' _ _ => F9); (rename _ < _ => l9)
  exact hR _ _ _ _ _ (fun a o q n => F9.keep _ _ (Z.kp a o q (by simpa using n))) (fr _ l9 (N9 _ (.head _)).2.2) (N9 (e, _) (by k_mem)).1 (N9 _ (.head _)).1
end
section
variable {w : World} {A : Around} {E : Value → Shared → Prop} {R : Result → Shared → Prop} {s : Shared} {b : Heap} {loose : List Str} {mean : ExcName → Option Value} {mg mb : Str → Option Value} {v : Value}
set_option maxRecDepth 100000

noncomputable abbrev toldO (w : World) (v : Value) (tk : Tok) (n : Nat) : Obj := dictOf [⟨PyData.keyHash w.params (Str.ofString "told"), .str (Str.ofString "told") tk, v⟩] n

structure Made (w : World) (h : Heap) (v : Value) (e : Addr) (h' : Heap) : Prop where
  keep : ∀ a o, h.get? a = some o → h'.get? a = some o
  fresh : h.get? e = none
  there : ∃ t1 de tk n, h'.get? e = some (excO t1 (some de)) ∧ h.get? de = none ∧ h'.get? de = some (toldO w v tk n) ∧ de ≠ e

theorem fault_make {Q : Value → Shared → Prop} (st : b.StaysIn s.heap) (G : Gd w loose mean mg mb b) (hroom : (A.under (.builtin "type.__call__" ⟨[.ref 45, v], []⟩)).depth < recursionLimit)
    (h : ∀ e h' tks, Made w s.heap v e h' → Q (.ref e) { s with heap := h', toks := tks }) : wpAny (model PG w) A (call (.ref 45) [v]) Q E s := by
  obtain ⟨hh, g, d, t, os⟩ := s
  refine fault_call (G.X.keeps st) (wpAny_call ?_)
  have k : ∀ a o, hh.get? a = some o → ((hh.push { cls := .type "tuple", data := .seq #[v] }).push (excO hh.objs.size none)).get? a = some o := fun a o e => Heap.get?_push_of_some _ (Heap.get?_push_of_some _ e)
  have hget : ((hh.push { cls := .type "tuple", data := .seq #[v] }).push (excO hh.objs.size none)).get? (hh.objs.size + 1) = some (excO hh.objs.size none) := by heap_get
  have fr : hh.get? (hh.objs.size + 1) = none := Heap.get?_none_of_le (Nat.le_succ _)
  refine init_told (b := b) (t1 := hh.objs.size) (fun a o e => k a o (st a o e)) G (fun p hp => ?_) hroom fun h' de tk n tks hk hf h1 h2 => ⟨rfl, h _ _ tks ⟨fun a o e => hk a o (k a o e) (fun z => by rw [z, fr] at e; cases e), fr, hh.objs.size, de, tk, n, h1, ?_, h2, ?_⟩⟩
  · obtain rfl := List.mem_singleton.mp hp
    refine ⟨hget, ?_⟩
    cases q : b.get? (hh.objs.size + 1) with
    | none => rfl
    | some o => have := st _ _ q; rw [fr] at this; cases this
  · cases q : hh.get? de with
    | none => rfl
    | some o => have := k _ _ q; rw [hf] at this; cases this
  · rintro rfl
    rw [hget] at hf; cases hf

theorem raise_told {env : Env} {x : Expr} {pos : Pos} {Q : Flow → Shared → Prop} (hh : A.handled = none)
    (h : wpAny (model PG w) A (eval x env) (fun v s₁ => ∃ e t1 de, v = .ref e ∧ (hd.heap_1 w.params).In s₁.heap ∧ s₁.heap.get? e = some (excO t1 (some de)) ∧ E (.ref e) s₁) E s) :
    wpAny (model PG w) A (exec (.Raise (some x) none pos) env) Q E s := by
  rw [arm_exec_Raise]
  refine wpAny_bind (wpAny_standAt ?_)
  show wpAny _ _ (raiseStmt env (some (eval x env >>= fun v => standAt pos >>= fun _ => pure v)) none) _ _ _
  unfold raiseStmt
  refine wpAny_bind (wpAny_bind (wpAny_mono h (fun v s₁ h₁ => wpAny_bind (wpAny_standAt (wpAny_pure ?_))) fun _ _ x => x))
  obtain ⟨e, t1, de, rfl, X, he, hE⟩ := h₁
  obtain ⟨hp, g, d, tk, os⟩ := s₁
  obtain ⟨nm, q, N, bs, hdct, sn, sub, ab, col, dd, k0, k1, k2, k3, k5, hC⟩ := cls45 X
  have hcB : (Value.ref 45 :: over45).contains (.type "BaseException") = true := (cont45 _).trans PySem.F.excBase_Exception.hasBase
  repeat (first | with_reducible refine wpAny_loadPart_at he ?_ | with_reducible refine wpAny_loadPart_at hC ?_ | (with_reducible refine wpAny_isSubtype_exc hC ?_; rw [hcB]) | wp_step)
  exact wpAny_raiseNew_none hh hE
end
def ErrEnd (w : World) (fl : List Env) (h : Heap) (v : Value) (e : Addr) (h' : Heap) : Prop :=
  ∃ B de, (∀ a o, h.get? a = some o → a ∉ fl.filterMap (·.frame) → B.get? a = some o) ∧ Fly w B fl e de v .none h' ∧ h.UpToSlots h'

section
variable {w : World} {M : Model} {A : Around} {E : Value → Shared → Prop} {R : Result → Shared → Prop} {s : Shared} {b : Heap} {v : Value} {fl : List Env} {env : Env} {g h0 h1 : Heap} {L e : Addr} {m : Str → Option Value} {Q : Unit → Shared → Prop}

theorem mem_frames {a : Addr} (hf : env.frame = some L) : a ∈ (env :: fl).filterMap (·.frame) ↔ a = L ∨ a ∈ fl.filterMap (·.frame) := by
  rw [List.filterMap_cons, hf]; exact List.mem_cons

theorem err_on (hk : ∀ a o, h0.get? a = some o → h1.get? a = some o) (hL : h0.get? L = none) (X : ErrEnd w (env :: fl) h1 v e s.heap) (hfr : A.frames = some (env :: fl)) (hf : env.frame = some L)
    (hQ : ∀ h', ErrEnd w fl h0 v e h' → Q () { s with heap := h' }) : wpAny M A (leaving env (.ref e)) Q E s := by
  obtain ⟨B, de, k, f, u⟩ := X
  refine fly_on hfr hf f fun h' f' u' => hQ h' ⟨B, de, fun a o q n => k a o (hk a o q) fun z => ?_, f', ((Heap.UpToSlots.of_keeps hk).trans u).trans u'⟩
  rcases (mem_frames hf).mp z with rfl | z
  · rw [hL] at q; cases q
  · exact n z

theorem err_first (hk : ∀ a o, h0.get? a = some o → h1.get? a = some o) (hL : h0.get? L = none) (Bl : Below A b fl h0) (st : b.StaysIn h1) (hLo : ∃ o, h1.get? L = some o ∧ ∀ vs, o.data ≠ .fields vs) (hsc : env.scope.kind ≠ .module)
    (X : Made w h1 v e s.heap) (hf : env.frame = some L) (hfr : (A.deeper env).frames = some (env :: fl))
    (hQ : ∀ h', ErrEnd w fl h0 v e h' → Q () { s with heap := h' }) : wpAny M (A.deeper env) (leaving env (.ref e)) Q E s := by
  obtain ⟨kp, fr, t1, de, tk, n, he, hfd, hde, hne⟩ := X
  have nfr : ∀ a, a ∈ (env :: fl).filterMap (·.frame) → ∃ o, h1.get? a = some o := fun a hm => by
    rcases (mem_frames hf).mp hm with rfl | z
    · exact ⟨_, hLo.choose_spec.1⟩
    · obtain ⟨_, o, ho, _⟩ := Bl.frames.mem z
      exact ⟨o, hk _ _ ho⟩
  have e0 : h1.get? e = none := fr
  have ff : ∀ (l : List Env), h0.FunFrames b l → (∀ a, a ∈ l.filterMap (·.frame) → a ∈ (env :: fl).filterMap (·.frame)) → s.heap.FunFrames (hideAll s.heap (e :: (env :: fl).filterMap (·.frame))) l := by
    intro l
    induction l with
    | nil => exact fun _ _ => trivial
    | cons x r ih =>
      intro ⟨q1, ⟨L', o, q2, q3, q4, q5⟩, q6⟩ hin
      exact ⟨q1, ⟨L', o, q2, hideAll_none _ (.tail _ (hin L' (by rw [List.filterMap_cons, q2]; exact .head _))), kp _ _ (hk _ _ q4), q5⟩, ih q6 fun a ha => hin a (by rw [List.filterMap_cons, q2]; exact .tail _ ha)⟩
  refine fly_first (B := hideAll s.heap (e :: (env :: fl).filterMap (·.frame))) hfr hf ⟨hsc, ⟨L, _, hf, hideAll_none _ (.tail _ ((mem_frames hf).mpr (.inl rfl))), kp _ _ hLo.choose_spec.1, hLo.choose_spec.2⟩, ff fl Bl.frames fun a ha => (mem_frames hf).mpr (.inr ha)⟩
    (fun a o q => of_hideAll _ q) (hideAll_none _ (.head _)) ⟨tk, n, hideAll_get _ hde fun z => ?_⟩ he fun h' f u => hQ h' ⟨_, de, fun a o q n => hideAll_get _ (kp _ _ (hk _ _ q)) fun z => ?_, f, ((Heap.UpToSlots.of_keeps hk).trans (Heap.UpToSlots.of_keeps kp)).trans u⟩
  · rcases List.mem_cons.mp z with z | z
    · exact hne z
    · obtain ⟨o, ho⟩ := nfr _ z
      rw [hfd] at ho; cases ho
  · rcases List.mem_cons.mp z with rfl | z
    · rw [hk _ _ q] at e0; cases e0
    · rcases (mem_frames hf).mp z with rfl | z
      · rw [hL] at q; cases q
      · exact n z
end

section
variable {g h h0 b : Heap} {L : Addr} {m : Str → Option Value} {news led : List (Addr × Obj)}
theorem keep_all (F : Fr g L h m) (N : News g L h news) (Z : Got b h0 g led L) (hm : ∀ p ∈ led, p ∈ news) : ∀ a o, h0.get? a = some o → h.get? a = some o := fun a o q => by
  by_cases z : a ∈ led.map (·.1)
  · obtain ⟨p, hp, rfl⟩ := List.mem_map.mp z
    have := (Z.D p hp).1
    rw [q] at this; cases this
    exact (N _ (hm p hp)).1
  · exact F.keep a o (Z.kp a o q z)
theorem after_part {h' : Heap} {chg : List (Addr × Obj)} (F : Fr g L h' m) (N : News g L h' news) (Z : Got b h0 g led L) (hc : ∀ p ∈ chg, p ∈ news) (hl : ∀ p ∈ led, p ∈ news ∨ ∃ o, (p.1, o) ∈ chg) : After h0 h' chg :=
  ⟨fun p hp => (N p (hc p hp)).1, fun a o q n => by
    by_cases z : a ∈ led.map (·.1)
    · obtain ⟨p, hp, rfl⟩ := List.mem_map.mp z
      have := (Z.D p hp).1
      rw [q] at this; cases this
      rcases hl p hp with x | ⟨o, x⟩
      · exact (N _ x).1
      · exact absurd rfl (n (p.1, o) x)
    · exact F.keep a o (Z.kp a o q z)⟩
theorem upd_go {P : Prop} {h' : Heap} {chg news' : List (Addr × Obj)} (F : Fr g L h m) (N : News g L h news) (Af : After h h' chg) (U : UpdM chg news news') (hc : ∀ p ∈ chg, ∃ o, (p.1, o) ∈ news) (k : Fr g L h' m → News g L h' news' → P) : P :=
  k (after_fr F Af (chg_of N hc)) (updM_news N Af U)
theorem fr_obj (F : Fr g L h m) : ∃ o, h.get? L = some o ∧ ∀ vs, o.data ≠ .fields vs := by
  obtain ⟨o, es, ep, ho, hd, _⟩ := F.ns
  exact ⟨o, ho, fun vs q => by rw [hd] at q; cases q⟩
end
theorem kwA9lines91 : True := by
  k_with "exec Raise some none" => (k_here; k_dflt (refine' raise_told ?hhx990 ?_; (case hhx990 => exact rfl); k_whole))
  k_with "my sub" => first | exact List.forall_mem_nil _ | ((first | (k_dflt (refine' sub_cons 0 rfl ?_)) | (k_dflt (refine' sub_cons 1 rfl ?_)) | (k_dflt (refine' sub_cons 2 rfl ?_)) | (k_dflt (refine' sub_cons 3 rfl ?_)) | (k_dflt (refine' sub_cons 4 rfl ?_)) | (k_dflt (refine' sub_cons 5 rfl ?_)) | (k_dflt (refine' sub_cons 6 rfl ?_)) | (k_dflt (refine' sub_cons 7 rfl ?_)) | (k_dflt (refine' sub_cons 8 rfl ?_)) | (k_dflt (refine' sub_cons 9 rfl ?_)) | (k_dflt (refine' sub_cons 10 rfl ?_)) | (k_dflt (refine' sub_cons 11 rfl ?_)) | (k_dflt (refine' sub_cons 12 rfl ?_)) | (k_dflt (refine' sub_cons 13 rfl ?_)) | (k_dflt (refine' sub_cons 14 rfl ?_)) | (k_dflt (refine' sub_cons 15 rfl ?_)) | (k_dflt (refine' sub_cons 16 rfl ?_)) | (k_dflt (refine' sub_cons 17 rfl ?_)) | (k_dflt (refine' sub_cons 18 rfl ?_)) | (k_dflt (refine' sub_cons 19 rfl ?_)) | (k_dflt (refine' sub_cons 20 rfl ?_)) | (k_dflt (refine' sub_cons 21 rfl ?_)) | (k_dflt (refine' sub_cons 22 rfl ?_)) | (k_dflt (refine' sub_cons 23 rfl ?_)) | (k_dflt (refine' sub_cons 24 rfl ?_)) | (k_dflt (refine' sub_cons 25 rfl ?_)) | (k_dflt (refine' sub_cons 26 rfl ?_)) | (k_dflt (refine' sub_cons 27 rfl ?_))); walk_at "my sub")
  k_with "my raise" => ( (with_reducible show wpAny _ _ (call (Value.ref 45) _) _ _ _); (rename Gd _ _ _ _ _ _ => myG); (rename Fr _ _ _ _ => myF); (rename News _ _ _ _ => myN); (rename Below _ _ _ _ => myB); (rename Got _ _ _ _ _ => myZ); refine' fault_make myF.keep myG ?roomxc74 ?_; (case roomxc74 => k_room); intro e' h' tks' mk'; obtain ⟨t1', de', tk1', n', he', hx'⟩ := mk'.there; refine' ⟨e', t1', de', rfl, myG.X.keeps (fun a o q => mk'.keep _ _ (myF.keep a o q)), he', ?_⟩; (try k_unfold); (try dsimp only); refine' err_first (keep_all myF myN myZ ?hmxc74) myZ.new myB (fun a o q => myF.keep _ _ (myZ.st a o q)) (fr_obj myF) ?hscxc74 mk' rfl ?hfrxc74 ?_; (case hmxc74 => walk_at "my sub"); (case hscxc74 => intro q; cases q); (case hfrxc74 => exact rfl); intro h'' hE')
  exact trivial
noncomputable def asBytes (x : String) : Array UInt8 := ⟨x.toList.map fun c => UInt8.ofNat c.toNat⟩
noncomputable section
namespace K_check_c
def KP (w : World) (R : Result → Shared → Prop) (s : Shared) (b : Heap) (loose : List Str) (mean : ExcName → Option Value) (mg mb : Str → Option Value) (fl : List Env) (many most : Int) (t1 t2 : Tok) : Prop := ∀ {A : Around} (st : b.StaysIn s.heap) (G : Gd w loose mean mg mb b) (Bl : Below A b fl s.heap) (hA : A = { depth := 900, units := 5000, frames := some fl, handled := none, guards := none }) (ok : 0 ≤ many → many ≤ most → ∀ h' tks, After s.heap h' [] → R (.ok (.ret .none)) ⟨h', s.gens, s.drawn, tks, s.os⟩) (bad1 : many < 0 → ∀ e h' tks tk, ErrEnd w fl s.heap (.bytes (asBytes "rangecheck") tk) e h' → R (.error (.ref e)) ⟨h', s.gens, s.drawn, tks, s.os⟩) (bad2 : 0 ≤ many → most < many → ∀ e h' tks tk, ErrEnd w fl s.heap (.bytes (asBytes "limitcheck") tk) e h' → R (.error (.ref e)) ⟨h', s.gens, s.drawn, tks, s.os⟩), codeAny (model PG w) A (.call (.ref 359) ⟨[.int many t1, .int most t2], []⟩) R s
def KT (x : (World × (Result → Shared → Prop) × Shared × Heap × List Str × (ExcName → Option Value)) × ((Str → Option Value) × (Str → Option Value) × List Env × Int × Int × Tok) × Tok) : Prop := KP x.1.1 x.1.2.1 x.1.2.2.1 x.1.2.2.2.1 x.1.2.2.2.2.1 x.1.2.2.2.2.2 x.2.1.1 x.2.1.2.1 x.2.1.2.2.1 x.2.1.2.2.2.1 x.2.1.2.2.2.2.1 x.2.1.2.2.2.2.2 x.2.2
theorem Kex : ∃ x, KT x → ∀ y, KT y := drink ((anyW, (fun _ _ => True), {}, default, default, default), (default, default, default, default, default, default), default) _
@[irreducible] def Kx0 := Classical.choose Kex
@[irreducible] def w := Kx0.1.1
@[irreducible] def R := Kx0.1.2.1
@[irreducible] def s := Kx0.1.2.2.1
@[irreducible] def b := Kx0.1.2.2.2.1
@[irreducible] def loose := Kx0.1.2.2.2.2.1
@[irreducible] def mean := Kx0.1.2.2.2.2.2
@[irreducible] def mg := Kx0.2.1.1
@[irreducible] def mb := Kx0.2.1.2.1
@[irreducible] def fl := Kx0.2.1.2.2.1
@[irreducible] def many := Kx0.2.1.2.2.2.1
@[irreducible] def most := Kx0.2.1.2.2.2.2.1
@[irreducible] def t1 := Kx0.2.1.2.2.2.2.2
@[irreducible] def t2 := Kx0.2.2
set_option maxRecDepth 100000
set_option maxHeartbeats 4000000
theorem at0 : KP w R s b loose mean mg mb fl many most t1 t2 := by
  intro A st G Bl hA ok bad1 bad2
  subst hA
  have D : Led b s.heap [] := fun _ hp => nomatch hp
  refine' enterE (binds := [(Str.ofString "many", .int many t1), (Str.ofString "most", .int most t2)]) st G D ?k6 ?k7 ?k8 ?k9 ?kB ?_ ?c2 ?c3 ?c4 ?c5
  walk_at "my enter"
  intro g L' h' Z F' N'
  have G' := G.keeps Z.st
  have ⟨X', T', _, _, _, _, _⟩ := G'
  walk_at "my go"
  · walk_at "my raise"
    refine bad1 ?_ _ _ _ _ (by assumption); omega
  · walk_at "my raise"
    refine bad2 ?_ ?_ _ _ _ _ (by assumption) <;> omega
  · exact ok (by omega) (by omega) _ _ (after_end (by assumption) (by assumption) Z.kp (fun _ hp => nomatch hp) rfl)
end K_check_c
end
theorem check_c {w : World} {R : Result → Shared → Prop} {s : Shared} {b : Heap} {loose : List Str} {mean : ExcName → Option Value} {mg mb : Str → Option Value} {fl : List Env} {many most : Int} {t1 t2 : Tok} : K_check_c.KP w R s b loose mean mg mb fl many most t1 t2 :=
  @Classical.choose_spec _ _ K_check_c.Kex (by with_unfolding_all exact @K_check_c.at0) ((w, R, s, b, loose, mean), (mg, mb, fl, many, most, t1), t2)
section
end
theorem kwB1linesb1 : True := by
  k_with "my lim" => (k_here; k_dflt (refine' get_own ?k1xeaf ?k2xeaf ?k3xeaf ?k4xeaf ?k5xeaf ?k6xeaf ?k7xeaf ?k8xeaf ?k9xeaf ?_; (case k1xeaf => k_asm); (case k2xeaf => k_asm); (case k3xeaf => k_inst); (case k4xeaf => k_is); (case k5xeaf => k_is); (case k6xeaf => k_is); (case k7xeaf => k_is); (case k8xeaf => assumption); (case k9xeaf => k_handed); k_whole))
  k_with "getAttr ref" => (k_here; (first | (with_reducible show wpAny _ _ (getAttr (Value.ref _) (Str.ofString "vm") _) _ _ _) | (with_reducible show wpAny _ _ (getAttr (Value.ref _) (Str.ofString "text") _) _ _ _) | (with_reducible show wpAny _ _ (getAttr (Value.ref _) (Str.ofString "row") _) _ _ _) | (with_reducible show wpAny _ _ (getAttr (Value.ref _) (Str.ofString "entries") _) _ _ _)); walk_at "my lim")
  exact trivial
noncomputable abbrev ent (w : World) (x : String) (t : Tok) (v : Value) : DictEntry := ⟨PyData.keyHash w.params (Str.ofString x), .str (Str.ofString x) t, v⟩
noncomputable abbrev makerO (w : World) (lm sv jr mm fr : Addr) (gl : Bool) (u0 u1 lb ls : Int) (a0 a1 a2 a3 t0 t1 t2 t3 t4 t5 t6 t7 t8 t9 : Tok) (n : Nat) : Obj :=
  dictOf [ent w "limits" t0 (.ref lm), ent w "is_global" t1 (.bool gl), ent w "saves" t2 (.ref sv), ent w "journal" t3 (.ref jr), ent w "made" t4 (.ref mm),
    ent w "freed" t5 (.ref fr), ent w "used" t6 (.int u0 a0), ent w "used_global" t7 (.int u1 a1), ent w "last_body" t8 (.int lb a2), ent w "last_save" t9 (.int ls a3)] n
noncomputable section
namespace K_room_c
def KP (w : World) (R : Result → Shared → Prop) (s : Shared) (b : Heap) (loose : List Str) (mean : ExcName → Option Value) (mg mb : Str → Option Value) (fl : List Env) (cost : Int) (tc : Tok) (mk mx lx lm sv jr mm fr : Addr) (gl : Bool) (u0 u1 lb ls : Int) (a0 a1 a2 a3 t0 t1 t2 t3 t4 t5 t6 t7 t8 t9 : Tok) (mn : Nat) (lim : List DictEntry) (ln : Nat) (vm : Int) (tv : Tok) : Prop := ∀ {A : Around} (st : b.StaysIn s.heap) (G : Gd w loose mean mg mb b) (Bl : Below A b fl s.heap) (hA : A = { depth := 900, units := 5000, frames := some fl, handled := none, guards := none }) (D : Led b s.heap [(mk, instObj 348 mx), (mx, makerO w lm sv jr mm fr gl u0 u1 lb ls a0 a1 a2 a3 t0 t1 t2 t3 t4 t5 t6 t7 t8 t9 mn), (lm, instObj 270 lx), (lx, dictOf lim ln)]) (hv : getL (Str.ofString "vm") lim = some (some (.int vm tv))) (nf : ∀ env ∈ fl, ∀ p ∈ [(mk, instObj 348 mx), (mx, makerO w lm sv jr mm fr gl u0 u1 lb ls a0 a1 a2 a3 t0 t1 t2 t3 t4 t5 t6 t7 t8 t9 mn), (lm, instObj 270 lx), (lx, dictOf lim ln)], env.frame ≠ some p.1) (ok : u0 + u1 + cost ≤ vm → ∀ h' tks, After s.heap h' [] → R (.ok (.ret .none)) ⟨h', s.gens, s.drawn, tks, s.os⟩) (bad : vm < u0 + u1 + cost → ∀ e h' tks tk, ErrEnd w fl s.heap (.bytes (asBytes "VMerror") tk) e h' → R (.error (.ref e)) ⟨h', s.gens, s.drawn, tks, s.os⟩), codeAny (model PG w) A (.call (.ref 317) ⟨[.ref mk, .int cost tc], []⟩) R s
def KT (x : (World × (Result → Shared → Prop) × Shared × Heap × List Str × (ExcName → Option Value)) × ((Str → Option Value) × (Str → Option Value) × List Env × Int × Tok × Addr) × (Addr × Addr × Addr × Addr × Addr × Addr) × (Addr × Bool × Int × Int × Int × Int) × (Tok × Tok × Tok × Tok × Tok × Tok) × (Tok × Tok × Tok × Tok × Tok × Tok) × (Tok × Tok × Nat × List DictEntry × Nat × Int) × Tok) : Prop := KP x.1.1 x.1.2.1 x.1.2.2.1 x.1.2.2.2.1 x.1.2.2.2.2.1 x.1.2.2.2.2.2 x.2.1.1 x.2.1.2.1 x.2.1.2.2.1 x.2.1.2.2.2.1 x.2.1.2.2.2.2.1 x.2.1.2.2.2.2.2 x.2.2.1.1 x.2.2.1.2.1 x.2.2.1.2.2.1 x.2.2.1.2.2.2.1 x.2.2.1.2.2.2.2.1 x.2.2.1.2.2.2.2.2 x.2.2.2.1.1 x.2.2.2.1.2.1 x.2.2.2.1.2.2.1 x.2.2.2.1.2.2.2.1 x.2.2.2.1.2.2.2.2.1 x.2.2.2.1.2.2.2.2.2 x.2.2.2.2.1.1 x.2.2.2.2.1.2.1 x.2.2.2.2.1.2.2.1 x.2.2.2.2.1.2.2.2.1 x.2.2.2.2.1.2.2.2.2.1 x.2.2.2.2.1.2.2.2.2.2 x.2.2.2.2.2.1.1 x.2.2.2.2.2.1.2.1 x.2.2.2.2.2.1.2.2.1 x.2.2.2.2.2.1.2.2.2.1 x.2.2.2.2.2.1.2.2.2.2.1 x.2.2.2.2.2.1.2.2.2.2.2 x.2.2.2.2.2.2.1.1 x.2.2.2.2.2.2.1.2.1 x.2.2.2.2.2.2.1.2.2.1 x.2.2.2.2.2.2.1.2.2.2.1 x.2.2.2.2.2.2.1.2.2.2.2.1 x.2.2.2.2.2.2.1.2.2.2.2.2 x.2.2.2.2.2.2.2
theorem Kex : ∃ x, KT x → ∀ y, KT y := drink ((anyW, (fun _ _ => True), {}, default, default, default), (default, default, default, default, default, default), (default, default, default, default, default, default), (default, default, default, default, default, default), (default, default, default, default, default, default), (default, default, default, default, default, default), (default, default, default, default, default, default), default) _
@[irreducible] def Kx0 := Classical.choose Kex
@[irreducible] def w := Kx0.1.1
@[irreducible] def R := Kx0.1.2.1
@[irreducible] def s := Kx0.1.2.2.1
@[irreducible] def b := Kx0.1.2.2.2.1
@[irreducible] def loose := Kx0.1.2.2.2.2.1
@[irreducible] def mean := Kx0.1.2.2.2.2.2
@[irreducible] def mg := Kx0.2.1.1
@[irreducible] def mb := Kx0.2.1.2.1
@[irreducible] def fl := Kx0.2.1.2.2.1
@[irreducible] def cost := Kx0.2.1.2.2.2.1
@[irreducible] def tc := Kx0.2.1.2.2.2.2.1
@[irreducible] def mk := Kx0.2.1.2.2.2.2.2
@[irreducible] def mx := Kx0.2.2.1.1
@[irreducible] def lx := Kx0.2.2.1.2.1
@[irreducible] def lm := Kx0.2.2.1.2.2.1
@[irreducible] def sv := Kx0.2.2.1.2.2.2.1
@[irreducible] def jr := Kx0.2.2.1.2.2.2.2.1
@[irreducible] def mm := Kx0.2.2.1.2.2.2.2.2
@[irreducible] def fr := Kx0.2.2.2.1.1
@[irreducible] def gl := Kx0.2.2.2.1.2.1
@[irreducible] def u0 := Kx0.2.2.2.1.2.2.1
@[irreducible] def u1 := Kx0.2.2.2.1.2.2.2.1
@[irreducible] def lb := Kx0.2.2.2.1.2.2.2.2.1
@[irreducible] def ls := Kx0.2.2.2.1.2.2.2.2.2
@[irreducible] def a0 := Kx0.2.2.2.2.1.1
@[irreducible] def a1 := Kx0.2.2.2.2.1.2.1
@[irreducible] def a2 := Kx0.2.2.2.2.1.2.2.1
@[irreducible] def a3 := Kx0.2.2.2.2.1.2.2.2.1
@[irreducible] def t0 := Kx0.2.2.2.2.1.2.2.2.2.1
@[irreducible] def t1 := Kx0.2.2.2.2.1.2.2.2.2.2
@[irreducible] def t2 := Kx0.2.2.2.2.2.1.1
@[irreducible] def t3 := Kx0.2.2.2.2.2.1.2.1
@[irreducible] def t4 := Kx0.2.2.2.2.2.1.2.2.1
@[irreducible] def t5 := Kx0.2.2.2.2.2.1.2.2.2.1
@[irreducible] def t6 := Kx0.2.2.2.2.2.1.2.2.2.2.1
@[irreducible] def t7 := Kx0.2.2.2.2.2.1.2.2.2.2.2
@[irreducible] def t8 := Kx0.2.2.2.2.2.2.1.1
@[irreducible] def t9 := Kx0.2.2.2.2.2.2.1.2.1
@[irreducible] def mn := Kx0.2.2.2.2.2.2.1.2.2.1
@[irreducible] def lim := Kx0.2.2.2.2.2.2.1.2.2.2.1
@[irreducible] def ln := Kx0.2.2.2.2.2.2.1.2.2.2.2.1
@[irreducible] def vm := Kx0.2.2.2.2.2.2.1.2.2.2.2.2
@[irreducible] def tv := Kx0.2.2.2.2.2.2.2
set_option maxRecDepth 100000
set_option maxHeartbeats 4000000
@[irreducible] def g : Heap := hideAll s.heap (([(mk, instObj 348 mx), (mx, makerO w lm sv jr mm fr gl u0 u1 lb ls a0 a1 a2 a3 t0 t1 t2 t3 t4 t5 t6 t7 t8 t9 mn), (lm, instObj 270 lx), (lx, dictOf lim ln)] : List (Addr × Obj)).map (·.1))
@[irreducible] def L' : Addr := s.heap.objs.size
theorem KgE  : g = hideAll s.heap (([(mk, instObj 348 mx), (mx, makerO w lm sv jr mm fr gl u0 u1 lb ls a0 a1 a2 a3 t0 t1 t2 t3 t4 t5 t6 t7 t8 t9 mn), (lm, instObj 270 lx), (lx, dictOf lim ln)] : List (Addr × Obj)).map (·.1)) := by with_unfolding_all rfl
theorem KlE : L' = s.heap.objs.size := by with_unfolding_all rfl
theorem at0 : KP w R s b loose mean mg mb fl cost tc mk mx lx lm sv jr mm fr gl u0 u1 lb ls a0 a1 a2 a3 t0 t1 t2 t3 t4 t5 t6 t7 t8 t9 mn lim ln vm tv := by
  intro A st G Bl hA D hv nf ok bad
  subst hA
  refine' enterE' KgE KlE (binds := [(Str.ofString "self", .ref mk), (Str.ofString "cost", .int cost tc)]) st G D ?k6 ?k7 ?k8 ?k9 ?kB ?_ ?c2 ?c3 ?c4 ?c5
  walk_at "my enter"
  intro h' Z F' N'
  have G' := G.keeps Z.st
  have ⟨X', T', _, _, _, _, _⟩ := G'
  walk_at "my go"
  · walk_at "my raise"
    refine bad ?_ _ _ _ _ (by assumption); omega
  · exact ok (by omega) _ _ ⟨fun _ hp => (nomatch hp), fun a o q _ => keep_all (by assumption) (by assumption) Z (by walk_at "my sub") a o q⟩
end K_room_c
end
theorem room_c {w : World} {R : Result → Shared → Prop} {s : Shared} {b : Heap} {loose : List Str} {mean : ExcName → Option Value} {mg mb : Str → Option Value} {fl : List Env} {cost : Int} {tc : Tok} {mk mx lx lm sv jr mm fr : Addr} {gl : Bool} {u0 u1 lb ls : Int} {a0 a1 a2 a3 t0 t1 t2 t3 t4 t5 t6 t7 t8 t9 : Tok} {mn : Nat} {lim : List DictEntry} {ln : Nat} {vm : Int} {tv : Tok} : K_room_c.KP w R s b loose mean mg mb fl cost tc mk mx lx lm sv jr mm fr gl u0 u1 lb ls a0 a1 a2 a3 t0 t1 t2 t3 t4 t5 t6 t7 t8 t9 mn lim ln vm tv :=
  @Classical.choose_spec _ _ K_room_c.Kex (by with_unfolding_all exact @K_room_c.at0) ((w, R, s, b, loose, mean), (mg, mb, fl, cost, tc, mk), (mx, lx, lm, sv, jr, mm), (fr, gl, u0, u1, lb, ls), (a0, a1, a2, a3, t0, t1), (t2, t3, t4, t5, t6, t7), (t8, t9, mn, lim, ln, vm), tv)
section
variable {w : World} {A : Around} {R : Result → Shared → Prop} {s : Shared} {b : Heap} {loose : List Str} {mean : ExcName → Option Value} {mg mb : Str → Option Value} {fl : List Env}
structure Caller (A₀ A : Around) (b : Heap) (env : Env) (outer : List Env) (g : Heap) (L : Addr) (h : Heap) (m : Str → Option Value) (news : List (Addr × Obj)) : Prop where
  B : Below A₀ b outer g
  F : Fr g L h m
  N : News g L h news
  fr : A.frames = some (env :: outer)
  at_ : env.frame = some L
  fn : env.scope.kind = .function
  hd : A.handled = none

theorem Caller.below {A₀ A : Around} {b : Heap} {env : Env} {outer : List Env} {g : Heap} {L : Addr} {h : Heap} {m : Str → Option Value} {news : List (Addr × Obj)} (C : Caller A₀ A b env outer g L h m news) : Below A b (env :: outer) h :=
  ⟨C.fr, (pushX C.B C.F C.at_ C.fn).stays, (pushX C.B C.F C.at_ C.fn).frames⟩
theorem Caller.led {A₀ A : Around} {b : Heap} {env : Env} {outer : List Env} {g : Heap} {L : Addr} {h : Heap} {m : Str → Option Value} {news led : List (Addr × Obj)} (C : Caller A₀ A b env outer g L h m news) (hm : ∀ p ∈ led, p ∈ news) :
    Led b h led ∧ ∀ e ∈ env :: outer, ∀ p ∈ led, e.frame ≠ some p.1 := by
  refine ⟨fun p hp => ⟨(C.N p (hm p hp)).1, ?_⟩, fun e he p hp q => ?_⟩
  · cases q : b.get? p.1 with
    | none => rfl
    | some o => have := C.B.stays _ _ q; rw [(C.N p (hm p hp)).2.2] at this; cases this
  · rcases List.mem_cons.mp he with rfl | he
    · rw [C.at_] at q
      exact (C.N p (hm p hp)).2.1 (Option.some.inj q).symm
    · obtain ⟨L₁, o₁, hf₁, ho₁⟩ := funFrames_in C.B.frames e he
      rw [hf₁] at q
      have := (C.N p (hm p hp)).2.2
      rw [← Option.some.inj q, ho₁] at this; cases this
theorem Caller.same {A₀ A : Around} {b : Heap} {env : Env} {outer : List Env} {g : Heap} {L : Addr} {h h' : Heap} {m : Str → Option Value} {news : List (Addr × Obj)} (C : Caller A₀ A b env outer g L h m news) (Af : After h h' []) : Fr g L h' m ∧ News g L h' news :=
  ⟨after_fr C.F Af fun _ hp => (nomatch hp), fun p hp => ⟨Af.keep _ _ (C.N p hp).1 fun _ hq => (nomatch hq), (C.N p hp).2⟩⟩

theorem room_w {A₀ : Around} {E : Value → Shared → Prop} {Q : Value → Shared → Prop} {env : Env} {outer : List Env} {g : Heap} {L : Addr} {m : Str → Option Value} {news : List (Addr × Obj)} {cost : Int} {tc : Tok} {mk mx lx : Addr} {lm sv jr mm fr : Addr} {gl : Bool} {u0 u1 lb ls : Int} {a0 a1 a2 a3 t0 t1 t2 t3 t4 t5 t6 t7 t8 t9 : Tok} {mn : Nat} {lim : List DictEntry} {ln : Nat} {vm : Int} {tv : Tok}
    (C : Caller A₀ A b env outer g L s.heap m news) (G : Gd w loose mean mg mb b) (hA3 : A.depth ≤ 900) (hA4 : A.units ≤ 5000)
    (hm : ∀ p ∈ [(mk, instObj 348 mx), (mx, makerO w lm sv jr mm fr gl u0 u1 lb ls a0 a1 a2 a3 t0 t1 t2 t3 t4 t5 t6 t7 t8 t9 mn), (lm, instObj 270 lx), (lx, dictOf lim ln)], p ∈ news) (hv : getL (Str.ofString "vm") lim = some (some (.int vm tv)))
    (ok : u0 + u1 + cost ≤ vm → ∀ h' tks, Fr g L h' m → News g L h' news → Q .none ⟨h', s.gens, s.drawn, tks, s.os⟩)
    (bad : vm < u0 + u1 + cost → ∀ e h' tks tk, ErrEnd w (env :: outer) s.heap (.bytes (asBytes "VMerror") tk) e h' → E (.ref e) ⟨h', s.gens, s.drawn, tks, s.os⟩) :
    wpAny (model PG w) A (call (.ref 317) [.ref mk, .int cost tc]) Q E s := by
  obtain ⟨D, nf⟩ := C.led hm
  exact wpAny_call (codeAny_room (room_c (A := { depth := 900, units := 5000, frames := some (env :: outer), handled := none, guards := none }) C.below.stays G ⟨rfl, C.below.stays, C.below.frames⟩ rfl D hv nf
    (fun hle h' tks Af => (fun ⟨x, y⟩ => ok hle h' tks x y) (C.same Af)) bad) C.hd hA3 (.inr C.fr) rfl hA4)
end
noncomputable abbrev dictA (es : Array DictEntry) (ep : Nat) : Obj := ⟨.type "dict", none, .dict es ep, #[]⟩
def Nums (w : World) (es : Array DictEntry) (n : Nat) : Prop := KeysOf (intKind PG w) es ∧ es.size ≤ n
section
variable {w : World} {A : Around} {E : Value → Shared → Prop} {s : Shared} {h₀ : Heap} {L : Addr} {m : Str → Option Value} {news : List (Addr × Obj)} {gg : Obj → List (Addr × Obj)} {d : Addr}
theorem dPut_nums {es : Array DictEntry} {ep n : Nat} {k : Int} {t : Tok} {v : Value} (hk : Nums w es n) : ∃ es' ep', dPut ((intKind PG w).is k) ((intKind PG w).hash k) (.int k t) v es ep = dictA es' ep' ∧ Nums w es' (n + 1) := by
  unfold dPut
  split
  · refine ⟨_, _, rfl, fun e he => ?_, by rw [Array.size_modify]; exact Nat.le_succ_of_le hk.2⟩
    rename_i i _
    obtain ⟨j, hj, rfl⟩ := Array.mem_iff_getElem.mp he
    rw [Array.size_modify] at hj
    rw [Array.getElem_modify]
    split
    · exact hk.1 es[j] (Array.getElem_mem hj)
    · exact hk.1 es[j] (Array.getElem_mem hj)
  · refine ⟨_, _, rfl, fun e he => ?_, by rw [Array.size_push]; exact Nat.succ_le_succ hk.2⟩
    rcases Array.mem_push.mp he with he | rfl
    · exact hk.1 e he
    · exact ⟨k, by simp [intKind, Value.isInt], rfl⟩
theorem dset_int {es : Array DictEntry} {ep n : Nat} {k : Int} {t : Tok} {v : Value} {Q : Unit → Shared → Prop} (F : Fr h₀ L s.heap m) (N : News h₀ L s.heap news) (hk : Nums w es n) (U : UpdF d (dictA es ep) news gg) (hz : n ≤ 1000)
    (h : ∀ h' es' ep', Nums w es' (n + 1) → Fr h₀ L h' m → News h₀ L h' (gg (dictA es' ep')) → Q () { s with heap := h', toks := s.toks + 1 }) : wpAny (model PG w) A (setItem (.ref d) (.int k t) v) Q E s := by
  obtain ⟨own, rest, rfl, hg, h1, h2⟩ := U.split
  have hmem := N (d, dictA es ep) (List.mem_append_right _ (.head _))
  refine setItem_obj (knd := intKind PG w) (k := k) (by simp [intKind, Value.isInt]) hmem.1 hk.1 (Nat.le_trans hk.2 (by rw [sizeLine_eq]; omega)) fun h' hd hs => ?_
  obtain ⟨es', ep', e, hn⟩ := dPut_nums (ep := ep) (k := k) (t := t) (v := v) hk
  rw [e] at hd
  exact h h' es' ep' hn (F.change hs hmem.2.1 hmem.2.2) (by rw [hg]; exact news_set N h1 h2 hs hd)
end
section
variable {prog : Program} {w : World} {A : Around} {s : Shared} {K : Frag} {L : Addr} {h₀ : Heap} {m mg mb : Str → Option Value} {news : List (Addr × Obj)} {p : Program} {loose : List Str} {mean : ExcName → Option Value}
theorem groundN {R : Result → Shared → Prop} (F : Fr h₀ L s.heap m) (N : News h₀ L s.heap news) :
    Fr h₀ L (hideAll s.heap (news.map (·.1))) m ∧ h₀.StaysIn (hideAll s.heap (news.map (·.1))) ∧
      ∀ v s', LeaveK h₀ L m (hideAll s.heap (news.map (·.1))) R v s' → R (.ok (.ret v)) s' := by
  have nm : ∀ b o, h₀.get? b = some o → b ∉ news.map (·.1) := fun b o e q => by
    obtain ⟨p, hp, rfl⟩ := List.mem_map.mp q
    rw [(N p hp).2.2] at e; cases e
  have st : h₀.StaysIn (hideAll s.heap (news.map (·.1))) := fun b o e => hideAll_get _ (F.keep b o e) (nm b o e)
  obtain ⟨oL, es, ep, hL, hLd, hLk, hLf⟩ := F.ns
  have nL : L ∉ news.map (·.1) := fun q => by
    obtain ⟨p, hp, e⟩ := List.mem_map.mp q
    exact (N p hp).2.1 e
  have hLg := hideAll_get (news.map (·.1)) hL nL
  refine ⟨⟨⟨oL, es, ep, hLg, hLd, hLk, hLf⟩, st, F.above⟩, st, fun v s' hl => ?_⟩
  obtain ⟨L', m', news', F', N', k⟩ := hl
  refine k ⟨⟨oL, es, ep, F'.keep L oL hLg, hLd, hLk, hLf⟩, fun b o e => F'.keep b o (st b o e), F.above⟩ fun p hp => ⟨(N' p hp).1, fun q => ?_, ?_⟩
  · have := (N' p hp).2.2; rw [q, hLg] at this; cases this
  · cases q : h₀.get? p.1 with
    | none => rfl
    | some o => have := (N' p hp).2.2; rw [st _ _ q] at this; cases this

theorem code_defN {R : Result → Shared → Prop} {name qual : Str} {params : Arguments} {body : List Stmt} {scope : Scope} {dV kV doc pm cdv ct oc : Value} {an od : Option Addr} {osl : Array (Option Value)} {f : Addr} {args : Args} {binds : List (Str × Value)}
    (F : Fr h₀ L s.heap m) (X₀ : K.In h₀) (N : News h₀ L s.heap news) (T : Top p loose mean mg mb h₀)
    (ho : K.lookup f = some ⟨oc, od, .func (fnOf name qual params body scope dV kV doc pm an cdv ct), osl⟩) (hcd : codeIn K cdv qual = true) (hroom : A.depth < recursionLimit)
    (hbind : BindsTo s (fnOf name qual params body scope dV kV doc pm an cdv ct) args binds) (hloc : ∀ y ∈ binds, scope.names.lookup y.1 = some .local)
    (h : ∀ g L' h₁, Fr h₀ L g m → Fr g L' h₁ (fun y => binds.reverse.lookup y) → News g L' h₁ news → K.In g → Top p loose mean mg mb g →
      wpAny (model prog w) (A.deeper (envOf qual scope L' f cdv)) (execs body (envOf qual scope L' f cdv))
        (fun fl s' => LeaveK h₀ L m g R (match fl with | .ret v => v | _ => .none) s')
        (fun e s' => wpAny (model prog w) (A.deeper (envOf qual scope L' f cdv)) (leaving (envOf qual scope L' f cdv) e) (fun _ s'' => R (.error e) s'') (fun e' s'' => R (.error e') s'') s')
        { s with heap := h₁, toks := s.toks + binds.length })
    (hco : scope.isCoroutine = false) (hgen : scope.isGenerator = false) (hk : scope.kind = .function)
    (hcell : ∀ x ∈ scope.names, x.2 ≠ .cell) : codeAny (model prog w) A (.call (.ref f) args) R s := by
  obtain ⟨FG, st, lv⟩ := groundN (R := R) F N
  have Xs := X₀.keeps F.keep
  refine codeAny_call_def (fd := fnOf name qual params body scope dV kV doc pm an cdv ct) (body := body) (binds := binds) hroom (Xs _ _ ho) rfl (T.nolimit.keeps F.keep) (codeRec_of Xs hcd) rfl hbind hcell hloc (fun h₁ hns hk₁ => ?_) hco hgen hk
  exact wpAny_mono (h _ s.heap.objs.size h₁ FG ⟨hns, fun b o e => hk₁ b o (of_hideAll _ e), Nat.le_of_eq (hideAll_size _ _)⟩
    (fun p hp => ⟨hk₁ _ _ (N p hp).1, Nat.ne_of_lt (Heap.lt_size (N p hp).1), hideAll_none _ (List.mem_map_of_mem hp)⟩) (X₀.keeps st) (T.keeps st)) (fun fl s' hl => lv _ _ hl) fun _ _ y => y
end
theorem kwE1linesn1 : True := by
  k_with "my enterN" => (refine' code_defN ?k2x27f ?k3x27f ?k4x27f ?k5x27f ?k6x27f ?k7x27f ?k8x27f ?k9x27f ?kBx27f ?_ ?c2x27f ?c3x27f ?c4x27f ?c5x27f; (case k2x27f => k_asm); (case k3x27f => k_asm); (case k4x27f => k_asm); (case k5x27f => k_asm); (case k6x27f => k_is); (case k7x27f => k_is); (case k8x27f => k_room); (case k9x27f => first | exact BindsTo.of_eq rfl | exact binds_K (by k_in) rfl (by k_is) rfl rfl rfl | fail "my enterN: no rule for these arguments"); (case c5x27f => decide); (case kBx27f => exact locs rfl); (case c2x27f => exact rfl); (case c3x27f => exact rfl); (case c4x27f => exact rfl); k_whole; intro g' L' h' FG' F' N' X' T'; (try dsimp only); (try k_fold))
  k_with "call ref" => (k_here; k_dflt (first | (refine' call_cls ?k1x5be ?k2x5be ?k3x5be ?k4x5be ?k5x5be ?k6x5be ?_; (case k1x5be => k_asm); (case k2x5be => k_asm); (case k3x5be => k_asm); (case k4x5be => k_is); (case k5x5be => k_is); (case k6x5be => k_is); k_whole; intro x' d' h' F' N' l1 l2; (try k_lt l1); (try k_lt2 l2); (try k_sweep); walk_at "my enterN") | (refine wpAny_call ?_; walk_at "my enterN")))
  exact trivial
noncomputable abbrev thingD (w : World) (kind : String) (tk : Tok) (v ex ac : Value) (t0 t1 t2 t3 : Tok) (n : Nat) : Obj :=
  dictOf [ent w "kind" t0 (.str (Str.ofString kind) tk), ent w "value" t1 v, ent w "is_exec" t2 ex, ent w "access" t3 ac] n
noncomputable abbrev spanD (w : World) (x : Addr) (st mn : Value) (t0 t1 t2 : Tok) (n : Nat) : Obj :=
  dictOf [ent w "body" t0 (.ref x), ent w "start" t1 st, ent w "many" t2 mn] n
inductive Shape (w : World) : Addr → Bool → List (Addr × Obj) → Prop
  | flat {t dt : Addr} {kind : String} {tk : Tok} {v ex ac : Value} {t0 t1 t2 t3 : Tok} {n : Nat} : kind ∈ ["integer", "name", "null", "mark"] → handedIn v = true → Shape w t true [(t, instObj 65 dt), (dt, thingD w kind tk v ex ac t0 t1 t2 t3 n)]
  | span {t dt sp ds x dx C : Addr} {kind : String} {f : Bool} {tk : Tok} {sv mv ex ac : Value} {t0 t1 t2 t3 t4 t5 t6 : Tok} {n n' ln : Nat} {es : List DictEntry} : (kind = "string" ∧ C = 86 ∨ kind = "array" ∧ C = 107) → KeysLit w.params es → getL (Str.ofString "is_global") es = some (some (.bool f)) →
      Shape w t f [(t, instObj 65 dt), (dt, thingD w kind tk (.ref sp) ex ac t0 t1 t2 t3 n), (sp, instObj 161 ds), (ds, spanD w x sv mv t4 t5 t6 n'), (x, instObj C dx), (dx, dictOf es ln)]
  | dict {t dt x dx : Addr} {f : Bool} {tk : Tok} {ex ac : Value} {t0 t1 t2 t3 : Tok} {n ln : Nat} {es : List DictEntry} : KeysLit w.params es → getL (Str.ofString "is_global") es = some (some (.bool f)) →
      Shape w t f [(t, instObj 65 dt), (dt, thingD w "dict" tk (.ref x) ex ac t0 t1 t2 t3 n), (x, instObj 140 dx), (dx, dictOf es ln)]
def ThingOK (w : World) (b h : Heap) (t : Addr) (f : Bool) : Prop := ∃ lst, Shape w t f lst ∧ Led b h lst
theorem ThingOK.mono {w : World} {b h h' : Heap} {t : Addr} {f : Bool} (T : ThingOK w b h t f) (k : ∀ a o, h.get? a = some o → h'.get? a = some o) : ThingOK w b h' t f :=
  let ⟨l, S, D⟩ := T; ⟨l, S, fun p hp => ⟨k _ _ (D p hp).1, (D p hp).2⟩⟩
noncomputable section
namespace K_islocal_c
def KP (w : World) (R : Result → Shared → Prop) (s : Shared) (b : Heap) (loose : List Str) (mean : ExcName → Option Value) (mg mb : Str → Option Value) (t : Addr) : Prop := ∀ {A : Around} {f : Bool} (st : b.StaysIn s.heap) (G : Gd w loose mean mg mb b) (T : ThingOK w b s.heap t f) (hA : A = { depth := 900, units := 5000, frames := none, handled := none, guards := none }) (hR : ∀ h' tks, After s.heap h' [] → R (.ok (.ret (.bool (!f)))) ⟨h', s.gens, s.drawn, tks, s.os⟩), codeAny (model PG w) A (.call (.ref 238) ⟨[.ref t], []⟩) R s
def KT (x : (World × (Result → Shared → Prop) × Shared × Heap × List Str × (ExcName → Option Value)) × ((Str → Option Value) × (Str → Option Value) × Addr)) : Prop := KP x.1.1 x.1.2.1 x.1.2.2.1 x.1.2.2.2.1 x.1.2.2.2.2.1 x.1.2.2.2.2.2 x.2.1 x.2.2.1 x.2.2.2
theorem Kex : ∃ x, KT x → ∀ y, KT y := drink ((anyW, (fun _ _ => True), {}, default, default, default), (default, default, default)) _
@[irreducible] def Kx0 := Classical.choose Kex
@[irreducible] def w := Kx0.1.1
@[irreducible] def R := Kx0.1.2.1
@[irreducible] def s := Kx0.1.2.2.1
@[irreducible] def b := Kx0.1.2.2.2.1
@[irreducible] def loose := Kx0.1.2.2.2.2.1
@[irreducible] def mean := Kx0.1.2.2.2.2.2
@[irreducible] def mg := Kx0.2.1
@[irreducible] def mb := Kx0.2.2.1
@[irreducible] def t := Kx0.2.2.2
set_option maxRecDepth 100000
set_option maxHeartbeats 4000000
theorem kwE1e11 : True := by
  k_with "getAttr ref" => (k_here; (with_reducible show wpAny _ _ (getAttr (Value.ref _) (Str.ofString "is_global") _) _ _ _); walk_at "my lim")
  exact trivial
theorem at0 : KP w R s b loose mean mg mb t := by
  intro A f st G T hA hR
  subst hA
  obtain ⟨lst, S, D⟩ := T
  have fin : ∀ {g L' h' m}, Got b s.heap g lst L' → Fr g L' h' m → News g L' h' lst → After s.heap h' [] := fun Z F9 N9 => ⟨fun _ hp => (nomatch hp), fun a o q _ => keep_all F9 N9 Z (fun _ hp => hp) a o q⟩
  cases S with
  | flat hk _ =>
    simp only [List.mem_cons, List.not_mem_nil, or_false] at hk
    rcases hk with rfl | rfl | rfl | rfl
    all_goals
      refine' enterE (binds := [(Str.ofString "thing", .ref t)]) st G D ?k6 ?k7 ?k8 ?k9 ?kB ?_ ?c2 ?c3 ?c4 ?c5
      walk_at "my enter"
      intro g L' h' Z F' N'
      have ⟨X', T', _, _, _, _, _⟩ := G.keeps Z.st
      walk_at "my go"
      exact hR _ _ (fin Z (by assumption) (by assumption))
  | span hk hl he =>
    rcases hk with ⟨rfl, rfl⟩ | ⟨rfl, rfl⟩
    all_goals
      refine' enterE (binds := [(Str.ofString "thing", .ref t)]) st G D ?k6 ?k7 ?k8 ?k9 ?kB ?_ ?c2 ?c3 ?c4 ?c5
      walk_at "my enter"
      intro g L' h' Z F' N'
      have ⟨X', T', _, _, _, _, _⟩ := G.keeps Z.st
      walk_at "my go"
      exact hR _ _ (fin Z (by assumption) (by assumption))
  | dict hl he =>
    refine' enterE (binds := [(Str.ofString "thing", .ref t)]) st G D ?k6 ?k7 ?k8 ?k9 ?kB ?_ ?c2 ?c3 ?c4 ?c5
    walk_at "my enter"
    intro g L' h' Z F' N'
    have ⟨X', T', _, _, _, _, _⟩ := G.keeps Z.st
    walk_at "my go"
    exact hR _ _ (fin Z (by assumption) (by assumption))
end K_islocal_c
end
theorem islocal_c {w : World} {R : Result → Shared → Prop} {s : Shared} {b : Heap} {loose : List Str} {mean : ExcName → Option Value} {mg mb : Str → Option Value} {t : Addr} : K_islocal_c.KP w R s b loose mean mg mb t :=
  @Classical.choose_spec _ _ K_islocal_c.Kex (by with_unfolding_all exact @K_islocal_c.at0) ((w, R, s, b, loose, mean), (mg, mb, t))
section
end
theorem kwreset1 : True := by
  k_with_none
  k_with "my mem" => k_dflt (first | exact nth_mem 0 rfl | exact nth_mem 1 rfl | exact nth_mem 2 rfl | exact nth_mem 3 rfl | exact nth_mem 4 rfl | exact nth_mem 5 rfl | exact nth_mem 6 rfl | exact nth_mem 7 rfl | exact nth_mem 8 rfl | exact nth_mem 9 rfl | exact nth_mem 10 rfl | exact nth_mem 11 rfl | exact nth_mem 12 rfl | exact nth_mem 13 rfl | exact nth_mem 14 rfl | exact nth_mem 15 rfl | exact nth_mem 16 rfl | exact nth_mem 17 rfl | exact nth_mem 18 rfl | exact nth_mem 19 rfl | exact nth_mem 20 rfl | exact nth_mem 21 rfl | exact nth_mem 22 rfl | exact nth_mem 23 rfl | exact nth_mem 24 rfl | exact nth_mem 25 rfl | exact nth_mem 26 rfl | exact nth_mem 27 rfl)
  k_with "my kall" => first | exact List.forall_mem_nil _ | (refine' allc ?ax5ca ?bx5ca; (case ax5ca => k_ne); (case bx5ca => k_all))
  k_with "my kne" => first | exact (by assumption) | exact Ne.symm (by assumption) | exact Nat.ne_of_lt (Nat.lt_succ_self _) | exact Nat.ne_of_gt (Nat.lt_succ_self _) | exact Nat.ne_of_lt (Nat.lt_succ_of_lt (Nat.lt_succ_self _)) | exact Nat.ne_of_gt (Nat.lt_succ_of_lt (Nat.lt_succ_self _)) | k_dflt (exact Nat.ne_of_gt ((by with_reducible assumption : ∀ p ∈ _, @LT.lt Nat _ p.1 _) (_, _) (by k_mem))) | k_dflt (exact Nat.ne_of_lt ((by with_reducible assumption : ∀ p ∈ _, @LT.lt Nat _ p.1 _) (_, _) (by k_mem))) | ((with_reducible rename PyProof.Rows.News _ _ _ _ => nN); k_dflt (exact ne_mem nN (by k_mem) (by k_mem) rfl))
  k_with "my omega" => first | with_reducible (first | assumption | exact Nat.le_refl _ | exact Int.le_refl _ | exact Nat.le_succ _ | exact Nat.lt_succ_self _ | exact Nat.le_of_lt (by assumption) | exact Nat.ne_of_lt (by assumption) | exact Nat.ne_of_gt (by assumption) | exact Int.le_of_lt (by assumption) | exact o_n1 | exact (o_n1).symm | exact o_n2 | exact (o_n2).symm | exact o_n3 | exact (o_n3).symm | exact o_c1 (by assumption) | exact o_d1 (by assumption) | exact (o_d1 (by assumption)).symm | exact o_c2 (by assumption) | exact o_d2 (by assumption) | exact (o_d2 (by assumption)).symm | exact o_c3 (by assumption) | exact o_d3 (by assumption) | exact (o_d3 (by assumption)).symm | exact o_k1 | exact o_k2 | exact o_k3 | exact o_k4 | exact o_k5 | exact o_k6 (by assumption) | exact o_k7 (by assumption) | exact o_k8 (by assumption) | exact o_k9 (by assumption) | exact o_a1 (by assumption) (by assumption) | exact o_a2 (by assumption) | exact o_a3 (by assumption) | exact o_a4 (by assumption) | exact o_a5 (by assumption) | exact o_a6 (by assumption) | exact o_a7 (by assumption) | exact o_a8 (by assumption) | exact o_a9 (by assumption) | exact o_b1 (by assumption) | exact o_b2 (by assumption) | exact o_b3 (by assumption) | exact o_m1 (by assumption) | exact o_m8 (by assumption) | exact o_m16 (by assumption) | exact o_t1 (by assumption) | exact o_t2 (by assumption)) | decide | omega (config := {})
  k_with "my al" => ((rename AL _ _ => hAL); dsimp only [AL] at hAL)
  k_with "my all" => first | exact List.forall_mem_nil _ | (refine' allc ?ax922 ?bx922; (case ax922 => k_ne); (case bx922 => walk_at "my all"))
  k_with "subscriptTail Name Constant ref str" => (k_here; k_dflt (refine' dget ?Nxe99 ?mxe99 ?kxe99 ?exe99 ?_; (case Nxe99 => k_asm); (case mxe99 => k_mem); (case kxe99 => k_keys); (case exe99 => k_get); k_whole))
  k_with "my putr" => first | exact PutR.hit | (refine' PutR.next ?kaxe8b ?kbxe8b; (case kaxe8b => decide); (case kbxe8b => walk_at "my putr")) | exact PutR.nil
  k_with "setItem ref str" => (k_here; k_dflt (refine' dsetR ?Fx6d2 ?Nx6d2 ?kx6d2 ?mx6d2 ?ex6d2 ?Ux6d2 ?zx6d2 ?_; (case Fx6d2 => k_asm); (case Nx6d2 => k_asm); (case mx6d2 => k_mem); (case kx6d2 => k_keys); (case ex6d2 => walk_at "my putr"); (case Ux6d2 => k_upd); (case zx6d2 => exact Nat.le_of_ble_eq_true rfl); k_whole); intro h' F' N'; (try k_sweep))
  k_with "my go" => ((try k_fold); repeat' (first | (k_unfold; (try dsimp only)) | (walk1; (try dsimp only)) | (dsimp only; walk1)))
  k_with "my enter" => ( (case k6 => k_dflt k_is); (case k7 => k_dflt k_is); (case k8 => first | decide | assumption | k_room); (case k9 => first | exact BindsTo.of_eq rfl | exact binds_K (by assumption) rfl (by k_is) rfl rfl rfl); (case kB => exact locs rfl); (case c5 => decide); (case c2 => exact rfl); (case c3 => exact rfl); (case c4 => exact rfl))
  k_with "callWith ref" => (k_here; (first | ((with_reducible show wpAny _ _ (callWith _ (Value.ref _) _ (backTo _ (starEach (_ :: _) _)) []) _ _ _); k_dflt (refine' callWith_K ?k1xac6 ?k2xac6 ?_; (case k1xac6 => k_asm); (case k2xac6 => k_is); k_whole)) | ((with_reducible show wpAny _ _ (callWith _ (Value.ref _) _ (backTo _ (starEach [] _)) []) _ _ _); k_dflt (refine' callWith_K0 ?k1xac6 ?k2xac6 ?_; (case k1xac6 => k_in); (case k2xac6 => k_is); k_whole))))
  k_with "exec Raise some none" => (k_here; k_dflt (refine' raise_told ?hhx990 ?_; (case hhx990 => exact rfl); k_whole))
  k_with "my sub" => first | exact List.forall_mem_nil _ | ((first | (k_dflt (refine' sub_cons 0 rfl ?_)) | (k_dflt (refine' sub_cons 1 rfl ?_)) | (k_dflt (refine' sub_cons 2 rfl ?_)) | (k_dflt (refine' sub_cons 3 rfl ?_)) | (k_dflt (refine' sub_cons 4 rfl ?_)) | (k_dflt (refine' sub_cons 5 rfl ?_)) | (k_dflt (refine' sub_cons 6 rfl ?_)) | (k_dflt (refine' sub_cons 7 rfl ?_)) | (k_dflt (refine' sub_cons 8 rfl ?_)) | (k_dflt (refine' sub_cons 9 rfl ?_)) | (k_dflt (refine' sub_cons 10 rfl ?_)) | (k_dflt (refine' sub_cons 11 rfl ?_)) | (k_dflt (refine' sub_cons 12 rfl ?_)) | (k_dflt (refine' sub_cons 13 rfl ?_)) | (k_dflt (refine' sub_cons 14 rfl ?_)) | (k_dflt (refine' sub_cons 15 rfl ?_)) | (k_dflt (refine' sub_cons 16 rfl ?_)) | (k_dflt (refine' sub_cons 17 rfl ?_)) | (k_dflt (refine' sub_cons 18 rfl ?_)) | (k_dflt (refine' sub_cons 19 rfl ?_)) | (k_dflt (refine' sub_cons 20 rfl ?_)) | (k_dflt (refine' sub_cons 21 rfl ?_)) | (k_dflt (refine' sub_cons 22 rfl ?_)) | (k_dflt (refine' sub_cons 23 rfl ?_)) | (k_dflt (refine' sub_cons 24 rfl ?_)) | (k_dflt (refine' sub_cons 25 rfl ?_)) | (k_dflt (refine' sub_cons 26 rfl ?_)) | (k_dflt (refine' sub_cons 27 rfl ?_))); walk_at "my sub")
  k_with "my raise" => ( (with_reducible show wpAny _ _ (call (Value.ref 45) _) _ _ _); (rename Gd _ _ _ _ _ _ => myG); (rename Fr _ _ _ _ => myF); (rename News _ _ _ _ => myN); (rename Below _ _ _ _ => myB); (rename Got _ _ _ _ _ => myZ); refine' fault_make myF.keep myG ?roomxc74 ?_; (case roomxc74 => k_room); intro e' h' tks' mk'; obtain ⟨t1', de', tk1', n', he', hx'⟩ := mk'.there; refine' ⟨e', t1', de', rfl, myG.X.keeps (fun a o q => mk'.keep _ _ (myF.keep a o q)), he', ?_⟩; (try k_unfold); (try dsimp only); refine' err_first (keep_all myF myN myZ ?hmxc74) myZ.new myB (fun a o q => myF.keep _ _ (myZ.st a o q)) (fr_obj myF) ?hscxc74 mk' rfl ?hfrxc74 ?_; (case hmxc74 => walk_at "my sub"); (case hscxc74 => intro q; cases q); (case hfrxc74 => exact rfl); intro h'' hE')
  k_with "my lim" => (k_here; k_dflt (refine' get_own ?k1xeaf ?k2xeaf ?k3xeaf ?k4xeaf ?k5xeaf ?k6xeaf ?k7xeaf ?k8xeaf ?k9xeaf ?_; (case k1xeaf => k_asm); (case k2xeaf => k_asm); (case k3xeaf => k_inst); (case k4xeaf => k_is); (case k5xeaf => k_is); (case k6xeaf => k_is); (case k7xeaf => k_is); (case k8xeaf => assumption); (case k9xeaf => k_handed); k_whole))
  k_with "getAttr ref" => (k_here; (first | (with_reducible show wpAny _ _ (getAttr (Value.ref _) (Str.ofString "vm") _) _ _ _) | (with_reducible show wpAny _ _ (getAttr (Value.ref _) (Str.ofString "text") _) _ _ _) | (with_reducible show wpAny _ _ (getAttr (Value.ref _) (Str.ofString "row") _) _ _ _) | (with_reducible show wpAny _ _ (getAttr (Value.ref _) (Str.ofString "entries") _) _ _ _)); walk_at "my lim")
  exact trivial
theorem kwB3linesc1 : True := by
  k_with "my two" => (all_goals first | (intro hle' h' tks' F' N'; (have ck' := Fr.keep F'); clear ck'; (try k_sweep)) | (intro hgt' e' h' tks' tk' hE'))
  k_with "setAttr ref" => (k_here; k_dflt (refine' set_dict ?k1xdd0 ?k2xdd0 ?k3xdd0 ?k4xdd0 ?k5xdd0 ?k6xdd0 ?k7xdd0 ?k8xdd0 ?k9xdd0 ?k10xdd0 (PutR.eq ?k11xdd0) ?k12xdd0 ?k13xdd0 ?_; (case k1xdd0 => k_asm); (case k2xdd0 => k_asm); (case k3xdd0 => k_asm); (case k4xdd0 => k_inst); (case k5xdd0 => exact rfl); (case k6xdd0 => k_is); (case k7xdd0 => k_is); (case k8xdd0 => k_is); (case k9xdd0 => k_is); (case k10xdd0 => k_get); (case k11xdd0 => walk_at "my putr"); (case k12xdd0 => k_upd); (case k13xdd0 => exact Nat.le_of_ble_eq_true rfl); k_whole); intro h' F' N'; (try k_sweep))
  k_with "setItem ref int" => (k_here; k_dflt (refine' dset_int ?Fxdee ?Nxdee ?kxdee ?Uxdee ?zxdee ?_; (case Fxdee => k_asm); (case Nxdee => k_asm); (case Uxdee => k_updF); (case kxdee => assumption); (case zxdee => first | assumption | omega); k_whole); intro h' es' ep' hnum' F' N'; (try dsimp only at N'); (try k_sweep))
  k_with "my B" => (first | assumption | exact ⟨by assumption, by assumption, by assumption, rfl, rfl, rfl, rfl⟩)
  k_with "call ref" => (k_here; (with_reducible show wpAny _ _ (call (Value.ref 317) _) _ _ _); k_dflt (refine' room_w ?Cx4bd ?Gx4bd ?a3x4bd ?a4x4bd ?hmx4bd ?hvx4bd ?_ ?_; (case Cx4bd => walk_at "my B"); (case Gx4bd => assumption); (case hmx4bd => walk_at "my sub"); (case hvx4bd => assumption); (case a3x4bd => exact Nat.le_of_ble_eq_true rfl); (case a4x4bd => exact Nat.le_of_ble_eq_true rfl); k_whole); walk_at "my two")
  k_with "my err" => ((try k_unfold); (try dsimp only); (rename Fr _ _ _ _ => myF); (rename News _ _ _ _ => myN); (rename Got _ _ _ _ _ => myZ); (rename ErrEnd _ _ _ _ _ _ => myX); refine' err_on (keep_all myF myN myZ ?hmx65b) myZ.new myX rfl rfl ?_; (case hmx65b => walk_at "my sub"); intro h'' hE')
  k_with "my part" => first | exact List.forall_mem_nil _ | (refine' allc ?axee7 ?bxee7; (case axee7 => first | exact .inr ⟨_, by k_mem⟩ | exact .inl (by k_mem)); (case bxee7 => walk_at "my part"))
  k_with "my updm" => first | exact UpdM.nil | (refine' UpdM.upd ?ax3ed ?bx3ed; (case ax3ed => k_mem); (case bx3ed => walk_at "my updm")) | (refine' UpdM.keep ?ax3ed ?bx3ed; (case ax3ed => walk_at "my all"); (case bx3ed => walk_at "my updm"))
  k_with "my subo" => first | exact List.forall_mem_nil _ | (refine' allc ⟨_, ?ax8ba⟩ ?bx8ba; (case ax8ba => k_mem); (case bx8ba => walk_at "my subo"))
  k_with "my after" => ((rename After _ _ _ => myA); (rename Fr _ _ _ _ => myF); (rename News _ _ _ _ => myN); refine' upd_go myF myN myA ?ux175 ?cx175 ?_; (case ux175 => walk_at "my updm"); (case cx175 => walk_at "my subo"); clear myA; intro F' N'; (try dsimp only at N'); (try k_sweep))
  exact trivial

section
variable {w : World} {A : Around} {R : Result → Shared → Prop} {s : Shared} {b : Heap} {loose : List Str} {mean : ExcName → Option Value} {mg mb : Str → Option Value} {fl : List Env}
set_option maxRecDepth 100000
set_option maxHeartbeats 4000000
noncomputable abbrev mkLed (w : World) (mk mx lx : Addr) (lm sv jr mm fr : Addr) (gl : Bool) (u0 u1 lb ls : Int) (a0 a1 a2 a3 t0 t1 t2 t3 t4 t5 t6 t7 t8 t9 : Tok) (mn : Nat) (lim : List DictEntry) (ln : Nat) (es : Array DictEntry) (ep : Nat) : List (Addr × Obj) :=
  [(mk, instObj 348 mx), (mx, makerO w lm sv jr mm fr gl u0 u1 lb ls a0 a1 a2 a3 t0 t1 t2 t3 t4 t5 t6 t7 t8 t9 mn), (lm, instObj 270 lx), (lx, dictOf lim ln), (sv, listOf #[] 0), (mm, dictA es ep)]
end
noncomputable section
namespace K_take_c
def KP (w : World) (R : Result → Shared → Prop) (s : Shared) (b : Heap) (loose : List Str) (mean : ExcName → Option Value) (mg mb : Str → Option Value) (fl : List Env) (cost : Int) (tc : Tok) (mk mx lx lm sv jr mm fr : Addr) (u0 u1 lb ls : Int) (a0 a1 a2 a3 t0 t1 t2 t3 t4 t5 t6 t7 t8 t9 : Tok) (mn : Nat) (lim : List DictEntry) (ln : Nat) (vm : Int) (tv : Tok) (es : Array DictEntry) (ep n : Nat) : Prop := ∀ {A : Around} {gl : Bool} (st : b.StaysIn s.heap) (G : Gd w loose mean mg mb b) (Bl : Below A b fl s.heap) (hA : A = { depth := 880, units := 4900, frames := some fl, handled := none, guards := none }) (ho : @LT.lt Nat _ lx lm ∧ @LT.lt Nat _ lm mx ∧ @LT.lt Nat _ mx mk ∧ @LT.lt Nat _ mk sv ∧ @LT.lt Nat _ sv mm) (D : Led b s.heap (mkLed w mk mx lx lm sv jr mm fr gl u0 u1 lb ls a0 a1 a2 a3 t0 t1 t2 t3 t4 t5 t6 t7 t8 t9 mn lim ln es ep)) (hv : getL (Str.ofString "vm") lim = some (some (.int vm tv))) (hn : Nums w es n) (hn0 : n ≤ 900) (nf : ∀ env ∈ fl, ∀ p ∈ mkLed w mk mx lx lm sv jr mm fr gl u0 u1 lb ls a0 a1 a2 a3 t0 t1 t2 t3 t4 t5 t6 t7 t8 t9 mn lim ln es ep, env.frame ≠ some p.1) (ok : u0 + u1 + cost ≤ vm → ∀ h' tks tk u0' u1' a0' a1' a2' es' ep', u0' = (if gl = true then u0 else u0 + cost) → u1' = (if gl = true then u1 + cost else u1) →
      Nums w es' (n + 1) → After s.heap h' [(mx, makerO w lm sv jr mm fr gl u0' u1' (lb + 1) ls a0' a1' a2' a3 t0 t1 t2 t3 t4 t5 t6 t7 t8 t9 mn), (mm, dictA es' ep')] → R (.ok (.ret (.int (lb + 1) tk))) ⟨h', s.gens, s.drawn, tks, s.os⟩) (bad : vm < u0 + u1 + cost → ∀ e h' tks tk, ErrEnd w fl s.heap (.bytes (asBytes "VMerror") tk) e h' → R (.error (.ref e)) ⟨h', s.gens, s.drawn, tks, s.os⟩), codeAny (model PG w) A (.call (.ref 310) ⟨[.ref mk, .int cost tc], []⟩) R s
def KT (x : (World × (Result → Shared → Prop) × Shared × Heap × List Str × (ExcName → Option Value)) × ((Str → Option Value) × (Str → Option Value) × List Env × Int × Tok × Addr) × (Addr × Addr × Addr × Addr × Addr × Addr) × (Addr × Int × Int × Int × Int × Tok) × (Tok × Tok × Tok × Tok × Tok × Tok) × (Tok × Tok × Tok × Tok × Tok × Tok) × (Tok × Nat × List DictEntry × Nat × Int × Tok) × (Array DictEntry × Nat × Nat)) : Prop := KP x.1.1 x.1.2.1 x.1.2.2.1 x.1.2.2.2.1 x.1.2.2.2.2.1 x.1.2.2.2.2.2 x.2.1.1 x.2.1.2.1 x.2.1.2.2.1 x.2.1.2.2.2.1 x.2.1.2.2.2.2.1 x.2.1.2.2.2.2.2 x.2.2.1.1 x.2.2.1.2.1 x.2.2.1.2.2.1 x.2.2.1.2.2.2.1 x.2.2.1.2.2.2.2.1 x.2.2.1.2.2.2.2.2 x.2.2.2.1.1 x.2.2.2.1.2.1 x.2.2.2.1.2.2.1 x.2.2.2.1.2.2.2.1 x.2.2.2.1.2.2.2.2.1 x.2.2.2.1.2.2.2.2.2 x.2.2.2.2.1.1 x.2.2.2.2.1.2.1 x.2.2.2.2.1.2.2.1 x.2.2.2.2.1.2.2.2.1 x.2.2.2.2.1.2.2.2.2.1 x.2.2.2.2.1.2.2.2.2.2 x.2.2.2.2.2.1.1 x.2.2.2.2.2.1.2.1 x.2.2.2.2.2.1.2.2.1 x.2.2.2.2.2.1.2.2.2.1 x.2.2.2.2.2.1.2.2.2.2.1 x.2.2.2.2.2.1.2.2.2.2.2 x.2.2.2.2.2.2.1.1 x.2.2.2.2.2.2.1.2.1 x.2.2.2.2.2.2.1.2.2.1 x.2.2.2.2.2.2.1.2.2.2.1 x.2.2.2.2.2.2.1.2.2.2.2.1 x.2.2.2.2.2.2.1.2.2.2.2.2 x.2.2.2.2.2.2.2.1 x.2.2.2.2.2.2.2.2.1 x.2.2.2.2.2.2.2.2.2
theorem Kex : ∃ x, KT x → ∀ y, KT y := drink ((anyW, (fun _ _ => True), {}, default, default, default), (default, default, default, default, default, default), (default, default, default, default, default, default), (default, default, default, default, default, default), (default, default, default, default, default, default), (default, default, default, default, default, default), (default, default, default, default, default, default), (default, default, default)) _
@[irreducible] def Kx0 := Classical.choose Kex
@[irreducible] def w := Kx0.1.1
@[irreducible] def R := Kx0.1.2.1
@[irreducible] def s := Kx0.1.2.2.1
@[irreducible] def b := Kx0.1.2.2.2.1
@[irreducible] def loose := Kx0.1.2.2.2.2.1
@[irreducible] def mean := Kx0.1.2.2.2.2.2
@[irreducible] def mg := Kx0.2.1.1
@[irreducible] def mb := Kx0.2.1.2.1
@[irreducible] def fl := Kx0.2.1.2.2.1
@[irreducible] def cost := Kx0.2.1.2.2.2.1
@[irreducible] def tc := Kx0.2.1.2.2.2.2.1
@[irreducible] def mk := Kx0.2.1.2.2.2.2.2
@[irreducible] def mx := Kx0.2.2.1.1
@[irreducible] def lx := Kx0.2.2.1.2.1
@[irreducible] def lm := Kx0.2.2.1.2.2.1
@[irreducible] def sv := Kx0.2.2.1.2.2.2.1
@[irreducible] def jr := Kx0.2.2.1.2.2.2.2.1
@[irreducible] def mm := Kx0.2.2.1.2.2.2.2.2
@[irreducible] def fr := Kx0.2.2.2.1.1
@[irreducible] def u0 := Kx0.2.2.2.1.2.1
@[irreducible] def u1 := Kx0.2.2.2.1.2.2.1
@[irreducible] def lb := Kx0.2.2.2.1.2.2.2.1
@[irreducible] def ls := Kx0.2.2.2.1.2.2.2.2.1
@[irreducible] def a0 := Kx0.2.2.2.1.2.2.2.2.2
@[irreducible] def a1 := Kx0.2.2.2.2.1.1
@[irreducible] def a2 := Kx0.2.2.2.2.1.2.1
@[irreducible] def a3 := Kx0.2.2.2.2.1.2.2.1
@[irreducible] def t0 := Kx0.2.2.2.2.1.2.2.2.1
@[irreducible] def t1 := Kx0.2.2.2.2.1.2.2.2.2.1
@[irreducible] def t2 := Kx0.2.2.2.2.1.2.2.2.2.2
@[irreducible] def t3 := Kx0.2.2.2.2.2.1.1
@[irreducible] def t4 := Kx0.2.2.2.2.2.1.2.1
@[irreducible] def t5 := Kx0.2.2.2.2.2.1.2.2.1
@[irreducible] def t6 := Kx0.2.2.2.2.2.1.2.2.2.1
@[irreducible] def t7 := Kx0.2.2.2.2.2.1.2.2.2.2.1
@[irreducible] def t8 := Kx0.2.2.2.2.2.1.2.2.2.2.2
@[irreducible] def t9 := Kx0.2.2.2.2.2.2.1.1
@[irreducible] def mn := Kx0.2.2.2.2.2.2.1.2.1
@[irreducible] def lim := Kx0.2.2.2.2.2.2.1.2.2.1
@[irreducible] def ln := Kx0.2.2.2.2.2.2.1.2.2.2.1
@[irreducible] def vm := Kx0.2.2.2.2.2.2.1.2.2.2.2.1
@[irreducible] def tv := Kx0.2.2.2.2.2.2.1.2.2.2.2.2
@[irreducible] def es := Kx0.2.2.2.2.2.2.2.1
@[irreducible] def ep := Kx0.2.2.2.2.2.2.2.2.1
@[irreducible] def n := Kx0.2.2.2.2.2.2.2.2.2
set_option maxRecDepth 100000
set_option maxHeartbeats 4000000
@[irreducible] def g : Heap := hideAll s.heap ([mk,mx,lm,lx,sv,mm])
@[irreducible] def L' : Addr := s.heap.objs.size
theorem KgE {gl : Bool} : g = hideAll s.heap (((mkLed w mk mx lx lm sv jr mm fr gl u0 u1 lb ls a0 a1 a2 a3 t0 t1 t2 t3 t4 t5 t6 t7 t8 t9 mn lim ln es ep) : List (Addr × Obj)).map (·.1)) := by with_unfolding_all rfl
theorem KlE : L' = s.heap.objs.size := by with_unfolding_all rfl
theorem at0 : KP w R s b loose mean mg mb fl cost tc mk mx lx lm sv jr mm fr u0 u1 lb ls a0 a1 a2 a3 t0 t1 t2 t3 t4 t5 t6 t7 t8 t9 mn lim ln vm tv es ep n := by
  intro A gl st G Bl hA ho D hv hn hn0 nf ok bad
  subst hA
  refine' enterE' KgE KlE (binds := [(Str.ofString "self", .ref mk), (Str.ofString "cost", .int cost tc)]) st G D ?k6 ?k7 ?k8 ?k9 ?kB ?_ ?c2 ?c3 ?c4 ?c5
  walk_at "my enter"
  intro h' Z F' N'
  have G' := G.keeps Z.st
  have ⟨X', T', _, _, _, _, _⟩ := G'
  have Bg := Z.below Bl nf
  obtain ⟨o1, o2, o3, o4, o5⟩ := ho
  dsimp only [mkLed] at N'
  walk_at "my go"
  · refine' ok (by assumption) _ _ _ _ _ _ _ _ _ _ ?e1 ?e2 ?n (after_part ?F ?N Z ?c ?l)
    case F => assumption
    case N => assumption
    case c => walk_at "my sub"
    case l => walk_at "my part"
    case n => assumption
    case e1 => simp [*]
    case e2 => simp [*]
  · refine' ok (by assumption) _ _ _ _ _ _ _ _ _ _ ?e1 ?e2 ?n (after_part ?F ?N Z ?c ?l)
    case F => assumption
    case N => assumption
    case c => walk_at "my sub"
    case l => walk_at "my part"
    case n => assumption
    case e1 => simp [*]
    case e2 => simp [*]
  · walk_at "my err"
    exact bad (by assumption) _ _ _ _ (by assumption)
end K_take_c
end
theorem take_c {w : World} {R : Result → Shared → Prop} {s : Shared} {b : Heap} {loose : List Str} {mean : ExcName → Option Value} {mg mb : Str → Option Value} {fl : List Env} {cost : Int} {tc : Tok} {mk mx lx lm sv jr mm fr : Addr} {u0 u1 lb ls : Int} {a0 a1 a2 a3 t0 t1 t2 t3 t4 t5 t6 t7 t8 t9 : Tok} {mn : Nat} {lim : List DictEntry} {ln : Nat} {vm : Int} {tv : Tok} {es : Array DictEntry} {ep n : Nat} : K_take_c.KP w R s b loose mean mg mb fl cost tc mk mx lx lm sv jr mm fr u0 u1 lb ls a0 a1 a2 a3 t0 t1 t2 t3 t4 t5 t6 t7 t8 t9 mn lim ln vm tv es ep n :=
  @Classical.choose_spec _ _ K_take_c.Kex (by with_unfolding_all exact @K_take_c.at0) ((w, R, s, b, loose, mean), (mg, mb, fl, cost, tc, mk), (mx, lx, lm, sv, jr, mm), (fr, u0, u1, lb, ls, a0), (a1, a2, a3, t0, t1, t2), (t3, t4, t5, t6, t7, t8), (t9, mn, lim, ln, vm, tv), (es, ep, n))
section
end
section
variable {w : World} {A : Around} {E : Value → Shared → Prop} {s : Shared}
set_option maxRecDepth 100000
theorem int_no_bytes : typeLookup (.type "int") "__bytes__" = pure none := by rw [typeLookup_type, builtinLookup_eq_fast]; kernel_rfl
theorem int_index : typeLookup (.type "int") "__index__" = pure (some (.builtin "int.__index__")) := by rw [typeLookup_type, builtinLookup_eq_fast]; kernel_rfl

theorem bytes_new_int {n : Int} {t : Tok} {Q : Value → Shared → Prop} (h0 : 0 ≤ n) (h1 : n ≤ 1000) (hQ : ∀ tk k, Q (.bytes (Array.replicate n.toNat 0) tk) { s with toks := k }) :
    codeAny (model PG w) A (.call (.builtin "bytes.__new__") ⟨[.type "bytes", .int n t], []⟩) (wants Q E) s := by
  refine codeAny_of_tree ?_
  show wpAny _ A.in1 (do checkBuiltinCall "bytes.__new__" ⟨[.type "bytes", .int n t], []⟩; again (.builtin "bytes.__new__" ⟨[.type "bytes", .int n t], []⟩)) _ _ s
  refine wpAny_bind (wpAny_of_eq (F.bm_newCall _) (wpAny_pure ⟨plainId_quiet F.bm_plain _, codeAny_builtin F.bm_entry ?_⟩))
  rw [Around.under_plainId F.bm_plain _]
  have hT : s.TypeIs (.int n t) "int" := PySem.typeIs_int _ _ _
  unfold Builtin.«bytes.__new__»
  refine wpAny_bind (wpAny_of_eq (a := true) rfl ?_)
  refine bm_if_false rfl ?_
  refine wpAny_bind (wpAny_of_eq F.bm_sub ?_)
  refine bm_if_false rfl ?_
  refine wpAny_bind (wpAny_of_eq (F.bm_bind _) ?_)
  refine wpAny_bind (wpAny_of_eq (a := ()) rfl ?_)
  refine wpAny_bind (wpAny_of_eq (a := ()) rfl ?_)
  refine bm_if_false rfl ?_
  refine wpAny_bind (wpAny_specialOf hT int_no_bytes ?_)
  dsimp only
  refine wpAny_bind (wpAny_of_eq (a := false) rfl ?_)
  refine bm_if_false rfl ?_
  refine wpAny_bind (wpAny_specialOf hT int_index ?_)
  refine bm_if_false rfl ?_
  refine wpAny_bind (wpAny_attempt (wpAny_of_eq (rfl : asIndex (.int n t) = pure n) ?_))
  dsimp only
  have e1 : Builtin.Bytes.fitsIndex n = true := by
    unfold Builtin.Bytes.fitsIndex
    simp only [Bool.and_eq_true, decide_eq_true_eq]; omega
  refine bm_if_false (by rw [e1]; rfl) ?_
  show wpAny _ _ (if n < 0 then _ else _) _ _ _
  rw [if_neg (by omega)]
  show wpAny _ _ (if n > 2 ^ 63 - 34 then _ else _) _ _ _
  rw [if_neg (by omega)]
  have e2 : Builtin.Bytes.tooLong n.toNat = false := by
    unfold Builtin.Bytes.tooLong
    rw [sizeLine_eq, decide_eq_false_iff_not]; omega
  refine bm_if_false (by first | rw [e2] | exact e2) ?_
  refine wpAny_bind (wpAny_rule (wpAny_bind (wpAny_mkBytes ?_ (by rw [Array.size_replicate, sizeLine_eq]; omega))))
  refine wpAny_pure ?_
  exact hQ _ _

theorem call_bytes_int {n : Int} {t : Tok} {Q : Value → Shared → Prop} (h0 : 0 ≤ n) (h1 : n ≤ 1000) (hQ : ∀ tk k, Q (.bytes (Array.replicate n.toNat 0) tk) { s with toks := k }) :
    wpAny (model PG w) A (call (.type "bytes") [.int n t]) Q E s := by
  refine callType_codes (Q₁ := fun obj s₁ => s₁.TypeIs obj "bytes" ∧ Q obj s₁) F.bm_called (F.bm_typeCall _) F.entry_object_init
    (bytes_new_int h0 h1 fun tk k => ⟨PySem.W.typeIs_bytes _ _ _, hQ tk k⟩) fun obj s₁ h₁ => ?_
  exact ⟨h₁.1, F.args_object_init_2 obj _, object_init_meets F.bm_called.init.lookup F.bm_called.made (by decide) PG w A.in1 _ s₁ ⟨h₁.1, rfl, h₁.2⟩⟩
end
section
variable {w : World} {A : Around} {E : Value → Shared → Prop} {s : Shared}
set_option maxRecDepth 100000
theorem ba_no_bytes : typeLookup (.type "bytearray") "__bytes__" = pure none := by rw [typeLookup_type, builtinLookup_eq_fast]; kernel_rfl
theorem ba_no_index : typeLookup (.type "bytearray") "__index__" = pure none := by rw [typeLookup_type, builtinLookup_eq_fast]; kernel_rfl
theorem ba_buffer : typeLookup (.type "bytearray") "__buffer__" = pure (some (.builtin "bytearray.__buffer__")) := by rw [typeLookup_type, builtinLookup_eq_fast]; kernel_rfl
theorem ba_release : typeLookup (.type "bytearray") "__release_buffer__" = pure (some (.builtin "bytearray.__release_buffer__")) := by rw [typeLookup_type, builtinLookup_eq_fast]; kernel_rfl

theorem ba_sub : isSubtype (.type "bytearray") (.type "bytearray") = pure true := by rw [isSubtype_type]; kernel_rfl
theorem own_buffer {v : Value} {Q : Bool → Shared → Prop} (hT : s.TypeIs v "bytearray") (h : Q true s) : wpAny (model PG w) A (Builtin.Bytes.slotIsOwn v "__buffer__") Q E s := by
  unfold Builtin.Bytes.slotIsOwn
  refine wpAny_bind (wpAny_specialOf hT ba_buffer ?_)
  (try dsimp only)
  refine bm_if_false (by decide +kernel) ?_
  rw [show ("bytearray.__buffer__".dropRight ("__buffer__".length + 1)) = "bytearray" from by decide +kernel]
  exact wpAny_isInstance hT ba_sub h
theorem own_release {v : Value} {Q : Bool → Shared → Prop} (hT : s.TypeIs v "bytearray") (h : Q false s) : wpAny (model PG w) A (Builtin.Bytes.ownRelease v) Q E s := by
  unfold Builtin.Bytes.ownRelease Builtin.Bytes.slotIsOwn
  refine wpAny_bind (wpAny_bind (wpAny_specialOf hT ba_release ?_))
  (try dsimp only)
  refine bm_if_false (by decide +kernel) ?_
  rw [show ("bytearray.__release_buffer__".dropRight ("__release_buffer__".length + 1)) = "bytearray" from by decide +kernel]
  exact wpAny_isInstance hT ba_sub (wpAny_pure h)

theorem bytes_new_ba {a : Addr} {arr : Array UInt8} {ex : Nat} {Q : Value → Shared → Prop} (ho : s.heap.get? a = some { cls := .type "bytearray", data := .bytearray arr ex }) (hz : arr.size ≤ 1000) (hQ : ∀ tk k, Q (.bytes arr tk) { s with toks := k }) :
    codeAny (model PG w) A (.call (.builtin "bytes.__new__") ⟨[.type "bytes", .ref a], []⟩) (wants Q E) s := by
  refine codeAny_of_tree ?_
  show wpAny _ A.in1 (do checkBuiltinCall "bytes.__new__" ⟨[.type "bytes", .ref a], []⟩; again (.builtin "bytes.__new__" ⟨[.type "bytes", .ref a], []⟩)) _ _ s
  refine wpAny_bind (wpAny_of_eq (F.bm_newCall _) (wpAny_pure ⟨plainId_quiet F.bm_plain _, codeAny_builtin F.bm_entry ?_⟩))
  rw [Around.under_plainId F.bm_plain _]
  have hT : s.TypeIs (.ref a) "bytearray" := ⟨_, ho, rfl⟩
  unfold Builtin.«bytes.__new__»
  refine wpAny_bind (wpAny_of_eq (a := true) rfl ?_)
  refine bm_if_false rfl ?_
  refine wpAny_bind (wpAny_of_eq F.bm_sub ?_)
  refine bm_if_false rfl ?_
  refine wpAny_bind (wpAny_of_eq (F.bm_bind _) ?_)
  refine wpAny_bind (wpAny_of_eq (a := ()) rfl ?_)
  refine wpAny_bind (wpAny_of_eq (a := ()) rfl ?_)
  refine bm_if_false rfl ?_
  refine wpAny_bind (wpAny_specialOf hT ba_no_bytes ?_)
  (try dsimp only)
  refine wpAny_bind (wpAny_bind ?_)
  show wpAny _ _ (load a >>= _) _ _ _
  refine wpAny_bind (wpAny_load ho (wpAny_pure (wpAny_pure ?_)))
  refine bm_if_false rfl ?_
  refine wpAny_bind (wpAny_specialOf hT ba_no_index ?_)
  refine bm_if_true rfl ?_
  first
    | show wpAny _ _ (Builtin.Bytes.buffer? "bytes.__new__" (.ref a) true >>= _) _ _ _
    | (refine wpAny_bind ?_; show wpAny _ _ (Builtin.Bytes.buffer? "bytes.__new__" (.ref a) true >>= _) _ _ _)
  refine wpAny_bind ?_
  unfold Builtin.Bytes.buffer?
  refine wpAny_bind (wpAny_specialOf hT ba_buffer ?_)
  (try dsimp only)
  refine wpAny_bind (own_buffer hT ?_)
  refine bm_if_false rfl ?_
  refine wpAny_bind (wpAny_specialOf hT ba_buffer ?_)
  (try dsimp only)
  refine wpAny_bind (own_release hT ?_)
  refine bm_if_false rfl ?_
  unfold Builtin.Bytes.payload Builtin.Bytes.payload?
  refine wpAny_bind (wpAny_bind (wpAny_bind (wpAny_load ho (wpAny_pure (wpAny_pure (wpAny_pure ?_))))))
  refine wpAny_bind (wpAny_rule (wpAny_bind (wpAny_mkBytes ?_ (Nat.le_trans hz (by rw [sizeLine_eq]; omega)))))
  refine wpAny_pure ?_
  exact hQ _ _

theorem call_bytes_ba {a : Addr} {arr : Array UInt8} {ex : Nat} {Q : Value → Shared → Prop} (ho : s.heap.get? a = some { cls := .type "bytearray", data := .bytearray arr ex }) (hz : arr.size ≤ 1000) (hQ : ∀ tk k, Q (.bytes arr tk) { s with toks := k }) :
    wpAny (model PG w) A (call (.type "bytes") [.ref a]) Q E s := by
  refine callType_codes (Q₁ := fun obj s₁ => s₁.TypeIs obj "bytes" ∧ Q obj s₁) F.bm_called (F.bm_typeCall _) F.entry_object_init
    (bytes_new_ba ho hz fun tk k => ⟨PySem.W.typeIs_bytes _ _ _, hQ tk k⟩) fun obj s₁ h₁ => ?_
  exact ⟨h₁.1, F.args_object_init_2 obj _, object_init_meets F.bm_called.init.lookup F.bm_called.made (by decide) PG w A.in1 _ s₁ ⟨h₁.1, rfl, h₁.2⟩⟩
end
namespace F
theorem ba_mro : mroOf (.type "bytearray") = pure [.type "bytearray", .type "object"] := by rw [mroOf_type]; kernel_rfl
theorem ba_lookup_new : typeLookup (.type "bytearray") "__new__" = pure (some (.builtin "bytearray.__new__")) := by rw [typeLookup_type, builtinLookup_eq_fast]; kernel_rfl
theorem ba_slot_init : Slot "bytearray" "__init__" "bytearray.__init__" :=
  .of (owner := "bytearray") (n := "__init__") (by rw [typeLookup_type, builtinLookup_eq_fast]; kernel_rfl) (by decide +kernel) (by decide +kernel) (by decide +kernel)
    (by first | exact .inl (by decide +kernel) | exact .inr (by decide +kernel)) (by rw [isSubtype_type]; kernel_rfl)
theorem ba_called : TypeCalled "bytearray" "bytearray.__new__" "bytearray.__init__" :=
  ⟨by decide +kernel, by decide +kernel, ⟨_, _, ba_mro⟩, madeBy_type ba_mro ba_lookup_new (by decide +kernel), by decide +kernel, by rw [isSubtype_type]; kernel_rfl, ba_slot_init⟩
theorem ba_typeCall (a : Value) : checkTypeCall "bytearray" ⟨[a], []⟩ = pure () := by kernel_rfl
theorem ba_newCall (a : Value) : checkBuiltinCall "bytearray.__new__" ⟨[.type "bytearray", a], []⟩ = pure () := by kernel_rfl
theorem ba_plain : plainId "bytearray.__init__" = true := by decide +kernel
theorem ba_entry : entryFor table "bytearray.__init__" = some Builtin.«bytearray.__init__» := by first | exact entryFor_of_fast (by kernel_rfl) | exact entryFor_of_tree (by kernel_rfl)
theorem ba_bind (v : Value) : Builtin.Bytes.bindOptional "bytearray.__init__" "bytearray" ["source", "encoding", "errors"] [v] [] = pure [some v, none, none] := by kernel_rfl
theorem bytes_buffer : typeLookup (.type "bytes") "__buffer__" = pure (some (.builtin "bytes.__buffer__")) := by rw [typeLookup_type, builtinLookup_eq_fast]; kernel_rfl
theorem bytes_release : typeLookup (.type "bytes") "__release_buffer__" = pure none := by rw [typeLookup_type, builtinLookup_eq_fast]; kernel_rfl
theorem bytes_no_index : typeLookup (.type "bytes") "__index__" = pure none := by rw [typeLookup_type, builtinLookup_eq_fast]; kernel_rfl
end F
section
variable {w : World} {A : Around} {E : Value → Shared → Prop} {s : Shared}
set_option maxRecDepth 100000
theorem wpC_exported {M : Model} {v : Value} {Q : Bool → Shared → Prop} (h : Q false s) : wpC M A (Builtin.Bytes.exported v) Q E s := fun Γ p hΓ k1 k2 => by
  show Sem.wp M Γ (stack >>= _) _ _ p s
  rw [Sem.wp_bind']
  unfold stack
  rw [Sem.wp_stack]
  have go : ∀ b : Bool, b = false → Q b s := fun b e => by rw [e]; exact h
  refine go _ (List.any_eq_false.mpr fun x hx => ?_)
  have k : okCode x.1 := by
    rcases List.mem_cons.mp hx with rfl | hx
    · exact k1
    · exact k2 x hx
  exact fun q => Bool.false_ne_true ((k v x.2).symm.trans q)
end
section
variable {α β : Type} {M : Model} {A : Around} {Q : α → Shared → Prop} {E : Value → Shared → Prop} {s : Shared}
theorem cn_pure {a : α} (h : Q a s) : wpC M A (.pure a) Q E s := fun _ _ _ _ _ => h
theorem cn_rule {tag : String} {k : Unit → Sem α} (h : wpC M A (k ()) Q E s) : wpC M A (.rule tag k) Q E s := h
theorem cn_point {l : List Value} {k : Unit → Sem α} (h : wpC M A (k ()) Q E s) : wpC M A (.point l k) Q E s := h
theorem cn_ask {k : Setting → Sem α} (h : wpC M A (k ⟨M.prog, M.w.params⟩) Q E s) : wpC M A (.ask k) Q E s := h
theorem cn_bind {m : Sem β} {f : β → Sem α} (h : wpC M A m (fun a s' => wpC M A (f a) Q E s') E s) : wpC M A (m.bind f) Q E s := wpC_bind h
theorem cn_look {t : Sem α} {r : α} {h : Heap} {g d tk os} (x : Looks M h t r) (q : Q r ⟨h, g, d, tk, os⟩) : wpC M A t Q E ⟨h, g, d, tk, os⟩ := .of (x.at q)
end

section
variable {w : World} {A : Around} {E : Value → Shared → Prop} {s : Shared}
set_option maxRecDepth 100000
theorem codeC_builtin {id : String} {args : Args} {b : Builtin} {R : Result → Shared → Prop} (hk : okCode (.builtin id args)) (hb : entryFor table id = some b)
    (h : wpC (model PG w) (A.under (.builtin id args)) (b args)
      (fun fin s' => match fin with | .done f => R (.ok f) s' | .again c' => c'.quiet = true ∧ codeC (model PG w) A c' R s') (fun e s' => R (.error e) s') s) :
    codeC (model PG w) A (.builtin id args) R s := by
  refine codeC_of_tree hk ?_
  show wpC _ _ (match entryFor table id with | some b => b args | none => unsupported ((withoutEnding? id "#data").getD id)) _ _ s
  rw [hb]; exact h

theorem bytes_to_array {b : Array UInt8} {t : Tok} {id : String} {Q : Option (Array UInt8) → Shared → Prop} (h : Q (some b) s) : wpAny (model PG w) A (Builtin.Bytes.buffer? id (.bytes b t) true) Q E s := by
  have hT : s.TypeIs (.bytes b t) "bytes" := PySem.W.typeIs_bytes _ _ _
  unfold Builtin.Bytes.buffer? Builtin.Bytes.slotIsOwn
  refine wpAny_bind (wpAny_specialOf hT F.bytes_buffer ?_)
  (try dsimp only)
  refine wpAny_bind (wpAny_bind (wpAny_specialOf hT F.bytes_buffer ?_))
  (try dsimp only)
  refine bm_if_false (by decide +kernel) ?_
  rw [show ("bytes.__buffer__".dropRight ("__buffer__".length + 1)) = "bytes" from by decide +kernel]
  refine wpAny_isInstance hT PySem.F.bm_sub ?_
  refine bm_if_false rfl ?_
  refine wpAny_bind (wpAny_specialOf hT F.bytes_buffer ?_)
  (try dsimp only)
  unfold Builtin.Bytes.ownRelease
  unfold Builtin.Bytes.slotIsOwn
  refine wpAny_bind (wpAny_bind (wpAny_bind (wpAny_specialOf hT F.bytes_release ?_)))
  (try dsimp only)
  refine wpAny_pure (wpAny_pure ?_)
  show wpAny _ _ (Builtin.Bytes.payload (.bytes b t) >>= _) _ _ _
  refine wpAny_bind (wpAny_of_eq (rfl : Builtin.Bytes.payload (.bytes b t) = pure b) (wpAny_pure h))

theorem ok_builtin {id : String} {args : Args} (h : Builtin.Bytes.decodersThatHold.contains id = false) (h0 : ∀ self p kw, expFn self (.builtin id ⟨[], kw⟩, p) = false) (h1 : ∀ self p v vs kw, expFn self (.builtin id ⟨v :: vs, kw⟩, p) = (Builtin.Bytes.sameRef v self && Builtin.Bytes.decodersThatHold.contains id)) : okCode (.builtin id args) := fun self p => by
  obtain ⟨pos, kw⟩ := args
  cases pos with
  | nil => exact h0 self p kw
  | cons v vs => rw [h1, h, Bool.and_false]
theorem ba_ok {args : Args} : okCode (.builtin "bytearray.__init__" args) := ok_builtin (by decide +kernel) (fun _ _ _ => by kernel_rfl) fun _ _ _ _ _ => by kernel_rfl
theorem write_ba {a : Addr} {ex : Nat} {b0 b : Array UInt8} {Q : Unit → Shared → Prop} (hz : b.size ≤ 1000) (ho : s.heap.get? a = some { cls := .type "bytearray", data := .bytearray b0 ex })
    (hQ : ∀ h', h'.get? a = some { cls := .type "bytearray", data := .bytearray b ex } → Heap.SameBut a s.heap h' → Q () { s with heap := h' }) :
    wpAny (model PG w) A (Builtin.Bytes.write (.ref a) fun _ => b) Q E s := by
  show wpAny _ _ (updateBytearray a fun _ => b) _ _ _
  unfold updateBytearray
  refine wpAny_bind (wpAny_load ho ?_)
  show wpAny _ _ (update a (Obj.mapBytearray fun _ => b) >>= fun _ => lookBehind a) _ _ _
  refine wpAny_bind (wpAny_update ho ?_)
  have h2 := Heap.get?_update_self (Obj.mapBytearray fun _ => b) ho rfl
  refine wpAny_lookBehind h2 ?_ (hQ _ h2 (Heap.SameBut.update ..))
  show (if b.size > sizeLine then some "bytearray:memory" else none) = none
  rw [if_neg]
  rw [sizeLine_eq]; omega
theorem tc_ok {args : Args} : okCode (.builtin "type.__call__" args) := ok_builtin (by decide +kernel) (fun _ _ _ => by kernel_rfl) fun _ _ _ _ _ => by kernel_rfl
set_option maxHeartbeats 4000000 in
theorem owner_ba_new : ("bytearray.__new__".splitOn ".__new__").headD "" = "bytearray" := by simp +decide [String.splitOn, String.splitOnAux]
namespace F
theorem ba_plain_new : plainId "bytearray.__new__" = true := by decide +kernel
theorem ba_entry_new : entryFor table "bytearray.__new__" = some Builtin.«list.__new__» := entryFor_alias (id := "bytearray.__new__") (id' := "list.__new__") (by kernel_rfl) (by kernel_rfl) (by kernel_rfl) (by kernel_rfl)
end F
theorem cn_if_false {α : Type} {M : Model} {c : Bool} {a b : Sem α} {Q : α → Shared → Prop} (hc : c = false) (h : wpC M A b Q E s) : wpC M A (if c = true then a else b) Q E s := by
  subst hc
  exact h
end
noncomputable section
namespace K_ba_init
def KP (w : World) (s : Shared) (a : Addr) (b : Array UInt8) (t : Tok) (R : Result → Shared → Prop) : Prop := ∀ {A : Around} (hz : b.size ≤ 1000) (ho : s.heap.get? a = some { cls := .type "bytearray", data := .bytearray #[] }) (hR : ∀ h', h'.get? a = some { cls := .type "bytearray", data := .bytearray b } → Heap.SameBut a s.heap h' → R (.ok (.ret .none)) { s with heap := h' }), codeC (model PG w) A (.builtin "bytearray.__init__" ⟨[.ref a, .bytes b t], []⟩) R s
def KT (x : (World × Shared × Addr × Array UInt8 × Tok × (Result → Shared → Prop))) : Prop := KP x.1 x.2.1 x.2.2.1 x.2.2.2.1 x.2.2.2.2.1 x.2.2.2.2.2
theorem Kex : ∃ x, KT x → ∀ y, KT y := drink ((anyW, {}, default, default, default, (fun _ _ => True))) _
@[irreducible] def Kx0 := Classical.choose Kex
@[irreducible] def w := Kx0.1
@[irreducible] def s := Kx0.2.1
@[irreducible] def a := Kx0.2.2.1
@[irreducible] def b := Kx0.2.2.2.1
@[irreducible] def t := Kx0.2.2.2.2.1
@[irreducible] def R := Kx0.2.2.2.2.2
set_option maxRecDepth 100000
set_option maxHeartbeats 4000000
theorem at0 : KP w s a b t R := by
  intro A hz ho hR
  refine codeC_builtin ba_ok F.ba_entry ?_
  have hT : s.TypeIs (.ref a) "bytearray" := ⟨_, ho, rfl⟩
  unfold Builtin.«bytearray.__init__»
  refine wpC_bind (wpC.of (own_release hT ?_))
  (try dsimp only)
  first | (with_reducible refine cn_if_false rfl ?_) | (refine cn_if_false (by decide) ?_)
  refine wpC_bind (wpC.of (wpAny_of_eq (F.ba_bind _) ?_))
  (try dsimp only)
  refine wpC_bind (wpC.of (wpAny_of_eq (a := ()) rfl ?_))
  refine wpC_bind (wpC.of (wpAny_of_eq (a := ()) rfl ?_))
  unfold orM
  refine wpC_bind (wpC_bind (wpC_exported ?_))
  show wpC _ _ (do let n ← Builtin.Bytes.exportsOf (.ref a); pure (decide (n > 0))) _ _ _
  refine wpC.of (wpAny_bind ?_)
  show wpAny _ _ (load a >>= _) _ _ _
  refine wpAny_bind (wpAny_load ho (wpAny_pure (wpAny_pure ?_)))
  (try dsimp only)
  first | (with_reducible refine cn_if_false rfl ?_) | (refine cn_if_false (by decide) ?_)
  refine wpC_bind (wpC.of (write_ba (Nat.zero_le _) ho fun h₁ h1 hs1 => ?_))
  refine wpC.of ?_
  have hB : ({ s with heap := h₁ } : Shared).TypeIs (.bytes b t) "bytes" := PySem.W.typeIs_bytes _ _ _
  refine wpAny_bind (wpAny_of_eq (rfl : asStr? (.bytes b t) = pure none) ?_)
  refine wpAny_bind (wpAny_of_eq (a := ()) rfl ?_)
  refine wpAny_bind (wpAny_specialOf hB F.bytes_no_index ?_)
  refine wpAny_bind (bytes_to_array ?_)
  refine wpAny_bind (wpAny_rule (wpAny_bind (write_ba hz h1 fun h₂ h2 hs2 => ?_)))
  exact wpAny_pure (hR _ h2 ⟨hs2.1.trans hs1.1, fun x hx => (hs2.2 x hx).trans (hs1.2 x hx)⟩)
end K_ba_init
end
theorem ba_init {w : World} {s : Shared} {a : Addr} {b : Array UInt8} {t : Tok} {R : Result → Shared → Prop} : K_ba_init.KP w s a b t R :=
  @Classical.choose_spec _ _ K_ba_init.Kex (by with_unfolding_all exact @K_ba_init.at0) ((w, s, a, b, t, R))
section
variable {w : World} {A : Around} {E : Value → Shared → Prop} {s : Shared}
theorem ba_args (a : Value) (b : Array UInt8) (t : Tok) : argsOk "bytearray.__init__" ⟨[a, .bytes b t], []⟩ := by unfold argsOk; kernel_rfl
theorem ba_made {a : Value} {R : Result → Shared → Prop} (h : R (.ok (.ret (.ref s.heap.objs.size))) { s with heap := s.heap.push { cls := .type "bytearray", data := .bytearray #[] } }) :
    codeAny (model PG w) A (.call (.builtin "bytearray.__new__") ⟨[.type "bytearray", a], []⟩) R s := by
  refine codeAny_of_tree ?_
  show wpAny _ A.in1 (do checkBuiltinCall "bytearray.__new__" ⟨[.type "bytearray", a], []⟩; again (.builtin "bytearray.__new__" ⟨[.type "bytearray", a], []⟩)) _ _ s
  refine wpAny_bind (wpAny_of_eq (F.ba_newCall a) (wpAny_pure ⟨plainId_quiet F.ba_plain_new _, codeAny_builtin_stack F.ba_entry_new rfl fun p st => ?_⟩))
  rw [Around.under_plainId F.ba_plain_new _]
  have hsub := ba_sub
  have hown := owner_ba_new
  obtain ⟨hp, g, d, tk, os⟩ := s
  dsimp only
  rw [hown]
  wp_walk
  exact h

theorem call_ba {b : Array UInt8} {t : Tok} {Q : Value → Shared → Prop} (hz : b.size ≤ 1000)
    (hQ : ∀ a h', s.heap.get? a = none → a = s.heap.objs.size → h'.get? a = some { cls := .type "bytearray", data := .bytearray b } → (∀ x o, s.heap.get? x = some o → h'.get? x = some o) → Q (.ref a) { s with heap := h' }) :
    wpC (model PG w) A (call (.type "bytearray") [.bytes b t]) Q E s := by
  have ft := F.ba_called
  obtain ⟨c, tl, hmro⟩ := ft.mro
  have hmade := ft.made
  have hsub := ft.sub
  refine wpC_call (codeC_of_tree (fun _ _ => rfl) ?_)
  show wpC _ _ (callAny (.type "bytearray") _) _ _ _
  refine wpC_pure ⟨Code.quiet_builtin _ (by decide +kernel), codeC_builtin tc_ok PySem.F.entry_type_call ?_⟩
  unfold Builtin.«type.__call__»
  have h1 := ft.notType
  have h2 := ft.canCreate
  have h3 := F.ba_typeCall (.bytes b t)
  repeat (first | (with_reducible refine wpC.of (wpAny_of_eq (by assumption) ?_)) | (with_reducible refine cn_if_false (by assumption) ?_) | (with_reducible refine cn_if_false rfl ?_) | (with_reducible refine wpC_pure ?_) | (with_reducible refine wpC_bind ?_) | (with_reducible refine wpC_holding ?_) | (with_reducible refine wpC_rule ?_) | (refine cn_if_false (by decide) ?_) | dsimp only)
  refine wpC_call (codeC.of (ba_made ?_))
  have ho : (s.heap.push { cls := .type "bytearray", data := .bytearray #[] }).get? s.heap.objs.size = some { cls := .type "bytearray", data := .bytearray #[] } := Heap.get?_push_size _ rfl
  have hT : ({ s with heap := s.heap.push { cls := .type "bytearray", data := .bytearray #[] } } : Shared).TypeIs (.ref s.heap.objs.size) "bytearray" := ⟨_, ho, rfl⟩
  show wpC _ _ _ _ _ _
  refine wpC_bind (wpC.of (wpAny_isInstance hT ba_sub ?_))
  first | (with_reducible refine cn_if_false rfl ?_) | (refine cn_if_false (by decide) ?_)
  refine wpC_bind ?_
  refine wpC_holding ?_
  unfold callSpecial?
  refine wpC_bind (wpC.of (wpAny_specialOf hT ft.init.lookup ?_))
  (try dsimp only)
  refine wpC_holding ?_
  refine wpC_bind (wpC.of (wpAny_of_eq (ft.init.bind _) ?_))
  (try dsimp only)
  refine wpC_bind (wpC_call (codeC_of_tree (fun _ _ => rfl) ?_))
  show wpC _ _ (checkBuiltinCall "bytearray.__init__" ⟨[.ref s.heap.objs.size, .bytes b t], []⟩ >>= fun _ => again (.builtin "bytearray.__init__" ⟨[.ref s.heap.objs.size, .bytes b t], []⟩)) _ _ _
  refine wpC_bind (wpC.of (ft.init.check _ _ _ _ _ _ _ _ hT (ba_args _ _ _) ?_))
  refine wpC_pure ⟨plainId_quiet ft.init.plain _, ba_init hz ho fun h' hn hs => ?_⟩
  show wpC _ _ _ _ _ _
  refine wpC_pure ?_
  (try dsimp only)
  refine cn_if_false (by decide) ?_
  refine wpC_pure ?_
  refine hQ _ h' (Heap.get?_none_of_le (Nat.le_refl _)) rfl hn fun x o e => ?_
  exact (hs.2 x (Nat.ne_of_lt (Heap.lt_size e))).trans (Heap.get?_push_of_some _ e)
end
section
variable {M : Model} {A : Around} {E : Value → Shared → Prop} {s : Shared} {env : Env}
theorem wpC_after {α β : Type} {m : Sem α} {f : α → Sem β} {Q : β → Shared → Prop} (h : wpAny M A m (fun a s' => wpC M A (f a) Q E s') E s) : wpC M A (m >>= f) Q E s := wpC_bind (.of h)
theorem wpC_execs_cons {st rest} {Q : Flow → Shared → Prop} (h : wpC M A (exec st env) (fun f s' => match f with | .next => wpC M A (execs rest env) Q E s' | f => Q f s') E s) : wpC M A (execs (st :: rest) env) Q E s := fun Γ p hΓ k1 k2 => by
  rw [execs_cons, Sem.wp_bind']
  refine Sem.wp_mono M Γ _ (fun f p' s' h' => ?_) (fun _ _ _ h' => h') _ _ (h Γ p hΓ k1 k2)
  cases f <;> first | exact h' Γ p' hΓ k1 k2 | exact h'
theorem wpC_execs_nil {Q : Flow → Shared → Prop} (h : Q .next s) : wpC M A (execs [] env) Q E s := .of (wpAny_execs_nil h)
theorem wpC_Return {e pos} {Q : Flow → Shared → Prop} (h : wpC M A (eval e env) (fun v s' => Q (.ret v) s') E s) : wpC M A (exec (.Return (some e) pos) env) Q E s := by
  rw [exec_Return_some]
  exact wpC_bind (wpC_standAt (wpC_bind (wpC_mono h (fun v s' x => wpC_pure x) fun _ _ x => x)))
theorem wpC_If {test body orelse pos} {Q : Flow → Shared → Prop} (h : wpC M A (isTrue test env (eval test env)) (fun b s' => if b = true then wpC M A (execs body env) Q E s' else wpC M A (execs orelse env) Q E s') E s) :
    wpC M A (exec (.If test body orelse pos) env) Q E s := by
  rw [exec_If]
  refine wpC_bind (wpC_standAt (wpC_bind (wpC_mono h (fun b s' x => ?_) fun _ _ x => x)))
  cases b
  · exact x
  · exact x
theorem wpC_Assign_Name {x pos' value pos} {Q : Flow → Shared → Prop} (h : wpC M A (eval value env) (fun v s₁ => wpAny M A (storeName env x v) (fun _ => Q .next) E s₁) E s)
    (hs : swapsWith value (some (.Name x pos')) pos.line env = pure false := by rfl) : wpC M A (exec (.Assign [.Name x pos'] value pos) env) Q E s := by
  rw [exec_Assign_Name env x pos' value pos hs]
  refine wpC_bind (wpC_standAt (wpC_bind (wpC_mono h (fun v s' x => ?_) fun _ _ x => x)))
  refine wpC_bind (wpC_standAt (wpC_after (wpAny_bindName (wpAny_mono x (fun _ _ y => wpC_pure y) fun _ _ y => y))))
theorem wpC_Assign_Attribute {o attr pos' value pos} {Q : Flow → Shared → Prop}
    (h : wpC M A (eval value env) (fun v s₁ => wpAny M A (eval o env) (fun ov s₂ => wpAny M A (setAttr ov attr v) (fun _ => Q .next) E s₂) E s₁) E s)
    (hs : swapsWith value (some (.Attribute o attr pos')) pos.line env = pure false := by rfl) : wpC M A (exec (.Assign [.Attribute o attr pos'] value pos) env) Q E s := fun Γ p hΓ k1 k2 => by
  simp only [plainObj_exec_Assign_Attribute o attr pos' value pos hs, PySem.assign_Attribute, Sem.wp_bind', Sem.wp_holding, Sem.wp_cmd_standAt, Sem.wp_release, Sem.wp_pure']
  exact Sem.wp_mono M Γ _ (fun v p₁ s₁ h₁ => Sem.wp_mono M Γ _ (fun ov _ s₂ h₂ => h₂ Γ _ hΓ) (fun _ _ _ h' => h') _ _ (h₁ Γ p₁ hΓ)) (fun _ _ _ h' => h') _ _ (h Γ _ hΓ k1 k2)
theorem wpC_Assign_Tuple {elts k tpos value pos} {Q : Flow → Shared → Prop}
    (h : wpC M A (eval value env) (fun v s₁ => wpAny M A (assign (.Tuple elts k tpos) env v) (fun _ => Q .next) E s₁) E s)
    (hs : swapsWithSole [.Tuple elts k tpos] value pos.line env = pure false := by rfl)
    (hw : swappedStores [.Tuple elts k tpos] value env = pure none := by rfl) : wpC M A (exec (.Assign [.Tuple elts k tpos] value pos) env) Q E s := by
  rw [PyProof.Rows.exec_Assign]
  refine wpC_bind (wpC_standAt ?_)
  rw [hs]
  refine wpC_bind (wpC_pure ?_)
  rw [if_neg (by decide)]
  refine wpC_bind (wpC_mono h (fun v s₁ h₁ => ?_) fun _ _ x => x)
  rw [hw]
  refine wpC_bind (wpC_pure ?_)
  show wpC M A (do assignAll v [assign (.Tuple elts k tpos) env]; pure .next) Q E s₁
  exact wpC_after (wpAny_mono h₁ (fun _ _ x => wpC_pure x) fun _ _ x => x)
theorem wpC_Tuple2 {e1 e2 : Expr} {k pos} {Q : Value → Shared → Prop} (he : starEach [e1, e2] env = [(false, eval e1 env), (false, eval e2 env)] := by rfl)
    (h : wpAny M A (eval e1 env) (fun v1 s₁ => wpC M A (eval e2 env) (fun v2 s₂ => wpAny M A (newTuple [v1, v2]) Q E s₂) E s₁) E s) : wpC M A (eval (.Tuple [e1, e2] k pos) env) Q E s := by
  rw [arm_eval_Tuple, he]
  show wpC M A (do standAt pos; newTuple (← spliced [(false, eval e1 env), (false, eval e2 env)])) Q E s
  refine wpC_bind (wpC_standAt (wpC_bind ?_))
  unfold spliced spliced spliced
  refine wpC_after (wpAny_mono h (fun v1 s₁ x => ?_) fun _ _ x => x)
  refine wpC_bind (wpC_pure (wpC_bind (wpC_holding ?_)))
  refine wpC_bind (wpC_mono x (fun v2 s₂ y => ?_) fun _ _ y => y)
  refine wpC_bind (wpC_pure (wpC_bind (wpC_holding ?_)))
  exact wpC_pure (wpC_pure (wpC_pure (.of y)))
theorem wpC_callWith {P : Heap → Prop} {pos : Pos} {f : Value} {first : List Value} {Q : Value → Shared → Prop} {args : List (Bool × Sem Value)} {keywords : List (Option Str × Sem Value)} (hplain : (args.any (·.1) || keywords.any (·.1.isNone)) = false)
    (hk : ∀ h, P h → ∃ k, (k = Keeper.frame ∨ k = Keeper.machine ∨ k = Keeper.boundFrame) ∧ Looks M h (keeperOf f) k)
    (h : wpAny M A (evalArgs f true args keywords) (fun a s₁ => P s₁.heap ∧ wpC M A (call f (first ++ a.pos) a.kw) Q E s₁) E s) : wpC M A (callWith pos f first args keywords) Q E s := by
  unfold callWith
  refine wpC_bind (wpC_holding (.of (wpAny_mono h (fun a s₁ h₁ => wpC_bind (wpC_standAt ?_)) fun _ _ x => x)))
  obtain ⟨k, hk', L⟩ := hk _ h₁.1
  rw [hplain]
  refine wpC_after (L.here ?_)
  have tail : ∀ {t : Sem Value}, wpC M A t Q E s₁ → wpC M A (t >>= fun r => holding [r] point >>= fun _ => pure r) Q E s₁ :=
    fun ht => wpC_bind (wpC_mono ht (fun r s₂ hr => wpC_bind (wpC_holding (wpC_point (wpC_pure hr)))) fun _ _ x => x)
  have marked (mk : Value) : wpC M A (callMarked mk f (first ++ a.pos) a.kw) Q E s₁ := by
    unfold callMarked
    exact fun Γ p hΓ k1 k2 => by rw [Sem.wp_keep]; exact h₁.2 Γ p hΓ k1 k2
  rcases hk' with rfl | rfl | rfl <;> dsimp only <;> first | exact tail h₁.2 | (split <;> first | exact tail h₁.2 | exact tail (marked _))
theorem wpC_callK {K : Frag} {pos : Pos} {f : Value} {first : List Value} {Q : Value → Shared → Prop} {e : Expr} {rest : List Expr} (hk : keepIn K f = true)
    (h : wpAny M A (spliced (backTo pos (starEach (e :: rest) env))) (fun vs s₁ => K.In s₁.heap ∧ wpC M A (call f (first ++ vs) []) Q E s₁) E s)
    (hplain : ((backTo pos (starEach (e :: rest) env)).any (·.1) || ((backToKw pos (keywordEach [] env)) : List (Option Str × Sem Value)).any (·.1.isNone)) = false := by rfl) (he : starEach (e :: rest) env = (false, eval e env) :: starEach rest env := by rfl) :
    wpC M A (callWith pos f first (backTo pos (starEach (e :: rest) env)) (backToKw pos (keywordEach [] env))) Q E s :=
  wpC_callWith hplain (keeps_K hk) (evalArgs_kw2 (kws := []) rfl (wpAny_mono h (fun vs s₁ x => kwAll_nil x) fun _ _ x => x) he)
theorem wpC_callT {T : String} {pos : Pos} {first : List Value} {Q : Value → Shared → Prop} {e : Expr} {rest : List Expr}
    (h : wpAny M A (spliced (backTo pos (starEach (e :: rest) env))) (fun vs s₁ => wpC M A (call (.type T) (first ++ vs) []) Q E s₁) E s)
    (hplain : ((backTo pos (starEach (e :: rest) env)).any (·.1) || ((backToKw pos (keywordEach [] env)) : List (Option Str × Sem Value)).any (·.1.isNone)) = false := by rfl) (he : starEach (e :: rest) env = (false, eval e env) :: starEach rest env := by rfl) :
    wpC M A (callWith pos (.type T) first (backTo pos (starEach (e :: rest) env)) (backToKw pos (keywordEach [] env))) Q E s :=
  wpC_callWith (P := fun _ => True) hplain (fun h _ => ⟨.machine, .inr (.inl rfl), Looks.of_pure rfl⟩) (evalArgs_kw2 (kws := []) rfl (wpAny_mono h (fun vs s₁ x => kwAll_nil ⟨trivial, x⟩) fun _ _ x => x) he)
theorem wpC_callK0 {K : Frag} {pos : Pos} {f : Value} {first : List Value} {Q : Value → Shared → Prop} (hk : keepIn K f = true) (h : K.In s.heap ∧ wpC M A (call f first []) Q E s) :
    wpC M A (callWith pos f first (backTo pos (starEach [] env)) (backToKw pos (keywordEach [] env))) Q E s :=
  wpC_callWith (args := []) (keywords := []) rfl (keeps_K hk) (evalArgs_kw2_nil (env := env) (pos := pos) (kws := []) rfl (kwAll_nil (env := env) (pos := pos) (by rw [List.append_nil]; exact h)))
theorem wpC_CallName {id : Str} {p pos : Pos} {args : List Expr} {keywords : List Keyword} {Q : Value → Shared → Prop}
    (h : wpAny M A (eval (.Name id p) env) (fun f s₁ => wpC M A (callWith pos f [] (backTo pos (starEach args env)) (backToKw pos (keywordEach keywords env))) Q E s₁) E s) : wpC M A (eval (.Call (.Name id p) args keywords pos) env) Q E s := by
  rw [arm_eval_Call_Name']
  exact wpC_after h
theorem wpC_CallMethod {name : Str} {o : Expr} {apos pos : Pos} {args : List Expr} {kws : List Keyword} {pl : Sem Bool} {Q : Value → Shared → Prop}
    (h : wpAny M A (eval o env) (fun ov s₁ => wpAny M A (getMethod ov name pl) (fun fx s₂ => wpC M A (callWith pos fx.1 fx.2 (backTo pos (starEach args env)) (backToKw pos (keywordEach kws env))) Q E s₂) E s₁) E s)
    (he : eval (.Call (.Attribute o name apos) args kws pos) env = (do
      let ov ← eval o env
      standAt apos.atName
      let (f, first) ← holding [ov] (getMethod ov name pl)
      callWith pos f first (backTo pos (starEach args env)) (backToKw pos (keywordEach kws env))) := by rfl) :
    wpC M A (eval (.Call (.Attribute o name apos) args kws pos) env) Q E s := by
  rw [he]
  refine wpC_after (wpAny_mono h (fun ov s₁ h₁ => wpC_bind (wpC_standAt (wpC_bind (wpC_holding (.of (wpAny_mono h₁ (fun fx s₂ h₂ => ?_) fun _ _ x => x)))))) fun _ _ x => x)
  exact h₂
end
section
variable {prog : Program} {w : World} {A : Around} {s : Shared} {R : Result → Shared → Prop}
theorem codeC_func {body env}
    (h : wpC (model prog w) (A.deeper env) (execs body env) (fun f s' => R (.ok (.ret (match f with | .ret v => v | _ => .none))) s')
      (fun e s' => wpAny (model prog w) (A.deeper env) (leaving env e) (fun _ s'' => R (.error e) s'') (fun e' s'' => R (.error e') s'') s') s) :
    codeC (model prog w) A (.func body env) R s := by
  refine codeC_of_tree (fun _ _ => rfl) ?_
  show wpC _ (A.deeper env) (do point; match ← (execs body env).onRaise (leaving env) with | .ret v => ret v | _ => ret .none) _ _ s
  refine wpC_bind (wpC_point (wpC_bind (wpC_onRaise (wpC_mono h (fun f s' h' => ?_) fun _ _ h' => .of h'))))
  cases f <;> exact wpC_pure h'
theorem codeC_expr {e env} (h : wpC (model prog w) (A.deeper env) (eval e env) (fun v s' => R (.ok (.ret v)) s')
      (fun e s' => wpAny (model prog w) (A.deeper env) (leaving env e) (fun _ s'' => R (.error e) s'') (fun e' s'' => R (.error e') s'') s') s) :
    codeC (model prog w) A (.expr e env) R s := by
  refine codeC_of_tree (fun _ _ => rfl) ?_
  show wpC _ (A.deeper env) (do point; ret (← (eval e env).onRaise (leaving env))) _ _ s
  exact wpC_bind (wpC_point (wpC_bind (wpC_onRaise (wpC_mono h (fun v s' h' => wpC_pure h') fun _ _ h' => .of h'))))
theorem codeC_call_function {a : Addr} {args : Args} {o : Obj} {fd : FuncData} {body : List Stmt} (hroom : A.depth < recursionLimit)
    (ho : s.heap.get? a = some o)
    (hd' : o.data = .func fd) (hco : fd.scope.isCoroutine = false) (hgen : fd.scope.isGenerator = false) (hbody : fd.body = .stmts body) (hcd : s.heap.CodeRec fd.code fd.qualname)
    (h : wpAny (model prog w) A.in1 (bindArgs fd args) (fun binds s₁ =>
      wpAny (model prog w) A.in1 (newFunctionEnv fd.scope fd.globals fd.closure binds (fd.qualname ++ ".<locals>.") (some a) fd.code none fd.builtins)
        (fun env s₂ => s₂.heap.NoLimit ∧ codeC (model prog w) A (.func body env) R s₂) (fun e s' => R (.error e) s') s₁) (fun e s' => R (.error e) s') s) :
    codeC (model prog w) A (.call (.ref a) args) R s := by
  refine codeC_of_tree (fun _ _ => rfl) ?_
  show wpC _ A.in1 (callAny (.ref a) args) _ _ s
  dsimp only [callAny]
  refine wpC_after (wpAny_load ho ?_)
  obtain ⟨c, oc, vs, tq, hc, hoc, hdc, hq⟩ := hcd
  obtain ⟨ow, od, ot, osl⟩ := o
  dsimp only at hd'
  subst hd'
  dsimp only [callFunction]
  rw [hco, hgen, hbody, hc]
  rw [hc] at h
  dsimp only
  refine wpC_after (m := field (.ref c) 1) (wpAny_field hoc hdc hq (wpC_bind (wpC_pure ?_)))
  refine .of ?_
  exact wpAny_bind (wpAny_mono h (fun binds s₁ h₁ => wpAny_bind (wpAny_mono h₁ (fun env s₂ h₂ => wpAny_bind (wpAny_enterFrame h₂.1 hroom
    (wpAny_pure (And.intro rfl h₂.2)))) fun _ _ h' => h')) fun _ _ h' => h')
theorem codeC_call_expr {a : Addr} {args : Args} {o : Obj} {fd : FuncData} {body : Expr} (hroom : A.depth < recursionLimit)
    (ho : s.heap.get? a = some o)
    (hd' : o.data = .func fd) (hco : fd.scope.isCoroutine = false) (hgen : fd.scope.isGenerator = false) (hbody : fd.body = .expr body) (hcd : s.heap.CodeRec fd.code fd.qualname)
    (h : wpAny (model prog w) A.in1 (bindArgs fd args) (fun binds s₁ =>
      wpAny (model prog w) A.in1 (newFunctionEnv fd.scope fd.globals fd.closure binds (fd.qualname ++ ".<locals>.") (some a) fd.code none fd.builtins)
        (fun env s₂ => s₂.heap.NoLimit ∧ codeC (model prog w) A (.expr body env) R s₂) (fun e s' => R (.error e) s') s₁) (fun e s' => R (.error e) s') s) :
    codeC (model prog w) A (.call (.ref a) args) R s := by
  refine codeC_of_tree (fun _ _ => rfl) ?_
  show wpC _ A.in1 (callAny (.ref a) args) _ _ s
  dsimp only [callAny]
  refine wpC_after (wpAny_load ho ?_)
  obtain ⟨c, oc, vs, tq, hc, hoc, hdc, hq⟩ := hcd
  obtain ⟨ow, od, ot, osl⟩ := o
  dsimp only at hd'
  subst hd'
  dsimp only [callFunction]
  rw [hco, hgen, hbody, hc]
  rw [hc] at h
  dsimp only
  refine wpC_after (m := field (.ref c) 1) (wpAny_field hoc hdc hq (wpC_bind (wpC_pure ?_)))
  refine .of ?_
  exact wpAny_bind (wpAny_mono h (fun binds s₁ h₁ => wpAny_bind (wpAny_mono h₁ (fun env s₂ h₂ => wpAny_bind (wpAny_enterFrame h₂.1 hroom
    (wpAny_pure (And.intro rfl h₂.2)))) fun _ _ h' => h')) fun _ _ h' => h')
end
section
variable {α : Type} {M : Model} {A : Around} {Q : α → Shared → Prop} {E : Value → Shared → Prop} {s : Shared}
theorem cn_load {a : Addr} {p : Option Value} {k : Obj → Sem α} {o : Obj} (ho : s.heap.get? a = some o) (h : wpC M A (k o) Q E s) : wpC M A (.load a p k) Q E s := fun Γ q hΓ k1 k2 => ⟨o, ho, h Γ q hΓ k1 k2⟩
end
noncomputable section
namespace K_makeC
def KP (w : World) (K : Frag) (C : Addr) (R : Result → Shared → Prop) (h : Heap) (g : Array GenState) (d : Drawn) (t : Nat) (os : OsState) (rest : List Value) (kw : List (Str × Value)) (fI : Addr) : Prop := ∀ {A : Around} (X : K.In h) (hm : makesIn K C = true) (hi : findIn K (.ref C) "__init__" = some (some (.ref fI))) (hf : typeIn K (.ref fI) = some (.type "function")) (hq : codeC (model PG w) (A.under (.builtin "type.__call__" ⟨.ref C :: rest, kw⟩)) (.call (.ref fI) ⟨.ref (h.objs.size + 1) :: rest, kw⟩) (InitBack (h.objs.size + 1) R) ⟨(h.push emptyDict).push (instObj C h.objs.size), g, d, t, os⟩), codeC (model PG w) A (.call (.ref C) ⟨rest, kw⟩) R ⟨h, g, d, t, os⟩
def KT (x : (World × Frag × Addr × (Result → Shared → Prop) × Heap × Array GenState) × (Drawn × Nat × OsState × List Value × (List (Str × Value)) × Addr)) : Prop := KP x.1.1 x.1.2.1 x.1.2.2.1 x.1.2.2.2.1 x.1.2.2.2.2.1 x.1.2.2.2.2.2 x.2.1 x.2.2.1 x.2.2.2.1 x.2.2.2.2.1 x.2.2.2.2.2.1 x.2.2.2.2.2.2
theorem Kex : ∃ x, KT x → ∀ y, KT y := drink ((anyW, default, default, (fun _ _ => True), default, default), (({} : Shared).drawn, default, ({} : Shared).os, default, default, default)) _
@[irreducible] def Kx0 := Classical.choose Kex
@[irreducible] def w := Kx0.1.1
@[irreducible] def K := Kx0.1.2.1
@[irreducible] def C := Kx0.1.2.2.1
@[irreducible] def R := Kx0.1.2.2.2.1
@[irreducible] def h := Kx0.1.2.2.2.2.1
@[irreducible] def g := Kx0.1.2.2.2.2.2
@[irreducible] def d := Kx0.2.1
@[irreducible] def t := Kx0.2.2.1
@[irreducible] def os := Kx0.2.2.2.1
@[irreducible] def rest := Kx0.2.2.2.2.1
@[irreducible] def kw := Kx0.2.2.2.2.2.1
@[irreducible] def fI := Kx0.2.2.2.2.2.2
set_option maxRecDepth 100000
set_option maxHeartbeats 4000000
theorem at0 : KP w K C R h g d t os rest kw fI := by
  intro A X hm hi hf hq
  have Y := makes_of (M := model PG w) X hm
  have hi' := looks_findIn (M := model PG w) X hi
  have hb := fun self => bind_fn (M := model PG w) X self hf
  have Y' := Y
  obtain ⟨⟨oc, od, cd, sl, hC, e1, e2, e4⟩, made, base, self, top, call, typ⟩ := Y
  refine codeC_of_tree (fun _ _ => rfl) ?_
  show wpC _ _ (callAny (.ref C) _) _ _ _
  refine cn_load hC ?_
  show wpC _ _ (callAny.viaDunder (.ref C) _) _ _ _
  unfold callAny.viaDunder
  refine wpC_after (call.at ?_)
  dsimp only
  rw [tc_bind]
  refine wpC_bind (wpC_pure (wpC_bind (wpC_pure ?_)))
  refine wpC_pure (a := Fin.again (.call (.builtin "type.__call__") ⟨.ref C :: rest, kw⟩)) (And.intro rfl ?_)
  refine codeC_of_tree (fun _ _ => rfl) ?_
  show wpC _ _ (checkBuiltinCall "type.__call__" ⟨.ref C :: rest, kw⟩ >>= fun _ => again (.builtin "type.__call__" ⟨.ref C :: rest, kw⟩)) _ _ _
  refine wpC_after (check_slot tc_kind tc_split typ (tc_args _ _ _) ?_)
  refine wpC_pure (And.intro (Code.quiet_builtin _ (by decide +kernel)) (codeC_builtin tc_ok entry_typeCall ?_))
  unfold Builtin.«type.__call__»
  have hm' : Looks (model PG w) h (mroOf (.ref C)) cd.mro := ((Looks.ld (part := none) hC).andThen .now).andThen .now
  have h9 : (Value.ref C == Value.type "type") = false := by simp
  repeat (first | (with_reducible refine cn_look (by assumption) ?_) | (with_reducible refine cn_if_false (by assumption) ?_) | (with_reducible refine cn_if_false rfl ?_) | (with_reducible refine wpC_pure ?_) | (with_reducible refine wpC_bind ?_) | (with_reducible refine wpC_holding ?_) | (with_reducible refine wpC_rule ?_) | (refine cn_if_false (by decide) ?_) | dsimp only)
  refine wpC_call (codeC.of (new_K Y' hi' (.inl rfl) ?_))
  have k : ∀ b o, h.get? b = some o → ((h.push emptyDict).push (instObj C h.objs.size)).get? b = some o := fun b o e => Heap.get?_push_of_some _ (Heap.get?_push_of_some _ e)
  have hx : ((h.push emptyDict).push (instObj C h.objs.size)).get? (h.objs.size + 1) = some (instObj C h.objs.size) := by heap_get
  have t1 : Looks (model PG w) ((h.push emptyDict).push (instObj C h.objs.size)) (typeOf (.ref (h.objs.size + 1))) (.ref C) := (Looks.ld hx).andThen .now
  have s1 := self.keeps k
  have i1 := hi'.keeps k
  have b1 := (hb (.ref (h.objs.size + 1))).keeps k
  unfold isInstance callSpecial? specialOf
  show wpC _ _ _ _ _ _
  repeat (first | (with_reducible refine cn_look (by assumption) ?_) | (with_reducible refine cn_if_false rfl ?_) | (with_reducible refine wpC_pure ?_) | (with_reducible refine wpC_bind ?_) | (with_reducible refine wpC_holding ?_) | (with_reducible refine wpC_rule ?_) | (refine cn_if_false (by decide) ?_) | dsimp only)
  refine wpC_call (codeC_mono hq fun r s' z => ?_)
  rcases r with e | (v | _ | _ | _) <;> first | exact z | exact z.elim | skip
  obtain ⟨rfl, z⟩ := z
  exact wpC_pure (wpC_pure z)
end K_makeC
end
theorem makeC {w : World} {K : Frag} {C : Addr} {R : Result → Shared → Prop} {h : Heap} {g : Array GenState} {d : Drawn} {t : Nat} {os : OsState} {rest : List Value} {kw : List (Str × Value)} {fI : Addr} : K_makeC.KP w K C R h g d t os rest kw fI :=
  @Classical.choose_spec _ _ K_makeC.Kex (by with_unfolding_all exact @K_makeC.at0) ((w, K, C, R, h, g), (d, t, os, rest, kw, fI))
section
end
section
variable {prog : Program} {w : World} {A : Around} {s : Shared} {b : Heap} {fl : List Env} {led : List (Addr × Obj)} {loose : List Str} {mean : ExcName → Option Value} {mg mb : Str → Option Value}
  {R : Result → Shared → Prop} {name qual : Str} {params : Arguments} {body : List Stmt} {scope : Scope} {dV kV doc pm cdv ct oc : Value} {an od : Option Addr} {osl : Array (Option Value)} {f : Addr} {args : Args} {binds : List (Str × Value)}
theorem enterX' {g : Heap} {L' : Addr} (hg : g = hideAll s.heap (led.map (·.1))) (hL : L' = s.heap.objs.size) (k : b.StaysIn s.heap) (G : Gd w loose mean mg mb b) (D : Led b s.heap led)
    (ho : (hd.heap_1 w.params).lookup f = some ⟨oc, od, .func (fnOf name qual params body scope dV kV doc pm an cdv ct), osl⟩) (hcd : codeIn (hd.heap_1 w.params) cdv qual = true) (hroom : A.depth < recursionLimit)
    (hbind : BindsTo s (fnOf name qual params body scope dV kV doc pm an cdv ct) args binds) (hloc : ∀ y ∈ binds, scope.names.lookup y.1 = some .local)
    (h : ∀ h₁, Got b s.heap g led L' → Fr g L' h₁ (lo binds.reverse) → News g L' h₁ led →
      wpC (model prog w) (A.deeper (envOf qual scope L' f cdv)) (execs body (envOf qual scope L' f cdv))
        (fun fl s' => EndF R fl s')
        (fun e s' => wpAny (model prog w) (A.deeper (envOf qual scope L' f cdv)) (leaving (envOf qual scope L' f cdv) e) (fun _ s'' => R (.error e) s'') (fun e' s'' => R (.error e') s'') s')
        { s with heap := h₁, toks := s.toks + binds.length })
    (hco : scope.isCoroutine = false) (hgen : scope.isGenerator = false) (hk : scope.kind = .function)
    (hcell : ∀ x ∈ scope.names, x.2 ≠ .cell) : codeC (model prog w) A (.call (.ref f) args) R s := by
  subst hg hL
  have Xs := G.X.keeps k
  have hlim := G.T.nolimit.keeps k
  refine codeC_call_function (fd := fnOf name qual params body scope dV kV doc pm an cdv ct) (body := body) hroom (Xs _ _ ho) rfl hco hgen rfl (codeRec_of Xs hcd) (hbind _ _ _ _ ?_)
  refine wpAny_newFunctionEnv hcell hloc (fun h₁ hns₁ hsb₁ => ⟨hlim.fresh _ hsb₁, codeC_func ?_⟩) hk
  have hk₁ : ∀ b o, s.heap.get? b = some o → h₁.get? b = some o := fun b o e => hsb₁.extBut b o (Nat.ne_of_lt (Heap.lt_size e)) (Heap.get?_push_of_some _ e)
  exact h h₁ (got_hide k D) ⟨hns₁, fun b o e => hk₁ b o (of_hideAll _ e), Nat.le_of_eq (hideAll_size _ _)⟩
    (fun p hp => ⟨hk₁ _ _ (D p hp).1, Nat.ne_of_lt (Heap.lt_size (D p hp).1), hideAll_none _ (List.mem_map_of_mem hp)⟩)

theorem enterX (k : b.StaysIn s.heap) (G : Gd w loose mean mg mb b) (D : Led b s.heap led)
    (ho : (hd.heap_1 w.params).lookup f = some ⟨oc, od, .func (fnOf name qual params body scope dV kV doc pm an cdv ct), osl⟩) (hcd : codeIn (hd.heap_1 w.params) cdv qual = true) (hroom : A.depth < recursionLimit)
    (hbind : BindsTo s (fnOf name qual params body scope dV kV doc pm an cdv ct) args binds) (hloc : ∀ y ∈ binds, scope.names.lookup y.1 = some .local)
    (h : ∀ g L' h₁, Got b s.heap g led L' → Fr g L' h₁ (lo binds.reverse) → News g L' h₁ led →
      wpC (model prog w) (A.deeper (envOf qual scope L' f cdv)) (execs body (envOf qual scope L' f cdv))
        (fun fl s' => EndF R fl s')
        (fun e s' => wpAny (model prog w) (A.deeper (envOf qual scope L' f cdv)) (leaving (envOf qual scope L' f cdv) e) (fun _ s'' => R (.error e) s'') (fun e' s'' => R (.error e') s'') s')
        { s with heap := h₁, toks := s.toks + binds.length })
    (hco : scope.isCoroutine = false) (hgen : scope.isGenerator = false) (hk : scope.kind = .function)
    (hcell : ∀ x ∈ scope.names, x.2 ≠ .cell) : codeC (model prog w) A (.call (.ref f) args) R s :=
  enterX' rfl rfl k G D ho hcd hroom hbind hloc (fun h₁ => h _ _ h₁) hco hgen hk hcell
theorem enterXC' {g : Heap} {L' : Addr} (hg : g = hideAll s.heap (led.map (·.1))) (hL : L' = s.heap.objs.size) (k : b.StaysIn s.heap) (G : Gd w loose mean mg mb b) (D : Led b s.heap led)
    (ho : (hd.heap_1 w.params).lookup f = some ⟨oc, od, .func (fnOf name qual params body scope dV kV doc pm an cdv ct), osl⟩) (hcd : codeIn (hd.heap_1 w.params) cdv qual = true) (hroom : A.depth < recursionLimit)
    (hbind : BindsTo s (fnOf name qual params body scope dV kV doc pm an cdv ct) args binds) (hkind : (binds.all fun y => scope.names.lookup y.1 == some .local || scope.names.lookup y.1 == some .cell) = true)
    (hnd : ((cellsFrom 0 scope.names []).map (·.1)).Nodup)
    (h : ∀ h₁ tk cells, Got b s.heap g led L' → Fr g L' h₁ (bindL (envOfC qual scope L' f cdv).kindOf binds fun _ => none) → News g L' h₁ (cells ++ led) →
      CellsAre (bindC (envOfC qual scope L' f cdv).kindOf binds fun _ => none) (cellsFrom (L' + 1) scope.names []) cells →
      wpC (model prog w) (A.deeper (envOfC qual scope L' f cdv)) (execs body (envOfC qual scope L' f cdv))
        (fun fl s' => EndF R fl s')
        (fun e s' => wpAny (model prog w) (A.deeper (envOfC qual scope L' f cdv)) (leaving (envOfC qual scope L' f cdv) e) (fun _ s'' => R (.error e) s'') (fun e' s'' => R (.error e') s'') s')
        { s with heap := h₁, toks := tk })
    (hco : scope.isCoroutine = false) (hgen : scope.isGenerator = false) (hk : scope.kind = .function) : codeC (model prog w) A (.call (.ref f) args) R s := by
  subst hg hL
  have Xs := G.X.keeps k
  have hlim := G.T.nolimit.keeps k
  refine codeC_call_function hroom (Xs _ _ ho) rfl hco hgen rfl (codeRec_of Xs hcd) (hbind _ _ _ _ ?_)
  refine wpAny_newFunctionEnv_cells hk (kindsX hkind _) fun env' he s' x => ?_
  subst he
  refine ⟨hlim.keeps x.toInCall.keep, codeC_func ?_⟩
  obtain ⟨h₁, tk, rfl, _⟩ := x.done
  have hk₁ := x.toInCall.keep
  obtain ⟨cells, NC, Y⟩ := Cl.news (h₀ := s.heap) (Nat.le_refl _) fun n c hm => ⟨x.cell n c (lookup_of_mem_nodup (cellsFrom_names scope.names 0 (s.heap.objs.size + 1) [] [] rfl ▸ hnd) hm), x.above n c hm⟩
  refine h h₁ tk cells (got_hide k D) ⟨x.toInCall.ns, fun b o e => hk₁ b o (of_hideAll _ e), Nat.le_of_eq (hideAll_size _ _)⟩ (fun p hp => ?_) Y
  rcases List.mem_append.mp hp with hp | hp
  · refine ⟨(NC p hp).1, (NC p hp).2.1, ?_⟩
    cases q : (hideAll s.heap (led.map (·.1))).get? p.1 with
    | none => rfl
    | some o => have := of_hideAll _ q; rw [(NC p hp).2.2] at this; cases this
  · exact ⟨hk₁ _ _ (D p hp).1, Nat.ne_of_lt (Heap.lt_size (D p hp).1), hideAll_none _ (List.mem_map_of_mem hp)⟩
theorem enterXC (k : b.StaysIn s.heap) (G : Gd w loose mean mg mb b) (D : Led b s.heap led)
    (ho : (hd.heap_1 w.params).lookup f = some ⟨oc, od, .func (fnOf name qual params body scope dV kV doc pm an cdv ct), osl⟩) (hcd : codeIn (hd.heap_1 w.params) cdv qual = true) (hroom : A.depth < recursionLimit)
    (hbind : BindsTo s (fnOf name qual params body scope dV kV doc pm an cdv ct) args binds) (hkind : (binds.all fun y => scope.names.lookup y.1 == some .local || scope.names.lookup y.1 == some .cell) = true)
    (hnd : ((cellsFrom 0 scope.names []).map (·.1)).Nodup)
    (h : ∀ g L' h₁ tk cells, Got b s.heap g led L' → Fr g L' h₁ (bindL (envOfC qual scope L' f cdv).kindOf binds fun _ => none) → News g L' h₁ (cells ++ led) →
      CellsAre (bindC (envOfC qual scope L' f cdv).kindOf binds fun _ => none) (cellsFrom (L' + 1) scope.names []) cells →
      wpC (model prog w) (A.deeper (envOfC qual scope L' f cdv)) (execs body (envOfC qual scope L' f cdv))
        (fun fl s' => EndF R fl s')
        (fun e s' => wpAny (model prog w) (A.deeper (envOfC qual scope L' f cdv)) (leaving (envOfC qual scope L' f cdv) e) (fun _ s'' => R (.error e) s'') (fun e' s'' => R (.error e') s'') s')
        { s with heap := h₁, toks := tk })
    (hco : scope.isCoroutine = false) (hgen : scope.isGenerator = false) (hk : scope.kind = .function) : codeC (model prog w) A (.call (.ref f) args) R s :=
  enterXC' rfl rfl k G D ho hcd hroom hbind hkind hnd (fun h₁ tk cells => h _ _ h₁ tk cells) hco hgen hk
end
noncomputable abbrev baO (y : Array UInt8) : Obj := { cls := .type "bytearray", data := .bytearray y }
noncomputable abbrev textD (w : World) (nb : Int) (tn : Tok) (ba : Addr) (gl : Bool) (lv : Int) (tl t0 t1 t2 t3 : Tok) (n : Nat) : Obj :=
  dictOf [ent w "number" t0 (.int nb tn), ent w "octets" t1 (.ref ba), ent w "is_global" t2 (.bool gl), ent w "level" t3 (.int lv tl)] n
theorem new_obj {g h h' : Heap} {L a : Addr} {m : Str → Option Value} {news : List (Addr × Obj)} {o : Obj} (F : Fr g L h m) (N : News g L h news) (k : ∀ x o, h.get? x = some o → h'.get? x = some o) (n : h.get? a = none) (q : h'.get? a = some o) :
    Fr g L h' m ∧ News g L h' ((a, o) :: news) := by
  have F' : Fr g L h' m := by
    obtain ⟨oL, es, ep, hL, r⟩ := F.ns
    exact ⟨⟨oL, es, ep, k _ _ hL, r⟩, fun b o e => k _ _ (F.keep b o e), F.above⟩
  refine ⟨F', fun p hp => ?_⟩
  rcases List.mem_cons.mp hp with rfl | hp
  · refine ⟨q, fun z => ?_, ?_⟩
    · obtain ⟨oL, es, ep, hL, r⟩ := F.ns
      rw [← z, n] at hL; cases hL
    · cases e : g.get? a with
      | none => rfl
      | some o' => have := F.keep a o' e; rw [n] at this; cases this
  · exact ⟨k _ _ (N p hp).1, (N p hp).2⟩
theorem new_lt {g h : Heap} {L a : Addr} {news : List (Addr × Obj)} (N : News g L h news) (e : a = h.objs.size) : ∀ p ∈ news, p.1 < a := fun p hp => by
  rw [e]; exact Heap.lt_size (N p hp).1
noncomputable section
namespace K_text_init
def KP (w : World) (R : Result → Shared → Prop) (s : Shared) (b : Heap) (loose : List Str) (mean : ExcName → Option Value) (mg mb : Str → Option Value) (x dx : Addr) (nb lv : Int) (tn tl tb : Tok) (gl : Bool) (y : Array UInt8) : Prop := ∀ {A : Around} (st : b.StaysIn s.heap) (G : Gd w loose mean mg mb b) (D : Led b s.heap [(x, instObj 86 dx), (dx, dictOf [] 0)]) (hz : y.size ≤ 1000) (hlt : @LT.lt Nat _ dx x) (hA : A = { depth := 800, units := 4000, frames := none, handled := none, guards := none }) (hR : ∀ ba h' tks t0 t1 t2 t3 n, s.heap.objs.size ≤ ba → h'.get? ba = some (baO y) → After s.heap h' [(dx, textD w nb tn ba gl lv tl t0 t1 t2 t3 n)] → R (.ok (.ret .none)) ⟨h', s.gens, s.drawn, tks, s.os⟩), codeC (model PG w) A (.call (.ref 83) ⟨[.ref x, .int nb tn, .bytes y tb, .bool gl, .int lv tl], []⟩) R s
def KT (x : (World × (Result → Shared → Prop) × Shared × Heap × List Str × (ExcName → Option Value)) × ((Str → Option Value) × (Str → Option Value) × Addr × Addr × Int × Int) × (Tok × Tok × Tok × Bool × Array UInt8)) : Prop := KP x.1.1 x.1.2.1 x.1.2.2.1 x.1.2.2.2.1 x.1.2.2.2.2.1 x.1.2.2.2.2.2 x.2.1.1 x.2.1.2.1 x.2.1.2.2.1 x.2.1.2.2.2.1 x.2.1.2.2.2.2.1 x.2.1.2.2.2.2.2 x.2.2.1 x.2.2.2.1 x.2.2.2.2.1 x.2.2.2.2.2.1 x.2.2.2.2.2.2
theorem Kex : ∃ x, KT x → ∀ y, KT y := drink ((anyW, (fun _ _ => True), {}, default, default, default), (default, default, default, default, default, default), (default, default, default, default, default)) _
@[irreducible] def Kx0 := Classical.choose Kex
@[irreducible] def w := Kx0.1.1
@[irreducible] def R := Kx0.1.2.1
@[irreducible] def s := Kx0.1.2.2.1
@[irreducible] def b := Kx0.1.2.2.2.1
@[irreducible] def loose := Kx0.1.2.2.2.2.1
@[irreducible] def mean := Kx0.1.2.2.2.2.2
@[irreducible] def mg := Kx0.2.1.1
@[irreducible] def mb := Kx0.2.1.2.1
@[irreducible] def x := Kx0.2.1.2.2.1
@[irreducible] def dx := Kx0.2.1.2.2.2.1
@[irreducible] def nb := Kx0.2.1.2.2.2.2.1
@[irreducible] def lv := Kx0.2.1.2.2.2.2.2
@[irreducible] def tn := Kx0.2.2.1
@[irreducible] def tl := Kx0.2.2.2.1
@[irreducible] def tb := Kx0.2.2.2.2.1
@[irreducible] def gl := Kx0.2.2.2.2.2.1
@[irreducible] def y := Kx0.2.2.2.2.2.2
set_option maxRecDepth 100000
set_option maxHeartbeats 4000000
@[irreducible] def g : Heap := hideAll s.heap (([(x, instObj 86 dx), (dx, dictOf [] 0)] : List (Addr × Obj)).map (·.1))
@[irreducible] def L' : Addr := s.heap.objs.size
theorem KgE  : g = hideAll s.heap (([(x, instObj 86 dx), (dx, dictOf [] 0)] : List (Addr × Obj)).map (·.1)) := by with_unfolding_all rfl
theorem KlE : L' = s.heap.objs.size := by with_unfolding_all rfl
theorem at0 : KP w R s b loose mean mg mb x dx nb lv tn tl tb gl y := by
  intro A st G D hz hlt hA hR
  subst hA
  refine' enterX' KgE KlE (binds := [(Str.ofString "self", .ref x), (Str.ofString "number", .int nb tn), (Str.ofString "octets", .bytes y tb), (Str.ofString "is_global", .bool gl), (Str.ofString "level", .int lv tl)]) st G D ?k6 ?k7 ?k8 ?k9 ?kB ?_ ?c2 ?c3 ?c4 ?c5
  walk_at "my enter"
  intro h' Z F' N'
  have G' := G.keeps Z.st
  have ⟨X', T', _, _, _, _, _⟩ := G'
  refine wpC_execs_cons (.of ?_)
  walk_at "my go"
  (try k_unfold)
  (try dsimp only)
  refine wpC_execs_cons (wpC_Assign_Attribute ?_ (by with_unfolding_all rfl))
  refine wpC_CallName ?_
  walk_at "my go"
  (try k_unfold)
  (try dsimp only)
  refine wpC_callT ?_
  walk_at "my go"
  (try k_unfold)
  (try dsimp only)
  rename Fr _ _ _ _ => F2
  rename News _ _ _ _ => N2
  refine call_ba hz fun ba h2 n2 e2 q2 kp2 => ?_
  have l1 := new_lt N2 e2
  have nb : s.heap.objs.size ≤ ba := by
    obtain ⟨o, ho, _⟩ := fr_obj F2
    rw [Z.sz, e2]; exact Nat.le_of_lt (Heap.lt_size ho)
  k_lt l1
  obtain ⟨F3, N3⟩ := new_obj F2 N2 kp2 n2 q2
  clear F2 N2
  walk_at "my go"
  (try k_unfold)
  (try dsimp only)
  refine .of ?_
  walk_at "my go"
  rename Fr _ _ _ _ => F9
  rename News _ _ _ _ => N9
  refine' hR ba _ _ _ _ _ _ _ nb ?q (after_part F9 N9 Z ?c ?l)
  case q => exact (N9 _ (by k_mem)).1
  case c => walk_at "my sub"
  case l => walk_at "my part"
end K_text_init
end
theorem text_init {w : World} {R : Result → Shared → Prop} {s : Shared} {b : Heap} {loose : List Str} {mean : ExcName → Option Value} {mg mb : Str → Option Value} {x dx : Addr} {nb lv : Int} {tn tl tb : Tok} {gl : Bool} {y : Array UInt8} : K_text_init.KP w R s b loose mean mg mb x dx nb lv tn tl tb gl y :=
  @Classical.choose_spec _ _ K_text_init.Kex (by with_unfolding_all exact @K_text_init.at0) ((w, R, s, b, loose, mean), (mg, mb, x, dx, nb, lv), (tn, tl, tb, gl, y))
section
end
section
variable {w : World} {A : Around} {R : Result → Shared → Prop} {s : Shared} {b : Heap} {loose : List Str} {mean : ExcName → Option Value} {mg mb : Str → Option Value}
set_option maxRecDepth 100000
set_option maxHeartbeats 4000000
theorem none_under {b h : Heap} {a : Addr} (k : b.StaysIn h) (n : h.objs.size ≤ a) : b.get? a = none := by
  cases e : b.get? a with
  | none => rfl
  | some o => exact absurd (Heap.lt_size (k _ _ e)) (Nat.not_lt_of_le n)
abbrev made2 (h : Heap) (c : Addr) : Heap := (h.push emptyDict).push (instObj c h.objs.size)
theorem made2_k {h : Heap} {c : Addr} (a : Addr) (o : Obj) (e : h.get? a = some o) : (made2 h c).get? a = some o := Heap.get?_push_of_some _ (Heap.get?_push_of_some _ e)
theorem made2_sz {h : Heap} {c : Addr} : (made2 h c).objs.size = h.objs.size + 1 + 1 := by rw [made2, Heap.size_push, Heap.size_push]
theorem made2_e {h : Heap} {c : Addr} : (made2 h c).get? (h.objs.size + 1) = some (instObj c h.objs.size) := by heap_get
theorem made2_led {b h : Heap} {c : Addr} (st : b.StaysIn h) : Led b (made2 h c) [(h.objs.size + 1, instObj c h.objs.size), (h.objs.size, dictOf [] 0)] :=
  allc ⟨made2_e, none_under st (Nat.le_succ _)⟩ (allc ⟨by heap_get, none_under st (Nat.le_refl _)⟩ fun _ q => nomatch q)
theorem made2_nin {h : Heap} {a : Addr} (l : a < h.objs.size) : a ∉ [h.objs.size + 1, h.objs.size] := fun q => by
  rcases List.mem_cons.mp q with rfl | q
  · exact absurd l (Nat.not_lt_of_le (Nat.le_succ _))
  · exact absurd l (by rw [List.mem_singleton.mp q]; exact Nat.lt_irrefl _)
theorem made2_lt {h : Heap} {c l : Addr} (nb : (made2 h c).objs.size ≤ l) : @LT.lt Nat _ (h.objs.size + 1) l := Nat.le_trans (Nat.le_of_eq made2_sz.symm) nb
theorem made2_after {h h' : Heap} {c : Addr} {o : Obj} (Af : After (made2 h c) h' [(h.objs.size, o)]) : After h h' [] :=
  ⟨fun _ hp => (nomatch hp), fun a o e _ => Af.keep a o (made2_k _ _ e) fun p hp z => by
      obtain rfl := List.mem_singleton.mp hp
      exact absurd (Heap.lt_size e) (by rw [← z]; exact Nat.lt_irrefl _)⟩
theorem made2_new {h h' : Heap} {c : Addr} {o : Obj} {nw : List (Addr × Obj)} (Af : After (made2 h c) h' [(h.objs.size, o)]) (W : ∀ p ∈ nw, (made2 h c).objs.size ≤ p.1 ∧ h'.get? p.1 = some p.2) : New h h' ((h.objs.size + 1, instObj c h.objs.size) :: (h.objs.size, o) :: nw) :=
  allc ⟨Nat.le_succ _, Af.keep _ _ made2_e fun p hp z => by
        obtain rfl := List.mem_singleton.mp hp
        exact absurd z (Nat.ne_of_lt (Nat.lt_succ_self _))⟩ (allc ⟨Nat.le_refl _, Af.now _ (.head _)⟩ fun p hp => ⟨Nat.le_trans (Nat.le_trans (Nat.le_succ _) (Nat.le_succ _)) (Nat.le_trans (Nat.le_of_eq made2_sz.symm) (W p hp).1), (W p hp).2⟩)
theorem text_c {nb lv : Int} {tn tl tb : Tok} {gl : Bool} {y : Array UInt8} (st : b.StaysIn s.heap) (G : Gd w loose mean mg mb b) (hz : y.size ≤ 1000)
    (hA : A = { depth := 790, units := 3990, frames := none, handled := none, guards := none })
    (hR : ∀ x dx ba h' tks t0 t1 t2 t3 n, @LT.lt Nat _ dx x → @LT.lt Nat _ x ba → After s.heap h' [] → New s.heap h' [(x, instObj 86 dx), (dx, textD w nb tn ba gl lv tl t0 t1 t2 t3 n), (ba, baO y)] → R (.ok (.ret (.ref x))) ⟨h', s.gens, s.drawn, tks, s.os⟩) :
    codeC (model PG w) A (.call (.ref 86) ⟨[.int nb tn, .bytes y tb, .bool gl, .int lv tl], []⟩) R s := by
  subst hA
  obtain ⟨h, g, d, t, os⟩ := s
  refine makeC (G.X.keeps st) (by k_is) (by k_is) (by k_is) ?_
  refine codeC_room (A' := { depth := 800, units := 4000, frames := none, handled := none, guards := none }) (text_init (b := b) (x := h.objs.size + 1) (dx := h.objs.size) (fun a o e => made2_k _ _ (st _ _ e)) G (made2_led st) hz (Nat.lt_succ_self _) rfl
    fun ba h' tks t0 t1 t2 t3 n nb hba Af => ⟨rfl, hR (h.objs.size + 1) h.objs.size ba h' tks t0 t1 t2 t3 n (Nat.lt_succ_self _) (made2_lt nb) (made2_after Af) (made2_new Af (allc ⟨nb, hba⟩ fun _ q => nomatch q))⟩) rfl (Nat.le_of_ble_eq_true rfl) (.inl rfl) rfl (Nat.le_of_ble_eq_true rfl)
end
section
variable {w : World} {A : Around} {R : Result → Shared → Prop} {s : Shared} {b : Heap} {loose : List Str} {mean : ExcName → Option Value} {mg mb : Str → Option Value}
set_option maxRecDepth 100000
theorem check_w {A₀ : Around} {E : Value → Shared → Prop} {Q : Value → Shared → Prop} {env : Env} {outer : List Env} {g : Heap} {L : Addr} {m : Str → Option Value} {news : List (Addr × Obj)} {many most : Int} {t1 t2 : Tok}
    (C : Caller A₀ A b env outer g L s.heap m news) (G : Gd w loose mean mg mb b) (hA3 : A.depth ≤ 900) (hA4 : A.units ≤ 5000)
    (ok : 0 ≤ many → many ≤ most → ∀ h' tks, Fr g L h' m → News g L h' news → Q .none ⟨h', s.gens, s.drawn, tks, s.os⟩)
    (bad1 : many < 0 → ∀ e h' tks tk, ErrEnd w (env :: outer) s.heap (.bytes (asBytes "rangecheck") tk) e h' → E (.ref e) ⟨h', s.gens, s.drawn, tks, s.os⟩)
    (bad2 : 0 ≤ many → most < many → ∀ e h' tks tk, ErrEnd w (env :: outer) s.heap (.bytes (asBytes "limitcheck") tk) e h' → E (.ref e) ⟨h', s.gens, s.drawn, tks, s.os⟩) :
    wpAny (model PG w) A (call (.ref 359) [.int many t1, .int most t2]) Q E s :=
  wpAny_call (codeAny_room (check_c (A := { depth := 900, units := 5000, frames := some (env :: outer), handled := none, guards := none }) C.below.stays G ⟨rfl, C.below.stays, C.below.frames⟩ rfl
    (fun h1 h2 h' tks Af => (fun ⟨x, y⟩ => ok h1 h2 h' tks x y) (C.same Af)) bad1 bad2) C.hd hA3 (.inr C.fr) rfl hA4)

theorem take_w {A₀ : Around} {E : Value → Shared → Prop} {Q : Value → Shared → Prop} {env : Env} {outer : List Env} {g : Heap} {L : Addr} {m : Str → Option Value} {news : List (Addr × Obj)} {cost : Int} {tc : Tok} {mk mx lx : Addr} {lm sv jr mm fr : Addr} {gl : Bool} {u0 u1 lb ls : Int} {a0 a1 a2 a3 t0 t1 t2 t3 t4 t5 t6 t7 t8 t9 : Tok} {mn : Nat} {lim : List DictEntry} {ln : Nat} {vm : Int} {tv : Tok} {es : Array DictEntry} {ep n : Nat}
    (C : Caller A₀ A b env outer g L s.heap m news) (G : Gd w loose mean mg mb b) (hA3 : A.depth ≤ 880) (hA4 : A.units ≤ 4900)
    (ho : @LT.lt Nat _ lx lm ∧ @LT.lt Nat _ lm mx ∧ @LT.lt Nat _ mx mk ∧ @LT.lt Nat _ mk sv ∧ @LT.lt Nat _ sv mm)
    (hm : ∀ p ∈ mkLed w mk mx lx lm sv jr mm fr gl u0 u1 lb ls a0 a1 a2 a3 t0 t1 t2 t3 t4 t5 t6 t7 t8 t9 mn lim ln es ep, p ∈ news) (hv : getL (Str.ofString "vm") lim = some (some (.int vm tv))) (hn : Nums w es n) (hn0 : n ≤ 900)
    (ok : u0 + u1 + cost ≤ vm → ∀ h' tks tk u0' u1' a0' a1' a2' es' ep', u0' = (if gl = true then u0 else u0 + cost) → u1' = (if gl = true then u1 + cost else u1) →
      Nums w es' (n + 1) → After s.heap h' [(mx, makerO w lm sv jr mm fr gl u0' u1' (lb + 1) ls a0' a1' a2' a3 t0 t1 t2 t3 t4 t5 t6 t7 t8 t9 mn), (mm, dictA es' ep')] → Q (.int (lb + 1) tk) ⟨h', s.gens, s.drawn, tks, s.os⟩)
    (bad : vm < u0 + u1 + cost → ∀ e h' tks tk, ErrEnd w (env :: outer) s.heap (.bytes (asBytes "VMerror") tk) e h' → E (.ref e) ⟨h', s.gens, s.drawn, tks, s.os⟩) :
    wpAny (model PG w) A (call (.ref 310) [.ref mk, .int cost tc]) Q E s := by
  obtain ⟨D, nf⟩ := C.led hm
  exact wpAny_call (codeAny_room (take_c (A := { depth := 880, units := 4900, frames := some (env :: outer), handled := none, guards := none }) C.below.stays G ⟨rfl, C.below.stays, C.below.frames⟩ rfl ho D hv hn hn0 nf ok bad) C.hd hA3 (.inr C.fr) rfl hA4)
end
theorem allNew_lt {L : Nat} {news : List (Addr × Obj)} : ∀ {nw : List (Addr × Obj)}, AllNew L nw news → ∀ q ∈ nw, @LT.lt Nat _ L q.1
  | [], _ => fun _ hq => nomatch hq
  | _ :: _, h => fun q hq => by
    rcases List.mem_cons.mp hq with rfl | hq
    · exact h.1.1
    · exact allNew_lt h.2 q hq
theorem new_of {b h0 g h : Heap} {led news news0 nw : List (Addr × Obj)} {L : Addr} (Z : Got b h0 g led L) (N : News g L h news) (hA : AllNew L nw news0) (hm : ∀ p ∈ nw, p ∈ news) : New h0 h nw := fun p hp =>
  ⟨by rw [Z.sz]; exact Nat.le_of_lt (allNew_lt hA p hp), (N p (hm p hp)).1⟩
theorem kwD1linesd1 : True := by
  k_with "my three" => (all_goals first | (intro hge' hle' h' tks' F' N'; (have ck' := Fr.keep F'); clear ck'; (try k_sweep)) | (intro hge' hgt' e' h' tks' tk' hE') | (intro hgt' e' h' tks' tk' hE'; (rename ErrEnd _ _ _ _ _ _ => myX)))
  k_with "call ref" => (k_here; (with_reducible show wpAny _ _ (call (Value.ref 359) _) _ _ _); k_dflt (refine' check_w ?Cx26e ?Gx26e ?a3x26e ?a4x26e ?_ ?_ ?_; (case Cx26e => walk_at "my B"); (case Gx26e => assumption); (case a3x26e => exact Nat.le_of_ble_eq_true rfl); (case a4x26e => exact Nat.le_of_ble_eq_true rfl); k_whole); walk_at "my three")
  k_with "my taken" => (all_goals first | (intro hle' h' tks' tk' u0' u1' a0' a1' a2' es' ep' hu0' hu1' hnum' af'; (rename After _ _ _ => myA); (rename Fr _ _ _ _ => myF); (rename News _ _ _ _ => myN); k_dflt (refine' upd_go myF myN myA ?uxb19 ?cxb19 ?_; (case uxb19 => walk_at "my updm"); (case cxb19 => walk_at "my subo")); clear myA; intro F' N'; (try dsimp only at N'); (have ck' := Fr.keep F'); clear ck'; (try k_sweep)) | (intro hgt' e' h' tks' tk' hE'; (rename ErrEnd _ _ _ _ _ _ => myX)))
  k_with "call ref" => (k_here; (with_reducible show wpAny _ _ (call (Value.ref 310) _) _ _ _); k_dflt (refine' take_w ?Cx3ee ?Gx3ee ?a3x3ee ?a4x3ee ?hox3ee ?hmx3ee ?hvx3ee ?hnx3ee ?hn0x3ee ?_ ?_; (case Cx3ee => walk_at "my B"); (case Gx3ee => assumption); (case hmx3ee => walk_at "my sub"); (case hvx3ee => assumption); (case hnx3ee => assumption); (case hn0x3ee => assumption); (case hox3ee => assumption); (case a3x3ee => exact Nat.le_of_ble_eq_true rfl); (case a4x3ee => exact Nat.le_of_ble_eq_true rfl); k_whole); walk_at "my taken")
  exact trivial
theorem kwD1linese1 : True := by
  k_with "my text" => ( (rename Fr _ _ _ _ => myF); (rename News _ _ _ _ => myN); refine wpC_call (codeC_room (text_c (b := g) myF.keep (by assumption) (by assumption) rfl ?_) rfl (Nat.le_of_ble_eq_true rfl) (.inl rfl) rfl (Nat.le_of_ble_eq_true rfl)))
  k_with "my new" => ((rename After _ _ _ => myA); (rename New _ _ _ => myW); (rename Fr _ _ _ _ => myF); (rename News _ _ _ _ => myN); k_dflt (refine' new_go myF myN myA myW ?uxa69 ?cxa69 ?_; (case uxa69 => walk_at "my updm"); (case cxa69 => walk_at "my subo")); intro F' N' nw'; (try dsimp only [List.cons_append, List.nil_append] at N'))
  exact trivial

noncomputable section
namespace K_octets_c
def KP (w : World) (R : Result → Shared → Prop) (s : Shared) (b : Heap) (loose : List Str) (mean : ExcName → Option Value) (mg mb : Str → Option Value) (fl : List Env) (y : Array UInt8) (tb : Tok) (mk mx lx lm sv jr mm fr : Addr) (gl : Bool) (u0 u1 lb ls : Int) (a0 a1 a2 a3 t0 t1 t2 t3 t4 t5 t6 t7 t8 t9 : Tok) (mn : Nat) (lim : List DictEntry) (ln : Nat) (vm tx : Int) (tv tvx : Tok) (es : Array DictEntry) (ep n : Nat) : Prop := ∀ {A : Around} (st : b.StaysIn s.heap) (G : Gd w loose mean mg mb b) (Bl : Below A b fl s.heap) (hA : A = { depth := 700, units := 3000, frames := some fl, handled := none, guards := none }) (ho : @LT.lt Nat _ lx lm ∧ @LT.lt Nat _ lm mx ∧ @LT.lt Nat _ mx mk ∧ @LT.lt Nat _ mk sv ∧ @LT.lt Nat _ sv mm) (D : Led b s.heap (mkLed w mk mx lx lm sv jr mm fr gl u0 u1 lb ls a0 a1 a2 a3 t0 t1 t2 t3 t4 t5 t6 t7 t8 t9 mn lim ln es ep)) (hv : getL (Str.ofString "vm") lim = some (some (.int vm tv))) (hx : getL (Str.ofString "text") lim = some (some (.int tx tvx))) (hn : Nums w es n) (hn0 : n ≤ 900) (hz : y.size ≤ 1000) (nf : ∀ env ∈ fl, ∀ p ∈ mkLed w mk mx lx lm sv jr mm fr gl u0 u1 lb ls a0 a1 a2 a3 t0 t1 t2 t3 t4 t5 t6 t7 t8 t9 mn lim ln es ep, env.frame ≠ some p.1) (ok : (y.size : Int) ≤ tx → u0 + u1 + y.size ≤ vm → ∀ x dx ba h' tks tn tl k0 k1 k2 k3 kn u0' u1' a0' a1' a2' es' ep', u0' = (if gl = true then u0 else u0 + y.size) → u1' = (if gl = true then u1 + y.size else u1) →
      Nums w es' (n + 1) → @LT.lt Nat _ dx x → @LT.lt Nat _ x ba → After s.heap h' [(mx, makerO w lm sv jr mm fr gl u0' u1' (lb + 1) ls a0' a1' a2' a3 t0 t1 t2 t3 t4 t5 t6 t7 t8 t9 mn), (mm, dictA es' ep')] →
      New s.heap h' [(x, instObj 86 dx), (dx, textD w (lb + 1) tn ba gl 0 tl k0 k1 k2 k3 kn), (ba, baO y)] → R (.ok (.ret (.ref x))) ⟨h', s.gens, s.drawn, tks, s.os⟩) (bad1 : tx < y.size → ∀ e h' tks tk, ErrEnd w fl s.heap (.bytes (asBytes "limitcheck") tk) e h' → R (.error (.ref e)) ⟨h', s.gens, s.drawn, tks, s.os⟩) (bad2 : (y.size : Int) ≤ tx → vm < u0 + u1 + y.size → ∀ e h' tks tk, ErrEnd w fl s.heap (.bytes (asBytes "VMerror") tk) e h' → R (.error (.ref e)) ⟨h', s.gens, s.drawn, tks, s.os⟩), codeC (model PG w) A (.call (.ref 331) ⟨[.ref mk, .bytes y tb], []⟩) R s
def KT (x : (World × (Result → Shared → Prop) × Shared × Heap × List Str × (ExcName → Option Value)) × ((Str → Option Value) × (Str → Option Value) × List Env × Array UInt8 × Tok × Addr) × (Addr × Addr × Addr × Addr × Addr × Addr) × (Addr × Bool × Int × Int × Int × Int) × (Tok × Tok × Tok × Tok × Tok × Tok) × (Tok × Tok × Tok × Tok × Tok × Tok) × (Tok × Tok × Nat × List DictEntry × Nat × Int) × (Int × Tok × Tok × Array DictEntry × Nat × Nat)) : Prop := KP x.1.1 x.1.2.1 x.1.2.2.1 x.1.2.2.2.1 x.1.2.2.2.2.1 x.1.2.2.2.2.2 x.2.1.1 x.2.1.2.1 x.2.1.2.2.1 x.2.1.2.2.2.1 x.2.1.2.2.2.2.1 x.2.1.2.2.2.2.2 x.2.2.1.1 x.2.2.1.2.1 x.2.2.1.2.2.1 x.2.2.1.2.2.2.1 x.2.2.1.2.2.2.2.1 x.2.2.1.2.2.2.2.2 x.2.2.2.1.1 x.2.2.2.1.2.1 x.2.2.2.1.2.2.1 x.2.2.2.1.2.2.2.1 x.2.2.2.1.2.2.2.2.1 x.2.2.2.1.2.2.2.2.2 x.2.2.2.2.1.1 x.2.2.2.2.1.2.1 x.2.2.2.2.1.2.2.1 x.2.2.2.2.1.2.2.2.1 x.2.2.2.2.1.2.2.2.2.1 x.2.2.2.2.1.2.2.2.2.2 x.2.2.2.2.2.1.1 x.2.2.2.2.2.1.2.1 x.2.2.2.2.2.1.2.2.1 x.2.2.2.2.2.1.2.2.2.1 x.2.2.2.2.2.1.2.2.2.2.1 x.2.2.2.2.2.1.2.2.2.2.2 x.2.2.2.2.2.2.1.1 x.2.2.2.2.2.2.1.2.1 x.2.2.2.2.2.2.1.2.2.1 x.2.2.2.2.2.2.1.2.2.2.1 x.2.2.2.2.2.2.1.2.2.2.2.1 x.2.2.2.2.2.2.1.2.2.2.2.2 x.2.2.2.2.2.2.2.1 x.2.2.2.2.2.2.2.2.1 x.2.2.2.2.2.2.2.2.2.1 x.2.2.2.2.2.2.2.2.2.2.1 x.2.2.2.2.2.2.2.2.2.2.2.1 x.2.2.2.2.2.2.2.2.2.2.2.2
theorem Kex : ∃ x, KT x → ∀ y, KT y := drink ((anyW, (fun _ _ => True), {}, default, default, default), (default, default, default, default, default, default), (default, default, default, default, default, default), (default, default, default, default, default, default), (default, default, default, default, default, default), (default, default, default, default, default, default), (default, default, default, default, default, default), (default, default, default, default, default, default)) _
@[irreducible] def Kx0 := Classical.choose Kex
@[irreducible] def w := Kx0.1.1
@[irreducible] def R := Kx0.1.2.1
@[irreducible] def s := Kx0.1.2.2.1
@[irreducible] def b := Kx0.1.2.2.2.1
@[irreducible] def loose := Kx0.1.2.2.2.2.1
@[irreducible] def mean := Kx0.1.2.2.2.2.2
@[irreducible] def mg := Kx0.2.1.1
@[irreducible] def mb := Kx0.2.1.2.1
@[irreducible] def fl := Kx0.2.1.2.2.1
@[irreducible] def y := Kx0.2.1.2.2.2.1
@[irreducible] def tb := Kx0.2.1.2.2.2.2.1
@[irreducible] def mk := Kx0.2.1.2.2.2.2.2
@[irreducible] def mx := Kx0.2.2.1.1
@[irreducible] def lx := Kx0.2.2.1.2.1
@[irreducible] def lm := Kx0.2.2.1.2.2.1
@[irreducible] def sv := Kx0.2.2.1.2.2.2.1
@[irreducible] def jr := Kx0.2.2.1.2.2.2.2.1
@[irreducible] def mm := Kx0.2.2.1.2.2.2.2.2
@[irreducible] def fr := Kx0.2.2.2.1.1
@[irreducible] def gl := Kx0.2.2.2.1.2.1
@[irreducible] def u0 := Kx0.2.2.2.1.2.2.1
@[irreducible] def u1 := Kx0.2.2.2.1.2.2.2.1
@[irreducible] def lb := Kx0.2.2.2.1.2.2.2.2.1
@[irreducible] def ls := Kx0.2.2.2.1.2.2.2.2.2
@[irreducible] def a0 := Kx0.2.2.2.2.1.1
@[irreducible] def a1 := Kx0.2.2.2.2.1.2.1
@[irreducible] def a2 := Kx0.2.2.2.2.1.2.2.1
@[irreducible] def a3 := Kx0.2.2.2.2.1.2.2.2.1
@[irreducible] def t0 := Kx0.2.2.2.2.1.2.2.2.2.1
@[irreducible] def t1 := Kx0.2.2.2.2.1.2.2.2.2.2
@[irreducible] def t2 := Kx0.2.2.2.2.2.1.1
@[irreducible] def t3 := Kx0.2.2.2.2.2.1.2.1
@[irreducible] def t4 := Kx0.2.2.2.2.2.1.2.2.1
@[irreducible] def t5 := Kx0.2.2.2.2.2.1.2.2.2.1
@[irreducible] def t6 := Kx0.2.2.2.2.2.1.2.2.2.2.1
@[irreducible] def t7 := Kx0.2.2.2.2.2.1.2.2.2.2.2
@[irreducible] def t8 := Kx0.2.2.2.2.2.2.1.1
@[irreducible] def t9 := Kx0.2.2.2.2.2.2.1.2.1
@[irreducible] def mn := Kx0.2.2.2.2.2.2.1.2.2.1
@[irreducible] def lim := Kx0.2.2.2.2.2.2.1.2.2.2.1
@[irreducible] def ln := Kx0.2.2.2.2.2.2.1.2.2.2.2.1
@[irreducible] def vm := Kx0.2.2.2.2.2.2.1.2.2.2.2.2
@[irreducible] def tx := Kx0.2.2.2.2.2.2.2.1
@[irreducible] def tv := Kx0.2.2.2.2.2.2.2.2.1
@[irreducible] def tvx := Kx0.2.2.2.2.2.2.2.2.2.1
@[irreducible] def es := Kx0.2.2.2.2.2.2.2.2.2.2.1
@[irreducible] def ep := Kx0.2.2.2.2.2.2.2.2.2.2.2.1
@[irreducible] def n := Kx0.2.2.2.2.2.2.2.2.2.2.2.2
set_option maxRecDepth 100000
set_option maxHeartbeats 4000000
@[irreducible] def g : Heap := hideAll s.heap (((mkLed w mk mx lx lm sv jr mm fr gl u0 u1 lb ls a0 a1 a2 a3 t0 t1 t2 t3 t4 t5 t6 t7 t8 t9 mn lim ln es ep) : List (Addr × Obj)).map (·.1))
@[irreducible] def L' : Addr := s.heap.objs.size
theorem KgE  : g = hideAll s.heap (((mkLed w mk mx lx lm sv jr mm fr gl u0 u1 lb ls a0 a1 a2 a3 t0 t1 t2 t3 t4 t5 t6 t7 t8 t9 mn lim ln es ep) : List (Addr × Obj)).map (·.1)) := by with_unfolding_all rfl
theorem KlE : L' = s.heap.objs.size := by with_unfolding_all rfl
theorem at0 : KP w R s b loose mean mg mb fl y tb mk mx lx lm sv jr mm fr gl u0 u1 lb ls a0 a1 a2 a3 t0 t1 t2 t3 t4 t5 t6 t7 t8 t9 mn lim ln vm tx tv tvx es ep n := by
  intro A st G Bl hA ho D hv hx hn hn0 hz nf ok bad1 bad2
  subst hA
  refine' enterX' KgE KlE (binds := [(Str.ofString "self", .ref mk), (Str.ofString "octets", .bytes y tb)]) st G D ?k6 ?k7 ?k8 ?k9 ?kB ?_ ?c2 ?c3 ?c4 ?c5
  walk_at "my enter"
  intro h' Z F' N'
  have G' := G.keeps Z.st
  have ⟨X', T', _, _, _, _, _⟩ := G'
  have Bg := Z.below Bl nf
  have ho' := ho
  obtain ⟨o1, o2, o3, o4, o5⟩ := ho
  dsimp only [mkLed] at N'
  refine wpC_execs_cons (.of ?_)
  walk_at "my go"
  · (try k_unfold); (try dsimp only)
    refine wpC_execs_cons (wpC_Return (wpC_CallName ?_))
    walk_at "my go"
    (try k_unfold); (try dsimp only)
    refine wpC_callK (K := hd.heap_1 w.params) (by k_is) ?_
    walk_at "my go"
    · (rename Fr _ _ _ _ => myF)
      refine wpC_call (codeC_room (text_c (b := g) myF.keep (by assumption) (by assumption) rfl ?_) rfl (Nat.le_of_ble_eq_true rfl) (.inl rfl) rfl (Nat.le_of_ble_eq_true rfl))
      intro x dx ba h9 tks9 k0 k1 k2 k3 kn l1 l2 A9 W9
      walk_at "my new"
      (rename Fr _ _ _ _ => F9); (rename News _ _ _ _ => N9); (rename AllNew _ _ _ => nw9)
      refine' ok (by omega) (by omega) x dx ba _ _ _ _ _ _ _ _ _ _ _ _ _ _ _ _ ?e1 ?e2 ?n l1 l2 (after_part F9 N9 Z ?c ?l) (new_of Z N9 nw9 ?d)
      case c => walk_at "my sub"
      case l => walk_at "my part"
      case d => walk_at "my sub"
      case n => assumption
      case e1 => simp [*]
      case e2 => simp [*]
    · (rename Fr _ _ _ _ => myF)
      refine wpC_call (codeC_room (text_c (b := g) myF.keep (by assumption) (by assumption) rfl ?_) rfl (Nat.le_of_ble_eq_true rfl) (.inl rfl) rfl (Nat.le_of_ble_eq_true rfl))
      intro x dx ba h9 tks9 k0 k1 k2 k3 kn l1 l2 A9 W9
      walk_at "my new"
      (rename Fr _ _ _ _ => F9); (rename News _ _ _ _ => N9); (rename AllNew _ _ _ => nw9)
      refine' ok (by omega) (by omega) x dx ba _ _ _ _ _ _ _ _ _ _ _ _ _ _ _ _ ?e1 ?e2 ?n l1 l2 (after_part F9 N9 Z ?c ?l) (new_of Z N9 nw9 ?d)
      case c => walk_at "my sub"
      case l => walk_at "my part"
      case d => walk_at "my sub"
      case n => assumption
      case e1 => simp [*]
      case e2 => simp [*]
    · walk_at "my err"
      exact bad2 (by omega) (by omega) _ _ _ _ (by assumption)
  · walk_at "my err"
    exact absurd (by assumption) (by omega)
  · walk_at "my err"
    exact bad1 (by omega) _ _ _ _ (by assumption)
end K_octets_c
end
theorem octets_c {w : World} {R : Result → Shared → Prop} {s : Shared} {b : Heap} {loose : List Str} {mean : ExcName → Option Value} {mg mb : Str → Option Value} {fl : List Env} {y : Array UInt8} {tb : Tok} {mk mx lx lm sv jr mm fr : Addr} {gl : Bool} {u0 u1 lb ls : Int} {a0 a1 a2 a3 t0 t1 t2 t3 t4 t5 t6 t7 t8 t9 : Tok} {mn : Nat} {lim : List DictEntry} {ln : Nat} {vm tx : Int} {tv tvx : Tok} {es : Array DictEntry} {ep n : Nat} : K_octets_c.KP w R s b loose mean mg mb fl y tb mk mx lx lm sv jr mm fr gl u0 u1 lb ls a0 a1 a2 a3 t0 t1 t2 t3 t4 t5 t6 t7 t8 t9 mn lim ln vm tx tv tvx es ep n :=
  @Classical.choose_spec _ _ K_octets_c.Kex (by with_unfolding_all exact @K_octets_c.at0) ((w, R, s, b, loose, mean), (mg, mb, fl, y, tb, mk), (mx, lx, lm, sv, jr, mm), (fr, gl, u0, u1, lb, ls), (a0, a1, a2, a3, t0, t1), (t2, t3, t4, t5, t6, t7), (t8, t9, mn, lim, ln, vm), (tx, tv, tvx, es, ep, n))
section
end
section
variable {w : World} {A : Around} {R : Result → Shared → Prop} {s : Shared} {b : Heap} {loose : List Str} {mean : ExcName → Option Value} {mg mb : Str → Option Value}
set_option maxRecDepth 100000
theorem octets_w {A₀ : Around} {E : Value → Shared → Prop} {Q : Value → Shared → Prop} {env : Env} {outer : List Env} {g : Heap} {L : Addr} {m : Str → Option Value} {news : List (Addr × Obj)} {y : Array UInt8} {tb : Tok} {mk mx lx : Addr} {lm sv jr mm fr : Addr} {gl : Bool} {u0 u1 lb ls : Int} {a0 a1 a2 a3 t0 t1 t2 t3 t4 t5 t6 t7 t8 t9 : Tok} {mn : Nat} {lim : List DictEntry} {ln : Nat} {vm tx : Int} {tv tvx : Tok} {es : Array DictEntry} {ep n : Nat}
    (C : Caller A₀ A b env outer g L s.heap m news) (G : Gd w loose mean mg mb b) (hA3 : A.depth ≤ 700) (hA4 : A.units ≤ 3000)
    (ho : @LT.lt Nat _ lx lm ∧ @LT.lt Nat _ lm mx ∧ @LT.lt Nat _ mx mk ∧ @LT.lt Nat _ mk sv ∧ @LT.lt Nat _ sv mm)
    (hm : ∀ p ∈ (mkLed w mk mx lx lm sv jr mm fr gl u0 u1 lb ls a0 a1 a2 a3 t0 t1 t2 t3 t4 t5 t6 t7 t8 t9 mn lim ln es ep), p ∈ news)
    (hv : getL (Str.ofString "vm") lim = some (some (.int vm tv)))
    (hx : getL (Str.ofString "text") lim = some (some (.int tx tvx)))
    (hn : Nums w es n)
    (hn0 : n ≤ 900)
    (hz : y.size ≤ 1000)
    (ok : (y.size : Int) ≤ tx → u0 + u1 + y.size ≤ vm → ∀ x dx ba h' tks tn tl k0 k1 k2 k3 kn u0' u1' a0' a1' a2' es' ep', u0' = (if gl = true then u0 else u0 + y.size) → u1' = (if gl = true then u1 + y.size else u1) →
      Nums w es' (n + 1) → @LT.lt Nat _ dx x → @LT.lt Nat _ x ba → After s.heap h' [(mx, makerO w lm sv jr mm fr gl u0' u1' (lb + 1) ls a0' a1' a2' a3 t0 t1 t2 t3 t4 t5 t6 t7 t8 t9 mn), (mm, dictA es' ep')] →
      New s.heap h' [(x, instObj 86 dx), (dx, textD w (lb + 1) tn ba gl 0 tl k0 k1 k2 k3 kn), (ba, baO y)] → Q (.ref x) ⟨h', s.gens, s.drawn, tks, s.os⟩)
    (bad1 : tx < y.size → ∀ e h' tks tk, ErrEnd w (env :: outer) s.heap (.bytes (asBytes "limitcheck") tk) e h' → E (.ref e) ⟨h', s.gens, s.drawn, tks, s.os⟩)
    (bad2 : (y.size : Int) ≤ tx → vm < u0 + u1 + y.size → ∀ e h' tks tk, ErrEnd w (env :: outer) s.heap (.bytes (asBytes "VMerror") tk) e h' → E (.ref e) ⟨h', s.gens, s.drawn, tks, s.os⟩)
    : wpC (model PG w) A (call (.ref 331) [.ref mk, .bytes y tb]) Q E s := by
  obtain ⟨D, nf⟩ := C.led hm
  exact wpC_call (codeC_room (octets_c (A := { depth := 700, units := 3000, frames := some (env :: outer), handled := none, guards := none }) C.below.stays G ⟨rfl, C.below.stays, C.below.frames⟩ rfl ho D hv hx hn hn0 hz nf ok bad1 bad2) C.hd hA3 (.inr C.fr) rfl hA4)
end
theorem kwD2linesf1 : True := by
  k_with "call type:bytes" => (k_here; (with_reducible show wpAny _ _ (call (Value.type "bytes") [Value.int _ _]) _ _ _); k_dflt (refine' call_bytes_int ?h0x817 ?h1x817 ?_; (case h0x817 => first | assumption | omega); (case h1x817 => first | assumption | omega); k_whole); intro tkb' kb')
  exact trivial

noncomputable section
namespace K_mktext_c
def KP (w : World) (R : Result → Shared → Prop) (s : Shared) (b : Heap) (loose : List Str) (mean : ExcName → Option Value) (mg mb : Str → Option Value) (fl : List Env) (many : Int) (tb : Tok) (mk mx lx lm sv jr mm fr : Addr) (gl : Bool) (u0 u1 lb ls : Int) (a0 a1 a2 a3 t0 t1 t2 t3 t4 t5 t6 t7 t8 t9 : Tok) (mn : Nat) (lim : List DictEntry) (ln : Nat) (vm tx : Int) (tv tvx : Tok) (es : Array DictEntry) (ep n : Nat) : Prop := ∀ {A : Around} (st : b.StaysIn s.heap) (G : Gd w loose mean mg mb b) (Bl : Below A b fl s.heap) (hA : A = { depth := 600, units := 2500, frames := some fl, handled := none, guards := none }) (ho : @LT.lt Nat _ lx lm ∧ @LT.lt Nat _ lm mx ∧ @LT.lt Nat _ mx mk ∧ @LT.lt Nat _ mk sv ∧ @LT.lt Nat _ sv mm) (D : Led b s.heap (mkLed w mk mx lx lm sv jr mm fr gl u0 u1 lb ls a0 a1 a2 a3 t0 t1 t2 t3 t4 t5 t6 t7 t8 t9 mn lim ln es ep)) (hv : getL (Str.ofString "vm") lim = some (some (.int vm tv))) (hx : getL (Str.ofString "text") lim = some (some (.int tx tvx))) (hn : Nums w es n) (hn0 : n ≤ 900) (hz : tx ≤ 1000) (nf : ∀ env ∈ fl, ∀ p ∈ mkLed w mk mx lx lm sv jr mm fr gl u0 u1 lb ls a0 a1 a2 a3 t0 t1 t2 t3 t4 t5 t6 t7 t8 t9 mn lim ln es ep, env.frame ≠ some p.1) (ok : 0 ≤ many → many ≤ tx → u0 + u1 + many ≤ vm → ∀ x dx ba h' tks tn tl k0 k1 k2 k3 kn u0' u1' a0' a1' a2' es' ep', u0' = (if gl = true then u0 else u0 + many) → u1' = (if gl = true then u1 + many else u1) →
      Nums w es' (n + 1) → @LT.lt Nat _ dx x → @LT.lt Nat _ x ba → After s.heap h' [(mx, makerO w lm sv jr mm fr gl u0' u1' (lb + 1) ls a0' a1' a2' a3 t0 t1 t2 t3 t4 t5 t6 t7 t8 t9 mn), (mm, dictA es' ep')] →
      New s.heap h' [(x, instObj 86 dx), (dx, textD w (lb + 1) tn ba gl 0 tl k0 k1 k2 k3 kn), (ba, baO (Array.replicate many.toNat 0))] → R (.ok (.ret (.ref x))) ⟨h', s.gens, s.drawn, tks, s.os⟩) (bad0 : many < 0 → ∀ e h' tks tk, ErrEnd w fl s.heap (.bytes (asBytes "rangecheck") tk) e h' → R (.error (.ref e)) ⟨h', s.gens, s.drawn, tks, s.os⟩) (bad1 : 0 ≤ many → tx < many → ∀ e h' tks tk, ErrEnd w fl s.heap (.bytes (asBytes "limitcheck") tk) e h' → R (.error (.ref e)) ⟨h', s.gens, s.drawn, tks, s.os⟩) (bad2 : 0 ≤ many → many ≤ tx → vm < u0 + u1 + many → ∀ e h' tks tk, ErrEnd w fl s.heap (.bytes (asBytes "VMerror") tk) e h' → R (.error (.ref e)) ⟨h', s.gens, s.drawn, tks, s.os⟩), codeC (model PG w) A (.call (.ref 324) ⟨[.ref mk, .int many tb], []⟩) R s
def KT (x : (World × (Result → Shared → Prop) × Shared × Heap × List Str × (ExcName → Option Value)) × ((Str → Option Value) × (Str → Option Value) × List Env × Int × Tok × Addr) × (Addr × Addr × Addr × Addr × Addr × Addr) × (Addr × Bool × Int × Int × Int × Int) × (Tok × Tok × Tok × Tok × Tok × Tok) × (Tok × Tok × Tok × Tok × Tok × Tok) × (Tok × Tok × Nat × List DictEntry × Nat × Int) × (Int × Tok × Tok × Array DictEntry × Nat × Nat)) : Prop := KP x.1.1 x.1.2.1 x.1.2.2.1 x.1.2.2.2.1 x.1.2.2.2.2.1 x.1.2.2.2.2.2 x.2.1.1 x.2.1.2.1 x.2.1.2.2.1 x.2.1.2.2.2.1 x.2.1.2.2.2.2.1 x.2.1.2.2.2.2.2 x.2.2.1.1 x.2.2.1.2.1 x.2.2.1.2.2.1 x.2.2.1.2.2.2.1 x.2.2.1.2.2.2.2.1 x.2.2.1.2.2.2.2.2 x.2.2.2.1.1 x.2.2.2.1.2.1 x.2.2.2.1.2.2.1 x.2.2.2.1.2.2.2.1 x.2.2.2.1.2.2.2.2.1 x.2.2.2.1.2.2.2.2.2 x.2.2.2.2.1.1 x.2.2.2.2.1.2.1 x.2.2.2.2.1.2.2.1 x.2.2.2.2.1.2.2.2.1 x.2.2.2.2.1.2.2.2.2.1 x.2.2.2.2.1.2.2.2.2.2 x.2.2.2.2.2.1.1 x.2.2.2.2.2.1.2.1 x.2.2.2.2.2.1.2.2.1 x.2.2.2.2.2.1.2.2.2.1 x.2.2.2.2.2.1.2.2.2.2.1 x.2.2.2.2.2.1.2.2.2.2.2 x.2.2.2.2.2.2.1.1 x.2.2.2.2.2.2.1.2.1 x.2.2.2.2.2.2.1.2.2.1 x.2.2.2.2.2.2.1.2.2.2.1 x.2.2.2.2.2.2.1.2.2.2.2.1 x.2.2.2.2.2.2.1.2.2.2.2.2 x.2.2.2.2.2.2.2.1 x.2.2.2.2.2.2.2.2.1 x.2.2.2.2.2.2.2.2.2.1 x.2.2.2.2.2.2.2.2.2.2.1 x.2.2.2.2.2.2.2.2.2.2.2.1 x.2.2.2.2.2.2.2.2.2.2.2.2
theorem Kex : ∃ x, KT x → ∀ y, KT y := drink ((anyW, (fun _ _ => True), {}, default, default, default), (default, default, default, default, default, default), (default, default, default, default, default, default), (default, default, default, default, default, default), (default, default, default, default, default, default), (default, default, default, default, default, default), (default, default, default, default, default, default), (default, default, default, default, default, default)) _
@[irreducible] def Kx0 := Classical.choose Kex
@[irreducible] def w := Kx0.1.1
@[irreducible] def R := Kx0.1.2.1
@[irreducible] def s := Kx0.1.2.2.1
@[irreducible] def b := Kx0.1.2.2.2.1
@[irreducible] def loose := Kx0.1.2.2.2.2.1
@[irreducible] def mean := Kx0.1.2.2.2.2.2
@[irreducible] def mg := Kx0.2.1.1
@[irreducible] def mb := Kx0.2.1.2.1
@[irreducible] def fl := Kx0.2.1.2.2.1
@[irreducible] def many := Kx0.2.1.2.2.2.1
@[irreducible] def tb := Kx0.2.1.2.2.2.2.1
@[irreducible] def mk := Kx0.2.1.2.2.2.2.2
@[irreducible] def mx := Kx0.2.2.1.1
@[irreducible] def lx := Kx0.2.2.1.2.1
@[irreducible] def lm := Kx0.2.2.1.2.2.1
@[irreducible] def sv := Kx0.2.2.1.2.2.2.1
@[irreducible] def jr := Kx0.2.2.1.2.2.2.2.1
@[irreducible] def mm := Kx0.2.2.1.2.2.2.2.2
@[irreducible] def fr := Kx0.2.2.2.1.1
@[irreducible] def gl := Kx0.2.2.2.1.2.1
@[irreducible] def u0 := Kx0.2.2.2.1.2.2.1
@[irreducible] def u1 := Kx0.2.2.2.1.2.2.2.1
@[irreducible] def lb := Kx0.2.2.2.1.2.2.2.2.1
@[irreducible] def ls := Kx0.2.2.2.1.2.2.2.2.2
@[irreducible] def a0 := Kx0.2.2.2.2.1.1
@[irreducible] def a1 := Kx0.2.2.2.2.1.2.1
@[irreducible] def a2 := Kx0.2.2.2.2.1.2.2.1
@[irreducible] def a3 := Kx0.2.2.2.2.1.2.2.2.1
@[irreducible] def t0 := Kx0.2.2.2.2.1.2.2.2.2.1
@[irreducible] def t1 := Kx0.2.2.2.2.1.2.2.2.2.2
@[irreducible] def t2 := Kx0.2.2.2.2.2.1.1
@[irreducible] def t3 := Kx0.2.2.2.2.2.1.2.1
@[irreducible] def t4 := Kx0.2.2.2.2.2.1.2.2.1
@[irreducible] def t5 := Kx0.2.2.2.2.2.1.2.2.2.1
@[irreducible] def t6 := Kx0.2.2.2.2.2.1.2.2.2.2.1
@[irreducible] def t7 := Kx0.2.2.2.2.2.1.2.2.2.2.2
@[irreducible] def t8 := Kx0.2.2.2.2.2.2.1.1
@[irreducible] def t9 := Kx0.2.2.2.2.2.2.1.2.1
@[irreducible] def mn := Kx0.2.2.2.2.2.2.1.2.2.1
@[irreducible] def lim := Kx0.2.2.2.2.2.2.1.2.2.2.1
@[irreducible] def ln := Kx0.2.2.2.2.2.2.1.2.2.2.2.1
@[irreducible] def vm := Kx0.2.2.2.2.2.2.1.2.2.2.2.2
@[irreducible] def tx := Kx0.2.2.2.2.2.2.2.1
@[irreducible] def tv := Kx0.2.2.2.2.2.2.2.2.1
@[irreducible] def tvx := Kx0.2.2.2.2.2.2.2.2.2.1
@[irreducible] def es := Kx0.2.2.2.2.2.2.2.2.2.2.1
@[irreducible] def ep := Kx0.2.2.2.2.2.2.2.2.2.2.2.1
@[irreducible] def n := Kx0.2.2.2.2.2.2.2.2.2.2.2.2
set_option maxRecDepth 100000
set_option maxHeartbeats 4000000
@[irreducible] def g : Heap := hideAll s.heap (((mkLed w mk mx lx lm sv jr mm fr gl u0 u1 lb ls a0 a1 a2 a3 t0 t1 t2 t3 t4 t5 t6 t7 t8 t9 mn lim ln es ep) : List (Addr × Obj)).map (·.1))
@[irreducible] def L' : Addr := s.heap.objs.size
theorem KgE  : g = hideAll s.heap (((mkLed w mk mx lx lm sv jr mm fr gl u0 u1 lb ls a0 a1 a2 a3 t0 t1 t2 t3 t4 t5 t6 t7 t8 t9 mn lim ln es ep) : List (Addr × Obj)).map (·.1)) := by with_unfolding_all rfl
theorem KlE : L' = s.heap.objs.size := by with_unfolding_all rfl
theorem at0 : KP w R s b loose mean mg mb fl many tb mk mx lx lm sv jr mm fr gl u0 u1 lb ls a0 a1 a2 a3 t0 t1 t2 t3 t4 t5 t6 t7 t8 t9 mn lim ln vm tx tv tvx es ep n := by
  intro A st G Bl hA ho D hv hx hn hn0 hz nf ok bad0 bad1 bad2
  subst hA
  refine' enterX' KgE KlE (binds := [(Str.ofString "self", .ref mk), (Str.ofString "many", .int many tb)]) st G D ?k6 ?k7 ?k8 ?k9 ?kB ?_ ?c2 ?c3 ?c4 ?c5
  walk_at "my enter"
  intro h' Z F' N'
  have G' := G.keeps Z.st
  have ⟨X', T', _, _, _, _, _⟩ := G'
  have Bg := Z.below Bl nf
  have ho' := ho
  obtain ⟨o1, o2, o3, o4, o5⟩ := ho
  dsimp only [mkLed] at N'
  refine wpC_execs_cons (.of ?_)
  walk_at "my go"
  · (try k_unfold); (try dsimp only)
    refine wpC_execs_cons (wpC_Return (wpC_CallMethod ?_))
    walk_at "my go"
    (try k_unfold); (try dsimp only)
    refine wpC_callK (K := hd.heap_1 w.params) (by k_is) ?_
    walk_at "my go"
    (rename Fr _ _ _ _ => myF); (rename News _ _ _ _ => myN)
    refine' octets_w ?C ?G ?a3 ?a4 ho' ?hm hv hx hn hn0 ?hz ?_ ?_ ?_
    case C => exact ⟨Bg, myF, myN, rfl, rfl, rfl, rfl⟩
    case G => assumption
    case a3 => exact Nat.le_of_ble_eq_true rfl
    case a4 => exact Nat.le_of_ble_eq_true rfl
    case hm => walk_at "my sub"
    case hz => rw [Array.size_replicate]; omega
    · rw [Array.size_replicate, Int.toNat_of_nonneg (by assumption)]
      intro hq1 hq2 x dx ba h9 tks9 tn tl k0 k1 k2 k3 kn u0' u1' a0' a1' a2' es' ep' e1 e2 hn' l1 l2 A9 W9
      walk_at "my new"
      (rename Fr _ _ _ _ => F9); (rename News _ _ _ _ => N9); (rename AllNew _ _ _ => nw9)
      refine' ok (by omega) (by omega) (by omega) x dx ba _ _ _ _ _ _ _ _ _ _ _ _ _ _ _ _ e1 e2 hn' l1 l2 (after_part F9 N9 Z ?c ?l) (new_of Z N9 nw9 ?d)
      case c => walk_at "my sub"
      case l => walk_at "my part"
      case d => walk_at "my sub"
    · rw [Array.size_replicate, Int.toNat_of_nonneg (by assumption)]
      intro hq1
      exfalso; omega
    · rw [Array.size_replicate, Int.toNat_of_nonneg (by assumption)]
      intro hq1 hq2 e9 h9 tks9 tk9 hE9
      walk_at "my err"
      exact bad2 (by omega) (by omega) (by omega) _ _ _ _ (by assumption)
  · walk_at "my err"
    exact bad0 (by omega) _ _ _ _ (by assumption)
  · walk_at "my err"
    exact bad1 (by omega) (by omega) _ _ _ _ (by assumption)
end K_mktext_c
end
theorem mktext_c {w : World} {R : Result → Shared → Prop} {s : Shared} {b : Heap} {loose : List Str} {mean : ExcName → Option Value} {mg mb : Str → Option Value} {fl : List Env} {many : Int} {tb : Tok} {mk mx lx lm sv jr mm fr : Addr} {gl : Bool} {u0 u1 lb ls : Int} {a0 a1 a2 a3 t0 t1 t2 t3 t4 t5 t6 t7 t8 t9 : Tok} {mn : Nat} {lim : List DictEntry} {ln : Nat} {vm tx : Int} {tv tvx : Tok} {es : Array DictEntry} {ep n : Nat} : K_mktext_c.KP w R s b loose mean mg mb fl many tb mk mx lx lm sv jr mm fr gl u0 u1 lb ls a0 a1 a2 a3 t0 t1 t2 t3 t4 t5 t6 t7 t8 t9 mn lim ln vm tx tv tvx es ep n :=
  @Classical.choose_spec _ _ K_mktext_c.Kex (by with_unfolding_all exact @K_mktext_c.at0) ((w, R, s, b, loose, mean), (mg, mb, fl, many, tb, mk), (mx, lx, lm, sv, jr, mm), (fr, gl, u0, u1, lb, ls), (a0, a1, a2, a3, t0, t1), (t2, t3, t4, t5, t6, t7), (t8, t9, mn, lim, ln, vm), (tx, tv, tvx, es, ep, n))
section
end
section
variable {w : World} {A : Around} {R : Result → Shared → Prop} {s : Shared} {b : Heap} {loose : List Str} {mean : ExcName → Option Value} {mg mb : Str → Option Value}
set_option maxRecDepth 100000
end
section
variable {w : World} {A : Around} {E : Value → Shared → Prop} {s : Shared}
set_option maxRecDepth 100000
theorem get_told {e de : Addr} {n : Nat} {tk : Tok} {vs : Array Value} {v : Value} {expr : Bool} {Q : Value → Shared → Prop} (X : (hd.heap_1 w.params).In s.heap) (he : s.heap.get? e = some ⟨.ref 45, some de, .fields vs, #[]⟩)
    (hde : s.heap.get? de = some (toldO w v tk n)) (hv : handedIn v = true) (h : Q v { s with toks := s.toks + 1 }) : wpAny (model PG w) A (getAttr (.ref e) (Str.ofString "told") expr) Q E s := by
  obtain ⟨hh, g, d, t, os⟩ := s
  have I : InstAt hh e ⟨.ref 45, some de, .fields vs, #[]⟩ 45 (some (toldO w v tk n)) := ⟨he, rfl, rfl, hde⟩
  have L0 := I.type (M := model PG w)
  have L1 := looks_findIn (M := model PG w) X (t := .ref 45) (name := "__getattribute__") (r := some (.builtin "BaseException.__getattribute__")) (by k_is)
  have L2 := looks_findIn (M := model PG w) X (t := .ref 45) (name := "__getattr__") (r := none) (by k_is)
  have LF := looks_find (M := model PG w) X I (findObj_own (name := Str.ofString "told") (v := v) (attr := none) (by k_is) (by k_is) (by k_is) (by with_unfolding_all rfl))
  have FB := PySem.F.attrBase_Exception
  have f3 := FB.ga.bind (.ref e)
  have hx0 : (expr && onTheHeap (Value.builtin "BaseException.__getattribute__")) = false := by cases expr <;> rfl
  have hx2 : (Value.builtin "BaseException.__getattribute__" == Value.builtin "object.__getattribute__") = false := by decide +kernel
  have hx1 : (onTheHeap (Value.ref 45) && Value.builtin "BaseException.__getattribute__" == Value.builtin "object.__getattribute__") = false := by rw [hx2]; rfl
  unfold getAttr getAttrBy
  refine wpAny_bind (wpAny_mkText (wpAny_holding (wpAny_bind (L0.at (wpAny_bind (L1.at ?_))))))
  dsimp only
  refine bm_if_false hx1 ?_
  unfold getAttrByItsOwn
  refine wpAny_bind ((show Looks (model PG w) hh (hookBefore (.ref 45)) none from L2).at ?_)
  refine wpAny_bind (wpAny_attempt (wpAny_holding ?_))
  unfold callGetattribute
  refine bm_if_false hx0 ?_
  have ty : Looks (model PG w) hh (typeOf (.ref e)) (.ref 45) := L0
  have sub : Looks (model PG w) hh (isInstance (.ref e) (.type "BaseException")) true := ty.andThen (looks_mroIn X (by k_is))
  unfold boundAndCalled
  refine wpAny_bind (wpAny_of_eq f3 ?_)
  dsimp only
  refine wpAny_call (codeAny_call_builtin FB.ga.plain PySem.F.entry_bexc_ga (@check_slot (model PG w) _ _ _ "BaseException.__getattribute__" "BaseException" "__getattribute__" (.ref e) [.str (Str.ofString "told") t] [] _ (by decide +kernel) (by decide +kernel) sub (PySem.F.args_bexc_ga (.ref e) (.str _ _)) ?_))
  show wpAny _ _ (Builtin.«object.__getattribute__» ⟨[.ref e, .str (Str.ofString "told") t], []⟩) _ _ _
  unfold Builtin.«object.__getattribute__»
  refine wpAny_bind (wpAny_pure ?_)
  dsimp only
  refine wpAny_bind (wpAny_pure ?_)
  refine wpAny_bind (ty.at (wpAny_bind (LF.at ?_)))
  refine wpAny_pure ?_
  show wpAny _ _ (handedOut v) _ _ _
  rw [handedOut_of hv]; exact wpAny_pure h
end
noncomputable abbrev tupO (vs : List Value) : Obj := { cls := .type "tuple", data := .seq vs.toArray }
theorem wpC_Try_except {M : Model} {A : Around} {E : Value → Shared → Prop} {s : Shared} {env : Env} {body orelse : List Stmt} {h₀ : ExceptHandler} {hs : List ExceptHandler} {pos : Pos} {Q : Flow → Shared → Prop}
    (h : wpC M A (execs body env) (fun f s₁ => match f with | .next => wpAny M A (execs orelse env) Q E s₁ | f => Q f s₁)
      (fun e s₁ => wpAny M A (noteFrame e env) (fun _ s₂ => wpAny M A (setFlight e none) (fun _ s₃ => wpAny M A (handleBy e env (h₀ :: hs)) Q E s₃) E s₂) E s₁) s) :
    wpC M A (exec (.Try body (h₀ :: hs) orelse [] pos) env) Q E s := by
  rw [arm_exec_Try]
  refine wpC_bind (wpC_standAt ?_)
  unfold tryStmt
  dsimp only [List.isEmpty]
  refine wpC_bind (wpC_attempt (wpC_mono h (fun f s₁ h₁ => ?_) fun e s₁ h₁ => ?_))
  · cases f <;> first | exact .of h₁ | exact wpC_pure h₁
  · exact .of (wpAny_bind (wpAny_mono h₁ (fun _ _ h₂ => wpAny_bind h₂) fun _ _ x => x))

theorem handle_fault {w : World} {A : Around} {E : Value → Shared → Prop} {s : Shared} {env : Env} {e : Addr} {t : Expr} {n : Str} {b₀ : Stmt} {suite : List Stmt} {pos : Pos} {rest : List ExceptHandler} {Q : Flow → Shared → Prop}
    (h : wpAny (model PG w) (A.mark (some (.ref e))) (eval t env) (fun c s₁ => c = .ref 45 ∧ (hd.heap_1 w.params).In s₁.heap ∧ (∃ oe, s₁.heap.get? e = some oe ∧ oe.cls = .ref 45) ∧
      wpAny (model PG w) (A.mark (some (.ref e))) (setFlight (.ref e) none) (fun _ s₂ =>
          wpAny (model PG w) (A.mark (some (.ref e))) (storeName env n (.ref e)) (fun _ s₃ =>
            wpAny (model PG w) (A.mark (some (.ref e))) (execs (b₀ :: suite) env)
              (fun f s₄ => wpAny (model PG w) A (do bindName env n .none; unbindBehindTheSuite env n pos) (fun _ s₅ => Q f s₅) E s₄)
              (fun _ _ => False) s₃) (fun _ _ => False) s₂) (fun _ _ => False) s₁) (fun _ _ => False) s) :
    wpAny (model PG w) A (handleBy (.ref e) env (.ExceptHandler (some t) (some n) (b₀ :: suite) pos :: rest)) Q E s := by
  refine wpAny_handleBy_cons (codeAny_handlers_test (wpAny_mono h (fun c s₁ h₁ => ?_) fun _ _ y => y.elim)) (by intro q; cases q)
  obtain ⟨rfl, X, ⟨oe, he, hcls⟩, hk⟩ := h₁
  have LT : Looks (model PG w) s₁.heap (typeOf (.ref e)) (.ref 45) := hcls ▸ (Looks.ld he).andThen .now
  refine (exm_one X LT (b := true) (by rfl)).here ?_
  refine codeAny_handlers_suite_as ?_
  refine wpAny_mono hk (fun _ s₂ h₂ => wpAny_mono h₂ (fun _ s₃ h₃ => wpAny_mono h₃ (fun _ _ y => y) fun _ _ y => y.elim) fun _ _ y => y.elim) fun _ _ y => y.elim
theorem wpC_callF0 {M : Model} {A : Around} {E : Value → Shared → Prop} {s : Shared} {env : Env} {pos : Pos} {f : Addr} {oF : Obj} {fd : FuncData} {Q : Value → Shared → Prop} (hf : s.heap.get? f = some oF) (hfd : oF.data = .func fd) (h : wpC M A (call (.ref f) [] []) Q E s) :
    wpC M A (callWith pos (.ref f) [] (backTo pos (starEach [] env)) (backToKw pos (keywordEach [] env))) Q E s := by
  refine wpC_callWith (P := fun h => h.get? f = some oF) (args := []) (keywords := []) rfl (fun h hh => ⟨.frame, .inl rfl, ?_⟩) (evalArgs_kw2_nil (env := env) (pos := pos) (kws := []) rfl (kwAll_nil (env := env) (pos := pos) ⟨hf, h⟩))
  obtain ⟨oc, od, odt, osl⟩ := oF
  dsimp only at hfd
  subst hfd
  exact (Looks.ld (part := none) hh).andThen .now
theorem mk_tup {M : Model} {A : Around} {E : Value → Shared → Prop} {s : Shared} {vs : List Value} {Q : Value → Shared → Prop} (hz : vs.length ≤ 1000) (h : Q (.ref s.heap.objs.size) { s with heap := s.heap.push (tupO vs) }) : wpAny M A (newTuple vs) Q E s := by
  unfold newTuple
  exact wpAny_newObj_type h (by show vs.toArray.size ≤ sizeLine; rw [List.size_toArray, sizeLine_eq]; omega)
theorem new_push {g h : Heap} {L : Addr} {m : Str → Option Value} {news : List (Addr × Obj)} {o : Obj} (hof : o.isFreed = false) (F : Fr g L h m) (N : News g L h news) : Fr g L (h.push o) m ∧ News g L (h.push o) ((h.objs.size, o) :: news) :=
  new_obj F N (fun _ _ e => Heap.get?_push_of_some _ e) (Heap.get?_none_of_le (Nat.le_refl _)) (Heap.get?_push_size _ hof)
theorem mk_tupF {M : Model} {A : Around} {E : Value → Shared → Prop} {s : Shared} {g : Heap} {L : Addr} {m : Str → Option Value} {news : List (Addr × Obj)} {vs : List Value} {Q : Value → Shared → Prop} (F : Fr g L s.heap m) (N : News g L s.heap news) (hz : vs.length ≤ 1000)
    (h : ∀ D h', Fr g L h' m → News g L h' ((D, tupO vs) :: news) → (∀ p ∈ news, p.1 < D) → L < D → Q (.ref D) { s with heap := h' }) : wpAny M A (newTuple vs) Q E s := by
  refine mk_tup hz ?_
  obtain ⟨F', N'⟩ := new_push (o := tupO vs) rfl F N
  obtain ⟨o, ho, _⟩ := fr_obj F
  exact h _ _ F' N' (fun p hp => Heap.lt_size (N p hp).1) (Heap.lt_size ho)
noncomputable section
namespace K_fly_ground
def KP (w : World) (b g h0 h2 h5 B : Heap) (L L1 L2 : Addr) (m : Str → Option Value) (o1 o2 : Obj) (env env1 env2 : Env) (e de : Addr) (v flv : Value) (led : List (Addr × Obj)) : Prop := ∀  (st : b.StaysIn h0) (FF : h0.FunFrames b [env2, env1]) (hf : env.frame = some L) (hf1 : env1.frame = some L1) (hf2 : env2.frame = some L2) (ho1 : h0.get? L1 = some o1) (ho2 : h0.get? L2 = some o2) (Z : Got b h0 g led L) (F2 : Fr g L h2 m) (kp : ∀ a o, h0.get? a = some o → h2.get? a = some o) (kB : ∀ a o, h2.get? a = some o → a ∉ [env, env2, env1].filterMap (·.frame) → B.get? a = some o) (fy : Fly w B [env, env2, env1] e de v flv h5) (up : h2.UpToSlots h5), b.StaysIn (hideAll h0 [L1, L2]) ∧ Fr (hideAll h0 [L1, L2]) L h5 m ∧ (∃ sl1 sl2, News (hideAll h0 [L1, L2]) L h5 [(L1, { o1 with slots := sl1 }), (L2, { o2 with slots := sl2 })]) ∧
      (∃ vs, h5.get? e = some ⟨.ref 45, some de, .fields vs, #[]⟩) ∧ (∃ tk n, h5.get? de = some (toldO w v tk n)) ∧ de ≠ L ∧ e ≠ L
def KT (x : (World × Heap × Heap × Heap × Heap × Heap) × (Heap × Addr × Addr × Addr × (Str → Option Value) × Obj) × (Obj × Env × Env × Env × Addr × Addr) × (Value × Value × (List (Addr × Obj)))) : Prop := KP x.1.1 x.1.2.1 x.1.2.2.1 x.1.2.2.2.1 x.1.2.2.2.2.1 x.1.2.2.2.2.2 x.2.1.1 x.2.1.2.1 x.2.1.2.2.1 x.2.1.2.2.2.1 x.2.1.2.2.2.2.1 x.2.1.2.2.2.2.2 x.2.2.1.1 x.2.2.1.2.1 x.2.2.1.2.2.1 x.2.2.1.2.2.2.1 x.2.2.1.2.2.2.2.1 x.2.2.1.2.2.2.2.2 x.2.2.2.1 x.2.2.2.2.1 x.2.2.2.2.2
theorem Kex : ∃ x, KT x → ∀ y, KT y := drink ((anyW, default, default, default, default, default), (default, default, default, default, default, anyO), (anyO, anyE, anyE, anyE, default, default), (default, default, default)) _
@[irreducible] def Kx0 := Classical.choose Kex
@[irreducible] def w := Kx0.1.1
@[irreducible] def b := Kx0.1.2.1
@[irreducible] def g := Kx0.1.2.2.1
@[irreducible] def h0 := Kx0.1.2.2.2.1
@[irreducible] def h2 := Kx0.1.2.2.2.2.1
@[irreducible] def h5 := Kx0.1.2.2.2.2.2
@[irreducible] def B := Kx0.2.1.1
@[irreducible] def L := Kx0.2.1.2.1
@[irreducible] def L1 := Kx0.2.1.2.2.1
@[irreducible] def L2 := Kx0.2.1.2.2.2.1
@[irreducible] def m := Kx0.2.1.2.2.2.2.1
@[irreducible] def o1 := Kx0.2.1.2.2.2.2.2
@[irreducible] def o2 := Kx0.2.2.1.1
@[irreducible] def env := Kx0.2.2.1.2.1
@[irreducible] def env1 := Kx0.2.2.1.2.2.1
@[irreducible] def env2 := Kx0.2.2.1.2.2.2.1
@[irreducible] def e := Kx0.2.2.1.2.2.2.2.1
@[irreducible] def de := Kx0.2.2.1.2.2.2.2.2
@[irreducible] def v := Kx0.2.2.2.1
@[irreducible] def flv := Kx0.2.2.2.2.1
@[irreducible] def led := Kx0.2.2.2.2.2
set_option maxRecDepth 100000
set_option maxHeartbeats 4000000
theorem at0 : KP w b g h0 h2 h5 B L L1 L2 m o1 o2 env env1 env2 e de v flv led := by
  intro st FF hf hf1 hf2 ho1 ho2 Z F2 kp kB fy up
  obtain ⟨_, ⟨L2', o2', q2, b2, x2, d2⟩, _, ⟨L1', o1', q1, b1, x1, d1⟩, _⟩ := FF
  rw [hf1] at q1; cases q1
  rw [hf2] at q2; cases q2
  rw [ho1] at x1; cases x1
  rw [ho2] at x2; cases x2
  have hm : ∀ a, a ∈ [env, env2, env1].filterMap (·.frame) ↔ a = L ∨ a = L2 ∨ a = L1 := fun a => by simp [hf, hf1, hf2]
  have hLn := Z.new
  have hn1 : L1 ≠ L := fun q => by rw [q, hLn] at ho1; cases ho1
  have hn2 : L2 ≠ L := fun q => by rw [q, hLn] at ho2; cases ho2
  have off : ∀ a o, (hideAll h0 [L1, L2]).get? a = some o → h5.get? a = some o := fun a o q => by
    have q0 := of_hideAll _ q
    have m1 : a ≠ L1 := fun z => by rw [z, hideAll_none _ (.head _)] at q; cases q
    have m2 : a ≠ L2 := fun z => by rw [z, hideAll_none _ (.tail _ (.head _))] at q; cases q
    have m3 : a ≠ L := fun z => by rw [z, hLn] at q0; cases q0
    exact fy.stays _ _ (kB _ _ (kp _ _ q0) fun z => by rcases (hm a).mp z with z | z | z <;> contradiction)
  obtain ⟨sl1, hs1⟩ := up _ _ (kp _ _ ho1) d1
  obtain ⟨sl2, hs2⟩ := up _ _ (kp _ _ ho2) d2
  obtain ⟨vs, T, oT, ts, he, _⟩ := fy.there
  obtain ⟨tk, n, hde⟩ := fy.told
  obtain ⟨_, ⟨L3, o3, q3, b3, x3, d3⟩, _⟩ := fy.frames
  rw [hf] at q3; cases q3
  refine ⟨fun a o q => hideAll_get _ (st _ _ q) fun z => ?_, ⟨up.ns F2.ns, off, by rw [hideAll_size]; exact Nat.le_of_eq Z.sz⟩, ⟨sl1, sl2, fun p hp => ?_⟩, ⟨vs, he⟩, ⟨tk, n, fy.stays _ _ hde⟩, fun z => ?_, fun z => ?_⟩
  · simp only [List.mem_cons, List.not_mem_nil, or_false] at z
    rcases z with rfl | rfl
    · rw [b1] at q; cases q
    · rw [b2] at q; cases q
  · simp only [List.mem_cons, List.not_mem_nil, or_false] at hp
    rcases hp with rfl | rfl
    · exact ⟨hs1, hn1, hideAll_none _ (.head _)⟩
    · exact ⟨hs2, hn2, hideAll_none _ (.tail _ (.head _))⟩
  · rw [z, b3] at hde; cases hde
  · rw [z, x3] at he
    exact d3 _ (by rw [Option.some.inj he])
end K_fly_ground
end
theorem fly_ground {w : World} {b g h0 h2 h5 B : Heap} {L L1 L2 : Addr} {m : Str → Option Value} {o1 o2 : Obj} {env env1 env2 : Env} {e de : Addr} {v flv : Value} {led : List (Addr × Obj)} : K_fly_ground.KP w b g h0 h2 h5 B L L1 L2 m o1 o2 env env1 env2 e de v flv led :=
  @Classical.choose_spec _ _ K_fly_ground.Kex (by with_unfolding_all exact @K_fly_ground.at0) ((w, b, g, h0, h2, h5), (B, L, L1, L2, m, o1), (o2, env, env1, env2, e, de), (v, flv, led))
def DeedR (w : World) (fl : List Env) (Ok : Value → List (Addr × Obj) → List (Addr × Obj) → Prop) (Bad : String → Prop) (s : Shared) : Result → Shared → Prop
  | .ok (.ret v), s' => ∃ chg nw h' tks, s' = ⟨h', s.gens, s.drawn, tks, s.os⟩ ∧ Ok v chg nw ∧ After s.heap h' chg ∧ New s.heap h' nw
  | .error (.ref e), s' => ∃ nm tk h' tks, s' = ⟨h', s.gens, s.drawn, tks, s.os⟩ ∧ Bad nm ∧ ErrEnd w fl s.heap (.bytes (asBytes nm) tk) e h'
  | _, _ => False
theorem DeedR.two {w : World} {fl : List Env} {Ok : Value → List (Addr × Obj) → List (Addr × Obj) → Prop} {Bad : String → Prop} {s s' : Shared} {r : Result} (D : DeedR w fl Ok Bad s r s') : (∃ v, r = .ok (.ret v)) ∨ ∃ e, r = .error (.ref e) := by
  cases r with
  | ok f => cases f <;> first | exact .inl ⟨_, rfl⟩ | exact D.elim
  | error v => cases v <;> first | exact .inr ⟨_, rfl⟩ | exact D.elim
theorem go_led {g h h' : Heap} {L : Addr} {m : Str → Option Value} {led chg nw : List (Addr × Obj)} (F : Fr g L h m) (N : News g L h led) (Af : After h h' chg) (W : New h h' nw) (hc : ∀ p ∈ chg, ∃ o, (p.1, o) ∈ led) :
    Fr g L h' m ∧ News g L h' (nw ++ (chg ++ led.filter fun p => (chg.map (·.1)).all fun a => a != p.1)) := by
  have hL : L < h.objs.size := by obtain ⟨o, es, ep, ho, _⟩ := F.ns; exact Heap.lt_size ho
  refine ⟨after_fr F Af (chg_of N hc), fun p hp => ?_⟩
  rcases List.mem_append.mp hp with hp | hp
  · refine ⟨(W p hp).2, Nat.ne_of_gt (Nat.lt_of_lt_of_le hL (W p hp).1), ?_⟩
    cases e : g.get? p.1 with
    | none => rfl
    | some o => have := F.keep _ o e; rw [W.none p hp] at this; cases this
  · rcases List.mem_append.mp hp with hp | hp
    · exact ⟨Af.now p hp, chg_of N hc p hp⟩
    · obtain ⟨hp, hq⟩ := List.mem_filter.mp hp
      refine ⟨Af.keep _ _ (N p hp).1 fun q hq' e => ?_, (N p hp).2⟩
      have := List.all_eq_true.mp hq q.1 (List.mem_map_of_mem hq')
      rw [e] at this; simp at this
theorem end_led {b h0 g h : Heap} {L : Addr} {m : Str → Option Value} {led chg nw : List (Addr × Obj)} (Z : Got b h0 g led L) (F : Fr g L h m) (N : News g L h (nw ++ (chg ++ led.filter fun p => (chg.map (·.1)).all fun a => a != p.1))) : After h0 h chg := by
  refine ⟨fun p hp => (N p (List.mem_append_right _ (List.mem_append_left _ hp))).1, fun a o q n => ?_⟩
  by_cases z : a ∈ led.map (·.1)
  · obtain ⟨p, hp, rfl⟩ := List.mem_map.mp z
    have := (Z.D p hp).1
    rw [q] at this; cases this
    refine (N p (List.mem_append_right _ (List.mem_append_right _ (List.mem_filter.mpr ⟨hp, List.all_eq_true.mpr fun x hx => ?_⟩)))).1
    obtain ⟨c, hc, rfl⟩ := List.mem_map.mp hx
    simpa using n c hc
  · exact F.keep a o (Z.kp a o q z)
noncomputable section
namespace K_outcome_c
def KP (w : World) (R : Result → Shared → Prop) (s : Shared) (b : Heap) (loose : List Str) (mean : ExcName → Option Value) (mg mb : Str → Option Value) (f L1 L2 : Addr) (o1 o2 oF : Obj) (fd : FuncData) (env1 env2 : Env) (led : List (Addr × Obj)) (Ok : Value → List (Addr × Obj) → List (Addr × Obj) → Prop) (Bad : String → Prop) : Prop := ∀ {A : Around} (st : b.StaysIn s.heap) (G : Gd w loose mean mg mb b) (Bl : Below A b [env2, env1] s.heap) (hA : A = { depth := 400, units := 1800, frames := some [env2, env1], handled := none, guards := none }) (hf1 : env1.frame = some L1) (hf2 : env2.frame = some L2) (ho1 : s.heap.get? L1 = some o1) (ho2 : s.heap.get? L2 = some o2) (hne : L1 ≠ L2) (D : Led b s.heap led) (nf : ∀ env ∈ [env2, env1], ∀ p ∈ led, env.frame ≠ some p.1) (hf : s.heap.get? f = some oF) (hfd : oF.data = .func fd) (hfl : f ∉ led.map (·.1)) (hchg : ∀ v chg nw, Ok v chg nw → ∀ p ∈ chg, ∃ o, (p.1, o) ∈ led) (hdeed : ∀ h₁ tks env, (∀ a o, s.heap.get? a = some o → h₁.get? a = some o) → h₁.FunFrames b [env, env2, env1] → (∀ a o, s.heap.get? a = some o → env.frame ≠ some a) → b.StaysIn h₁ →
      codeC (model PG w) { depth := 420, units := 1900, frames := some [env, env2, env1], handled := none, guards := none } (.call (.ref f) ⟨[], []⟩) (DeedR w [env, env2, env1] Ok Bad ⟨h₁, s.gens, s.drawn, tks, s.os⟩) ⟨h₁, s.gens, s.drawn, tks, s.os⟩) (ok : ∀ v chg nw h' tks tp, Ok v chg nw → After s.heap h' chg → New s.heap h' ((tp, tupO [.bool true, v]) :: nw) → (∀ q ∈ nw, q.1 < tp) → R (.ok (.ret (.ref tp))) ⟨h', s.gens, s.drawn, tks, s.os⟩) (bad : ∀ nm tk h' tks tp sl1 sl2, Bad nm → After s.heap h' [(L1, { o1 with slots := sl1 }), (L2, { o2 with slots := sl2 })] → New s.heap h' [(tp, tupO [.bool false, .bytes (asBytes nm) tk])] → R (.ok (.ret (.ref tp))) ⟨h', s.gens, s.drawn, tks, s.os⟩), codeC (model PG w) A (.call (.ref 378) ⟨[.ref f], []⟩) R s
def KT (x : (World × (Result → Shared → Prop) × Shared × Heap × List Str × (ExcName → Option Value)) × ((Str → Option Value) × (Str → Option Value) × Addr × Addr × Addr × Obj) × (Obj × Obj × FuncData × Env × Env × (List (Addr × Obj))) × ((Value → List (Addr × Obj) → List (Addr × Obj) → Prop) × (String → Prop))) : Prop := KP x.1.1 x.1.2.1 x.1.2.2.1 x.1.2.2.2.1 x.1.2.2.2.2.1 x.1.2.2.2.2.2 x.2.1.1 x.2.1.2.1 x.2.1.2.2.1 x.2.1.2.2.2.1 x.2.1.2.2.2.2.1 x.2.1.2.2.2.2.2 x.2.2.1.1 x.2.2.1.2.1 x.2.2.1.2.2.1 x.2.2.1.2.2.2.1 x.2.2.1.2.2.2.2.1 x.2.2.1.2.2.2.2.2 x.2.2.2.1 x.2.2.2.2
theorem Kex : ∃ x, KT x → ∀ y, KT y := drink ((anyW, (fun _ _ => True), {}, default, default, default), (default, default, default, default, default, anyO), (anyO, anyO, default, anyE, anyE, default), ((fun _ _ _ => True), (fun _ => True))) _
@[irreducible] def Kx0 := Classical.choose Kex
@[irreducible] def w := Kx0.1.1
@[irreducible] def R := Kx0.1.2.1
@[irreducible] def s := Kx0.1.2.2.1
@[irreducible] def b := Kx0.1.2.2.2.1
@[irreducible] def loose := Kx0.1.2.2.2.2.1
@[irreducible] def mean := Kx0.1.2.2.2.2.2
@[irreducible] def mg := Kx0.2.1.1
@[irreducible] def mb := Kx0.2.1.2.1
@[irreducible] def f := Kx0.2.1.2.2.1
@[irreducible] def L1 := Kx0.2.1.2.2.2.1
@[irreducible] def L2 := Kx0.2.1.2.2.2.2.1
@[irreducible] def o1 := Kx0.2.1.2.2.2.2.2
@[irreducible] def o2 := Kx0.2.2.1.1
@[irreducible] def oF := Kx0.2.2.1.2.1
@[irreducible] def fd := Kx0.2.2.1.2.2.1
@[irreducible] def env1 := Kx0.2.2.1.2.2.2.1
@[irreducible] def env2 := Kx0.2.2.1.2.2.2.2.1
@[irreducible] def led := Kx0.2.2.1.2.2.2.2.2
@[irreducible] def Ok := Kx0.2.2.2.1
@[irreducible] def Bad := Kx0.2.2.2.2
set_option maxRecDepth 100000
set_option maxHeartbeats 4000000
theorem kwD5d51 : True := by
  k_with "newTuple" => ((fail_if_success (fail_if_success (have zz := env2))); (k_here; k_dflt (refine' mk_tupF ?Fx9b7 ?Nx9b7 ?zx9b7 ?_; (case Fx9b7 => k_asm); (case Nx9b7 => k_asm); (case zx9b7 => exact Nat.le_of_ble_eq_true rfl); k_whole); intro D' h' F' N' l1 l2; (try k_lt l1); (try k_sweep)))
  k_with "getAttr ref" => (k_here; (with_reducible show wpAny _ _ (getAttr (Value.ref _) (Str.ofString "told") _) _ _ _); k_dflt (refine' get_told ?ax764 ?bx764 ?cx764 ?dx764 ?_; (case ax764 => assumption); (case bx764 => assumption); (case cx764 => assumption); (case dx764 => exact rfl); k_whole))
  exact trivial
@[irreducible] def g : Heap := hideAll s.heap ((led : List (Addr × Obj)).map (·.1))
@[irreducible] def L' : Addr := s.heap.objs.size
theorem KgE  : g = hideAll s.heap ((led : List (Addr × Obj)).map (·.1)) := by with_unfolding_all rfl
theorem KlE : L' = s.heap.objs.size := by with_unfolding_all rfl
theorem at0 : KP w R s b loose mean mg mb f L1 L2 o1 o2 oF fd env1 env2 led Ok Bad := by
  intro A st G Bl hA hf1 hf2 ho1 ho2 hne D nf hf hfd hfl hchg hdeed ok bad
  subst hA
  refine' enterX' KgE KlE (binds := [(Str.ofString "deed", .ref f)]) st G D ?k6 ?k7 ?k8 ?k9 ?kB ?_ ?c2 ?c3 ?c4 ?c5
  walk_at "my enter"
  intro h' Z F' N'
  have G' := G.keeps Z.st
  have ⟨X', T', _, _, _, _, _⟩ := G'
  have Bg := Z.below Bl nf
  refine wpC_execs_cons (wpC_Try_except ?_)
  refine wpC_execs_cons (wpC_Assign_Name (wpC_Tuple2 (by rfl) ?_))
  walk_at "my go"
  (try k_unfold); (try dsimp only)
  refine wpC_CallName ?_
  walk_at "my go"
  (try k_unfold); (try dsimp only)
  rename Fr _ _ _ _ => F2
  rename News _ _ _ _ => N2
  have C : ∀ env : Env, env.frame = some L' → env.scope.kind = .function → Caller { depth := 400, units := 1800, frames := some [env2, env1], handled := none, guards := none } (({ depth := 400, units := 1800, frames := some [env2, env1], handled := none, guards := none } : Around).deeper env) b env [env2, env1] g L' _ _ led := fun env hl hk => ⟨Bg, F2, N2, rfl, hl, hk, rfl⟩
  have kp := keep_all F2 N2 Z fun p hp => hp
  have hfn : _ = some oF := kp f oF hf
  refine wpC_callF0 hfn hfd ?_
  refine wpC_call (codeC_room (codeC_mono (hdeed _ _ _ kp ?e1 ?e2 ?e3) ?_) rfl (Nat.le_of_ble_eq_true rfl) (.inr rfl) rfl (Nat.le_of_ble_eq_true rfl))
  case e1 => exact (C _ rfl rfl).below.frames
  case e2 => exact fun a o q z => by have z' : L' = a := Option.some.inj z; rw [← z', Z.new] at q; cases q
  case e3 => exact fun a o q => F2.keep _ _ (Z.st _ _ q)
  intro r s3 hr
  rcases hr.two with ⟨v, rfl⟩ | ⟨e, rfl⟩
  · obtain ⟨chg, nw, h3, tks3, rfl, hO, Af, W⟩ := hr
    obtain ⟨F3, N3⟩ := go_led F2 N2 Af W (hchg _ _ _ hO)
    have hLs : s.heap.objs.size ≤ h3.objs.size := by
      obtain ⟨o, ho, _⟩ := fr_obj F3
      rw [Z.sz]; exact Nat.le_of_lt (Heap.lt_size ho)
    have hsz : s.heap.objs.size ≤ _ := Nat.le_of_eq Z.sz
    have hW2 : ∀ p ∈ nw, s.heap.objs.size ≤ p.1 := fun p hp => by
      obtain ⟨o, ho, _⟩ := fr_obj F2
      exact Nat.le_trans (by rw [Z.sz]; exact Nat.le_of_lt (Heap.lt_size ho)) (W p hp).1
    have hW3 : ∀ p ∈ nw, p.1 < h3.objs.size := fun p hp => Heap.lt_size (W p hp).2
    clear F2 N2 C
    dsimp only
    (try k_unfold); (try dsimp only)
    refine mk_tup (Nat.le_of_ble_eq_true rfl) ?_
    obtain ⟨F4, N4⟩ := new_push (o := tupO [.bool true, v]) rfl F3 N3
    clear F3 N3
    dsimp only
    walk_at "my go"
    (try k_unfold); (try dsimp only)
    refine wpC_execs_nil ?_
    (try dsimp only)
    walk_at "my go"
    (try k_unfold); (try dsimp only)
    refine wpC_execs_cons (wpC_Return (.of ?_))
    walk_at "my go"
    rename Fr _ _ _ _ => F9
    rename News _ _ _ _ => N9
    refine ok _ chg nw _ _ _ hO (end_led (nw := (h3.objs.size, tupO [.bool true, v]) :: nw) Z F9 N9) (fun p hp => ⟨?_, (N9 p (List.mem_append_left _ hp)).1⟩) hW3
    rcases List.mem_cons.mp hp with rfl | hp
    · exact hLs
    · exact hW2 p hp
  · obtain ⟨nm, tkf, h3, tks3, rfl, hBad, B, de, kB, fy, up⟩ := hr
    dsimp only
    (try k_unfold); (try dsimp only)
    refine fly_note rfl rfl fy fun h4 fy4 up4 => ?_
    refine fly_set fy4 fun h5 fy5 up5 => ?_
    obtain ⟨st6, F6, ⟨sl1, sl2, N6⟩, ⟨vs, he⟩, ⟨tk', n', hde⟩, hdl, hel⟩ := fly_ground st Bl.frames rfl hf1 hf2 ho1 ho2 Z F2 kp kB fy5 (up.trans (up4.trans up5))
    have G6 := G.keeps st6
    have ⟨X6, T6, _, _, _, _, _⟩ := G6
    refine handle_fault ?_
    clear N6 G' X' T' Bg C
    walk_at "my go"
    refine fly_set fy5 fun h6 fy6 up6 => ?_
    obtain ⟨_, F7, ⟨sl1, sl2, N7⟩, ⟨vs, he⟩, ⟨tk', n', hde⟩, hdl, hel⟩ := fly_ground st Bl.frames rfl hf1 hf2 ho1 ho2 Z F2 kp kB fy6 (up.trans (up4.trans (up5.trans up6)))
    clear F6 F2 N2
    refine wpAny_storeName_local (by with_unfolding_all rfl) F7.ns (fun h7 ns7 sb7 => ?_) rfl
    have F8 := F7.set ns7 sb7
    have N8 : News _ L' h7 _ := fun p hp => ⟨(sb7.2 p.1 (N7 p hp).2.1).trans (N7 p hp).1, (N7 p hp).2⟩
    have he8 := (sb7.2 e hel).trans he
    have hde8 := (sb7.2 de hdl).trans hde
    have X8 := X6.keeps F8.keep
    clear F7 N7
    walk_at "my go"
    (try k_unfold); (try dsimp only)
    refine wpC_execs_cons (wpC_Return (.of ?_))
    walk_at "my go"
    rename Fr _ _ _ _ => F9
    rename News _ _ _ _ => N9
    refine bad nm tkf _ _ _ sl1 sl2 hBad ⟨fun p hp => (N9 p (.tail _ hp)).1, fun a o q n => F9.keep _ _ (hideAll_get _ q fun z => ?_)⟩ (fun p hp => ?_)
    · simp only [List.mem_cons, List.not_mem_nil, or_false] at z
      rcases z with rfl | rfl
      · exact n (_, _) (.head _) rfl
      · exact n (_, _) (.tail _ (.head _)) rfl
    · obtain rfl := List.mem_singleton.mp hp
      exact ⟨by rw [Z.sz]; exact Nat.le_of_lt (by assumption), (N9 _ (.head _)).1⟩
end K_outcome_c
end
theorem outcome_c {w : World} {R : Result → Shared → Prop} {s : Shared} {b : Heap} {loose : List Str} {mean : ExcName → Option Value} {mg mb : Str → Option Value} {f L1 L2 : Addr} {o1 o2 oF : Obj} {fd : FuncData} {env1 env2 : Env} {led : List (Addr × Obj)} {Ok : Value → List (Addr × Obj) → List (Addr × Obj) → Prop} {Bad : String → Prop} : K_outcome_c.KP w R s b loose mean mg mb f L1 L2 o1 o2 oF fd env1 env2 led Ok Bad :=
  @Classical.choose_spec _ _ K_outcome_c.Kex (by with_unfolding_all exact @K_outcome_c.at0) ((w, R, s, b, loose, mean), (mg, mb, f, L1, L2, o1), (o2, oF, fd, env1, env2, led), (Ok, Bad))
section
end
theorem iter_vals {prog : Program} {w : World} {A : Around} {E : Value → Shared → Prop} {s : Shared} {env : Env} {h₀ : Heap} {x : Str} {body : List Stmt} {Q : Flow → Shared → Prop} {l : Addr} {vs : List Value} {m₀ : Str → Option Value} {news : List (Addr × Obj)} (J : Nat → Prop)
    (hh : A.handled = none) (hl : h₀.IsList l vs.toArray) (F : Fr h₀ env.locals s.heap m₀) (N : News h₀ env.locals s.heap news) (hj : J 0)
    (turn : ∀ i v u h tk own, vs[i]? = some v → J i → Fr h₀ env.locals h (fun y => if y = x then u else m₀ y) → News h₀ env.locals h (news ++ own) → u = some v →
      wpAny (model prog w) A (execs body env) (InvPost h₀ env.locals (fun m => J (i + 1) ∧ ∀ y, y ≠ x → m y = m₀ y) (own ++ news) { s with heap := h, toks := tk } Q) E { s with heap := h, toks := tk })
    (done : ∀ u h tk, J vs.length → Fr h₀ env.locals h (fun y => if y = x then u else m₀ y) → News h₀ env.locals h news → Q .next { s with heap := h, toks := tk }) :
    wpAny (model prog w) A (pyIter (.ref l)) (fun it s₂ => LoopAtV prog w A h₀ env x body Q E it s₂) E s := by
  have hls : s.heap.IsList l vs.toArray := hl.at fun o e => F.keep l o e
  obtain ⟨ol, hol, _⟩ := id hl
  have hlt : l < h₀.objs.size := Heap.lt_size hol
  have hne : l ≠ s.heap.objs.size := Nat.ne_of_lt (Nat.lt_trans (Nat.lt_of_lt_of_le hlt F.above) F.ns.lt)
  refine wpAny_pyIter_list hls ?_
  have W := Walks.list (prog := prog) (w := w) hh s.heap.objs.size l hne vs.toArray
  have hlen : vs.toArray.size = vs.length := by simp
  rw [hlen] at W
  let J' : Nat → (Str → Option Value) → List (Addr × Obj) → Prop := fun i m₁ news₁ => news₁ = news ∧ (J i ∧ ∀ y, y ≠ x → m₁ y = m₀ y)
  refine ⟨_, _, _, vs.length, _, _, m₀, news, J', rfl, W, ?_, ?_, ?_, ⟨⟨_, Heap.get?_push_size _ rfl, rfl, rfl⟩, hls.at fun o e => Heap.get?_push_of_some _ e⟩, F.push _, (fun p hp => ⟨Heap.get?_push_of_some _ (N p hp).1, (N p hp).2⟩), ⟨rfl, hj, fun _ _ => rfl⟩, ?_, ?_⟩
  · intro hm
    rcases List.mem_cons.mp hm with e | hm
    · exact absurd F.ns.lt (e ▸ Nat.lt_irrefl _)
    · exact absurd (Nat.lt_of_lt_of_le hlt F.above) ((List.mem_singleton.mp hm) ▸ Nat.lt_irrefl _)
  · intro b hb
    rw [List.mem_singleton.mp hb]
    exact next_is_new F
  · intro p hp hI
    exact absurd (Heap.lt_size (N p hp).1) ((List.mem_singleton.mp hI) ▸ Nat.lt_irrefl _)
  · rintro i v m₁ news₁ s₁ own ⟨hh', tk', rfl⟩ hin hP ⟨rfl, hJ, hM⟩ hoff _ _ _ _ F₁ N₁
    have hP' : vs[i]? = some v := by simpa using hP
    have e1 : (fun y => if y = x then some v else m₁ y) = fun y => if y = x then some v else m₀ y := by
      funext y
      by_cases q : y = x
      · simp [q]
      · simp only [if_neg q]; exact hM y q
    rw [e1] at F₁
    have N₂ : News h₀ env.locals hh' (news₁ ++ own) := fun p hp => N₁ p ((List.mem_append.mp hp).elim (fun h => List.mem_append.mpr (.inr h)) fun h => List.mem_append.mpr (.inl h))
    refine wpAny_mono (turn i v (some v) hh' tk' own hP' hJ F₁ N₂ rfl) (fun f s₂ p => ?_) fun _ _ e => e
    have fin : InvEnd h₀ env.locals (fun m => J (i + 1) ∧ ∀ y, y ≠ x → m y = m₀ y) (own ++ news₁) { s with heap := hh', toks := tk' } s₂ → LoopStepU h₀ env.locals [s.heap.objs.size] own (J' (i + 1)) { s with heap := hh', toks := tk' } .next s₂ := by
      rintro ⟨h', tk, m', news', e, F', N', hn, hm⟩
      exact ⟨rfl, h', tk, m', news₁, e, F', fun p hp => N' p (hn p hp), hoff, rfl, hm⟩
    cases f with
    | ret v => exact .ret p
    | brk => exact .brk p
    | next => exact .next (fin p)
    | cont => exact .cont (fin p)
  · rintro h' tk m' news' F' N' _ ⟨rfl, hJ, hM⟩
    refine done (m' x) h' tk hJ ?_ N'
    have e1 : (fun y => if y = x then m' x else m₀ y) = m' := by
      funext y
      by_cases q : y = x
      · simp [q]
      · simp only [if_neg q]; exact (hM y q).symm
    rw [e1]; exact F'
section
variable {w : World} {A : Around} {R : Result → Shared → Prop} {s : Shared} {b : Heap} {loose : List Str} {mean : ExcName → Option Value} {mg mb : Str → Option Value}
theorem islocal_w {E : Value → Shared → Prop} {Q : Value → Shared → Prop} {g : Heap} {L : Addr} {m : Str → Option Value} {news : List (Addr × Obj)} {t : Addr} {f : Bool} (F : Fr g L s.heap m) (N : News g L s.heap news) (st : b.StaysIn s.heap) (G : Gd w loose mean mg mb b) (T : ThingOK w b s.heap t f)
    (hA0 : A.handled = none) (hA3 : A.depth ≤ 900) (hA4 : A.units ≤ 5000) (k : ∀ h' tks, Fr g L h' m → News g L h' news → Q (.bool (!f)) ⟨h', s.gens, s.drawn, tks, s.os⟩) :
    wpAny (model PG w) A (call (.ref 238) [.ref t]) Q E s :=
  wpAny_call (codeAny_room (islocal_c (A := { depth := 900, units := 5000, frames := none, handled := none, guards := none }) st G T rfl
    (fun h' tks Af => k h' tks (after_fr F Af fun _ hp => (nomatch hp)) fun p hp => ⟨Af.keep _ _ (N p hp).1 fun _ hq => (nomatch hq), (N p hp).2⟩)) hA0 hA3 (.inl rfl) rfl hA4)
end
theorem my_len {prog : Program} {w : World} {A : Around} {E : Value → Shared → Prop} {s : Shared} {g : Heap} {L l : Addr} {m : Str → Option Value} {vs : List Value} {Q : Value → Shared → Prop} (F : Fr g L s.heap m) (hl : g.IsList l vs.toArray) (hz : vs.length ≤ 1000)
    (h : Q (.int vs.length (s.toks + 1)) { s with toks := s.toks + 1 + 1 }) : wpAny (model prog w) A (call (.builtin "len") [.ref l]) Q E s := by
  have e : ((vs.toArray.size : Nat) : Int) = vs.length := by simp
  refine len_list (hl.at fun o q => F.keep l o q) (by rw [e]; omega) ?_
  rw [e]; exact h
theorem kwE3Alinesg1 : True := by
  k_with "call ref" => (k_here; (with_reducible show wpAny _ _ (call (Value.ref 238) _) _ _ _); k_dflt (refine' islocal_w ?Fxf82 ?Nxf82 ?stxf82 ?Gxf82 ?Txf82 ?a0xf82 ?a3xf82 ?a4xf82 ?_; (case Fxf82 => k_asm); (case Nxf82 => k_asm); (case stxf82 => assumption); (case Gxf82 => assumption); (case Txf82 => assumption); (case a0xf82 => exact rfl); (case a3xf82 => exact Nat.le_of_ble_eq_true rfl); (case a4xf82 => exact Nat.le_of_ble_eq_true rfl); k_whole); intro h' tks' F' N'; (have ck' := Fr.keep F'); clear ck'; (try k_sweep))
  k_with "getAttr ref" => (k_here; (with_reducible show wpAny _ _ (getAttr (Value.ref _) (Str.ofString "row") _) _ _ _); walk_at "my lim")
  k_with "call builtin:len" => (k_here; (with_reducible show wpAny _ _ (call (Value.builtin "len") [Value.ref _]) _ _ _); k_dflt (refine' my_len ?Fxe61 ?lxe61 ?zxe61 ?_; (case Fxe61 => k_asm); (case lxe61 => assumption); (case zxe61 => first | assumption | omega); k_whole))
  exact trivial
noncomputable abbrev rowD (w : World) (nb : Int) (tn : Tok) (l : Addr) (gl : Bool) (lv : Int) (tl t0 t1 t2 t3 : Tok) (n : Nat) : Obj :=
  dictOf [ent w "number" t0 (.int nb tn), ent w "things" t1 (.ref l), ent w "is_global" t2 (.bool gl), ent w "level" t3 (.int lv tl)] n
theorem makeA {prog : Program} {w : World} {A : Around} {K : Frag} {C : Addr} {R : Result → Shared → Prop} {h : Heap} {g : Array GenState} {d : Drawn} {t : Nat} {os : OsState} {rest : List Value} {kw : List (Str × Value)} {fI : Addr} (X : K.In h) (hm : makesIn K C = true) (hi : findIn K (.ref C) "__init__" = some (some (.ref fI))) (hf : typeIn K (.ref fI) = some (.type "function"))
    (hq : codeAny (model prog w) (A.under (.builtin "type.__call__" ⟨.ref C :: rest, kw⟩)) (.call (.ref fI) ⟨.ref (h.objs.size + 1) :: rest, kw⟩) (InitBack (h.objs.size + 1) R) ⟨(h.push emptyDict).push (instObj C h.objs.size), g, d, t, os⟩) :
    codeAny (model prog w) A (.call (.ref C) ⟨rest, kw⟩) R ⟨h, g, d, t, os⟩ := make_core (makes_of X hm) (looks_findIn X hi) (fun self => bind_fn X self hf) (.inl rfl) hq
theorem my_copy {prog : Program} {w : World} {A : Around} {E : Value → Shared → Prop} {s : Shared} {g : Heap} {L l : Addr} {m : Str → Option Value} {news : List (Addr × Obj)} {vs : List Value} {Q : Value → Shared → Prop} (F : Fr g L s.heap m) (N : News g L s.heap news) (hl : g.IsList l vs.toArray) (hz : vs.length ≤ 1000)
    (h : ∀ D c h', Fr g L h' m → News g L h' ((D, listOf vs.toArray c) :: news) → (∀ q ∈ news, q.1 < D) → L < D → Q (.ref D) { s with heap := h' }) : wpAny (model prog w) A (call (.type "list") [.ref l]) Q E s := by
  obtain ⟨o, ho, hc, n, hd⟩ := hl.at fun o q => F.keep l o q
  exact call_list_seq (hsz := by rw [List.size_toArray, sizeLine_eq]; omega) l (.inl rfl) ho hc hd fun h' c' hk hD => h _ c' h' (F.keeps hk) (news_pushed F N hk hD rfl) (fun q hq => Heap.lt_size (N q hq).1) F.ns.lt
noncomputable section
namespace K_row_init
def KP (w : World) (R : Result → Shared → Prop) (s : Shared) (b : Heap) (loose : List Str) (mean : ExcName → Option Value) (mg mb : Str → Option Value) (x dx th : Addr) (nb lv : Int) (tn tl : Tok) (gl : Bool) (vs : List Value) : Prop := ∀ {A : Around} (st : b.StaysIn s.heap) (G : Gd w loose mean mg mb b) (D : Led b s.heap [(x, instObj 107 dx), (dx, dictOf [] 0)]) (hz : vs.length ≤ 1000) (hlt : @LT.lt Nat _ dx x) (hth : s.heap.IsList th vs.toArray) (hton : th ∉ [x, dx]) (hA : A = { depth := 800, units := 4000, frames := none, handled := none, guards := none }) (hR : ∀ l c h' tks t0 t1 t2 t3 n, s.heap.objs.size ≤ l → h'.get? l = some (listOf vs.toArray c) → After s.heap h' [(dx, rowD w nb tn l gl lv tl t0 t1 t2 t3 n)] → R (.ok (.ret .none)) ⟨h', s.gens, s.drawn, tks, s.os⟩), codeAny (model PG w) A (.call (.ref 104) ⟨[.ref x, .int nb tn, .ref th, .bool gl, .int lv tl], []⟩) R s
def KT (x : (World × (Result → Shared → Prop) × Shared × Heap × List Str × (ExcName → Option Value)) × ((Str → Option Value) × (Str → Option Value) × Addr × Addr × Addr × Int) × (Int × Tok × Tok × Bool × List Value)) : Prop := KP x.1.1 x.1.2.1 x.1.2.2.1 x.1.2.2.2.1 x.1.2.2.2.2.1 x.1.2.2.2.2.2 x.2.1.1 x.2.1.2.1 x.2.1.2.2.1 x.2.1.2.2.2.1 x.2.1.2.2.2.2.1 x.2.1.2.2.2.2.2 x.2.2.1 x.2.2.2.1 x.2.2.2.2.1 x.2.2.2.2.2.1 x.2.2.2.2.2.2
theorem Kex : ∃ x, KT x → ∀ y, KT y := drink ((anyW, (fun _ _ => True), {}, default, default, default), (default, default, default, default, default, default), (default, default, default, default, default)) _
@[irreducible] def Kx0 := Classical.choose Kex
@[irreducible] def w := Kx0.1.1
@[irreducible] def R := Kx0.1.2.1
@[irreducible] def s := Kx0.1.2.2.1
@[irreducible] def b := Kx0.1.2.2.2.1
@[irreducible] def loose := Kx0.1.2.2.2.2.1
@[irreducible] def mean := Kx0.1.2.2.2.2.2
@[irreducible] def mg := Kx0.2.1.1
@[irreducible] def mb := Kx0.2.1.2.1
@[irreducible] def x := Kx0.2.1.2.2.1
@[irreducible] def dx := Kx0.2.1.2.2.2.1
@[irreducible] def th := Kx0.2.1.2.2.2.2.1
@[irreducible] def nb := Kx0.2.1.2.2.2.2.2
@[irreducible] def lv := Kx0.2.2.1
@[irreducible] def tn := Kx0.2.2.2.1
@[irreducible] def tl := Kx0.2.2.2.2.1
@[irreducible] def gl := Kx0.2.2.2.2.2.1
@[irreducible] def vs := Kx0.2.2.2.2.2.2
set_option maxRecDepth 100000
set_option maxHeartbeats 4000000
theorem kwE3Ae3a1 : True := by
  k_with "call type:list" => ((fail_if_success (fail_if_success (have zz := hth))); (k_here; (with_reducible show wpAny _ _ (call (Value.type "list") [Value.ref _]) _ _ _); k_dflt (refine' my_copy ?Fx701 ?Nx701 ?lx701 ?zx701 ?_; (case Fx701 => k_asm); (case Nx701 => k_asm); (case lx701 => assumption); (case zx701 => first | assumption | omega); k_whole); intro D' c' h' F' N' l1 l2; (try k_lt l1); (try k_sweep)))
  exact trivial
@[irreducible] def g : Heap := hideAll s.heap (([(x, instObj 107 dx), (dx, dictOf [] 0)] : List (Addr × Obj)).map (·.1))
@[irreducible] def L' : Addr := s.heap.objs.size
theorem KgE  : g = hideAll s.heap (([(x, instObj 107 dx), (dx, dictOf [] 0)] : List (Addr × Obj)).map (·.1)) := by with_unfolding_all rfl
theorem KlE : L' = s.heap.objs.size := by with_unfolding_all rfl
theorem at0 : KP w R s b loose mean mg mb x dx th nb lv tn tl gl vs := by
  intro A st G D hz hlt hth hton hA hR
  subst hA
  refine' enterE' KgE KlE (binds := [(Str.ofString "self", .ref x), (Str.ofString "number", .int nb tn), (Str.ofString "things", .ref th), (Str.ofString "is_global", .bool gl), (Str.ofString "level", .int lv tl)]) st G D ?k6 ?k7 ?k8 ?k9 ?kB ?_ ?c2 ?c3 ?c4 ?c5
  walk_at "my enter"
  intro h' Z F' N'
  have G' := G.keeps Z.st
  have ⟨X', T', _, _, _, _, _⟩ := G'
  have hl' : g.IsList th vs.toArray := isList_off Z.kp hth hton
  walk_at "my go"
  rename Fr _ _ _ _ => F9
  rename News _ _ _ _ => N9
  refine' hR _ _ _ _ _ _ _ _ _ ?nb ?q (after_part F9 N9 Z ?c ?l)
  case nb => rw [Z.sz]; exact Nat.le_of_lt (by assumption)
  case q => exact (N9 _ (.head _)).1
  case c => walk_at "my sub"
  case l => walk_at "my part"
end K_row_init
end
theorem row_init {w : World} {R : Result → Shared → Prop} {s : Shared} {b : Heap} {loose : List Str} {mean : ExcName → Option Value} {mg mb : Str → Option Value} {x dx th : Addr} {nb lv : Int} {tn tl : Tok} {gl : Bool} {vs : List Value} : K_row_init.KP w R s b loose mean mg mb x dx th nb lv tn tl gl vs :=
  @Classical.choose_spec _ _ K_row_init.Kex (by with_unfolding_all exact @K_row_init.at0) ((w, R, s, b, loose, mean), (mg, mb, x, dx, th, nb), (lv, tn, tl, gl, vs))
section
variable {w : World} {A : Around} {R : Result → Shared → Prop} {s : Shared} {b : Heap} {loose : List Str} {mean : ExcName → Option Value} {mg mb : Str → Option Value}
theorem rowmk_c {th : Addr} {nb lv : Int} {tn tl : Tok} {gl : Bool} {vs : List Value} (st : b.StaysIn s.heap) (G : Gd w loose mean mg mb b) (hz : vs.length ≤ 1000) (hth : s.heap.IsList th vs.toArray)
    (hA : A = { depth := 790, units := 3990, frames := none, handled := none, guards := none })
    (hR : ∀ x dx l c h' tks t0 t1 t2 t3 n, @LT.lt Nat _ dx x → @LT.lt Nat _ x l → After s.heap h' [] → New s.heap h' [(x, instObj 107 dx), (dx, rowD w nb tn l gl lv tl t0 t1 t2 t3 n), (l, listOf vs.toArray c)] → R (.ok (.ret (.ref x))) ⟨h', s.gens, s.drawn, tks, s.os⟩) :
    codeAny (model PG w) A (.call (.ref 107) ⟨[.int nb tn, .ref th, .bool gl, .int lv tl], []⟩) R s := by
  subst hA
  obtain ⟨h, g, d, t, os⟩ := s
  have hlt : th < h.objs.size := by obtain ⟨o, ho, _⟩ := hth; exact Heap.lt_size ho
  refine makeA (G.X.keeps st) (by k_is) (by k_is) (by k_is) ?_
  refine codeAny_room (A' := { depth := 800, units := 4000, frames := none, handled := none, guards := none }) (row_init (b := b) (x := h.objs.size + 1) (dx := h.objs.size) (fun a o e => made2_k _ _ (st _ _ e)) G (made2_led st) hz (Nat.lt_succ_self _) (hth.at fun o q => made2_k _ _ q) (made2_nin hlt) rfl
    fun l c h' tks t0 t1 t2 t3 n nb hba Af => ⟨rfl, hR (h.objs.size + 1) h.objs.size l c h' tks t0 t1 t2 t3 n (Nat.lt_succ_self _) (made2_lt nb) (made2_after Af) (made2_new Af (allc ⟨nb, hba⟩ fun _ q => nomatch q))⟩) rfl (Nat.le_of_ble_eq_true rfl) (.inl rfl) rfl (Nat.le_of_ble_eq_true rfl)
theorem rowmk_w {E : Value → Shared → Prop} {Q : Value → Shared → Prop} {g : Heap} {L : Addr} {m : Str → Option Value} {th : Addr} {nb lv : Int} {tn tl : Tok} {gl : Bool} {vs : List Value} (F : Fr g L s.heap m) (G : Gd w loose mean mg mb g) (hl : g.IsList th vs.toArray) (hz : vs.length ≤ 1000)
    (hA0 : A.handled = none) (hA3 : A.depth ≤ 790) (hA4 : A.units ≤ 3990)
    (hR : ∀ x dx l c h' tks t0 t1 t2 t3 n, @LT.lt Nat _ dx x → @LT.lt Nat _ x l → After s.heap h' [] → New s.heap h' [(x, instObj 107 dx), (dx, rowD w nb tn l gl lv tl t0 t1 t2 t3 n), (l, listOf vs.toArray c)] → Q (.ref x) ⟨h', s.gens, s.drawn, tks, s.os⟩) :
    wpAny (model PG w) A (call (.ref 107) [.int nb tn, .ref th, .bool gl, .int lv tl]) Q E s :=
  wpAny_call (codeAny_room (rowmk_c (A := { depth := 790, units := 3990, frames := none, handled := none, guards := none }) F.keep G hz (hl.at fun o q => F.keep th o q) rfl hR) hA0 hA3 (.inl rfl) rfl hA4)
end
theorem kwE3linesh1 : True := by
  k_with "exec For Name Name cons nil" => (k_here; (rename Fr _ _ _ _ => lF'); (with_unfolding_all refine' For_invVF lF' ?k1xf13 ?k2xf13 ?_; (case k1xf13 => exact rfl); (case k2xf13 => exact rfl)))
  k_with "call ref" => (k_here; (with_reducible show wpAny _ _ (call (Value.ref 107) _) _ _ _); k_dflt (refine' rowmk_w ?Fxc0c ?Gxc0c ?lxc0c ?zxc0c ?a0xc0c ?a3xc0c ?a4xc0c ?_; (case Fxc0c => k_asm); (case Gxc0c => assumption); (case lxc0c => assumption); (case zxc0c => first | assumption | omega); (case a0xc0c => exact rfl); (case a3xc0c => exact Nat.le_of_ble_eq_true rfl); (case a4xc0c => exact Nat.le_of_ble_eq_true rfl); k_whole); intro x' dx' l' c' h' tks' k0' k1' k2' k3' kn' lt1' lt2' af' nw'; (rename After _ _ _ => myA); (rename New _ _ _ => myW); (rename Fr _ _ _ _ => myF); (rename News _ _ _ _ => myN); k_dflt (refine' new_go myF myN myA myW ?uxc0c ?cxc0c ?_; (case uxc0c => walk_at "my updm"); (case cxc0c => walk_at "my subo")); clear myA myW; intro F' N' nwx'; (try dsimp only [List.cons_append, List.nil_append] at N'); (have ck' := Fr.keep F'); clear ck'; (try k_sweep))
  exact trivial

noncomputable section
namespace K_row_c
def KP (w : World) (R : Result → Shared → Prop) (s : Shared) (b : Heap) (loose : List Str) (mean : ExcName → Option Value) (mg mb : Str → Option Value) (fl : List Env) (th : Addr) (its : List (Addr × Bool)) (vs : List Value) (mk mx lx lm sv jr mm fr : Addr) (u0 u1 lb ls : Int) (a0 a1 a2 a3 t0 t1 t2 t3 t4 t5 t6 t7 t8 t9 : Tok) (mn : Nat) (lim : List DictEntry) (ln : Nat) (vm rx : Int) (tv tvx : Tok) (es : Array DictEntry) (ep n : Nat) : Prop := ∀ {A : Around} {gl : Bool} (st : b.StaysIn s.heap) (G : Gd w loose mean mg mb b) (Bl : Below A b fl s.heap) (hA : A = { depth := 700, units := 3000, frames := some fl, handled := none, guards := none }) (ho : @LT.lt Nat _ lx lm ∧ @LT.lt Nat _ lm mx ∧ @LT.lt Nat _ mx mk ∧ @LT.lt Nat _ mk sv ∧ @LT.lt Nat _ sv mm) (D : Led b s.heap (mkLed w mk mx lx lm sv jr mm fr gl u0 u1 lb ls a0 a1 a2 a3 t0 t1 t2 t3 t4 t5 t6 t7 t8 t9 mn lim ln es ep)) (hv : getL (Str.ofString "vm") lim = some (some (.int vm tv))) (hx : getL (Str.ofString "row") lim = some (some (.int rx tvx))) (hn : Nums w es n) (hn0 : n ≤ 900) (hth : s.heap.IsList th vs.toArray) (hton : th ∉ (mkLed w mk mx lx lm sv jr mm fr gl u0 u1 lb ls a0 a1 a2 a3 t0 t1 t2 t3 t4 t5 t6 t7 t8 t9 mn lim ln es ep).map (·.1)) (hits : vs = its.map fun p => .ref p.1) (hok : ∀ p ∈ its, ThingOK w b s.heap p.1 p.2) (hz : its.length ≤ 1000) (nf : ∀ env ∈ fl, ∀ p ∈ mkLed w mk mx lx lm sv jr mm fr gl u0 u1 lb ls a0 a1 a2 a3 t0 t1 t2 t3 t4 t5 t6 t7 t8 t9 mn lim ln es ep, env.frame ≠ some p.1) (ok : (its.length : Int) ≤ rx → (gl = true → ∀ p ∈ its, p.2 = true) → u0 + u1 + 8 * its.length ≤ vm → ∀ x dx l c h' tks tn tl k0 k1 k2 k3 kn u0' u1' a0' a1' a2' es' ep', u0' = (if gl = true then u0 else u0 + 8 * its.length) → u1' = (if gl = true then u1 + 8 * its.length else u1) →
      Nums w es' (n + 1) → @LT.lt Nat _ dx x → @LT.lt Nat _ x l → After s.heap h' [(mx, makerO w lm sv jr mm fr gl u0' u1' (lb + 1) ls a0' a1' a2' a3 t0 t1 t2 t3 t4 t5 t6 t7 t8 t9 mn), (mm, dictA es' ep')] →
      New s.heap h' [(x, instObj 107 dx), (dx, rowD w (lb + 1) tn l gl 0 tl k0 k1 k2 k3 kn), (l, listOf vs.toArray c)] → R (.ok (.ret (.ref x))) ⟨h', s.gens, s.drawn, tks, s.os⟩) (bad1 : rx < its.length → ∀ e h' tks tk, ErrEnd w fl s.heap (.bytes (asBytes "limitcheck") tk) e h' → R (.error (.ref e)) ⟨h', s.gens, s.drawn, tks, s.os⟩) (bad2 : (its.length : Int) ≤ rx → gl = true → (∃ p ∈ its, p.2 = false) → ∀ e h' tks tk, ErrEnd w fl s.heap (.bytes (asBytes "invalidaccess") tk) e h' → R (.error (.ref e)) ⟨h', s.gens, s.drawn, tks, s.os⟩) (bad3 : (its.length : Int) ≤ rx → (gl = true → ∀ p ∈ its, p.2 = true) → vm < u0 + u1 + 8 * its.length → ∀ e h' tks tk, ErrEnd w fl s.heap (.bytes (asBytes "VMerror") tk) e h' → R (.error (.ref e)) ⟨h', s.gens, s.drawn, tks, s.os⟩), codeAny (model PG w) A (.call (.ref 338) ⟨[.ref mk, .ref th], []⟩) R s
def KT (x : (World × (Result → Shared → Prop) × Shared × Heap × List Str × (ExcName → Option Value)) × ((Str → Option Value) × (Str → Option Value) × List Env × Addr × (List (Addr × Bool)) × List Value) × (Addr × Addr × Addr × Addr × Addr × Addr) × (Addr × Addr × Int × Int × Int × Int) × (Tok × Tok × Tok × Tok × Tok × Tok) × (Tok × Tok × Tok × Tok × Tok × Tok) × (Tok × Tok × Nat × List DictEntry × Nat × Int) × (Int × Tok × Tok × Array DictEntry × Nat × Nat)) : Prop := KP x.1.1 x.1.2.1 x.1.2.2.1 x.1.2.2.2.1 x.1.2.2.2.2.1 x.1.2.2.2.2.2 x.2.1.1 x.2.1.2.1 x.2.1.2.2.1 x.2.1.2.2.2.1 x.2.1.2.2.2.2.1 x.2.1.2.2.2.2.2 x.2.2.1.1 x.2.2.1.2.1 x.2.2.1.2.2.1 x.2.2.1.2.2.2.1 x.2.2.1.2.2.2.2.1 x.2.2.1.2.2.2.2.2 x.2.2.2.1.1 x.2.2.2.1.2.1 x.2.2.2.1.2.2.1 x.2.2.2.1.2.2.2.1 x.2.2.2.1.2.2.2.2.1 x.2.2.2.1.2.2.2.2.2 x.2.2.2.2.1.1 x.2.2.2.2.1.2.1 x.2.2.2.2.1.2.2.1 x.2.2.2.2.1.2.2.2.1 x.2.2.2.2.1.2.2.2.2.1 x.2.2.2.2.1.2.2.2.2.2 x.2.2.2.2.2.1.1 x.2.2.2.2.2.1.2.1 x.2.2.2.2.2.1.2.2.1 x.2.2.2.2.2.1.2.2.2.1 x.2.2.2.2.2.1.2.2.2.2.1 x.2.2.2.2.2.1.2.2.2.2.2 x.2.2.2.2.2.2.1.1 x.2.2.2.2.2.2.1.2.1 x.2.2.2.2.2.2.1.2.2.1 x.2.2.2.2.2.2.1.2.2.2.1 x.2.2.2.2.2.2.1.2.2.2.2.1 x.2.2.2.2.2.2.1.2.2.2.2.2 x.2.2.2.2.2.2.2.1 x.2.2.2.2.2.2.2.2.1 x.2.2.2.2.2.2.2.2.2.1 x.2.2.2.2.2.2.2.2.2.2.1 x.2.2.2.2.2.2.2.2.2.2.2.1 x.2.2.2.2.2.2.2.2.2.2.2.2
theorem Kex : ∃ x, KT x → ∀ y, KT y := drink ((anyW, (fun _ _ => True), {}, default, default, default), (default, default, default, default, default, default), (default, default, default, default, default, default), (default, default, default, default, default, default), (default, default, default, default, default, default), (default, default, default, default, default, default), (default, default, default, default, default, default), (default, default, default, default, default, default)) _
@[irreducible] def Kx0 := Classical.choose Kex
@[irreducible] def w := Kx0.1.1
@[irreducible] def R := Kx0.1.2.1
@[irreducible] def s := Kx0.1.2.2.1
@[irreducible] def b := Kx0.1.2.2.2.1
@[irreducible] def loose := Kx0.1.2.2.2.2.1
@[irreducible] def mean := Kx0.1.2.2.2.2.2
@[irreducible] def mg := Kx0.2.1.1
@[irreducible] def mb := Kx0.2.1.2.1
@[irreducible] def fl := Kx0.2.1.2.2.1
@[irreducible] def th := Kx0.2.1.2.2.2.1
@[irreducible] def its := Kx0.2.1.2.2.2.2.1
@[irreducible] def vs := Kx0.2.1.2.2.2.2.2
@[irreducible] def mk := Kx0.2.2.1.1
@[irreducible] def mx := Kx0.2.2.1.2.1
@[irreducible] def lx := Kx0.2.2.1.2.2.1
@[irreducible] def lm := Kx0.2.2.1.2.2.2.1
@[irreducible] def sv := Kx0.2.2.1.2.2.2.2.1
@[irreducible] def jr := Kx0.2.2.1.2.2.2.2.2
@[irreducible] def mm := Kx0.2.2.2.1.1
@[irreducible] def fr := Kx0.2.2.2.1.2.1
@[irreducible] def u0 := Kx0.2.2.2.1.2.2.1
@[irreducible] def u1 := Kx0.2.2.2.1.2.2.2.1
@[irreducible] def lb := Kx0.2.2.2.1.2.2.2.2.1
@[irreducible] def ls := Kx0.2.2.2.1.2.2.2.2.2
@[irreducible] def a0 := Kx0.2.2.2.2.1.1
@[irreducible] def a1 := Kx0.2.2.2.2.1.2.1
@[irreducible] def a2 := Kx0.2.2.2.2.1.2.2.1
@[irreducible] def a3 := Kx0.2.2.2.2.1.2.2.2.1
@[irreducible] def t0 := Kx0.2.2.2.2.1.2.2.2.2.1
@[irreducible] def t1 := Kx0.2.2.2.2.1.2.2.2.2.2
@[irreducible] def t2 := Kx0.2.2.2.2.2.1.1
@[irreducible] def t3 := Kx0.2.2.2.2.2.1.2.1
@[irreducible] def t4 := Kx0.2.2.2.2.2.1.2.2.1
@[irreducible] def t5 := Kx0.2.2.2.2.2.1.2.2.2.1
@[irreducible] def t6 := Kx0.2.2.2.2.2.1.2.2.2.2.1
@[irreducible] def t7 := Kx0.2.2.2.2.2.1.2.2.2.2.2
@[irreducible] def t8 := Kx0.2.2.2.2.2.2.1.1
@[irreducible] def t9 := Kx0.2.2.2.2.2.2.1.2.1
@[irreducible] def mn := Kx0.2.2.2.2.2.2.1.2.2.1
@[irreducible] def lim := Kx0.2.2.2.2.2.2.1.2.2.2.1
@[irreducible] def ln := Kx0.2.2.2.2.2.2.1.2.2.2.2.1
@[irreducible] def vm := Kx0.2.2.2.2.2.2.1.2.2.2.2.2
@[irreducible] def rx := Kx0.2.2.2.2.2.2.2.1
@[irreducible] def tv := Kx0.2.2.2.2.2.2.2.2.1
@[irreducible] def tvx := Kx0.2.2.2.2.2.2.2.2.2.1
@[irreducible] def es := Kx0.2.2.2.2.2.2.2.2.2.2.1
@[irreducible] def ep := Kx0.2.2.2.2.2.2.2.2.2.2.2.1
@[irreducible] def n := Kx0.2.2.2.2.2.2.2.2.2.2.2.2
set_option maxRecDepth 100000
set_option maxHeartbeats 4000000
@[irreducible] def g : Heap := hideAll s.heap ([mk,mx,lm,lx,sv,mm])
@[irreducible] def L' : Addr := s.heap.objs.size
theorem KgE {gl : Bool} : g = hideAll s.heap (((mkLed w mk mx lx lm sv jr mm fr gl u0 u1 lb ls a0 a1 a2 a3 t0 t1 t2 t3 t4 t5 t6 t7 t8 t9 mn lim ln es ep) : List (Addr × Obj)).map (·.1)) := by with_unfolding_all rfl
theorem KlE : L' = s.heap.objs.size := by with_unfolding_all rfl
theorem at0 : KP w R s b loose mean mg mb fl th its vs mk mx lx lm sv jr mm fr u0 u1 lb ls a0 a1 a2 a3 t0 t1 t2 t3 t4 t5 t6 t7 t8 t9 mn lim ln vm rx tv tvx es ep n := by
  intro A gl st G Bl hA ho D hv hx hn hn0 hth hton hits hok hz nf ok bad1 bad2 bad3
  subst hA
  have hlen : vs.length = its.length := by rw [hits, List.length_map]
  refine' enterE' KgE KlE (binds := [(Str.ofString "self", .ref mk), (Str.ofString "things", .ref th)]) st G D ?k6 ?k7 ?k8 ?k9 ?kB ?_ ?c2 ?c3 ?c4 ?c5
  walk_at "my enter"
  intro h' Z F' N'
  have G' := G.keeps Z.st
  have ⟨X', T', _, _, _, _, _⟩ := G'
  have Bg := Z.below Bl nf
  have ho' := ho
  obtain ⟨o1, o2, o3, o4, o5⟩ := ho
  have hl' : g.IsList th vs.toArray := isList_off Z.kp hth hton
  dsimp only [mkLed] at N'
  have hz' : vs.length ≤ 1000 := by omega
  walk_at "my go"
  · rename Fr _ _ _ _ => myF
    rename News _ _ _ _ => myN
    refine' iter_vals (fun i => ∀ p ∈ its.take i, p.2 = true) rfl hl' myF myN ?j ?_ ?_
    case j => simp
    · intro i v u h9 tk9 own hv hJ F9 N9 hu
      obtain ⟨t, f, hi, rfl⟩ : ∃ t f, its[i]? = some (t, f) ∧ v = .ref t := by
        rw [hits, List.getElem?_map] at hv
        cases q : its[i]? with
        | none => rw [q] at hv; cases hv
        | some p => rw [q] at hv; exact ⟨p.1, p.2, rfl, (Option.some.inj hv).symm⟩
      subst hu
      have kp9 := keep_all F9 N9 Z fun p hp => List.mem_append_left _ hp
      have hT : ThingOK w b h9 t f := (hok (t, f) (List.mem_of_getElem? hi)).mono kp9
      have st9 : b.StaysIn h9 := fun a o q => kp9 _ _ (st _ _ q)
      simp only [List.cons_append, List.nil_append] at N9
      clear myF myN
      cases f with
      | true =>
        walk_at "my go"
        (rename Fr _ _ _ _ => F8); (rename News _ _ _ _ => N8)
        refine ⟨_, _, _, _, rfl, F8, N8, fun p hp => ?_, fun p hp => ?_, fun y hy => ?_⟩
        · rcases List.mem_append.mp hp with hp | hp
          · exact List.mem_append_right [_, _, _, _, _, _] hp
          · exact List.mem_append_left own hp
        · rw [List.take_add_one, hi] at hp
          rcases List.mem_append.mp hp with hp | hp
          · exact hJ p hp
          · obtain rfl := List.mem_singleton.mp hp; rfl
        · simp [hy]
      | false =>
        walk_at "my go"
        have Bl9 := Bl
        walk_at "my raise"
        exact bad2 (by omega) (by assumption) ⟨(t, false), List.mem_of_getElem? hi, rfl⟩ _ _ _ _ (by assumption)
    · intro u h9 tk9 hJ F9 N9
      clear myF myN
      walk_at "my go"
      · have hall : ∀ p ∈ its, p.2 = true := by rw [hlen, List.take_length] at hJ; exact hJ
        (rename Fr _ _ _ _ => F9); (rename News _ _ _ _ => N9); (rename AllNew _ _ _ => nw9)
        refine' ok ?p1 ?p2 ?p3 _ _ _ _ _ _ _ _ _ _ _ _ _ _ _ _ _ _ _ _ ?e1 ?e2 ?n ?l1 ?l2 (after_part F9 N9 Z ?c ?l) (new_of Z N9 nw9 ?d)
        case p1 => omega
        case p2 => exact fun _ => hall
        case p3 => omega
        case l1 => assumption
        case l2 => assumption
        case c => walk_at "my sub"
        case l => walk_at "my part"
        case d => walk_at "my sub"
        case n => assumption
        case e1 => simp [*]
        case e2 => simp [*]
      · have hall : ∀ p ∈ its, p.2 = true := by rw [hlen, List.take_length] at hJ; exact hJ
        walk_at "my err"
        exact bad3 (by omega) (fun _ => hall) (by omega) _ _ _ _ (by assumption)
  ·
    (rename Fr _ _ _ _ => F9); (rename News _ _ _ _ => N9); (rename AllNew _ _ _ => nw9)
    refine' ok ?p1 ?p2 ?p3 _ _ _ _ _ _ _ _ _ _ _ _ _ _ _ _ _ _ _ _ ?e1 ?e2 ?n ?l1 ?l2 (after_part F9 N9 Z ?c ?l) (new_of Z N9 nw9 ?d)
    case p1 => omega
    case p2 => intro q; simp_all
    case p3 => omega
    case l1 => assumption
    case l2 => assumption
    case c => walk_at "my sub"
    case l => walk_at "my part"
    case d => walk_at "my sub"
    case n => assumption
    case e1 => simp [*]
    case e2 => simp [*]
  · walk_at "my err"
    exact bad3 (by omega) (by intro q; simp_all) (by omega) _ _ _ _ (by assumption)
  · walk_at "my err"
    omega
  · walk_at "my err"
    exact bad1 (by omega) _ _ _ _ (by assumption)
end K_row_c
end
theorem row_c {w : World} {R : Result → Shared → Prop} {s : Shared} {b : Heap} {loose : List Str} {mean : ExcName → Option Value} {mg mb : Str → Option Value} {fl : List Env} {th : Addr} {its : List (Addr × Bool)} {vs : List Value} {mk mx lx lm sv jr mm fr : Addr} {u0 u1 lb ls : Int} {a0 a1 a2 a3 t0 t1 t2 t3 t4 t5 t6 t7 t8 t9 : Tok} {mn : Nat} {lim : List DictEntry} {ln : Nat} {vm rx : Int} {tv tvx : Tok} {es : Array DictEntry} {ep n : Nat} : K_row_c.KP w R s b loose mean mg mb fl th its vs mk mx lx lm sv jr mm fr u0 u1 lb ls a0 a1 a2 a3 t0 t1 t2 t3 t4 t5 t6 t7 t8 t9 mn lim ln vm rx tv tvx es ep n :=
  @Classical.choose_spec _ _ K_row_c.Kex (by with_unfolding_all exact @K_row_c.at0) ((w, R, s, b, loose, mean), (mg, mb, fl, th, its, vs), (mk, mx, lx, lm, sv, jr), (mm, fr, u0, u1, lb, ls), (a0, a1, a2, a3, t0, t1), (t2, t3, t4, t5, t6, t7), (t8, t9, mn, lim, ln, vm), (rx, tv, tvx, es, ep, n))
section
end
section
variable {w : World} {A : Around} {R : Result → Shared → Prop} {s : Shared} {b : Heap} {loose : List Str} {mean : ExcName → Option Value} {mg mb : Str → Option Value}
set_option maxRecDepth 100000
theorem row_w {A₀ : Around} {E : Value → Shared → Prop} {Q : Value → Shared → Prop} {env : Env} {outer : List Env} {g : Heap} {L : Addr} {m : Str → Option Value} {news : List (Addr × Obj)} {th : Addr} {its : List (Addr × Bool)} {vs : List Value} {mk mx lx : Addr} {lm sv jr mm fr : Addr} {gl : Bool} {u0 u1 lb ls : Int} {a0 a1 a2 a3 t0 t1 t2 t3 t4 t5 t6 t7 t8 t9 : Tok} {mn : Nat} {lim : List DictEntry} {ln : Nat} {vm rx : Int} {tv tvx : Tok} {es : Array DictEntry} {ep n : Nat}
    (C : Caller A₀ A b env outer g L s.heap m news) (G : Gd w loose mean mg mb b) (hA3 : A.depth ≤ 700) (hA4 : A.units ≤ 3000)
    (ho : @LT.lt Nat _ lx lm ∧ @LT.lt Nat _ lm mx ∧ @LT.lt Nat _ mx mk ∧ @LT.lt Nat _ mk sv ∧ @LT.lt Nat _ sv mm)
    (hm : ∀ p ∈ (mkLed w mk mx lx lm sv jr mm fr gl u0 u1 lb ls a0 a1 a2 a3 t0 t1 t2 t3 t4 t5 t6 t7 t8 t9 mn lim ln es ep), p ∈ news)
    (hv : getL (Str.ofString "vm") lim = some (some (.int vm tv)))
    (hx : getL (Str.ofString "row") lim = some (some (.int rx tvx)))
    (hn : Nums w es n)
    (hn0 : n ≤ 900)
    (hth : s.heap.IsList th vs.toArray)
    (hton : th ∉ (mkLed w mk mx lx lm sv jr mm fr gl u0 u1 lb ls a0 a1 a2 a3 t0 t1 t2 t3 t4 t5 t6 t7 t8 t9 mn lim ln es ep).map (·.1))
    (hits : vs = its.map fun p => .ref p.1)
    (hok : ∀ p ∈ its, ThingOK w b s.heap p.1 p.2)
    (hz : its.length ≤ 1000)
    (ok : (its.length : Int) ≤ rx → (gl = true → ∀ p ∈ its, p.2 = true) → u0 + u1 + 8 * its.length ≤ vm → ∀ x dx l c h' tks tn tl k0 k1 k2 k3 kn u0' u1' a0' a1' a2' es' ep', u0' = (if gl = true then u0 else u0 + 8 * its.length) → u1' = (if gl = true then u1 + 8 * its.length else u1) →
      Nums w es' (n + 1) → @LT.lt Nat _ dx x → @LT.lt Nat _ x l → After s.heap h' [(mx, makerO w lm sv jr mm fr gl u0' u1' (lb + 1) ls a0' a1' a2' a3 t0 t1 t2 t3 t4 t5 t6 t7 t8 t9 mn), (mm, dictA es' ep')] →
      New s.heap h' [(x, instObj 107 dx), (dx, rowD w (lb + 1) tn l gl 0 tl k0 k1 k2 k3 kn), (l, listOf vs.toArray c)] → Q (.ref x) ⟨h', s.gens, s.drawn, tks, s.os⟩)
    (bad1 : rx < its.length → ∀ e h' tks tk, ErrEnd w (env :: outer) s.heap (.bytes (asBytes "limitcheck") tk) e h' → E (.ref e) ⟨h', s.gens, s.drawn, tks, s.os⟩)
    (bad2 : (its.length : Int) ≤ rx → gl = true → (∃ p ∈ its, p.2 = false) → ∀ e h' tks tk, ErrEnd w (env :: outer) s.heap (.bytes (asBytes "invalidaccess") tk) e h' → E (.ref e) ⟨h', s.gens, s.drawn, tks, s.os⟩)
    (bad3 : (its.length : Int) ≤ rx → (gl = true → ∀ p ∈ its, p.2 = true) → vm < u0 + u1 + 8 * its.length → ∀ e h' tks tk, ErrEnd w (env :: outer) s.heap (.bytes (asBytes "VMerror") tk) e h' → E (.ref e) ⟨h', s.gens, s.drawn, tks, s.os⟩)
    : wpAny (model PG w) A (call (.ref 338) [.ref mk, .ref th]) Q E s := by
  obtain ⟨D, nf⟩ := C.led hm
  exact wpAny_call (codeAny_room (row_c (A := { depth := 700, units := 3000, frames := some (env :: outer), handled := none, guards := none }) C.below.stays G ⟨rfl, C.below.stays, C.below.frames⟩ rfl ho D hv hx hn hn0 hth hton hits hok hz nf ok bad1 bad2 bad3) C.hd hA3 (.inr C.fr) rfl hA4)
end

noncomputable section
namespace K_thing2_init
def KP (w : World) (R : Result → Shared → Prop) (s : Shared) (b : Heap) (loose : List Str) (mean : ExcName → Option Value) (mg mb : Str → Option Value) (x dx : Addr) (kind : String) (tk : Tok) (v : Value) : Prop := ∀ {A : Around} (st : b.StaysIn s.heap) (G : Gd w loose mean mg mb b) (D : Led b s.heap [(x, instObj 65 dx), (dx, dictOf [] 0)]) (hlt : @LT.lt Nat _ dx x) (hA : A = { depth := 850, units := 4500, frames := none, handled := none, guards := none }) (hR : ∀ h' tks q0 q1 q2 q3 n, After s.heap h' [(dx, thingD w kind tk v (.bool false) (.int 3 236) q0 q1 q2 q3 n)] → R (.ok (.ret .none)) ⟨h', s.gens, s.drawn, tks, s.os⟩), codeAny (model PG w) A (.call (.ref 62) ⟨[.ref x, .str (Str.ofString kind) tk, v], []⟩) R s
def KT (x : (World × (Result → Shared → Prop) × Shared × Heap × List Str × (ExcName → Option Value)) × ((Str → Option Value) × (Str → Option Value) × Addr × Addr × String × Tok) × Value) : Prop := KP x.1.1 x.1.2.1 x.1.2.2.1 x.1.2.2.2.1 x.1.2.2.2.2.1 x.1.2.2.2.2.2 x.2.1.1 x.2.1.2.1 x.2.1.2.2.1 x.2.1.2.2.2.1 x.2.1.2.2.2.2.1 x.2.1.2.2.2.2.2 x.2.2
theorem Kex : ∃ x, KT x → ∀ y, KT y := drink ((anyW, (fun _ _ => True), {}, default, default, default), (default, default, default, default, default, default), default) _
@[irreducible] def Kx0 := Classical.choose Kex
@[irreducible] def w := Kx0.1.1
@[irreducible] def R := Kx0.1.2.1
@[irreducible] def s := Kx0.1.2.2.1
@[irreducible] def b := Kx0.1.2.2.2.1
@[irreducible] def loose := Kx0.1.2.2.2.2.1
@[irreducible] def mean := Kx0.1.2.2.2.2.2
@[irreducible] def mg := Kx0.2.1.1
@[irreducible] def mb := Kx0.2.1.2.1
@[irreducible] def x := Kx0.2.1.2.2.1
@[irreducible] def dx := Kx0.2.1.2.2.2.1
@[irreducible] def kind := Kx0.2.1.2.2.2.2.1
@[irreducible] def tk := Kx0.2.1.2.2.2.2.2
@[irreducible] def v := Kx0.2.2
set_option maxRecDepth 100000
set_option maxHeartbeats 4000000
@[irreducible] def g : Heap := hideAll s.heap (([(x, instObj 65 dx), (dx, dictOf [] 0)] : List (Addr × Obj)).map (·.1))
@[irreducible] def L' : Addr := s.heap.objs.size
theorem KgE  : g = hideAll s.heap (([(x, instObj 65 dx), (dx, dictOf [] 0)] : List (Addr × Obj)).map (·.1)) := by with_unfolding_all rfl
theorem KlE : L' = s.heap.objs.size := by with_unfolding_all rfl
theorem at0 : KP w R s b loose mean mg mb x dx kind tk v := by
  intro A st G D hlt hA hR
  subst hA
  have Xs := G.X.keeps st
  refine' enterE' KgE KlE (binds := [(Str.ofString "self", .ref x), (Str.ofString "kind", .str (Str.ofString kind) tk), (Str.ofString "value", v), (Str.ofString "is_exec", .bool false), (Str.ofString "access", .int 3 236)]) st G D ?k6 ?k7 ?k8 ?k9 ?kB ?_ ?c2 ?c3 ?c4 ?c5
  walk_at "my enter"
  intro h' Z F' N'
  have G' := G.keeps Z.st
  have ⟨X', T', _, _, _, _, _⟩ := G'
  walk_at "my go"
  rename Fr _ _ _ _ => F9
  rename News _ _ _ _ => N9
  refine' hR _ _ _ _ _ _ _ (after_part F9 N9 Z ?c ?l)
  case c => walk_at "my sub"
  case l => walk_at "my part"
end K_thing2_init
end
theorem thing2_init {w : World} {R : Result → Shared → Prop} {s : Shared} {b : Heap} {loose : List Str} {mean : ExcName → Option Value} {mg mb : Str → Option Value} {x dx : Addr} {kind : String} {tk : Tok} {v : Value} : K_thing2_init.KP w R s b loose mean mg mb x dx kind tk v :=
  @Classical.choose_spec _ _ K_thing2_init.Kex (by with_unfolding_all exact @K_thing2_init.at0) ((w, R, s, b, loose, mean), (mg, mb, x, dx, kind, tk), v)

section
variable {w : World} {A : Around} {R : Result → Shared → Prop} {s : Shared} {b : Heap} {loose : List Str} {mean : ExcName → Option Value} {mg mb : Str → Option Value}
theorem thing2_c {kind : String} {tk : Tok} {v : Value} (st : b.StaysIn s.heap) (G : Gd w loose mean mg mb b)
    (hA : A = { depth := 840, units := 4490, frames := none, handled := none, guards := none })
    (hR : ∀ x dx h' tks q0 q1 q2 q3 n, @LT.lt Nat _ dx x → After s.heap h' [] → New s.heap h' [(x, instObj 65 dx), (dx, thingD w kind tk v (.bool false) (.int 3 236) q0 q1 q2 q3 n)] → R (.ok (.ret (.ref x))) ⟨h', s.gens, s.drawn, tks, s.os⟩) :
    codeAny (model PG w) A (.call (.ref 65) ⟨[.str (Str.ofString kind) tk, v], []⟩) R s := by
  subst hA
  obtain ⟨h, g, d, t, os⟩ := s
  refine makeA (G.X.keeps st) (by k_is) (by k_is) (by k_is) ?_
  refine codeAny_room (A' := { depth := 850, units := 4500, frames := none, handled := none, guards := none }) (thing2_init (b := b) (x := h.objs.size + 1) (dx := h.objs.size) (fun a o e => made2_k _ _ (st _ _ e)) G (made2_led st) (Nat.lt_succ_self _) rfl
    fun h' tks q0 q1 q2 q3 n Af => ⟨rfl, hR (h.objs.size + 1) h.objs.size h' tks q0 q1 q2 q3 n (Nat.lt_succ_self _) (made2_after Af) (made2_new Af fun _ hp => nomatch hp)⟩) rfl (Nat.le_of_ble_eq_true rfl) (.inl rfl) rfl (Nat.le_of_ble_eq_true rfl)
theorem thing2_w {E : Value → Shared → Prop} {Q : Value → Shared → Prop} {g : Heap} {L : Addr} {m : Str → Option Value} {kind : String} {tk : Tok} {v : Value} (F : Fr g L s.heap m) (G : Gd w loose mean mg mb b) (st : b.StaysIn g)
    (hA0 : A.handled = none) (hA3 : A.depth ≤ 840) (hA4 : A.units ≤ 4490)
    (hR : ∀ x dx h' tks q0 q1 q2 q3 n, @LT.lt Nat _ dx x → After s.heap h' [] → New s.heap h' [(x, instObj 65 dx), (dx, thingD w kind tk v (.bool false) (.int 3 236) q0 q1 q2 q3 n)] → Q (.ref x) ⟨h', s.gens, s.drawn, tks, s.os⟩) :
    wpAny (model PG w) A (call (.ref 65) [.str (Str.ofString kind) tk, v]) Q E s :=
  wpAny_call (codeAny_room (thing2_c (A := { depth := 840, units := 4490, frames := none, handled := none, guards := none }) (b := b) (fun a o e => F.keep _ _ (st _ _ e)) G rfl hR) hA0 hA3 (.inl rfl) rfl hA4)
end
noncomputable section
namespace K_thing3_init
def KP (w : World) (R : Result → Shared → Prop) (s : Shared) (b : Heap) (loose : List Str) (mean : ExcName → Option Value) (mg mb : Str → Option Value) (x dx : Addr) (kind : String) (tk : Tok) (v ex : Value) : Prop := ∀ {A : Around} (st : b.StaysIn s.heap) (G : Gd w loose mean mg mb b) (D : Led b s.heap [(x, instObj 65 dx), (dx, dictOf [] 0)]) (hlt : @LT.lt Nat _ dx x) (hA : A = { depth := 850, units := 4500, frames := none, handled := none, guards := none }) (hR : ∀ h' tks q0 q1 q2 q3 n, After s.heap h' [(dx, thingD w kind tk v ex (.int 3 236) q0 q1 q2 q3 n)] → R (.ok (.ret .none)) ⟨h', s.gens, s.drawn, tks, s.os⟩), codeAny (model PG w) A (.call (.ref 62) ⟨[.ref x, .str (Str.ofString kind) tk, v, ex], []⟩) R s
def KT (x : (World × (Result → Shared → Prop) × Shared × Heap × List Str × (ExcName → Option Value)) × ((Str → Option Value) × (Str → Option Value) × Addr × Addr × String × Tok) × (Value × Value)) : Prop := KP x.1.1 x.1.2.1 x.1.2.2.1 x.1.2.2.2.1 x.1.2.2.2.2.1 x.1.2.2.2.2.2 x.2.1.1 x.2.1.2.1 x.2.1.2.2.1 x.2.1.2.2.2.1 x.2.1.2.2.2.2.1 x.2.1.2.2.2.2.2 x.2.2.1 x.2.2.2
theorem Kex : ∃ x, KT x → ∀ y, KT y := drink ((anyW, (fun _ _ => True), {}, default, default, default), (default, default, default, default, default, default), (default, default)) _
@[irreducible] def Kx0 := Classical.choose Kex
@[irreducible] def w := Kx0.1.1
@[irreducible] def R := Kx0.1.2.1
@[irreducible] def s := Kx0.1.2.2.1
@[irreducible] def b := Kx0.1.2.2.2.1
@[irreducible] def loose := Kx0.1.2.2.2.2.1
@[irreducible] def mean := Kx0.1.2.2.2.2.2
@[irreducible] def mg := Kx0.2.1.1
@[irreducible] def mb := Kx0.2.1.2.1
@[irreducible] def x := Kx0.2.1.2.2.1
@[irreducible] def dx := Kx0.2.1.2.2.2.1
@[irreducible] def kind := Kx0.2.1.2.2.2.2.1
@[irreducible] def tk := Kx0.2.1.2.2.2.2.2
@[irreducible] def v := Kx0.2.2.1
@[irreducible] def ex := Kx0.2.2.2
set_option maxRecDepth 100000
set_option maxHeartbeats 4000000
@[irreducible] def g : Heap := hideAll s.heap (([(x, instObj 65 dx), (dx, dictOf [] 0)] : List (Addr × Obj)).map (·.1))
@[irreducible] def L' : Addr := s.heap.objs.size
theorem KgE  : g = hideAll s.heap (([(x, instObj 65 dx), (dx, dictOf [] 0)] : List (Addr × Obj)).map (·.1)) := by with_unfolding_all rfl
theorem KlE : L' = s.heap.objs.size := by with_unfolding_all rfl
theorem at0 : KP w R s b loose mean mg mb x dx kind tk v ex := by
  intro A st G D hlt hA hR
  subst hA
  have Xs := G.X.keeps st
  refine' enterE' KgE KlE (binds := [(Str.ofString "self", .ref x), (Str.ofString "kind", .str (Str.ofString kind) tk), (Str.ofString "value", v), (Str.ofString "is_exec", ex), (Str.ofString "access", .int 3 236)]) st G D ?k6 ?k7 ?k8 ?k9 ?kB ?_ ?c2 ?c3 ?c4 ?c5
  walk_at "my enter"
  intro h' Z F' N'
  have G' := G.keeps Z.st
  have ⟨X', T', _, _, _, _, _⟩ := G'
  walk_at "my go"
  rename Fr _ _ _ _ => F9
  rename News _ _ _ _ => N9
  refine' hR _ _ _ _ _ _ _ (after_part F9 N9 Z ?c ?l)
  case c => walk_at "my sub"
  case l => walk_at "my part"
end K_thing3_init
end
theorem thing3_init {w : World} {R : Result → Shared → Prop} {s : Shared} {b : Heap} {loose : List Str} {mean : ExcName → Option Value} {mg mb : Str → Option Value} {x dx : Addr} {kind : String} {tk : Tok} {v ex : Value} : K_thing3_init.KP w R s b loose mean mg mb x dx kind tk v ex :=
  @Classical.choose_spec _ _ K_thing3_init.Kex (by with_unfolding_all exact @K_thing3_init.at0) ((w, R, s, b, loose, mean), (mg, mb, x, dx, kind, tk), (v, ex))
section
variable {w : World} {A : Around} {R : Result → Shared → Prop} {s : Shared} {b : Heap} {loose : List Str} {mean : ExcName → Option Value} {mg mb : Str → Option Value}
theorem thing3_c {kind : String} {tk : Tok} {v ex : Value} (st : b.StaysIn s.heap) (G : Gd w loose mean mg mb b)
    (hA : A = { depth := 840, units := 4490, frames := none, handled := none, guards := none })
    (hR : ∀ x dx h' tks q0 q1 q2 q3 n, @LT.lt Nat _ dx x → After s.heap h' [] → New s.heap h' [(x, instObj 65 dx), (dx, thingD w kind tk v ex (.int 3 236) q0 q1 q2 q3 n)] → R (.ok (.ret (.ref x))) ⟨h', s.gens, s.drawn, tks, s.os⟩) :
    codeAny (model PG w) A (.call (.ref 65) ⟨[.str (Str.ofString kind) tk, v, ex], []⟩) R s := by
  subst hA
  obtain ⟨h, g, d, t, os⟩ := s
  refine makeA (G.X.keeps st) (by k_is) (by k_is) (by k_is) ?_
  refine codeAny_room (A' := { depth := 850, units := 4500, frames := none, handled := none, guards := none }) (thing3_init (b := b) (x := h.objs.size + 1) (dx := h.objs.size) (fun a o e => made2_k _ _ (st _ _ e)) G (made2_led st) (Nat.lt_succ_self _) rfl
    fun h' tks q0 q1 q2 q3 n Af => ⟨rfl, hR (h.objs.size + 1) h.objs.size h' tks q0 q1 q2 q3 n (Nat.lt_succ_self _) (made2_after Af) (made2_new Af fun _ hp => nomatch hp)⟩) rfl (Nat.le_of_ble_eq_true rfl) (.inl rfl) rfl (Nat.le_of_ble_eq_true rfl)
theorem thing3_w {E : Value → Shared → Prop} {Q : Value → Shared → Prop} {g : Heap} {L : Addr} {m : Str → Option Value} {kind : String} {tk : Tok} {v ex : Value} (F : Fr g L s.heap m) (G : Gd w loose mean mg mb b) (st : b.StaysIn g)
    (hA0 : A.handled = none) (hA3 : A.depth ≤ 840) (hA4 : A.units ≤ 4490)
    (hR : ∀ x dx h' tks q0 q1 q2 q3 n, @LT.lt Nat _ dx x → After s.heap h' [] → New s.heap h' [(x, instObj 65 dx), (dx, thingD w kind tk v ex (.int 3 236) q0 q1 q2 q3 n)] → Q (.ref x) ⟨h', s.gens, s.drawn, tks, s.os⟩) :
    wpAny (model PG w) A (call (.ref 65) [.str (Str.ofString kind) tk, v, ex]) Q E s :=
  wpAny_call (codeAny_room (thing3_c (A := { depth := 840, units := 4490, frames := none, handled := none, guards := none }) (b := b) (fun a o e => F.keep _ _ (st _ _ e)) G rfl hR) hA0 hA3 (.inl rfl) rfl hA4)
end
noncomputable section
namespace K_thing4_init
def KP (w : World) (R : Result → Shared → Prop) (s : Shared) (b : Heap) (loose : List Str) (mean : ExcName → Option Value) (mg mb : Str → Option Value) (x dx : Addr) (kind : String) (tk : Tok) (v ex ac : Value) : Prop := ∀ {A : Around} (st : b.StaysIn s.heap) (G : Gd w loose mean mg mb b) (D : Led b s.heap [(x, instObj 65 dx), (dx, dictOf [] 0)]) (hlt : @LT.lt Nat _ dx x) (hA : A = { depth := 850, units := 4500, frames := none, handled := none, guards := none }) (hR : ∀ h' tks q0 q1 q2 q3 n, After s.heap h' [(dx, thingD w kind tk v ex ac q0 q1 q2 q3 n)] → R (.ok (.ret .none)) ⟨h', s.gens, s.drawn, tks, s.os⟩), codeAny (model PG w) A (.call (.ref 62) ⟨[.ref x, .str (Str.ofString kind) tk, v, ex, ac], []⟩) R s
def KT (x : (World × (Result → Shared → Prop) × Shared × Heap × List Str × (ExcName → Option Value)) × ((Str → Option Value) × (Str → Option Value) × Addr × Addr × String × Tok) × (Value × Value × Value)) : Prop := KP x.1.1 x.1.2.1 x.1.2.2.1 x.1.2.2.2.1 x.1.2.2.2.2.1 x.1.2.2.2.2.2 x.2.1.1 x.2.1.2.1 x.2.1.2.2.1 x.2.1.2.2.2.1 x.2.1.2.2.2.2.1 x.2.1.2.2.2.2.2 x.2.2.1 x.2.2.2.1 x.2.2.2.2
theorem Kex : ∃ x, KT x → ∀ y, KT y := drink ((anyW, (fun _ _ => True), {}, default, default, default), (default, default, default, default, default, default), (default, default, default)) _
@[irreducible] def Kx0 := Classical.choose Kex
@[irreducible] def w := Kx0.1.1
@[irreducible] def R := Kx0.1.2.1
@[irreducible] def s := Kx0.1.2.2.1
@[irreducible] def b := Kx0.1.2.2.2.1
@[irreducible] def loose := Kx0.1.2.2.2.2.1
@[irreducible] def mean := Kx0.1.2.2.2.2.2
@[irreducible] def mg := Kx0.2.1.1
@[irreducible] def mb := Kx0.2.1.2.1
@[irreducible] def x := Kx0.2.1.2.2.1
@[irreducible] def dx := Kx0.2.1.2.2.2.1
@[irreducible] def kind := Kx0.2.1.2.2.2.2.1
@[irreducible] def tk := Kx0.2.1.2.2.2.2.2
@[irreducible] def v := Kx0.2.2.1
@[irreducible] def ex := Kx0.2.2.2.1
@[irreducible] def ac := Kx0.2.2.2.2
set_option maxRecDepth 100000
set_option maxHeartbeats 4000000
@[irreducible] def g : Heap := hideAll s.heap (([(x, instObj 65 dx), (dx, dictOf [] 0)] : List (Addr × Obj)).map (·.1))
@[irreducible] def L' : Addr := s.heap.objs.size
theorem KgE  : g = hideAll s.heap (([(x, instObj 65 dx), (dx, dictOf [] 0)] : List (Addr × Obj)).map (·.1)) := by with_unfolding_all rfl
theorem KlE : L' = s.heap.objs.size := by with_unfolding_all rfl
theorem at0 : KP w R s b loose mean mg mb x dx kind tk v ex ac := by
  intro A st G D hlt hA hR
  subst hA
  have Xs := G.X.keeps st
  refine' enterE' KgE KlE (binds := [(Str.ofString "self", .ref x), (Str.ofString "kind", .str (Str.ofString kind) tk), (Str.ofString "value", v), (Str.ofString "is_exec", ex), (Str.ofString "access", ac)]) st G D ?k6 ?k7 ?k8 ?k9 ?kB ?_ ?c2 ?c3 ?c4 ?c5
  walk_at "my enter"
  intro h' Z F' N'
  have G' := G.keeps Z.st
  have ⟨X', T', _, _, _, _, _⟩ := G'
  walk_at "my go"
  rename Fr _ _ _ _ => F9
  rename News _ _ _ _ => N9
  refine' hR _ _ _ _ _ _ _ (after_part F9 N9 Z ?c ?l)
  case c => walk_at "my sub"
  case l => walk_at "my part"
end K_thing4_init
end
theorem thing4_init {w : World} {R : Result → Shared → Prop} {s : Shared} {b : Heap} {loose : List Str} {mean : ExcName → Option Value} {mg mb : Str → Option Value} {x dx : Addr} {kind : String} {tk : Tok} {v ex ac : Value} : K_thing4_init.KP w R s b loose mean mg mb x dx kind tk v ex ac :=
  @Classical.choose_spec _ _ K_thing4_init.Kex (by with_unfolding_all exact @K_thing4_init.at0) ((w, R, s, b, loose, mean), (mg, mb, x, dx, kind, tk), (v, ex, ac))
section
variable {w : World} {A : Around} {R : Result → Shared → Prop} {s : Shared} {b : Heap} {loose : List Str} {mean : ExcName → Option Value} {mg mb : Str → Option Value}
theorem thing4_c {kind : String} {tk : Tok} {v ex ac : Value} (st : b.StaysIn s.heap) (G : Gd w loose mean mg mb b)
    (hA : A = { depth := 840, units := 4490, frames := none, handled := none, guards := none })
    (hR : ∀ x dx h' tks q0 q1 q2 q3 n, @LT.lt Nat _ dx x → After s.heap h' [] → New s.heap h' [(x, instObj 65 dx), (dx, thingD w kind tk v ex ac q0 q1 q2 q3 n)] → R (.ok (.ret (.ref x))) ⟨h', s.gens, s.drawn, tks, s.os⟩) :
    codeAny (model PG w) A (.call (.ref 65) ⟨[.str (Str.ofString kind) tk, v, ex, ac], []⟩) R s := by
  subst hA
  obtain ⟨h, g, d, t, os⟩ := s
  refine makeA (G.X.keeps st) (by k_is) (by k_is) (by k_is) ?_
  refine codeAny_room (A' := { depth := 850, units := 4500, frames := none, handled := none, guards := none }) (thing4_init (b := b) (x := h.objs.size + 1) (dx := h.objs.size) (fun a o e => made2_k _ _ (st _ _ e)) G (made2_led st) (Nat.lt_succ_self _) rfl
    fun h' tks q0 q1 q2 q3 n Af => ⟨rfl, hR (h.objs.size + 1) h.objs.size h' tks q0 q1 q2 q3 n (Nat.lt_succ_self _) (made2_after Af) (made2_new Af fun _ hp => nomatch hp)⟩) rfl (Nat.le_of_ble_eq_true rfl) (.inl rfl) rfl (Nat.le_of_ble_eq_true rfl)
theorem thing4_w {E : Value → Shared → Prop} {Q : Value → Shared → Prop} {g : Heap} {L : Addr} {m : Str → Option Value} {kind : String} {tk : Tok} {v ex ac : Value} (F : Fr g L s.heap m) (G : Gd w loose mean mg mb b) (st : b.StaysIn g)
    (hA0 : A.handled = none) (hA3 : A.depth ≤ 840) (hA4 : A.units ≤ 4490)
    (hR : ∀ x dx h' tks q0 q1 q2 q3 n, @LT.lt Nat _ dx x → After s.heap h' [] → New s.heap h' [(x, instObj 65 dx), (dx, thingD w kind tk v ex ac q0 q1 q2 q3 n)] → Q (.ref x) ⟨h', s.gens, s.drawn, tks, s.os⟩) :
    wpAny (model PG w) A (call (.ref 65) [.str (Str.ofString kind) tk, v, ex, ac]) Q E s :=
  wpAny_call (codeAny_room (thing4_c (A := { depth := 840, units := 4490, frames := none, handled := none, guards := none }) (b := b) (fun a o e => F.keep _ _ (st _ _ e)) G rfl hR) hA0 hA3 (.inl rfl) rfl hA4)
theorem span_init {x dx : Addr} {y : Addr} {sv mv : Value} (st : b.StaysIn s.heap) (G : Gd w loose mean mg mb b) (D : Led b s.heap [(x, instObj 161 dx), (dx, dictOf [] 0)]) (hlt : @LT.lt Nat _ dx x)
    (hA : A = { depth := 850, units := 4500, frames := none, handled := none, guards := none })
    (hR : ∀ h' tks q0 q1 q2 n, After s.heap h' [(dx, spanD w y sv mv q0 q1 q2 n)] → R (.ok (.ret .none)) ⟨h', s.gens, s.drawn, tks, s.os⟩) :
    codeAny (model PG w) A (.call (.ref 158) ⟨[.ref x, .ref y, sv, mv], []⟩) R s := by
  subst hA
  have Xs := G.X.keeps st
  refine' enterE (binds := [(Str.ofString "self", .ref x), (Str.ofString "body", .ref y), (Str.ofString "start", sv), (Str.ofString "many", mv)]) st G D ?k6 ?k7 ?k8 ?k9 ?kB ?_ ?c2 ?c3 ?c4 ?c5
  walk_at "my enter"
  intro g L' h' Z F' N'
  have G' := G.keeps Z.st
  have ⟨X', T', _, _, _, _, _⟩ := G'
  walk_at "my go"
  rename Fr _ _ _ _ => F9
  rename News _ _ _ _ => N9
  refine' hR _ _ _ _ _ _ (after_part F9 N9 Z ?c ?l)
  case c => walk_at "my sub"
  case l => walk_at "my part"
theorem span_c {y : Addr} {sv mv : Value} (st : b.StaysIn s.heap) (G : Gd w loose mean mg mb b)
    (hA : A = { depth := 840, units := 4490, frames := none, handled := none, guards := none })
    (hR : ∀ x dx h' tks q0 q1 q2 n, @LT.lt Nat _ dx x → After s.heap h' [] → New s.heap h' [(x, instObj 161 dx), (dx, spanD w y sv mv q0 q1 q2 n)] → R (.ok (.ret (.ref x))) ⟨h', s.gens, s.drawn, tks, s.os⟩) :
    codeAny (model PG w) A (.call (.ref 161) ⟨[.ref y, sv, mv], []⟩) R s := by
  subst hA
  obtain ⟨h, g, d, t, os⟩ := s
  refine makeA (G.X.keeps st) (by k_is) (by k_is) (by k_is) ?_
  refine codeAny_room (A' := { depth := 850, units := 4500, frames := none, handled := none, guards := none }) (span_init (b := b) (x := h.objs.size + 1) (dx := h.objs.size) (fun a o e => made2_k _ _ (st _ _ e)) G (made2_led st) (Nat.lt_succ_self _) rfl
    fun h' tks q0 q1 q2 n Af => ⟨rfl, hR (h.objs.size + 1) h.objs.size h' tks q0 q1 q2 n (Nat.lt_succ_self _) (made2_after Af) (made2_new Af fun _ hp => nomatch hp)⟩) rfl (Nat.le_of_ble_eq_true rfl) (.inl rfl) rfl (Nat.le_of_ble_eq_true rfl)
theorem span_w {E : Value → Shared → Prop} {Q : Value → Shared → Prop} {g : Heap} {L : Addr} {m : Str → Option Value} {y : Addr} {sv mv : Value} (F : Fr g L s.heap m) (G : Gd w loose mean mg mb b) (st : b.StaysIn g)
    (hA0 : A.handled = none) (hA3 : A.depth ≤ 840) (hA4 : A.units ≤ 4490)
    (hR : ∀ x dx h' tks q0 q1 q2 n, @LT.lt Nat _ dx x → After s.heap h' [] → New s.heap h' [(x, instObj 161 dx), (dx, spanD w y sv mv q0 q1 q2 n)] → Q (.ref x) ⟨h', s.gens, s.drawn, tks, s.os⟩) :
    wpAny (model PG w) A (call (.ref 161) [.ref y, sv, mv]) Q E s :=
  wpAny_call (codeAny_room (span_c (A := { depth := 840, units := 4490, frames := none, handled := none, guards := none }) (b := b) (fun a o e => F.keep _ _ (st _ _ e)) G rfl hR) hA0 hA3 (.inl rfl) rfl hA4)
end
theorem New.app {h h' : Heap} {n1 n2 : List (Addr × Obj)} (a : New h h' n1) (c : New h h' n2) : New h h' (n1 ++ n2) := fun p hp => (List.mem_append.mp hp).elim (a p) (c p)
theorem kwE4Blinesi1 : True := by
  k_with "my st" => (first | exact fun _ _ e => e | exact Got.st (by assumption) | exact Fr.keep (by assumption))
  k_with "my made" => ((rename After _ _ _ => myA); (rename New _ _ _ => myW); (rename Fr _ _ _ _ => myF); (rename News _ _ _ _ => myN); k_dflt (refine' new_go myF myN myA myW ?ux102 ?cx102 ?_; (case ux102 => walk_at "my updm"); (case cx102 => walk_at "my subo")); clear myA myW; intro F' N' nwx'; (try dsimp only [List.cons_append, List.nil_append] at N'); (have nwy' := nwx'); (simp only [AllNew, allLt_nil, allLt_cons, and_true] at nwy'); (have ck' := Fr.keep F'); clear ck'; (try k_sweep))
  k_with "call ref" => (k_here; (with_reducible show wpAny _ _ (call (Value.ref 65) _) _ _ _); k_dflt (first | (refine' thing2_w ?Fx5e4 ?Gx5e4 ?stx5e4 ?a0x5e4 ?a3x5e4 ?a4x5e4 ?_; (case Fx5e4 => k_asm); (case Gx5e4 => assumption); (case stx5e4 => walk_at "my st"); (case a0x5e4 => exact rfl); (case a3x5e4 => exact Nat.le_of_ble_eq_true rfl); (case a4x5e4 => exact Nat.le_of_ble_eq_true rfl); k_whole) | (refine' thing3_w ?Fx5e4 ?Gx5e4 ?stx5e4 ?a0x5e4 ?a3x5e4 ?a4x5e4 ?_; (case Fx5e4 => k_asm); (case Gx5e4 => assumption); (case stx5e4 => walk_at "my st"); (case a0x5e4 => exact rfl); (case a3x5e4 => exact Nat.le_of_ble_eq_true rfl); (case a4x5e4 => exact Nat.le_of_ble_eq_true rfl); k_whole) | (refine' thing4_w ?Fx5e4 ?Gx5e4 ?stx5e4 ?a0x5e4 ?a3x5e4 ?a4x5e4 ?_; (case Fx5e4 => k_asm); (case Gx5e4 => assumption); (case stx5e4 => walk_at "my st"); (case a0x5e4 => exact rfl); (case a3x5e4 => exact Nat.le_of_ble_eq_true rfl); (case a4x5e4 => exact Nat.le_of_ble_eq_true rfl); k_whole)); intro x' dx' h' tks' k0' k1' k2' k3' kn' lt1' af' nw'; walk_at "my made")
  k_with "call ref" => (k_here; (with_reducible show wpAny _ _ (call (Value.ref 161) _) _ _ _); k_dflt (refine' span_w ?Fxe52 ?Gxe52 ?stxe52 ?a0xe52 ?a3xe52 ?a4xe52 ?_; (case Fxe52 => k_asm); (case Gxe52 => assumption); (case stxe52 => walk_at "my st"); (case a0xe52 => exact rfl); (case a3xe52 => exact Nat.le_of_ble_eq_true rfl); (case a4xe52 => exact Nat.le_of_ble_eq_true rfl); k_whole); intro x' dx' h' tks' k0' k1' k2' kn' lt1' af' nw'; walk_at "my made")
  exact trivial
section
variable {w : World} {A : Around} {R : Result → Shared → Prop} {s : Shared} {b : Heap} {loose : List Str} {mean : ExcName → Option Value} {mg mb : Str → Option Value}
set_option maxRecDepth 100000
set_option maxHeartbeats 4000000
theorem null_c  (st : b.StaysIn s.heap) (G : Gd w loose mean mg mb b)
    (hA : A = { depth := 830, units := 4400, frames := none, handled := none, guards := none })
    (hR : ∀ x dx h' tks tk q0 q1 q2 q3 n, @LT.lt Nat _ dx x → After s.heap h' [] → New s.heap h' [(x, instObj 65 dx), (dx, thingD w "null" tk .none (.bool false) (.int 3 236) q0 q1 q2 q3 n)] → R (.ok (.ret (.ref x))) ⟨h', s.gens, s.drawn, tks, s.os⟩) :
    codeAny (model PG w) A (.call (.ref 194) ⟨[], []⟩) R s := by
  subst hA
  have Xs := G.X.keeps st
  have D : Led b s.heap [] := fun _ hp => (nomatch hp)
  refine' enterE (binds := []) st G D ?k6 ?k7 ?k8 ?k9 ?kB ?_ ?c2 ?c3 ?c4 ?c5
  walk_at "my enter"
  intro g L' h' Z F' N'
  have G' := G.keeps Z.st
  have ⟨X', T', _, _, _, _, _⟩ := G'
  walk_at "my go"
  rename Fr _ _ _ _ => F9
  rename News _ _ _ _ => N9
  rename AllNew _ _ _ => nw9
  refine' hR _ _ _ _ _ _ _ _ _ _ ?l1 (after_part F9 N9 Z ?c ?l) (new_of Z N9 nw9 ?d)
  case c => exact fun _ hp => (nomatch hp)
  case l => exact fun _ hp => (nomatch hp)
  case d => walk_at "my sub"
  case l1 => assumption
theorem null_w {E : Value → Shared → Prop} {Q : Value → Shared → Prop} {g : Heap} {L : Addr} {m : Str → Option Value}  (F : Fr g L s.heap m) (G : Gd w loose mean mg mb b) (st : b.StaysIn g)
    (hA0 : A.handled = none) (hA3 : A.depth ≤ 830) (hA4 : A.units ≤ 4400)
    (hR : ∀ x dx h' tks tk q0 q1 q2 q3 n, @LT.lt Nat _ dx x → After s.heap h' [] → New s.heap h' [(x, instObj 65 dx), (dx, thingD w "null" tk .none (.bool false) (.int 3 236) q0 q1 q2 q3 n)] → Q (.ref x) ⟨h', s.gens, s.drawn, tks, s.os⟩) :
    wpAny (model PG w) A (call (.ref 194) []) Q E s :=
  wpAny_call (codeAny_room (null_c (A := { depth := 830, units := 4400, frames := none, handled := none, guards := none }) (b := b) (fun a o e => F.keep _ _ (st _ _ e)) G rfl hR) hA0 hA3 (.inl rfl) rfl hA4)
theorem mark_c  (st : b.StaysIn s.heap) (G : Gd w loose mean mg mb b)
    (hA : A = { depth := 830, units := 4400, frames := none, handled := none, guards := none })
    (hR : ∀ x dx h' tks tk q0 q1 q2 q3 n, @LT.lt Nat _ dx x → After s.heap h' [] → New s.heap h' [(x, instObj 65 dx), (dx, thingD w "mark" tk .none (.bool false) (.int 3 236) q0 q1 q2 q3 n)] → R (.ok (.ret (.ref x))) ⟨h', s.gens, s.drawn, tks, s.os⟩) :
    codeAny (model PG w) A (.call (.ref 187) ⟨[], []⟩) R s := by
  subst hA
  have Xs := G.X.keeps st
  have D : Led b s.heap [] := fun _ hp => (nomatch hp)
  refine' enterE (binds := []) st G D ?k6 ?k7 ?k8 ?k9 ?kB ?_ ?c2 ?c3 ?c4 ?c5
  walk_at "my enter"
  intro g L' h' Z F' N'
  have G' := G.keeps Z.st
  have ⟨X', T', _, _, _, _, _⟩ := G'
  walk_at "my go"
  rename Fr _ _ _ _ => F9
  rename News _ _ _ _ => N9
  rename AllNew _ _ _ => nw9
  refine' hR _ _ _ _ _ _ _ _ _ _ ?l1 (after_part F9 N9 Z ?c ?l) (new_of Z N9 nw9 ?d)
  case c => exact fun _ hp => (nomatch hp)
  case l => exact fun _ hp => (nomatch hp)
  case d => walk_at "my sub"
  case l1 => assumption
theorem mark_w {E : Value → Shared → Prop} {Q : Value → Shared → Prop} {g : Heap} {L : Addr} {m : Str → Option Value}  (F : Fr g L s.heap m) (G : Gd w loose mean mg mb b) (st : b.StaysIn g)
    (hA0 : A.handled = none) (hA3 : A.depth ≤ 830) (hA4 : A.units ≤ 4400)
    (hR : ∀ x dx h' tks tk q0 q1 q2 q3 n, @LT.lt Nat _ dx x → After s.heap h' [] → New s.heap h' [(x, instObj 65 dx), (dx, thingD w "mark" tk .none (.bool false) (.int 3 236) q0 q1 q2 q3 n)] → Q (.ref x) ⟨h', s.gens, s.drawn, tks, s.os⟩) :
    wpAny (model PG w) A (call (.ref 187) []) Q E s :=
  wpAny_call (codeAny_room (mark_c (A := { depth := 830, units := 4400, frames := none, handled := none, guards := none }) (b := b) (fun a o e => F.keep _ _ (st _ _ e)) G rfl hR) hA0 hA3 (.inl rfl) rfl hA4)
theorem integer_c {k : Int} {t : Tok} (st : b.StaysIn s.heap) (G : Gd w loose mean mg mb b)
    (hA : A = { depth := 830, units := 4400, frames := none, handled := none, guards := none })
    (hR : ∀ x dx h' tks tk q0 q1 q2 q3 n, @LT.lt Nat _ dx x → After s.heap h' [] → New s.heap h' [(x, instObj 65 dx), (dx, thingD w "integer" tk (.int k t) (.bool false) (.int 3 236) q0 q1 q2 q3 n)] → R (.ok (.ret (.ref x))) ⟨h', s.gens, s.drawn, tks, s.os⟩) :
    codeAny (model PG w) A (.call (.ref 172) ⟨[.int k t], []⟩) R s := by
  subst hA
  have Xs := G.X.keeps st
  have D : Led b s.heap [] := fun _ hp => (nomatch hp)
  refine' enterE (binds := [(Str.ofString "number", .int k t)]) st G D ?k6 ?k7 ?k8 ?k9 ?kB ?_ ?c2 ?c3 ?c4 ?c5
  walk_at "my enter"
  intro g L' h' Z F' N'
  have G' := G.keeps Z.st
  have ⟨X', T', _, _, _, _, _⟩ := G'
  walk_at "my go"
  rename Fr _ _ _ _ => F9
  rename News _ _ _ _ => N9
  rename AllNew _ _ _ => nw9
  refine' hR _ _ _ _ _ _ _ _ _ _ ?l1 (after_part F9 N9 Z ?c ?l) (new_of Z N9 nw9 ?d)
  case c => exact fun _ hp => (nomatch hp)
  case l => exact fun _ hp => (nomatch hp)
  case d => walk_at "my sub"
  case l1 => assumption
theorem integer_w {E : Value → Shared → Prop} {Q : Value → Shared → Prop} {g : Heap} {L : Addr} {m : Str → Option Value} {k : Int} {t : Tok} (F : Fr g L s.heap m) (G : Gd w loose mean mg mb b) (st : b.StaysIn g)
    (hA0 : A.handled = none) (hA3 : A.depth ≤ 830) (hA4 : A.units ≤ 4400)
    (hR : ∀ x dx h' tks tk q0 q1 q2 q3 n, @LT.lt Nat _ dx x → After s.heap h' [] → New s.heap h' [(x, instObj 65 dx), (dx, thingD w "integer" tk (.int k t) (.bool false) (.int 3 236) q0 q1 q2 q3 n)] → Q (.ref x) ⟨h', s.gens, s.drawn, tks, s.os⟩) :
    wpAny (model PG w) A (call (.ref 172) [.int k t]) Q E s :=
  wpAny_call (codeAny_room (integer_c (A := { depth := 830, units := 4400, frames := none, handled := none, guards := none }) (b := b) (fun a o e => F.keep _ _ (st _ _ e)) G rfl hR) hA0 hA3 (.inl rfl) rfl hA4)
theorem name_c {y : Array UInt8} {t : Tok} (st : b.StaysIn s.heap) (G : Gd w loose mean mg mb b)
    (hA : A = { depth := 830, units := 4400, frames := none, handled := none, guards := none })
    (hR : ∀ x dx h' tks tk q0 q1 q2 q3 n, @LT.lt Nat _ dx x → After s.heap h' [] → New s.heap h' [(x, instObj 65 dx), (dx, thingD w "name" tk (.bytes y t) (.bool false) (.int 3 236) q0 q1 q2 q3 n)] → R (.ok (.ret (.ref x))) ⟨h', s.gens, s.drawn, tks, s.os⟩) :
    codeAny (model PG w) A (.call (.ref 180) ⟨[.bytes y t], []⟩) R s := by
  subst hA
  have Xs := G.X.keeps st
  have D : Led b s.heap [] := fun _ hp => (nomatch hp)
  refine' enterE (binds := [(Str.ofString "octets", .bytes y t), (Str.ofString "is_exec", .bool false)]) st G D ?k6 ?k7 ?k8 ?k9 ?kB ?_ ?c2 ?c3 ?c4 ?c5
  walk_at "my enter"
  intro g L' h' Z F' N'
  have G' := G.keeps Z.st
  have ⟨X', T', _, _, _, _, _⟩ := G'
  walk_at "my go"
  rename Fr _ _ _ _ => F9
  rename News _ _ _ _ => N9
  rename AllNew _ _ _ => nw9
  refine' hR _ _ _ _ _ _ _ _ _ _ ?l1 (after_part F9 N9 Z ?c ?l) (new_of Z N9 nw9 ?d)
  case c => exact fun _ hp => (nomatch hp)
  case l => exact fun _ hp => (nomatch hp)
  case d => walk_at "my sub"
  case l1 => assumption
theorem name_w {E : Value → Shared → Prop} {Q : Value → Shared → Prop} {g : Heap} {L : Addr} {m : Str → Option Value} {y : Array UInt8} {t : Tok} (F : Fr g L s.heap m) (G : Gd w loose mean mg mb b) (st : b.StaysIn g)
    (hA0 : A.handled = none) (hA3 : A.depth ≤ 830) (hA4 : A.units ≤ 4400)
    (hR : ∀ x dx h' tks tk q0 q1 q2 q3 n, @LT.lt Nat _ dx x → After s.heap h' [] → New s.heap h' [(x, instObj 65 dx), (dx, thingD w "name" tk (.bytes y t) (.bool false) (.int 3 236) q0 q1 q2 q3 n)] → Q (.ref x) ⟨h', s.gens, s.drawn, tks, s.os⟩) :
    wpAny (model PG w) A (call (.ref 180) [.bytes y t]) Q E s :=
  wpAny_call (codeAny_room (name_c (A := { depth := 830, units := 4400, frames := none, handled := none, guards := none }) (b := b) (fun a o e => F.keep _ _ (st _ _ e)) G rfl hR) hA0 hA3 (.inl rfl) rfl hA4)
theorem ofdict_c {y : Addr} (st : b.StaysIn s.heap) (G : Gd w loose mean mg mb b)
    (hA : A = { depth := 830, units := 4400, frames := none, handled := none, guards := none })
    (hR : ∀ x dx h' tks tk q0 q1 q2 q3 n, @LT.lt Nat _ dx x → After s.heap h' [] → New s.heap h' [(x, instObj 65 dx), (dx, thingD w "dict" tk (.ref y) (.bool false) (.int 3 236) q0 q1 q2 q3 n)] → R (.ok (.ret (.ref x))) ⟨h', s.gens, s.drawn, tks, s.os⟩) :
    codeAny (model PG w) A (.call (.ref 217) ⟨[.ref y], []⟩) R s := by
  subst hA
  have Xs := G.X.keeps st
  have D : Led b s.heap [] := fun _ hp => (nomatch hp)
  refine' enterE (binds := [(Str.ofString "body", .ref y)]) st G D ?k6 ?k7 ?k8 ?k9 ?kB ?_ ?c2 ?c3 ?c4 ?c5
  walk_at "my enter"
  intro g L' h' Z F' N'
  have G' := G.keeps Z.st
  have ⟨X', T', _, _, _, _, _⟩ := G'
  walk_at "my go"
  rename Fr _ _ _ _ => F9
  rename News _ _ _ _ => N9
  rename AllNew _ _ _ => nw9
  refine' hR _ _ _ _ _ _ _ _ _ _ ?l1 (after_part F9 N9 Z ?c ?l) (new_of Z N9 nw9 ?d)
  case c => exact fun _ hp => (nomatch hp)
  case l => exact fun _ hp => (nomatch hp)
  case d => walk_at "my sub"
  case l1 => assumption
theorem ofdict_w {E : Value → Shared → Prop} {Q : Value → Shared → Prop} {g : Heap} {L : Addr} {m : Str → Option Value} {y : Addr} (F : Fr g L s.heap m) (G : Gd w loose mean mg mb b) (st : b.StaysIn g)
    (hA0 : A.handled = none) (hA3 : A.depth ≤ 830) (hA4 : A.units ≤ 4400)
    (hR : ∀ x dx h' tks tk q0 q1 q2 q3 n, @LT.lt Nat _ dx x → After s.heap h' [] → New s.heap h' [(x, instObj 65 dx), (dx, thingD w "dict" tk (.ref y) (.bool false) (.int 3 236) q0 q1 q2 q3 n)] → Q (.ref x) ⟨h', s.gens, s.drawn, tks, s.os⟩) :
    wpAny (model PG w) A (call (.ref 217) [.ref y]) Q E s :=
  wpAny_call (codeAny_room (ofdict_c (A := { depth := 830, units := 4400, frames := none, handled := none, guards := none }) (b := b) (fun a o e => F.keep _ _ (st _ _ e)) G rfl hR) hA0 hA3 (.inl rfl) rfl hA4)
end
theorem kwE4linesj1 : True := by
  k_with "call ref" => (k_here; (with_reducible show wpAny _ _ (call (Value.ref 194) _) _ _ _); k_dflt (refine' null_w ?Fxad2 ?Gxad2 ?stxad2 ?a0xad2 ?a3xad2 ?a4xad2 ?_; (case Fxad2 => k_asm); (case Gxad2 => assumption); (case stxad2 => walk_at "my st"); (case a0xad2 => exact rfl); (case a3xad2 => exact Nat.le_of_ble_eq_true rfl); (case a4xad2 => exact Nat.le_of_ble_eq_true rfl); k_whole); intro x' dx' h' tks' tk' k0' k1' k2' k3' kn' lt1' af' nw'; walk_at "my made")
  k_with "call ref" => (k_here; (with_reducible show wpAny _ _ (call (Value.ref 187) _) _ _ _); k_dflt (refine' mark_w ?Fx1c8 ?Gx1c8 ?stx1c8 ?a0x1c8 ?a3x1c8 ?a4x1c8 ?_; (case Fx1c8 => k_asm); (case Gx1c8 => assumption); (case stx1c8 => walk_at "my st"); (case a0x1c8 => exact rfl); (case a3x1c8 => exact Nat.le_of_ble_eq_true rfl); (case a4x1c8 => exact Nat.le_of_ble_eq_true rfl); k_whole); intro x' dx' h' tks' tk' k0' k1' k2' k3' kn' lt1' af' nw'; walk_at "my made")
  k_with "call ref" => (k_here; (with_reducible show wpAny _ _ (call (Value.ref 172) _) _ _ _); k_dflt (refine' integer_w ?Fx161 ?Gx161 ?stx161 ?a0x161 ?a3x161 ?a4x161 ?_; (case Fx161 => k_asm); (case Gx161 => assumption); (case stx161 => walk_at "my st"); (case a0x161 => exact rfl); (case a3x161 => exact Nat.le_of_ble_eq_true rfl); (case a4x161 => exact Nat.le_of_ble_eq_true rfl); k_whole); intro x' dx' h' tks' tk' k0' k1' k2' k3' kn' lt1' af' nw'; walk_at "my made")
  k_with "call ref" => (k_here; (with_reducible show wpAny _ _ (call (Value.ref 180) _) _ _ _); k_dflt (refine' name_w ?Fx4f2 ?Gx4f2 ?stx4f2 ?a0x4f2 ?a3x4f2 ?a4x4f2 ?_; (case Fx4f2 => k_asm); (case Gx4f2 => assumption); (case stx4f2 => walk_at "my st"); (case a0x4f2 => exact rfl); (case a3x4f2 => exact Nat.le_of_ble_eq_true rfl); (case a4x4f2 => exact Nat.le_of_ble_eq_true rfl); k_whole); intro x' dx' h' tks' tk' k0' k1' k2' k3' kn' lt1' af' nw'; walk_at "my made")
  k_with "call ref" => (k_here; (with_reducible show wpAny _ _ (call (Value.ref 217) _) _ _ _); k_dflt (refine' ofdict_w ?Fxf7b ?Gxf7b ?stxf7b ?a0xf7b ?a3xf7b ?a4xf7b ?_; (case Fxf7b => k_asm); (case Gxf7b => assumption); (case stxf7b => walk_at "my st"); (case a0xf7b => exact rfl); (case a3xf7b => exact Nat.le_of_ble_eq_true rfl); (case a4xf7b => exact Nat.le_of_ble_eq_true rfl); k_whole); intro x' dx' h' tks' tk' k0' k1' k2' k3' kn' lt1' af' nw'; walk_at "my made")
  exact trivial

section
variable {w : World} {A : Around} {R : Result → Shared → Prop} {s : Shared} {b : Heap} {loose : List Str} {mean : ExcName → Option Value} {mg mb : Str → Option Value} {fl : List Env}
set_option maxRecDepth 100000
set_option maxHeartbeats 4000000
theorem kwE4e41 : True := by
  k_with "my goto" => ((try k_fold); repeat' ((fail_if_success (with_reducible show wpAny _ _ (call (Value.ref 338) _) _ _ _)); first | (k_unfold; (try dsimp only)) | (walk1; (try dsimp only)) | (dsimp only; walk1)))
  exact trivial
theorem fold_rep {v : Value} : ∀ k : Nat, List.foldl (fun x1 x2 : Array Value => x1 ++ x2) #[] (List.replicate k #[v]) = (List.replicate k v).toArray := by
  have key : ∀ (k : Nat) (a : Array Value), List.foldl (fun x1 x2 : Array Value => x1 ++ x2) a (List.replicate k #[v]) = a ++ (List.replicate k v).toArray := by
    intro k
    induction k with
    | zero => intro a; simp
    | succ k ih => intro a; rw [List.replicate_succ, List.foldl_cons, ih, List.replicate_succ]; apply Array.toList_inj.mp; simp
  intro k; rw [key]; simp
theorem my_mul {prog : Program} {E : Value → Shared → Prop} {g : Heap} {L l : Addr} {m : Str → Option Value} {news : List (Addr × Obj)} {v : Value} {k : Int} {c : Nat} {u : Tok} {Q : Value → Shared → Prop} (F : Fr g L s.heap m) (N : News g L s.heap news) (hm : (l, listOf #[v] c) ∈ news) (h0 : 0 ≤ k) (h1 : k ≤ 1000)
    (h : ∀ D h', Fr g L h' m → News g L h' ((D, listOf (List.replicate k.toNat v).toArray 0) :: news) → (∀ q ∈ news, q.1 < D) → L < D → Q (.ref D) { s with heap := h' }) : wpAny (model prog w) A (binaryOp .Mult (.ref l) (.int k u)) Q E s := by
  refine mul_list F N (N _ hm).1 (by omega) (by omega) (by simp; omega) fun h' F' N' => h _ h' F' ?_ (fun q hq => Heap.lt_size (N q hq).1) F.ns.lt
  rw [if_neg (by simp), fold_rep] at N'
  exact N'
theorem kwE4e42 : True := by
  k_with "binaryOp Mult ref int" => (k_here; (with_reducible show wpAny _ _ (binaryOp Operator.Mult (Value.ref _) (Value.int _ _)) _ _ _); k_dflt (refine' my_mul ?Fxa22 ?Nxa22 ?mxa22 ?h0xa22 ?h1xa22 ?_; (case Fxa22 => k_asm); (case Nxa22 => k_asm); (case mxa22 => k_mem); (case h0xa22 => first | assumption | omega); (case h1xa22 => first | assumption | omega); k_whole); intro D' h' F' N' l1 l2; (try k_lt l1); (try k_sweep))
  exact trivial
theorem null_list {g h : Heap} {L th x d : Addr} {k : Nat} {q : Addr × Obj} {tk : Tok} {v ex ac : Value} {q0 q1 q2 q3 : Tok} {qn : Nat} {rest : List (Addr × Obj)} (N : News g L h ((th, listOf (List.replicate k (Value.ref x)).toArray 0) :: q :: (x, instObj 65 d) :: (d, thingD w "null" tk v ex ac q0 q1 q2 q3 qn) :: rest)) (st : b.StaysIn g) (hv : handedIn v = true := by rfl) :
    h.IsList th (List.replicate k (Value.ref x)).toArray ∧ ∀ p ∈ List.replicate k (x, true), ThingOK w b h p.1 p.2 := by
  have none_of : ∀ p : Addr × Obj, g.get? p.1 = none → b.get? p.1 = none := fun p e => by
    cases z : b.get? p.1 with
    | none => rfl
    | some o => rw [st _ _ z] at e; cases e
  refine ⟨N.isList (.head _), fun p hp => ?_⟩
  obtain rfl := List.eq_of_mem_replicate hp
  refine ⟨[(x, instObj 65 d), (d, thingD w "null" tk v ex ac q0 q1 q2 q3 qn)], .flat (by simp) hv, fun p hp => ?_⟩
  have hp' : p ∈ (x, instObj 65 d) :: (d, thingD w "null" tk v ex ac q0 q1 q2 q3 qn) :: rest := by
    rcases List.mem_cons.mp hp with rfl | hp
    · exact .head _
    · obtain rfl := List.mem_singleton.mp hp; exact .tail _ (.head _)
  have := N p (.tail _ (.tail _ hp'))
  exact ⟨this.1, none_of p this.2.2⟩
end
noncomputable section
namespace K_nulls_c
def KP (w : World) (R : Result → Shared → Prop) (s : Shared) (b : Heap) (loose : List Str) (mean : ExcName → Option Value) (mg mb : Str → Option Value) (fl : List Env) (many : Int) (tmn : Tok) (mk mx lx lm sv jr mm fr : Addr) (gl : Bool) (u0 u1 lb ls : Int) (a0 a1 a2 a3 t0 t1 t2 t3 t4 t5 t6 t7 t8 t9 : Tok) (mn : Nat) (lim : List DictEntry) (ln : Nat) (vm rx : Int) (tv tvx : Tok) (es : Array DictEntry) (ep n : Nat) : Prop := ∀ {A : Around} (st : b.StaysIn s.heap) (G : Gd w loose mean mg mb b) (Bl : Below A b fl s.heap) (hA : A = { depth := 600, units := 2500, frames := some fl, handled := none, guards := none }) (ho : @LT.lt Nat _ lx lm ∧ @LT.lt Nat _ lm mx ∧ @LT.lt Nat _ mx mk ∧ @LT.lt Nat _ mk sv ∧ @LT.lt Nat _ sv mm) (D : Led b s.heap (mkLed w mk mx lx lm sv jr mm fr gl u0 u1 lb ls a0 a1 a2 a3 t0 t1 t2 t3 t4 t5 t6 t7 t8 t9 mn lim ln es ep)) (hv : getL (Str.ofString "vm") lim = some (some (.int vm tv))) (hx : getL (Str.ofString "row") lim = some (some (.int rx tvx))) (hn : Nums w es n) (hn0 : n ≤ 900) (hz : rx ≤ 100) (nf : ∀ env ∈ fl, ∀ p ∈ mkLed w mk mx lx lm sv jr mm fr gl u0 u1 lb ls a0 a1 a2 a3 t0 t1 t2 t3 t4 t5 t6 t7 t8 t9 mn lim ln es ep, env.frame ≠ some p.1) (ok : 0 ≤ many → many ≤ rx → u0 + u1 + 8 * many ≤ vm → ∀ x dx l c t dt tk v ex ac q0 q1 q2 q3 qn h' tks tn tl k0 k1 k2 k3 kn u0' u1' a0' a1' a2' es' ep', u0' = (if gl = true then u0 else u0 + 8 * many) → u1' = (if gl = true then u1 + 8 * many else u1) →
      Nums w es' (n + 1) → @LT.lt Nat _ dt t → @LT.lt Nat _ t dx → @LT.lt Nat _ dx x → @LT.lt Nat _ x l → After s.heap h' [(mx, makerO w lm sv jr mm fr gl u0' u1' (lb + 1) ls a0' a1' a2' a3 t0 t1 t2 t3 t4 t5 t6 t7 t8 t9 mn), (mm, dictA es' ep')] →
      New s.heap h' [(x, instObj 107 dx), (dx, rowD w (lb + 1) tn l gl 0 tl k0 k1 k2 k3 kn), (l, listOf (List.replicate many.toNat (Value.ref t)).toArray c), (t, instObj 65 dt), (dt, thingD w "null" tk v ex ac q0 q1 q2 q3 qn)] → R (.ok (.ret (.ref x))) ⟨h', s.gens, s.drawn, tks, s.os⟩) (bad0 : many < 0 → ∀ e h' tks tk, ErrEnd w fl s.heap (.bytes (asBytes "rangecheck") tk) e h' → R (.error (.ref e)) ⟨h', s.gens, s.drawn, tks, s.os⟩) (bad1 : 0 ≤ many → rx < many → ∀ e h' tks tk, ErrEnd w fl s.heap (.bytes (asBytes "limitcheck") tk) e h' → R (.error (.ref e)) ⟨h', s.gens, s.drawn, tks, s.os⟩) (bad2 : 0 ≤ many → many ≤ rx → vm < u0 + u1 + 8 * many → ∀ e h' tks tk, ErrEnd w fl s.heap (.bytes (asBytes "VMerror") tk) e h' → R (.error (.ref e)) ⟨h', s.gens, s.drawn, tks, s.os⟩), codeAny (model PG w) A (.call (.ref 338) ⟨[.ref mk, .int many tmn], []⟩) R s
def KT (x : (World × (Result → Shared → Prop) × Shared × Heap × List Str × (ExcName → Option Value)) × ((Str → Option Value) × (Str → Option Value) × List Env × Int × Tok × Addr) × (Addr × Addr × Addr × Addr × Addr × Addr) × (Addr × Bool × Int × Int × Int × Int) × (Tok × Tok × Tok × Tok × Tok × Tok) × (Tok × Tok × Tok × Tok × Tok × Tok) × (Tok × Tok × Nat × List DictEntry × Nat × Int) × (Int × Tok × Tok × Array DictEntry × Nat × Nat)) : Prop := KP x.1.1 x.1.2.1 x.1.2.2.1 x.1.2.2.2.1 x.1.2.2.2.2.1 x.1.2.2.2.2.2 x.2.1.1 x.2.1.2.1 x.2.1.2.2.1 x.2.1.2.2.2.1 x.2.1.2.2.2.2.1 x.2.1.2.2.2.2.2 x.2.2.1.1 x.2.2.1.2.1 x.2.2.1.2.2.1 x.2.2.1.2.2.2.1 x.2.2.1.2.2.2.2.1 x.2.2.1.2.2.2.2.2 x.2.2.2.1.1 x.2.2.2.1.2.1 x.2.2.2.1.2.2.1 x.2.2.2.1.2.2.2.1 x.2.2.2.1.2.2.2.2.1 x.2.2.2.1.2.2.2.2.2 x.2.2.2.2.1.1 x.2.2.2.2.1.2.1 x.2.2.2.2.1.2.2.1 x.2.2.2.2.1.2.2.2.1 x.2.2.2.2.1.2.2.2.2.1 x.2.2.2.2.1.2.2.2.2.2 x.2.2.2.2.2.1.1 x.2.2.2.2.2.1.2.1 x.2.2.2.2.2.1.2.2.1 x.2.2.2.2.2.1.2.2.2.1 x.2.2.2.2.2.1.2.2.2.2.1 x.2.2.2.2.2.1.2.2.2.2.2 x.2.2.2.2.2.2.1.1 x.2.2.2.2.2.2.1.2.1 x.2.2.2.2.2.2.1.2.2.1 x.2.2.2.2.2.2.1.2.2.2.1 x.2.2.2.2.2.2.1.2.2.2.2.1 x.2.2.2.2.2.2.1.2.2.2.2.2 x.2.2.2.2.2.2.2.1 x.2.2.2.2.2.2.2.2.1 x.2.2.2.2.2.2.2.2.2.1 x.2.2.2.2.2.2.2.2.2.2.1 x.2.2.2.2.2.2.2.2.2.2.2.1 x.2.2.2.2.2.2.2.2.2.2.2.2
theorem Kex : ∃ x, KT x → ∀ y, KT y := drink ((anyW, (fun _ _ => True), {}, default, default, default), (default, default, default, default, default, default), (default, default, default, default, default, default), (default, default, default, default, default, default), (default, default, default, default, default, default), (default, default, default, default, default, default), (default, default, default, default, default, default), (default, default, default, default, default, default)) _
@[irreducible] def Kx0 := Classical.choose Kex
@[irreducible] def w := Kx0.1.1
@[irreducible] def R := Kx0.1.2.1
@[irreducible] def s := Kx0.1.2.2.1
@[irreducible] def b := Kx0.1.2.2.2.1
@[irreducible] def loose := Kx0.1.2.2.2.2.1
@[irreducible] def mean := Kx0.1.2.2.2.2.2
@[irreducible] def mg := Kx0.2.1.1
@[irreducible] def mb := Kx0.2.1.2.1
@[irreducible] def fl := Kx0.2.1.2.2.1
@[irreducible] def many := Kx0.2.1.2.2.2.1
@[irreducible] def tmn := Kx0.2.1.2.2.2.2.1
@[irreducible] def mk := Kx0.2.1.2.2.2.2.2
@[irreducible] def mx := Kx0.2.2.1.1
@[irreducible] def lx := Kx0.2.2.1.2.1
@[irreducible] def lm := Kx0.2.2.1.2.2.1
@[irreducible] def sv := Kx0.2.2.1.2.2.2.1
@[irreducible] def jr := Kx0.2.2.1.2.2.2.2.1
@[irreducible] def mm := Kx0.2.2.1.2.2.2.2.2
@[irreducible] def fr := Kx0.2.2.2.1.1
@[irreducible] def gl := Kx0.2.2.2.1.2.1
@[irreducible] def u0 := Kx0.2.2.2.1.2.2.1
@[irreducible] def u1 := Kx0.2.2.2.1.2.2.2.1
@[irreducible] def lb := Kx0.2.2.2.1.2.2.2.2.1
@[irreducible] def ls := Kx0.2.2.2.1.2.2.2.2.2
@[irreducible] def a0 := Kx0.2.2.2.2.1.1
@[irreducible] def a1 := Kx0.2.2.2.2.1.2.1
@[irreducible] def a2 := Kx0.2.2.2.2.1.2.2.1
@[irreducible] def a3 := Kx0.2.2.2.2.1.2.2.2.1
@[irreducible] def t0 := Kx0.2.2.2.2.1.2.2.2.2.1
@[irreducible] def t1 := Kx0.2.2.2.2.1.2.2.2.2.2
@[irreducible] def t2 := Kx0.2.2.2.2.2.1.1
@[irreducible] def t3 := Kx0.2.2.2.2.2.1.2.1
@[irreducible] def t4 := Kx0.2.2.2.2.2.1.2.2.1
@[irreducible] def t5 := Kx0.2.2.2.2.2.1.2.2.2.1
@[irreducible] def t6 := Kx0.2.2.2.2.2.1.2.2.2.2.1
@[irreducible] def t7 := Kx0.2.2.2.2.2.1.2.2.2.2.2
@[irreducible] def t8 := Kx0.2.2.2.2.2.2.1.1
@[irreducible] def t9 := Kx0.2.2.2.2.2.2.1.2.1
@[irreducible] def mn := Kx0.2.2.2.2.2.2.1.2.2.1
@[irreducible] def lim := Kx0.2.2.2.2.2.2.1.2.2.2.1
@[irreducible] def ln := Kx0.2.2.2.2.2.2.1.2.2.2.2.1
@[irreducible] def vm := Kx0.2.2.2.2.2.2.1.2.2.2.2.2
@[irreducible] def rx := Kx0.2.2.2.2.2.2.2.1
@[irreducible] def tv := Kx0.2.2.2.2.2.2.2.2.1
@[irreducible] def tvx := Kx0.2.2.2.2.2.2.2.2.2.1
@[irreducible] def es := Kx0.2.2.2.2.2.2.2.2.2.2.1
@[irreducible] def ep := Kx0.2.2.2.2.2.2.2.2.2.2.2.1
@[irreducible] def n := Kx0.2.2.2.2.2.2.2.2.2.2.2.2
set_option maxRecDepth 100000
set_option maxHeartbeats 4000000
@[irreducible] def g : Heap := hideAll s.heap (((mkLed w mk mx lx lm sv jr mm fr gl u0 u1 lb ls a0 a1 a2 a3 t0 t1 t2 t3 t4 t5 t6 t7 t8 t9 mn lim ln es ep) : List (Addr × Obj)).map (·.1))
@[irreducible] def L' : Addr := s.heap.objs.size
theorem KgE  : g = hideAll s.heap (((mkLed w mk mx lx lm sv jr mm fr gl u0 u1 lb ls a0 a1 a2 a3 t0 t1 t2 t3 t4 t5 t6 t7 t8 t9 mn lim ln es ep) : List (Addr × Obj)).map (·.1)) := by with_unfolding_all rfl
theorem KlE : L' = s.heap.objs.size := by with_unfolding_all rfl
theorem at0 : KP w R s b loose mean mg mb fl many tmn mk mx lx lm sv jr mm fr gl u0 u1 lb ls a0 a1 a2 a3 t0 t1 t2 t3 t4 t5 t6 t7 t8 t9 mn lim ln vm rx tv tvx es ep n := by
  intro A st G Bl hA ho D hv hx hn hn0 hz nf ok bad0 bad1 bad2
  subst hA
  refine' enterE' KgE KlE (binds := [(Str.ofString "self", .ref mk), (Str.ofString "things", .int many tmn)]) st G D ?k6 ?k7 ?k8 ?k9 ?kB ?_ ?c2 ?c3 ?c4 ?c5
  walk_at "my enter"
  intro h' Z F' N'
  have G' := G.keeps Z.st
  have ⟨X', T', _, _, _, _, _⟩ := G'
  have Bg := Z.below Bl nf
  have ho' := ho
  obtain ⟨o1, o2, o3, o4, o5⟩ := ho
  dsimp only [mkLed] at N'
  walk_at "my goto"
  · rename Fr _ _ _ _ => myF
    rename News _ _ _ _ => myN
    obtain ⟨hth, hok⟩ := null_list myN Z.st
    have hmz : ((many.toNat : Nat) : Int) = many := Int.toNat_of_nonneg (by assumption)
    refine' row_w ?C ?G ?a3 ?a4 ho' ?hm hv hx hn hn0 hth ?hton ?hits hok ?hz ?_ ?_ ?_ ?_
    case C => exact ⟨Bg, myF, myN, rfl, rfl, rfl, rfl⟩
    case G => assumption
    case a3 => exact Nat.le_of_ble_eq_true rfl
    case a4 => exact Nat.le_of_ble_eq_true rfl
    case hm => walk_at "my sub"
    case hton =>
      simp only [List.map_cons, List.map_nil, List.mem_cons, List.not_mem_nil, or_false, not_or]
      refine ⟨(?_ : _ ≠ _), (?_ : _ ≠ _), (?_ : _ ≠ _), (?_ : _ ≠ _), (?_ : _ ≠ _), (?_ : _ ≠ _)⟩ <;> k_ne
    case hits => simp
    case hz => rw [List.length_replicate]; omega
    · rw [List.length_replicate, hmz]
      intro hq1 _ hq2 x dx l c h9 tks9 tn tl k0 k1 k2 k3 kn u0' u1' a0' a1' a2' es' ep' e1 e2 hn' l1 l2 A9 W9
      walk_at "my new"
      (rename Fr _ _ _ _ => F9); (rename News _ _ _ _ => N9); (rename AllNew _ _ _ => nw9)
      rename AllNew _ [_, _] _ => nwT
      refine' ok (by assumption) (by omega) (by omega) x dx l c _ _ _ _ _ _ _ _ _ _ _ _ _ tn tl k0 k1 k2 k3 kn u0' u1' a0' a1' a2' es' ep' e1 e2 hn' ?z1 ?z2 l1 l2 (after_part F9 N9 Z ?c ?l) ((new_of Z N9 nw9 ?d1).app (new_of Z N9 nwT ?d2))
      case z1 => assumption
      case z2 =>
        have q := nw9
        simp only [AllNew, allLt_nil, allLt_cons, and_true] at q
        omega
      case c => walk_at "my sub"
      case l => walk_at "my part"
      case d1 => walk_at "my sub"
      case d2 => walk_at "my sub"
    · rw [List.length_replicate, hmz]
      intro hq1
      exfalso; omega
    · intro _ _ hq
      obtain ⟨p, hp, hq⟩ := hq
      rw [List.eq_of_mem_replicate hp] at hq
      cases hq
    · rw [List.length_replicate, hmz]
      intro hq1 _ hq2 e9 h9 tks9 tk9 hE9
      walk_at "my err"
      exact bad2 (by omega) (by omega) (by omega) _ _ _ _ (by assumption)
  · walk_at "my err"
    exact bad0 (by omega) _ _ _ _ (by assumption)
  · walk_at "my err"
    exact bad1 (by omega) (by omega) _ _ _ _ (by assumption)
end K_nulls_c
end
theorem nulls_c {w : World} {R : Result → Shared → Prop} {s : Shared} {b : Heap} {loose : List Str} {mean : ExcName → Option Value} {mg mb : Str → Option Value} {fl : List Env} {many : Int} {tmn : Tok} {mk mx lx lm sv jr mm fr : Addr} {gl : Bool} {u0 u1 lb ls : Int} {a0 a1 a2 a3 t0 t1 t2 t3 t4 t5 t6 t7 t8 t9 : Tok} {mn : Nat} {lim : List DictEntry} {ln : Nat} {vm rx : Int} {tv tvx : Tok} {es : Array DictEntry} {ep n : Nat} : K_nulls_c.KP w R s b loose mean mg mb fl many tmn mk mx lx lm sv jr mm fr gl u0 u1 lb ls a0 a1 a2 a3 t0 t1 t2 t3 t4 t5 t6 t7 t8 t9 mn lim ln vm rx tv tvx es ep n :=
  @Classical.choose_spec _ _ K_nulls_c.Kex (by with_unfolding_all exact @K_nulls_c.at0) ((w, R, s, b, loose, mean), (mg, mb, fl, many, tmn, mk), (mx, lx, lm, sv, jr, mm), (fr, gl, u0, u1, lb, ls), (a0, a1, a2, a3, t0, t1), (t2, t3, t4, t5, t6, t7), (t8, t9, mn, lim, ln, vm), (rx, tv, tvx, es, ep, n))
section
end
noncomputable abbrev dictbD (w : World) (nb : Int) (tn : Tok) (mo : Int) (tm : Tok) (gl : Bool) (lv : Int) (tl : Tok) (ac : Value) (ed : Addr) (t0 t1 t2 t3 t4 t5 : Tok) (n : Nat) : Obj :=
  dictOf [ent w "number" t0 (.int nb tn), ent w "most" t1 (.int mo tm), ent w "is_global" t2 (.bool gl), ent w "level" t3 (.int lv tl), ent w "access" t4 ac, ent w "entries" t5 (.ref ed)] n
theorem my_dict0 {prog : Program} {w : World} {A : Around} {E : Value → Shared → Prop} {s : Shared} {g : Heap} {L : Addr} {m : Str → Option Value} {news : List (Addr × Obj)} {env : Env} {pos : Pos} {Q : Value → Shared → Prop} (F : Fr g L s.heap m) (N : News g L s.heap news)
    (h : ∀ D h', Fr g L h' m → News g L h' ((D, dictOf [] 0) :: news) → (∀ q ∈ news, q.1 < D) → L < D → Q (.ref D) { s with heap := h' }) : wpAny (model prog w) A (eval (.Dict [] [] pos) env) Q E s :=
  wpAny_Dict_empty (h _ _ (F.push _) (News.push F N _) (fun q hq => Heap.lt_size (N q hq).1) F.ns.lt)
noncomputable section
namespace K_dictb_init
def KP (w : World) (R : Result → Shared → Prop) (s : Shared) (b : Heap) (loose : List Str) (mean : ExcName → Option Value) (mg mb : Str → Option Value) (x dx : Addr) (nb lv mo : Int) (tn tl tm : Tok) (gl : Bool) : Prop := ∀ {A : Around} (st : b.StaysIn s.heap) (G : Gd w loose mean mg mb b) (D : Led b s.heap [(x, instObj 140 dx), (dx, dictOf [] 0)]) (hlt : @LT.lt Nat _ dx x) (hA : A = { depth := 800, units := 4000, frames := none, handled := none, guards := none }) (hR : ∀ l h' tks ac t0 t1 t2 t3 t4 t5 n, s.heap.objs.size ≤ l → h'.get? l = some (dictOf [] 0) → After s.heap h' [(dx, dictbD w nb tn mo tm gl lv tl ac l t0 t1 t2 t3 t4 t5 n)] → R (.ok (.ret .none)) ⟨h', s.gens, s.drawn, tks, s.os⟩), codeAny (model PG w) A (.call (.ref 125) ⟨[.ref x, .int nb tn, .int mo tm, .bool gl, .int lv tl], []⟩) R s
def KT (x : (World × (Result → Shared → Prop) × Shared × Heap × List Str × (ExcName → Option Value)) × ((Str → Option Value) × (Str → Option Value) × Addr × Addr × Int × Int) × (Int × Tok × Tok × Tok × Bool)) : Prop := KP x.1.1 x.1.2.1 x.1.2.2.1 x.1.2.2.2.1 x.1.2.2.2.2.1 x.1.2.2.2.2.2 x.2.1.1 x.2.1.2.1 x.2.1.2.2.1 x.2.1.2.2.2.1 x.2.1.2.2.2.2.1 x.2.1.2.2.2.2.2 x.2.2.1 x.2.2.2.1 x.2.2.2.2.1 x.2.2.2.2.2.1 x.2.2.2.2.2.2
theorem Kex : ∃ x, KT x → ∀ y, KT y := drink ((anyW, (fun _ _ => True), {}, default, default, default), (default, default, default, default, default, default), (default, default, default, default, default)) _
@[irreducible] def Kx0 := Classical.choose Kex
@[irreducible] def w := Kx0.1.1
@[irreducible] def R := Kx0.1.2.1
@[irreducible] def s := Kx0.1.2.2.1
@[irreducible] def b := Kx0.1.2.2.2.1
@[irreducible] def loose := Kx0.1.2.2.2.2.1
@[irreducible] def mean := Kx0.1.2.2.2.2.2
@[irreducible] def mg := Kx0.2.1.1
@[irreducible] def mb := Kx0.2.1.2.1
@[irreducible] def x := Kx0.2.1.2.2.1
@[irreducible] def dx := Kx0.2.1.2.2.2.1
@[irreducible] def nb := Kx0.2.1.2.2.2.2.1
@[irreducible] def lv := Kx0.2.1.2.2.2.2.2
@[irreducible] def mo := Kx0.2.2.1
@[irreducible] def tn := Kx0.2.2.2.1
@[irreducible] def tl := Kx0.2.2.2.2.1
@[irreducible] def tm := Kx0.2.2.2.2.2.1
@[irreducible] def gl := Kx0.2.2.2.2.2.2
set_option maxRecDepth 100000
set_option maxHeartbeats 4000000
theorem kwE5Ae5a1 : True := by
  k_with "eval Dict nil nil" => (k_here; k_dflt (refine' my_dict0 ?Fxe40 ?Nxe40 ?_; (case Fxe40 => k_asm); (case Nxe40 => k_asm); k_whole); intro D' h' F' N' l1 l2; (try k_lt l1); (try k_sweep))
  exact trivial
@[irreducible] def g : Heap := hideAll s.heap (([(x, instObj 140 dx), (dx, dictOf [] 0)] : List (Addr × Obj)).map (·.1))
@[irreducible] def L' : Addr := s.heap.objs.size
theorem KgE  : g = hideAll s.heap (([(x, instObj 140 dx), (dx, dictOf [] 0)] : List (Addr × Obj)).map (·.1)) := by with_unfolding_all rfl
theorem KlE : L' = s.heap.objs.size := by with_unfolding_all rfl
theorem at0 : KP w R s b loose mean mg mb x dx nb lv mo tn tl tm gl := by
  intro A st G D hlt hA hR
  subst hA
  refine' enterE' KgE KlE (binds := [(Str.ofString "self", .ref x), (Str.ofString "number", .int nb tn), (Str.ofString "most", .int mo tm), (Str.ofString "is_global", .bool gl), (Str.ofString "level", .int lv tl)]) st G D ?k6 ?k7 ?k8 ?k9 ?kB ?_ ?c2 ?c3 ?c4 ?c5
  walk_at "my enter"
  intro h' Z F' N'
  have G' := G.keeps Z.st
  have ⟨X', T', _, _, _, _, _⟩ := G'
  walk_at "my go"
  rename Fr _ _ _ _ => F9
  rename News _ _ _ _ => N9
  refine' hR _ _ _ _ _ _ _ _ _ _ _ ?nb ?q (after_part F9 N9 Z ?c ?l)
  case nb => rw [Z.sz]; exact Nat.le_of_lt (by assumption)
  case q => exact (N9 _ (.head _)).1
  case c => walk_at "my sub"
  case l => walk_at "my part"
end K_dictb_init
end
theorem dictb_init {w : World} {R : Result → Shared → Prop} {s : Shared} {b : Heap} {loose : List Str} {mean : ExcName → Option Value} {mg mb : Str → Option Value} {x dx : Addr} {nb lv mo : Int} {tn tl tm : Tok} {gl : Bool} : K_dictb_init.KP w R s b loose mean mg mb x dx nb lv mo tn tl tm gl :=
  @Classical.choose_spec _ _ K_dictb_init.Kex (by with_unfolding_all exact @K_dictb_init.at0) ((w, R, s, b, loose, mean), (mg, mb, x, dx, nb, lv), (mo, tn, tl, tm, gl))
section
variable {w : World} {A : Around} {R : Result → Shared → Prop} {s : Shared} {b : Heap} {loose : List Str} {mean : ExcName → Option Value} {mg mb : Str → Option Value}
theorem dictmk_c {nb lv mo : Int} {tn tl tm : Tok} {gl : Bool} (st : b.StaysIn s.heap) (G : Gd w loose mean mg mb b)
    (hA : A = { depth := 790, units := 3990, frames := none, handled := none, guards := none })
    (hR : ∀ x dx l h' tks ac t0 t1 t2 t3 t4 t5 n, @LT.lt Nat _ dx x → @LT.lt Nat _ x l → After s.heap h' [] → New s.heap h' [(x, instObj 140 dx), (dx, dictbD w nb tn mo tm gl lv tl ac l t0 t1 t2 t3 t4 t5 n), (l, dictOf [] 0)] → R (.ok (.ret (.ref x))) ⟨h', s.gens, s.drawn, tks, s.os⟩) :
    codeAny (model PG w) A (.call (.ref 140) ⟨[.int nb tn, .int mo tm, .bool gl, .int lv tl], []⟩) R s := by
  subst hA
  obtain ⟨h, g, d, t, os⟩ := s
  refine makeA (G.X.keeps st) (by k_is) (by k_is) (by k_is) ?_
  refine codeAny_room (A' := { depth := 800, units := 4000, frames := none, handled := none, guards := none }) (dictb_init (b := b) (x := h.objs.size + 1) (dx := h.objs.size) (fun a o e => made2_k _ _ (st _ _ e)) G (made2_led st) (Nat.lt_succ_self _) rfl
    fun l h' tks ac t0 t1 t2 t3 t4 t5 n nb hba Af => ⟨rfl, hR (h.objs.size + 1) h.objs.size l h' tks ac t0 t1 t2 t3 t4 t5 n (Nat.lt_succ_self _) (made2_lt nb) (made2_after Af) (made2_new Af (allc ⟨nb, hba⟩ fun _ q => nomatch q))⟩) rfl (Nat.le_of_ble_eq_true rfl) (.inl rfl) rfl (Nat.le_of_ble_eq_true rfl)
theorem dictmk_w {E : Value → Shared → Prop} {Q : Value → Shared → Prop} {g : Heap} {L : Addr} {m : Str → Option Value} {nb lv mo : Int} {tn tl tm : Tok} {gl : Bool} (F : Fr g L s.heap m) (G : Gd w loose mean mg mb g)
    (hA0 : A.handled = none) (hA3 : A.depth ≤ 790) (hA4 : A.units ≤ 3990)
    (hR : ∀ x dx l h' tks ac t0 t1 t2 t3 t4 t5 n, @LT.lt Nat _ dx x → @LT.lt Nat _ x l → After s.heap h' [] → New s.heap h' [(x, instObj 140 dx), (dx, dictbD w nb tn mo tm gl lv tl ac l t0 t1 t2 t3 t4 t5 n), (l, dictOf [] 0)] → Q (.ref x) ⟨h', s.gens, s.drawn, tks, s.os⟩) :
    wpAny (model PG w) A (call (.ref 140) [.int nb tn, .int mo tm, .bool gl, .int lv tl]) Q E s :=
  wpAny_call (codeAny_room (dictmk_c (A := { depth := 790, units := 3990, frames := none, handled := none, guards := none }) F.keep G rfl hR) hA0 hA3 (.inl rfl) rfl hA4)
end
theorem kwE5linesk1 : True := by
  k_with "eval Dict nil nil" => (k_here; k_dflt (refine' my_dict0 ?Fxe40 ?Nxe40 ?_; (case Fxe40 => k_asm); (case Nxe40 => k_asm); k_whole); intro D' h' F' N' l1 l2; (try k_lt l1); (try k_sweep))
  k_with "call ref" => (k_here; (with_reducible show wpAny _ _ (call (Value.ref 140) _) _ _ _); k_dflt (refine' dictmk_w ?Fx4a0 ?Gx4a0 ?a0x4a0 ?a3x4a0 ?a4x4a0 ?_; (case Fx4a0 => k_asm); (case Gx4a0 => assumption); (case a0x4a0 => exact rfl); (case a3x4a0 => exact Nat.le_of_ble_eq_true rfl); (case a4x4a0 => exact Nat.le_of_ble_eq_true rfl); k_whole); intro x' dx' l' h' tks' ac' k0' k1' k2' k3' k4' k5' kn' lt1' lt2' af' nw'; walk_at "my made")
  exact trivial

noncomputable section
namespace K_mkdict_c
def KP (w : World) (R : Result → Shared → Prop) (s : Shared) (b : Heap) (loose : List Str) (mean : ExcName → Option Value) (mg mb : Str → Option Value) (fl : List Env) (many : Int) (tmn : Tok) (mk mx lx lm sv jr mm fr : Addr) (gl : Bool) (u0 u1 lb ls : Int) (a0 a1 a2 a3 t0 t1 t2 t3 t4 t5 t6 t7 t8 t9 : Tok) (mn : Nat) (lim : List DictEntry) (ln : Nat) (vm rx : Int) (tv tvx : Tok) (es : Array DictEntry) (ep n : Nat) : Prop := ∀ {A : Around} (st : b.StaysIn s.heap) (G : Gd w loose mean mg mb b) (Bl : Below A b fl s.heap) (hA : A = { depth := 600, units := 2500, frames := some fl, handled := none, guards := none }) (ho : @LT.lt Nat _ lx lm ∧ @LT.lt Nat _ lm mx ∧ @LT.lt Nat _ mx mk ∧ @LT.lt Nat _ mk sv ∧ @LT.lt Nat _ sv mm) (D : Led b s.heap (mkLed w mk mx lx lm sv jr mm fr gl u0 u1 lb ls a0 a1 a2 a3 t0 t1 t2 t3 t4 t5 t6 t7 t8 t9 mn lim ln es ep)) (hv : getL (Str.ofString "vm") lim = some (some (.int vm tv))) (hx : getL (Str.ofString "entries") lim = some (some (.int rx tvx))) (hn : Nums w es n) (hn0 : n ≤ 900) (hz : rx ≤ 100) (nf : ∀ env ∈ fl, ∀ p ∈ mkLed w mk mx lx lm sv jr mm fr gl u0 u1 lb ls a0 a1 a2 a3 t0 t1 t2 t3 t4 t5 t6 t7 t8 t9 mn lim ln es ep, env.frame ≠ some p.1) (ok : 0 ≤ many → many ≤ rx → u0 + u1 + 16 * many ≤ vm → ∀ x dx l h' tks ac tn tl k0 k1 k2 k3 k4 k5 kn u0' u1' a0' a1' a2' es' ep', u0' = (if gl = true then u0 else u0 + 16 * many) → u1' = (if gl = true then u1 + 16 * many else u1) →
      Nums w es' (n + 1) → @LT.lt Nat _ dx x → @LT.lt Nat _ x l → After s.heap h' [(mx, makerO w lm sv jr mm fr gl u0' u1' (lb + 1) ls a0' a1' a2' a3 t0 t1 t2 t3 t4 t5 t6 t7 t8 t9 mn), (mm, dictA es' ep')] →
      New s.heap h' [(x, instObj 140 dx), (dx, dictbD w (lb + 1) tn many tmn gl 0 tl ac l k0 k1 k2 k3 k4 k5 kn), (l, dictOf [] 0)] → R (.ok (.ret (.ref x))) ⟨h', s.gens, s.drawn, tks, s.os⟩) (bad0 : many < 0 → ∀ e h' tks tk, ErrEnd w fl s.heap (.bytes (asBytes "rangecheck") tk) e h' → R (.error (.ref e)) ⟨h', s.gens, s.drawn, tks, s.os⟩) (bad1 : 0 ≤ many → rx < many → ∀ e h' tks tk, ErrEnd w fl s.heap (.bytes (asBytes "limitcheck") tk) e h' → R (.error (.ref e)) ⟨h', s.gens, s.drawn, tks, s.os⟩) (bad2 : 0 ≤ many → many ≤ rx → vm < u0 + u1 + 16 * many → ∀ e h' tks tk, ErrEnd w fl s.heap (.bytes (asBytes "VMerror") tk) e h' → R (.error (.ref e)) ⟨h', s.gens, s.drawn, tks, s.os⟩), codeAny (model PG w) A (.call (.ref 345) ⟨[.ref mk, .int many tmn], []⟩) R s
def KT (x : (World × (Result → Shared → Prop) × Shared × Heap × List Str × (ExcName → Option Value)) × ((Str → Option Value) × (Str → Option Value) × List Env × Int × Tok × Addr) × (Addr × Addr × Addr × Addr × Addr × Addr) × (Addr × Bool × Int × Int × Int × Int) × (Tok × Tok × Tok × Tok × Tok × Tok) × (Tok × Tok × Tok × Tok × Tok × Tok) × (Tok × Tok × Nat × List DictEntry × Nat × Int) × (Int × Tok × Tok × Array DictEntry × Nat × Nat)) : Prop := KP x.1.1 x.1.2.1 x.1.2.2.1 x.1.2.2.2.1 x.1.2.2.2.2.1 x.1.2.2.2.2.2 x.2.1.1 x.2.1.2.1 x.2.1.2.2.1 x.2.1.2.2.2.1 x.2.1.2.2.2.2.1 x.2.1.2.2.2.2.2 x.2.2.1.1 x.2.2.1.2.1 x.2.2.1.2.2.1 x.2.2.1.2.2.2.1 x.2.2.1.2.2.2.2.1 x.2.2.1.2.2.2.2.2 x.2.2.2.1.1 x.2.2.2.1.2.1 x.2.2.2.1.2.2.1 x.2.2.2.1.2.2.2.1 x.2.2.2.1.2.2.2.2.1 x.2.2.2.1.2.2.2.2.2 x.2.2.2.2.1.1 x.2.2.2.2.1.2.1 x.2.2.2.2.1.2.2.1 x.2.2.2.2.1.2.2.2.1 x.2.2.2.2.1.2.2.2.2.1 x.2.2.2.2.1.2.2.2.2.2 x.2.2.2.2.2.1.1 x.2.2.2.2.2.1.2.1 x.2.2.2.2.2.1.2.2.1 x.2.2.2.2.2.1.2.2.2.1 x.2.2.2.2.2.1.2.2.2.2.1 x.2.2.2.2.2.1.2.2.2.2.2 x.2.2.2.2.2.2.1.1 x.2.2.2.2.2.2.1.2.1 x.2.2.2.2.2.2.1.2.2.1 x.2.2.2.2.2.2.1.2.2.2.1 x.2.2.2.2.2.2.1.2.2.2.2.1 x.2.2.2.2.2.2.1.2.2.2.2.2 x.2.2.2.2.2.2.2.1 x.2.2.2.2.2.2.2.2.1 x.2.2.2.2.2.2.2.2.2.1 x.2.2.2.2.2.2.2.2.2.2.1 x.2.2.2.2.2.2.2.2.2.2.2.1 x.2.2.2.2.2.2.2.2.2.2.2.2
theorem Kex : ∃ x, KT x → ∀ y, KT y := drink ((anyW, (fun _ _ => True), {}, default, default, default), (default, default, default, default, default, default), (default, default, default, default, default, default), (default, default, default, default, default, default), (default, default, default, default, default, default), (default, default, default, default, default, default), (default, default, default, default, default, default), (default, default, default, default, default, default)) _
@[irreducible] def Kx0 := Classical.choose Kex
@[irreducible] def w := Kx0.1.1
@[irreducible] def R := Kx0.1.2.1
@[irreducible] def s := Kx0.1.2.2.1
@[irreducible] def b := Kx0.1.2.2.2.1
@[irreducible] def loose := Kx0.1.2.2.2.2.1
@[irreducible] def mean := Kx0.1.2.2.2.2.2
@[irreducible] def mg := Kx0.2.1.1
@[irreducible] def mb := Kx0.2.1.2.1
@[irreducible] def fl := Kx0.2.1.2.2.1
@[irreducible] def many := Kx0.2.1.2.2.2.1
@[irreducible] def tmn := Kx0.2.1.2.2.2.2.1
@[irreducible] def mk := Kx0.2.1.2.2.2.2.2
@[irreducible] def mx := Kx0.2.2.1.1
@[irreducible] def lx := Kx0.2.2.1.2.1
@[irreducible] def lm := Kx0.2.2.1.2.2.1
@[irreducible] def sv := Kx0.2.2.1.2.2.2.1
@[irreducible] def jr := Kx0.2.2.1.2.2.2.2.1
@[irreducible] def mm := Kx0.2.2.1.2.2.2.2.2
@[irreducible] def fr := Kx0.2.2.2.1.1
@[irreducible] def gl := Kx0.2.2.2.1.2.1
@[irreducible] def u0 := Kx0.2.2.2.1.2.2.1
@[irreducible] def u1 := Kx0.2.2.2.1.2.2.2.1
@[irreducible] def lb := Kx0.2.2.2.1.2.2.2.2.1
@[irreducible] def ls := Kx0.2.2.2.1.2.2.2.2.2
@[irreducible] def a0 := Kx0.2.2.2.2.1.1
@[irreducible] def a1 := Kx0.2.2.2.2.1.2.1
@[irreducible] def a2 := Kx0.2.2.2.2.1.2.2.1
@[irreducible] def a3 := Kx0.2.2.2.2.1.2.2.2.1
@[irreducible] def t0 := Kx0.2.2.2.2.1.2.2.2.2.1
@[irreducible] def t1 := Kx0.2.2.2.2.1.2.2.2.2.2
@[irreducible] def t2 := Kx0.2.2.2.2.2.1.1
@[irreducible] def t3 := Kx0.2.2.2.2.2.1.2.1
@[irreducible] def t4 := Kx0.2.2.2.2.2.1.2.2.1
@[irreducible] def t5 := Kx0.2.2.2.2.2.1.2.2.2.1
@[irreducible] def t6 := Kx0.2.2.2.2.2.1.2.2.2.2.1
@[irreducible] def t7 := Kx0.2.2.2.2.2.1.2.2.2.2.2
@[irreducible] def t8 := Kx0.2.2.2.2.2.2.1.1
@[irreducible] def t9 := Kx0.2.2.2.2.2.2.1.2.1
@[irreducible] def mn := Kx0.2.2.2.2.2.2.1.2.2.1
@[irreducible] def lim := Kx0.2.2.2.2.2.2.1.2.2.2.1
@[irreducible] def ln := Kx0.2.2.2.2.2.2.1.2.2.2.2.1
@[irreducible] def vm := Kx0.2.2.2.2.2.2.1.2.2.2.2.2
@[irreducible] def rx := Kx0.2.2.2.2.2.2.2.1
@[irreducible] def tv := Kx0.2.2.2.2.2.2.2.2.1
@[irreducible] def tvx := Kx0.2.2.2.2.2.2.2.2.2.1
@[irreducible] def es := Kx0.2.2.2.2.2.2.2.2.2.2.1
@[irreducible] def ep := Kx0.2.2.2.2.2.2.2.2.2.2.2.1
@[irreducible] def n := Kx0.2.2.2.2.2.2.2.2.2.2.2.2
set_option maxRecDepth 100000
set_option maxHeartbeats 4000000
theorem kwE5e51 : True := by
  k_with "getAttr ref" => (k_here; (with_reducible show wpAny _ _ (getAttr (Value.ref _) (Str.ofString "entries") _) _ _ _); walk_at "my lim")
  exact trivial
@[irreducible] def g : Heap := hideAll s.heap (((mkLed w mk mx lx lm sv jr mm fr gl u0 u1 lb ls a0 a1 a2 a3 t0 t1 t2 t3 t4 t5 t6 t7 t8 t9 mn lim ln es ep) : List (Addr × Obj)).map (·.1))
@[irreducible] def L' : Addr := s.heap.objs.size
theorem KgE  : g = hideAll s.heap (((mkLed w mk mx lx lm sv jr mm fr gl u0 u1 lb ls a0 a1 a2 a3 t0 t1 t2 t3 t4 t5 t6 t7 t8 t9 mn lim ln es ep) : List (Addr × Obj)).map (·.1)) := by with_unfolding_all rfl
theorem KlE : L' = s.heap.objs.size := by with_unfolding_all rfl
theorem at0 : KP w R s b loose mean mg mb fl many tmn mk mx lx lm sv jr mm fr gl u0 u1 lb ls a0 a1 a2 a3 t0 t1 t2 t3 t4 t5 t6 t7 t8 t9 mn lim ln vm rx tv tvx es ep n := by
  intro A st G Bl hA ho D hv hx hn hn0 hz nf ok bad0 bad1 bad2
  subst hA
  refine' enterE' KgE KlE (binds := [(Str.ofString "self", .ref mk), (Str.ofString "most", .int many tmn)]) st G D ?k6 ?k7 ?k8 ?k9 ?kB ?_ ?c2 ?c3 ?c4 ?c5
  walk_at "my enter"
  intro h' Z F' N'
  have G' := G.keeps Z.st
  have ⟨X', T', _, _, _, _, _⟩ := G'
  have Bg := Z.below Bl nf
  have ho' := ho
  obtain ⟨o1, o2, o3, o4, o5⟩ := ho
  dsimp only [mkLed] at N'
  walk_at "my go"
  · (rename Fr _ _ _ _ => F9); (rename News _ _ _ _ => N9); (rename AllNew _ _ _ => nw9)
    refine' ok ?p1 ?p2 ?p3 _ _ _ _ _ _ _ _ _ _ _ _ _ _ _ _ _ _ _ _ _ _ ?e1 ?e2 ?n ?l1 ?l2 (after_part F9 N9 Z ?c ?l) (new_of Z N9 nw9 ?d)
    case p1 => omega
    case p2 => omega
    case p3 => omega
    case l1 => assumption
    case l2 => assumption
    case c => walk_at "my sub"
    case l => walk_at "my part"
    case d => walk_at "my sub"
    case n => assumption
    case e1 => simp [*]
    case e2 => simp [*]
  · (rename Fr _ _ _ _ => F9); (rename News _ _ _ _ => N9); (rename AllNew _ _ _ => nw9)
    refine' ok ?p1 ?p2 ?p3 _ _ _ _ _ _ _ _ _ _ _ _ _ _ _ _ _ _ _ _ _ _ ?e1 ?e2 ?n ?l1 ?l2 (after_part F9 N9 Z ?c ?l) (new_of Z N9 nw9 ?d)
    case p1 => omega
    case p2 => omega
    case p3 => omega
    case l1 => assumption
    case l2 => assumption
    case c => walk_at "my sub"
    case l => walk_at "my part"
    case d => walk_at "my sub"
    case n => assumption
    case e1 => simp [*]
    case e2 => simp [*]
  · walk_at "my err"
    exact bad2 (by omega) (by omega) (by omega) _ _ _ _ (by assumption)
  · walk_at "my err"
    exact bad0 (by omega) _ _ _ _ (by assumption)
  · walk_at "my err"
    exact bad1 (by omega) (by omega) _ _ _ _ (by assumption)
end K_mkdict_c
end
theorem mkdict_c {w : World} {R : Result → Shared → Prop} {s : Shared} {b : Heap} {loose : List Str} {mean : ExcName → Option Value} {mg mb : Str → Option Value} {fl : List Env} {many : Int} {tmn : Tok} {mk mx lx lm sv jr mm fr : Addr} {gl : Bool} {u0 u1 lb ls : Int} {a0 a1 a2 a3 t0 t1 t2 t3 t4 t5 t6 t7 t8 t9 : Tok} {mn : Nat} {lim : List DictEntry} {ln : Nat} {vm rx : Int} {tv tvx : Tok} {es : Array DictEntry} {ep n : Nat} : K_mkdict_c.KP w R s b loose mean mg mb fl many tmn mk mx lx lm sv jr mm fr gl u0 u1 lb ls a0 a1 a2 a3 t0 t1 t2 t3 t4 t5 t6 t7 t8 t9 mn lim ln vm rx tv tvx es ep n :=
  @Classical.choose_spec _ _ K_mkdict_c.Kex (by with_unfolding_all exact @K_mkdict_c.at0) ((w, R, s, b, loose, mean), (mg, mb, fl, many, tmn, mk), (mx, lx, lm, sv, jr, mm), (fr, gl, u0, u1, lb, ls), (a0, a1, a2, a3, t0, t1), (t2, t3, t4, t5, t6, t7), (t8, t9, mn, lim, ln, vm), (rx, tv, tvx, es, ep, n))
section
end
section
variable {w : World} {A : Around} {R : Result → Shared → Prop} {s : Shared} {b : Heap} {loose : List Str} {mean : ExcName → Option Value} {mg mb : Str → Option Value}
set_option maxRecDepth 100000
end
namespace F
theorem ba_slot_len : Slot "bytearray" "__len__" "bytearray.__len__" :=
  .of (owner := "bytearray") (n := "__len__") (by rw [typeLookup_type, builtinLookup_eq_fast]; kernel_rfl) (by decide +kernel) (by decide +kernel) (by decide +kernel)
    (by first | exact .inl (by decide +kernel) | exact .inr (by decide +kernel)) (by rw [isSubtype_type]; kernel_rfl)
theorem ba_slot_item : Slot "bytearray" "__getitem__" "bytearray.__getitem__" :=
  .of (owner := "bytearray") (n := "__getitem__") (by rw [typeLookup_type, builtinLookup_eq_fast]; kernel_rfl) (by decide +kernel) (by decide +kernel) (by decide +kernel)
    (by first | exact .inl (by decide +kernel) | exact .inr (by decide +kernel)) (by rw [isSubtype_type]; kernel_rfl)
theorem ba_entry_len : entryFor table "bytearray.__len__" = some Builtin.«bytearray.__len__» := by first | exact entryFor_of_fast (by kernel_rfl) | exact entryFor_of_tree (by kernel_rfl)
theorem ba_entry_item : entryFor table "bytearray.__getitem__" = some Builtin.«bytearray.__getitem__» := by first | exact entryFor_of_fast (by kernel_rfl) | exact entryFor_of_tree (by kernel_rfl)
theorem ba_args_len (a : Value) : argsOk "bytearray.__len__" ⟨[a], []⟩ := by unfold argsOk; kernel_rfl
theorem ba_args_item (a b : Value) : argsOk "bytearray.__getitem__" ⟨[a, b], []⟩ := by unfold argsOk; kernel_rfl
end F
section
variable {w : World} {A : Around} {E : Value → Shared → Prop} {s : Shared}
set_option maxRecDepth 100000
open PySem.Builtin in
theorem ba_payload {M : Model} {a : Addr} {y : Array UInt8} {Q : Array UInt8 → Shared → Prop} (ho : s.heap.get? a = some (baO y)) (h : Q y s) : wpAny M A (Builtin.Bytes.payload (.ref a)) Q E s := by
  unfold Builtin.Bytes.payload Builtin.Bytes.payload?
  refine wpAny_bind ?_
  show wpAny _ _ (load a >>= _) _ _ _
  exact wpAny_bind (wpAny_load ho (wpAny_pure (wpAny_pure h)))
theorem len_ba {a : Addr} {y : Array UInt8} {Q : Value → Shared → Prop} (ho : s.heap.get? a = some (baO y)) (hz : y.size ≤ 1000) (h : Q (.int y.size (s.toks + 1)) { s with toks := s.toks + 1 + 1 }) : wpAny (model PG w) A (call (.builtin "len") [.ref a]) Q E s := by
  have hT : s.TypeIs (.ref a) "bytearray" := ⟨_, ho, rfl⟩
  refine call_len_slot hT F.ba_slot_len (fun Q' hq => wpAny_call_entry F.ba_slot_len hT F.ba_entry_len ?_ (F.ba_args_len _)) (by omega) (by omega) h
  unfold Builtin.«bytearray.__len__»
  refine wpAny_bind (wpAny_pure ?_)
  dsimp only
  refine wpAny_bind (ba_payload ho ?_)
  show wpAny _ _ (mkInt y.size >>= fun v => ret v) _ _ _
  exact wpAny_bind (wpAny_mkInt (wpAny_pure ⟨_, rfl, hq⟩))
theorem sliced_all (y : Array UInt8) : Builtin.Bytes.sliced y (sliceBounds (some 0) (some (y.size : Int)) none y.size).1 (sliceBounds (some 0) (some (y.size : Int)) none y.size).2.1 (sliceBounds (some 0) (some (y.size : Int)) none y.size).2.2 = y := by
  have h := KBc.picked_eq y (some 0) (some (y.size : Int))
  unfold KBy.picked at h
  rw [h]
  have e0 : clipAt y.size 0 = 0 := by rw [KBc.clip_lit]; simp
  simp only [Option.elim, e0, clipAt_nat, List.drop_zero, Nat.sub_zero, Nat.min_self]
  rw [List.take_of_length_le (by simp)]
theorem item_ba {a sl : Addr} {y : Array UInt8} {t0 t1 : Tok} {Q : Value → Shared → Prop} (ho : s.heap.get? a = some (baO y)) (hS : s.heap.IsSliceOf sl (.int 0 t0) (.int y.size t1) .none) (hz : y.size ≤ 1000)
    (h : ∀ k, Q (.ref s.heap.objs.size) { s with heap := s.heap.push (baO y), toks := k }) : wpAny (model PG w) A (getItem (.ref a) (.ref sl)) Q E s := by
  have hT : s.TypeIs (.ref a) "bytearray" := ⟨_, ho, rfl⟩
  obtain ⟨o, hso, hc, hd⟩ := hS
  have hTs : s.TypeIs (.ref sl) "slice" := ⟨o, hso, hc⟩
  refine wpAny_getItem_slot hT (by decide) F.ba_slot_item (wpAny_call_entry F.ba_slot_item hT F.ba_entry_item ?_ (F.ba_args_item _ _))
  unfold Builtin.«bytearray.__getitem__»
  refine wpAny_bind (wpAny_pure ?_)
  dsimp only
  refine wpAny_bind ?_
  unfold Builtin.Bytes.subscript?
  refine wpAny_bind (wpAny_specialOf hTs slice_no_index (wpAny_pure ?_))
  refine wpAny_bind (wpAny_typeOf hTs ?_)
  show wpAny _ _ (Builtin.Bytes.sliceParts (.ref sl) >>= fun r => _) _ _ s
  refine wpAny_bind ?_
  unfold Builtin.Bytes.sliceParts
  refine wpAny_bind (wpAny_field (x := .none) hso hd rfl ?_)
  kby_none
  refine wpAny_ite (KBy.ite_no (show ¬ ((Value.none == rawInt 0) = true) from Bool.false_ne_true) ?_)
  refine wpAny_bind (wpAny_field (x := .int 0 t0) hso hd rfl ?_)
  kby_int
  refine wpAny_bind (wpAny_field (x := .int y.size t1) hso hd rfl ?_)
  kby_int
  refine wpAny_pure ?_
  dsimp only
  refine wpAny_bind (ba_payload ho ?_)
  have go : wpAny (model PG w) A.in1 (sliceIndices (rawPart (some 0)) (rawPart (some (y.size : Int))) (rawPart none) y.size) (fun r s' => r = sliceBounds (some 0) (some (y.size : Int)) none y.size ∧ s' = s) (fun _ _ => False) s :=
    wpAny_of_eq (sliceIndices_raw (some 0) (some (y.size : Int)) none y.size (fun e => nomatch e)) ⟨rfl, rfl⟩
  refine wpAny_bind (wpAny_mono go (fun r s' hr => ?_) fun _ _ e => e.elim)
  obtain ⟨hr1, hr2⟩ := hr
  subst hr1 hr2
  have e := sliced_all y
  rw [e]
  unfold Builtin.Bytes.newBytearray
  refine wpAny_bind (wpAny_newObj_type ?_ (by show y.size ≤ sizeLine; rw [sizeLine_eq]; omega))
  exact wpAny_pure ⟨_, rfl, h _⟩
theorem tail_ba {value slice : Expr} {a sl L : Addr} {g : Heap} {m : Str → Option Value} {news : List (Addr × Obj)} {y : Array UInt8} {t0 t1 : Tok} {Q : Value → Shared → Prop} (F9 : Fr g L s.heap m) (N : News g L s.heap news) (hm : (a, baO y) ∈ news) (hS : s.heap.IsSliceOf sl (.int 0 t0) (.int y.size t1) .none) (hz : y.size ≤ 1000)
    (h : ∀ D h' k, Fr g L h' m → News g L h' ((D, baO y) :: news) → (∀ p ∈ news, p.1 < D) → L < D → Q (.ref D) { s with heap := h', toks := k })
    (hs : subscripted slice false (.ref a) (.ref sl) = operate [.ref sl, .ref a] (getItem (.ref a) (.ref sl)) := by with_unfolding_all rfl)
    (ht : ∀ r, letTemporaryGo value (.ref a) r = pure () := by intro _; with_unfolding_all rfl) : wpAny (model PG w) A (subscriptTail value slice (.ref a) (.ref sl)) Q E s := by
  have ho := (N _ hm).1
  obtain ⟨F', N'⟩ := new_push (o := baO y) rfl F9 N
  obtain ⟨o, hLo, _⟩ := fr_obj F9
  exact tail_of_ItemOn ⟨"bytearray", _, F.ba_slot_item.lookup, ⟨_, ho, rfl⟩, item_ba ho hS hz fun k => h _ _ k F' N' (fun p hp => Heap.lt_size (N p hp).1) (Heap.lt_size hLo)⟩ hs ht
end
section
variable {w : World} {A : Around} {E : Value → Shared → Prop} {s : Shared}
theorem tail_baN {value slice : Expr} {a L : Addr} {g : Heap} {m : Str → Option Value} {news : List (Addr × Obj)} {y : Array UInt8} {k : Int} {t0 t1 : Tok} {Q : Value → Shared → Prop} (F9 : Fr g L s.heap m) (N : News g L s.heap news) (hm : (a, baO y) ∈ news) (hk : k = y.size) (hz : y.size ≤ 1000)
    (h : ∀ D h' k, Fr g L h' m → News g L h' ((D, baO y) :: news) → (∀ p ∈ news, p.1 < D) → L < D → Q (.ref D) { s with heap := h', toks := k })
    (hs : subscripted slice false (.ref a) (.ref s.heap.objs.size) = operate [.ref s.heap.objs.size, .ref a] (getItem (.ref a) (.ref s.heap.objs.size)) := by with_unfolding_all rfl)
    (ht : ∀ r, letTemporaryGo value (.ref a) r = pure () := by intro _; with_unfolding_all rfl) :
    wpAny (model PG w) A (subscriptTail value slice (.ref a) (.ref s.heap.objs.size)) Q E { s with heap := s.heap.push { cls := .type "slice", data := .fields #[.int 0 t0, .int k t1, .none] } } := by
  subst hk
  obtain ⟨F', N'⟩ := new_push (o := { cls := .type "slice", data := .fields #[.int 0 t0, .int y.size t1, .none] }) rfl F9 N
  exact tail_ba (s := { s with heap := s.heap.push _ }) F' N' (.tail _ hm) (Heap.IsSliceOf.new _ _ _ _) hz (fun D h' k F'' N'' l1 l2 => h D h' k F'' (fun p hp => N'' p (by rcases List.mem_cons.mp hp with rfl | hp; exact .head _; exact .tail _ (.tail _ hp))) (fun p hp => l1 p (.tail _ hp)) l2) hs ht
theorem pick_all (vs : List Value) : slicePick vs.toArray (some 0) (some (vs.length : Int)) none = vs.toArray := by
  rw [slicePick_plain]
  have e0 : clipAt vs.length 0 = 0 := by rw [KBc.clip_lit]; simp
  simp only [Option.elim, clipAt_nat, List.size_toArray, Nat.min_self, e0, List.drop_zero, Nat.sub_zero]
  first | done | rw [List.take_of_length_le (by simp)]
theorem tail_liN {value slice : Expr} {a L : Addr} {g : Heap} {m : Str → Option Value} {news : List (Addr × Obj)} {vs : List Value} {c : Nat} {k : Int} {t0 t1 : Tok} {Q : Value → Shared → Prop} (F9 : Fr g L s.heap m) (N : News g L s.heap news) (hm : (a, listOf vs.toArray c) ∈ news) (hk : k = vs.length) (hz : vs.length ≤ 1000)
    (h : ∀ D c h' k, Fr g L h' m → News g L h' ((D, listOf vs.toArray c) :: news) → (∀ p ∈ news, p.1 < D) → L < D → Q (.ref D) { s with heap := h', toks := k })
    (hs : subscripted slice false (.ref a) (.ref s.heap.objs.size) = operate [.ref s.heap.objs.size, .ref a] (getItem (.ref a) (.ref s.heap.objs.size)) := by with_unfolding_all rfl)
    (ht : ∀ r, letTemporaryGo value (.ref a) r = pure () := by intro _; with_unfolding_all rfl) :
    wpAny (model PG w) A (subscriptTail value slice (.ref a) (.ref s.heap.objs.size)) Q E { s with heap := s.heap.push { cls := .type "slice", data := .fields #[.int 0 t0, .int k t1, .none] } } := by
  subst hk
  obtain ⟨F', N'⟩ := new_push (o := { cls := .type "slice", data := .fields #[.int 0 t0, .int vs.length t1, .none] }) rfl F9 N
  have hl := N'.isList (.tail _ hm)
  obtain ⟨F2, N2⟩ := new_push (o := listOf vs.toArray 0) rfl F' N'
  obtain ⟨o, hLo, _⟩ := fr_obj F'
  refine tail_of_ItemOn ⟨"list", _, slot_list_getitem.lookup, hl.typeIs, wpAny_getItem_list_slice (s := { s with heap := s.heap.push _ }) hl (Heap.IsSliceOf.new _ _ _ _) (.int 0 t0) (.int _ t1) .none (by simp) ?_ (by rw [List.size_toArray, sizeLine_eq]; omega)⟩ hs ht
  rw [pick_all]
  exact h _ 0 _ _ F2 (fun p hp => N2 p (by rcases List.mem_cons.mp hp with rfl | hp; exact .head _; exact .tail _ (.tail _ hp))) (fun p hp => Heap.lt_size (N' p (.tail _ hp)).1) (Heap.lt_size hLo)
end
theorem new_one {b h0 g h : Heap} {led rest : List (Addr × Obj)} {p : Addr × Obj} {L : Addr} (Z : Got b h0 g led L) (N : News g L h (p :: rest)) (l : L < p.1) : New h0 h [p] := fun q hq => by
  obtain rfl := List.mem_singleton.mp hq
  exact ⟨by rw [Z.sz]; exact Nat.le_of_lt l, (N _ (.head _)).1⟩
theorem len_li {prog : Program} {w : World} {A : Around} {E : Value → Shared → Prop} {s : Shared} {g : Heap} {L l : Addr} {c : Nat} {news : List (Addr × Obj)} {vs : List Value} {Q : Value → Shared → Prop} (N : News g L s.heap news) (hm : (l, listOf vs.toArray c) ∈ news) (hz : vs.length ≤ 1000)
    (h : Q (.int vs.length (s.toks + 1)) { s with toks := s.toks + 1 + 1 }) : wpAny (model prog w) A (call (.builtin "len") [.ref l]) Q E s := by
  have e : ((vs.toArray.size : Nat) : Int) = vs.length := by simp
  refine len_list (N.isList hm) (by rw [e]; omega) ?_
  rw [e]; exact h
theorem kwF2linesl1 : True := by
  k_with "subscriptTail" => (k_here; (with_reducible show wpAny _ _ (subscriptTail _ (Expr.Slice _ _ none _) (Value.ref _) (Value.ref _)) _ _ _); (with_reducible rename Fr _ _ _ _ => sF'); (with_reducible rename News _ _ _ _ => sN'); (first | (k_dflt (refine' tail_baN (s := ⟨_, _, _, _, _⟩) sF' sN' ?mxfd3 ?kxfd3 ?zxfd3 ?_; (case mxfd3 => k_mem); (case kxfd3 => omega); (case zxfd3 => assumption)); intro D' h' tk' F' N' l1 l2) | (k_dflt (refine' tail_liN (s := ⟨_, _, _, _, _⟩) sF' sN' ?mxfd3 ?kxfd3 ?zxfd3 ?_; (case mxfd3 => k_mem); (case kxfd3 => omega); (case zxfd3 => assumption)); intro D' c' h' tk' F' N' l1 l2)); (try k_lt l1); (try k_sweep))
  k_with "call type:bytes" => (k_here; (with_reducible show wpAny _ _ (call (Value.type "bytes") [Value.ref _]) _ _ _); k_dflt (refine' call_bytes_ba (News.get ?Nx12c ?mx12c) ?zx12c ?_; (case Nx12c => k_asm); (case mx12c => k_mem); (case zx12c => assumption); k_whole); intro tkb' kb')
  k_with "call builtin:len" => (k_here; (with_reducible show wpAny _ _ (call (Value.builtin "len") [Value.ref _]) _ _ _); k_dflt (refine' len_ba (News.get ?Nxd21 ?mxd21) ?zxd21 ?_; (case Nxd21 => k_asm); (case mxd21 => k_mem); (case zxd21 => first | assumption | omega); k_whole))
  k_with "call builtin:len" => (k_here; (with_reducible show wpAny _ _ (call (Value.builtin "len") [Value.ref _]) _ _ _); k_dflt (refine' len_li ?Nxf2f ?mxf2f ?zxf2f ?_; (case Nxf2f => k_asm); (case mxf2f => k_mem); (case zxf2f => first | assumption | omega); k_whole))
  exact trivial

noncomputable section
namespace K_ofstr_c
def KP (w : World) (R : Result → Shared → Prop) (s : Shared) (b : Heap) (loose : List Str) (mean : ExcName → Option Value) (mg mb : Str → Option Value) (x dx ba : Addr) (nb lv : Int) (tn tl p0 p1 p2 p3 : Tok) (pn : Nat) (gl : Bool) (y : Array UInt8) : Prop := ∀ {A : Around} (st : b.StaysIn s.heap) (G : Gd w loose mean mg mb b) (D : Led b s.heap [(x, instObj 86 dx), (dx, textD w nb tn ba gl lv tl p0 p1 p2 p3 pn), (ba, baO y)]) (hz : y.size ≤ 1000) (hA : A = { depth := 830, units := 4400, frames := none, handled := none, guards := none }) (hR : ∀ t dt sp ds h' tks tk tz ty q0 q1 q2 q3 n r0 r1 r2 rn, @LT.lt Nat _ ds sp → @LT.lt Nat _ sp dt → @LT.lt Nat _ dt t → After s.heap h' [] → New s.heap h' [(t, instObj 65 dt), (dt, thingD w "string" tk (.ref sp) (.bool false) (.int 3 236) q0 q1 q2 q3 n), (sp, instObj 161 ds), (ds, spanD w x (.int 0 tz) (.int y.size ty) r0 r1 r2 rn)] → R (.ok (.ret (.ref t))) ⟨h', s.gens, s.drawn, tks, s.os⟩), codeAny (model PG w) A (.call (.ref 202) ⟨[.ref x], []⟩) R s
def KT (x : (World × (Result → Shared → Prop) × Shared × Heap × List Str × (ExcName → Option Value)) × ((Str → Option Value) × (Str → Option Value) × Addr × Addr × Addr × Int) × (Int × Tok × Tok × Tok × Tok × Tok) × (Tok × Nat × Bool × Array UInt8)) : Prop := KP x.1.1 x.1.2.1 x.1.2.2.1 x.1.2.2.2.1 x.1.2.2.2.2.1 x.1.2.2.2.2.2 x.2.1.1 x.2.1.2.1 x.2.1.2.2.1 x.2.1.2.2.2.1 x.2.1.2.2.2.2.1 x.2.1.2.2.2.2.2 x.2.2.1.1 x.2.2.1.2.1 x.2.2.1.2.2.1 x.2.2.1.2.2.2.1 x.2.2.1.2.2.2.2.1 x.2.2.1.2.2.2.2.2 x.2.2.2.1 x.2.2.2.2.1 x.2.2.2.2.2.1 x.2.2.2.2.2.2
theorem Kex : ∃ x, KT x → ∀ y, KT y := drink ((anyW, (fun _ _ => True), {}, default, default, default), (default, default, default, default, default, default), (default, default, default, default, default, default), (default, default, default, default)) _
@[irreducible] def Kx0 := Classical.choose Kex
@[irreducible] def w := Kx0.1.1
@[irreducible] def R := Kx0.1.2.1
@[irreducible] def s := Kx0.1.2.2.1
@[irreducible] def b := Kx0.1.2.2.2.1
@[irreducible] def loose := Kx0.1.2.2.2.2.1
@[irreducible] def mean := Kx0.1.2.2.2.2.2
@[irreducible] def mg := Kx0.2.1.1
@[irreducible] def mb := Kx0.2.1.2.1
@[irreducible] def x := Kx0.2.1.2.2.1
@[irreducible] def dx := Kx0.2.1.2.2.2.1
@[irreducible] def ba := Kx0.2.1.2.2.2.2.1
@[irreducible] def nb := Kx0.2.1.2.2.2.2.2
@[irreducible] def lv := Kx0.2.2.1.1
@[irreducible] def tn := Kx0.2.2.1.2.1
@[irreducible] def tl := Kx0.2.2.1.2.2.1
@[irreducible] def p0 := Kx0.2.2.1.2.2.2.1
@[irreducible] def p1 := Kx0.2.2.1.2.2.2.2.1
@[irreducible] def p2 := Kx0.2.2.1.2.2.2.2.2
@[irreducible] def p3 := Kx0.2.2.2.1
@[irreducible] def pn := Kx0.2.2.2.2.1
@[irreducible] def gl := Kx0.2.2.2.2.2.1
@[irreducible] def y := Kx0.2.2.2.2.2.2
set_option maxRecDepth 100000
set_option maxHeartbeats 4000000
@[irreducible] def g : Heap := hideAll s.heap (([(x, instObj 86 dx), (dx, textD w nb tn ba gl lv tl p0 p1 p2 p3 pn), (ba, baO y)] : List (Addr × Obj)).map (·.1))
@[irreducible] def L' : Addr := s.heap.objs.size
theorem KgE  : g = hideAll s.heap (([(x, instObj 86 dx), (dx, textD w nb tn ba gl lv tl p0 p1 p2 p3 pn), (ba, baO y)] : List (Addr × Obj)).map (·.1)) := by with_unfolding_all rfl
theorem KlE : L' = s.heap.objs.size := by with_unfolding_all rfl
theorem at0 : KP w R s b loose mean mg mb x dx ba nb lv tn tl p0 p1 p2 p3 pn gl y := by
  intro A st G D hz hA hR
  subst hA
  have Xs := G.X.keeps st
  refine' enterE' KgE KlE (binds := [(Str.ofString "text", .ref x), (Str.ofString "is_exec", .bool false), (Str.ofString "access", .int 3 236)]) st G D ?k6 ?k7 ?k8 ?k9 ?kB ?_ ?c2 ?c3 ?c4 ?c5
  walk_at "my enter"
  intro h' Z F' N'
  have G' := G.keeps Z.st
  have ⟨X', T', _, _, _, _, _⟩ := G'
  walk_at "my go"
  (rename Fr _ _ _ _ => F9); (rename News _ _ _ _ => N9)
  rename AllNew _ _ _ => nwT
  revert nwT
  rename AllNew _ _ _ => nwS
  intro nwT
  refine' hR _ _ _ _ _ _ _ _ _ _ _ _ _ _ _ _ _ _ ?l1 ?l2 ?l3 (after_part F9 N9 Z ?c ?l) ((new_of Z N9 nwT ?d1).app (new_of Z N9 nwS ?d2))
  case l1 => assumption
  case l3 => assumption
  case l2 =>
    have q := nwT
    simp only [AllNew, allLt_nil, allLt_cons, and_true] at q
    omega
  case c => exact fun _ hp => (nomatch hp)
  case l => walk_at "my part"
  case d1 => walk_at "my sub"
  case d2 => walk_at "my sub"
end K_ofstr_c
end
theorem ofstr_c {w : World} {R : Result → Shared → Prop} {s : Shared} {b : Heap} {loose : List Str} {mean : ExcName → Option Value} {mg mb : Str → Option Value} {x dx ba : Addr} {nb lv : Int} {tn tl p0 p1 p2 p3 : Tok} {pn : Nat} {gl : Bool} {y : Array UInt8} : K_ofstr_c.KP w R s b loose mean mg mb x dx ba nb lv tn tl p0 p1 p2 p3 pn gl y :=
  @Classical.choose_spec _ _ K_ofstr_c.Kex (by with_unfolding_all exact @K_ofstr_c.at0) ((w, R, s, b, loose, mean), (mg, mb, x, dx, ba, nb), (lv, tn, tl, p0, p1, p2), (p3, pn, gl, y))
section
end
noncomputable section
namespace K_ofrow_c
def KP (w : World) (R : Result → Shared → Prop) (s : Shared) (b : Heap) (loose : List Str) (mean : ExcName → Option Value) (mg mb : Str → Option Value) (x dx l : Addr) (nb lv : Int) (tn tl p0 p1 p2 p3 : Tok) (pn c : Nat) (gl : Bool) (vs : List Value) : Prop := ∀ {A : Around} (st : b.StaysIn s.heap) (G : Gd w loose mean mg mb b) (D : Led b s.heap [(x, instObj 107 dx), (dx, rowD w nb tn l gl lv tl p0 p1 p2 p3 pn), (l, listOf vs.toArray c)]) (hz : vs.length ≤ 1000) (hA : A = { depth := 830, units := 4400, frames := none, handled := none, guards := none }) (hR : ∀ t dt sp ds h' tks tk tz ty q0 q1 q2 q3 n r0 r1 r2 rn, @LT.lt Nat _ ds sp → @LT.lt Nat _ sp dt → @LT.lt Nat _ dt t → After s.heap h' [] → New s.heap h' [(t, instObj 65 dt), (dt, thingD w "array" tk (.ref sp) (.bool false) (.int 3 236) q0 q1 q2 q3 n), (sp, instObj 161 ds), (ds, spanD w x (.int 0 tz) (.int vs.length ty) r0 r1 r2 rn)] → R (.ok (.ret (.ref t))) ⟨h', s.gens, s.drawn, tks, s.os⟩), codeAny (model PG w) A (.call (.ref 210) ⟨[.ref x], []⟩) R s
def KT (x : (World × (Result → Shared → Prop) × Shared × Heap × List Str × (ExcName → Option Value)) × ((Str → Option Value) × (Str → Option Value) × Addr × Addr × Addr × Int) × (Int × Tok × Tok × Tok × Tok × Tok) × (Tok × Nat × Nat × Bool × List Value)) : Prop := KP x.1.1 x.1.2.1 x.1.2.2.1 x.1.2.2.2.1 x.1.2.2.2.2.1 x.1.2.2.2.2.2 x.2.1.1 x.2.1.2.1 x.2.1.2.2.1 x.2.1.2.2.2.1 x.2.1.2.2.2.2.1 x.2.1.2.2.2.2.2 x.2.2.1.1 x.2.2.1.2.1 x.2.2.1.2.2.1 x.2.2.1.2.2.2.1 x.2.2.1.2.2.2.2.1 x.2.2.1.2.2.2.2.2 x.2.2.2.1 x.2.2.2.2.1 x.2.2.2.2.2.1 x.2.2.2.2.2.2.1 x.2.2.2.2.2.2.2
theorem Kex : ∃ x, KT x → ∀ y, KT y := drink ((anyW, (fun _ _ => True), {}, default, default, default), (default, default, default, default, default, default), (default, default, default, default, default, default), (default, default, default, default, default)) _
@[irreducible] def Kx0 := Classical.choose Kex
@[irreducible] def w := Kx0.1.1
@[irreducible] def R := Kx0.1.2.1
@[irreducible] def s := Kx0.1.2.2.1
@[irreducible] def b := Kx0.1.2.2.2.1
@[irreducible] def loose := Kx0.1.2.2.2.2.1
@[irreducible] def mean := Kx0.1.2.2.2.2.2
@[irreducible] def mg := Kx0.2.1.1
@[irreducible] def mb := Kx0.2.1.2.1
@[irreducible] def x := Kx0.2.1.2.2.1
@[irreducible] def dx := Kx0.2.1.2.2.2.1
@[irreducible] def l := Kx0.2.1.2.2.2.2.1
@[irreducible] def nb := Kx0.2.1.2.2.2.2.2
@[irreducible] def lv := Kx0.2.2.1.1
@[irreducible] def tn := Kx0.2.2.1.2.1
@[irreducible] def tl := Kx0.2.2.1.2.2.1
@[irreducible] def p0 := Kx0.2.2.1.2.2.2.1
@[irreducible] def p1 := Kx0.2.2.1.2.2.2.2.1
@[irreducible] def p2 := Kx0.2.2.1.2.2.2.2.2
@[irreducible] def p3 := Kx0.2.2.2.1
@[irreducible] def pn := Kx0.2.2.2.2.1
@[irreducible] def c := Kx0.2.2.2.2.2.1
@[irreducible] def gl := Kx0.2.2.2.2.2.2.1
@[irreducible] def vs := Kx0.2.2.2.2.2.2.2
set_option maxRecDepth 100000
set_option maxHeartbeats 4000000
@[irreducible] def g : Heap := hideAll s.heap (([(x, instObj 107 dx), (dx, rowD w nb tn l gl lv tl p0 p1 p2 p3 pn), (l, listOf vs.toArray c)] : List (Addr × Obj)).map (·.1))
@[irreducible] def L' : Addr := s.heap.objs.size
theorem KgE  : g = hideAll s.heap (([(x, instObj 107 dx), (dx, rowD w nb tn l gl lv tl p0 p1 p2 p3 pn), (l, listOf vs.toArray c)] : List (Addr × Obj)).map (·.1)) := by with_unfolding_all rfl
theorem KlE : L' = s.heap.objs.size := by with_unfolding_all rfl
theorem at0 : KP w R s b loose mean mg mb x dx l nb lv tn tl p0 p1 p2 p3 pn c gl vs := by
  intro A st G D hz hA hR
  subst hA
  have Xs := G.X.keeps st
  refine' enterE' KgE KlE (binds := [(Str.ofString "row", .ref x), (Str.ofString "is_exec", .bool false), (Str.ofString "access", .int 3 236)]) st G D ?k6 ?k7 ?k8 ?k9 ?kB ?_ ?c2 ?c3 ?c4 ?c5
  walk_at "my enter"
  intro h' Z F' N'
  have G' := G.keeps Z.st
  have ⟨X', T', _, _, _, _, _⟩ := G'
  walk_at "my go"
  (rename Fr _ _ _ _ => F9); (rename News _ _ _ _ => N9)
  rename AllNew _ _ _ => nwT
  revert nwT
  rename AllNew _ _ _ => nwS
  intro nwT
  refine' hR _ _ _ _ _ _ _ _ _ _ _ _ _ _ _ _ _ _ ?l1 ?l2 ?l3 (after_part F9 N9 Z ?c ?l) ((new_of Z N9 nwT ?d1).app (new_of Z N9 nwS ?d2))
  case l1 => assumption
  case l3 => assumption
  case l2 =>
    have q := nwT
    simp only [AllNew, allLt_nil, allLt_cons, and_true] at q
    omega
  case c => exact fun _ hp => (nomatch hp)
  case l => walk_at "my part"
  case d1 => walk_at "my sub"
  case d2 => walk_at "my sub"
end K_ofrow_c
end
theorem ofrow_c {w : World} {R : Result → Shared → Prop} {s : Shared} {b : Heap} {loose : List Str} {mean : ExcName → Option Value} {mg mb : Str → Option Value} {x dx l : Addr} {nb lv : Int} {tn tl p0 p1 p2 p3 : Tok} {pn c : Nat} {gl : Bool} {vs : List Value} : K_ofrow_c.KP w R s b loose mean mg mb x dx l nb lv tn tl p0 p1 p2 p3 pn c gl vs :=
  @Classical.choose_spec _ _ K_ofrow_c.Kex (by with_unfolding_all exact @K_ofrow_c.at0) ((w, R, s, b, loose, mean), (mg, mb, x, dx, l, nb), (lv, tn, tl, p0, p1, p2), (p3, pn, c, gl, vs))
noncomputable section
namespace K_octspan_c
def KP (w : World) (R : Result → Shared → Prop) (s : Shared) (b : Heap) (loose : List Str) (mean : ExcName → Option Value) (mg mb : Str → Option Value) (sp ds x dx ba : Addr) (nb lv : Int) (tz ty tn tl r0 r1 r2 p0 p1 p2 p3 : Tok) (rn pn : Nat) (gl : Bool) (y : Array UInt8) : Prop := ∀ {A : Around} (st : b.StaysIn s.heap) (G : Gd w loose mean mg mb b) (D : Led b s.heap [(sp, instObj 161 ds), (ds, spanD w x (.int 0 tz) (.int y.size ty) r0 r1 r2 rn), (x, instObj 86 dx), (dx, textD w nb tn ba gl lv tl p0 p1 p2 p3 pn), (ba, baO y)]) (hz : y.size ≤ 1000) (hA : A = { depth := 830, units := 4400, frames := none, handled := none, guards := none }) (hR : ∀ h' tks tk, After s.heap h' [] → R (.ok (.ret (.bytes y tk))) ⟨h', s.gens, s.drawn, tks, s.os⟩), codeAny (model PG w) A (.call (.ref 245) ⟨[.ref sp], []⟩) R s
def KT (x : (World × (Result → Shared → Prop) × Shared × Heap × List Str × (ExcName → Option Value)) × ((Str → Option Value) × (Str → Option Value) × Addr × Addr × Addr × Addr) × (Addr × Int × Int × Tok × Tok × Tok) × (Tok × Tok × Tok × Tok × Tok × Tok) × (Tok × Tok × Nat × Nat × Bool × Array UInt8)) : Prop := KP x.1.1 x.1.2.1 x.1.2.2.1 x.1.2.2.2.1 x.1.2.2.2.2.1 x.1.2.2.2.2.2 x.2.1.1 x.2.1.2.1 x.2.1.2.2.1 x.2.1.2.2.2.1 x.2.1.2.2.2.2.1 x.2.1.2.2.2.2.2 x.2.2.1.1 x.2.2.1.2.1 x.2.2.1.2.2.1 x.2.2.1.2.2.2.1 x.2.2.1.2.2.2.2.1 x.2.2.1.2.2.2.2.2 x.2.2.2.1.1 x.2.2.2.1.2.1 x.2.2.2.1.2.2.1 x.2.2.2.1.2.2.2.1 x.2.2.2.1.2.2.2.2.1 x.2.2.2.1.2.2.2.2.2 x.2.2.2.2.1 x.2.2.2.2.2.1 x.2.2.2.2.2.2.1 x.2.2.2.2.2.2.2.1 x.2.2.2.2.2.2.2.2.1 x.2.2.2.2.2.2.2.2.2
theorem Kex : ∃ x, KT x → ∀ y, KT y := drink ((anyW, (fun _ _ => True), {}, default, default, default), (default, default, default, default, default, default), (default, default, default, default, default, default), (default, default, default, default, default, default), (default, default, default, default, default, default)) _
@[irreducible] def Kx0 := Classical.choose Kex
@[irreducible] def w := Kx0.1.1
@[irreducible] def R := Kx0.1.2.1
@[irreducible] def s := Kx0.1.2.2.1
@[irreducible] def b := Kx0.1.2.2.2.1
@[irreducible] def loose := Kx0.1.2.2.2.2.1
@[irreducible] def mean := Kx0.1.2.2.2.2.2
@[irreducible] def mg := Kx0.2.1.1
@[irreducible] def mb := Kx0.2.1.2.1
@[irreducible] def sp := Kx0.2.1.2.2.1
@[irreducible] def ds := Kx0.2.1.2.2.2.1
@[irreducible] def x := Kx0.2.1.2.2.2.2.1
@[irreducible] def dx := Kx0.2.1.2.2.2.2.2
@[irreducible] def ba := Kx0.2.2.1.1
@[irreducible] def nb := Kx0.2.2.1.2.1
@[irreducible] def lv := Kx0.2.2.1.2.2.1
@[irreducible] def tz := Kx0.2.2.1.2.2.2.1
@[irreducible] def ty := Kx0.2.2.1.2.2.2.2.1
@[irreducible] def tn := Kx0.2.2.1.2.2.2.2.2
@[irreducible] def tl := Kx0.2.2.2.1.1
@[irreducible] def r0 := Kx0.2.2.2.1.2.1
@[irreducible] def r1 := Kx0.2.2.2.1.2.2.1
@[irreducible] def r2 := Kx0.2.2.2.1.2.2.2.1
@[irreducible] def p0 := Kx0.2.2.2.1.2.2.2.2.1
@[irreducible] def p1 := Kx0.2.2.2.1.2.2.2.2.2
@[irreducible] def p2 := Kx0.2.2.2.2.1
@[irreducible] def p3 := Kx0.2.2.2.2.2.1
@[irreducible] def rn := Kx0.2.2.2.2.2.2.1
@[irreducible] def pn := Kx0.2.2.2.2.2.2.2.1
@[irreducible] def gl := Kx0.2.2.2.2.2.2.2.2.1
@[irreducible] def y := Kx0.2.2.2.2.2.2.2.2.2
set_option maxRecDepth 100000
set_option maxHeartbeats 4000000
@[irreducible] def g : Heap := hideAll s.heap (([(sp, instObj 161 ds), (ds, spanD w x (.int 0 tz) (.int y.size ty) r0 r1 r2 rn), (x, instObj 86 dx), (dx, textD w nb tn ba gl lv tl p0 p1 p2 p3 pn), (ba, baO y)] : List (Addr × Obj)).map (·.1))
@[irreducible] def L' : Addr := s.heap.objs.size
theorem KgE  : g = hideAll s.heap (([(sp, instObj 161 ds), (ds, spanD w x (.int 0 tz) (.int y.size ty) r0 r1 r2 rn), (x, instObj 86 dx), (dx, textD w nb tn ba gl lv tl p0 p1 p2 p3 pn), (ba, baO y)] : List (Addr × Obj)).map (·.1)) := by with_unfolding_all rfl
theorem KlE : L' = s.heap.objs.size := by with_unfolding_all rfl
theorem at0 : KP w R s b loose mean mg mb sp ds x dx ba nb lv tz ty tn tl r0 r1 r2 p0 p1 p2 p3 rn pn gl y := by
  intro A st G D hz hA hR
  subst hA
  have Xs := G.X.keeps st
  refine' enterE' KgE KlE (binds := [(Str.ofString "span", .ref sp)]) st G D ?k6 ?k7 ?k8 ?k9 ?kB ?_ ?c2 ?c3 ?c4 ?c5
  walk_at "my enter"
  intro h' Z F' N'
  have G' := G.keeps Z.st
  have ⟨X', T', _, _, _, _, _⟩ := G'
  walk_at "my go"
  (rename Fr _ _ _ _ => F9); (rename News _ _ _ _ => N9)
  refine' hR _ _ _ (after_part F9 N9 Z ?c ?l)
  case c => exact fun _ hp => (nomatch hp)
  case l => walk_at "my part"
end K_octspan_c
end
theorem octspan_c {w : World} {R : Result → Shared → Prop} {s : Shared} {b : Heap} {loose : List Str} {mean : ExcName → Option Value} {mg mb : Str → Option Value} {sp ds x dx ba : Addr} {nb lv : Int} {tz ty tn tl r0 r1 r2 p0 p1 p2 p3 : Tok} {rn pn : Nat} {gl : Bool} {y : Array UInt8} : K_octspan_c.KP w R s b loose mean mg mb sp ds x dx ba nb lv tz ty tn tl r0 r1 r2 p0 p1 p2 p3 rn pn gl y :=
  @Classical.choose_spec _ _ K_octspan_c.Kex (by with_unfolding_all exact @K_octspan_c.at0) ((w, R, s, b, loose, mean), (mg, mb, sp, ds, x, dx), (ba, nb, lv, tz, ty, tn), (tl, r0, r1, r2, p0, p1), (p2, p3, rn, pn, gl, y))
noncomputable section
namespace K_thgspan_c
def KP (w : World) (R : Result → Shared → Prop) (s : Shared) (b : Heap) (loose : List Str) (mean : ExcName → Option Value) (mg mb : Str → Option Value) (sp ds x dx l : Addr) (nb lv : Int) (tz ty tn tl r0 r1 r2 p0 p1 p2 p3 : Tok) (rn pn c : Nat) (gl : Bool) (vs : List Value) : Prop := ∀ {A : Around} (st : b.StaysIn s.heap) (G : Gd w loose mean mg mb b) (D : Led b s.heap [(sp, instObj 161 ds), (ds, spanD w x (.int 0 tz) (.int vs.length ty) r0 r1 r2 rn), (x, instObj 107 dx), (dx, rowD w nb tn l gl lv tl p0 p1 p2 p3 pn), (l, listOf vs.toArray c)]) (hz : vs.length ≤ 1000) (hA : A = { depth := 830, units := 4400, frames := none, handled := none, guards := none }) (hR : ∀ l' c' h' tks, After s.heap h' [] → New s.heap h' [(l', listOf vs.toArray c')] → R (.ok (.ret (.ref l'))) ⟨h', s.gens, s.drawn, tks, s.os⟩), codeAny (model PG w) A (.call (.ref 252) ⟨[.ref sp], []⟩) R s
def KT (x : (World × (Result → Shared → Prop) × Shared × Heap × List Str × (ExcName → Option Value)) × ((Str → Option Value) × (Str → Option Value) × Addr × Addr × Addr × Addr) × (Addr × Int × Int × Tok × Tok × Tok) × (Tok × Tok × Tok × Tok × Tok × Tok) × (Tok × Tok × Nat × Nat × Nat × Bool) × List Value) : Prop := KP x.1.1 x.1.2.1 x.1.2.2.1 x.1.2.2.2.1 x.1.2.2.2.2.1 x.1.2.2.2.2.2 x.2.1.1 x.2.1.2.1 x.2.1.2.2.1 x.2.1.2.2.2.1 x.2.1.2.2.2.2.1 x.2.1.2.2.2.2.2 x.2.2.1.1 x.2.2.1.2.1 x.2.2.1.2.2.1 x.2.2.1.2.2.2.1 x.2.2.1.2.2.2.2.1 x.2.2.1.2.2.2.2.2 x.2.2.2.1.1 x.2.2.2.1.2.1 x.2.2.2.1.2.2.1 x.2.2.2.1.2.2.2.1 x.2.2.2.1.2.2.2.2.1 x.2.2.2.1.2.2.2.2.2 x.2.2.2.2.1.1 x.2.2.2.2.1.2.1 x.2.2.2.2.1.2.2.1 x.2.2.2.2.1.2.2.2.1 x.2.2.2.2.1.2.2.2.2.1 x.2.2.2.2.1.2.2.2.2.2 x.2.2.2.2.2
theorem Kex : ∃ x, KT x → ∀ y, KT y := drink ((anyW, (fun _ _ => True), {}, default, default, default), (default, default, default, default, default, default), (default, default, default, default, default, default), (default, default, default, default, default, default), (default, default, default, default, default, default), default) _
@[irreducible] def Kx0 := Classical.choose Kex
@[irreducible] def w := Kx0.1.1
@[irreducible] def R := Kx0.1.2.1
@[irreducible] def s := Kx0.1.2.2.1
@[irreducible] def b := Kx0.1.2.2.2.1
@[irreducible] def loose := Kx0.1.2.2.2.2.1
@[irreducible] def mean := Kx0.1.2.2.2.2.2
@[irreducible] def mg := Kx0.2.1.1
@[irreducible] def mb := Kx0.2.1.2.1
@[irreducible] def sp := Kx0.2.1.2.2.1
@[irreducible] def ds := Kx0.2.1.2.2.2.1
@[irreducible] def x := Kx0.2.1.2.2.2.2.1
@[irreducible] def dx := Kx0.2.1.2.2.2.2.2
@[irreducible] def l := Kx0.2.2.1.1
@[irreducible] def nb := Kx0.2.2.1.2.1
@[irreducible] def lv := Kx0.2.2.1.2.2.1
@[irreducible] def tz := Kx0.2.2.1.2.2.2.1
@[irreducible] def ty := Kx0.2.2.1.2.2.2.2.1
@[irreducible] def tn := Kx0.2.2.1.2.2.2.2.2
@[irreducible] def tl := Kx0.2.2.2.1.1
@[irreducible] def r0 := Kx0.2.2.2.1.2.1
@[irreducible] def r1 := Kx0.2.2.2.1.2.2.1
@[irreducible] def r2 := Kx0.2.2.2.1.2.2.2.1
@[irreducible] def p0 := Kx0.2.2.2.1.2.2.2.2.1
@[irreducible] def p1 := Kx0.2.2.2.1.2.2.2.2.2
@[irreducible] def p2 := Kx0.2.2.2.2.1.1
@[irreducible] def p3 := Kx0.2.2.2.2.1.2.1
@[irreducible] def rn := Kx0.2.2.2.2.1.2.2.1
@[irreducible] def pn := Kx0.2.2.2.2.1.2.2.2.1
@[irreducible] def c := Kx0.2.2.2.2.1.2.2.2.2.1
@[irreducible] def gl := Kx0.2.2.2.2.1.2.2.2.2.2
@[irreducible] def vs := Kx0.2.2.2.2.2
set_option maxRecDepth 100000
set_option maxHeartbeats 4000000
@[irreducible] def g : Heap := hideAll s.heap (([(sp, instObj 161 ds), (ds, spanD w x (.int 0 tz) (.int vs.length ty) r0 r1 r2 rn), (x, instObj 107 dx), (dx, rowD w nb tn l gl lv tl p0 p1 p2 p3 pn), (l, listOf vs.toArray c)] : List (Addr × Obj)).map (·.1))
@[irreducible] def L' : Addr := s.heap.objs.size
theorem KgE  : g = hideAll s.heap (([(sp, instObj 161 ds), (ds, spanD w x (.int 0 tz) (.int vs.length ty) r0 r1 r2 rn), (x, instObj 107 dx), (dx, rowD w nb tn l gl lv tl p0 p1 p2 p3 pn), (l, listOf vs.toArray c)] : List (Addr × Obj)).map (·.1)) := by with_unfolding_all rfl
theorem KlE : L' = s.heap.objs.size := by with_unfolding_all rfl
theorem at0 : KP w R s b loose mean mg mb sp ds x dx l nb lv tz ty tn tl r0 r1 r2 p0 p1 p2 p3 rn pn c gl vs := by
  intro A st G D hz hA hR
  subst hA
  have Xs := G.X.keeps st
  refine' enterE' KgE KlE (binds := [(Str.ofString "span", .ref sp)]) st G D ?k6 ?k7 ?k8 ?k9 ?kB ?_ ?c2 ?c3 ?c4 ?c5
  walk_at "my enter"
  intro h' Z F' N'
  have G' := G.keeps Z.st
  have ⟨X', T', _, _, _, _, _⟩ := G'
  walk_at "my go"
  (rename Fr _ _ _ _ => F9); (rename News _ _ _ _ => N9)
  refine' hR _ _ _ _ (after_part F9 N9 Z ?c ?l) (new_one Z N9 ?lt)
  case c => exact fun _ hp => (nomatch hp)
  case l => walk_at "my part"
  case lt => assumption
end K_thgspan_c
end
theorem thgspan_c {w : World} {R : Result → Shared → Prop} {s : Shared} {b : Heap} {loose : List Str} {mean : ExcName → Option Value} {mg mb : Str → Option Value} {sp ds x dx l : Addr} {nb lv : Int} {tz ty tn tl r0 r1 r2 p0 p1 p2 p3 : Tok} {rn pn c : Nat} {gl : Bool} {vs : List Value} : K_thgspan_c.KP w R s b loose mean mg mb sp ds x dx l nb lv tz ty tn tl r0 r1 r2 p0 p1 p2 p3 rn pn c gl vs :=
  @Classical.choose_spec _ _ K_thgspan_c.Kex (by with_unfolding_all exact @K_thgspan_c.at0) ((w, R, s, b, loose, mean), (mg, mb, sp, ds, x, dx), (l, nb, lv, tz, ty, tn), (tl, r0, r1, r2, p0, p1), (p2, p3, rn, pn, c, gl), vs)
section
end
noncomputable abbrev wO (w : World) (tx rx ex vm : Int) (us md : Addr) (ct : Int) (gl : Bool) (c0 c1 c2 c3 c5 k0 k1 k2 k3 k4 k5 k6 k7 : Tok) (n : Nat) : Obj :=
  dictOf [ent w "text" k0 (.int tx c0), ent w "row" k1 (.int rx c1), ent w "entries" k2 (.int ex c2), ent w "room" k3 (.int vm c3), ent w "used" k4 (.ref us), ent w "count" k5 (.int ct c5), ent w "is_global" k6 (.bool gl), ent w "made" k7 (.ref md)] n
noncomputable abbrev usO (u0 u1 : Int) (d0 d1 : Tok) (n : Nat) : Obj := listOf #[.int u0 d0, .int u1 d1] n
noncomputable section
namespace K_fault_c
def KP (w : World) (R : Result → Shared → Prop) (s : Shared) (b : Heap) (loose : List Str) (mean : ExcName → Option Value) (mg mb : Str → Option Value) (many most tx rx ex vm ct u0 u1 : Int) (m0 m1 m2 : Tok) (wx us md : Addr) (gl : Bool) (c0 c1 c2 c3 c5 k0 k1 k2 k3 k4 k5 k6 k7 d0 d1 : Tok) (wn un : Nat) : Prop := ∀ {A : Around} {cost : Int} (st : b.StaysIn s.heap) (G : Gd w loose mean mg mb b) (hlt : @LT.lt Nat _ wx us) (hc : cost = 1 ∨ cost = 8 ∨ cost = 16) (hu : -1000 ≤ u0 ∧ u0 ≤ 100000 ∧ -1000 ≤ u1 ∧ u1 ≤ 100000) (D : Led b s.heap [(wx, wO w tx rx ex vm us md ct gl c0 c1 c2 c3 c5 k0 k1 k2 k3 k4 k5 k6 k7 wn), (us, usO u0 u1 d0 d1 un)]) (hA : A = { depth := 830, units := 4400, frames := none, handled := none, guards := none }) (r0 : many < 0 → ∀ tk h' tks, After s.heap h' [] → R (.ok (.ret (.bytes (asBytes "rangecheck") tk))) ⟨h', s.gens, s.drawn, tks, s.os⟩) (r1 : 0 ≤ many → most < many → ∀ tk h' tks, After s.heap h' [] → R (.ok (.ret (.bytes (asBytes "limitcheck") tk))) ⟨h', s.gens, s.drawn, tks, s.os⟩) (r2 : 0 ≤ many → many ≤ most → vm < u0 + u1 + many * cost → ∀ tk h' tks, After s.heap h' [] → R (.ok (.ret (.bytes (asBytes "VMerror") tk))) ⟨h', s.gens, s.drawn, tks, s.os⟩) (r3 : 0 ≤ many → many ≤ most → u0 + u1 + many * cost ≤ vm → ∀ h' tks, After s.heap h' [] → R (.ok (.ret .none)) ⟨h', s.gens, s.drawn, tks, s.os⟩), codeAny (model PG w) A (.call (.ref 385) ⟨[.ref wx, .int many m0, .int most m1, .int cost m2], []⟩) R s
def KT (x : (World × (Result → Shared → Prop) × Shared × Heap × List Str × (ExcName → Option Value)) × ((Str → Option Value) × (Str → Option Value) × Int × Int × Int × Int) × (Int × Int × Int × Int × Int × Tok) × (Tok × Tok × Addr × Addr × Addr × Bool) × (Tok × Tok × Tok × Tok × Tok × Tok) × (Tok × Tok × Tok × Tok × Tok × Tok) × (Tok × Tok × Tok × Nat × Nat)) : Prop := KP x.1.1 x.1.2.1 x.1.2.2.1 x.1.2.2.2.1 x.1.2.2.2.2.1 x.1.2.2.2.2.2 x.2.1.1 x.2.1.2.1 x.2.1.2.2.1 x.2.1.2.2.2.1 x.2.1.2.2.2.2.1 x.2.1.2.2.2.2.2 x.2.2.1.1 x.2.2.1.2.1 x.2.2.1.2.2.1 x.2.2.1.2.2.2.1 x.2.2.1.2.2.2.2.1 x.2.2.1.2.2.2.2.2 x.2.2.2.1.1 x.2.2.2.1.2.1 x.2.2.2.1.2.2.1 x.2.2.2.1.2.2.2.1 x.2.2.2.1.2.2.2.2.1 x.2.2.2.1.2.2.2.2.2 x.2.2.2.2.1.1 x.2.2.2.2.1.2.1 x.2.2.2.2.1.2.2.1 x.2.2.2.2.1.2.2.2.1 x.2.2.2.2.1.2.2.2.2.1 x.2.2.2.2.1.2.2.2.2.2 x.2.2.2.2.2.1.1 x.2.2.2.2.2.1.2.1 x.2.2.2.2.2.1.2.2.1 x.2.2.2.2.2.1.2.2.2.1 x.2.2.2.2.2.1.2.2.2.2.1 x.2.2.2.2.2.1.2.2.2.2.2 x.2.2.2.2.2.2.1 x.2.2.2.2.2.2.2.1 x.2.2.2.2.2.2.2.2.1 x.2.2.2.2.2.2.2.2.2.1 x.2.2.2.2.2.2.2.2.2.2
theorem Kex : ∃ x, KT x → ∀ y, KT y := drink ((anyW, (fun _ _ => True), {}, default, default, default), (default, default, default, default, default, default), (default, default, default, default, default, default), (default, default, default, default, default, default), (default, default, default, default, default, default), (default, default, default, default, default, default), (default, default, default, default, default)) _
@[irreducible] def Kx0 := Classical.choose Kex
@[irreducible] def w := Kx0.1.1
@[irreducible] def R := Kx0.1.2.1
@[irreducible] def s := Kx0.1.2.2.1
@[irreducible] def b := Kx0.1.2.2.2.1
@[irreducible] def loose := Kx0.1.2.2.2.2.1
@[irreducible] def mean := Kx0.1.2.2.2.2.2
@[irreducible] def mg := Kx0.2.1.1
@[irreducible] def mb := Kx0.2.1.2.1
@[irreducible] def many := Kx0.2.1.2.2.1
@[irreducible] def most := Kx0.2.1.2.2.2.1
@[irreducible] def tx := Kx0.2.1.2.2.2.2.1
@[irreducible] def rx := Kx0.2.1.2.2.2.2.2
@[irreducible] def ex := Kx0.2.2.1.1
@[irreducible] def vm := Kx0.2.2.1.2.1
@[irreducible] def ct := Kx0.2.2.1.2.2.1
@[irreducible] def u0 := Kx0.2.2.1.2.2.2.1
@[irreducible] def u1 := Kx0.2.2.1.2.2.2.2.1
@[irreducible] def m0 := Kx0.2.2.1.2.2.2.2.2
@[irreducible] def m1 := Kx0.2.2.2.1.1
@[irreducible] def m2 := Kx0.2.2.2.1.2.1
@[irreducible] def wx := Kx0.2.2.2.1.2.2.1
@[irreducible] def us := Kx0.2.2.2.1.2.2.2.1
@[irreducible] def md := Kx0.2.2.2.1.2.2.2.2.1
@[irreducible] def gl := Kx0.2.2.2.1.2.2.2.2.2
@[irreducible] def c0 := Kx0.2.2.2.2.1.1
@[irreducible] def c1 := Kx0.2.2.2.2.1.2.1
@[irreducible] def c2 := Kx0.2.2.2.2.1.2.2.1
@[irreducible] def c3 := Kx0.2.2.2.2.1.2.2.2.1
@[irreducible] def c5 := Kx0.2.2.2.2.1.2.2.2.2.1
@[irreducible] def k0 := Kx0.2.2.2.2.1.2.2.2.2.2
@[irreducible] def k1 := Kx0.2.2.2.2.2.1.1
@[irreducible] def k2 := Kx0.2.2.2.2.2.1.2.1
@[irreducible] def k3 := Kx0.2.2.2.2.2.1.2.2.1
@[irreducible] def k4 := Kx0.2.2.2.2.2.1.2.2.2.1
@[irreducible] def k5 := Kx0.2.2.2.2.2.1.2.2.2.2.1
@[irreducible] def k6 := Kx0.2.2.2.2.2.1.2.2.2.2.2
@[irreducible] def k7 := Kx0.2.2.2.2.2.2.1
@[irreducible] def d0 := Kx0.2.2.2.2.2.2.2.1
@[irreducible] def d1 := Kx0.2.2.2.2.2.2.2.2.1
@[irreducible] def wn := Kx0.2.2.2.2.2.2.2.2.2.1
@[irreducible] def un := Kx0.2.2.2.2.2.2.2.2.2.2
set_option maxRecDepth 100000
set_option maxHeartbeats 4000000
theorem at0 : KP w R s b loose mean mg mb many most tx rx ex vm ct u0 u1 m0 m1 m2 wx us md gl c0 c1 c2 c3 c5 k0 k1 k2 k3 k4 k5 k6 k7 d0 d1 wn un := by
  intro A cost st G hlt hc hu D hA r0 r1 r2 r3
  subst hA
  have fin : ∀ {g L' h' m}, Got b s.heap g [(wx, wO w tx rx ex vm us md ct gl c0 c1 c2 c3 c5 k0 k1 k2 k3 k4 k5 k6 k7 wn), (us, usO u0 u1 d0 d1 un)] L' → Fr g L' h' m → News g L' h' [(wx, wO w tx rx ex vm us md ct gl c0 c1 c2 c3 c5 k0 k1 k2 k3 k4 k5 k6 k7 wn), (us, usO u0 u1 d0 d1 un)] → After s.heap h' [] := fun Z F9 N9 => ⟨fun _ hp => (nomatch hp), fun a o q _ => keep_all F9 N9 Z (fun _ hp => hp) a o q⟩
  obtain ⟨hu0, hu1, hu2, hu3⟩ := hu
  rcases hc with rfl | rfl | rfl
  · refine' enterE (binds := [(Str.ofString "w", .ref wx), (Str.ofString "many", .int many m0), (Str.ofString "most", .int most m1), (Str.ofString "cost", .int 1 m2)]) st G D ?k6 ?k7 ?k8 ?k9 ?kB ?_ ?c2 ?c3 ?c4 ?c5
    walk_at "my enter"
    intro g L' h' Z F' N'
    have G' := G.keeps Z.st
    have ⟨X', T', _, _, _, _, _⟩ := G'
    walk_at "my go"
    · exact r0 (by omega) _ _ _ (fin Z (by assumption) (by assumption))
    · exact r1 (by omega) (by omega) _ _ _ (fin Z (by assumption) (by assumption))
    · exact r2 (by omega) (by omega) (by omega) _ _ _ (fin Z (by assumption) (by assumption))
    · exact r3 (by omega) (by omega) (by omega) _ _ (fin Z (by assumption) (by assumption))
  · refine' enterE (binds := [(Str.ofString "w", .ref wx), (Str.ofString "many", .int many m0), (Str.ofString "most", .int most m1), (Str.ofString "cost", .int 8 m2)]) st G D ?k6 ?k7 ?k8 ?k9 ?kB ?_ ?c2 ?c3 ?c4 ?c5
    walk_at "my enter"
    intro g L' h' Z F' N'
    have G' := G.keeps Z.st
    have ⟨X', T', _, _, _, _, _⟩ := G'
    walk_at "my go"
    · exact r0 (by omega) _ _ _ (fin Z (by assumption) (by assumption))
    · exact r1 (by omega) (by omega) _ _ _ (fin Z (by assumption) (by assumption))
    · exact r2 (by omega) (by omega) (by omega) _ _ _ (fin Z (by assumption) (by assumption))
    · exact r3 (by omega) (by omega) (by omega) _ _ (fin Z (by assumption) (by assumption))
  · refine' enterE (binds := [(Str.ofString "w", .ref wx), (Str.ofString "many", .int many m0), (Str.ofString "most", .int most m1), (Str.ofString "cost", .int 16 m2)]) st G D ?k6 ?k7 ?k8 ?k9 ?kB ?_ ?c2 ?c3 ?c4 ?c5
    walk_at "my enter"
    intro g L' h' Z F' N'
    have G' := G.keeps Z.st
    have ⟨X', T', _, _, _, _, _⟩ := G'
    walk_at "my go"
    · exact r0 (by omega) _ _ _ (fin Z (by assumption) (by assumption))
    · exact r1 (by omega) (by omega) _ _ _ (fin Z (by assumption) (by assumption))
    · exact r2 (by omega) (by omega) (by omega) _ _ _ (fin Z (by assumption) (by assumption))
    · exact r3 (by omega) (by omega) (by omega) _ _ (fin Z (by assumption) (by assumption))
end K_fault_c
end
theorem fault_c {w : World} {R : Result → Shared → Prop} {s : Shared} {b : Heap} {loose : List Str} {mean : ExcName → Option Value} {mg mb : Str → Option Value} {many most tx rx ex vm ct u0 u1 : Int} {m0 m1 m2 : Tok} {wx us md : Addr} {gl : Bool} {c0 c1 c2 c3 c5 k0 k1 k2 k3 k4 k5 k6 k7 d0 d1 : Tok} {wn un : Nat} : K_fault_c.KP w R s b loose mean mg mb many most tx rx ex vm ct u0 u1 m0 m1 m2 wx us md gl c0 c1 c2 c3 c5 k0 k1 k2 k3 k4 k5 k6 k7 d0 d1 wn un :=
  @Classical.choose_spec _ _ K_fault_c.Kex (by with_unfolding_all exact @K_fault_c.at0) ((w, R, s, b, loose, mean), (mg, mb, many, most, tx, rx), (ex, vm, ct, u0, u1, m0), (m1, m2, wx, us, md, gl), (c0, c1, c2, c3, c5, k0), (k1, k2, k3, k4, k5, k6), (k7, d0, d1, wn, un))
noncomputable section
namespace K_counted_c
def KP (w : World) (R : Result → Shared → Prop) (s : Shared) (b : Heap) (loose : List Str) (mean : ExcName → Option Value) (mg mb : Str → Option Value) (cost tx rx ex vm ct u0 u1 : Int) (m2 : Tok) (wx us md : Addr) (c0 c1 c2 c3 c5 k0 k1 k2 k3 k4 k5 k6 k7 d0 d1 : Tok) (wn un : Nat) : Prop := ∀ {A : Around} {gl : Bool} (st : b.StaysIn s.heap) (G : Gd w loose mean mg mb b) (hlt : @LT.lt Nat _ wx us) (D : Led b s.heap [(wx, wO w tx rx ex vm us md ct gl c0 c1 c2 c3 c5 k0 k1 k2 k3 k4 k5 k6 k7 wn), (us, usO u0 u1 d0 d1 un)]) (hA : A = { depth := 830, units := 4400, frames := none, handled := none, guards := none }) (hR : ∀ h' tks u0' u1' d0' d1' un' c5', u0' = (if gl = true then u0 else u0 + cost) → u1' = (if gl = true then u1 + cost else u1) → After s.heap h' [(wx, wO w tx rx ex vm us md (ct + 1) gl c0 c1 c2 c3 c5' k0 k1 k2 k3 k4 k5 k6 k7 wn), (us, usO u0' u1' d0' d1' un')] → R (.ok (.ret .none)) ⟨h', s.gens, s.drawn, tks, s.os⟩), codeAny (model PG w) A (.call (.ref 392) ⟨[.ref wx, .int cost m2], []⟩) R s
def KT (x : (World × (Result → Shared → Prop) × Shared × Heap × List Str × (ExcName → Option Value)) × ((Str → Option Value) × (Str → Option Value) × Int × Int × Int × Int) × (Int × Int × Int × Int × Tok × Addr) × (Addr × Addr × Tok × Tok × Tok × Tok) × (Tok × Tok × Tok × Tok × Tok × Tok) × (Tok × Tok × Tok × Tok × Tok × Nat) × Nat) : Prop := KP x.1.1 x.1.2.1 x.1.2.2.1 x.1.2.2.2.1 x.1.2.2.2.2.1 x.1.2.2.2.2.2 x.2.1.1 x.2.1.2.1 x.2.1.2.2.1 x.2.1.2.2.2.1 x.2.1.2.2.2.2.1 x.2.1.2.2.2.2.2 x.2.2.1.1 x.2.2.1.2.1 x.2.2.1.2.2.1 x.2.2.1.2.2.2.1 x.2.2.1.2.2.2.2.1 x.2.2.1.2.2.2.2.2 x.2.2.2.1.1 x.2.2.2.1.2.1 x.2.2.2.1.2.2.1 x.2.2.2.1.2.2.2.1 x.2.2.2.1.2.2.2.2.1 x.2.2.2.1.2.2.2.2.2 x.2.2.2.2.1.1 x.2.2.2.2.1.2.1 x.2.2.2.2.1.2.2.1 x.2.2.2.2.1.2.2.2.1 x.2.2.2.2.1.2.2.2.2.1 x.2.2.2.2.1.2.2.2.2.2 x.2.2.2.2.2.1.1 x.2.2.2.2.2.1.2.1 x.2.2.2.2.2.1.2.2.1 x.2.2.2.2.2.1.2.2.2.1 x.2.2.2.2.2.1.2.2.2.2.1 x.2.2.2.2.2.1.2.2.2.2.2 x.2.2.2.2.2.2
theorem Kex : ∃ x, KT x → ∀ y, KT y := drink ((anyW, (fun _ _ => True), {}, default, default, default), (default, default, default, default, default, default), (default, default, default, default, default, default), (default, default, default, default, default, default), (default, default, default, default, default, default), (default, default, default, default, default, default), default) _
@[irreducible] def Kx0 := Classical.choose Kex
@[irreducible] def w := Kx0.1.1
@[irreducible] def R := Kx0.1.2.1
@[irreducible] def s := Kx0.1.2.2.1
@[irreducible] def b := Kx0.1.2.2.2.1
@[irreducible] def loose := Kx0.1.2.2.2.2.1
@[irreducible] def mean := Kx0.1.2.2.2.2.2
@[irreducible] def mg := Kx0.2.1.1
@[irreducible] def mb := Kx0.2.1.2.1
@[irreducible] def cost := Kx0.2.1.2.2.1
@[irreducible] def tx := Kx0.2.1.2.2.2.1
@[irreducible] def rx := Kx0.2.1.2.2.2.2.1
@[irreducible] def ex := Kx0.2.1.2.2.2.2.2
@[irreducible] def vm := Kx0.2.2.1.1
@[irreducible] def ct := Kx0.2.2.1.2.1
@[irreducible] def u0 := Kx0.2.2.1.2.2.1
@[irreducible] def u1 := Kx0.2.2.1.2.2.2.1
@[irreducible] def m2 := Kx0.2.2.1.2.2.2.2.1
@[irreducible] def wx := Kx0.2.2.1.2.2.2.2.2
@[irreducible] def us := Kx0.2.2.2.1.1
@[irreducible] def md := Kx0.2.2.2.1.2.1
@[irreducible] def c0 := Kx0.2.2.2.1.2.2.1
@[irreducible] def c1 := Kx0.2.2.2.1.2.2.2.1
@[irreducible] def c2 := Kx0.2.2.2.1.2.2.2.2.1
@[irreducible] def c3 := Kx0.2.2.2.1.2.2.2.2.2
@[irreducible] def c5 := Kx0.2.2.2.2.1.1
@[irreducible] def k0 := Kx0.2.2.2.2.1.2.1
@[irreducible] def k1 := Kx0.2.2.2.2.1.2.2.1
@[irreducible] def k2 := Kx0.2.2.2.2.1.2.2.2.1
@[irreducible] def k3 := Kx0.2.2.2.2.1.2.2.2.2.1
@[irreducible] def k4 := Kx0.2.2.2.2.1.2.2.2.2.2
@[irreducible] def k5 := Kx0.2.2.2.2.2.1.1
@[irreducible] def k6 := Kx0.2.2.2.2.2.1.2.1
@[irreducible] def k7 := Kx0.2.2.2.2.2.1.2.2.1
@[irreducible] def d0 := Kx0.2.2.2.2.2.1.2.2.2.1
@[irreducible] def d1 := Kx0.2.2.2.2.2.1.2.2.2.2.1
@[irreducible] def wn := Kx0.2.2.2.2.2.1.2.2.2.2.2
@[irreducible] def un := Kx0.2.2.2.2.2.2
set_option maxRecDepth 100000
set_option maxHeartbeats 4000000
theorem at0 : KP w R s b loose mean mg mb cost tx rx ex vm ct u0 u1 m2 wx us md c0 c1 c2 c3 c5 k0 k1 k2 k3 k4 k5 k6 k7 d0 d1 wn un := by
  intro A gl st G hlt D hA hR
  subst hA
  cases gl
  all_goals
    refine' enterE (binds := [(Str.ofString "w", .ref wx), (Str.ofString "cost", .int cost m2)]) st G D ?k6 ?k7 ?k8 ?k9 ?kB ?_ ?c2 ?c3 ?c4 ?c5
    walk_at "my enter"
    intro g L' h' Z F' N'
    have G' := G.keeps Z.st
    have ⟨X', T', _, _, _, _, _⟩ := G'
    walk_at "my go"
    (rename Fr _ _ _ _ => F9); (rename News _ _ _ _ => N9)
    refine' hR _ _ _ _ _ _ _ _ ?e1 ?e2 (after_part F9 N9 Z ?c ?l)
    case c => walk_at "my sub"
    case l => walk_at "my part"
    case e1 => rfl
    case e2 => rfl
end K_counted_c
end
theorem counted_c {w : World} {R : Result → Shared → Prop} {s : Shared} {b : Heap} {loose : List Str} {mean : ExcName → Option Value} {mg mb : Str → Option Value} {cost tx rx ex vm ct u0 u1 : Int} {m2 : Tok} {wx us md : Addr} {c0 c1 c2 c3 c5 k0 k1 k2 k3 k4 k5 k6 k7 d0 d1 : Tok} {wn un : Nat} : K_counted_c.KP w R s b loose mean mg mb cost tx rx ex vm ct u0 u1 m2 wx us md c0 c1 c2 c3 c5 k0 k1 k2 k3 k4 k5 k6 k7 d0 d1 wn un :=
  @Classical.choose_spec _ _ K_counted_c.Kex (by with_unfolding_all exact @K_counted_c.at0) ((w, R, s, b, loose, mean), (mg, mb, cost, tx, rx, ex), (vm, ct, u0, u1, m2, wx), (us, md, c0, c1, c2, c3), (c5, k0, k1, k2, k3, k4), (k5, k6, k7, d0, d1, wn), un)
section
end
theorem led_of {b g h : Heap} {L : Addr} {news led : List (Addr × Obj)} (N : News g L h news) (st : b.StaysIn g) (hm : ∀ p ∈ led, p ∈ news) : Led b h led := fun p hp => ⟨(N p (hm p hp)).1, by
  cases e : b.get? p.1 with
  | none => rfl
  | some o => have := st _ _ e; rw [(N p (hm p hp)).2.2] at this; cases this⟩
theorem same_go {P : Prop} {g h h' : Heap} {L : Addr} {m : Str → Option Value} {news : List (Addr × Obj)} (F : Fr g L h m) (N : News g L h news) (Af : After h h' []) (k : Fr g L h' m → News g L h' news → P) : P :=
  k (after_fr F Af fun _ hp => (nomatch hp)) fun p hp => ⟨Af.keep _ _ (N p hp).1 fun _ hq => (nomatch hq), (N p hp).2⟩
section
variable {w : World} {A : Around} {R : Result → Shared → Prop} {s : Shared} {b : Heap} {loose : List Str} {mean : ExcName → Option Value} {mg mb : Str → Option Value}
set_option maxRecDepth 100000
theorem counted_w {E : Value → Shared → Prop} {Q : Value → Shared → Prop} {g : Heap} {L : Addr} {m : Str → Option Value} {news : List (Addr × Obj)} {cost tx rx ex vm ct u0 u1 : Int} {m2 : Tok} {wx us md : Addr} {gl : Bool} {c0 c1 c2 c3 c5 k0 k1 k2 k3 k4 k5 k6 k7 d0 d1 : Tok} {wn un : Nat}
    (F : Fr g L s.heap m) (N : News g L s.heap news) (G : Gd w loose mean mg mb b) (stg : b.StaysIn g) (hA0 : A.handled = none) (hA3 : A.depth ≤ 830) (hA4 : A.units ≤ 4400)
    (hlt : @LT.lt Nat _ wx us)
    (hm : ∀ p ∈ [(wx, wO w tx rx ex vm us md ct gl c0 c1 c2 c3 c5 k0 k1 k2 k3 k4 k5 k6 k7 wn), (us, usO u0 u1 d0 d1 un)], p ∈ news)
    (hR : ∀ h' tks u0' u1' d0' d1' un' c5', u0' = (if gl = true then u0 else u0 + cost) → u1' = (if gl = true then u1 + cost else u1) → After s.heap h' [(wx, wO w tx rx ex vm us md (ct + 1) gl c0 c1 c2 c3 c5' k0 k1 k2 k3 k4 k5 k6 k7 wn), (us, usO u0' u1' d0' d1' un')] → Q .none ⟨h', s.gens, s.drawn, tks, s.os⟩)
    : wpAny (model PG w) A (call (.ref 392) [.ref wx, .int cost m2]) Q E s := by
  have st : b.StaysIn s.heap := fun a o e => F.keep _ _ (stg _ _ e)
  have D := led_of N stg hm
  exact wpAny_call (codeAny_room (counted_c (A := { depth := 830, units := 4400, frames := none, handled := none, guards := none }) st G hlt D rfl hR) hA0 hA3 (.inl rfl) rfl hA4)
theorem ofstr_w {E : Value → Shared → Prop} {Q : Value → Shared → Prop} {g : Heap} {L : Addr} {m : Str → Option Value} {news : List (Addr × Obj)} {x dx ba : Addr} {nb lv : Int} {tn tl p0 p1 p2 p3 : Tok} {pn : Nat} {gl : Bool} {y : Array UInt8}
    (F : Fr g L s.heap m) (N : News g L s.heap news) (G : Gd w loose mean mg mb b) (stg : b.StaysIn g) (hA0 : A.handled = none) (hA3 : A.depth ≤ 830) (hA4 : A.units ≤ 4400)
    (hm : ∀ p ∈ [(x, instObj 86 dx), (dx, textD w nb tn ba gl lv tl p0 p1 p2 p3 pn), (ba, baO y)], p ∈ news)
    (hz : y.size ≤ 1000)
    (hR : ∀ t dt sp ds h' tks tk tz ty q0 q1 q2 q3 n r0 r1 r2 rn, @LT.lt Nat _ ds sp → @LT.lt Nat _ sp dt → @LT.lt Nat _ dt t → After s.heap h' [] → New s.heap h' [(t, instObj 65 dt), (dt, thingD w "string" tk (.ref sp) (.bool false) (.int 3 236) q0 q1 q2 q3 n), (sp, instObj 161 ds), (ds, spanD w x (.int 0 tz) (.int y.size ty) r0 r1 r2 rn)] → Q (.ref t) ⟨h', s.gens, s.drawn, tks, s.os⟩)
    : wpAny (model PG w) A (call (.ref 202) [.ref x]) Q E s := by
  have st : b.StaysIn s.heap := fun a o e => F.keep _ _ (stg _ _ e)
  have D := led_of N stg hm
  exact wpAny_call (codeAny_room (ofstr_c (A := { depth := 830, units := 4400, frames := none, handled := none, guards := none }) st G D hz rfl hR) hA0 hA3 (.inl rfl) rfl hA4)
theorem ofrow_w {E : Value → Shared → Prop} {Q : Value → Shared → Prop} {g : Heap} {L : Addr} {m : Str → Option Value} {news : List (Addr × Obj)} {x dx l : Addr} {nb lv : Int} {tn tl p0 p1 p2 p3 : Tok} {pn c : Nat} {gl : Bool} {vs : List Value}
    (F : Fr g L s.heap m) (N : News g L s.heap news) (G : Gd w loose mean mg mb b) (stg : b.StaysIn g) (hA0 : A.handled = none) (hA3 : A.depth ≤ 830) (hA4 : A.units ≤ 4400)
    (hm : ∀ p ∈ [(x, instObj 107 dx), (dx, rowD w nb tn l gl lv tl p0 p1 p2 p3 pn), (l, listOf vs.toArray c)], p ∈ news)
    (hz : vs.length ≤ 1000)
    (hR : ∀ t dt sp ds h' tks tk tz ty q0 q1 q2 q3 n r0 r1 r2 rn, @LT.lt Nat _ ds sp → @LT.lt Nat _ sp dt → @LT.lt Nat _ dt t → After s.heap h' [] → New s.heap h' [(t, instObj 65 dt), (dt, thingD w "array" tk (.ref sp) (.bool false) (.int 3 236) q0 q1 q2 q3 n), (sp, instObj 161 ds), (ds, spanD w x (.int 0 tz) (.int vs.length ty) r0 r1 r2 rn)] → Q (.ref t) ⟨h', s.gens, s.drawn, tks, s.os⟩)
    : wpAny (model PG w) A (call (.ref 210) [.ref x]) Q E s := by
  have st : b.StaysIn s.heap := fun a o e => F.keep _ _ (stg _ _ e)
  have D := led_of N stg hm
  exact wpAny_call (codeAny_room (ofrow_c (A := { depth := 830, units := 4400, frames := none, handled := none, guards := none }) st G D hz rfl hR) hA0 hA3 (.inl rfl) rfl hA4)
theorem octspan_w {E : Value → Shared → Prop} {Q : Value → Shared → Prop} {g : Heap} {L : Addr} {m : Str → Option Value} {news : List (Addr × Obj)} {sp ds x dx ba : Addr} {nb lv : Int} {tz ty tn tl r0 r1 r2 p0 p1 p2 p3 : Tok} {rn pn : Nat} {gl : Bool} {y : Array UInt8}
    (F : Fr g L s.heap m) (N : News g L s.heap news) (G : Gd w loose mean mg mb b) (stg : b.StaysIn g) (hA0 : A.handled = none) (hA3 : A.depth ≤ 830) (hA4 : A.units ≤ 4400)
    (hm : ∀ p ∈ [(sp, instObj 161 ds), (ds, spanD w x (.int 0 tz) (.int y.size ty) r0 r1 r2 rn), (x, instObj 86 dx), (dx, textD w nb tn ba gl lv tl p0 p1 p2 p3 pn), (ba, baO y)], p ∈ news)
    (hz : y.size ≤ 1000)
    (hR : ∀ h' tks tk, After s.heap h' [] → Q (.bytes y tk) ⟨h', s.gens, s.drawn, tks, s.os⟩)
    : wpAny (model PG w) A (call (.ref 245) [.ref sp]) Q E s := by
  have st : b.StaysIn s.heap := fun a o e => F.keep _ _ (stg _ _ e)
  have D := led_of N stg hm
  exact wpAny_call (codeAny_room (octspan_c (A := { depth := 830, units := 4400, frames := none, handled := none, guards := none }) st G D hz rfl hR) hA0 hA3 (.inl rfl) rfl hA4)
theorem thgspan_w {E : Value → Shared → Prop} {Q : Value → Shared → Prop} {g : Heap} {L : Addr} {m : Str → Option Value} {news : List (Addr × Obj)} {sp ds x dx l : Addr} {nb lv : Int} {tz ty tn tl r0 r1 r2 p0 p1 p2 p3 : Tok} {rn pn c : Nat} {gl : Bool} {vs : List Value}
    (F : Fr g L s.heap m) (N : News g L s.heap news) (G : Gd w loose mean mg mb b) (stg : b.StaysIn g) (hA0 : A.handled = none) (hA3 : A.depth ≤ 830) (hA4 : A.units ≤ 4400)
    (hm : ∀ p ∈ [(sp, instObj 161 ds), (ds, spanD w x (.int 0 tz) (.int vs.length ty) r0 r1 r2 rn), (x, instObj 107 dx), (dx, rowD w nb tn l gl lv tl p0 p1 p2 p3 pn), (l, listOf vs.toArray c)], p ∈ news)
    (hz : vs.length ≤ 1000)
    (hR : ∀ l' c' h' tks, After s.heap h' [] → New s.heap h' [(l', listOf vs.toArray c')] → Q (.ref l') ⟨h', s.gens, s.drawn, tks, s.os⟩)
    : wpAny (model PG w) A (call (.ref 252) [.ref sp]) Q E s := by
  have st : b.StaysIn s.heap := fun a o e => F.keep _ _ (stg _ _ e)
  have D := led_of N stg hm
  exact wpAny_call (codeAny_room (thgspan_c (A := { depth := 830, units := 4400, frames := none, handled := none, guards := none }) st G D hz rfl hR) hA0 hA3 (.inl rfl) rfl hA4)
theorem draw_w {E : Value → Shared → Prop} {Q : Value → Shared → Prop} {g : Heap} {L : Addr} {m : Str → Option Value} {news : List (Addr × Obj)} {w : World} {A : Around} {b : Heap} {loose : List Str} {mean : ExcName → Option Value} {mg mb : Str → Option Value} {s : Shared}
   {dk cl : Addr} {k below : Int} {tk t1 t2 t3 : Tok} {n : Nat} {ns : List Int} {vs : List Value}
    (F : Fr g L s.heap m) (N : News g L s.heap news) (G : Gd w loose mean mg mb b) (stg : b.StaysIn g) (hA0 : A.handled = none) (hA3 : A.depth ≤ 900) (hA4 : A.units ≤ 5000)
    (hm : ∀ p ∈ [(dk, deckO w cl k tk t1 t2 n)], p ∈ news)
    (hl : s.heap.IsList cl vs.toArray)
    (hne : cl ≠ dk)
    (hv : IntsAre vs ns)
    (hlen : ns.length ≤ 60)
    (hk0 : 0 ≤ k)
    (hk1 : k < 1000)
    (hb0 : 0 < below)
    (hb1 : below < 200)
    (hR : ∀ r tk₁ tk₂ h' tks, 0 ≤ r → r < below → After s.heap h' [(dk, deckO w cl (k + 1) tk₂ t1 t2 n)] → Q (.int r tk₁) ⟨h', s.gens, s.drawn, tks, s.os⟩)
    : wpAny (model PG w) A (call (.ref 371) [.ref dk, .int below t3]) Q E s := by
  have st : b.StaysIn s.heap := fun a o e => F.keep _ _ (stg _ _ e)
  have D := led_of N stg hm
  exact wpAny_call (codeAny_room (draw_c (A := { depth := 900, units := 5000, frames := none, handled := none, guards := none }) st G D hl hne hv hlen hk0 hk1 hb0 hb1 rfl hR) hA0 hA3 (.inl rfl) rfl hA4)
end
open PySem.SeqAt in
theorem eqAt_bytes {A : Around} {s : Shared} (y : Array UInt8) (t u : Tok) : EqAt A s (.bytes y t) (.bytes y u) true := fun prog w E Q h => by
  unfold eqBool
  refine wpAny_holding ?_
  refine wpAny_ite_split (fun _ => ?_) (fun _ => ?_)
  · exact wpAny_bind (wpAny_rule (wpAny_pure h))
  · refine wpAny_bind ?_
    show wpAny _ _ (compareOp .Eq (.bytes y t) (.bytes y u)) _ _ _
    exact eq_bytes (by rw [beq_self_eq_true]; exact wpAny_truthy_bool h)
open PySem.SeqAt in
theorem rcAt_tups {A : Around} {s : Shared} {a b : Addr} {vs ws : Array Value} (h1 : s.heap.IsTuple a vs) (h2 : s.heap.IsTuple b ws) (hz : vs.size = ws.size) (hu : A.units < cLine)
    (he : ∀ j (k1 : j < vs.size) (k2 : j < ws.size), EqAt A.in1 s vs[j] ws[j] true) : RcAt A s (.ref a) (.ref b) true := by
  have := RcAt.tuples h1 h2 hu (e := fun _ => true) he
  have e : ((List.range (min vs.size ws.size)).all (fun _ => true) && vs.size == ws.size) = true := by simp [hz]
  rw [e] at this
  exact this
open PySem.SeqAt in
theorem eqAt_tups {A : Around} {s : Shared} {a b : Addr} {vs ws : Array Value} (h1 : s.heap.IsTuple a vs) (h2 : s.heap.IsTuple b ws) (hz : vs.size = ws.size) (hu : A.units < cLine)
    (he : ∀ j (k1 : j < vs.size) (k2 : j < ws.size), EqAt A.in1 s vs[j] ws[j] true) : EqAt A s (.ref a) (.ref b) true := by
  by_cases q : a = b
  · subst q; exact EqAt.same _
  · exact EqAt.of_refs q (rcAt_tups h1 h2 hz hu he)
open PySem.SeqAt in
theorem eq_lists {prog : Program} {w : World} {A : Around} {E : Value → Shared → Prop} {s : Shared} {a b : Addr} {vs ws : Array Value} {Q : Value → Shared → Prop} (h1 : s.heap.IsList a vs) (h2 : s.heap.IsList b ws) (hz : vs.size = ws.size) (hu : A.units < cLine)
    (he : ∀ j (k1 : j < vs.size) (k2 : j < ws.size), EqAt A.in1 s vs[j] ws[j] true) (h : Q (.bool true) s) : wpAny (model prog w) A (compareOp .Eq (.ref a) (.ref b)) Q E s := by
  have := RcAt.lists h1 h2 hz hu (e := fun _ => true) he
  have e : (List.range vs.size).all (fun _ => true) = true := by simp
  rw [e] at this
  exact this prog w E Q h
theorem isTup_of {g h : Heap} {L a : Addr} {news : List (Addr × Obj)} {vs : List Value} (N : News g L h news) (hm : (a, tupO vs) ∈ news) : h.IsTuple a vs.toArray := ⟨_, (N _ hm).1, rfl, _, rfl⟩
open PySem.SeqAt in
theorem eq_bad {prog : Program} {w : World} {A : Around} {E : Value → Shared → Prop} {s : Shared} {g : Heap} {L a b : Addr} {news : List (Addr × Obj)} {y : Array UInt8} {t u : Tok} {Q : Value → Shared → Prop} (N : News g L s.heap news) (h1 : (a, tupO [.bool false, .bytes y t]) ∈ news) (h2 : (b, tupO [.bool false, .bytes y u]) ∈ news) (hu : A.units < cLine)
    (h : Q (.bool true) s) : wpAny (model prog w) A (compareOp .Eq (.ref a) (.ref b)) Q E s := by
  refine rcAt_tups (isTup_of N h1) (isTup_of N h2) rfl hu (fun j k1 k2 => ?_) prog w E Q h
  have : j = 0 ∨ j = 1 := by simp at k1; omega
  rcases this with rfl | rfl
  · exact EqAt.same _
  · exact eqAt_bytes y t u
structure NeA (a b : Nat) : Prop where
  mk :: (ne : a ≠ b)
section
variable {b0 mk mx lx lm sv mm dk cl wx us md L1 lm0 sz L' : Nat}
end
theorem kwF4linesm1 : True := by
  k_with "my ne" => (first | exact NeA.out (by assumption) | exact NeA.out' (by assumption) | exact Nat.ne_of_lt (Nat.lt_trans (by assumption : _ < L') (by assumption)) | exact (Nat.ne_of_lt (Nat.lt_trans (by assumption : _ < L') (by assumption))).symm | k_ne)
  k_with "my nes" => first | exact List.forall_mem_nil _ | (refine' allc ?ax730 ?bx730; (case ax730 => walk_at "my ne"); (case bx730 => walk_at "my nes"))
  k_with "my updd" => first | exact UpdM.nil | (refine' UpdM.keep ?axa4f ?bxa4f; (case axa4f => walk_at "my nes"); (case bxa4f => walk_at "my updd")) | (refine' UpdM.upd ?axa4f ?bxa4f; (case axa4f => k_mem); (case bxa4f => walk_at "my updd"))
  k_with "my same" => ((rename After _ _ _ => myA); (rename Fr _ _ _ _ => myF); (rename News _ _ _ _ => myN); k_dflt (refine' same_go myF myN myA ?_); clear myA; intro F' N'; (have ck' := Fr.keep F'); clear ck'; (try k_sweep))
  k_with "my went" => ((rename After _ _ _ => myA); (rename Fr _ _ _ _ => myF); (rename News _ _ _ _ => myN); k_dflt (refine' upd_go myF myN myA ?ux0bf ?cx0bf ?_; (case ux0bf => walk_at "my updd"); (case cx0bf => walk_at "my subo")); clear myA; intro F' N'; (try dsimp only at N'); (have ck' := Fr.keep F'); clear ck'; (try k_sweep))
  k_with "my st" => (first | exact fun _ _ e => e | exact Got.st (by assumption) | exact Fr.keep (by assumption))
  k_with "call ref" => (k_here; (with_reducible show wpAny _ _ (call (Value.ref 392) _) _ _ _); k_dflt (refine' counted_w ?Fx75e ?Nx75e ?Gx75e ?stx75e ?a0x75e ?a3x75e ?a4x75e ?ox75e ?hmx75e ?_; (case Fx75e => k_asm); (case Nx75e => k_asm); (case Gx75e => assumption); (case stx75e => walk_at "my st"); (case a0x75e => exact rfl); (case a3x75e => exact Nat.le_of_ble_eq_true rfl); (case a4x75e => exact Nat.le_of_ble_eq_true rfl); (case ox75e => assumption); (case hmx75e => walk_at "my sub"); k_whole); intro h' tks' u0' u1' d0' d1' un' c5' e1' e2' af'; walk_at "my went")
  exact trivial

section
variable {w : World} {A : Around} {R : Result → Shared → Prop} {s : Shared} {b : Heap} {loose : List Str} {mean : ExcName → Option Value} {mg mb : Str → Option Value}
set_option maxRecDepth 100000
set_option maxHeartbeats 4000000
theorem kwF4f41 : True := by
  k_with "getAttr ref" => (k_here; (first | (with_reducible show wpAny _ _ (getAttr (Value.ref _) (Str.ofString "number") _) _ _ _) | (with_reducible show wpAny _ _ (getAttr (Value.ref _) (Str.ofString "is_global") _) _ _ _) | (with_reducible show wpAny _ _ (getAttr (Value.ref _) (Str.ofString "level") _) _ _ _)); walk_at "my lim")
  k_with "compareOp Eq ref ref" => (k_here; (with_reducible show wpAny _ _ (compareOp CmpOp.Eq (Value.ref _) (Value.ref _)) _ _ _); k_dflt (refine' eq_bad ?Nxf90 ?m1xf90 ?m2xf90 ?uxf90 ?_; (case Nxf90 => k_asm); (case m1xf90 => k_mem); (case m2xf90 => k_mem); (case uxf90 => exact Nat.le_of_ble_eq_true rfl); k_whole))
  exact trivial
theorem bright_bad {wx mkv : Value} {tp : Addr} {y : Array UInt8} {ty tf tc : Tok} {cost : Int} (st : b.StaysIn s.heap) (G : Gd w loose mean mg mb b)
    (D : Led b s.heap [(tp, tupO [.bool false, .bytes y ty])])
    (hA : A = { depth := 820, units := 4300, frames := none, handled := none, guards := none })
    (hR : ∀ h' tks, After s.heap h' [] → R (.ok (.ret (.bool true))) ⟨h', s.gens, s.drawn, tks, s.os⟩) :
    codeAny (model PG w) A (.call (.ref 399) ⟨[wx, mkv, .ref tp, .bytes y tf, .int cost tc], []⟩) R s := by
  subst hA
  refine' enterE (binds := [(Str.ofString "w", wx), (Str.ofString "maker", mkv), (Str.ofString "told", .ref tp), (Str.ofString "fault", .bytes y tf), (Str.ofString "cost", .int cost tc)]) st G D ?k6 ?k7 ?k8 ?k9 ?kB ?_ ?c2 ?c3 ?c4 ?c5
  walk_at "my enter"
  intro g L' h' Z F' N'
  have G' := G.keeps Z.st
  have ⟨X', T', _, _, _, _, _⟩ := G'
  walk_at "my go"
  (rename Fr _ _ _ _ => F9); (rename News _ _ _ _ => N9)
  exact hR _ _ (after_part F9 N9 Z (fun _ hp => (nomatch hp)) (by walk_at "my part"))
end
noncomputable section
namespace K_bright_ok
def KP (w : World) (R : Result → Shared → Prop) (s : Shared) (b : Heap) (loose : List Str) (mean : ExcName → Option Value) (mg mb : Str → Option Value) (cost tx rx ex vm ct u0 u1 : Int) (tc : Tok) (mkv : Value) (wx us md tp x dx : Addr) (gl : Bool) (c0 c1 c2 c3 c5 k0 k1 k2 k3 k4 k5 k6 k7 d0 d1 tn tl : Tok) (wn un bn : Nat) (bs : List DictEntry) : Prop := ∀ {A : Around} {C : Addr} (st : b.StaysIn s.heap) (G : Gd w loose mean mg mb b) (hlt : @LT.lt Nat _ wx us ∧ @LT.lt Nat _ us dx ∧ @LT.lt Nat _ dx x ∧ @LT.lt Nat _ x tp) (hC : C = 86 ∨ C = 107 ∨ C = 140) (hk : KeysLit w.params bs) (h1 : getL (Str.ofString "number") bs = some (some (.int (ct + 1) tn))) (h2 : getL (Str.ofString "is_global") bs = some (some (.bool gl))) (h3 : getL (Str.ofString "level") bs = some (some (.int 0 tl))) (D : Led b s.heap [(tp, tupO [.bool true, .ref x]), (x, instObj C dx), (dx, dictOf bs bn), (wx, wO w tx rx ex vm us md ct gl c0 c1 c2 c3 c5 k0 k1 k2 k3 k4 k5 k6 k7 wn), (us, usO u0 u1 d0 d1 un)]) (hA : A = { depth := 820, units := 4300, frames := none, handled := none, guards := none }) (hR : ∀ h' tks u0' u1' d0' d1' un' c5', u0' = (if gl = true then u0 else u0 + cost) → u1' = (if gl = true then u1 + cost else u1) → After s.heap h' [(wx, wO w tx rx ex vm us md (ct + 1) gl c0 c1 c2 c3 c5' k0 k1 k2 k3 k4 k5 k6 k7 wn), (us, usO u0' u1' d0' d1' un')] → R (.ok (.ret (.bool true))) ⟨h', s.gens, s.drawn, tks, s.os⟩), codeAny (model PG w) A (.call (.ref 399) ⟨[.ref wx, mkv, .ref tp, .none, .int cost tc], []⟩) R s
def KT (x : (World × (Result → Shared → Prop) × Shared × Heap × List Str × (ExcName → Option Value)) × ((Str → Option Value) × (Str → Option Value) × Int × Int × Int × Int) × (Int × Int × Int × Int × Tok × Value) × (Addr × Addr × Addr × Addr × Addr × Addr) × (Bool × Tok × Tok × Tok × Tok × Tok) × (Tok × Tok × Tok × Tok × Tok × Tok) × (Tok × Tok × Tok × Tok × Tok × Tok) × (Nat × Nat × Nat × List DictEntry)) : Prop := KP x.1.1 x.1.2.1 x.1.2.2.1 x.1.2.2.2.1 x.1.2.2.2.2.1 x.1.2.2.2.2.2 x.2.1.1 x.2.1.2.1 x.2.1.2.2.1 x.2.1.2.2.2.1 x.2.1.2.2.2.2.1 x.2.1.2.2.2.2.2 x.2.2.1.1 x.2.2.1.2.1 x.2.2.1.2.2.1 x.2.2.1.2.2.2.1 x.2.2.1.2.2.2.2.1 x.2.2.1.2.2.2.2.2 x.2.2.2.1.1 x.2.2.2.1.2.1 x.2.2.2.1.2.2.1 x.2.2.2.1.2.2.2.1 x.2.2.2.1.2.2.2.2.1 x.2.2.2.1.2.2.2.2.2 x.2.2.2.2.1.1 x.2.2.2.2.1.2.1 x.2.2.2.2.1.2.2.1 x.2.2.2.2.1.2.2.2.1 x.2.2.2.2.1.2.2.2.2.1 x.2.2.2.2.1.2.2.2.2.2 x.2.2.2.2.2.1.1 x.2.2.2.2.2.1.2.1 x.2.2.2.2.2.1.2.2.1 x.2.2.2.2.2.1.2.2.2.1 x.2.2.2.2.2.1.2.2.2.2.1 x.2.2.2.2.2.1.2.2.2.2.2 x.2.2.2.2.2.2.1.1 x.2.2.2.2.2.2.1.2.1 x.2.2.2.2.2.2.1.2.2.1 x.2.2.2.2.2.2.1.2.2.2.1 x.2.2.2.2.2.2.1.2.2.2.2.1 x.2.2.2.2.2.2.1.2.2.2.2.2 x.2.2.2.2.2.2.2.1 x.2.2.2.2.2.2.2.2.1 x.2.2.2.2.2.2.2.2.2.1 x.2.2.2.2.2.2.2.2.2.2
theorem Kex : ∃ x, KT x → ∀ y, KT y := drink ((anyW, (fun _ _ => True), {}, default, default, default), (default, default, default, default, default, default), (default, default, default, default, default, default), (default, default, default, default, default, default), (default, default, default, default, default, default), (default, default, default, default, default, default), (default, default, default, default, default, default), (default, default, default, default)) _
@[irreducible] def Kx0 := Classical.choose Kex
@[irreducible] def w := Kx0.1.1
@[irreducible] def R := Kx0.1.2.1
@[irreducible] def s := Kx0.1.2.2.1
@[irreducible] def b := Kx0.1.2.2.2.1
@[irreducible] def loose := Kx0.1.2.2.2.2.1
@[irreducible] def mean := Kx0.1.2.2.2.2.2
@[irreducible] def mg := Kx0.2.1.1
@[irreducible] def mb := Kx0.2.1.2.1
@[irreducible] def cost := Kx0.2.1.2.2.1
@[irreducible] def tx := Kx0.2.1.2.2.2.1
@[irreducible] def rx := Kx0.2.1.2.2.2.2.1
@[irreducible] def ex := Kx0.2.1.2.2.2.2.2
@[irreducible] def vm := Kx0.2.2.1.1
@[irreducible] def ct := Kx0.2.2.1.2.1
@[irreducible] def u0 := Kx0.2.2.1.2.2.1
@[irreducible] def u1 := Kx0.2.2.1.2.2.2.1
@[irreducible] def tc := Kx0.2.2.1.2.2.2.2.1
@[irreducible] def mkv := Kx0.2.2.1.2.2.2.2.2
@[irreducible] def wx := Kx0.2.2.2.1.1
@[irreducible] def us := Kx0.2.2.2.1.2.1
@[irreducible] def md := Kx0.2.2.2.1.2.2.1
@[irreducible] def tp := Kx0.2.2.2.1.2.2.2.1
@[irreducible] def x := Kx0.2.2.2.1.2.2.2.2.1
@[irreducible] def dx := Kx0.2.2.2.1.2.2.2.2.2
@[irreducible] def gl := Kx0.2.2.2.2.1.1
@[irreducible] def c0 := Kx0.2.2.2.2.1.2.1
@[irreducible] def c1 := Kx0.2.2.2.2.1.2.2.1
@[irreducible] def c2 := Kx0.2.2.2.2.1.2.2.2.1
@[irreducible] def c3 := Kx0.2.2.2.2.1.2.2.2.2.1
@[irreducible] def c5 := Kx0.2.2.2.2.1.2.2.2.2.2
@[irreducible] def k0 := Kx0.2.2.2.2.2.1.1
@[irreducible] def k1 := Kx0.2.2.2.2.2.1.2.1
@[irreducible] def k2 := Kx0.2.2.2.2.2.1.2.2.1
@[irreducible] def k3 := Kx0.2.2.2.2.2.1.2.2.2.1
@[irreducible] def k4 := Kx0.2.2.2.2.2.1.2.2.2.2.1
@[irreducible] def k5 := Kx0.2.2.2.2.2.1.2.2.2.2.2
@[irreducible] def k6 := Kx0.2.2.2.2.2.2.1.1
@[irreducible] def k7 := Kx0.2.2.2.2.2.2.1.2.1
@[irreducible] def d0 := Kx0.2.2.2.2.2.2.1.2.2.1
@[irreducible] def d1 := Kx0.2.2.2.2.2.2.1.2.2.2.1
@[irreducible] def tn := Kx0.2.2.2.2.2.2.1.2.2.2.2.1
@[irreducible] def tl := Kx0.2.2.2.2.2.2.1.2.2.2.2.2
@[irreducible] def wn := Kx0.2.2.2.2.2.2.2.1
@[irreducible] def un := Kx0.2.2.2.2.2.2.2.2.1
@[irreducible] def bn := Kx0.2.2.2.2.2.2.2.2.2.1
@[irreducible] def bs := Kx0.2.2.2.2.2.2.2.2.2.2
set_option maxRecDepth 100000
set_option maxHeartbeats 4000000
@[irreducible] def g : Heap := hideAll s.heap ([tp,x,dx,wx,us])
@[irreducible] def L' : Addr := s.heap.objs.size
theorem KgE {C : Addr} : g = hideAll s.heap (([(tp, tupO [.bool true, .ref x]), (x, instObj C dx), (dx, dictOf bs bn), (wx, wO w tx rx ex vm us md ct gl c0 c1 c2 c3 c5 k0 k1 k2 k3 k4 k5 k6 k7 wn), (us, usO u0 u1 d0 d1 un)] : List (Addr × Obj)).map (·.1)) := by with_unfolding_all rfl
theorem KlE : L' = s.heap.objs.size := by with_unfolding_all rfl
theorem at0 : KP w R s b loose mean mg mb cost tx rx ex vm ct u0 u1 tc mkv wx us md tp x dx gl c0 c1 c2 c3 c5 k0 k1 k2 k3 k4 k5 k6 k7 d0 d1 tn tl wn un bn bs := by
  intro A C st G hlt hC hk h1 h2 h3 D hA hR
  subst hA
  obtain ⟨l1, l2, l3, l4⟩ := hlt
  rcases hC with rfl | rfl | rfl
  all_goals
    refine' enterE' KgE KlE (binds := [(Str.ofString "w", .ref wx), (Str.ofString "maker", mkv), (Str.ofString "told", .ref tp), (Str.ofString "fault", .none), (Str.ofString "cost", .int cost tc)]) st G D ?k6 ?k7 ?k8 ?k9 ?kB ?_ ?c2 ?c3 ?c4 ?c5
    walk_at "my enter"
    intro h' Z F' N'
    have G' := G.keeps Z.st
    have ⟨X', T', _, _, _, _, _⟩ := G'
    walk_at "my go"
    · (rename Fr _ _ _ _ => F9); (rename News _ _ _ _ => N9)
      refine' hR _ _ _ _ _ _ _ _ ?e1 ?e2 (after_part F9 N9 Z ?c ?l)
      case c => walk_at "my sub"
      case l => walk_at "my part"
      case e1 => assumption
      case e2 => assumption
    · exfalso; simp_all
    · exfalso; simp_all
end K_bright_ok
end
theorem bright_ok {w : World} {R : Result → Shared → Prop} {s : Shared} {b : Heap} {loose : List Str} {mean : ExcName → Option Value} {mg mb : Str → Option Value} {cost tx rx ex vm ct u0 u1 : Int} {tc : Tok} {mkv : Value} {wx us md tp x dx : Addr} {gl : Bool} {c0 c1 c2 c3 c5 k0 k1 k2 k3 k4 k5 k6 k7 d0 d1 tn tl : Tok} {wn un bn : Nat} {bs : List DictEntry} : K_bright_ok.KP w R s b loose mean mg mb cost tx rx ex vm ct u0 u1 tc mkv wx us md tp x dx gl c0 c1 c2 c3 c5 k0 k1 k2 k3 k4 k5 k6 k7 d0 d1 tn tl wn un bn bs :=
  @Classical.choose_spec _ _ K_bright_ok.Kex (by with_unfolding_all exact @K_bright_ok.at0) ((w, R, s, b, loose, mean), (mg, mb, cost, tx, rx, ex), (vm, ct, u0, u1, tc, mkv), (wx, us, md, tp, x, dx), (gl, c0, c1, c2, c3, c5), (k0, k1, k2, k3, k4, k5), (k6, k7, d0, d1, tn, tl), (wn, un, bn, bs))
section
end
section
variable {w : World} {A : Around} {R : Result → Shared → Prop} {s : Shared} {b : Heap} {loose : List Str} {mean : ExcName → Option Value} {mg mb : Str → Option Value}
set_option maxRecDepth 100000
theorem bright_bad_w {E : Value → Shared → Prop} {Q : Value → Shared → Prop} {g : Heap} {L : Addr} {m : Str → Option Value} {news : List (Addr × Obj)} {wx mkv : Value} {tp : Addr} {y : Array UInt8} {ty tf tc : Tok} {cost : Int}
    (F : Fr g L s.heap m) (N : News g L s.heap news) (G : Gd w loose mean mg mb b) (stg : b.StaysIn g) (hA0 : A.handled = none) (hA3 : A.depth ≤ 820) (hA4 : A.units ≤ 4300)
    (hm : ∀ p ∈ [(tp, tupO [.bool false, .bytes y ty])], p ∈ news)
    (hR : ∀ h' tks, After s.heap h' [] → Q (.bool true) ⟨h', s.gens, s.drawn, tks, s.os⟩)
    : wpAny (model PG w) A (call (.ref 399) [wx, mkv, .ref tp, .bytes y tf, .int cost tc]) Q E s := by
  have st : b.StaysIn s.heap := fun a o e => F.keep _ _ (stg _ _ e)
  have D := led_of N stg hm
  exact wpAny_call (codeAny_room (bright_bad (A := { depth := 820, units := 4300, frames := none, handled := none, guards := none }) st G D rfl hR) hA0 hA3 (.inl rfl) rfl hA4)
end
def TabOK (lim : Nat) (h : Heap) (q : Str) (ps : Array Value) : Prop :=
  TriplesOk ps.toList ∧ ∀ pos c, codeAmong pos ps.toList = some c → ∃ c' oc vs t, c = .ref c' ∧ h.get? c' = some oc ∧ lim ≤ c' ∧ oc.data = .fields vs ∧ vs[1]? = some (.str q t)
def TabX (lim : Nat) (g : Heap) (q : Str) (cx : Addr) (ox : Obj) (ps : Array Value) : Prop :=
  TriplesOk ps.toList ∧ ∀ pos c, codeAmong pos ps.toList = some c → ∃ c' oc vs t, c = .ref c' ∧ (g.get? c' = some oc ∨ c' = cx ∧ oc = ox) ∧ lim ≤ c' ∧ oc.data = .fields vs ∧ vs[1]? = some (.str q t)
theorem among_snoc {pos pos' : Pos} {c d : Value} : ∀ (l : List Value), TriplesOk l → codeAmong pos' (l ++ [rawInt pos.line, rawInt pos.col, c]) = some d → codeAmong pos' l = some d ∨ d = c := by
  intro l h
  fun_induction TriplesOk l with
  | case1 =>
    intro e
    simp only [List.nil_append, codeAmong, rawInt] at e
    split at e
    · exact .inr (Option.some.inj e).symm
    · cases e
  | case2 a' t b' u x rest ih =>
    intro e
    simp only [List.cons_append, codeAmong] at e ⊢
    split at e
    · rename_i hc; rw [if_pos hc]; exact .inl e
    · rename_i hc; rw [if_neg hc]; exact ih h e
  | case3 l h1 h2 => exact h.elim
noncomputable section
namespace K_my_lambda
def KP (M : Model) (E : Value → Shared → Prop) (s : Shared) (h₀ : Heap) (L a c P : Addr) (m mg mb : Str → Option Value) (cn : Str) (cs : Scope) (ccd : Value) (cl : List (Str × Addr)) (news : List (Addr × Obj)) (g : Obj → List (Addr × Obj)) (p : Program) (loose : List Str) (mean : ExcName → Option Value) (name qual : Str) (params : Arguments) (body : Expr) (scope : Scope) (ps : Array Value) (pos : Pos) (firstLine : Nat) (clos : List (Str × Addr)) (lim : Nat) (Q : Value → Shared → Prop) : Prop := ∀ {A : Around} (F : Fr h₀ L s.heap m) (N : News h₀ L s.heap news) (T : Top p loose mean mg mb h₀) (C : CodeHd h₀ c P) (hcd : ccd = .ref c) (U : UpdF P (tabObj ps) news g) (TO : TabOK lim h₀ qual ps) (hL : lim ≤ L) (hr : ∃ r ∈ news, @LT.lt Nat _ L r.1) (hcl : closureFor scope (envX cn cs L a ccd cl) = pure clos) (h : ∀ f c' ctv ps' cx ox h' tk, Fr h₀ L h' m → News h₀ L h' ((f, kla_obj name qual params body scope clos ((mg "__name__").getD .none) c' ctv) :: (cx, ox) :: g (tabObj ps')) → h'.CodeRec (.ref c') qual → TabX lim h₀ qual cx ox ps' →
      (∀ q ∈ news, q.1 < cx) → (∀ q ∈ news, q.1 < f) → @LT.lt Nat _ L cx → @LT.lt Nat _ L f → Q (.ref f) { s with heap := h', toks := tk }), wpAny M A (makeFunction name qual params (.expr body) scope (envX cn cs L a ccd cl) [] [] [] pos firstLine) Q E s
def KT (x : (Model × (Value → Shared → Prop) × Shared × Heap × Addr × Addr) × (Addr × Addr × (Str → Option Value) × (Str → Option Value) × (Str → Option Value) × Str) × (Scope × Value × (List (Str × Addr)) × (List (Addr × Obj)) × (Obj → List (Addr × Obj)) × Program) × (List Str × (ExcName → Option Value) × Str × Str × Arguments × Expr) × (Scope × Array Value × Pos × Nat × (List (Str × Addr)) × Nat) × (Value → Shared → Prop)) : Prop := KP x.1.1 x.1.2.1 x.1.2.2.1 x.1.2.2.2.1 x.1.2.2.2.2.1 x.1.2.2.2.2.2 x.2.1.1 x.2.1.2.1 x.2.1.2.2.1 x.2.1.2.2.2.1 x.2.1.2.2.2.2.1 x.2.1.2.2.2.2.2 x.2.2.1.1 x.2.2.1.2.1 x.2.2.1.2.2.1 x.2.2.1.2.2.2.1 x.2.2.1.2.2.2.2.1 x.2.2.1.2.2.2.2.2 x.2.2.2.1.1 x.2.2.2.1.2.1 x.2.2.2.1.2.2.1 x.2.2.2.1.2.2.2.1 x.2.2.2.1.2.2.2.2.1 x.2.2.2.1.2.2.2.2.2 x.2.2.2.2.1.1 x.2.2.2.2.1.2.1 x.2.2.2.2.1.2.2.1 x.2.2.2.2.1.2.2.2.1 x.2.2.2.2.1.2.2.2.2.1 x.2.2.2.2.1.2.2.2.2.2 x.2.2.2.2.2
theorem Kex : ∃ x, KT x → ∀ y, KT y := drink (((model PG anyW), (fun _ _ => True), {}, default, default, default), (default, default, default, default, default, default), (default, default, default, default, default, default), (default, default, default, default, default, default), (default, default, default, default, default, default), (fun _ _ => True)) _
@[irreducible] def Kx0 := Classical.choose Kex
@[irreducible] def M := Kx0.1.1
@[irreducible] def E := Kx0.1.2.1
@[irreducible] def s := Kx0.1.2.2.1
@[irreducible] def h₀ := Kx0.1.2.2.2.1
@[irreducible] def L := Kx0.1.2.2.2.2.1
@[irreducible] def a := Kx0.1.2.2.2.2.2
@[irreducible] def c := Kx0.2.1.1
@[irreducible] def P := Kx0.2.1.2.1
@[irreducible] def m := Kx0.2.1.2.2.1
@[irreducible] def mg := Kx0.2.1.2.2.2.1
@[irreducible] def mb := Kx0.2.1.2.2.2.2.1
@[irreducible] def cn := Kx0.2.1.2.2.2.2.2
@[irreducible] def cs := Kx0.2.2.1.1
@[irreducible] def ccd := Kx0.2.2.1.2.1
@[irreducible] def cl := Kx0.2.2.1.2.2.1
@[irreducible] def news := Kx0.2.2.1.2.2.2.1
@[irreducible] def g := Kx0.2.2.1.2.2.2.2.1
@[irreducible] def p := Kx0.2.2.1.2.2.2.2.2
@[irreducible] def loose := Kx0.2.2.2.1.1
@[irreducible] def mean := Kx0.2.2.2.1.2.1
@[irreducible] def name := Kx0.2.2.2.1.2.2.1
@[irreducible] def qual := Kx0.2.2.2.1.2.2.2.1
@[irreducible] def params := Kx0.2.2.2.1.2.2.2.2.1
@[irreducible] def body := Kx0.2.2.2.1.2.2.2.2.2
@[irreducible] def scope := Kx0.2.2.2.2.1.1
@[irreducible] def ps := Kx0.2.2.2.2.1.2.1
@[irreducible] def pos := Kx0.2.2.2.2.1.2.2.1
@[irreducible] def firstLine := Kx0.2.2.2.2.1.2.2.2.1
@[irreducible] def clos := Kx0.2.2.2.2.1.2.2.2.2.1
@[irreducible] def lim := Kx0.2.2.2.2.1.2.2.2.2.2
@[irreducible] def Q := Kx0.2.2.2.2.2
set_option maxRecDepth 100000
set_option maxHeartbeats 4000000
theorem at0 : KP M E s h₀ L a c P m mg mb cn cs ccd cl news g p loose mean name qual params body scope ps pos firstLine clos lim Q := by
  intro A F N T C hcd U TO hL hr hcl h
  obtain ⟨r, hr, hLr⟩ := hr
  obtain ⟨pre, post, e1, e2, k1, k2⟩ := U.split
  cases hq : codeAmong pos ps.toList with
  | none =>
    refine kla_nest F N T C hcd U TO.1 hq hcl fun f c' oc vs t ctv h' tk F' N' d1 d2 l1 l2 => ?_
    have hLc : @LT.lt Nat _ L c' := Nat.lt_trans hLr (l1 r hr)
    refine h f c' ctv _ c' oc h' tk F' N' ⟨c', oc, vs, t, rfl, (N' _ (.tail _ (.head _))).1, d1, d2⟩ ⟨?_, fun pos' d e => ?_⟩ l1 (fun q hq => Nat.lt_trans (l1 q hq) l2) hLc (Nat.lt_trans hLc l2)
    · rw [Array.toList_append]; exact TriplesOk_snoc _ _ _ _ TO.1
    · rw [Array.toList_append] at e
      rcases among_snoc _ TO.1 e with e | rfl
      · obtain ⟨c2, oc2, vs2, t2, rfl, z1, z2⟩ := TO.2 _ _ e
        exact ⟨c2, oc2, vs2, t2, rfl, .inl z1, z2⟩
      · exact ⟨c', oc, vs, t, rfl, .inr ⟨rfl, rfl⟩, Nat.le_trans hL (Nat.le_of_lt hLc), d1, d2⟩
  | some d =>
    obtain ⟨c', oc, vs, t, rfl, z1, z2, z3, z4⟩ := TO.2 _ _ hq
    have hm : (P, tabObj ps) ∈ news := by rw [e1]; exact List.mem_append_right _ (.head _)
    have hg : g (tabObj ps) = news := by rw [e2, e1]
    refine kla_hit F N T C hcd hm TO.1 hq hcl fun f ctv h' tk F' N' l1 => ?_
    have hLf : @LT.lt Nat _ L f := Nat.lt_trans hLr (l1 r hr)
    refine h f c' ctv ps f (kla_obj name qual params body scope clos ((mg "__name__").getD .none) c' ctv) h' tk F' (fun p hp => ?_) ⟨c', oc, vs, t, rfl, F'.keep _ _ z1, z3, z4⟩ ⟨TO.1, fun pos' d e => ?_⟩ l1 l1 hLf hLf
    · rcases List.mem_cons.mp hp with rfl | hp
      · exact N' _ (.head _)
      · rcases List.mem_cons.mp hp with rfl | hp
        · exact N' _ (.head _)
        · rw [hg] at hp; exact N' _ (.tail _ hp)
    · obtain ⟨c2, oc2, vs2, t2, rfl, y1, y2⟩ := TO.2 _ _ e
      exact ⟨c2, oc2, vs2, t2, rfl, .inl y1, y2⟩
end K_my_lambda
end
theorem my_lambda {M : Model} {E : Value → Shared → Prop} {s : Shared} {h₀ : Heap} {L a c P : Addr} {m mg mb : Str → Option Value} {cn : Str} {cs : Scope} {ccd : Value} {cl : List (Str × Addr)} {news : List (Addr × Obj)} {g : Obj → List (Addr × Obj)} {p : Program} {loose : List Str} {mean : ExcName → Option Value} {name qual : Str} {params : Arguments} {body : Expr} {scope : Scope} {ps : Array Value} {pos : Pos} {firstLine : Nat} {clos : List (Str × Addr)} {lim : Nat} {Q : Value → Shared → Prop} : K_my_lambda.KP M E s h₀ L a c P m mg mb cn cs ccd cl news g p loose mean name qual params body scope ps pos firstLine clos lim Q :=
  @Classical.choose_spec _ _ K_my_lambda.Kex (by with_unfolding_all exact @K_my_lambda.at0) ((M, E, s, h₀, L, a), (c, P, m, mg, mb, cn), (cs, ccd, cl, news, g, p), (loose, mean, name, qual, params, body), (scope, ps, pos, firstLine, clos, lim), Q)
section
end
section
variable {prog : Program} {w : World} {A : Around} {s : Shared} {b : Heap} {fl : List Env} {led : List (Addr × Obj)} {loose : List Str} {mean : ExcName → Option Value} {mg mb : Str → Option Value}
  {R : Result → Shared → Prop} {name qual : Str} {params : Arguments} {body : Expr} {scope : Scope} {pm ctv : Value} {c' f : Addr} {cl : List (Str × Addr)} {args : Args} {binds : List (Str × Value)}
theorem enterL (k : b.StaysIn s.heap) (G : Gd w loose mean mg mb b) (D : Led b s.heap led)
    (ho : s.heap.get? f = some (kla_obj name qual params body scope cl pm c' ctv)) (hcd : s.heap.CodeRec (.ref c') qual) (hroom : A.depth < recursionLimit)
    (hbind : bindArgs (kla_fn name qual params body scope cl pm (.ref c') ctv) args = pure binds) (hloc : ∀ y ∈ binds, scope.names.lookup y.1 = some .local)
    (h : ∀ g L' h₁, Got b s.heap g led L' → Fr g L' h₁ (lo binds.reverse) → News g L' h₁ led →
      wpC (model prog w) (A.deeper (envX qual scope L' f (.ref c') cl)) (eval body (envX qual scope L' f (.ref c') cl))
        (fun v s' => R (.ok (.ret v)) s')
        (fun e s' => wpAny (model prog w) (A.deeper (envX qual scope L' f (.ref c') cl)) (leaving (envX qual scope L' f (.ref c') cl) e) (fun _ s'' => R (.error e) s'') (fun e' s'' => R (.error e') s'') s')
        { s with heap := h₁, toks := s.toks + binds.length })
    (hco : scope.isCoroutine = false) (hgen : scope.isGenerator = false) (hk : scope.kind = .function)
    (hcell : ∀ x ∈ scope.names, x.2 ≠ .cell) : codeC (model prog w) A (.call (.ref f) args) R s := by
  have hlim := G.T.nolimit.keeps k
  refine codeC_call_expr hroom ho rfl hco hgen rfl hcd ?_
  rw [hbind]
  refine wpAny_pure (wpAny_newFunctionEnv hcell hloc (fun h₁ hns₁ hsb₁ => ⟨hlim.fresh _ hsb₁, codeC_expr ?_⟩) hk)
  have hk₁ : ∀ b o, s.heap.get? b = some o → h₁.get? b = some o := fun b o e => hsb₁.extBut b o (Nat.ne_of_lt (Heap.lt_size e)) (Heap.get?_push_of_some _ e)
  exact h _ s.heap.objs.size h₁ (got_hide k D) ⟨hns₁, fun b o e => hk₁ b o (of_hideAll _ e), Nat.le_of_eq (hideAll_size _ _)⟩
    (fun p hp => ⟨hk₁ _ _ (D p hp).1, Nat.ne_of_lt (Heap.lt_size (D p hp).1), hideAll_none _ (List.mem_map_of_mem hp)⟩)
end
structure AfterX (L : Addr) (h h' : Heap) (chg : List (Addr × Obj)) : Prop where
  now : ∀ p ∈ chg, h'.get? p.1 = some p.2
  keep : ∀ a o, h.get? a = some o → a ≠ L → (∀ p ∈ chg, p.1 ≠ a) → h'.get? a = some o
section
variable {w : World} {A : Around} {E : Value → Shared → Prop} {s : Shared} {b : Heap} {loose : List Str} {mean : ExcName → Option Value} {mg mb : Str → Option Value}
end
theorem codeRec_keeps {h h' : Heap} {c : Value} {q : Str} (C : h.CodeRec c q) (k : ∀ a o, h.get? a = some o → h'.get? a = some o) : h'.CodeRec c q := by
  obtain ⟨c', oc, vs, t, e, h1, h2⟩ := C
  exact ⟨c', oc, vs, t, e, k _ _ h1, h2⟩
theorem my_comp {prog : Program} {w : World} {A : Around} {E : Value → Shared → Prop} {s : Shared} {env : Env} {elt iter : Expr} {x : Str} {px : Pos} {scope : Scope} {cl : List (Str × Addr)} {pos : Pos} {Q : Value → Shared → Prop} (Rel : Value → Value → Prop)
    (hh : A.handled = none) (hclos : closureFor scope env = pure cl) (hcell : ∀ y ∈ scope.names, y.2 ≠ .cell) (hkind : scope.kind = .function)
    (hnames : ∀ y ∈ scope.names, y.2 = .local → scope.names.lookup y.1 = some .local) (hx : scope.names.lookup x = some .local)
    (h : wpAny (model prog w) A (eval iter env) (fun xv s₁ => ∃ ax vs g L m news, xv = .ref ax ∧ s₁.heap.IsList ax vs.toArray ∧ vs.length ≤ 1000 ∧ Fr g L s₁.heap m ∧ News g L s₁.heap news ∧
      (∀ C v s₂ m₂ E', v ∈ vs → s₂.heap.Ns (compEnvC scope cl C env).locals m₂ → m₂ x = some v → (∀ b o, s₁.heap.get? b = some o → s₂.heap.get? b = some o) →
        wpAny (model prog w) A (eval elt (compEnvC scope cl C env)) (fun y s₃ => Rel v y ∧ Keeps s₂ s₃) E' s₂) ∧
      (∀ D ys c h' tk, Fr g L h' m → News g L h' ((D, listOf ys c) :: news) → Paired Rel vs ys.toList → Q (.ref D) { s₁ with heap := h', toks := tk })) E s)
    (hs : ∀ x, foldedSetIterable iter env x = pure x := by intro _; rfl) :
    wpAny (model prog w) A (eval (.ListComp elt [⟨.Name x px, iter, [], 0⟩] scope pos) env) Q E s := by
  refine wpAny_ListComp_free (fun _ => true) Rel hclos hcell hkind hnames hx (wpAny_mono h (fun xv s₁ h₁ => ?_) fun _ _ e => e) hs
  obtain ⟨ax, vs, g, L, m, news, rfl, hl, hsz, F, N, helt, hQ⟩ := h₁
  have hlt : ax < s₁.heap.objs.size := by obtain ⟨_, e, _⟩ := hl; exact Heap.lt_size e
  have up : ∀ (s₃ : Shared), (∀ b o, b ∉ [s₁.heap.objs.size] → (s₁.heap.push { cls := .type "list_iterator", data := .fields #[.ref ax, .int 0 0] }).get? b = some o → s₃.heap.get? b = some o) → ∀ b o, s₁.heap.get? b = some o → s₃.heap.get? b = some o :=
    fun s₃ hk b o e => hk b o (fun hm => by rcases List.mem_cons.mp hm with rfl | hm; exact Nat.lt_irrefl _ (Heap.lt_size e); cases hm) (Heap.get?_push_of_some _ e)
  refine wpAny_pyIter_list hl ⟨s₁.heap.objs.size, [s₁.heap.objs.size, ax], [s₁.heap.objs.size], vs.toArray.size, _, _, rfl, Walks.list hh _ _ (Nat.ne_of_lt hlt) vs.toArray, (by rw [List.size_toArray, sizeLine_eq]; omega), ⟨⟨_, Heap.get?_push_size _ rfl, rfl, rfl⟩, hl.push _⟩, ?_, ⟨?_, ?_⟩, ?_⟩
  · intro b hb
    show b < (s₁.heap.push _).objs.size
    rw [Heap.size_push]
    rcases List.mem_cons.mp hb with rfl | hb
    · exact Nat.lt_succ_self _
    · rcases List.mem_cons.mp hb with rfl | hb
      · exact Nat.lt_succ_of_lt hlt
      · cases hb
  · intro C i v s₃ m₃ E' _ hP hn hm hk _
    exact wpAny_pure ⟨rfl, s₃.heap, s₃.toks, rfl, fun _ _ e => e⟩
  · intro C i v s₃ m₃ E' _ hP hp hn hm hk _
    exact helt C v s₃ m₃ E' (by simpa using Array.mem_of_getElem? hP) hn hm (up s₃ hk)
  · intro D h' tk ys vs' hnew hlD hpl hlen hP hF hk
    have e : vs' = vs := by simpa using list_of_places hlen hP
    subst e
    have keep : ∀ b o, s₁.heap.get? b = some o → h'.get? b = some o := up { s₁ with heap := h' } hk
    obtain ⟨c, hc⟩ := hpl
    have hDn : s₁.heap.get? D = none := by
      cases e : s₁.heap.get? D with
      | none => rfl
      | some o' => rw [Heap.get?_push_of_some _ e] at hnew; cases hnew
    obtain ⟨F', N'⟩ := new_obj F N keep hDn hc
    refine hQ D ys c h' tk F' N' ?_
    have : vs'.filter (fun _ => true) = vs' := by simp
    rw [this] at hF
    exact hF
theorem comp_attr {prog : Program} {w : World} {A : Around} {E : Value → Shared → Prop} {s : Shared} {K : Frag} {env : Env} {x attr : Str} {px pa : Pos} {scope : Scope} {cl : List (Str × Addr)} {C t dt cls : Addr} {m : Str → Option Value} {es : List DictEntry} {n : Nat} {av : Option Value} {v : Value} {Q : Value → Shared → Prop}
    (X : K.In s.heap) (hn : s.heap.Ns (compEnvC scope cl C env).locals m) (hm : m x = some (.ref t)) (ho : s.heap.get? t = some (instObj cls dt)) (hd : s.heap.get? dt = some (dictOf es n))
    (hk : (compEnvC scope cl C env).scope.kind = .function) (hx : (compEnvC scope cl C env).kindOf x = some .local) (hdb : (x == ("__debug__" : Str)) = false)
    (hg : plainGet K cls attr = true) (hh : hasDictIn K cls = true) (ha : findIn K (.ref cls) attr = some av) (hng : noGet K av = true) (hl : getL attr es = some (some v)) (hv : handedIn v = true) (h : Q v { s with toks := s.toks + 1 }) :
    wpAny (model prog w) A (eval (.Attribute (.Name x px) attr pa) (compEnvC scope cl C env)) Q E s := by
  refine Attribute_Name_ ?_
  refine wpAny_Name (wpAny_loadName_local hk hx hn hm ?_) hdb
  exact get_value X ⟨ho, rfl, rfl, hd⟩ (plainGet_of hg).1 (findObj_own hh ha hng (by rw [lookIn_dict]; exact hl)) hv h
theorem paired_const {α : Type} {v : Value} : ∀ {xs : List α} {ys : List Value}, Paired (fun _ y => y = v) xs ys → ys = List.replicate xs.length v
  := by
  intro xs ys P
  induction P with
  | nil => rfl
  | cons h r ih => rw [h, ih]; rfl
open PySem.SeqAt in
theorem eq_strs {prog : Program} {w : World} {A : Around} {E : Value → Shared → Prop} {s : Shared} {g : Heap} {L a b : Addr} {news : List (Addr × Obj)} {k c d : Nat} {x : Str} {t u : Tok} {Q : Value → Shared → Prop} (N : News g L s.heap news) (h1 : (a, listOf (List.replicate k (Value.str x t)).toArray c) ∈ news) (h2 : (b, listOf (List.replicate k (Value.str x u)).toArray d) ∈ news) (hu : A.units < cLine)
    (h : Q (.bool true) s) : wpAny (model prog w) A (compareOp .Eq (.ref a) (.ref b)) Q E s := by
  refine eq_lists (N.isList h1) (N.isList h2) (by simp) hu (fun j k1 k2 => ?_) h
  have := EqAt.str_str (A := A.in1) (s := s) x t x u
  rw [beq_self_eq_true] at this
  simpa using this
theorem kwG3lineso1 : True := by
  k_with "call ref" => (k_here; (with_reducible show wpAny _ _ (call (Value.ref 371) _) _ _ _); k_dflt (refine' draw_w ?Fx8e9 ?Nx8e9 ?Gx8e9 ?stx8e9 ?a0x8e9 ?a3x8e9 ?a4x8e9 ?hmx8e9 ?hlx8e9 ?hnex8e9 ?hvx8e9 ?hlenx8e9 ?hk0x8e9 ?hk1x8e9 ?hb0x8e9 ?hb1x8e9 ?_; (case Fx8e9 => k_asm); (case Nx8e9 => k_asm); (case Gx8e9 => assumption); (case stx8e9 => walk_at "my st"); (case a0x8e9 => exact rfl); (case a3x8e9 => exact Nat.le_of_ble_eq_true rfl); (case a4x8e9 => exact Nat.le_of_ble_eq_true rfl); (case hmx8e9 => walk_at "my sub"); (case hlx8e9 => exact stays_list' (Fr.keep (by k_asm)) (by assumption)); (case hnex8e9 => assumption); (case hvx8e9 => assumption); (case hlenx8e9 => assumption); (case hk0x8e9 => first | assumption | omega); (case hk1x8e9 => first | assumption | omega); (case hb0x8e9 => omega); (case hb1x8e9 => omega); k_whole); intro r9 tk1' tk2' h' tks' r0' r1' af'; walk_at "my went")
  k_with "getAttr ref" => (k_here; (first | (with_reducible show wpAny _ _ (getAttr (Value.ref _) (Str.ofString "vm") _) _ _ _) | (with_reducible show wpAny _ _ (getAttr (Value.ref _) (Str.ofString "text") _) _ _ _) | (with_reducible show wpAny _ _ (getAttr (Value.ref _) (Str.ofString "row") _) _ _ _) | (with_reducible show wpAny _ _ (getAttr (Value.ref _) (Str.ofString "entries") _) _ _ _)); walk_at "my lim")
  exact trivial
theorem kwG3linesp1 : True := by
  k_with "eval Lambda" => (k_here; k_dflt (refine' kla_eval ?d0x8f5 ?_; (case d0x8f5 => exact rfl)); k_dflt (refine' my_lambda ?Fx8f5 ?Nx8f5 ?Tx8f5 ?Cx8f5 ?cdx8f5 ?Ux8f5 ?TOx8f5 ?hLx8f5 ?hrx8f5 ?clx8f5 ?_; (case Fx8f5 => k_asm); (case Nx8f5 => k_asm); (case Tx8f5 => k_asm); (case cdx8f5 => exact rfl); (case Cx8f5 => assumption); (case Ux8f5 => k_updF); (case TOx8f5 => assumption); (case hLx8f5 => assumption); (case hrx8f5 => exact ⟨_, .head _, by (try dsimp only); first | assumption | omega⟩); (case clx8f5 => exact rfl); k_whole); intro f9 c9 ct9 ps9 cx9 ox9 h9 tk9 F9 N9 cr9 tx9 lc9 lf9 lc9L lf9L; (try dsimp only at N9); clear lc9 lf9; (have ck9 := Fr.keep F9); clear ck9; (try k_sweep))
  k_with "my newd" => ((rename After _ _ _ => myA); (rename New _ _ _ => myW); (rename Fr _ _ _ _ => myF); (rename News _ _ _ _ => myN); k_dflt (refine' new_go myF myN myA myW ?qzuxa73 ?qzcxa73 ?_; (case qzuxa73 => walk_at "my updd"); (case qzcxa73 => walk_at "my subo")); clear myA myW; intro F9 N9 nwx9; (try dsimp only [List.cons_append, List.nil_append] at N9); (have nwl9 := allNew_lt nwx9); (simp only [List.forall_mem_cons] at nwl9); (have ck9 := Fr.keep F9); clear ck9; (try k_sweep))
  exact trivial
theorem kwG3linesq1 : True := by
  k_with "call ref" => (k_here; (with_reducible show wpAny _ _ (call (Value.ref 399) [_, _, _, Value.bytes _ _, _]) _ _ _); k_dflt (refine' bright_bad_w ?Fx6e5 ?Nx6e5 ?Gx6e5 ?stx6e5 ?a0x6e5 ?a3x6e5 ?a4x6e5 ?hmx6e5 ?_; (case Fx6e5 => k_asm); (case Nx6e5 => k_asm); (case Gx6e5 => assumption); (case stx6e5 => walk_at "my st"); (case a0x6e5 => exact rfl); (case a3x6e5 => exact Nat.le_of_ble_eq_true rfl); (case a4x6e5 => exact Nat.le_of_ble_eq_true rfl); (case hmx6e5 => walk_at "my sub"); k_whole); intro h' tks' af'; walk_at "my same")
  exact trivial
theorem kwG3linesr1 : True := by
  k_with "call ref" => (k_here; (with_reducible show wpAny _ _ (call (Value.ref 210) _) _ _ _); k_dflt (refine' ofrow_w ?Fx5bb ?Nx5bb ?Gx5bb ?stx5bb ?a0x5bb ?a3x5bb ?a4x5bb ?hmx5bb ?hzx5bb ?_; (case Fx5bb => k_asm); (case Nx5bb => k_asm); (case Gx5bb => assumption); (case stx5bb => walk_at "my st"); (case a0x5bb => exact rfl); (case a3x5bb => exact Nat.le_of_ble_eq_true rfl); (case a4x5bb => exact Nat.le_of_ble_eq_true rfl); (case hmx5bb => walk_at "my sub"); (case hzx5bb => first | assumption | (rw [List.length_replicate]; omega) | omega); k_whole); intro th9 dth9 sp9 ds9 h' tks' tkk' tkz' tky' j0' j1' j2' j3' jn' i0' i1' i2' in' lt1' lt2' lt3' af' nw'; walk_at "my newd")
  k_with "call ref" => (k_here; (with_reducible show wpAny _ _ (call (Value.ref 252) _) _ _ _); k_dflt (refine' thgspan_w ?Fxc6f ?Nxc6f ?Gxc6f ?stxc6f ?a0xc6f ?a3xc6f ?a4xc6f ?hmxc6f ?hzxc6f ?_; (case Fxc6f => k_asm); (case Nxc6f => k_asm); (case Gxc6f => assumption); (case stxc6f => walk_at "my st"); (case a0xc6f => exact rfl); (case a3xc6f => exact Nat.le_of_ble_eq_true rfl); (case a4xc6f => exact Nat.le_of_ble_eq_true rfl); (case hmxc6f => walk_at "my sub"); (case hzxc6f => first | assumption | (rw [List.length_replicate]; omega) | omega); k_whole); intro l9 lc9' h' tks' af' nw'; walk_at "my newd")
  k_with "binaryOp Mult ref int" => (k_here; (with_reducible show wpAny _ _ (binaryOp Operator.Mult (Value.ref _) (Value.int _ _)) _ _ _); k_dflt (refine' my_mul ?Fxfe9 ?Nxfe9 ?mxfe9 ?h0xfe9 ?h1xfe9 ?_; (case Fxfe9 => k_asm); (case Nxfe9 => k_asm); (case mxfe9 => k_mem); (case h0xfe9 => first | assumption | omega); (case h1xfe9 => first | assumption | omega); k_whole); intro D9 h' F9 N9 lx1 lx2; clear lx1; (try k_sweep))
  k_with "my gocomp" => ((try k_fold); repeat' ((fail_if_success (with_reducible show wpAny _ _ (eval (Expr.ListComp _ _ _ _) _) _ _ _)); first | (k_unfold; (try dsimp only)) | (walk1; (try dsimp only)) | (dsimp only; walk1)))
  k_with "my goex" => ((try k_fold); repeat' ((fail_if_success (with_reducible show Exists _)); first | (k_unfold; (try dsimp only)) | (walk1; (try dsimp only)) | (dsimp only; walk1)))
  k_with "my gocmp" => ((try k_fold); repeat' ((fail_if_success (with_reducible show wpAny _ _ (compareOp CmpOp.Eq (Value.ref _) (Value.ref _)) _ _ _)); first | (k_unfold; (try dsimp only)) | (walk1; (try dsimp only)) | (dsimp only; walk1)))
  k_with "my goit" => ((try k_fold); repeat' ((fail_if_success (with_reducible show wpAny _ _ (pyIter _) _ _ _)); first | (k_unfold; (try dsimp only)) | (walk1; (try dsimp only)) | (dsimp only; walk1)))
  exact trivial
theorem dict_empty {prog : Program} {w : World} {h : Heap} {d : Addr} (e : h.get? d = some (dictOf [] 0)) : h.DictAt (strKind prog w) d ([] : List (Str × Value)) 0 :=
  ⟨_, _, e, ⟨rfl, rfl, rfl⟩, rfl, (fun x hx => by simp at hx), by constructor, by simp⟩
noncomputable section
namespace K_pairs_c
def KP (w : World) (R : Result → Shared → Prop) (s : Shared) (b : Heap) (loose : List Str) (mean : ExcName → Option Value) (mg mb : Str → Option Value) (x dx ed : Addr) (nb mo lv : Int) (tn tm tl : Tok) (gl : Bool) (ac : Value) (t0 t1 t2 t3 t4 t5 : Tok) (n : Nat) : Prop := ∀ {A : Around} (st : b.StaysIn s.heap) (G : Gd w loose mean mg mb b) (D : Led b s.heap [(x, instObj 140 dx), (dx, dictbD w nb tn mo tm gl lv tl ac ed t0 t1 t2 t3 t4 t5 n), (ed, dictOf [] 0)]) (hA : A = { depth := 830, units := 4400, frames := none, handled := none, guards := none }) (hz : b.objs.size ≤ ed) (hR : ∀ D c h' tks, After s.heap h' [] → s.heap.get? D = none → h'.get? D = some (listOf #[] c) → R (.ok (.ret (.ref D))) ⟨h', s.gens, s.drawn, tks, s.os⟩), codeAny (model PG w) A (.call (.ref 137) ⟨[.ref x], []⟩) R s
def KT (x : (World × (Result → Shared → Prop) × Shared × Heap × List Str × (ExcName → Option Value)) × ((Str → Option Value) × (Str → Option Value) × Addr × Addr × Addr × Int) × (Int × Int × Tok × Tok × Tok × Bool) × (Value × Tok × Tok × Tok × Tok × Tok) × (Tok × Nat)) : Prop := KP x.1.1 x.1.2.1 x.1.2.2.1 x.1.2.2.2.1 x.1.2.2.2.2.1 x.1.2.2.2.2.2 x.2.1.1 x.2.1.2.1 x.2.1.2.2.1 x.2.1.2.2.2.1 x.2.1.2.2.2.2.1 x.2.1.2.2.2.2.2 x.2.2.1.1 x.2.2.1.2.1 x.2.2.1.2.2.1 x.2.2.1.2.2.2.1 x.2.2.1.2.2.2.2.1 x.2.2.1.2.2.2.2.2 x.2.2.2.1.1 x.2.2.2.1.2.1 x.2.2.2.1.2.2.1 x.2.2.2.1.2.2.2.1 x.2.2.2.1.2.2.2.2.1 x.2.2.2.1.2.2.2.2.2 x.2.2.2.2.1 x.2.2.2.2.2
theorem Kex : ∃ x, KT x → ∀ y, KT y := drink ((anyW, (fun _ _ => True), {}, default, default, default), (default, default, default, default, default, default), (default, default, default, default, default, default), (default, default, default, default, default, default), (default, default)) _
@[irreducible] def Kx0 := Classical.choose Kex
@[irreducible] def w := Kx0.1.1
@[irreducible] def R := Kx0.1.2.1
@[irreducible] def s := Kx0.1.2.2.1
@[irreducible] def b := Kx0.1.2.2.2.1
@[irreducible] def loose := Kx0.1.2.2.2.2.1
@[irreducible] def mean := Kx0.1.2.2.2.2.2
@[irreducible] def mg := Kx0.2.1.1
@[irreducible] def mb := Kx0.2.1.2.1
@[irreducible] def x := Kx0.2.1.2.2.1
@[irreducible] def dx := Kx0.2.1.2.2.2.1
@[irreducible] def ed := Kx0.2.1.2.2.2.2.1
@[irreducible] def nb := Kx0.2.1.2.2.2.2.2
@[irreducible] def mo := Kx0.2.2.1.1
@[irreducible] def lv := Kx0.2.2.1.2.1
@[irreducible] def tn := Kx0.2.2.1.2.2.1
@[irreducible] def tm := Kx0.2.2.1.2.2.2.1
@[irreducible] def tl := Kx0.2.2.1.2.2.2.2.1
@[irreducible] def gl := Kx0.2.2.1.2.2.2.2.2
@[irreducible] def ac := Kx0.2.2.2.1.1
@[irreducible] def t0 := Kx0.2.2.2.1.2.1
@[irreducible] def t1 := Kx0.2.2.2.1.2.2.1
@[irreducible] def t2 := Kx0.2.2.2.1.2.2.2.1
@[irreducible] def t3 := Kx0.2.2.2.1.2.2.2.2.1
@[irreducible] def t4 := Kx0.2.2.2.1.2.2.2.2.2
@[irreducible] def t5 := Kx0.2.2.2.2.1
@[irreducible] def n := Kx0.2.2.2.2.2
set_option maxRecDepth 100000
set_option maxHeartbeats 4000000
@[irreducible] def g : Heap := hideAll s.heap (([(x, instObj 140 dx), (dx, dictbD w nb tn mo tm gl lv tl ac ed t0 t1 t2 t3 t4 t5 n), (ed, dictOf [] 0)] : List (Addr × Obj)).map (·.1))
@[irreducible] def L' : Addr := s.heap.objs.size
theorem KgE  : g = hideAll s.heap (([(x, instObj 140 dx), (dx, dictbD w nb tn mo tm gl lv tl ac ed t0 t1 t2 t3 t4 t5 n), (ed, dictOf [] 0)] : List (Addr × Obj)).map (·.1)) := by with_unfolding_all rfl
theorem KlE : L' = s.heap.objs.size := by with_unfolding_all rfl
theorem at0 : KP w R s b loose mean mg mb x dx ed nb mo lv tn tm tl gl ac t0 t1 t2 t3 t4 t5 n := by
  intro A st G D hA hz hR
  subst hA
  have Xs := G.X.keeps st
  refine' enterC' KgE KlE (binds := [(Str.ofString "self", .ref x)]) st G D ?k6 ?k7 ?k8 ?k9 ?kB ?kD ?_ ?c2 ?c3 ?c4
  case k6 => k_dflt k_is
  case k7 => k_dflt k_is
  case k8 => k_room
  case k9 => first | exact BindsTo.of_eq rfl | exact binds_K (by assumption) rfl (by k_is) rfl rfl rfl
  case kB => exact rfl
  case kD => decide +kernel
  case c2 => exact rfl
  case c3 => exact rfl
  case c4 => exact rfl
  intro h' tk cells Z F' N' Y'
  have G' := G.keeps Z.st
  have ⟨X', T', _, _, _, _, _⟩ := G'
  k_cells Y'
  dsimp only [List.cons_append, List.nil_append] at N'
  walk_at "my gocomp"
  refine wpAny_ListComp_free (fun _ => true) (fun _ _ => True) (by rfl) (by decide) (by rfl) ?nm (by rfl) ?main
  case nm => decide
  case main =>
    walk_at "my goit"
    (rename Fr _ _ _ _ => F6); (rename News _ _ _ _ => N6)
    have hm6 : (ed == sysModules) = false := beq_false_of_ne (Nat.ne_of_gt (Nat.lt_of_lt_of_le (modules_low G.T.nolimit) hz))
    have hed : h'.get? ed = some (dictOf [] 0) := N6.get (by k_mem)
    have hlt : ed < h'.objs.size := Heap.lt_size hed
    refine wpAny_pyIter_dict hm6 (dict_empty hed) ⟨h'.objs.size, [h'.objs.size, ed], [h'.objs.size], 0, _, _, rfl, Walks.dictKeys (knd := strKind _ _) rfl _ _ (Nat.ne_of_lt hlt) [] 0, Nat.zero_le _, ⟨⟨_, Heap.get?_push_size _ rfl, rfl, rfl⟩, (dict_empty hed).push _⟩, ?_, ⟨?_, ?_⟩, ?_⟩
    · intro b hb
      show b < (h'.push _).objs.size
      rw [Heap.size_push]
      rcases List.mem_cons.mp hb with rfl | hb
      · exact Nat.lt_succ_self _
      · rcases List.mem_cons.mp hb with rfl | hb
        · exact Nat.lt_succ_of_lt hlt
        · cases hb
    · intro C i v s₃ m₃ E' _ hP hn hm hk _
      obtain ⟨_, _, e, _⟩ := hP; simp at e
    · intro C i v s₃ m₃ E' _ hP hp hn hm hk _
      obtain ⟨_, _, e, _⟩ := hP; simp at e
    · intro D h6 tk6 ys vs hnew hlD hpl hlen hP hF hk
      have keep : ∀ b o, h'.get? b = some o → h6.get? b = some o := fun b o e => hk b o (fun hm => by rcases List.mem_cons.mp hm with rfl | hm; exact Nat.lt_irrefl _ (Heap.lt_size e); cases hm) (Heap.get?_push_of_some _ e)
      obtain rfl : vs = [] := List.eq_nil_of_length_eq_zero hlen
      have hys : ys.toList = [] := by cases h : ys.toList with
        | nil => rfl
        | cons y r => rw [h] at hF; cases hF
      obtain rfl : ys = #[] := Array.toList_inj.mp hys
      obtain ⟨c, hc⟩ := hpl
      have hDn : h'.get? D = none := by
        cases e : h'.get? D with
        | none => rfl
        | some o' => rw [Heap.get?_push_of_some _ e] at hnew; cases hnew
      obtain ⟨F7, N7⟩ := new_obj F6 N6 keep hDn hc
      have hsD : s.heap.get? D = none := by
        cases e : s.heap.get? D with
        | none => rfl
        | some o =>
          refine absurd hDn ?_
          by_cases q : D ∈ ([(x, instObj 140 dx), (dx, dictbD w nb tn mo tm gl lv tl ac ed t0 t1 t2 t3 t4 t5 n), (ed, dictOf [] 0)] : List (Addr × Obj)).map (·.1)
          · obtain ⟨p, hp, rfl⟩ := List.mem_map.mp q
            rw [(N6 p (.tail _ hp)).1]; exact nofun
          · rw [F6.keep _ _ (Z.kp _ _ e q)]; exact nofun
      clear F6 N6
      refine' hR _ _ _ _ (after_part F7 N7 Z ?c ?l) hsD (N7.get (by k_mem))
      case c => walk_at "my sub"
      case l => walk_at "my part"
end K_pairs_c
end
theorem pairs_c {w : World} {R : Result → Shared → Prop} {s : Shared} {b : Heap} {loose : List Str} {mean : ExcName → Option Value} {mg mb : Str → Option Value} {x dx ed : Addr} {nb mo lv : Int} {tn tm tl : Tok} {gl : Bool} {ac : Value} {t0 t1 t2 t3 t4 t5 : Tok} {n : Nat} : K_pairs_c.KP w R s b loose mean mg mb x dx ed nb mo lv tn tm tl gl ac t0 t1 t2 t3 t4 t5 n :=
  @Classical.choose_spec _ _ K_pairs_c.Kex (by with_unfolding_all exact @K_pairs_c.at0) ((w, R, s, b, loose, mean), (mg, mb, x, dx, ed, nb), (mo, lv, tn, tm, tl, gl), (ac, t0, t1, t2, t3, t4), (t5, n))
section
end
section
variable {w : World} {A : Around} {E : Value → Shared → Prop} {s : Shared} {b : Heap} {loose : List Str} {mean : ExcName → Option Value} {mg mb : Str → Option Value}
theorem pairs_w {Q : Value → Shared → Prop} {g : Heap} {L : Addr} {m : Str → Option Value} {news : List (Addr × Obj)} {x dx ed : Addr} {nb mo lv : Int} {tn tm tl : Tok} {gl : Bool} {ac : Value} {t0 t1 t2 t3 t4 t5 : Tok} {n : Nat} (F : Fr g L s.heap m) (N : News g L s.heap news) (G : Gd w loose mean mg mb b) (stg : b.StaysIn g)
    (hA0 : A.handled = none) (hA3 : A.depth ≤ 830) (hA4 : A.units ≤ 4400)
    (hm : ∀ p ∈ [(x, instObj 140 dx), (dx, dictbD w nb tn mo tm gl lv tl ac ed t0 t1 t2 t3 t4 t5 n), (ed, dictOf [] 0)], p ∈ news) (hz : b.objs.size ≤ ed)
    (h : ∀ D c h' tks, Fr g L h' m → News g L h' ((D, listOf #[] c) :: news) → Q (.ref D) ⟨h', s.gens, s.drawn, tks, s.os⟩) :
    wpAny (model PG w) A (call (.ref 137) [.ref x]) Q E s := by
  refine wpAny_call (codeAny_room (pairs_c (A := { depth := 830, units := 4400, frames := none, handled := none, guards := none }) (b := b) (fun a o e => F.keep _ _ (stg _ _ e)) G (led_of N stg hm) rfl hz fun D c h' tks Af hn hD => ?_) hA0 hA3 (.inl rfl) rfl hA4)
  obtain ⟨F', N'⟩ := new_obj F N (fun a o e => Af.keep a o e fun _ hp => (nomatch hp)) hn hD
  exact h D c h' tks F' N'
end
section
variable {tb mk mx lx lm sv mm dk cl wx us md L1 lm0 sz L' : Nat}
end
def ThingAt (w : World) (lm0 : Nat) (h : Heap) (t : Addr) (f : Bool) : Prop := ∃ lst, Shape w t f lst ∧ ∀ p ∈ lst, lm0 ≤ p.1 ∧ h.get? p.1 = some p.2
def MadeOK (w : World) (lm0 : Nat) (h : Heap) (v : Value) : Prop := ∃ tp t f, v = .ref tp ∧ lm0 ≤ tp ∧ h.get? tp = some (tupO [.ref t, .bool f]) ∧ ThingAt w lm0 h t f
theorem ThingAt.mono {w : World} {lm0 : Nat} {h h' : Heap} {t : Addr} {f : Bool} (T : ThingAt w lm0 h t f) (k : ∀ a o, h.get? a = some o → lm0 ≤ a → h'.get? a = some o) : ThingAt w lm0 h' t f :=
  let ⟨l, S, D⟩ := T; ⟨l, S, fun p hp => ⟨(D p hp).1, k _ _ (D p hp).2 (D p hp).1⟩⟩
theorem MadeOK.mono {w : World} {lm0 : Nat} {h h' : Heap} {v : Value} (T : MadeOK w lm0 h v) (k : ∀ a o, h.get? a = some o → lm0 ≤ a → h'.get? a = some o) : MadeOK w lm0 h' v :=
  T.imp fun _ => .imp fun _ => .imp fun _ x => ⟨x.1, x.2.1, k _ _ x.2.2.1 x.2.1, x.2.2.2.mono k⟩
theorem ThingAt.ok {w : World} {lm0 : Nat} {b h : Heap} {t : Addr} {f : Bool} (T : ThingAt w lm0 h t f) (hb : b.objs.size ≤ lm0) : ThingOK w b h t f :=
  let ⟨l, S, D⟩ := T; ⟨l, S, fun p hp => ⟨(D p hp).2, Heap.get?_none_of_le (Nat.le_trans hb (D p hp).1)⟩⟩
section
variable {w : World} {g h : Heap} {L : Addr} {news : List (Addr × Obj)} {lm0 : Nat}
theorem made_dict {tp t dt x dx : Addr} {f : Bool} {tk : Tok} {ex ac : Value} {t0 t1 t2 t3 : Tok} {n ln : Nat} {es : List DictEntry} (N : News g L h news) (m1 : (tp, tupO [.ref t, .bool f]) ∈ news) (m2 : (t, instObj 65 dt) ∈ news)
    (m3 : (dt, thingD w "dict" tk (.ref x) ex ac t0 t1 t2 t3 n) ∈ news) (m4 : (x, instObj 140 dx) ∈ news) (m5 : (dx, dictOf es ln) ∈ news) (hk : KeysLit w.params es) (hg : getL (Str.ofString "is_global") es = some (some (.bool f)))
    (l1 : lm0 ≤ tp) (l2 : lm0 ≤ t) (l3 : lm0 ≤ dt) (l4 : lm0 ≤ x) (l5 : lm0 ≤ dx) : MadeOK w lm0 h (.ref tp) :=
  ⟨tp, t, f, rfl, l1, N.get m1, _, Shape.dict (tk := tk) (ex := ex) (ac := ac) (t0 := t0) (t1 := t1) (t2 := t2) (t3 := t3) (n := n) (ln := ln) (dt := dt) (dx := dx) (x := x) hk hg, (allc (⟨l2, N.get m2⟩) (allc (⟨l3, N.get m3⟩) (allc (⟨l4, N.get m4⟩) (allc (⟨l5, N.get m5⟩) fun _ q => nomatch q))))⟩
theorem made_span {tp t dt sp ds x dx C : Addr} {kind : String} {f : Bool} {tk : Tok} {sv mv ex ac : Value} {t0 t1 t2 t3 t4 t5 t6 : Tok} {n n' ln : Nat} {es : List DictEntry} (N : News g L h news) (hc : kind = "string" ∧ C = 86 ∨ kind = "array" ∧ C = 107) (m1 : (tp, tupO [.ref t, .bool f]) ∈ news) (m2 : (t, instObj 65 dt) ∈ news)
    (m3 : (dt, thingD w kind tk (.ref sp) ex ac t0 t1 t2 t3 n) ∈ news) (m6 : (sp, instObj 161 ds) ∈ news) (m7 : (ds, spanD w x sv mv t4 t5 t6 n') ∈ news) (m4 : (x, instObj C dx) ∈ news) (m5 : (dx, dictOf es ln) ∈ news) (hk : KeysLit w.params es) (hg : getL (Str.ofString "is_global") es = some (some (.bool f)))
    (l1 : lm0 ≤ tp) (l2 : lm0 ≤ t) (l3 : lm0 ≤ dt) (l6 : lm0 ≤ sp) (l7 : lm0 ≤ ds) (l4 : lm0 ≤ x) (l5 : lm0 ≤ dx) : MadeOK w lm0 h (.ref tp) :=
  ⟨tp, t, f, rfl, l1, N.get m1, _, Shape.span (tk := tk) (ex := ex) (ac := ac) (t0 := t0) (t1 := t1) (t2 := t2) (t3 := t3) (t4 := t4) (t5 := t5) (t6 := t6) (n := n) (n' := n') (ln := ln) (dt := dt) (sp := sp) (ds := ds) (sv := sv) (mv := mv) (dx := dx) (x := x) hc hk hg, (allc (⟨l2, N.get m2⟩) (allc (⟨l3, N.get m3⟩) (allc (⟨l6, N.get m6⟩) (allc (⟨l7, N.get m7⟩) (allc (⟨l4, N.get m4⟩) (allc (⟨l5, N.get m5⟩) fun _ q => nomatch q))))))⟩
end
section
variable {M : Model} {A : Around} {E : Value → Shared → Prop} {s : Shared} {env : Env}
theorem wpC_Compare1 {l r : Expr} {op : CmpOp} {pos : Pos} {Q : Value → Shared → Prop} (h : wpC M A (eval l env) (fun a s₁ => wpAny M A (eval r env) (fun b s₂ => wpAny M A (compareOp op a b) Q E s₂) E s₁) E s)
    (hm : behindInMarks op r = false := by rfl) : wpC M A (eval (.Compare l [op] [r] pos) env) Q E s := by
  rw [eval_Compare1, markedBehindIn_of_false hm]
  refine wpC_bind (wpC_mono h (fun a s₁ x => .of fun Γ p hΓ => ?_) fun _ _ e => e)
  simp only [Sem.wp_bind', Sem.wp_holding, Sem.wp_cmd_standAt, Sem.wp_operate]
  exact Sem.wp_mono M Γ _ (fun b _ s₂ y => y Γ _ hΓ) (fun _ _ _ e => e) _ _ (x Γ p hΓ)
theorem cutF {α : Type} {g : Heap} {L : Addr} {m : Str → Option Value} {news : List (Addr × Obj)} {t : Sem α} {Q : α → Shared → Prop} (P : α → Prop) (F : Fr g L s.heap m) (N : News g L s.heap news)
    (h1 : wpAny M A t (fun v s' => P v ∧ ∃ h tk, s' = ⟨h, s.gens, s.drawn, tk, s.os⟩ ∧ Fr g L h m ∧ News g L h news) E s) (h2 : ∀ v h tk, P v → Fr g L h m → News g L h news → Q v ⟨h, s.gens, s.drawn, tk, s.os⟩) : wpAny M A t Q E s :=
  wpAny_mono h1 (fun v s' ⟨p, h, tk, e, F', N'⟩ => e ▸ h2 v h tk p F' N') fun _ _ e => e
end
def FaultV (c : Prop) (nm : String) (v : Value) : Prop := (c ∧ ∃ tk, v = .bytes (asBytes nm) tk) ∨ (¬ c ∧ v = .none)
open PySem.SeqAt in
theorem eq_pair {prog : Program} {w : World} {A : Around} {E : Value → Shared → Prop} {s : Shared} {g : Heap} {L a b : Addr} {news : List (Addr × Obj)} {x1 x2 y1 y2 : Value} {Q : Value → Shared → Prop} (N : News g L s.heap news) (h1 : (a, tupO [x1, x2]) ∈ news) (h2 : (b, tupO [y1, y2]) ∈ news) (hu : A.units < cLine)
    (e1 : EqAt A.in1 s x1 y1 true) (e2 : EqAt A.in1 s x2 y2 true) (h : Q (.bool true) s) : wpAny (model prog w) A (compareOp .Eq (.ref a) (.ref b)) Q E s := by
  refine rcAt_tups (isTup_of N h1) (isTup_of N h2) rfl hu (fun j k1 k2 => ?_) prog w E Q h
  have : j = 0 ∨ j = 1 := by simp at k1; omega
  rcases this with rfl | rfl
  · exact e1
  · exact e2
open PySem.SeqAt in
theorem eqAt_int {A : Around} {s : Shared} (i : Int) (t u : Tok) : EqAt A s (.int i t) (.int i u) true := by
  have := EqAt.int_int (A := A) (s := s) i t i u
  rwa [beq_self_eq_true] at this
section
variable {α : Type} {M : Model} {A : Around} {E : Value → Shared → Prop} {s : Shared}
theorem codeC_loop {c : Code} {R : Result → Shared → Prop} (hq : c.quiet = true) (hk : okCode c) (I : Nat → Shared → Prop)
    (turn : ∀ n s, I n s → wpC M (A.under c) (M.den c)
      (fun fin s' => match fin with
        | .done f => R (.ok f) s'
        | .again c' => (c' = c ∧ ∃ m, m < n ∧ I m s') ∨ (c'.quiet = true ∧ codeC M A c' R s')) (fun e s' => R (.error e) s') s)
    (n : Nat) (h : I n s) : codeC M A c R s := by
  induction n using Nat.strongRecOn generalizing s with
  | ind n ih =>
    refine codeC_of_tree hk (wpC_mono (turn n s h) (fun fin s' hf => ?_) fun _ _ h' => h')
    cases fin with
    | done f => exact hf
    | again c' =>
      rcases hf with ⟨rfl, m, hm, hI⟩ | hf
      · exact ⟨hq, ih m hm hI⟩
      · exact hf
theorem wpC_noted {env : Env} {m : Sem α} {Q : α → Shared → Prop} (h : wpC M A m Q (notedBy M A env E) s) : wpC M A (m.onRaise fun x => do noteFrame x env; theTreesLotGoes x) Q E s :=
  wpC_onRaise (wpC_mono h (fun _ _ q => q) fun _ _ hx => .of (wpAny_bind (wpAny_mono hx (fun _ _ e => wpAny_theTreesLotGoes e) fun _ _ e => e)))
end

section
variable {prog : Program} {w : World} {A : Around} {E : Value → Shared → Prop} {s : Shared} {env : Env}
theorem codeC_block {stmts : List Stmt} {R : Result → Shared → Prop} (h : wpC (model prog w) A (execs stmts env) (fun f s' => R (.ok f) s') (notedBy (model prog w) A env fun e s' => R (.error e) s') s) : codeC (model prog w) A (.block stmts env) R s := by
  refine codeC_of_tree (fun _ _ => rfl) ?_
  show wpC _ _ (do return Fin.done (← (execs stmts env).onRaise (fun x => do noteFrame x env; theTreesLotGoes x))) _ _ s
  exact wpC_bind (wpC_noted (wpC_mono h (fun f s' h' => wpC_pure h') fun _ _ h' => h'))
end
noncomputable section
namespace K_codeC_forRange
def KP (prog : Program) (w : World) (s : Shared) (env : Env) (R : Result → Shared → Prop) (x : Str) (px : Pos) (body : List Stmt) (I : Addr) (n : Nat) : Prop := ∀ {A : Around} (hh : A.handled = none) (J : Nat → Heap → Prop) (stable : ∀ i h h₁, J i h → (∀ b o, b ≠ I → h.get? b = some o → h₁.get? b = some o) → J i h₁) (turn : ∀ (i : Nat) tk h₁ tks oI E', i < n → J i h₁ → h₁.get? I = some oI → wpAny (model prog w) A (storeName env x (.int i tk)) (fun _ s₂ => wpC (model prog w) A (execs body env)
      (fun f s₃ => f = .next ∧ ∃ h₃ tk₃, s₃ = { s with heap := h₃, toks := tk₃ } ∧ J (i + 1) h₃ ∧ h₃.get? I = some oI) E' s₂) E' { s with heap := h₁, toks := tks }) (h0 : J 0 s.heap) (hit : IsRangeIter s.heap I 0 n 1) (hR : ∀ h' tk, J n h' → R (.ok .next) { s with heap := h', toks := tk }), codeC (model prog w) A (.forLoop (.Name x px) (.ref I) body [] env) R s
def KT (x : (Program × World × Shared × Env × (Result → Shared → Prop) × Str) × (Pos × List Stmt × Addr × Nat)) : Prop := KP x.1.1 x.1.2.1 x.1.2.2.1 x.1.2.2.2.1 x.1.2.2.2.2.1 x.1.2.2.2.2.2 x.2.1 x.2.2.1 x.2.2.2.1 x.2.2.2.2
theorem Kex : ∃ x, KT x → ∀ y, KT y := drink ((default, anyW, {}, anyE, (fun _ _ => True), default), (default, default, default, default)) _
@[irreducible] def Kx0 := Classical.choose Kex
@[irreducible] def prog := Kx0.1.1
@[irreducible] def w := Kx0.1.2.1
@[irreducible] def s := Kx0.1.2.2.1
@[irreducible] def env := Kx0.1.2.2.2.1
@[irreducible] def R := Kx0.1.2.2.2.2.1
@[irreducible] def x := Kx0.1.2.2.2.2.2
@[irreducible] def px := Kx0.2.1
@[irreducible] def body := Kx0.2.2.1
@[irreducible] def I := Kx0.2.2.2.1
@[irreducible] def n := Kx0.2.2.2.2
set_option maxRecDepth 100000
set_option maxHeartbeats 4000000
theorem at0 : KP prog w s env R x px body I n := by
  intro A hh J stable turn h0 hit hR
  refine codeC_loop rfl (fun _ _ => rfl) (fun k s' => ∃ h' tk i, s' = { s with heap := h', toks := tk } ∧ IsRangeIter h' I ((i : Nat) : Int) ((n : Int) - (i : Nat)) 1 ∧ J i h' ∧ i ≤ n ∧ k = n + 1 - i) ?_ (n + 1)
    ⟨s.heap, s.toks, 0, rfl, by simpa using hit, h0, Nat.zero_le _, rfl⟩
  rintro k s' ⟨h', tk, i, rfl, hit', hJ, hi, rfl⟩
  show wpC _ _ ((forTurn (.Name x px) (.ref I) body [] env).onRaise (fun x => do noteFrame x env; theTreesLotGoes x)) _ _ _
  refine wpC_noted ?_
  simp only [forTurn]
  refine wpC_bind (wpC_standAt (wpC_bind (wpC_onRaise ?_)))
  by_cases hlt : i < n
  · refine .of (wpAny_pyNext_range_item hit' (by omega) fun h₁ hit₁ hs₁ => ?_)
    refine wpC_bind (wpC.of (wpAny_of_eq (a := ()) rfl ?_))
    refine wpC_bind (wpC.of (wpAny_assign_Name (wpAny_mono (turn i _ h₁ _ _ _ hlt (stable _ _ _ hJ fun b o hb e => hs₁.extBut b o hb e) hit₁) (fun _ s₂ h₂ => ?_) fun _ _ h' => h')))
    refine wpC_bind (wpC_mono h₂ (fun f s₃ h₃ => ?_) fun _ _ h' => h')
    obtain ⟨rfl, h₃, tk₃, rfl, hJ₃, hI₃⟩ := h₃
    refine wpC_pure (.inl ⟨rfl, n + 1 - (i + 1), by omega, h₃, tk₃, i + 1, rfl, ?_, hJ₃, hlt, rfl⟩)
    have e2 : (n : Int) - ((i + 1 : Nat) : Int) = (n : Int) - (i : Int) - 1 := by push_cast; omega
    have e1 : ((i + 1 : Nat) : Int) = (i : Int) + 1 := by push_cast; rfl
    show h₃.get? I = _
    rw [e2, e1]
    exact hI₃
  · have hin : i = n := by omega
    subst hin
    refine .of (wpAny_pyNext_range_end hh hit' (by omega) fun h₁ he₁ => ?_)
    refine wpC_pure (.inr ⟨rfl, codeC_block (wpC.of (wpAny_execs_nil ?_))⟩)
    exact hR h₁ _ (stable _ _ _ hJ fun b o hb e => he₁ b o hb e)
end K_codeC_forRange
end
theorem codeC_forRange {prog : Program} {w : World} {s : Shared} {env : Env} {R : Result → Shared → Prop} {x : Str} {px : Pos} {body : List Stmt} {I : Addr} {n : Nat} : K_codeC_forRange.KP prog w s env R x px body I n :=
  @Classical.choose_spec _ _ K_codeC_forRange.Kex (by with_unfolding_all exact @K_codeC_forRange.at0) ((prog, w, s, env, R, x), (px, body, I, n))
section
variable {prog : Program} {w : World} {A : Around} {E : Value → Shared → Prop} {s : Shared} {env : Env}
theorem wpC_ForRange {Q : Flow → Shared → Prop} {x : Str} {px pos : Pos} {iter : Expr} {body : List Stmt} (hh : A.handled = none)
    (h : wpAny (model prog w) A (eval iter env) (fun xv s₁ => ∃ (r : Addr) (n : Nat) (t u v : Tok) (J : Nat → Heap → Prop), xv = .ref r ∧ IsRange s₁.heap r 0 n 1 t u v ∧ n ≤ 1000 ∧
      (∀ i h h₁, J i h → (∀ b o, b ≠ s₁.heap.objs.size → h.get? b = some o → h₁.get? b = some o) → J i h₁) ∧
      (∀ h₁ oI, h₁ = s₁.heap.push oI → J 0 h₁) ∧
      (∀ (i : Nat) tk h₁ tks oI E', i < n → J i h₁ → h₁.get? s₁.heap.objs.size = some oI → wpAny (model prog w) A (storeName env x (.int i tk)) (fun _ s₂ => wpC (model prog w) A (execs body env)
        (fun f s₃ => f = .next ∧ ∃ h₃ tk₃, s₃ = { s₁ with heap := h₃, toks := tk₃ } ∧ J (i + 1) h₃ ∧ h₃.get? s₁.heap.objs.size = some oI) E' s₂) E' { s₁ with heap := h₁, toks := tks }) ∧
      (∀ h' tk, J n h' → Q .next { s₁ with heap := h', toks := tk })) E s)
    (hs : ∀ x, foldedSetIterable iter env x = pure x := by intro _; rfl) :
    wpC (model prog w) A (exec (.For (.Name x px) iter body [] pos) env) Q E s := by
  rw [exec_For]
  refine wpC_bind (wpC_standAt (wpC_bind (.of (wpAny_mono h (fun xv s₁ h₁ => ?_) fun _ _ h' => h'))))
  obtain ⟨r, n, t, u, v, J, rfl, hr, hn, stable, h0, turn, fin⟩ := h₁
  refine wpC_bind (wpC.of (wpAny_of_eq (hs _) ?_))
  have esz : Builtin.Range.rangeSize 0 n 1 = n := by
    delta Builtin.Range.rangeSize
    split <;> omega
  refine wpC_bind (wpC_standAt (wpC_bind (wpC_holding (.of (wpAny_pyIter_range hr ?_ ?_)))))
  · unfold Builtin.Range.small Builtin.Range.rangeFitsLong
    rw [esz]
    simp
    omega
  · rw [esz]
    unfold runOwn
    refine wpC_onRaise (wpC_run ?_ (by intro q; cases q))
    rw [Around.mark_none]
    refine codeC_mono (codeC_forRange (s := { s₁ with heap := s₁.heap.push _ }) (R := fun r s' => match r with | .ok f => Q f s' | .error e => cameBackBy (model prog w) A env E e s') hh J stable turn (h0 _ _ rfl) (Heap.get?_push_size _ rfl) fin) fun r s' hr => ?_
    cases r with
    | ok f => exact hr
    | error e => exact .of hr
end

section
variable {prog : Program} {w : World} {A : Around} {E : Value → Shared → Prop} {env : Env}
structure TurnsG (prog : Program) (w : World) (A : Around) (env : Env) (scope : Scope) (cl : List (Str × Addr)) (target elt : Expr) (I : Addr) (fp wr : List Addr) (n : Nat) (P : Nat → Value → Prop) (St : Nat → Heap → Prop) (J : Addr → Nat → List Value → Heap → Prop) (s₂ : Shared) : Prop where
  start : ∀ C, J C 0 [] s₂.heap
  stable : ∀ C i ys h h', s₂.heap.objs.size < C → J C i ys h → (∀ b o, b ∉ wr → (b < s₂.heap.objs.size ∨ C < b) → h.get? b = some o → h'.get? b = some o) → J C i ys h'
  turn : ∀ C i v ys h tk m E', s₂.heap.objs.size < C → i < n → P i v → St (i + 1) h → J C i ys h → h.Ns C m →
    wpAny (model prog w) A (letOwnedTupleGo target (.ref I) v) (fun _ s₀ => wpAny (model prog w) A (assign target (compEnvC scope cl C env) v) (fun _ s₄ => wpAny (model prog w) A (eval elt (compEnvC scope cl C env))
      (fun y s₅ => ∃ h' tk' m', s₅ = { s₂ with heap := h', toks := tk' } ∧ J C (i + 1) (ys ++ [y]) h' ∧ h'.Ns C m' ∧ (∀ b o, (b ∈ fp ∨ (s₂.heap.objs.size ≤ b ∧ b < C)) → h.get? b = some o → h'.get? b = some o)) E' s₄) E' s₀) E' { s₂ with heap := h, toks := tk }
end
noncomputable section
namespace K_compG_block
def KP (prog : Program) (w : World) (E : Value → Shared → Prop) (env : Env) (elt target iter : Expr) (scope : Scope) (cl : List (Str × Addr)) (pos : Pos) (s₂ : Shared) (I : Addr) (fp wr : List Addr) (n : Nat) (P : Nat → Value → Prop) (St : Nat → Heap → Prop) (J : Addr → Nat → List Value → Heap → Prop) : Prop := ∀ {A : Around} (W : Walks prog w A I fp wr n P St) (hsz : n ≤ sizeLine) {RR : Value → Addr → Result → Shared → Prop} (hcell : ∀ y ∈ scope.names, y.2 ≠ .cell) (hkind : scope.kind = .function) (hst : St 0 s₂.heap) (hfp : ∀ b ∈ fp, b < s₂.heap.objs.size) (hq : TurnsG prog w A env scope cl target elt I fp wr n P St J s₂) (hRR : ∀ D C h' tk m' ys c, s₂.heap.get? D = none → s₂.heap.get? C = none → s₂.heap.objs.size ≤ D → D < C → h'.Ns C m' → h'.get? D = some (listOf ys c) → J C n ys.toList h' → RR (.ref D) C (.ok .next) { s₂ with heap := h', toks := tk }), wpAny (model prog w) A (newList []) (fun acc s₃ => wpAny (model prog w) A (newFunctionEnv scope env.globals cl [] env.qual none .none (some env)) (fun cenv s₄ =>
      codeAny (model prog w) A (.compStart (.ListComp elt [⟨target, iter, [], 0⟩] scope pos) 0 (.ref I) acc { cenv with scope := relabel scope env }) (RR acc cenv.locals) s₄) E s₃) E s₂
def KT (x : (Program × World × (Value → Shared → Prop) × Env × Expr × Expr) × (Expr × Scope × (List (Str × Addr)) × Pos × Shared × Addr) × (List Addr × List Addr × Nat × (Nat → Value → Prop) × (Nat → Heap → Prop) × (Addr → Nat → List Value → Heap → Prop))) : Prop := KP x.1.1 x.1.2.1 x.1.2.2.1 x.1.2.2.2.1 x.1.2.2.2.2.1 x.1.2.2.2.2.2 x.2.1.1 x.2.1.2.1 x.2.1.2.2.1 x.2.1.2.2.2.1 x.2.1.2.2.2.2.1 x.2.1.2.2.2.2.2 x.2.2.1 x.2.2.2.1 x.2.2.2.2.1 x.2.2.2.2.2.1 x.2.2.2.2.2.2.1 x.2.2.2.2.2.2.2
theorem Kex : ∃ x, KT x → ∀ y, KT y := drink ((default, anyW, (fun _ _ => True), anyE, default, default), (default, default, default, default, {}, default), (default, default, default, (fun _ _ => True), (fun _ _ => True), (fun _ _ _ _ => True))) _
@[irreducible] def Kx0 := Classical.choose Kex
@[irreducible] def prog := Kx0.1.1
@[irreducible] def w := Kx0.1.2.1
@[irreducible] def E := Kx0.1.2.2.1
@[irreducible] def env := Kx0.1.2.2.2.1
@[irreducible] def elt := Kx0.1.2.2.2.2.1
@[irreducible] def target := Kx0.1.2.2.2.2.2
@[irreducible] def iter := Kx0.2.1.1
@[irreducible] def scope := Kx0.2.1.2.1
@[irreducible] def cl := Kx0.2.1.2.2.1
@[irreducible] def pos := Kx0.2.1.2.2.2.1
@[irreducible] def s₂ := Kx0.2.1.2.2.2.2.1
@[irreducible] def I := Kx0.2.1.2.2.2.2.2
@[irreducible] def fp := Kx0.2.2.1
@[irreducible] def wr := Kx0.2.2.2.1
@[irreducible] def n := Kx0.2.2.2.2.1
@[irreducible] def P := Kx0.2.2.2.2.2.1
@[irreducible] def St := Kx0.2.2.2.2.2.2.1
@[irreducible] def J := Kx0.2.2.2.2.2.2.2
set_option maxRecDepth 100000
set_option maxHeartbeats 4000000
theorem at0 : KP prog w E env elt target iter scope cl pos s₂ I fp wr n P St J := by
  intro A W hsz RR hcell hkind hst hfp hq hRR
  refine wpAny_newObj_type (wpAny_newFunctionEnv hcell (by intro y hy; simp at hy) (fun h₁ hns₁ hsb₁ => ?_) hkind)
  dsimp only at hns₁ hsb₁ ⊢
  generalize hH2 : s₂.heap.push { cls := .type "list", dict := none, data := .seq ([] : List Value).toArray } = H2 at hns₁ hsb₁ ⊢
  have hC : H2.objs.size = s₂.heap.objs.size + 1 := by rw [← hH2, Heap.size_push]
  have hDC : s₂.heap.objs.size < H2.objs.size := by rw [hC]; exact Nat.lt_succ_self _
  have below : ∀ b, b < s₂.heap.objs.size → b ≠ H2.objs.size ∧ b ≠ s₂.heap.objs.size := fun b hb => ⟨by rw [hC]; exact Nat.ne_of_lt (Nat.lt_succ_of_lt hb), Nat.ne_of_lt hb⟩
  have old : ∀ b o, s₂.heap.get? b = some o → h₁.get? b = some o := fun b o e => hsb₁.extBut b o (below b (Heap.lt_size e)).1 (Heap.get?_push_of_some _ (hH2 ▸ Heap.get?_push_of_some _ e))
  have hacc : h₁.get? s₂.heap.objs.size = some (listOf #[] 0) := hsb₁.extBut _ _ (Nat.ne_of_lt hDC) (Heap.get?_push_of_some _ (hH2 ▸ Heap.get?_push_size _ rfl))
  have fresh : ∀ a, s₂.heap.objs.size ≤ a → s₂.heap.get? a = none := fun a ha => Heap.get?_none_of_le ha
  have hst₁ : St 0 h₁ := W.frame _ _ _ hst fun b _ o e => old b o e
  have hDw : ∀ b ∈ wr, b < s₂.heap.objs.size := fun b hb => hfp b (W.sub b hb)
  have hCw : H2.objs.size ∉ wr := fun q => Nat.lt_irrefl _ (Nat.lt_trans hDC (hDw _ q))
  have hDw' : s₂.heap.objs.size ∉ wr := fun q => Nat.lt_irrefl _ (hDw _ q)
  have loop : ∀ s₃ : Shared, s₃ = { s₂ with heap := h₁, toks := s₂.toks + ([] : List (Str × Value)).length } →
      codeAny (model prog w) A (.compLoop (.ListComp elt [⟨target, iter, [], 0⟩] scope pos) 0 (.ref I) (.ref s₂.heap.objs.size) (compEnvC scope cl H2.objs.size env))
        (RR (.ref s₂.heap.objs.size) H2.objs.size) s₃ := by
    rintro s₃ rfl
    refine PySem.W.kcp_loop
      (fun k s' => ∃ h' tk i ys m' c, s' = { s₂ with heap := h', toks := tk } ∧ i ≤ n ∧ k = n + 1 - i ∧ ys.size = i ∧ St i h' ∧ h'.Ns H2.objs.size m' ∧ h'.get? s₂.heap.objs.size = some (listOf ys c) ∧ J H2.objs.size i ys.toList h') ?_ (n + 1)
      ⟨h₁, _, 0, #[], _, 0, rfl, Nat.zero_le _, rfl, rfl, hst₁, hns₁, hacc, hq.stable _ _ _ _ _ hDC (hq.start _) fun b o _ _ e => old b o e⟩
    rintro k s' ⟨h', tk, i, ys, m', c, rfl, hi, rfl, hyl, hst', hn', hD', hJ⟩
    by_cases hlt : i < n
    · refine W.item i _ _ _ hlt hst' fun v h₂ tk₂ hP hst₂ hk₂ => ?_
      have hn₂ : h₂.Ns H2.objs.size m' := hn'.at' fun o e => hk₂ _ o hCw e
      have hD₂ := hk₂ _ _ hDw' hD'
      refine wpAny_mono (hq.turn _ i v _ h₂ tk₂ _ _ hDC hlt hP hst₂ (hq.stable _ _ _ _ _ hDC hJ fun b o hb _ e => hk₂ b o hb e) hn₂) (fun _ s₀ h₀ => ?_) fun _ _ e => e
      refine wpAny_mono h₀ (fun _ s₄ h₄ => ?_) fun _ _ e => e
      refine wpAny_mono h₄ (fun y s₅ h₅ => ?_) fun _ _ e => e
      obtain ⟨h₅, tk₅, m₅, rfl, hJ₅, hn₅, hk₅⟩ := h₅
      have hD₅ := hk₅ _ _ (.inr ⟨Nat.le_refl _, hDC⟩) hD₂
      refine append_at (hsz := by rw [hyl]; exact Nat.le_trans hi hsz) hD₅ fun h₆ hs₆ hD₆ => ?_
      refine ⟨n + 1 - (i + 1), by omega, h₆, tk₅, i + 1, ys.push y, m₅, c + 1, rfl, hlt, rfl, by rw [Array.size_push, hyl], ?_, hn₅.sameBut hs₆ (Ne.symm (Nat.ne_of_lt hDC)), hD₆, ?_⟩
      · refine W.frame _ _ _ hst₂ fun b hb o e => ?_
        exact hs₆.extBut b o (fun q => by have := hfp b hb; rw [q] at this; exact Nat.lt_irrefl _ this) (hk₅ b o (.inl hb) e)
      · rw [Array.toList_push]
        refine hq.stable _ _ _ _ _ hDC hJ₅ fun b o _ hb e => hs₆.extBut b o (fun q => ?_) e
        rw [q] at hb; rcases hb with hb | hb
        · exact Nat.lt_irrefl _ hb
        · rw [hC] at hb; omega
    · have hin : i = n := by omega
      subst hin
      refine W.done _ _ _ hst' fun h₂ tk₂ hk₂ => ?_
      exact hRR _ _ h₂ tk₂ m' ys c (fresh _ (Nat.le_refl _)) (fresh _ (Nat.le_of_lt hDC)) (Nat.le_refl _) hDC (hn'.at' fun o e => hk₂ _ o hCw e) (hk₂ _ _ hDw' hD') (hq.stable _ _ _ _ _ hDC hJ fun b o hb _ e => hk₂ b o hb e)
  exact codeAny_compStart_list (loop _ rfl) (W.self 0 _ _ _ hst₁ (loop _ rfl))
end K_compG_block
end
theorem compG_block {prog : Program} {w : World} {E : Value → Shared → Prop} {env : Env} {elt target iter : Expr} {scope : Scope} {cl : List (Str × Addr)} {pos : Pos} {s₂ : Shared} {I : Addr} {fp wr : List Addr} {n : Nat} {P : Nat → Value → Prop} {St : Nat → Heap → Prop} {J : Addr → Nat → List Value → Heap → Prop} : K_compG_block.KP prog w E env elt target iter scope cl pos s₂ I fp wr n P St J :=
  @Classical.choose_spec _ _ K_compG_block.Kex (by with_unfolding_all exact @K_compG_block.at0) ((prog, w, E, env, elt, target), (iter, scope, cl, pos, s₂, I), (fp, wr, n, P, St, J))
section
variable {prog : Program} {w : World} {A : Around} {E : Value → Shared → Prop} {env : Env}
theorem my_compG {s : Shared} {elt target iter : Expr} {scope : Scope} {cl : List (Str × Addr)} {pos : Pos} {Q : Value → Shared → Prop}
    (hclos : closureFor scope env = pure cl) (hcell : ∀ y ∈ scope.names, y.2 ≠ .cell) (hkind : scope.kind = .function)
    (hnames : ∀ y ∈ scope.names, y.2 = .local → scope.names.lookup y.1 = some .local)
    (h : wpAny (model prog w) A (eval iter env) (fun xv s₁ => wpAny (model prog w) A (pyIter xv) (fun it s₂ => ∃ I fp wr n P St J, it = .ref I ∧ Walks prog w A I fp wr n P St ∧ n ≤ 1000 ∧ St 0 s₂.heap ∧ (∀ b ∈ fp, b < s₂.heap.objs.size) ∧
      TurnsG prog w A env scope cl target elt I fp wr n P St J s₂ ∧
      (∀ D C h' tk ys c, s₂.heap.objs.size ≤ D → D < C → h'.get? D = some (listOf ys c) → J C n ys.toList h' → Q (.ref D) { s₂ with heap := h', toks := tk })) E s₁) E s)
    (hs : ∀ x, foldedSetIterable iter env x = pure x := by intro _; rfl) :
    wpAny (model prog w) A (eval (.ListComp elt [⟨target, iter, [], 0⟩] scope pos) env) Q E s := by
  rw [eval_ListComp]
  refine wpAny_comprehension_free (use := none) rfl hs hclos hkind hnames (wpAny_mono h (fun xv s₁ h₁ => wpAny_mono h₁ (fun it s₂ h₂ => ?_) fun _ _ e => e) fun _ _ e => e)
  obtain ⟨I, fp, wr, n, P, St, J, rfl, W, hsz, hst, hfp, hq, hQ⟩ := h₂
  refine compG_block (RR := fun acc C => compPost (model prog w) A E none Q acc C) W (by rw [sizeLine_eq]; omega) hcell hkind hst hfp hq ?_
  intro D C h' tk m' ys c hD hC hsD hDC hn hl hJ
  exact ⟨m', hn, fun h'' hs'' => hQ D C h'' tk ys c hsD hDC (hs''.extBut _ _ (Nat.ne_of_lt hDC) hl) (hq.stable _ _ _ _ _ (Nat.lt_of_le_of_lt hsD hDC) hJ fun b o _ hb e => hs''.extBut b o (fun q => by rw [q] at hb; rcases hb with hb | hb; exact Nat.lt_irrefl _ (Nat.lt_of_lt_of_le hb (Nat.le_of_lt (Nat.lt_of_le_of_lt hsD hDC))); exact Nat.lt_irrefl _ hb) e)⟩
end
set_option genInjectivity false in
set_option genSizeOfSpec false in
inductive SrcN (prog : Program) (w : World) (A : Around) (s : Shared) (env : Env) (elt : Expr) (target : Expr) (scope : Scope) (cl : List (Str × Addr)) (Q : Value → Shared → Prop) (Rel : Addr → Heap → Value → Value → Prop) (xv : Value) (s₁ : Shared) : Prop
  | mk (ax : Addr) (vs : List Value) (g : Heap) (L : Addr) (m : Str → Option Value) (news : List (Addr × Obj)) : xv = .ref ax → s₁.heap.IsList ax vs.toArray → vs.length ≤ 1000 → Fr g L s₁.heap m → News g L s₁.heap news → (∀ elts k p, target = .Tuple elts k p → ∀ v ∈ vs, ∃ T, v = .ref T) → (∀ C v h₂ tk m₂ E', v ∈ vs → s₁.heap.objs.size < C → h₂.Ns C m₂ → (∀ b o, s₁.heap.get? b = some o → h₂.get? b = some o) → wpAny (model prog w) A (assign target (compEnvC scope cl C env) v) (fun _ s₃ => wpAny (model prog w) A (eval elt (compEnvC scope cl C env)) (fun y s₄ => ∃ h' tk' m', s₄ = { s₁ with heap := h', toks := tk' } ∧ Rel C h' v y ∧ h'.Ns C m' ∧ (∀ b o, b ≠ C → h₂.get? b = some o → h'.get? b = some o)) E' s₃) E' { s₁ with heap := h₂, toks := tk }) → (∀ D C ys c h' tk, s₁.heap.objs.size < D → D < C → (∀ b o, s₁.heap.get? b = some o → h'.get? b = some o) → Fr g L h' m → News g L h' ((D, listOf ys c) :: news) → Paired (Rel C h') vs ys.toList → Q (.ref D) { s₁ with heap := h', toks := tk }) → SrcN prog w A s env elt target scope cl Q Rel xv s₁
theorem my_compN {prog : Program} {w : World} {A : Around} {E : Value → Shared → Prop} {s : Shared} {env : Env} {elt target iter : Expr} {scope : Scope} {cl : List (Str × Addr)} {pos : Pos} {Q : Value → Shared → Prop} (Rel : Addr → Heap → Value → Value → Prop)
    (mono : ∀ C h h' v y, Rel C h v y → (∀ b o, C < b → h.get? b = some o → h'.get? b = some o) → Rel C h' v y)
    (hh : A.handled = none) (hclos : closureFor scope env = pure cl) (hcell : ∀ y ∈ scope.names, y.2 ≠ .cell) (hkind : scope.kind = .function)
    (hnames : ∀ y ∈ scope.names, y.2 = .local → scope.names.lookup y.1 = some .local)
    (hgo : (∀ it v, letOwnedTupleGo target it v = pure ()) ∨ ∃ elts k p, target = .Tuple elts k p)
    (h : wpAny (model prog w) A (eval iter env) (SrcN prog w A s env elt target scope cl Q Rel) E s)
    (hs : ∀ x, foldedSetIterable iter env x = pure x := by intro _; rfl) :
    wpAny (model prog w) A (eval (.ListComp elt [⟨target, iter, [], 0⟩] scope pos) env) Q E s := by
  refine my_compG hclos hcell hkind hnames (wpAny_mono h (fun xv s₁ h₁ => ?_) fun _ _ e => e) hs
  obtain ⟨ax, vs, g, L, m, news, rfl, hl, hsz, F, N, hT, helt, hQ⟩ := h₁
  have hlt : ax < s₁.heap.objs.size := by obtain ⟨_, e, _⟩ := hl; exact Heap.lt_size e
  have hLlt : L < s₁.heap.objs.size := F.ns.lt
  have hgI : g.get? s₁.heap.objs.size = none := by
    cases e : g.get? s₁.heap.objs.size with
    | none => rfl
    | some o => exact absurd (Heap.lt_size (F.keep _ _ e)) (Nat.lt_irrefl _)
  refine wpAny_pyIter_list hl ?_
  generalize hs2 : ({ s₁ with heap := s₁.heap.push { cls := .type "list_iterator", data := .fields #[.ref ax, .int 0 0] } } : Shared) = s₂
  have z2 : s₂.heap.objs.size = s₁.heap.objs.size + 1 := by rw [← hs2]; exact Heap.size_push ..
  have up : ∀ b o, s₁.heap.get? b = some o → s₂.heap.get? b = some o := fun b o e => by rw [← hs2]; exact Heap.get?_push_of_some _ e
  have hit : s₂.heap.IsListIter s₁.heap.objs.size ax 0 := by rw [← hs2]; exact ⟨_, Heap.get?_push_size _ rfl, rfl, rfl⟩
  have back : ∀ h' tk, ({ s₂ with heap := h', toks := tk } : Shared) = { s₁ with heap := h', toks := tk } := fun h' tk => by rw [← hs2]
  refine ⟨s₁.heap.objs.size, [s₁.heap.objs.size, ax], [s₁.heap.objs.size], vs.toArray.size, _, _,
    (fun C i ys h' => Fr g L h' m ∧ News g L h' news ∧ (∀ b o, s₁.heap.get? b = some o → h'.get? b = some o) ∧ Paired (Rel C h') (vs.take i) ys), rfl, Walks.list hh _ _ (Nat.ne_of_lt hlt) vs.toArray, by rw [List.size_toArray]; exact hsz,
    ⟨hit, hl.at fun o e => up _ o e⟩, ?_, ⟨?_, ?_, ?_⟩, ?_⟩
  · intro b hb
    rw [z2]
    rcases List.mem_cons.mp hb with rfl | hb
    · exact Nat.lt_succ_self _
    · rcases List.mem_cons.mp hb with rfl | hb
      · exact Nat.lt_succ_of_lt hlt
      · cases hb
  · intro C
    exact ⟨F.keeps up, N.keeps up, up, by rw [List.take_zero]; exact .nil⟩
  · rintro C i ys h' h'' hC ⟨F', N', k', P'⟩ hk
    have z3 := hC; rw [z2] at z3
    have hk1 : ∀ b o, s₁.heap.get? b = some o → h'.get? b = some o → h''.get? b = some o := fun b o e e' => hk b o (fun q => Nat.lt_irrefl _ (Nat.lt_of_le_of_lt (Nat.le_of_eq (List.mem_singleton.mp q).symm) (Heap.lt_size e))) (.inl (by rw [z2]; exact Nat.lt_succ_of_lt (Heap.lt_size e))) e'
    have hk2 : ∀ b, b < s₁.heap.objs.size → ∀ o, h'.get? b = some o → h''.get? b = some o := fun b hb o e' => hk b o (fun q => Nat.lt_irrefl _ (Nat.lt_of_le_of_lt (Nat.le_of_eq (List.mem_singleton.mp q).symm) hb)) (.inl (by rw [z2]; exact Nat.lt_succ_of_lt hb)) e'
    refine ⟨⟨F'.ns.at' fun o e => hk2 _ hLlt o e, fun b o e => hk2 b (Heap.lt_size (F.keep b o e)) o (F'.keep b o e), F'.above⟩, fun p hp => ⟨hk2 _ (Heap.lt_size (N p hp).1) _ (N' p hp).1, (N p hp).2⟩, fun b o e => hk1 b o e (k' b o e), ?_⟩
    exact P'.mono fun v y r => mono _ _ _ _ _ r fun b o hb e => hk b o (fun q => Nat.ne_of_gt (Nat.lt_trans (Nat.lt_of_succ_lt z3) hb) (List.mem_singleton.mp q)) (.inr hb) e
  · rintro C i v ys h' tk m' E' hC hi hP hst ⟨F', N', k', P'⟩ hn
    have hi' : i < vs.length := by simpa using hi
    have hv : vs[i]? = some v := by simpa using hP
    have hvm : v ∈ vs := List.mem_of_getElem? hv
    have hC' : s₁.heap.objs.size < C := by omega
    have main := helt C v h' tk m' E' hvm hC' hn k'
    have fin : wpAny (model prog w) A (assign target (compEnvC scope cl C env) v) (fun _ s₄ => wpAny (model prog w) A (eval elt (compEnvC scope cl C env))
      (fun y s₅ => ∃ h₅ tk' m₅, s₅ = { s₂ with heap := h₅, toks := tk' } ∧ (Fr g L h₅ m ∧ News g L h₅ news ∧ (∀ b o, s₁.heap.get? b = some o → h₅.get? b = some o) ∧ Paired (Rel C h₅) (vs.take (i + 1)) (ys ++ [y])) ∧ h₅.Ns C m₅ ∧
        (∀ b o, (b ∈ [s₁.heap.objs.size, ax] ∨ (s₂.heap.objs.size ≤ b ∧ b < C)) → h'.get? b = some o → h₅.get? b = some o)) E' s₄) E' { s₂ with heap := h', toks := tk } := by
      rw [back]
      refine wpAny_mono main (fun _ s₃ h₃ => wpAny_mono h₃ (fun y s₄ h₄ => ?_) fun _ _ e => e) fun _ _ e => e
      obtain ⟨h₄, tk₄, m₄, rfl, hR, hn₄, hk₄⟩ := h₄
      have hkl : ∀ b, b < C → ∀ o, h'.get? b = some o → h₄.get? b = some o := fun b hb o e => hk₄ b o (Nat.ne_of_lt hb) e
      refine ⟨h₄, tk₄, m₄, (back _ _).symm, ⟨⟨F'.ns.at' fun o e => hkl _ (Nat.lt_trans hLlt hC') o e, fun b o e => hkl b (Nat.lt_trans (Heap.lt_size (F.keep b o e)) hC') o (F'.keep b o e), F'.above⟩, fun p hp => ⟨hkl _ (Nat.lt_trans (Heap.lt_size (N p hp).1) hC') _ (N' p hp).1, (N p hp).2⟩, fun b o e => hkl b (Nat.lt_trans (Heap.lt_size e) hC') o (k' b o e), ?_⟩, hn₄, fun b o hb e => ?_⟩
      · have e1 : vs.take (i + 1) = vs.take i ++ [v] := by rw [List.take_add_one, hv]; rfl
        rw [e1]
        exact Paired.snoc (P'.mono fun v y r => mono _ _ _ _ _ r fun b o hb e => hk₄ b o (Nat.ne_of_gt hb) e) hR
      · refine hkl b ?_ o e
        rcases hb with hb | hb
        · rcases List.mem_cons.mp hb with rfl | hb
          · exact hC'
          · rw [List.mem_singleton.mp hb]; exact Nat.lt_trans hlt hC'
        · exact hb.2
    rcases hgo with hgo | ⟨elts, k, p, rfl⟩
    · rw [hgo]; exact wpAny_pure fin
    · obtain ⟨T, rfl⟩ := hT _ _ _ rfl _ hvm
      exact wpAny_letOwnedTupleGo_listiter hst.1 fin
  · rintro D C h' tk ys c hD hDC hd ⟨F', N', k', P'⟩
    rw [back]
    have z3 := hD; rw [z2] at z3
    have hgD : g.get? D = none := by
      cases e : g.get? D with
      | none => rfl
      | some o => exact absurd (Heap.lt_size (F.keep _ _ e)) (Nat.not_lt_of_le (by omega))
    refine hQ D C ys c h' tk (by omega) hDC k' F' (fun p hp => ?_) ?_
    · rcases List.mem_cons.mp hp with rfl | hp
      · exact ⟨hd, Nat.ne_of_gt (Nat.lt_trans hLlt (by omega)), hgD⟩
      · exact N' p hp
    · have e : vs.take vs.toArray.size = vs := by rw [List.size_toArray, List.take_length]
      rw [e] at P'
      exact P'
set_option genInjectivity false in
set_option genSizeOfSpec false in
inductive SrcPair (b : Str) (z : Str) (Q : Value → Shared → Prop) (pick : Value → Value) (xv : Value) (s₁ : Shared) : Prop
  | mk (ax : Addr) (vs : List Value) (g : Heap) (L : Addr) (m : Str → Option Value) (news : List (Addr × Obj)) : xv = .ref ax → s₁.heap.IsList ax vs.toArray → vs.length ≤ 1000 → Fr g L s₁.heap m → News g L s₁.heap news → (∀ v ∈ vs, ∃ T x y, v = .ref T ∧ s₁.heap.IsTuple T #[x, y] ∧ pick v = if z = b then y else x) → (∀ D c h' tk, Fr g L h' m → News g L h' ((D, listOf (vs.map pick).toArray c) :: news) → (∀ p ∈ news, p.1 < D) → L < D → Q (.ref D) { s₁ with heap := h', toks := tk }) → SrcPair b z Q pick xv s₁
theorem my_compPair {prog : Program} {w : World} {A : Around} {E : Value → Shared → Prop} {s : Shared} {env : Env} {a b z : Str} {pa pb tp pz : Pos} {kk : Nat} {iter : Expr} {scope : Scope} {cl : List (Str × Addr)} {pos : Pos} {Q : Value → Shared → Prop} (pick : Value → Value)
    (hh : A.handled = none) (hclos : closureFor scope env = pure cl) (hcell : ∀ y ∈ scope.names, y.2 ≠ .cell) (hkind : scope.kind = .function)
    (hnames : ∀ y ∈ scope.names, y.2 = .local → scope.names.lookup y.1 = some .local) (ha : scope.names.lookup a = some .local) (hb : scope.names.lookup b = some .local) (hz : z = b ∨ z = a) (hdb : (z == ("__debug__" : Str)) = false)
    (h : wpAny (model prog w) A (eval iter env) (SrcPair b z Q pick) E s)
    (hs : ∀ x, foldedSetIterable iter env x = pure x := by intro _; rfl) :
    wpAny (model prog w) A (eval (.ListComp (.Name z pz) [⟨.Tuple [.Name a pa, .Name b pb] kk tp, iter, [], 0⟩] scope pos) env) Q E s := by
  refine my_compN (fun _ _ v y => y = pick v) (fun _ _ _ _ _ r _ => r) hh hclos hcell hkind hnames (.inr ⟨_, _, _, rfl⟩) (wpAny_mono h (fun xv s₁ h₁ => ?_) fun _ _ e => e) hs
  obtain ⟨ax, vs, g, L, m, news, rfl, hl, hsz, F, N, hp, hQ⟩ := h₁
  refine ⟨ax, vs, g, L, m, news, rfl, hl, hsz, F, N, fun _ _ _ _ v hv => ?_, fun C v h₂ tk m₂ E' hv hC hn kp => ?_, fun D C ys c h' tk hD hDC kk' F' N' P => ?_⟩
  · obtain ⟨T, _, _, e, _⟩ := hp v hv
    exact ⟨T, e⟩
  · obtain ⟨T, x, y, rfl, hT, hpk⟩ := hp v hv
    have kf : ∀ q, scope.names.lookup q = some .local → (compEnvC scope cl C env).kindOf q = some .local := fun q e => lookup_relabel_local e
    have kk0 : ((compEnvC scope cl C env).scope.kind == .class || ((compEnvC scope cl C env).scope.kind == .module && (compEnvC scope cl C env).locals != (compEnvC scope cl C env).globals)) = false := by simp [compEnvC, relabel, hkind]
    have hT2 : h₂.IsTuple T #[x, y] := hT.at fun o e => kp _ o e
    refine PySem.W.kcp_assign (s := ⟨_, _, _, _, _⟩) hh hT2 (kf _ ha) (kf _ hb) kk0 hn fun h₃ tk₃ hn₃ k₃ => ?_
    refine wpAny_Name (wpAny_loadName_local (v := pick (.ref T)) (by simp [compEnvC, relabel, hkind]) (kf z (by rcases hz with rfl | rfl; exact hb; exact ha)) hn₃ ?_ ?_) hdb
    · show (if z = b then some y else if z = a then some x else m₂ z) = _
      rw [hpk]
      by_cases q : z = b
      · rw [if_pos q, if_pos q]
      · rw [if_neg q, if_neg q, if_pos (hz.resolve_left q)]
    · exact ⟨_, _, _, rfl, rfl, hn₃, k₃⟩
  · have e : ys = (vs.map pick).toArray := by
      apply Array.toList_inj.mp
      have : ∀ {xs ys : List Value}, Paired (fun v y => y = pick v) xs ys → ys = xs.map pick := by
        intro xs ys h; induction h with
        | nil => rfl
        | cons h _ ih => rw [h, ih]; rfl
      rw [this P]
    subst e
    exact hQ D c h' tk F' N' (fun p hp => Nat.lt_trans (Heap.lt_size (N p hp).1) hD) (Nat.lt_trans F.ns.lt hD)
set_option genInjectivity false in
set_option genSizeOfSpec false in
inductive SrcKV (a1 : Str) (a2 : Str) (Q : Value → Shared → Prop) (K : Frag) (cls : Addr) (kv : Value → Value × Value) (xv : Value) (s₁ : Shared) : Prop
  | mk (ax : Addr) (vs : List Value) (g : Heap) (L : Addr) (m : Str → Option Value) (news : List (Addr × Obj)) : xv = .ref ax → s₁.heap.IsList ax vs.toArray → vs.length ≤ 1000 → Fr g L s₁.heap m → News g L s₁.heap news → K.In s₁.heap → (∀ v ∈ vs, ∃ t dt es n, v = .ref t ∧ s₁.heap.get? t = some (instObj cls dt) ∧ s₁.heap.get? dt = some (dictOf es n) ∧ getL a1 es = some (some (kv v).1) ∧ getL a2 es = some (some (kv v).2) ∧ handedIn (kv v).1 = true ∧ handedIn (kv v).2 = true) → (∀ D c ts h' tk, (∀ b o, s₁.heap.get? b = some o → h'.get? b = some o) → Fr g L h' m → News g L h' ((D, listOf ts c) :: news) → (∀ p ∈ news, p.1 < D) → L < D → Paired (fun v y => ∃ T, y = .ref T ∧ D < T ∧ h'.get? T = some (tupO [(kv v).1, (kv v).2])) vs ts.toList → Q (.ref D) { s₁ with heap := h', toks := tk }) → SrcKV a1 a2 Q K cls kv xv s₁
theorem my_compKV {prog : Program} {w : World} {A : Around} {E : Value → Shared → Prop} {s : Shared} {env : Env} {x a1 a2 : Str} {px px1 px2 p1 p2 tp : Pos} {kk : Nat} {iter : Expr} {scope : Scope} {cl : List (Str × Addr)} {pos : Pos} {Q : Value → Shared → Prop} {K : Frag} {cls : Addr} {av1 av2 : Option Value} (kv : Value → Value × Value)
    (hh : A.handled = none) (hclos : closureFor scope env = pure cl) (hcell : ∀ y ∈ scope.names, y.2 ≠ .cell) (hkind : scope.kind = .function)
    (hnames : ∀ y ∈ scope.names, y.2 = .local → scope.names.lookup y.1 = some .local) (hx : scope.names.lookup x = some .local) (hdb : (x == ("__debug__" : Str)) = false)
    (hg1 : plainGet K cls a1 = true) (hhd : hasDictIn K cls = true) (ha1 : findIn K (.ref cls) a1 = some av1) (hng1 : noGet K av1 = true) (hg2 : plainGet K cls a2 = true) (ha2 : findIn K (.ref cls) a2 = some av2) (hng2 : noGet K av2 = true)
    (h : wpAny (model prog w) A (eval iter env) (SrcKV a1 a2 Q K cls kv) E s)
    (hs : ∀ x, foldedSetIterable iter env x = pure x := by intro _; rfl) :
    wpAny (model prog w) A (eval (.ListComp (.Tuple [.Attribute (.Name x px1) a1 p1, .Attribute (.Name x px2) a2 p2] kk tp) [⟨.Name x px, iter, [], 0⟩] scope pos) env) Q E s := by
  refine my_compN (fun C h' v y => ∃ T, y = .ref T ∧ C < T ∧ h'.get? T = some (tupO [(kv v).1, (kv v).2])) (fun C h' h'' v y r k => ?_) hh hclos hcell hkind hnames (.inl fun _ _ => rfl) (wpAny_mono h (fun xv s₁ h₁ => ?_) fun _ _ e => e) hs
  · obtain ⟨T, e, l, ho⟩ := r
    exact ⟨T, e, l, k _ _ l ho⟩
  obtain ⟨ax, vs, g, L, m, news, rfl, hl, hsz, F, N, X, hp, hQ⟩ := h₁
  refine ⟨ax, vs, g, L, m, news, rfl, hl, hsz, F, N, fun _ _ _ q => (nomatch q), fun C v h₂ tk m₂ E' hv hC hn kp => ?_, fun D C ys c h' tk hD hDC kk' F' N' P => ?_⟩
  · obtain ⟨t, dt, es, n, rfl, ht, hd, g1, g2, h1, h2⟩ := hp v hv
    have kf : (compEnvC scope cl C env).kindOf x = some .local := lookup_relabel_local hx
    refine wpAny_assign_Name (wpAny_storeName_local kf hn (fun h₃ hn₃ hs₃ => ?_) (by simp [compEnvC, relabel, hkind]))
    have hCt : ∀ b o, s₁.heap.get? b = some o → h₃.get? b = some o := fun b o e => hs₃.extBut b o (Nat.ne_of_lt (Nat.lt_trans (Heap.lt_size e) hC)) (kp b o e)
    have X3 : K.In h₃ := X.keeps hCt
    have hkd : (compEnvC scope cl C env).scope.kind = .function := by simp [compEnvC, relabel, hkind]
    rw [arm_eval_Tuple]
    show wpAny _ _ (do standAt tp; newTuple (← spliced [(false, eval (.Attribute (.Name x px1) a1 p1) (compEnvC scope cl C env)), (false, eval (.Attribute (.Name x px2) a2 p2) (compEnvC scope cl C env))])) _ _ _
    refine wpAny_bind (wpAny_standAt (wpAny_bind ?_))
    unfold spliced spliced spliced
    refine wpAny_bind (comp_attr X3 hn₃ (by simp) (hCt _ _ ht) (hCt _ _ hd) hkd kf hdb hg1 hhd ha1 hng1 g1 h1 ?_)
    refine wpAny_bind (wpAny_pure (wpAny_bind (wpAny_holding ?_)))
    refine wpAny_bind (comp_attr X3 hn₃ (by simp) (hCt _ _ ht) (hCt _ _ hd) hkd kf hdb hg2 hhd ha2 hng2 g2 h2 ?_)
    refine wpAny_bind (wpAny_pure (wpAny_bind (wpAny_holding ?_)))
    refine wpAny_pure (wpAny_pure (wpAny_pure ?_))
    refine mk_tup (Nat.le_of_ble_eq_true rfl) ?_
    refine ⟨_, _, _, rfl, ⟨_, rfl, hn₃.lt, Heap.get?_push_size _ rfl⟩, hn₃.keeps fun b o e => Heap.get?_push_of_some _ e, fun b o hb e => Heap.get?_push_of_some _ (hs₃.extBut b o hb e)⟩
  · refine hQ D c ys h' tk kk' F' N' (fun p hp => Nat.lt_trans (Heap.lt_size (N p hp).1) hD) (Nat.lt_trans F.ns.lt hD) (P.mono fun v y r => ?_)
    obtain ⟨T, e, l, ho⟩ := r
    exact ⟨T, e, Nat.lt_trans hDC l, ho⟩
section
variable {w : World} {A : Around} {E : Value → Shared → Prop} {s : Shared}
set_option maxRecDepth 100000
theorem bytes_dunder : typeLookup (.type "bytes") "__bytes__" = pure (some (.builtin "bytes.__bytes__")) := by rw [typeLookup_type, builtinLookup_eq_fast]; kernel_rfl
theorem bytes_new_b {y : Array UInt8} {t : Tok} {Q : Value → Shared → Prop} (h : Q (.bytes y t) s) :
    codeAny (model PG w) A (.call (.builtin "bytes.__new__") ⟨[.type "bytes", .bytes y t], []⟩) (wants Q E) s := by
  refine codeAny_of_tree ?_
  show wpAny _ A.in1 (do checkBuiltinCall "bytes.__new__" ⟨[.type "bytes", .bytes y t], []⟩; again (.builtin "bytes.__new__" ⟨[.type "bytes", .bytes y t], []⟩)) _ _ s
  refine wpAny_bind (wpAny_of_eq (F.bm_newCall _) (wpAny_pure ⟨plainId_quiet F.bm_plain _, codeAny_builtin F.bm_entry ?_⟩))
  rw [Around.under_plainId F.bm_plain _]
  have hT : s.TypeIs (.bytes y t) "bytes" := PySem.W.typeIs_bytes _ _ _
  unfold Builtin.«bytes.__new__»
  refine wpAny_bind (wpAny_of_eq (a := true) rfl ?_)
  refine bm_if_false rfl ?_
  refine wpAny_bind (wpAny_of_eq F.bm_sub ?_)
  refine bm_if_false rfl ?_
  refine wpAny_bind (wpAny_of_eq (F.bm_bind _) ?_)
  refine wpAny_bind (wpAny_of_eq (a := ()) rfl ?_)
  refine wpAny_bind (wpAny_of_eq (a := ()) rfl ?_)
  refine bm_if_false rfl ?_
  refine wpAny_bind (wpAny_specialOf hT bytes_dunder ?_)
  refine wpAny_bind (wpAny_rule (wpAny_bind (wpAny_of_eq (a := Value.type "bytes") rfl ?_)))
  refine bm_if_true rfl ?_
  exact wpAny_pure h
theorem call_bytes_b {y : Array UInt8} {t : Tok} {Q : Value → Shared → Prop} (h : Q (.bytes y t) s) :
    wpAny (model PG w) A (call (.type "bytes") [.bytes y t]) Q E s := by
  refine callType_codes (Q₁ := fun obj s₁ => s₁.TypeIs obj "bytes" ∧ Q obj s₁) F.bm_called (F.bm_typeCall _) F.entry_object_init
    (bytes_new_b ⟨PySem.W.typeIs_bytes _ _ _, h⟩) fun obj s₁ h₁ => ?_
  exact ⟨h₁.1, F.args_object_init_2 obj _, object_init_meets F.bm_called.init.lookup F.bm_called.made (by decide) PG w A.in1 _ s₁ ⟨h₁.1, rfl, h₁.2⟩⟩
end
theorem fr_told {g h : Heap} {L : Addr} {m : Str → Option Value} (_ : Fr g L h m) (x : Str) : ∃ M : Addr → Str → Option Value, M = fun tp q => if q = x then some (.ref tp) else m q := ⟨_, rfl⟩
noncomputable def abc16 : Array UInt8 := #[97, 98, 99, 100, 101, 102, 103, 104, 105, 106, 107, 108, 109, 110, 111, 112]
theorem abc_cut : ∀ m : Fin 16, PySem.W.KBy.whole abc16 none (some (m.val : Int)) = false ∧ (PySem.W.KBy.picked abc16 none (some (m.val : Int))).size = m.val := by decide +kernel
theorem slice16 {prog : Program} {w : World} {A : Around} {E : Value → Shared → Prop} {s : Shared} {value slice : Expr} {t : Tok} {h₀ : Heap} {L : Addr} {m : Str → Option Value} {news : List (Addr × Obj)} {n : Int} {tn : Tok} {Q : Value → Shared → Prop} (hF : Fr h₀ L s.heap m) (hN : News h₀ L s.heap news) (h0 : 0 ≤ n) (h1 : n < 16)
    (h : ∀ (y : Array UInt8) h' t' k, (y.size : Int) = n → Fr h₀ L h' m → News h₀ L h' news → Q (.bytes y t') { s with heap := h', toks := k })
    (hs : subscripted slice false (.bytes abc16 t) (.ref s.heap.objs.size) = operate [.ref s.heap.objs.size, .bytes abc16 t] (getItem (.bytes abc16 t) (.ref s.heap.objs.size)) := by with_unfolding_all rfl)
    (ht : ∀ r, letTemporaryGo value (.bytes abc16 t) r = pure () := by intro _; with_unfolding_all rfl) :
    wpAny (model prog w) A (subscriptTail value slice (.bytes abc16 t) (.ref s.heap.objs.size)) Q E { s with heap := s.heap.push { cls := .type "slice", data := .fields #[.none, .int n tn, .none] } } := by
  obtain ⟨k, rfl⟩ := Int.eq_ofNat_of_zero_le h0
  have q := abc_cut ⟨k, by omega⟩
  have e2 : (PySem.W.KBy.picked abc16 none (some ((k : Nat) : Int))).size = k := q.2
  refine PySem.W.KBy.slice_N hF hN .none (.int _ tn) q.1 (by rw [e2]; omega) (fun h' t' k' F' N' => h _ h' t' k' (by rw [e2]) F' N') hs ht
theorem tail_item {prog : Program} {w : World} {A : Around} {E : Value → Shared → Prop} {s : Shared} {value slice : Expr} {a L : Addr} {g : Heap} {m : Str → Option Value} {news : List (Addr × Obj)} {vs : List Value} {c : Nat} {i : Int} {t : Tok} {Q : Value → Shared → Prop} (_F : Fr g L s.heap m) (N : News g L s.heap news) (hm : (a, listOf vs.toArray c) ∈ news) (h0 : 0 ≤ i) (h1 : i < vs.length) (hz : vs.length ≤ 1000)
    (h : ∀ v, v ∈ vs → Q v s)
    (hs : subscripted slice false (.ref a) (.int i t) = operate [.ref a, .int i t] (getItem (.ref a) (.int i t)) := by with_unfolding_all rfl)
    (ht : ∀ r, letTemporaryGo value (.ref a) r = pure () := by intro _; with_unfolding_all rfl) :
    wpAny (model prog w) A (subscriptTail value slice (.ref a) (.int i t)) Q E s := by
  have hl := N.isList hm
  obtain ⟨k, rfl⟩ := Int.eq_ofNat_of_zero_le h0
  have hk : k < vs.length := by omega
  refine tail_of_ItemOn ⟨"list", _, slot_list_getitem.lookup, hl.typeIs, wpAny_getItem_list hl h0 (by omega) (x := vs[k]) (by simp [hk]) (h _ (List.getElem_mem hk))⟩ hs ht
noncomputable def isFalse : Value → Bool
  | .bool b => b == false
  | _ => false
open PySem.SeqAt in
theorem in_bools {prog : Program} {w : World} {A : Around} {E : Value → Shared → Prop} {s : Shared} {g : Heap} {L a : Addr} {news : List (Addr × Obj)} {vs : List Value} {c : Nat} {Q : Value → Shared → Prop} (N : News g L s.heap news) (h1 : (a, listOf vs.toArray c) ∈ news)
    (hb : ∀ v ∈ vs, ∃ b, v = .bool b) (h : Q (.bool (vs.any isFalse)) s) : wpAny (model prog w) A (compareOp .In (.bool false) (.ref a)) Q E s := by
  refine in_listAt isFalse (N.isList h1) (fun y hy => ?_) (by simpa using h)
  obtain ⟨b, rfl⟩ := hb y (by simpa using hy)
  exact EqAt.bool_bool b false
noncomputable def firstObjs (h : Heap) (n : Nat) : Heap := { h with objs := h.objs.extract 0 n }
theorem first_get {h : Heap} {n a : Nat} (l : a < n) : (firstObjs h n).get? a = h.get? a := by
  have e : (h.objs.extract 0 n)[a]? = h.objs[a]? := by
    rw [Array.getElem?_extract]
    by_cases q : a < h.objs.size
    · rw [if_pos (by omega)]; simp
    · rw [if_neg (by omega)]; simp; omega
  unfold firstObjs Heap.get?
  dsimp only
  rw [e]
theorem first_size (h : Heap) (n : Nat) : (firstObjs h n).objs.size ≤ n := by
  show (h.objs.extract 0 n).size ≤ n
  rw [Array.size_extract]; omega
theorem first_of {h : Heap} {n a : Nat} {o : Obj} (e : (firstObjs h n).get? a = some o) : a < n ∧ h.get? a = some o := by
  have l : a < n := Nat.lt_of_lt_of_le (Heap.lt_size e) (first_size h n)
  exact ⟨l, by rw [← first_get l]; exact e⟩
noncomputable def under (h : Heap) (C : Addr) (rows : List (Addr × Obj)) : Heap := hideAll (firstObjs h C) (rows.map (·.1))
theorem under_get {h : Heap} {C a : Addr} {rows : List (Addr × Obj)} {o : Obj} (l : @LT.lt Nat _ a C) (e : h.get? a = some o) (n : a ∉ rows.map (·.1)) : (under h C rows).get? a = some o :=
  hideAll_get _ (by rw [first_get l]; exact e) n
theorem under_of {h : Heap} {C a : Addr} {rows : List (Addr × Obj)} {o : Obj} (e : (under h C rows).get? a = some o) : @LT.lt Nat _ a C ∧ h.get? a = some o := first_of (of_hideAll _ e)
theorem under_fr {h : Heap} {C : Addr} {rows : List (Addr × Obj)} {m : Str → Option Value} (hn : h.Ns C m) : Fr (under h C rows) C h m :=
  ⟨hn, fun _ _ e => (under_of e).2, by unfold under; rw [hideAll_size]; exact first_size h C⟩
theorem under_news {h : Heap} {C : Addr} {rows : List (Addr × Obj)} (hr : ∀ p ∈ rows, h.get? p.1 = some p.2 ∧ @LT.lt Nat _ p.1 C) : News (under h C rows) C h rows := fun p hp =>
  ⟨(hr p hp).1, Nat.ne_of_lt (hr p hp).2, hideAll_none _ (List.mem_map_of_mem hp)⟩
theorem my_compGA {prog : Program} {w : World} {A : Around} {E : Value → Shared → Prop} {s : Shared} {env : Env} {elt target iter : Expr} {y : Str} {py : Pos} {scope : Scope} {cl : List (Str × Addr)} {pos spos : Pos} {Q : Flow → Shared → Prop}
    (hsw : swapsWith (.ListComp elt [⟨target, iter, [], 0⟩] scope pos) (some (.Name y py)) spos.line env = pure true)
    (hclos : closureFor scope env = pure cl) (hcell : ∀ y ∈ scope.names, y.2 ≠ .cell) (hkind : scope.kind = .function)
    (hnames : ∀ y ∈ scope.names, y.2 = .local → scope.names.lookup y.1 = some .local)
    (hy : env.kindOf y = some .local) (hp : (env.scope.kind == .class || (env.scope.kind == .module && env.locals != env.globals)) = false)
    (h : wpAny (model prog w) A (eval iter env) (fun xv s₁ => wpAny (model prog w) A (pyIter xv) (fun it s₂ => ∃ I fp wr n P St J g m, it = .ref I ∧ Walks prog w A I fp wr n P St ∧ n ≤ 1000 ∧ St 0 s₂.heap ∧ (∀ b ∈ fp, b < s₂.heap.objs.size) ∧ @LT.lt Nat _ env.locals s₂.heap.objs.size ∧
      TurnsG prog w A env scope cl target elt I fp wr n P St J s₂ ∧
      (∀ D C h' (tk : Nat) ys c, s₂.heap.objs.size ≤ D → D < C → h'.get? D = some (listOf ys c) → J C n ys.toList h' → Fr g env.locals h' m ∧ g.get? D = none ∧
        ∀ h'' tk'', Fr g env.locals h'' (fun z => if z = y then some (.ref D) else m z) → (∀ b o, b ≠ env.locals → b ≠ C → h'.get? b = some o → h''.get? b = some o) → Q .next { s₂ with heap := h'', toks := tk'' })) E s₁) E s)
    (hs : ∀ x, foldedSetIterable iter env x = pure x := by intro _; rfl) :
    wpAny (model prog w) A (exec (.Assign [.Name y py] (.ListComp elt [⟨target, iter, [], 0⟩] scope pos) spos) env) Q E s := by
  rw [exec_Assign_Name_used _ _ _ _ hsw]
  refine wpAny_bind (wpAny_standAt (wpAny_bind ?_))
  show wpAny _ A (do let _ ← comprehension (.ListComp elt [⟨target, iter, [], 0⟩] scope pos) scope env _ (newList []) false (eval iter env) (some (assign (.Name y py) env))) _ _ s
  refine wpAny_bind (wpAny_mono (wpAny_comprehension_free (use := some (assign (.Name y py) env)) (Q := fun _ s' => Q .next s') rfl hs hclos hkind hnames
    (wpAny_mono h (fun xv s₁ h₁ => wpAny_mono h₁ (fun it s₂ h₂ => ?_) fun _ _ e => e) fun _ _ e => e)) (fun _ s' hq => wpAny_pure (wpAny_pure hq)) fun _ _ e => e)
  obtain ⟨I, fp, wr, n, P, St, J, g, m, rfl, W, hsz, hst, hfp, hLs, hq, hQ⟩ := h₂
  refine compG_block (RR := fun acc C => compPost (model prog w) A E (some (assign (.Name y py) env)) (fun _ s' => Q .next s') acc C) W (by rw [sizeLine_eq]; omega) hcell hkind hst hfp hq ?_
  intro D C h' tk m' ys c hD hC hsD hDC hnC hl hJ
  obtain ⟨F, hgD, fin⟩ := hQ D C h' tk ys c hsD hDC hl hJ
  have hLC : env.locals ≠ C := Nat.ne_of_lt (Nat.lt_trans (Nat.lt_of_lt_of_le hLs hsD) hDC)
  show wpAny _ A (assign (.Name y py) env (.ref D)) _ _ _
  refine wpAny_assign_Name (wpAny_storeName_local hy F.ns (fun h₂ hn₂ hs₂ => ?_) hp)
  have F₂ := F.set hn₂ hs₂
  refine ⟨m', hnC.sameBut hs₂ (Ne.symm hLC), fun h₃ hs₃ => ?_⟩
  have hgC : g.get? C = none := by
    cases e : g.get? C with
    | none => rfl
    | some o => exact absurd (Heap.lt_size e) (Nat.not_lt_of_le (Nat.le_trans F.above (Nat.le_of_lt (Nat.lt_trans (Nat.lt_of_lt_of_le hLs hsD) hDC))))
  refine fin h₃ _ ⟨F₂.ns.at' fun o e => hs₃.extBut _ o hLC e, fun b o e => hs₃.extBut b o (fun q => by rw [q, hgC] at e; cases e) (F₂.keep b o e), F₂.above⟩ fun b o n1 n2 e => hs₃.extBut b o n2 (hs₂.extBut b o n1 e)
def InGT (g : Heap) (tr : List (Addr × Obj)) (p : Addr × Obj) : Prop := g.get? p.1 = some p.2 ∨ p ∈ tr
theorem InGT.at {g h : Heap} {tr : List (Addr × Obj)} {p : Addr × Obj} (x : InGT g tr p) (k : ∀ a o, g.get? a = some o → h.get? a = some o) (kt : ∀ p ∈ tr, h.get? p.1 = some p.2) : h.get? p.1 = some p.2 :=
  x.elim (k _ _) (kt p)
def ThingIn (g : Heap) (tr : List (Addr × Obj)) (w : World) (lm0 : Nat) (t : Addr) (f : Bool) : Prop := ∃ lst, Shape w t f lst ∧ ∀ p ∈ lst, lm0 ≤ p.1 ∧ InGT g tr p
theorem ThingIn.at {g h : Heap} {tr : List (Addr × Obj)} {w : World} {lm0 : Nat} {t : Addr} {f : Bool} (T : ThingIn g tr w lm0 t f) (k : ∀ a o, g.get? a = some o → h.get? a = some o) (kt : ∀ p ∈ tr, h.get? p.1 = some p.2) : ThingAt w lm0 h t f :=
  let ⟨l, S, D⟩ := T; ⟨l, S, fun p hp => ⟨(D p hp).1, (D p hp).2.at k kt⟩⟩
theorem ThingIn.sub {g : Heap} {tr tr' : List (Addr × Obj)} {w : World} {lm0 : Nat} {t : Addr} {f : Bool} (T : ThingIn g tr w lm0 t f) (k : ∀ p ∈ tr, p ∈ tr') : ThingIn g tr' w lm0 t f :=
  let ⟨l, S, D⟩ := T; ⟨l, S, fun p hp => ⟨(D p hp).1, (D p hp).2.elim .inl fun h => .inr (k p h)⟩⟩
def MadeIn (g : Heap) (tr : List (Addr × Obj)) (w : World) (lm0 : Nat) (v : Value) : Prop := ∃ tp t f, v = .ref tp ∧ InGT g tr (tp, tupO [.ref t, .bool f]) ∧ ThingIn g tr w lm0 t f
open Classical in
noncomputable def pk (h : Heap) (v : Value) : Addr × Bool := if e : ∃ p : Addr × Bool, ∃ tp, v = .ref tp ∧ h.get? tp = some (tupO [.ref p.1, .bool p.2]) then Classical.choose e else (0, true)
theorem pk_in {g h : Heap} {tr : List (Addr × Obj)} {w : World} {lm0 : Nat} {v : Value} (M : MadeIn g tr w lm0 v) (k : ∀ a o, g.get? a = some o → h.get? a = some o) (kt : ∀ p ∈ tr, h.get? p.1 = some p.2) :
    ∃ tp, v = .ref tp ∧ InGT g tr (tp, tupO [.ref (pk h v).1, .bool (pk h v).2]) ∧ ThingIn g tr w lm0 (pk h v).1 (pk h v).2 := by
  obtain ⟨tp, t, f, rfl, hT, T⟩ := M
  have ht := hT.at k kt
  have e : ∃ p : Addr × Bool, ∃ tp', Value.ref tp = .ref tp' ∧ h.get? tp' = some (tupO [.ref p.1, .bool p.2]) := ⟨(t, f), tp, rfl, ht⟩
  have e1 : pk h (.ref tp) = (t, f) := by
    unfold pk
    rw [dif_pos e]
    obtain ⟨tp', q, ht'⟩ := Classical.choose_spec e
    have q' : tp = tp' := by simpa using q
    subst q'
    rw [ht] at ht'
    have := Option.some.inj ht'
    have h1 : ([Value.ref t, .bool f] : List Value).toArray = [Value.ref (Classical.choose e).1, .bool (Classical.choose e).2].toArray := by
      have := congrArg Obj.data this
      simpa using this
    have h3 : ([Value.ref t, .bool f] : List Value) = [Value.ref (Classical.choose e).1, .bool (Classical.choose e).2] := congrArg Array.toList h1
    obtain ⟨a1, b1⟩ := List.cons.inj h3
    exact (Prod.ext (Value.ref.inj a1) (Value.bool.inj (List.cons.inj b1).1)).symm
  rw [e1]
  exact ⟨tp, rfl, hT, T⟩
def KVAt (h : Heap) (v : Value) (p : Value × Value) : Prop := ∃ t dt es n, v = .ref t ∧ h.get? t = some (instObj 65 dt) ∧ h.get? dt = some (dictOf es n) ∧ getL (Str.ofString "kind") es = some (some p.1) ∧ getL (Str.ofString "value") es = some (some p.2) ∧ handedIn p.1 = true ∧ handedIn p.2 = true
theorem fr_self {g h : Heap} {L : Addr} {m : Str → Option Value} (_ : Fr g L h m) : ∃ M : Str → Option Value, M = m := ⟨_, rfl⟩
theorem fr_eq {g h : Heap} {L : Addr} {m m' : Str → Option Value} (F : Fr g L h m) (e : ∀ q, m q = m' q) : Fr g L h m' := funext e ▸ F
theorem cutS {w : World} {A : Around} {E : Value → Shared → Prop} {s : Shared} {g : Heap} {L : Addr} {news : List (Addr × Obj)} {env : Env} {st : Stmt} {rest : List Stmt} {Q : Flow → Shared → Prop} (P : Value → Prop) (Mf : Value → Str → Option Value) (_N : News g L s.heap news)
    (h1 : wpC (model PG w) A (exec st env) (fun fl s' => fl = .next ∧ ∃ fv h tk, P fv ∧ s' = ⟨h, s.gens, s.drawn, tk, s.os⟩ ∧ Fr g L h (Mf fv) ∧ News g L h news) E s)
    (h2 : ∀ fv h tk, P fv → Fr g L h (Mf fv) → News g L h news → wpC (model PG w) A (execs rest env) Q E ⟨h, s.gens, s.drawn, tk, s.os⟩) : wpC (model PG w) A (execs (st :: rest) env) Q E s :=
  wpC_execs_cons (wpC_mono h1 (fun fl s' h => by obtain ⟨rfl, fv, h, tk, p, rfl, F, N⟩ := h; exact h2 fv h tk p F N) fun _ _ e => e)
def RowP4 (its : List (Addr × Bool)) (rx : Int) (fv : Value) : Prop := (rx < (its.length : Int) ∧ ∃ tk, fv = .bytes (asBytes "limitcheck") tk) ∨ ((its.length : Int) ≤ rx ∧ fv = .none)
def RowP5 (its : List (Addr × Bool)) (rx : Int) (gl : Bool) (fv : Value) : Prop := (rx < (its.length : Int) ∧ ∃ tk, fv = .bytes (asBytes "limitcheck") tk) ∨ ((its.length : Int) ≤ rx ∧ gl = true ∧ (∃ p ∈ its, p.2 = false) ∧ ∃ tk, fv = .bytes (asBytes "invalidaccess") tk) ∨ ((its.length : Int) ≤ rx ∧ (gl = true → ∀ p ∈ its, p.2 = true) ∧ fv = .none)
def RowBad (its : List (Addr × Bool)) (rx vm u0 u1 : Int) (gl : Bool) (nm : String) : Prop :=
  (nm = "limitcheck" ∧ rx < (its.length : Int)) ∨ (nm = "invalidaccess" ∧ (its.length : Int) ≤ rx ∧ gl = true ∧ ∃ p ∈ its, p.2 = false) ∨ (nm = "VMerror" ∧ (its.length : Int) ≤ rx ∧ (gl = true → ∀ p ∈ its, p.2 = true) ∧ vm < u0 + u1 + 8 * (its.length : Int))
def RowGood (its : List (Addr × Bool)) (rx vm u0 u1 : Int) (gl : Bool) : Prop := (its.length : Int) ≤ rx ∧ (gl = true → ∀ p ∈ its, p.2 = true) ∧ u0 + u1 + 8 * (its.length : Int) ≤ vm
def RowF (its : List (Addr × Bool)) (rx vm u0 u1 : Int) (gl : Bool) (fv : Value) : Prop := (∃ nm tk, fv = .bytes (asBytes nm) tk ∧ RowBad its rx vm u0 u1 gl nm) ∨ (fv = .none ∧ RowGood its rx vm u0 u1 gl)
theorem row_bad_good {its : List (Addr × Bool)} {rx vm u0 u1 : Int} {gl : Bool} {nm : String} (B : RowBad its rx vm u0 u1 gl nm) (G : RowGood its rx vm u0 u1 gl) : False := by
  obtain ⟨g1, g2, g3⟩ := G
  rcases B with ⟨_, b⟩ | ⟨_, _, b1, p, hp, b2⟩ | ⟨_, _, _, b⟩
  · omega
  · have := g2 b1 p hp; rw [b2] at this; cases this
  · omega
theorem row_bad_bad {its : List (Addr × Bool)} {rx vm u0 u1 : Int} {gl : Bool} {nm nm' : String} (B : RowBad its rx vm u0 u1 gl nm) (B' : RowBad its rx vm u0 u1 gl nm') : nm = nm' := by
  rcases B with ⟨rfl, b⟩ | ⟨rfl, b0, b1, p, hp, b2⟩ | ⟨rfl, b0, b1, b2⟩ <;> rcases B' with ⟨rfl, d⟩ | ⟨rfl, d0, d1, p', hp', d2⟩ | ⟨rfl, d0, d1, d2⟩ <;> first | rfl | (exfalso; omega) | (exfalso; (have := d1 b1 p hp); rw [b2] at this; cases this) | (exfalso; (have := b1 d1 p' hp'); rw [d2] at this; cases this)
theorem any_flags {f : Value → Addr × Bool} {ys : List Value} : (ys.map fun v => Value.bool (f v).2).any isFalse = (ys.map f).any (fun p => p.2 == false) := by
  induction ys with
  | nil => rfl
  | cons y r ih => simp only [List.map_cons, List.any_cons, ih]; rfl
theorem any_true {its : List (Addr × Bool)} (h : its.any (fun p => p.2 == false) = true) : ∃ p ∈ its, p.2 = false := by
  obtain ⟨p, hp, q⟩ := List.any_eq_true.mp h
  exact ⟨p, hp, by simpa using q⟩
theorem any_false {its : List (Addr × Bool)} (h : its.any (fun p => p.2 == false) = false) : ∀ p ∈ its, p.2 = true := fun p hp => by
  have := List.any_eq_false.mp h p hp
  simpa using this
theorem again_eq {x : Str} {v v0 : Option Value} {m : Str → Option Value} (q : Str) : (if q = x then v else if q = x then v0 else m q) = (if q = x then v else m q) := by
  by_cases e : q = x
  · rw [if_pos e, if_pos e]
  · rw [if_neg e, if_neg e, if_neg e]
theorem again_fr {g h : Heap} {L : Addr} {x : Str} {v v0 : Option Value} {m : Str → Option Value} (F : Fr g L h (fun q => if q = x then v else if q = x then v0 else m q)) : Fr g L h (fun q => if q = x then v else m q) := fr_eq F again_eq
theorem paired_get {α β : Type} {F : α → β → Prop} : ∀ {xs : List α} {ys : List β}, Paired F xs ys → ∀ (j : Nat) (h1 : j < xs.length) (h2 : j < ys.length), F xs[j] ys[j]
  := by
  intro xs ys P
  induction P with
  | nil => exact fun j h1 _ => absurd h1 (Nat.not_lt_zero _)
  | cons h r ih =>
    intro j
    cases j with
    | zero => exact fun _ _ => h
    | succ j => exact fun h1 h2 => ih j (Nat.lt_of_succ_lt_succ h1) (Nat.lt_of_succ_lt_succ h2)
def KVTup (h : Heap) (kv : Value → Value × Value) (v y : Value) : Prop := ∃ T, y = .ref T ∧ h.get? T = some (tupO [(kv v).1, (kv v).2])
open PySem.SeqAt in
theorem eq_kv {prog : Program} {w : World} {A : Around} {E : Value → Shared → Prop} {s : Shared} {g : Heap} {L a b : Addr} {news : List (Addr × Obj)} {vs : List Value} {ts1 ts2 : Array Value} {c d : Nat} {kv : Value → Value × Value} {Q : Value → Shared → Prop} (N : News g L s.heap news) (h1 : (a, listOf ts1 c) ∈ news) (h2 : (b, listOf ts2 d) ∈ news)
    (P1 : Paired (KVTup s.heap kv) vs ts1.toList) (P2 : Paired (KVTup s.heap kv) vs ts2.toList) (hu : A.units + 1 < cLine) (h : Q (.bool true) s) : wpAny (model prog w) A (compareOp .Eq (.ref a) (.ref b)) Q E s := by
  have e1 : vs.length = ts1.size := by have := P1.length; simpa using this
  have e2 : vs.length = ts2.size := by have := P2.length; simpa using this
  refine eq_lists (N.isList h1) (N.isList h2) (by omega) (Nat.lt_of_succ_lt hu) (fun j k1 k2 => ?_) h
  have jv : j < vs.length := by omega
  obtain ⟨T1, q1, o1⟩ := paired_get P1 j jv (by simpa using k1)
  obtain ⟨T2, q2, o2⟩ := paired_get P2 j jv (by simpa using k2)
  have r1 : ts1[j] = .ref T1 := by rw [← q1]; simp
  have r2 : ts2[j] = .ref T2 := by rw [← q2]; simp
  rw [r1, r2]
  exact eqAt_tups (vs := #[(kv vs[j]).1, (kv vs[j]).2]) (ws := #[(kv vs[j]).1, (kv vs[j]).2]) ⟨_, o1, rfl, _, rfl⟩ ⟨_, o2, rfl, _, rfl⟩ rfl hu fun i _ _ => EqAt.same _
def StrEnts (w : World) : List DictEntry → List (Str × Value) → Prop
  | [], [] => True
  | e :: es, kv :: kvs => (∃ t, e = ⟨PyData.keyHash w.params kv.1, .str kv.1 t, kv.2⟩) ∧ StrEnts w es kvs
  | _, _ => False
theorem str_ents {prog : Program} {w : World} : ∀ {es : List DictEntry} {kvs : List (Str × Value)}, Pairs (strKind prog w) es kvs → (∀ e ∈ es, ∃ k, (strKind prog w).is k e.key = true ∧ e.hash = (strKind prog w).hash k) → StrEnts w es kvs
  := by
  intro es kvs P
  induction P with
  | nil => exact fun _ => trivial
  | @cons e kv _ _ h1 h2 r ih =>
    intro hk
    refine ⟨?_, ih fun e' he' => hk e' (.tail _ he')⟩
    obtain ⟨k, h3, h4⟩ := hk e (.head _)
    obtain ⟨t, ht⟩ := Value.isStrOf_shape h1
    obtain ⟨t', ht'⟩ := Value.isStrOf_shape h3
    have q : kv.1 = k := by rw [ht] at ht'; injection ht'
    subst q
    obtain ⟨hh, hkey, hval⟩ := e
    simp only at ht h2 h4
    subst ht h2 h4
    exact ⟨t, rfl⟩
theorem dict_str {prog : Program} {w : World} {h : Heap} {d : Addr} {kvs : List (Str × Value)} (D : h.DictOf (strKind prog w) d kvs) : ∃ es n, h.get? d = some (dictOf es n) ∧ StrEnts w es kvs := by
  obtain ⟨⟨c, dd, dt, sl⟩, es, ep, ho, ⟨h1, h2, h3⟩, hd, hk, hp, _⟩ := D
  simp only at h1 h2 h3 hd
  subst h1 h2 h3 hd
  exact ⟨es.toList, ep, ho, str_ents hp fun e he => hk e (by simpa using he)⟩
theorem new_two {b h0 g h : Heap} {led news : List (Addr × Obj)} {L : Addr} {p q : Addr × Obj} (Z : Got b h0 g led L) (N : News g L h news) (m1 : p ∈ news) (m2 : q ∈ news) (l1 : @LT.lt Nat _ L p.1) (l2 : @LT.lt Nat _ L q.1) : New h0 h [p, q] := (allc (⟨by rw [Z.sz]; exact Nat.le_of_lt l1, (N _ m1).1⟩) (allc (⟨by rw [Z.sz]; exact Nat.le_of_lt l2, (N _ m2).1⟩) fun _ q => nomatch q))
theorem is_str {prog : Program} {w : World} {x : Str} {t : Tok} : (strKind prog w).is x (.str x t) = true := by
  show Value.isStrOf x (.str x t) = true
  simp [Value.isStrOf]
section
variable {prog : Program} {w : World} {A : Around} {E : Value → Shared → Prop} {s : Shared} {env : Env} {g : Heap} {L d : Addr} {m : Str → Option Value} {news : List (Addr × Obj)} {gN : Obj → List (Addr × Obj)} {o : Obj} {Q : Value → Shared → Prop}
theorem my_disp {keys : List (Option Expr)} {values : List Expr} {pos : Pos} (F : Fr g L s.heap m) (N : News g L s.heap news) (hall : keys.all (·.isSome) = true) (hl : keys.length = values.length) (h0 : keys ≠ []) (hlen : keys.length ≤ 15)
    (h : ∀ (d : Addr) h' o, Fr g L h' m → News g L h' ((d, o) :: news) → (∀ p ∈ news, p.1 < d) → @LT.lt Nat _ L d → o.IsDictOf (PySem.strKind prog w) [] →
      wpAny (model prog w) A (evalPairs (pairTrees keys values env pos)) (fun vs s₁ => PySem.W.KdnMade prog w (PySem.strKind prog w) d Q vs s₁) E { s with heap := h' }) :
    wpAny (model prog w) A (eval (.Dict keys values pos) env) Q E s := by
  obtain ⟨o, ho, hd⟩ := Heap.dictOf_iff.mp (Heap.DictOf.new (knd := PySem.strKind prog w) s.heap)
  exact Dict_made (knd := PySem.strKind prog w) F hall hl h0 hlen fun F' => wpAny_mono (h _ _ o F' (news_pushed F N (fun b x e => Heap.get?_push_of_some _ e) ho rfl) (fun p hp => Heap.lt_size (N p hp).1) F.ns.lt hd) (fun _ _ x => x) fun _ _ x => x
theorem my_kdn {vs : List (Value × Value)} {kvs : List (Str × Value)} (F : Fr g L s.heap m) (N : News g L s.heap news) (U : UpdF d o news gN) (hd : o.IsDictOf (PySem.strKind prog w) []) (hc : Carries (PySem.strKind prog w) vs kvs) (hm : merged [] kvs = kvs)
    (h : ∀ h' es n tk, StrEnts w es kvs → Fr g L h' m → News g L h' (gN (dictOf es n)) → Q (.ref d) { s with heap := h', toks := tk }) : PySem.W.KdnMade prog w (PySem.strKind prog w) d Q vs s := by
  obtain ⟨pre, post, e1, e2, q1, q2⟩ := U.split
  have hmem : (d, o) ∈ news := by rw [e1]; exact List.mem_append_right _ (.head _)
  refine ⟨kvs, hc, Heap.dictOf_iff.mpr ⟨o, (N _ hmem).1, hd⟩, fun h' hD hs => ?_⟩
  rw [hm] at hD
  obtain ⟨es, n, ho, hE⟩ := dict_str hD
  refine h h' es n _ hE ⟨F.ns.sameBut hs (N _ hmem).2.1.symm, fun b ob e => (hs.2 b fun q => ?_).trans (F.keep b ob e), F.above⟩ fun p hp => ?_
  · rw [q, (N _ hmem).2.2] at e; cases e
  · rw [e2] at hp
    have off : ∀ p ∈ news, p.1 ≠ d → h'.get? p.1 = some p.2 ∧ p.1 ≠ L ∧ g.get? p.1 = none := fun p hp hn => ⟨(hs.2 p.1 hn).trans (N p hp).1, (N p hp).2⟩
    rcases List.mem_append.mp hp with hp | hp
    · exact off p (by rw [e1]; exact List.mem_append_left _ hp) (q1 p hp)
    · rcases List.mem_cons.mp hp with rfl | hp
      · exact ⟨ho, (N _ hmem).2⟩
      · exact off p (by rw [e1]; exact List.mem_append_right _ (.tail _ hp)) (q2 p hp)
end

section
variable {w : World} {A : Around} {R : Result → Shared → Prop} {s : Shared} {b : Heap} {loose : List Str} {mean : ExcName → Option Value} {mg mb : Str → Option Value}
set_option maxRecDepth 100000
set_option maxHeartbeats 4000000
theorem tail_cut {prog : Program} {E : Value → Shared → Prop} {value slice : Expr} {a L : Addr} {g : Heap} {m : Str → Option Value} {news : List (Addr × Obj)} {vs : List Value} {k : Nat} {t1 : Tok} {Q : Value → Shared → Prop} (F9 : Fr g L s.heap m) (N : News g L s.heap news) (hl : g.IsList a vs.toArray) (hz : vs.length ≤ 1000)
    (h : ∀ D h' k', Fr g L h' m → News g L h' ((D, listOf (vs.take k).toArray 0) :: news) → (∀ p ∈ news, p.1 < D) → L < D → Q (.ref D) { s with heap := h', toks := k' })
    (hs : subscripted slice false (.ref a) (.ref s.heap.objs.size) = operate [.ref s.heap.objs.size, .ref a] (getItem (.ref a) (.ref s.heap.objs.size)) := by with_unfolding_all rfl)
    (ht : ∀ r, letTemporaryGo value (.ref a) r = pure () := by intro _; with_unfolding_all rfl) :
    wpAny (model prog w) A (subscriptTail value slice (.ref a) (.ref s.heap.objs.size)) Q E { s with heap := s.heap.push { cls := .type "slice", data := .fields #[.none, .int k t1, .none] } } := by
  obtain ⟨F', N'⟩ := new_push (o := { cls := .type "slice", data := .fields #[.none, .int k t1, .none] }) rfl F9 N
  have hl' := hl.at (h' := s.heap.push { cls := .type "slice", data := .fields #[.none, .int k t1, .none] }) fun o e => F'.keep _ o e
  obtain ⟨F2, N2⟩ := new_push (o := listOf (vs.take k).toArray 0) rfl F' N'
  obtain ⟨o, hLo, _⟩ := fr_obj F'
  refine tail_of_ItemOn ⟨"list", _, slot_list_getitem.lookup, hl'.typeIs, wpAny_getItem_list_slice (s := { s with heap := s.heap.push _ }) hl' (Heap.IsSliceOf.new _ _ _ _) .none (.int _ t1) .none (by simp) ?_ (by rw [List.size_toArray, sizeLine_eq]; omega)⟩ hs ht
  have e : slicePick vs.toArray none (some (k : Int)) none = (vs.take k).toArray := by
    rw [slicePick_plain]
    simp only [Option.elim, clipAt_nat, List.size_toArray, List.drop_zero, Nat.sub_zero]
    apply Array.toList_inj.mp
    simp [List.take_eq_take_iff]
  rw [e]
  exact h _ _ _ F2 (fun p hp => N2 p (by rcases List.mem_cons.mp hp with rfl | hp; exact .head _; exact .tail _ (.tail _ hp))) (fun p hp => Heap.lt_size (N' p (.tail _ hp)).1) (Heap.lt_size hLo)
theorem ints_take {vs : List Value} {ns : List Int} (h : IntsAre vs ns) : ∀ k, IntsAre (vs.take k) (ns.take k) := by
  induction h with
  | nil => intro k; simp; exact .nil
  | cons n t _ ih =>
    intro k
    cases k with
    | zero => exact .nil
    | succ k => exact .cons n t (ih k)
theorem ints_mem {vs : List Value} {ns : List Int} (h : IntsAre vs ns) : ∀ v ∈ vs, ∃ i t, v = .int i t := by
  induction h with
  | nil => intro v hv; cases hv
  | cons n t _ ih =>
    intro v hv
    rcases List.mem_cons.mp hv with rfl | hv
    · exact ⟨n, t, rfl⟩
    · exact ih v hv
theorem ints_paired {vs ys : List Value} (h : Paired (fun _ y => ∃ i t, y = Value.int i t) vs ys) : ∃ ns, IntsAre ys ns ∧ ns.length = vs.length := by
  induction h with
  | nil => exact ⟨[], .nil, rfl⟩
  | cons h _ ih =>
    obtain ⟨i, t, rfl⟩ := h
    obtain ⟨ns, h1, h2⟩ := ih
    exact ⟨i :: ns, .cons i t h1, by rw [List.length_cons, List.length_cons, h2]⟩
theorem kwG11g111 : True := by
  k_with "subscriptTail" => (k_here; (with_reducible show wpAny _ _ (subscriptTail _ (Expr.Slice none _ none _) (Value.ref _) (Value.ref _)) _ _ _); (with_reducible rename Fr _ _ _ _ => sF'); (with_reducible rename News _ _ _ _ => sN'); k_dflt (refine' tail_cut (s := ⟨_, _, _, _, _⟩) (k := 60) sF' sN' ?qlx281 ?qzx281 ?_; (case qlx281 => assumption); (case qzx281 => omega)); intro D' h' tk' F' N' l1 l2; (try k_lt l1); (try k_sweep))
  k_with "eval Dict" => ((fail_if_success (fail_if_success (have zz := hz))); (k_here; k_dflt (refine' my_disp ?qFx19c ?qNx19c ?qax19c ?qlx19c ?qex19c ?qnx19c ?_; (case qFx19c => k_asm); (case qNx19c => first | k_asm | exact News.nil); (case qax19c => rfl); (case qlx19c => rfl); (case qex19c => exact List.cons_ne_nil _ _); (case qnx19c => exact Nat.le_of_ble_eq_true rfl)); intro d' h' o' F' N' l1 l2 hd'; (try k_lt l1)))
  k_with "my gokd" => ((try k_fold); repeat' ((fail_if_success (with_reducible show PySem.W.KdnMade _ _ _ _ _ _ _)); first | (k_unfold; (try dsimp only)) | (walk1; (try dsimp only)) | (dsimp only; walk1)))
  exact trivial
end
noncomputable section
namespace K_deck_c
def KP (w : World) (R : Result → Shared → Prop) (s : Shared) (b : Heap) (loose : List Str) (mean : ExcName → Option Value) (mg mb : Str → Option Value) (l : Addr) (vs : List Value) (ns : List Int) : Prop := ∀ {A : Around} (st : b.StaysIn s.heap) (G : Gd w loose mean mg mb b) (hl : s.heap.IsList l vs.toArray) (hv : IntsAre vs ns) (hz : vs.length ≤ 63) (hA : A = { depth := 830, units := 4400, frames := none, handled := none, guards := none }) (hR : ∀ D C vs' ns' h' tks kt k1 k2 n c, After s.heap h' [] → New s.heap h' [(D, deckO w C 0 kt k1 k2 n), (C, listOf vs'.toArray c)] → @LT.lt Nat _ D C → IntsAre vs' ns' → ns'.length ≤ 60 → R (.ok (.ret (.ref D))) ⟨h', s.gens, s.drawn, tks, s.os⟩), codeAny (model PG w) A (.call (.ref 364) ⟨[.ref l], []⟩) R s
def KT (x : (World × (Result → Shared → Prop) × Shared × Heap × List Str × (ExcName → Option Value)) × ((Str → Option Value) × (Str → Option Value) × Addr × List Value × List Int)) : Prop := KP x.1.1 x.1.2.1 x.1.2.2.1 x.1.2.2.2.1 x.1.2.2.2.2.1 x.1.2.2.2.2.2 x.2.1 x.2.2.1 x.2.2.2.1 x.2.2.2.2.1 x.2.2.2.2.2
theorem Kex : ∃ x, KT x → ∀ y, KT y := drink ((anyW, (fun _ _ => True), {}, default, default, default), (default, default, default, default, default)) _
@[irreducible] def Kx0 := Classical.choose Kex
@[irreducible] def w := Kx0.1.1
@[irreducible] def R := Kx0.1.2.1
@[irreducible] def s := Kx0.1.2.2.1
@[irreducible] def b := Kx0.1.2.2.2.1
@[irreducible] def loose := Kx0.1.2.2.2.2.1
@[irreducible] def mean := Kx0.1.2.2.2.2.2
@[irreducible] def mg := Kx0.2.1
@[irreducible] def mb := Kx0.2.2.1
@[irreducible] def l := Kx0.2.2.2.1
@[irreducible] def vs := Kx0.2.2.2.2.1
@[irreducible] def ns := Kx0.2.2.2.2.2
set_option maxRecDepth 100000
set_option maxHeartbeats 4000000
theorem at0 : KP w R s b loose mean mg mb l vs ns := by
  intro A st G hl hv hz hA hR
  subst hA
  have Xs := G.X.keeps st
  have D : Led b s.heap [] := fun _ hp => (nomatch hp)
  refine' enterE (binds := [(Str.ofString "script", .ref l)]) st G D ?k6 ?k7 ?k8 ?k9 ?kB ?_ ?c2 ?c3 ?c4 ?c5
  walk_at "my enter"
  intro g L' h' Z F' N'
  have G' := G.keeps Z.st
  have ⟨X', T', _, _, _, _, _⟩ := G'
  have hlg : g.IsList l vs.toArray := isList_off Z.kp hl (by intro q; cases q)
  walk_at "my gocomp"
  refine' my_compN (fun _ _ _ y => ∃ i t, y = Value.int i t) (fun _ _ _ _ _ r _ => r) rfl ?qclos ?qcell ?qkind ?qnames (.inl fun _ _ => rfl) ?qmain
  case qclos => rfl
  case qcell => decide
  case qkind => rfl
  case qnames => decide
  case qmain =>
    walk_at "my goex"
    (try k_unfold); (try dsimp only)
    (rename Fr _ _ _ _ => F2); (rename News _ _ _ _ => N2)
    refine' ⟨_, vs.take 60, g, L', _, _, rfl, N2.isList ?qm, ?qz, F2, N2, ?qt, ?qturn, ?qfin⟩
    case qm => k_mem
    case qz => rw [List.length_take]; omega
    case qt => intro _ _ _ q; cases q
    case qturn =>
      intro C v h₂ tk m₂ E' hvm hC hn kp
      obtain ⟨i, t, rfl⟩ := ints_mem (ints_take hv 60) v hvm
      refine wpAny_assign_Name (wpAny_storeName_local (by rfl) hn (fun h₃ hn₃ hs₃ => ?_) (by rfl))
      have sub : ∀ a o, g.get? a = some o → (under h₃ C []).get? a = some o := fun a o e =>
        have l := Nat.lt_trans (Heap.lt_size (F2.keep a o e)) hC
        under_get l (hs₃.extBut a o (Nat.ne_of_lt l) (kp a o (F2.keep a o e))) (by intro q; cases q)
      have F3 := under_fr (rows := []) hn₃
      have N3 : News (under h₃ C []) C h₃ [] := fun _ hp => nomatch hp
      have X3 := X'.keeps sub
      have T3 := T'.keeps sub
      clear F2 N2 X' T' G' Xs
      walk_at "my goex"
      (try k_unfold); (try dsimp only)
      all_goals first
        | exact ⟨h₃, _, _, rfl, ⟨_, _, rfl⟩, hn₃, fun b o hb e => hs₃.extBut b o hb e⟩
        | exact (default : Str)
        | exact Value.none
        | exact ([] : List (Str × Addr))
        | exact (0 : Nat)
    case qfin =>
      intro Dl C ys c h' tk hD hDC kk F4 N4 P
      have hN := fun p hp => Nat.lt_trans (Heap.lt_size (N2 p hp).1) hD
      (try k_lt hN)
      clear F2 N2
      obtain ⟨ns', hi, hlen⟩ := ints_paired P
      obtain ⟨yl, rfl⟩ : ∃ yl : List Value, ys = yl.toArray := ⟨ys.toList, by simp⟩
      (try k_unfold); (try dsimp only)
      walk_at "my gokd"
      (rename Fr _ _ _ _ => F7); (rename News _ _ _ _ => N7)
      refine' my_kdn (kvs := [(Str.ofString "cells", _), (Str.ofString "at", _)]) F7 N7 ?qU ?qI ⟨is_str, rfl, is_str, rfl, trivial⟩ rfl ?_
      case qU => k_updF
      case qI => assumption
      intro h₇ es n₇ tk₇ hE F8 N8
      (try dsimp only at N8)
      clear F7 N7
      cases es with
      | nil => exact hE.elim
      | cons e1 r =>
        cases r with
        | nil => exact hE.2.elim
        | cons e2 r =>
          cases r with
          | cons e3 r => exact hE.2.2.elim
          | nil =>
            obtain ⟨⟨t1, rfl⟩, ⟨t2, rfl⟩, _⟩ := hE
            have hl9 : ns'.length ≤ 60 := by rw [hlen, List.length_take]; omega
            refine' hR _ Dl yl ns' h₇ _ _ _ _ n₇ c (after_part F8 N8 Z ?qc ?ql) (new_two Z N8 ?qm1 ?qm2 ?qs1 ?qs2) ?qlt (by simpa using hi) hl9
            case qc => walk_at "my sub"
            case ql => walk_at "my part"
            case qm1 => k_mem
            case qm2 => k_mem
            case qs1 => assumption
            case qs2 => omega
            case qlt => omega
end K_deck_c
end
theorem deck_c {w : World} {R : Result → Shared → Prop} {s : Shared} {b : Heap} {loose : List Str} {mean : ExcName → Option Value} {mg mb : Str → Option Value} {l : Addr} {vs : List Value} {ns : List Int} : K_deck_c.KP w R s b loose mean mg mb l vs ns :=
  @Classical.choose_spec _ _ K_deck_c.Kex (by with_unfolding_all exact @K_deck_c.at0) ((w, R, s, b, loose, mean), (mg, mb, l, vs, ns))
section
end

noncomputable section
namespace K_limits_init
def KP (w : World) (R : Result → Shared → Prop) (s : Shared) (b : Heap) (loose : List Str) (mean : ExcName → Option Value) (mg mb : Str → Option Value) (x dx : Addr) (tx rx ex vm : Int) (c0 c1 c2 c3 : Tok) : Prop := ∀ {A : Around} (st : b.StaysIn s.heap) (G : Gd w loose mean mg mb b) (D : Led b s.heap [(x, instObj 270 dx), (dx, dictOf [] 0)]) (hlt : @LT.lt Nat _ dx x) (hA : A = { depth := 850, units := 4500, frames := none, handled := none, guards := none }) (hR : ∀ h' tks lim n, After s.heap h' [(dx, dictOf lim n)] → getL (Str.ofString "vm") lim = some (some (.int vm c3)) → getL (Str.ofString "text") lim = some (some (.int tx c0)) → getL (Str.ofString "row") lim = some (some (.int rx c1)) → getL (Str.ofString "entries") lim = some (some (.int ex c2)) → R (.ok (.ret .none)) ⟨h', s.gens, s.drawn, tks, s.os⟩), codeAny (model PG w) A (.call (.ref 267) ⟨[.ref x], [(Str.ofString "text", .int tx c0), (Str.ofString "row", .int rx c1), (Str.ofString "entries", .int ex c2), (Str.ofString "vm", .int vm c3)]⟩) R s
def KT (x : (World × (Result → Shared → Prop) × Shared × Heap × List Str × (ExcName → Option Value)) × ((Str → Option Value) × (Str → Option Value) × Addr × Addr × Int × Int) × (Int × Int × Tok × Tok × Tok × Tok)) : Prop := KP x.1.1 x.1.2.1 x.1.2.2.1 x.1.2.2.2.1 x.1.2.2.2.2.1 x.1.2.2.2.2.2 x.2.1.1 x.2.1.2.1 x.2.1.2.2.1 x.2.1.2.2.2.1 x.2.1.2.2.2.2.1 x.2.1.2.2.2.2.2 x.2.2.1 x.2.2.2.1 x.2.2.2.2.1 x.2.2.2.2.2.1 x.2.2.2.2.2.2.1 x.2.2.2.2.2.2.2
theorem Kex : ∃ x, KT x → ∀ y, KT y := drink ((anyW, (fun _ _ => True), {}, default, default, default), (default, default, default, default, default, default), (default, default, default, default, default, default)) _
@[irreducible] def Kx0 := Classical.choose Kex
@[irreducible] def w := Kx0.1.1
@[irreducible] def R := Kx0.1.2.1
@[irreducible] def s := Kx0.1.2.2.1
@[irreducible] def b := Kx0.1.2.2.2.1
@[irreducible] def loose := Kx0.1.2.2.2.2.1
@[irreducible] def mean := Kx0.1.2.2.2.2.2
@[irreducible] def mg := Kx0.2.1.1
@[irreducible] def mb := Kx0.2.1.2.1
@[irreducible] def x := Kx0.2.1.2.2.1
@[irreducible] def dx := Kx0.2.1.2.2.2.1
@[irreducible] def tx := Kx0.2.1.2.2.2.2.1
@[irreducible] def rx := Kx0.2.1.2.2.2.2.2
@[irreducible] def ex := Kx0.2.2.1
@[irreducible] def vm := Kx0.2.2.2.1
@[irreducible] def c0 := Kx0.2.2.2.2.1
@[irreducible] def c1 := Kx0.2.2.2.2.2.1
@[irreducible] def c2 := Kx0.2.2.2.2.2.2.1
@[irreducible] def c3 := Kx0.2.2.2.2.2.2.2
set_option maxRecDepth 100000
set_option maxHeartbeats 4000000
@[irreducible] def g : Heap := hideAll s.heap (([(x, instObj 270 dx), (dx, dictOf [] 0)] : List (Addr × Obj)).map (·.1))
@[irreducible] def L' : Addr := s.heap.objs.size
theorem KgE  : g = hideAll s.heap (([(x, instObj 270 dx), (dx, dictOf [] 0)] : List (Addr × Obj)).map (·.1)) := by with_unfolding_all rfl
theorem KlE : L' = s.heap.objs.size := by with_unfolding_all rfl
theorem at0 : KP w R s b loose mean mg mb x dx tx rx ex vm c0 c1 c2 c3 := by
  intro A st G D hlt hA hR
  subst hA
  have Xs := G.X.keeps st
  refine' enterE' KgE KlE (binds := [(Str.ofString "self", .ref x), (Str.ofString "operands", .int 500 537), (Str.ofString "dicts", .int 20 538), (Str.ofString "frames", .int 250 539), (Str.ofString "saves", .int 15 540), (Str.ofString "gstates", .int 31 541), (Str.ofString "text", .int tx c0), (Str.ofString "row", .int rx c1), (Str.ofString "entries", .int ex c2), (Str.ofString "word", .int 127 545), (Str.ofString "path", .int 1500 546), (Str.ofString "dash", .int 11 547), (Str.ofString "files", .int 15 548), (Str.ofString "system", .int 600 549), (Str.ofString "vm", .int vm c3)]) st G D ?k6 ?k7 ?k8 ?k9 ?kB ?_ ?c2 ?c3 ?c4 ?c5
  walk_at "my enter"
  intro h' Z F' N'
  have G' := G.keeps Z.st
  have ⟨X', T', _, _, _, _, _⟩ := G'
  walk_at "my go"
  rename Fr _ _ _ _ => F9
  rename News _ _ _ _ => N9
  refine' hR _ _ _ _ (after_part F9 N9 Z ?c ?l) ?g1 ?g2 ?g3 ?g4
  case c => walk_at "my sub"
  case l => walk_at "my part"
  case g1 => k_get
  case g2 => k_get
  case g3 => k_get
  case g4 => k_get
end K_limits_init
end
theorem limits_init {w : World} {R : Result → Shared → Prop} {s : Shared} {b : Heap} {loose : List Str} {mean : ExcName → Option Value} {mg mb : Str → Option Value} {x dx : Addr} {tx rx ex vm : Int} {c0 c1 c2 c3 : Tok} : K_limits_init.KP w R s b loose mean mg mb x dx tx rx ex vm c0 c1 c2 c3 :=
  @Classical.choose_spec _ _ K_limits_init.Kex (by with_unfolding_all exact @K_limits_init.at0) ((w, R, s, b, loose, mean), (mg, mb, x, dx, tx, rx), (ex, vm, c0, c1, c2, c3))
section
end
section
variable {w : World} {A : Around} {R : Result → Shared → Prop} {s : Shared} {b : Heap} {loose : List Str} {mean : ExcName → Option Value} {mg mb : Str → Option Value}
set_option maxRecDepth 100000
set_option maxHeartbeats 4000000
def LimOk (lim : List DictEntry) (tx rx ex vm : Int) (c0 c1 c2 c3 : Tok) : Prop := getL (Str.ofString "vm") lim = some (some (.int vm c3)) ∧ getL (Str.ofString "text") lim = some (some (.int tx c0)) ∧ getL (Str.ofString "row") lim = some (some (.int rx c1)) ∧ getL (Str.ofString "entries") lim = some (some (.int ex c2))
theorem limits_c {tx rx ex vm : Int} {c0 c1 c2 c3 : Tok} (st : b.StaysIn s.heap) (G : Gd w loose mean mg mb b)
    (hA : A = { depth := 840, units := 4490, frames := none, handled := none, guards := none })
    (hR : ∀ x dx h' tks lim n, @LT.lt Nat _ dx x → After s.heap h' [] → New s.heap h' [(x, instObj 270 dx), (dx, dictOf lim n)] → LimOk lim tx rx ex vm c0 c1 c2 c3 → R (.ok (.ret (.ref x))) ⟨h', s.gens, s.drawn, tks, s.os⟩) :
    codeAny (model PG w) A (.call (.ref 270) ⟨[], [(Str.ofString "text", .int tx c0), (Str.ofString "row", .int rx c1), (Str.ofString "entries", .int ex c2), (Str.ofString "vm", .int vm c3)]⟩) R s := by
  subst hA
  obtain ⟨h, g, d, t, os⟩ := s
  refine makeA (G.X.keeps st) (by k_is) (by k_is) (by k_is) ?_
  refine codeAny_room (A' := { depth := 850, units := 4500, frames := none, handled := none, guards := none }) (limits_init (b := b) (x := h.objs.size + 1) (dx := h.objs.size) (fun a o e => made2_k _ _ (st _ _ e)) G (made2_led st) (Nat.lt_succ_self _) rfl
    fun h' tks lim n Af g1 g2 g3 g4 => ⟨rfl, hR (h.objs.size + 1) h.objs.size h' tks lim n (Nat.lt_succ_self _) (made2_after Af) (made2_new Af fun _ hp => nomatch hp) ⟨g1, g2, g3, g4⟩⟩) rfl (Nat.le_of_ble_eq_true rfl) (.inl rfl) rfl (Nat.le_of_ble_eq_true rfl)
theorem limits_w {E : Value → Shared → Prop} {Q : Value → Shared → Prop} {g : Heap} {L : Addr} {m : Str → Option Value} {tx rx ex vm : Int} {c0 c1 c2 c3 : Tok} {kw : List (Str × Value)} (F : Fr g L s.heap m) (G : Gd w loose mean mg mb b) (stg : b.StaysIn g)
    (hkw : kw = [(Str.ofString "text", .int tx c0), (Str.ofString "row", .int rx c1), (Str.ofString "entries", .int ex c2), (Str.ofString "vm", .int vm c3)])
    (hA0 : A.handled = none) (hA3 : A.depth ≤ 840) (hA4 : A.units ≤ 4490)
    (hR : ∀ x dx h' tks lim n, @LT.lt Nat _ dx x → After s.heap h' [] → New s.heap h' [(x, instObj 270 dx), (dx, dictOf lim n)] → LimOk lim tx rx ex vm c0 c1 c2 c3 → Q (.ref x) ⟨h', s.gens, s.drawn, tks, s.os⟩) :
    wpAny (model PG w) A (call (.ref 270) [] kw) Q E s := by
  subst hkw
  exact wpAny_call (codeAny_room (limits_c (A := { depth := 840, units := 4490, frames := none, handled := none, guards := none }) (b := b) (fun a o e => F.keep _ _ (stg _ _ e)) G rfl hR) hA0 hA3 (.inl rfl) rfl hA4)
end

section
variable {w : World} {A : Around} {R : Result → Shared → Prop} {s : Shared} {b : Heap} {loose : List Str} {mean : ExcName → Option Value} {mg mb : Str → Option Value}
set_option maxRecDepth 100000
set_option maxHeartbeats 4000000
theorem mk_lstF {M : Model} {E : Value → Shared → Prop} {g : Heap} {L : Addr} {m : Str → Option Value} {news : List (Addr × Obj)} {vs : List Value} {Q : Value → Shared → Prop} (F : Fr g L s.heap m) (N : News g L s.heap news) (hz : vs.length ≤ 1000)
    (h : ∀ D h', Fr g L h' m → News g L h' ((D, listOf vs.toArray 0) :: news) → (∀ p ∈ news, p.1 < D) → @LT.lt Nat _ L D → Q (.ref D) { s with heap := h' }) : wpAny M A (newList vs) Q E s := by
  unfold newList
  refine wpAny_newObj_type ?_ (by show vs.toArray.size ≤ sizeLine; rw [List.size_toArray, sizeLine_eq]; omega)
  obtain ⟨F', N'⟩ := new_push (o := listOf vs.toArray 0) rfl F N
  exact h _ _ F' N' (fun p hp => Heap.lt_size (N p hp).1) F.ns.lt
theorem kwG15g151 : True := by
  k_with "newList" => ((fail_if_success (fail_if_success (have zz := (dx, lm)))); (k_here; k_dflt (refine' mk_lstF ?qFxba9 ?qNxba9 ?qzxba9 ?_; (case qFxba9 => k_asm); (case qNxba9 => k_asm); (case qzxba9 => exact Nat.le_of_ble_eq_true rfl); k_whole); intro l' h' F' N' l1 l2; (try dsimp only at N'); (try k_lt l1); (try k_sweep)))
  exact trivial
end
noncomputable section
namespace K_maker_init
def KP (w : World) (R : Result → Shared → Prop) (s : Shared) (b : Heap) (loose : List Str) (mean : ExcName → Option Value) (mg mb : Str → Option Value) (x dx lm : Addr) : Prop := ∀ {A : Around} (st : b.StaysIn s.heap) (G : Gd w loose mean mg mb b) (D : Led b s.heap [(x, instObj 348 dx), (dx, dictOf [] 0)]) (hlt : @LT.lt Nat _ dx x) (hA : A = { depth := 850, units := 4500, frames := none, handled := none, guards := none }) (hR : ∀ sv jr mm fr h' tks a0 a1 a2 a3 t0 t1 t2 t3 t4 t5 t6 t7 t8 t9 n, @LT.lt Nat _ x sv → @LT.lt Nat _ sv jr → @LT.lt Nat _ jr mm → @LT.lt Nat _ mm fr → After s.heap h' [(dx, makerO w lm sv jr mm fr false 0 0 0 0 a0 a1 a2 a3 t0 t1 t2 t3 t4 t5 t6 t7 t8 t9 n)] →
      New s.heap h' [(sv, listOf #[] 0), (mm, dictOf [] 0)] → R (.ok (.ret .none)) ⟨h', s.gens, s.drawn, tks, s.os⟩), codeAny (model PG w) A (.call (.ref 288) ⟨[.ref x, .ref lm], []⟩) R s
def KT (x : (World × (Result → Shared → Prop) × Shared × Heap × List Str × (ExcName → Option Value)) × ((Str → Option Value) × (Str → Option Value) × Addr × Addr × Addr)) : Prop := KP x.1.1 x.1.2.1 x.1.2.2.1 x.1.2.2.2.1 x.1.2.2.2.2.1 x.1.2.2.2.2.2 x.2.1 x.2.2.1 x.2.2.2.1 x.2.2.2.2.1 x.2.2.2.2.2
theorem Kex : ∃ x, KT x → ∀ y, KT y := drink ((anyW, (fun _ _ => True), {}, default, default, default), (default, default, default, default, default)) _
@[irreducible] def Kx0 := Classical.choose Kex
@[irreducible] def w := Kx0.1.1
@[irreducible] def R := Kx0.1.2.1
@[irreducible] def s := Kx0.1.2.2.1
@[irreducible] def b := Kx0.1.2.2.2.1
@[irreducible] def loose := Kx0.1.2.2.2.2.1
@[irreducible] def mean := Kx0.1.2.2.2.2.2
@[irreducible] def mg := Kx0.2.1
@[irreducible] def mb := Kx0.2.2.1
@[irreducible] def x := Kx0.2.2.2.1
@[irreducible] def dx := Kx0.2.2.2.2.1
@[irreducible] def lm := Kx0.2.2.2.2.2
set_option maxRecDepth 100000
set_option maxHeartbeats 4000000
@[irreducible] def g : Heap := hideAll s.heap (([(x, instObj 348 dx), (dx, dictOf [] 0)] : List (Addr × Obj)).map (·.1))
@[irreducible] def L' : Addr := s.heap.objs.size
theorem KgE  : g = hideAll s.heap (([(x, instObj 348 dx), (dx, dictOf [] 0)] : List (Addr × Obj)).map (·.1)) := by with_unfolding_all rfl
theorem KlE : L' = s.heap.objs.size := by with_unfolding_all rfl
theorem at0 : KP w R s b loose mean mg mb x dx lm := by
  intro A st G D hlt hA hR
  subst hA
  have Xs := G.X.keeps st
  refine' enterE' KgE KlE (binds := [(Str.ofString "self", .ref x), (Str.ofString "limits", .ref lm)]) st G D ?k6 ?k7 ?k8 ?k9 ?kB ?_ ?c2 ?c3 ?c4 ?c5
  walk_at "my enter"
  intro h' Z F' N'
  have G' := G.keeps Z.st
  have ⟨X', T', _, _, _, _, _⟩ := G'
  have hxl : @LT.lt Nat _ x L' := Z.lt (x, _) (.head _)
  have hdl : @LT.lt Nat _ dx L' := Z.lt (dx, _) (.tail _ (.head _))
  walk_at "my go"
  rename Fr _ _ _ _ => F9
  rename News _ _ _ _ => N9
  refine' hR _ _ _ _ _ _ _ _ _ _ _ _ _ _ _ _ _ _ _ _ _ ?l1 ?l2 ?l3 ?l4 (after_part F9 N9 Z ?c ?l) (new_two Z N9 ?m1 ?m2 ?n1 ?n2)
  case c => walk_at "my sub"
  case l => walk_at "my part"
  case m1 => k_mem
  case m2 => k_mem
  all_goals omega
end K_maker_init
end
theorem maker_init {w : World} {R : Result → Shared → Prop} {s : Shared} {b : Heap} {loose : List Str} {mean : ExcName → Option Value} {mg mb : Str → Option Value} {x dx lm : Addr} : K_maker_init.KP w R s b loose mean mg mb x dx lm :=
  @Classical.choose_spec _ _ K_maker_init.Kex (by with_unfolding_all exact @K_maker_init.at0) ((w, R, s, b, loose, mean), (mg, mb, x, dx, lm))
section
variable {w : World} {A : Around} {R : Result → Shared → Prop} {s : Shared} {b : Heap} {loose : List Str} {mean : ExcName → Option Value} {mg mb : Str → Option Value}
theorem maker_c {lm : Addr} (st : b.StaysIn s.heap) (G : Gd w loose mean mg mb b)
    (hA : A = { depth := 840, units := 4490, frames := none, handled := none, guards := none })
    (hR : ∀ x dx sv jr mm fr h' tks a0 a1 a2 a3 t0 t1 t2 t3 t4 t5 t6 t7 t8 t9 n, @LT.lt Nat _ dx x → @LT.lt Nat _ x sv → @LT.lt Nat _ sv mm → After s.heap h' [] →
      New s.heap h' [(x, instObj 348 dx), (dx, makerO w lm sv jr mm fr false 0 0 0 0 a0 a1 a2 a3 t0 t1 t2 t3 t4 t5 t6 t7 t8 t9 n), (sv, listOf #[] 0), (mm, dictOf [] 0)] → R (.ok (.ret (.ref x))) ⟨h', s.gens, s.drawn, tks, s.os⟩) :
    codeAny (model PG w) A (.call (.ref 348) ⟨[.ref lm], []⟩) R s := by
  subst hA
  obtain ⟨h, g, d, t, os⟩ := s
  refine makeA (G.X.keeps st) (by k_is) (by k_is) (by k_is) ?_
  refine codeAny_room (A' := { depth := 850, units := 4500, frames := none, handled := none, guards := none }) (maker_init (b := b) (x := h.objs.size + 1) (dx := h.objs.size) (fun a o e => made2_k _ _ (st _ _ e)) G (made2_led st) (Nat.lt_succ_self _) rfl
    fun sv jr mm fr h' tks a0 a1 a2 a3 t0 t1 t2 t3 t4 t5 t6 t7 t8 t9 n l1 l2 l3 l4 Af W => ⟨rfl, hR (h.objs.size + 1) h.objs.size sv jr mm fr h' tks a0 a1 a2 a3 t0 t1 t2 t3 t4 t5 t6 t7 t8 t9 n (Nat.lt_succ_self _) l1 (Nat.lt_trans l2 l3) (made2_after Af) (made2_new Af W)⟩) rfl (Nat.le_of_ble_eq_true rfl) (.inl rfl) rfl (Nat.le_of_ble_eq_true rfl)
theorem maker_w {E : Value → Shared → Prop} {Q : Value → Shared → Prop} {g : Heap} {L : Addr} {m : Str → Option Value} {lm : Addr} (F : Fr g L s.heap m) (G : Gd w loose mean mg mb b) (stg : b.StaysIn g)
    (hA0 : A.handled = none) (hA3 : A.depth ≤ 840) (hA4 : A.units ≤ 4490)
    (hR : ∀ x dx sv jr mm fr h' tks a0 a1 a2 a3 t0 t1 t2 t3 t4 t5 t6 t7 t8 t9 n, @LT.lt Nat _ dx x → @LT.lt Nat _ x sv → @LT.lt Nat _ sv mm → After s.heap h' [] →
      New s.heap h' [(x, instObj 348 dx), (dx, makerO w lm sv jr mm fr false 0 0 0 0 a0 a1 a2 a3 t0 t1 t2 t3 t4 t5 t6 t7 t8 t9 n), (sv, listOf #[] 0), (mm, dictOf [] 0)] → Q (.ref x) ⟨h', s.gens, s.drawn, tks, s.os⟩) :
    wpAny (model PG w) A (call (.ref 348) [.ref lm]) Q E s :=
  wpAny_call (codeAny_room (maker_c (A := { depth := 840, units := 4490, frames := none, handled := none, guards := none }) (b := b) (fun a o e => F.keep _ _ (stg _ _ e)) G rfl hR) hA0 hA3 (.inl rfl) rfl hA4)
end
def cutH (h : Heap) (L : Nat) : Heap := ⟨h.objs.extract 0 L, h.life⟩
theorem cutH_size (h : Heap) (L : Nat) : (cutH h L).objs.size ≤ L := by
  show (h.objs.extract 0 L).size ≤ L
  rw [Array.size_extract]; omega
theorem cutH_get {h : Heap} {L a : Nat} (l : a < L) : (cutH h L).get? a = h.get? a := by
  have e : (h.objs.extract 0 L)[a]? = h.objs[a]? := by
    rw [Array.getElem?_extract]
    by_cases q : a < h.objs.size
    · rw [if_pos (by omega), Nat.zero_add]
    · rw [if_neg (by omega), Array.getElem?_eq_none (by omega)]
  unfold Heap.get? cutH
  rw [e]
theorem cutH_lt {h : Heap} {L a : Nat} {o : Obj} (e : (cutH h L).get? a = some o) : a < L := Nat.lt_of_lt_of_le (Heap.lt_size e) (cutH_size h L)
section
variable {P : Prop} {b g gx h h' : Heap} {L : Addr} {m : Str → Option Value} {news news' chg nw : List (Addr × Obj)}
theorem reg0 (F0 : Fr gx L h' m) (hab : g.objs.size ≤ L) (hk : ∀ a o, g.get? a = some o → (∀ p ∈ chg, p.1 ≠ a) → h'.get? a = some o) (hnow : ∀ p ∈ chg, h'.get? p.1 = some p.2)
    (hc : ∀ p ∈ chg, b.get? p.1 = none ∧ ∃ o, g.get? p.1 = some o) (st : b.StaysIn g) (N : News g L h' news)
    (k : ∀ g', b.StaysIn g' → After g g' chg → Fr g' L h' m → News g' L h' news → P) : P := by
  have lt : ∀ {a o}, g.get? a = some o → a < L := fun e => Nat.lt_of_lt_of_le (Heap.lt_size e) hab
  have nn : ∀ {a o}, g.get? a = some o → a ∉ news.map (·.1) := fun e z => by
    obtain ⟨p, hp, rfl⟩ := List.mem_map.mp z
    rw [(N p hp).2.2] at e; cases e
  have get : ∀ {a o o'}, g.get? a = some o → h'.get? a = some o' → (hideAll (cutH h' L) (news.map (·.1))).get? a = some o' := fun e q => hideAll_get _ ((cutH_get (lt e)).trans q) (nn e)
  have Af : After g (hideAll (cutH h' L) (news.map (·.1))) chg := ⟨fun p hp => by obtain ⟨_, o, e⟩ := hc p hp; exact get e (hnow p hp), fun a o e n => get e (hk a o e n)⟩
  refine k (hideAll (cutH h' L) (news.map (·.1))) (fun a o e => Af.keep a o (st a o e) fun p hp q => ?_) Af ⟨F0.ns, fun a o e => ?_, ?_⟩ fun p hp => ⟨(N p hp).1, (N p hp).2.1, hideAll_none _ (List.mem_map_of_mem hp)⟩
  · rw [← q, (hc p hp).1] at e; cases e
  · have e' := of_hideAll _ e
    rw [← cutH_get (cutH_lt e')]; exact e'
  · rw [hideAll_size]; exact cutH_size h' L
theorem reg (F : Fr g L h m) (N : News g L h news) (st : b.StaysIn g) (Af : After h h' chg) (W : New h h' nw) (hc : ∀ p ∈ chg, b.get? p.1 = none ∧ ∃ o, g.get? p.1 = some o)
    (k : ∀ g', b.StaysIn g' → After g g' chg → Fr g' L h' m → News g' L h' (nw ++ news) → (∀ q ∈ nw, @LT.lt Nat _ L q.1) → P) : P := by
  obtain ⟨oL, es, ep, hL, r⟩ := F.ns
  have ne : ∀ p ∈ chg, p.1 ≠ L := fun p hp q => by
    obtain ⟨_, o, e⟩ := hc p hp
    exact absurd (Nat.lt_of_lt_of_le (Heap.lt_size e) F.above) (by rw [q]; exact Nat.lt_irrefl _)
  have hLs : L < h.objs.size := Heap.lt_size hL
  have lW : ∀ q ∈ nw, @LT.lt Nat _ L q.1 := fun q hq => Nat.lt_of_lt_of_le hLs (W q hq).1
  refine reg0 (gx := {}) ⟨⟨oL, es, ep, Af.keep _ _ hL ne, r⟩, fun a o e => ?_, Nat.zero_le _⟩ F.above (fun a o e n => Af.keep _ _ (F.keep _ _ e) n) Af.now hc st (news := nw ++ news) (fun p hp => ?_) fun g' st' A' F' N' => k g' st' A' F' N' lW
  · cases e
  · rcases List.mem_append.mp hp with hp | hp
    · exact ⟨(W p hp).2, Nat.ne_of_gt (lW p hp), Heap.get?_none_of_le (Nat.le_trans F.above (Nat.le_of_lt (lW p hp)))⟩
    · refine ⟨Af.keep _ _ (N p hp).1 fun q hq z => ?_, (N p hp).2⟩
      obtain ⟨_, o, e⟩ := hc q hq
      rw [z, (N p hp).2.2] at e; cases e
theorem hide_fr (F : Fr g L h m) (N : News g L h news) (st : b.StaysIn g) (hc : ∀ p ∈ chg, b.get? p.1 = none ∧ g.get? p.1 = some p.2) :
    b.StaysIn (hideAll g (chg.map (·.1))) ∧ Fr (hideAll g (chg.map (·.1))) L h m ∧ News (hideAll g (chg.map (·.1))) L h (chg ++ news) := by
  refine ⟨fun a o e => hideAll_get _ (st a o e) fun z => ?_, ⟨F.ns, fun a o e => F.keep a o (of_hideAll _ e), by rw [hideAll_size]; exact F.above⟩, fun p hp => ?_⟩
  · obtain ⟨p, hp, rfl⟩ := List.mem_map.mp z
    rw [(hc p hp).1] at e; cases e
  · rcases List.mem_append.mp hp with hp | hp
    · exact ⟨F.keep _ _ (hc p hp).2, Nat.ne_of_lt (Nat.lt_of_lt_of_le (Heap.lt_size (hc p hp).2) F.above), hideAll_none _ (List.mem_map_of_mem hp)⟩
    · refine ⟨(N p hp).1, (N p hp).2.1, ?_⟩
      cases q : (hideAll g (chg.map (·.1))).get? p.1 with
      | none => rfl
      | some o => have := of_hideAll _ q; rw [(N p hp).2.2] at this; cases this
theorem unhide {chg0 : List (Addr × Obj)} (hab : g.objs.size ≤ L) (st : b.StaysIn g) (hc0 : ∀ p ∈ chg0, b.get? p.1 = none ∧ g.get? p.1 = some p.2) (e : chg.map (·.1) = chg0.map (·.1)) (F : Fr (hideAll g (chg0.map (·.1))) L h' m) (N : News (hideAll g (chg0.map (·.1))) L h' (chg ++ news))
    (hg : ∀ p ∈ news, g.get? p.1 = none) (k : ∀ g', b.StaysIn g' → After g g' chg → Fr g' L h' m → News g' L h' news → P) : P := by
  refine reg0 F hab (fun a o q n => F.keep a o (hideAll_get _ q fun z => ?_)) (fun p hp => (N p (List.mem_append_left _ hp)).1) (fun p hp => ?_) st (fun p hp => ⟨(N p (List.mem_append_right _ hp)).1, (N p (List.mem_append_right _ hp)).2.1, hg p hp⟩) k
  · rw [← e] at z
    obtain ⟨p, hp, q⟩ := List.mem_map.mp z
    exact n p hp q
  · have z : p.1 ∈ chg0.map (·.1) := by rw [← e]; exact List.mem_map_of_mem hp
    obtain ⟨q, hq, e'⟩ := List.mem_map.mp z
    rw [← e']; exact ⟨(hc0 q hq).1, _, (hc0 q hq).2⟩
end
set_option genInjectivity false in
set_option genSizeOfSpec false in
structure SV where con ::
  dk : Addr
  cl : Addr
  wx : Addr
  us : Addr
  md : Addr
  mk : Addr
  mx : Addr
  lx : Addr
  lm : Addr
  sv : Addr
  jr : Addr
  mm : Addr
  fr : Addr
  L1 : Addr
  lm0 : Nat
  env1 : Env
  d1 : Tok
  d2 : Tok
  dn : Nat
  ns : List Int
  vs : List Value
  c : Nat → Tok
  wn : Nat
  t : Nat → Tok
  mn : Nat
  ls : Int
  lim : List DictEntry
  ln : Nat
  v : Nat → Tok
  vm : Int
  tx : Int
  rx : Int
  ex : Int
  od : Data
namespace SV
noncomputable abbrev dkO (V : SV) (w : World) (k : Int) (kt : Tok) : Obj := deckO w V.cl k kt V.d1 V.d2 V.dn
noncomputable abbrev wxO (V : SV) (w : World) (lb : Int) (gl : Bool) (c5 : Tok) : Obj := wO w V.tx V.rx V.ex V.vm V.us V.md lb gl (V.c 0) (V.c 1) (V.c 2) (V.c 3) c5 (V.c 4) (V.c 5) (V.c 6) (V.c 7) (V.c 8) (V.c 9) (V.c 10) (V.c 11) V.wn
noncomputable abbrev mxO (V : SV) (w : World) (gl : Bool) (x0 x1 xl : Int) (a0 a1 a2 : Tok) : Obj := makerO w V.lm V.sv V.jr V.mm V.fr gl x0 x1 xl V.ls a0 a1 a2 (V.t 10) (V.t 0) (V.t 1) (V.t 2) (V.t 3) (V.t 4) (V.t 5) (V.t 6) (V.t 7) (V.t 8) (V.t 9) V.mn
noncomputable def rws (V : SV) : List Nat := [401, 408, 413, 418, 425, V.L1, V.dk, V.cl, V.wx, V.us, V.md, V.lx, V.lm, V.mx, V.mk, V.sv, V.mm, V.lm0]
noncomputable def dyn (V : SV) : List Nat := [401, 408, 413, 418, 425, V.L1, V.dk, V.wx, V.us, V.md, V.mx, V.mm]
end SV
noncomputable def anyV : SV := SV.con 0 0 0 0 0 0 0 0 0 0 0 0 0 0 0 default default default 0 [] [] (fun _ => default) 0 (fun _ => default) 0 0 [] 0 (fun _ => default) 0 0 0 0 (.cell none)
structure VOK (w : World) (V : SV) (b : Heap) : Prop where
  ord : V.rws.Pairwise (· < ·)
  nb : ∀ a ∈ V.dyn ++ [V.lx, V.lm, V.mk, V.sv], b.get? a = none
  hf : V.env1.frame = some V.L1
  hk : V.env1.scope.kind ≠ .module
  iv : IntsAre V.vs V.ns
  hlen : V.ns.length ≤ 60
  lvm : getL (Str.ofString "vm") V.lim = some (some (.int V.vm (V.v 0)))
  ltx : getL (Str.ofString "text") V.lim = some (some (.int V.tx (V.v 1)))
  lrx : getL (Str.ofString "row") V.lim = some (some (.int V.rx (V.v 2)))
  lex : getL (Str.ofString "entries") V.lim = some (some (.int V.ex (V.v 3)))
  vm0 : 0 ≤ V.vm
  vm1 : V.vm ≤ 150
  tx0 : 0 ≤ V.tx
  tx1 : V.tx ≤ 10
  rx0 : 0 ≤ V.rx
  rx1 : V.rx ≤ 10
  ex0 : 0 ≤ V.ex
  ex1 : V.ex ≤ 10
  hb0 : b.objs.size ≤ V.lm0
  hod : ∀ vs, V.od ≠ .fields vs
def TabY (lim : Nat) (g : Heap) (q : Str) (xs : List (Addr × Obj)) (ps : Array Value) : Prop :=
  TriplesOk ps.toList ∧ ∀ pos c, codeAmong pos ps.toList = some c → ∃ c' oc vs t, c = .ref c' ∧ (g.get? c' = some oc ∨ (c', oc) ∈ xs) ∧ lim ≤ c' ∧ oc.data = .fields vs ∧ vs[1]? = some (.str q t)
noncomputable def tabs : List (Nat × Str) := [(401, Str.ofString "_law_text_right.<locals>.<lambda>"), (408, Str.ofString "_law_nulls_right.<locals>.<lambda>"), (413, Str.ofString "_law_row_right.<locals>.<lambda>"), (418, Str.ofString "_law_dict_right.<locals>.<lambda>"), (425, Str.ofString "_law_room_right.<locals>.<lambda>")]
structure St (w : World) (V : SV) (b h0 g : Heap) (xs : List (Addr × Obj)) (k u0 u1 lb x0 x1 xl : Int) (gl : Bool) (mds : Array Value) : Prop where con ::
  st : b.StaysIn g
  dk : ∃ kt, g.get? V.dk = some (V.dkO w k kt)
  cl : g.IsList V.cl V.vs.toArray
  wx : ∃ c5, g.get? V.wx = some (V.wxO w lb gl c5)
  us : ∃ d0 d1 un, g.get? V.us = some (usO u0 u1 d0 d1 un)
  md : ∃ c, g.get? V.md = some (listOf mds c)
  mx : ∃ a0 a1 a2, g.get? V.mx = some (V.mxO w gl x0 x1 xl a0 a1 a2)
  mm : ∃ es ep, ∃ n : Nat, (n : Int) ≤ xl ∧ Nums w es n ∧ g.get? V.mm = some (dictA es ep)
  mk : g.get? V.mk = some (instObj 348 V.mx)
  lm : g.get? V.lm = some (instObj 270 V.lx)
  lx : g.get? V.lx = some (dictOf V.lim V.ln)
  sv : g.get? V.sv = some (listOf #[] 0)
  L1 : ∃ o1, g.get? V.L1 = some o1 ∧ o1.data = V.od
  tb : ∀ p ∈ tabs, ∃ ps, g.get? p.1 = some (tabObj ps) ∧ TabY V.lm0 g p.2 xs ps
  kp : ∀ a o, h0.get? a = some o → a ∉ V.dyn → g.get? a = some o
section
variable {w : World} {V : SV} {b h0 g g' h : Heap} {xs : List (Addr × Obj)} {k u0 u1 lb x0 x1 xl k' u0' u1' lb' x0' x1' xl' : Int} {gl gl' : Bool} {mds mds' : Array Value} {a c : Nat} {P : Prop}
theorem VOK.lt (O : VOK w V b) (i j : Nat) (hij : Nat.blt i j = true) (hi : V.rws[i]? = some a) (hj : V.rws[j]? = some c) : @LT.lt Nat _ a c := by
  obtain ⟨h1, e1⟩ := List.getElem?_eq_some_iff.mp hi
  obtain ⟨h2, e2⟩ := List.getElem?_eq_some_iff.mp hj
  rw [← e1, ← e2]
  exact List.pairwise_iff_getElem.mp O.ord i j h1 h2 (by simpa [Nat.blt_eq] using hij)
theorem VOK.ne (O : VOK w V b) (i j : Nat) (hij : (Nat.blt i j || Nat.blt j i) = true) (hi : V.rws[i]? = some a) (hj : V.rws[j]? = some c) : a ≠ c := by
  rcases Bool.or_eq_true_iff.mp hij with q | q
  · exact Nat.ne_of_lt (O.lt i j q hi hj)
  · exact Nat.ne_of_gt (O.lt j i q hj hi)
theorem VOK.low (O : VOK w V b) (h : a ∈ V.dyn) : @LT.lt Nat _ a V.lm0 :=
  (show ∀ x ∈ V.dyn, @LT.lt Nat _ x V.lm0 from allc (O.lt 0 17 rfl rfl rfl) (allc (O.lt 1 17 rfl rfl rfl) (allc (O.lt 2 17 rfl rfl rfl) (allc (O.lt 3 17 rfl rfl rfl) (allc (O.lt 4 17 rfl rfl rfl) (allc (O.lt 5 17 rfl rfl rfl) (allc (O.lt 6 17 rfl rfl rfl) (allc (O.lt 8 17 rfl rfl rfl) (allc (O.lt 9 17 rfl rfl rfl) (allc (O.lt 10 17 rfl rfl rfl) (allc (O.lt 13 17 rfl rfl rfl) (allc (O.lt 16 17 rfl rfl rfl) (fun _ q => nomatch q))))))))))))) _ h
theorem VOK.not_dyn (O : VOK w V b) (i : Nat) (hi : V.rws[i]? = some a) (hn : ([0, 1, 2, 3, 4, 5, 6, 8, 9, 10, 13, 16].contains i) = false) : a ∉ V.dyn := fun h => by
  have N : ∀ j, j ∈ [0, 1, 2, 3, 4, 5, 6, 8, 9, 10, 13, 16] → (Nat.blt i j || Nat.blt j i) = true := fun j hj => by
    rcases Nat.lt_trichotomy i j with q | rfl | q
    · simp [Nat.blt_eq.mpr q]
    · exact absurd (List.contains_iff_mem.mpr hj) (by rw [hn]; exact Bool.false_ne_true)
    · simp [Nat.blt_eq.mpr q]
  exact (show ∀ x ∈ V.dyn, a ≠ x from allc (O.ne i 0 (N 0 (by decide)) hi rfl) (allc (O.ne i 1 (N 1 (by decide)) hi rfl) (allc (O.ne i 2 (N 2 (by decide)) hi rfl) (allc (O.ne i 3 (N 3 (by decide)) hi rfl) (allc (O.ne i 4 (N 4 (by decide)) hi rfl) (allc (O.ne i 5 (N 5 (by decide)) hi rfl) (allc (O.ne i 6 (N 6 (by decide)) hi rfl) (allc (O.ne i 8 (N 8 (by decide)) hi rfl) (allc (O.ne i 9 (N 9 (by decide)) hi rfl) (allc (O.ne i 10 (N 10 (by decide)) hi rfl) (allc (O.ne i 13 (N 13 (by decide)) hi rfl) (allc (O.ne i 16 (N 16 (by decide)) hi rfl) (fun _ q => nomatch q))))))))))))) _ h rfl
theorem TabY.mono {lim : Nat} {q : Str} {xs xs' : List (Addr × Obj)} {ps : Array Value} (T : TabY lim g q xs ps) (k : ∀ a o, g.get? a = some o → lim ≤ a → g'.get? a = some o) (hx : ∀ p ∈ xs, g'.get? p.1 = some p.2 ∨ p ∈ xs') : TabY lim g' q xs' ps :=
  ⟨T.1, fun pos c e => by
    obtain ⟨c', oc, vs, t, e1, h1, h2, h3⟩ := T.2 pos c e
    refine ⟨c', oc, vs, t, e1, ?_, h2, h3⟩
    rcases h1 with h1 | h1
    · exact .inl (k _ _ h1 h2)
    · exact hx _ h1⟩
theorem St.mono (S : St w V b h0 g xs k u0 u1 lb x0 x1 xl gl mds) (K : ∀ a o, g.get? a = some o → g'.get? a = some o) {xs' : List (Addr × Obj)} (hx : ∀ p ∈ xs, g'.get? p.1 = some p.2 ∨ p ∈ xs') : St w V b h0 g' xs' k u0 u1 lb x0 x1 xl gl mds where
  st := fun a o e => K _ _ (S.st a o e)
  dk := S.dk.imp fun _ e => K _ _ e
  cl := stays_list' K S.cl
  wx := S.wx.imp fun _ e => K _ _ e
  us := S.us.imp fun _ => .imp fun _ => .imp fun _ e => K _ _ e
  md := S.md.imp fun _ e => K _ _ e
  mx := S.mx.imp fun _ => .imp fun _ => .imp fun _ e => K _ _ e
  mm := S.mm.imp fun _ => .imp fun _ => .imp fun _ e => ⟨e.1, e.2.1, K _ _ e.2.2⟩
  mk := K _ _ S.mk
  lm := K _ _ S.lm
  lx := K _ _ S.lx
  sv := K _ _ S.sv
  L1 := S.L1.imp fun _ e => ⟨K _ _ e.1, e.2⟩
  tb := fun p hp => (S.tb p hp).imp fun _ e => ⟨K _ _ e.1, e.2.mono (fun a o e _ => K a o e) hx⟩
  kp := fun a o e n => K _ _ (S.kp a o e n)
theorem St.keep (S : St w V b h0 g xs k u0 u1 lb x0 x1 xl gl mds) (O : VOK w V b) (ch : Nat → Prop) (hch : ∀ a, ch a → a ∈ V.dyn) (K : ∀ a o, g.get? a = some o → ¬ ch a → g'.get? a = some o) (st' : b.StaysIn g')
    (hdk : (¬ ch V.dk ∧ k' = k) ∨ ∃ kt, g'.get? V.dk = some (V.dkO w k' kt))
    (hwx : (¬ ch V.wx ∧ lb' = lb ∧ gl' = gl) ∨ ∃ c5, g'.get? V.wx = some (V.wxO w lb' gl' c5))
    (hus : (¬ ch V.us ∧ u0' = u0 ∧ u1' = u1) ∨ ∃ d0 d1 un, g'.get? V.us = some (usO u0' u1' d0 d1 un))
    (hmd : (¬ ch V.md ∧ mds' = mds) ∨ ∃ c, g'.get? V.md = some (listOf mds' c))
    (hmx : (¬ ch V.mx ∧ gl' = gl ∧ x0' = x0 ∧ x1' = x1 ∧ xl' = xl) ∨ ∃ a0 a1 a2, g'.get? V.mx = some (V.mxO w gl' x0' x1' xl' a0 a1 a2))
    (hmm : (¬ ch V.mm ∧ xl' = xl) ∨ ∃ es ep, ∃ n : Nat, (n : Int) ≤ xl' ∧ Nums w es n ∧ g'.get? V.mm = some (dictA es ep))
    (hL1 : ¬ ch V.L1 ∨ ∃ o1, g'.get? V.L1 = some o1 ∧ o1.data = V.od)
    (htb : ∀ p ∈ tabs, ¬ ch p.1 ∨ ∃ ps, g'.get? p.1 = some (tabObj ps) ∧ TabY V.lm0 g' p.2 xs ps) : St w V b h0 g' xs k' u0' u1' lb' x0' x1' xl' gl' mds' where
  st := st'
  dk := by
    rcases hdk with ⟨n, rfl⟩ | h
    · exact S.dk.imp fun _ e => K _ _ e n
    · exact h
  cl := S.cl.imp fun _ e => ⟨K _ _ e.1 fun z => absurd (hch _ z) (O.not_dyn 7 rfl rfl), e.2⟩
  wx := by
    rcases hwx with ⟨n, rfl, rfl⟩ | h
    · exact S.wx.imp fun _ e => K _ _ e n
    · exact h
  us := by
    rcases hus with ⟨n, rfl, rfl⟩ | h
    · exact S.us.imp fun _ => .imp fun _ => .imp fun _ e => K _ _ e n
    · exact h
  md := by
    rcases hmd with ⟨n, rfl⟩ | h
    · exact S.md.imp fun _ e => K _ _ e n
    · exact h
  mx := by
    rcases hmx with ⟨n, rfl, rfl, rfl, rfl⟩ | h
    · exact S.mx.imp fun _ => .imp fun _ => .imp fun _ e => K _ _ e n
    · exact h
  mm := by
    rcases hmm with ⟨n, rfl⟩ | h
    · exact S.mm.imp fun _ => .imp fun _ => .imp fun _ e => ⟨e.1, e.2.1, K _ _ e.2.2 n⟩
    · exact h
  mk := K _ _ S.mk fun z => absurd (hch _ z) (O.not_dyn 14 rfl rfl)
  lm := K _ _ S.lm fun z => absurd (hch _ z) (O.not_dyn 12 rfl rfl)
  lx := K _ _ S.lx fun z => absurd (hch _ z) (O.not_dyn 11 rfl rfl)
  sv := K _ _ S.sv fun z => absurd (hch _ z) (O.not_dyn 15 rfl rfl)
  L1 := by
    rcases hL1 with n | h
    · exact S.L1.imp fun _ e => ⟨K _ _ e.1 n, e.2⟩
    · exact h
  tb := fun p hp => by
    rcases htb p hp with n | h
    · exact (S.tb p hp).imp fun _ T => ⟨K _ _ T.1 n, T.2.mono (fun a o e l => K a o e fun z => absurd (O.low (hch _ z)) (Nat.not_lt_of_le l)) fun q hq => .inr hq⟩
    · exact h
  kp := fun a o e n => K _ _ (S.kp a o e n) fun z => n (hch _ z)
end
section
variable {w : World} {V : SV} {b h0 g g' h : Heap} {xs : List (Addr × Obj)} {k u0 u1 lb x0 x1 xl k' u0' u1' lb' x0' x1' xl' : Int} {gl gl' : Bool} {mds mds' : Array Value} {a c : Nat} {o o' : Obj}
theorem After.keep1 (A : After g g' [(a, o)]) : ∀ x o', g.get? x = some o' → ¬ (x = a) → g'.get? x = some o' := fun x o' e n => A.keep x o' e fun p hp q => by
  obtain rfl := List.mem_singleton.mp hp
  exact n q.symm
theorem After.keep2 (A : After g g' [(a, o), (c, o')]) : ∀ x q, g.get? x = some q → ¬ (x = a ∨ x = c) → g'.get? x = some q := fun x q e n => A.keep x q e fun p hp z => by
  rcases List.mem_cons.mp hp with rfl | hp
  · exact n (.inl z.symm)
  · obtain rfl := List.mem_singleton.mp hp
    exact n (.inr z.symm)
theorem VOK.tab_ne (O : VOK w V b) (i : Nat) (hi : Nat.blt 4 i = true) (ha : V.rws[i]? = some a) : ∀ p ∈ tabs, ¬ (p.1 = a) := fun p hp => by
  have hi := Nat.blt_eq.mp hi
  exact (show ∀ q ∈ tabs, ¬ (q.1 = a) from allc (Nat.ne_of_lt (O.lt 0 i (Nat.blt_eq.mpr (Nat.lt_of_le_of_lt (Nat.le_of_ble_eq_true rfl) hi)) rfl ha)) (allc (Nat.ne_of_lt (O.lt 1 i (Nat.blt_eq.mpr (Nat.lt_of_le_of_lt (Nat.le_of_ble_eq_true rfl) hi)) rfl ha)) (allc (Nat.ne_of_lt (O.lt 2 i (Nat.blt_eq.mpr (Nat.lt_of_le_of_lt (Nat.le_of_ble_eq_true rfl) hi)) rfl ha)) (allc (Nat.ne_of_lt (O.lt 3 i (Nat.blt_eq.mpr (Nat.lt_of_le_of_lt (Nat.le_of_ble_eq_true rfl) hi)) rfl ha)) (allc (Nat.ne_of_lt (O.lt 4 i (Nat.blt_eq.mpr (Nat.lt_of_le_of_lt (Nat.le_of_ble_eq_true rfl) hi)) rfl ha)) (fun _ q => nomatch q)))))) p hp
theorem tab5 : ∀ i, i < 5 → V.dyn[i]? = V.rws[i]?
  | 0, _ => rfl
  | 1, _ => rfl
  | 2, _ => rfl
  | 3, _ => rfl
  | 4, _ => rfl
  | _ + 5, h => absurd h (Nat.not_lt_of_le (Nat.le_add_left 5 _))
theorem in_dyn {i : Nat} (h : V.dyn[i]? = some a) : a ∈ V.dyn := List.mem_of_getElem? h
theorem St.draw {kt : Tok} (S : St w V b h0 g xs k u0 u1 lb x0 x1 xl gl mds) (O : VOK w V b) (st' : b.StaysIn g') (A : After g g' [(V.dk, V.dkO w k' kt)]) : St w V b h0 g' xs k' u0 u1 lb x0 x1 xl gl mds :=
  S.keep O (fun x => x = V.dk) (fun _ q => q ▸ in_dyn (i := 6) rfl) A.keep1 st' (.inr ⟨_, A.now _ (.head _)⟩) (.inl ⟨O.ne 8 6 rfl rfl rfl, rfl, rfl⟩) (.inl ⟨O.ne 9 6 rfl rfl rfl, rfl, rfl⟩) (.inl ⟨O.ne 10 6 rfl rfl rfl, rfl⟩)
    (.inl ⟨O.ne 13 6 rfl rfl rfl, rfl, rfl, rfl, rfl⟩) (.inl ⟨O.ne 16 6 rfl rfl rfl, rfl⟩) (.inl (O.ne 5 6 rfl rfl rfl)) fun p hp => .inl (O.tab_ne 6 rfl rfl p hp)
theorem St.counted {c5 d0 d1 : Tok} {un : Nat} (S : St w V b h0 g xs k u0 u1 lb x0 x1 xl gl mds) (O : VOK w V b) (st' : b.StaysIn g') (A : After g g' [(V.wx, V.wxO w lb' gl c5), (V.us, usO u0' u1' d0 d1 un)]) : St w V b h0 g' xs k u0' u1' lb' x0 x1 xl gl mds :=
  S.keep O (fun x => x = V.wx ∨ x = V.us) (fun _ q => q.elim (fun q => q ▸ in_dyn (i := 7) rfl) fun q => q ▸ in_dyn (i := 8) rfl) A.keep2 st' (.inl ⟨fun q => q.elim (O.ne 6 8 rfl rfl rfl) (O.ne 6 9 rfl rfl rfl), rfl⟩) (.inr ⟨_, A.now _ (.head _)⟩) (.inr ⟨_, _, _, A.now _ (.tail _ (.head _))⟩)
    (.inl ⟨fun q => q.elim (O.ne 10 8 rfl rfl rfl) (O.ne 10 9 rfl rfl rfl), rfl⟩) (.inl ⟨fun q => q.elim (O.ne 13 8 rfl rfl rfl) (O.ne 13 9 rfl rfl rfl), rfl, rfl, rfl, rfl⟩) (.inl ⟨fun q => q.elim (O.ne 16 8 rfl rfl rfl) (O.ne 16 9 rfl rfl rfl), rfl⟩)
    (.inl fun q => q.elim (O.ne 5 8 rfl rfl rfl) (O.ne 5 9 rfl rfl rfl)) fun p hp => .inl fun q => q.elim (O.tab_ne 8 rfl rfl p hp) (O.tab_ne 9 rfl rfl p hp)
inductive Chg (w : World) (V : SV) (gl : Bool) (x0 x1 xl : Int) : Int → Int → Int → List (Addr × Obj) → Prop
  | none : Chg w V gl x0 x1 xl x0 x1 xl []
  | took {cost : Int} {a0 a1 a2 : Tok} {es : Array DictEntry} {ep n : Nat} : (n : Int) ≤ xl + 1 → Nums w es n →
      Chg w V gl x0 x1 xl (if gl = true then x0 else x0 + cost) (if gl = true then x1 + cost else x1) (xl + 1) [(V.mx, V.mxO w gl (if gl = true then x0 else x0 + cost) (if gl = true then x1 + cost else x1) (xl + 1) a0 a1 a2), (V.mm, dictA es ep)]
theorem St.chg {chg : List (Addr × Obj)} (S : St w V b h0 g xs k u0 u1 lb x0 x1 xl gl mds) (O : VOK w V b) (C : Chg w V gl x0 x1 xl x0' x1' xl' chg) (st' : b.StaysIn g') (A : After g g' chg) : St w V b h0 g' xs k u0 u1 lb x0' x1' xl' gl mds := by
  cases C with
  | none => exact S.mono (fun a o e => A.keep a o e fun _ hp => (nomatch hp)) fun q hq => .inr hq
  | took h1 h2 =>
    exact S.keep O (fun x => x = V.mx ∨ x = V.mm) (fun _ q => q.elim (fun q => q ▸ in_dyn (i := 10) rfl) fun q => q ▸ in_dyn (i := 11) rfl) A.keep2 st' (.inl ⟨fun q => q.elim (O.ne 6 13 rfl rfl rfl) (O.ne 6 16 rfl rfl rfl), rfl⟩)
      (.inl ⟨fun q => q.elim (O.ne 8 13 rfl rfl rfl) (O.ne 8 16 rfl rfl rfl), rfl, rfl⟩) (.inl ⟨fun q => q.elim (O.ne 9 13 rfl rfl rfl) (O.ne 9 16 rfl rfl rfl), rfl, rfl⟩) (.inl ⟨fun q => q.elim (O.ne 10 13 rfl rfl rfl) (O.ne 10 16 rfl rfl rfl), rfl⟩)
      (.inr ⟨_, _, _, A.now _ (.head _)⟩) (.inr ⟨_, _, _, h1, h2, A.now _ (.tail _ (.head _))⟩)
      (.inl fun q => q.elim (O.ne 5 13 rfl rfl rfl) (O.ne 5 16 rfl rfl rfl)) fun p hp => .inl fun q => q.elim (O.tab_ne 13 rfl rfl p hp) (O.tab_ne 16 rfl rfl p hp)
theorem St.slot (S : St w V b h0 g xs k u0 u1 lb x0 x1 xl gl mds) (O : VOK w V b) (st' : b.StaysIn g') (A : After g g' [(V.L1, o)]) (hd : o.data = V.od) : St w V b h0 g' xs k u0 u1 lb x0 x1 xl gl mds :=
  S.keep O (fun x => x = V.L1) (fun _ q => q ▸ in_dyn (i := 5) rfl) A.keep1 st' (.inl ⟨O.ne 6 5 rfl rfl rfl, rfl⟩) (.inl ⟨O.ne 8 5 rfl rfl rfl, rfl, rfl⟩) (.inl ⟨O.ne 9 5 rfl rfl rfl, rfl, rfl⟩) (.inl ⟨O.ne 10 5 rfl rfl rfl, rfl⟩)
    (.inl ⟨O.ne 13 5 rfl rfl rfl, rfl, rfl, rfl, rfl⟩) (.inl ⟨O.ne 16 5 rfl rfl rfl, rfl⟩) (.inr ⟨_, A.now _ (.head _), hd⟩) fun p hp => .inl (O.tab_ne 5 rfl rfl p hp)
theorem St.add {c : Nat} (S : St w V b h0 g xs k u0 u1 lb x0 x1 xl gl mds) (O : VOK w V b) (st' : b.StaysIn g') (A : After g g' [(V.md, listOf mds' c)]) : St w V b h0 g' xs k u0 u1 lb x0 x1 xl gl mds' :=
  S.keep O (fun x => x = V.md) (fun _ q => q ▸ in_dyn (i := 9) rfl) A.keep1 st' (.inl ⟨O.ne 6 10 rfl rfl rfl, rfl⟩) (.inl ⟨O.ne 8 10 rfl rfl rfl, rfl, rfl⟩) (.inl ⟨O.ne 9 10 rfl rfl rfl, rfl, rfl⟩) (.inr ⟨_, A.now _ (.head _)⟩)
    (.inl ⟨O.ne 13 10 rfl rfl rfl, rfl, rfl, rfl, rfl⟩) (.inl ⟨O.ne 16 10 rfl rfl rfl, rfl⟩) (.inl (O.ne 5 10 rfl rfl rfl)) fun p hp => .inl (O.tab_ne 10 rfl rfl p hp)
theorem St.tab {T : Nat} {q : Str} {ps : Array Value} (S : St w V b h0 g [] k u0 u1 lb x0 x1 xl gl mds) (O : VOK w V b) (i : Nat) (hi : Nat.blt i 5 = true) (hT : V.rws[i]? = some T) (ht : ∀ p ∈ tabs, p.1 = T → p.2 = q) (st' : b.StaysIn g') (A : After g g' [(T, tabObj ps)]) (Y : TabY V.lm0 g' q xs ps) :
    St w V b h0 g' xs k u0 u1 lb x0 x1 xl gl mds := by
  have ne : ∀ {j x}, Nat.blt 4 j = true → V.rws[j]? = some x → ¬ (x = T) := fun h1 h2 => (O.ne _ i (by
    have := Nat.blt_eq.mp hi; have := Nat.blt_eq.mp h1
    rw [Bool.or_eq_true_iff, Nat.blt_eq, Nat.blt_eq]; omega) h2 hT)
  refine (S.mono (xs' := xs) (fun _ _ e => e) fun _ hp => (nomatch hp)).keep O (fun x => x = T) (fun _ q => q ▸ ?_) A.keep1 st' (.inl ⟨ne (j := 6) rfl rfl, rfl⟩) (.inl ⟨ne (j := 8) rfl rfl, rfl, rfl⟩) (.inl ⟨ne (j := 9) rfl rfl, rfl, rfl⟩) (.inl ⟨ne (j := 10) rfl rfl, rfl⟩)
    (.inl ⟨ne (j := 13) rfl rfl, rfl, rfl, rfl, rfl⟩) (.inl ⟨ne (j := 16) rfl rfl, rfl⟩) (.inl (ne (j := 5) rfl rfl)) fun p hp => ?_
  · have hi := Nat.blt_eq.mp hi
    have : V.dyn[i]? = some T := by
      rw [← hT]
      exact tab5 i hi
    exact in_dyn this
  · by_cases q : p.1 = T
    · refine .inr ⟨ps, ?_, ?_⟩
      · rw [q]; exact A.now _ (.head _)
      · rw [ht p hp q]; exact Y
    · exact .inl q
theorem St.fin {L : Addr} {m : Str → Option Value} {news : List (Addr × Obj)} (S : St w V b h0 g xs k u0 u1 lb x0 x1 xl gl mds) (F : Fr g L h m) (N : News g L h news) (hx : ∀ p ∈ xs, p ∈ news) : St w V b h0 h [] k u0 u1 lb x0 x1 xl gl mds :=
  S.mono F.keep fun p hp => .inl (N p (hx p hp)).1
theorem VOK.nbd (O : VOK w V b) {i : Nat} (h : (V.dyn ++ [V.lx, V.lm, V.mk, V.sv])[i]? = some a) : b.get? a = none := O.nb _ (List.mem_of_getElem? h)
end
theorem St.led {w : World} {V : SV} {b h0 g : Heap} {xs : List (Addr × Obj)} {k u0 u1 lb x0 x1 xl : Int} {gl : Bool} {mds : Array Value} (S : St w V b h0 g xs k u0 u1 lb x0 x1 xl gl mds) (O : VOK w V b) :
    ∃ a0 a1 a2 es ep, ∃ n : Nat, (n : Int) ≤ xl ∧ Nums w es n ∧ Led b g (mkLed w V.mk V.mx V.lx V.lm V.sv V.jr V.mm V.fr gl x0 x1 xl V.ls a0 a1 a2 (V.t 10) (V.t 0) (V.t 1) (V.t 2) (V.t 3) (V.t 4) (V.t 5) (V.t 6) (V.t 7) (V.t 8) (V.t 9) V.mn V.lim V.ln es ep) := by
  obtain ⟨a0, a1, a2, e1⟩ := S.mx
  obtain ⟨es, ep, n, hn, hN, e2⟩ := S.mm
  refine ⟨a0, a1, a2, es, ep, n, hn, hN, allc (⟨S.mk, O.nbd (i := 14) rfl⟩) (allc (⟨e1, O.nbd (i := 10) rfl⟩) (allc (⟨S.lm, O.nbd (i := 13) rfl⟩) (allc (⟨S.lx, O.nbd (i := 12) rfl⟩) (allc (⟨S.sv, O.nbd (i := 15) rfl⟩) (allc (⟨e2, O.nbd (i := 11) rfl⟩) (fun _ q => nomatch q))))))⟩
theorem VOK.order {w : World} {V : SV} {b : Heap} (O : VOK w V b) : @LT.lt Nat _ V.lx V.lm ∧ @LT.lt Nat _ V.lm V.mx ∧ @LT.lt Nat _ V.mx V.mk ∧ @LT.lt Nat _ V.mk V.sv ∧ @LT.lt Nat _ V.sv V.mm :=
  ⟨O.lt 11 12 rfl rfl rfl, O.lt 12 13 rfl rfl rfl, O.lt 13 14 rfl rfl rfl, O.lt 14 15 rfl rfl rfl, O.lt 15 16 rfl rfl rfl⟩
section
variable {w : World} {V : SV} {A : Around} {E : Value → Shared → Prop} {Q : Value → Shared → Prop} {s : Shared} {b h0 g : Heap} {loose : List Str} {mean : ExcName → Option Value} {mg mb : Str → Option Value} {L : Addr} {m : Str → Option Value} {news : List (Addr × Obj)}
  {xs : List (Addr × Obj)} {k u0 u1 lb x0 x1 xl : Int} {gl : Bool} {mds : Array Value}
set_option maxRecDepth 100000
theorem led_g {led : List (Addr × Obj)} (F : Fr g L s.heap m) (h : ∀ p ∈ led, g.get? p.1 = some p.2 ∧ b.get? p.1 = none) : Led b s.heap led := fun p hp => ⟨F.keep _ _ (h p hp).1, (h p hp).2⟩
theorem w_item {prog : Program} {value slice : Expr} {x : Str} {t : Tok} {v : Value} (F : Fr g L s.heap m) (S : St w V b h0 g xs k u0 u1 lb x0 x1 xl gl mds)
    (hx : ∀ c5, getL x [ent w "text" (V.c 4) (.int V.tx (V.c 0)), ent w "row" (V.c 5) (.int V.rx (V.c 1)), ent w "entries" (V.c 6) (.int V.ex (V.c 2)), ent w "room" (V.c 7) (.int V.vm (V.c 3)), ent w "used" (V.c 8) (.ref V.us), ent w "count" (V.c 9) (.int lb c5), ent w "is_global" (V.c 10) (.bool gl), ent w "made" (V.c 11) (.ref V.md)] = some (some v))
    (h : Q v { s with toks := s.toks + 1 }) (hs : subscripted slice false (.ref V.wx) (.str x t) = operate [.ref V.wx, .str x t] (getItem (.ref V.wx) (.str x t)) := by with_unfolding_all rfl) : wpAny (model prog w) A (subscriptTail value slice (.ref V.wx) (.str x t)) Q E s := by
  obtain ⟨c5, e⟩ := S.wx
  have hk : KeysLit w.params [ent w "text" (V.c 4) (.int V.tx (V.c 0)), ent w "row" (V.c 5) (.int V.rx (V.c 1)), ent w "entries" (V.c 6) (.int V.ex (V.c 2)), ent w "room" (V.c 7) (.int V.vm (V.c 3)), ent w "used" (V.c 8) (.ref V.us), ent w "count" (V.c 9) (.int lb c5), ent w "is_global" (V.c 10) (.bool gl), ent w "made" (V.c 11) (.ref V.md)] := by k_keys
  have hmo := mapOf_lit (prog := prog) (F.keep _ _ e) hk
  exact tail_any hmo.typeIs slot_dict_getitem.lookup (wpAny_getItem_of (strKind_is prog w x t) hmo (find_lit (hx c5)) h) hs
theorem draw_s {below : Int} {t3 : Tok} (F : Fr g L s.heap m) (N : News g L s.heap news) (G : Gd w loose mean mg mb b) (O : VOK w V b) (S : St w V b h0 g xs k u0 u1 lb x0 x1 xl gl mds) (hA0 : A.handled = none) (hA3 : A.depth ≤ 900) (hA4 : A.units ≤ 5000)
    (hk0 : 0 ≤ k) (hk1 : k < 1000) (hb0 : 0 < below) (hb1 : below < 200)
    (hR : ∀ r tk g' h' tks, 0 ≤ r → r < below → Fr g' L h' m → News g' L h' news → St w V b h0 g' xs (k + 1) u0 u1 lb x0 x1 xl gl mds → Q (.int r tk) ⟨h', s.gens, s.drawn, tks, s.os⟩) :
    wpAny (model PG w) A (call (.ref 371) [.ref V.dk, .int below t3]) Q E s := by
  obtain ⟨kt, e⟩ := S.dk
  have nb : b.get? V.dk = none := O.nbd (i := 6) rfl
  refine wpAny_call (codeAny_room (draw_c (A := { depth := 900, units := 5000, frames := none, handled := none, guards := none }) (vs := V.vs) (tk := kt) (t1 := V.d1) (t2 := V.d2) (n := V.dn) (fun a o q => F.keep _ _ (S.st _ _ q)) G (led_g F fun p hp => ?_) (stays_list' F.keep S.cl) (O.ne 7 6 rfl rfl rfl) O.iv O.hlen hk0 hk1 hb0 hb1 rfl fun r tk1 tk2 h' tks r0 r1 Af => ?_) hA0 hA3 (.inl rfl) rfl hA4)
  · obtain rfl := List.mem_singleton.mp hp
    exact ⟨e, nb⟩
  · refine reg (nw := []) F N S.st Af (fun _ hp => (nomatch hp)) (fun p hp => ?_) fun g' st' A' F' N' _ => hR r tk1 g' h' tks r0 r1 F' N' (S.draw O st' A')
    obtain rfl := List.mem_singleton.mp hp
    exact ⟨nb, _, e⟩
def ManyF (many most cost vm u0 u1 : Int) (nm : String) : Prop :=
  (nm = "rangecheck" ∧ many < 0) ∨ (nm = "limitcheck" ∧ 0 ≤ many ∧ most < many) ∨ (nm = "VMerror" ∧ 0 ≤ many ∧ many ≤ most ∧ vm < u0 + u1 + many * cost)
theorem two_g {us' : Obj} {wx' : Obj} (F : Fr g L s.heap m) (O : VOK w V b) (e1 : g.get? V.wx = some wx') (e2 : g.get? V.us = some us') : Led b s.heap [(V.wx, wx'), (V.us, us')] := led_g F (allc (⟨e1, O.nbd (i := 7) rfl⟩) (allc (⟨e2, O.nbd (i := 8) rfl⟩) fun _ q => nomatch q))
theorem fault_ok_s {many most cost : Int} {m0 m1 m2 : Tok} (F : Fr g L s.heap m) (N : News g L s.heap news) (G : Gd w loose mean mg mb b) (O : VOK w V b) (S : St w V b h0 g xs k u0 u1 lb x0 x1 xl gl mds) (hA0 : A.handled = none) (hA3 : A.depth ≤ 830) (hA4 : A.units ≤ 4400)
    (hc : cost = 1 ∨ cost = 8 ∨ cost = 16) (hu0 : 0 ≤ u0) (hu1 : 0 ≤ u1) (hu2 : u0 + u1 ≤ V.vm) (h0 : 0 ≤ many) (h1 : many ≤ most) (h2 : u0 + u1 + many * cost ≤ V.vm)
    (hR : ∀ h' tks, Fr g L h' m → News g L h' news → Q .none ⟨h', s.gens, s.drawn, tks, s.os⟩) :
    wpAny (model PG w) A (call (.ref 385) [.ref V.wx, .int many m0, .int most m1, .int cost m2]) Q E s := by
  obtain ⟨c5, e1⟩ := S.wx
  obtain ⟨d0, d1, un, e2⟩ := S.us
  have := O.vm1
  refine wpAny_call (codeAny_room (fault_c (A := { depth := 830, units := 4400, frames := none, handled := none, guards := none }) (fun a o q => F.keep _ _ (S.st _ _ q)) G (O.lt 8 9 rfl rfl rfl) hc (by omega) (two_g F O e1 e2) rfl
    (fun q => by omega) (fun _ q => by omega) (fun _ _ q => by omega) fun _ _ _ h' tks Af => same_go F N Af fun F' N' => hR h' tks F' N') hA0 hA3 (.inl rfl) rfl hA4)
theorem fault_bad_s {many most cost : Int} {m0 m1 m2 : Tok} {nm : String} (F : Fr g L s.heap m) (N : News g L s.heap news) (G : Gd w loose mean mg mb b) (O : VOK w V b) (S : St w V b h0 g xs k u0 u1 lb x0 x1 xl gl mds) (hA0 : A.handled = none) (hA3 : A.depth ≤ 830) (hA4 : A.units ≤ 4400)
    (hc : cost = 1 ∨ cost = 8 ∨ cost = 16) (hu0 : 0 ≤ u0) (hu1 : 0 ≤ u1) (hu2 : u0 + u1 ≤ V.vm) (hB : ManyF many most cost V.vm u0 u1 nm)
    (hR : ∀ tk h' tks, Fr g L h' m → News g L h' news → Q (.bytes (asBytes nm) tk) ⟨h', s.gens, s.drawn, tks, s.os⟩) :
    wpAny (model PG w) A (call (.ref 385) [.ref V.wx, .int many m0, .int most m1, .int cost m2]) Q E s := by
  obtain ⟨c5, e1⟩ := S.wx
  obtain ⟨d0, d1, un, e2⟩ := S.us
  have := O.vm1
  refine wpAny_call (codeAny_room (fault_c (A := { depth := 830, units := 4400, frames := none, handled := none, guards := none }) (fun a o q => F.keep _ _ (S.st _ _ q)) G (O.lt 8 9 rfl rfl rfl) hc (by omega) (two_g F O e1 e2) rfl
    (fun q tk h' tks Af => ?_) (fun q1 q2 tk h' tks Af => ?_) (fun q1 q2 q3 tk h' tks Af => ?_) fun q1 q2 q3 h' tks Af => ?_) hA0 hA3 (.inl rfl) rfl hA4)
  all_goals rcases hB with ⟨rfl, z1⟩ | ⟨rfl, z1, z2⟩ | ⟨rfl, z1, z2, z3⟩
  all_goals first | omega | exact same_go F N Af fun F' N' => hR tk h' tks F' N'
theorem bright_ok_s {cost : Int} {tc : Tok} {mkv : Value} {tp x dx C : Addr} {tn tl : Tok} {bn : Nat} {bs : List DictEntry} (F : Fr g L s.heap m) (N : News g L s.heap news) (G : Gd w loose mean mg mb b) (O : VOK w V b) (S : St w V b h0 g xs k u0 u1 lb x0 x1 xl gl mds) (hA0 : A.handled = none) (hA3 : A.depth ≤ 820) (hA4 : A.units ≤ 4300)
    (l1 : @LT.lt Nat _ L dx) (l2 : @LT.lt Nat _ dx x) (l3 : @LT.lt Nat _ x tp) (hC : C = 86 ∨ C = 107 ∨ C = 140)
    (hk : KeysLit w.params bs) (h1 : getL (Str.ofString "number") bs = some (some (.int (lb + 1) tn))) (h2 : getL (Str.ofString "is_global") bs = some (some (.bool gl))) (h3 : getL (Str.ofString "level") bs = some (some (.int 0 tl)))
    (m1 : (tp, tupO [.bool true, .ref x]) ∈ news) (m2 : (x, instObj C dx) ∈ news) (m3 : (dx, dictOf bs bn) ∈ news)
    (hR : ∀ g' h' tks, Fr g' L h' m → News g' L h' news → St w V b h0 g' xs k (if gl = true then u0 else u0 + cost) (if gl = true then u1 + cost else u1) (lb + 1) x0 x1 xl gl mds → Q (.bool true) ⟨h', s.gens, s.drawn, tks, s.os⟩) :
    wpAny (model PG w) A (call (.ref 399) [.ref V.wx, mkv, .ref tp, .none, .int cost tc]) Q E s := by
  obtain ⟨c5, e1⟩ := S.wx
  obtain ⟨d0, d1, un, e2⟩ := S.us
  have lu : @LT.lt Nat _ V.us dx := Nat.lt_trans (Nat.lt_of_lt_of_le (Heap.lt_size e2) F.above) l1
  have st : b.StaysIn s.heap := fun a o q => F.keep _ _ (S.st _ _ q)
  have D : Led b s.heap [(tp, tupO [.bool true, .ref x]), (x, instObj C dx), (dx, dictOf bs bn), (V.wx, V.wxO w lb gl c5), (V.us, usO u0 u1 d0 d1 un)] := fun p hp => by
    rcases List.mem_cons.mp hp with rfl | hp
    · exact led_of N S.st (led := [_]) (fun q hq => List.mem_singleton.mp hq ▸ m1) _ (.head _)
    rcases List.mem_cons.mp hp with rfl | hp
    · exact led_of N S.st (led := [_]) (fun q hq => List.mem_singleton.mp hq ▸ m2) _ (.head _)
    rcases List.mem_cons.mp hp with rfl | hp
    · exact led_of N S.st (led := [_]) (fun q hq => List.mem_singleton.mp hq ▸ m3) _ (.head _)
    exact two_g F O e1 e2 p hp
  refine wpAny_call (codeAny_room (bright_ok (A := { depth := 820, units := 4300, frames := none, handled := none, guards := none }) st G ⟨O.lt 8 9 rfl rfl rfl, lu, l2, l3⟩ hC hk h1 h2 h3 D rfl fun h' tks u0' u1' d0' d1' un' c5' z0 z1 Af => ?_) hA0 hA3 (.inl rfl) rfl hA4)
  subst z0 z1
  refine reg (nw := []) F N S.st Af (fun _ hp => (nomatch hp)) (fun p hp => ?_) fun g' st' A' F' N' _ => hR g' h' tks F' N' (S.counted O st' A')
  rcases List.mem_cons.mp hp with rfl | hp
  · exact ⟨O.nbd (i := 7) rfl, _, e1⟩
  · obtain rfl := List.mem_singleton.mp hp
    exact ⟨O.nbd (i := 8) rfl, _, e2⟩
theorem outcome_s {y0 y1 yl : Int} {f : Addr} {oF : Obj} {fd : FuncData} {env2 : Env} {Ok : Value → List (Addr × Obj) → List (Addr × Obj) → Prop} {Bad : String → Prop}
    (F : Fr g L s.heap m) (N : News g L s.heap news) (G : Gd w loose mean mg mb b) (O : VOK w V b) (S : St w V b h0 g xs k u0 u1 lb x0 x1 xl gl mds) (hfrm : A.frames = some [env2, V.env1]) (hh : A.handled = none) (hA3 : A.depth ≤ 400) (hA4 : A.units ≤ 1800)
    (hf2 : env2.frame = some L) (hk2 : env2.scope.kind ≠ .module) (hf : (f, oF) ∈ news) (hfd : oF.data = .func fd)
    (hC : ∀ v chg nw, Ok v chg nw → Chg w V gl x0 x1 xl y0 y1 yl chg)
    (hdeed : ∀ h₁ tks env, (∀ a o, s.heap.get? a = some o → h₁.get? a = some o) → h₁.FunFrames b [env, env2, V.env1] → (∀ a o, s.heap.get? a = some o → env.frame ≠ some a) → b.StaysIn h₁ → St w V b h0 h₁ xs k u0 u1 lb x0 x1 xl gl mds →
      codeC (model PG w) { depth := 420, units := 1900, frames := some [env, env2, V.env1], handled := none, guards := none } (.call (.ref f) ⟨[], []⟩) (DeedR w [env, env2, V.env1] Ok Bad ⟨h₁, s.gens, s.drawn, tks, s.os⟩) ⟨h₁, s.gens, s.drawn, tks, s.os⟩)
    (ok : ∀ v chg nw g' h' tks tp, Ok v chg nw → Fr g' L h' m → News g' L h' ((tp, tupO [.bool true, v]) :: nw ++ news) → (∀ q ∈ nw, q.1 < tp) → (∀ q ∈ nw, @LT.lt Nat _ L q.1) → @LT.lt Nat _ L tp → (∀ p ∈ news, ∀ q ∈ (tp, tupO [.bool true, v]) :: nw, @LT.lt Nat _ p.1 q.1) → St w V b h0 g' xs k u0 u1 lb y0 y1 yl gl mds → Q (.ref tp) ⟨h', s.gens, s.drawn, tks, s.os⟩)
    (bad : ∀ nm tk g' h' tks tp, Bad nm → Fr g' L h' m → News g' L h' ((tp, tupO [.bool false, .bytes (asBytes nm) tk]) :: news) → @LT.lt Nat _ L tp → (∀ p ∈ news, @LT.lt Nat _ p.1 tp) → St w V b h0 g' xs k u0 u1 lb x0 x1 xl gl mds → Q (.ref tp) ⟨h', s.gens, s.drawn, tks, s.os⟩) :
    wpC (model PG w) A (call (.ref 378) [.ref f]) Q E s := by
  have st : b.StaysIn s.heap := fun a o e => F.keep _ _ (S.st _ _ e)
  obtain ⟨oL, hoL, hdL⟩ := fr_obj F
  have bL : b.get? L = none := by
    cases e : b.get? L with
    | none => rfl
    | some o => exact absurd (Heap.lt_size (S.st _ _ e)) (Nat.not_lt_of_le F.above)
  obtain ⟨o1, e1, hdo⟩ := S.L1
  have hd1 : ∀ vs, o1.data ≠ .fields vs := fun vs q => O.hod vs (hdo.symm.trans q)
  obtain ⟨a0, a1, a2, ex⟩ := S.mx
  obtain ⟨es, ep, n, _, _, em⟩ := S.mm
  have nb1 : b.get? V.L1 = none := O.nbd (i := 5) rfl
  have lt1 : @LT.lt Nat _ V.L1 L := Nat.lt_of_lt_of_le (Heap.lt_size e1) F.above
  have ltx : @LT.lt Nat _ V.mx L := Nat.lt_of_lt_of_le (Heap.lt_size ex) F.above
  have ltm : @LT.lt Nat _ V.mm L := Nat.lt_of_lt_of_le (Heap.lt_size em) F.above
  have rowc : ∀ {chg : List (Addr × Obj)}, Chg w V gl x0 x1 xl y0 y1 yl chg → ∀ p ∈ chg, p.1 = V.mx ∨ p.1 = V.mm := fun C p hp => by
    cases C with
    | none => cases hp
    | took _ _ =>
      rcases List.mem_cons.mp hp with rfl | hp
      · exact .inl rfl
      · obtain rfl := List.mem_singleton.mp hp; exact .inr rfl
  refine wpC_call (codeC_room (outcome_c (A := { depth := 400, units := 1800, frames := some [env2, V.env1], handled := none, guards := none }) (b := b) (L1 := V.L1) (L2 := L) (o1 := o1) (o2 := oL) (led := [(V.mx, V.mxO w gl x0 x1 xl a0 a1 a2), (V.mm, dictA es ep)]) st G
    ⟨rfl, st, hk2, ⟨L, oL, hf2, bL, hoL, hdL⟩, O.hk, ⟨V.L1, o1, O.hf, nb1, F.keep _ _ e1, hd1⟩, trivial⟩ rfl O.hf hf2 (F.keep _ _ e1) hoL (Nat.ne_of_lt lt1) (led_g F fun p hp => ?_) (fun env he p hp q => ?_) (N _ hf).1 hfd ?_ (fun v chg nw z p hp => ?_)
    (fun h₁ tks env k1 k2 k3 k4 => hdeed h₁ tks env k1 k2 k3 k4 (S.mono (fun a o e => k1 _ _ (F.keep _ _ e)) fun q hq => .inr hq)) (fun v chg nw h' tks tp z Af W lt => ?_) fun nm tk h' tks tp sl1 sl2 hB Af W => ?_) hh hA3 (.inr hfrm) rfl hA4)
  · rcases List.mem_cons.mp hp with rfl | hp
    · exact ⟨ex, O.nbd (i := 10) rfl⟩
    · obtain rfl := List.mem_singleton.mp hp; exact ⟨em, O.nbd (i := 11) rfl⟩
  · simp only [List.mem_cons, List.not_mem_nil, or_false] at he hp
    rcases he with rfl | rfl
    · rw [hf2] at q
      rcases hp with rfl | rfl
      · exact Nat.ne_of_gt ltx (Option.some.inj q)
      · exact Nat.ne_of_gt ltm (Option.some.inj q)
    · rw [O.hf] at q
      rcases hp with rfl | rfl
      · exact O.ne 5 13 rfl rfl rfl (Option.some.inj q)
      · exact O.ne 5 16 rfl rfl rfl (Option.some.inj q)
  · intro z
    simp only [List.map_cons, List.map_nil, List.mem_cons, List.not_mem_nil, or_false] at z
    have := (N _ hf).2.2
    rcases z with rfl | rfl
    · rw [ex] at this; cases this
    · rw [em] at this; cases this
  · rcases rowc (hC v chg nw z) p hp with q | q
    · rw [q]; exact ⟨_, .head _⟩
    · rw [q]; exact ⟨_, .tail _ (.head _)⟩
  · refine reg F N S.st Af W (fun p hp => ?_) fun g' st' A' F' N' lW => ok v chg nw g' h' tks tp z F' N' lt (fun q hq => lW q (.tail _ hq)) (lW _ (.head _)) (fun p hp q hq => Nat.lt_of_lt_of_le (Heap.lt_size (N p hp).1) (W q hq).1) (S.chg O (hC v chg nw z) st' A')
    rcases rowc (hC v chg nw z) p hp with q | q
    · rw [q]; exact ⟨O.nbd (i := 10) rfl, _, ex⟩
    · rw [q]; exact ⟨O.nbd (i := 11) rfl, _, em⟩
  · have hLs : L < s.heap.objs.size := Heap.lt_size hoL
    have lW : ∀ q ∈ [(tp, tupO [.bool false, .bytes (asBytes nm) tk])], @LT.lt Nat _ L q.1 := fun q hq => Nat.lt_of_lt_of_le hLs (W q hq).1
    have kp : ∀ a o, s.heap.get? a = some o → a ≠ V.L1 → a ≠ L → h'.get? a = some o := fun a o e n1 n2 => Af.keep a o e fun p hp z => by
      simp only [List.mem_cons, List.not_mem_nil, or_false] at hp
      rcases hp with rfl | rfl
      · exact n1 z.symm
      · exact n2 z.symm
    obtain ⟨o, es', ep', ho, hd, hs, hfn⟩ := F.ns
    rw [hoL] at ho; cases ho
    refine reg0 (gx := {}) (chg := [(V.L1, { o1 with slots := sl1 })]) (b := b) ⟨⟨_, es', ep', Af.now _ (.tail _ (.head _)), hd, hs, hfn⟩, fun a o e => (nomatch e), Nat.zero_le _⟩ F.above (fun a o e n => kp a o (F.keep _ _ e) (fun z => n _ (.head _) z.symm) fun z => ?_) (fun p hp => ?_) (fun p hp => ?_) S.st (news := (tp, _) :: news) (fun p hp => ?_)
      fun g' st' A' F' N' => bad nm tk g' h' tks tp hB F' N' (lW _ (.head _)) (fun p hp => Nat.lt_of_lt_of_le (Heap.lt_size (N p hp).1) (W _ (.head _)).1) (S.slot O st' A' hdo)
    · exact absurd (Heap.lt_size e) (by rw [z]; exact Nat.not_lt_of_le F.above)
    · obtain rfl := List.mem_singleton.mp hp; exact Af.now _ (.head _)
    · obtain rfl := List.mem_singleton.mp hp; exact ⟨nb1, _, e1⟩
    · rcases List.mem_cons.mp hp with rfl | hp
      · exact ⟨(W _ (.head _)).2, Nat.ne_of_gt (lW _ (.head _)), Heap.get?_none_of_le (Nat.le_trans F.above (Nat.le_of_lt (lW _ (.head _))))⟩
      · refine ⟨kp _ _ (N p hp).1 (fun z => ?_) (N p hp).2.1, (N p hp).2⟩
        have := (N p hp).2.2
        rw [z, e1] at this; cases this
end
section
variable {w : World} {b : Heap} {loose : List Str} {mean : ExcName → Option Value} {mg mb : Str → Option Value} {Ok : Value → List (Addr × Obj) → List (Addr × Obj) → Prop} {Bad : String → Prop}
theorem lam_ok {fl fl' : List Env} {h1 h2 : Heap} {gs : Array GenState} {dr : Drawn} {t1 t2 : Nat} {os : OsState} {v : Value} {s' : Shared} (hk : ∀ a o, h1.get? a = some o → h2.get? a = some o) (hz : h1.objs.size ≤ h2.objs.size)
    (D : DeedR w fl' Ok Bad ⟨h2, gs, dr, t2, os⟩ (.ok (.ret v)) s') : DeedR w fl Ok Bad ⟨h1, gs, dr, t1, os⟩ (.ok (.ret v)) s' :=
  Exists.imp (fun _ => .imp fun _ => .imp fun _ => .imp fun _ D => ⟨D.1, D.2.1, ⟨D.2.2.1.now, fun a o e n => D.2.2.1.keep a o (hk _ _ e) n⟩, fun p hp => ⟨Nat.le_trans hz (D.2.2.2 p hp).1, (D.2.2.2 p hp).2⟩⟩) D
theorem lam_end {A : Around} {env : Env} {fl : List Env} {h1 g : Heap} {L : Addr} {m : Str → Option Value} {news led : List (Addr × Obj)} {t1 : Nat} {s : Shared} {f : Value} {args : List Value} {dd uu : Nat} (F : Fr g L s.heap m) (N : News g L s.heap news) (Z : Got b h1 g led L) (hm : ∀ p ∈ led, p ∈ news)
    (hf : env.frame = some L) (hfr : A.frames = some (env :: fl))
    (h : codeC (model PG w) { depth := dd, units := uu, frames := some (env :: fl), handled := none, guards := none } (.call f ⟨args, []⟩) (DeedR w (env :: fl) Ok Bad s) s) (ha : A.handled = none) (hd : A.depth ≤ dd) (hu : A.units ≤ uu) :
    wpC (model PG w) A (call f args) (fun v s' => DeedR w fl Ok Bad ⟨h1, s.gens, s.drawn, t1, s.os⟩ (.ok (.ret v)) s')
      (fun e s' => wpAny (model PG w) A (leaving env e) (fun _ s'' => DeedR w fl Ok Bad ⟨h1, s.gens, s.drawn, t1, s.os⟩ (.error e) s'') (fun e' s'' => DeedR w fl Ok Bad ⟨h1, s.gens, s.drawn, t1, s.os⟩ (.error e') s'') s') s := by
  have kp := keep_all F N Z hm
  have hL : L < s.heap.objs.size := by obtain ⟨o, es, ep, ho, _⟩ := F.ns; exact Heap.lt_size ho
  refine wpC_call (codeC_mono (codeC_room h ha hd (.inr hfr) rfl hu) fun r s' z => ?_)
  rcases r with e | fl'
  · rcases e with _ | _ | _ | _ | _ | _ | _ | _ | _ | _ <;> first | exact z.elim | skip
    obtain ⟨nm, tk, h', tks, rfl, hB, X⟩ := z
    exact err_on kp Z.new X hfr hf fun h'' X' => ⟨nm, tk, h'', tks, rfl, hB, X'⟩
  · cases fl' <;> first | exact lam_ok kp (by rw [Z.sz]; exact Nat.le_of_lt hL) z | exact z.elim
theorem lam_endA {A : Around} {env : Env} {fl : List Env} {h1 g : Heap} {L : Addr} {m : Str → Option Value} {news led : List (Addr × Obj)} {t1 : Nat} {s : Shared} {f : Value} {args : List Value} {dd uu : Nat} (F : Fr g L s.heap m) (N : News g L s.heap news) (Z : Got b h1 g led L) (hm : ∀ p ∈ led, p ∈ news)
    (hf : env.frame = some L) (hfr : A.frames = some (env :: fl))
    (h : codeAny (model PG w) { depth := dd, units := uu, frames := some (env :: fl), handled := none, guards := none } (.call f ⟨args, []⟩) (DeedR w (env :: fl) Ok Bad s) s) (ha : A.handled = none) (hd : A.depth ≤ dd) (hu : A.units ≤ uu) :
    wpAny (model PG w) A (call f args) (fun v s' => DeedR w fl Ok Bad ⟨h1, s.gens, s.drawn, t1, s.os⟩ (.ok (.ret v)) s')
      (fun e s' => wpAny (model PG w) A (leaving env e) (fun _ s'' => DeedR w fl Ok Bad ⟨h1, s.gens, s.drawn, t1, s.os⟩ (.error e) s'') (fun e' s'' => DeedR w fl Ok Bad ⟨h1, s.gens, s.drawn, t1, s.os⟩ (.error e') s'') s') s := by
  have kp := keep_all F N Z hm
  have hL : L < s.heap.objs.size := by obtain ⟨o, es, ep, ho, _⟩ := F.ns; exact Heap.lt_size ho
  refine wpAny_call (codeAny_mono (codeAny_room h ha hd (.inr hfr) rfl hu) fun r s' z => ?_)
  rcases r with e | fl'
  · rcases e with _ | _ | _ | _ | _ | _ | _ | _ | _ | _ <;> first | exact z.elim | skip
    obtain ⟨nm, tk, h', tks, rfl, hB, X⟩ := z
    exact err_on kp Z.new X hfr hf fun h'' X' => ⟨nm, tk, h'', tks, rfl, hB, X'⟩
  · cases fl' <;> first | exact lam_ok kp (by rw [Z.sz]; exact Nat.le_of_lt hL) z | exact z.elim
end
theorem tabs_one : ∀ p ∈ tabs, ∀ q ∈ tabs, p.1 = q.1 → p.2 = q.2 := fun p hp q hq e => by
  have i : tabs.Pairwise (fun p q => p.1 < q.1) := by simp [tabs]
  obtain ⟨j, hj, rfl⟩ := List.getElem_of_mem hp
  obtain ⟨k, hk, rfl⟩ := List.getElem_of_mem hq
  rcases Nat.lt_trichotomy j k with z | rfl | z
  · exact absurd e (Nat.ne_of_lt (List.pairwise_iff_getElem.mp i j k hj hk z))
  · rfl
  · exact absurd e (Nat.ne_of_gt (List.pairwise_iff_getElem.mp i k j hk hj z))
noncomputable section
namespace K_lam_s
def KP (w : World) (V : SV) (E Q : Value → Shared → Prop) (s : Shared) (b h0 g : Heap) (loose : List Str) (mean : ExcName → Option Value) (mg mb : Str → Option Value) (L : Addr) (m : Str → Option Value) (news : List (Addr × Obj)) (k u0 u1 lb x0 x1 xl : Int) (gl : Bool) (mds : Array Value) (M : Model) (p : Program) (T c a : Addr) (cn name qual : Str) (cs scope : Scope) (ccd : Value) (cl clos : List (Str × Addr)) (params : Arguments) (body : Expr) (pos : Pos) (firstLine : Nat) : Prop := ∀ {A : Around} (F : Fr g L s.heap m) (N : News g L s.heap news) (G : Top p loose mean mg mb b) (O : VOK w V b) (S : St w V b h0 g [] k u0 u1 lb x0 x1 xl gl mds) (C : CodeHd b c T) (i : Nat) (hi : Nat.blt i 5 = true) (hT : V.rws[i]? = some T) (ht : (T, qual) ∈ tabs) (hcd : ccd = .ref c) (hL : V.lm0 ≤ L) (hr : ∃ r ∈ news, @LT.lt Nat _ L r.1) (hcl : closureFor scope (envX cn cs L a ccd cl) = pure clos) (h : ∀ f c' ctv cx ox g' h' tk, Fr g' L h' m → News g' L h' ((f, kla_obj name qual params body scope clos ((mg "__name__").getD .none) c' ctv) :: (cx, ox) :: news) → h'.CodeRec (.ref c') qual → St w V b h0 g' [(cx, ox)] k u0 u1 lb x0 x1 xl gl mds →
      @LT.lt Nat _ L cx → @LT.lt Nat _ L f → (∀ q ∈ news, @LT.lt Nat _ q.1 cx) → (∀ q ∈ news, @LT.lt Nat _ q.1 f) → Q (.ref f) { s with heap := h', toks := tk }), wpAny M A (makeFunction name qual params (.expr body) scope (envX cn cs L a ccd cl) [] [] [] pos firstLine) Q E s
def KT (x : (World × SV × (Value → Shared → Prop) × (Value → Shared → Prop) × Shared × Heap) × (Heap × Heap × List Str × (ExcName → Option Value) × (Str → Option Value) × (Str → Option Value)) × (Addr × (Str → Option Value) × (List (Addr × Obj)) × Int × Int × Int) × (Int × Int × Int × Int × Bool × Array Value) × (Model × Program × Addr × Addr × Addr × Str) × (Str × Str × Scope × Scope × Value × (List (Str × Addr))) × ((List (Str × Addr)) × Arguments × Expr × Pos × Nat)) : Prop := KP x.1.1 x.1.2.1 x.1.2.2.1 x.1.2.2.2.1 x.1.2.2.2.2.1 x.1.2.2.2.2.2 x.2.1.1 x.2.1.2.1 x.2.1.2.2.1 x.2.1.2.2.2.1 x.2.1.2.2.2.2.1 x.2.1.2.2.2.2.2 x.2.2.1.1 x.2.2.1.2.1 x.2.2.1.2.2.1 x.2.2.1.2.2.2.1 x.2.2.1.2.2.2.2.1 x.2.2.1.2.2.2.2.2 x.2.2.2.1.1 x.2.2.2.1.2.1 x.2.2.2.1.2.2.1 x.2.2.2.1.2.2.2.1 x.2.2.2.1.2.2.2.2.1 x.2.2.2.1.2.2.2.2.2 x.2.2.2.2.1.1 x.2.2.2.2.1.2.1 x.2.2.2.2.1.2.2.1 x.2.2.2.2.1.2.2.2.1 x.2.2.2.2.1.2.2.2.2.1 x.2.2.2.2.1.2.2.2.2.2 x.2.2.2.2.2.1.1 x.2.2.2.2.2.1.2.1 x.2.2.2.2.2.1.2.2.1 x.2.2.2.2.2.1.2.2.2.1 x.2.2.2.2.2.1.2.2.2.2.1 x.2.2.2.2.2.1.2.2.2.2.2 x.2.2.2.2.2.2.1 x.2.2.2.2.2.2.2.1 x.2.2.2.2.2.2.2.2.1 x.2.2.2.2.2.2.2.2.2.1 x.2.2.2.2.2.2.2.2.2.2
theorem Kex : ∃ x, KT x → ∀ y, KT y := drink ((anyW, anyV, (fun _ _ => True), (fun _ _ => True), {}, default), (default, default, default, default, default, default), (default, default, default, default, default, default), (default, default, default, default, default, default), ((model PG anyW), default, default, default, default, default), (default, default, default, default, default, default), (default, default, default, default, default)) _
@[irreducible] def Kx0 := Classical.choose Kex
@[irreducible] def w := Kx0.1.1
@[irreducible] def V := Kx0.1.2.1
@[irreducible] def E := Kx0.1.2.2.1
@[irreducible] def Q := Kx0.1.2.2.2.1
@[irreducible] def s := Kx0.1.2.2.2.2.1
@[irreducible] def b := Kx0.1.2.2.2.2.2
@[irreducible] def h0 := Kx0.2.1.1
@[irreducible] def g := Kx0.2.1.2.1
@[irreducible] def loose := Kx0.2.1.2.2.1
@[irreducible] def mean := Kx0.2.1.2.2.2.1
@[irreducible] def mg := Kx0.2.1.2.2.2.2.1
@[irreducible] def mb := Kx0.2.1.2.2.2.2.2
@[irreducible] def L := Kx0.2.2.1.1
@[irreducible] def m := Kx0.2.2.1.2.1
@[irreducible] def news := Kx0.2.2.1.2.2.1
@[irreducible] def k := Kx0.2.2.1.2.2.2.1
@[irreducible] def u0 := Kx0.2.2.1.2.2.2.2.1
@[irreducible] def u1 := Kx0.2.2.1.2.2.2.2.2
@[irreducible] def lb := Kx0.2.2.2.1.1
@[irreducible] def x0 := Kx0.2.2.2.1.2.1
@[irreducible] def x1 := Kx0.2.2.2.1.2.2.1
@[irreducible] def xl := Kx0.2.2.2.1.2.2.2.1
@[irreducible] def gl := Kx0.2.2.2.1.2.2.2.2.1
@[irreducible] def mds := Kx0.2.2.2.1.2.2.2.2.2
@[irreducible] def M := Kx0.2.2.2.2.1.1
@[irreducible] def p := Kx0.2.2.2.2.1.2.1
@[irreducible] def T := Kx0.2.2.2.2.1.2.2.1
@[irreducible] def c := Kx0.2.2.2.2.1.2.2.2.1
@[irreducible] def a := Kx0.2.2.2.2.1.2.2.2.2.1
@[irreducible] def cn := Kx0.2.2.2.2.1.2.2.2.2.2
@[irreducible] def name := Kx0.2.2.2.2.2.1.1
@[irreducible] def qual := Kx0.2.2.2.2.2.1.2.1
@[irreducible] def cs := Kx0.2.2.2.2.2.1.2.2.1
@[irreducible] def scope := Kx0.2.2.2.2.2.1.2.2.2.1
@[irreducible] def ccd := Kx0.2.2.2.2.2.1.2.2.2.2.1
@[irreducible] def cl := Kx0.2.2.2.2.2.1.2.2.2.2.2
@[irreducible] def clos := Kx0.2.2.2.2.2.2.1
@[irreducible] def params := Kx0.2.2.2.2.2.2.2.1
@[irreducible] def body := Kx0.2.2.2.2.2.2.2.2.1
@[irreducible] def pos := Kx0.2.2.2.2.2.2.2.2.2.1
@[irreducible] def firstLine := Kx0.2.2.2.2.2.2.2.2.2.2
set_option maxRecDepth 100000
set_option maxHeartbeats 4000000
theorem at0 : KP w V E Q s b h0 g loose mean mg mb L m news k u0 u1 lb x0 x1 xl gl mds M p T c a cn name qual cs scope ccd cl clos params body pos firstLine := by
  intro A F N G O S C i hi hT ht hcd hL hr hcl h
  obtain ⟨ps, eT, T1, T2⟩ := S.tb _ ht
  dsimp only at eT T1 T2
  have hi5 := Nat.blt_eq.mp hi
  have hd : V.dyn[i]? = some T := by
    rw [← hT]
    match i, hi5 with
    | 0, _ | 1, _ | 2, _ | 3, _ | 4, _ => rfl
  have nb : b.get? T = none := O.nb _ (List.mem_append_left _ (in_dyn hd))
  have hlow : @LT.lt Nat _ T V.lm0 := O.low (in_dyn hd)
  have hc0 : ∀ p ∈ [(T, tabObj ps)], b.get? p.1 = none ∧ g.get? p.1 = some p.2 := fun p hp => by obtain rfl := List.mem_singleton.mp hp; exact ⟨nb, eT⟩
  have nT : ∀ p ∈ news, p.1 ≠ T := fun p hp q => by
    have := (N p hp).2.2
    rw [q, eT] at this; cases this
  obtain ⟨st', F', N'⟩ := hide_fr F N S.st hc0
  have TO : TabOK V.lm0 (hideAll g ([(T, tabObj ps)].map (·.1))) qual ps := ⟨T1, fun pos c e => by
    obtain ⟨c', oc, vs, t, e1, e2, e3, e4⟩ := T2 pos c e
    refine ⟨c', oc, vs, t, e1, ?_, e3, e4⟩
    rcases e2 with e2 | e2
    · exact hideAll_get _ e2 fun z => by
        obtain rfl := List.mem_singleton.mp z
        exact absurd hlow (Nat.not_lt_of_le e3)
    · cases e2⟩
  refine my_lambda F' N' (G.keeps st') (C.keeps st') hcd (.head nT) TO hL (let ⟨r, h1, h2⟩ := hr; ⟨r, .tail _ h1, h2⟩) hcl fun f c' ctv ps' cx ox h' tk F2 N2 cr tx lqc lqf lcL lfL => ?_
  have big : ∀ {x : Addr}, @LT.lt Nat _ L x → g.get? x = none := fun l => Heap.get?_none_of_le (Nat.le_trans F.above (Nat.le_of_lt l))
  refine unhide (chg := [(T, tabObj ps')]) (news := (f, _) :: (cx, ox) :: news) F.above S.st hc0 rfl F2 (fun p hp => N2 p ?_) (fun p hp => ?_) fun g' st'' A' F3 N3 => h f c' ctv cx ox g' h' tk F3 N3 cr (S.tab O i hi hT (fun p hp e => tabs_one p hp _ ht e) st'' A' ⟨tx.1, fun pos c e => ?_⟩) lcL lfL (fun q hq => lqc q (.tail _ hq)) (fun q hq => lqf q (.tail _ hq))
  · rcases List.mem_cons.mp hp with rfl | hp
    · exact .tail _ (.tail _ (.head _))
    rcases List.mem_cons.mp hp with rfl | hp
    · exact .head _
    rcases List.mem_cons.mp hp with rfl | hp
    · exact .tail _ (.head _)
    · exact .tail _ (.tail _ (.tail _ hp))
  · rcases List.mem_cons.mp hp with rfl | hp
    · exact big lfL
    rcases List.mem_cons.mp hp with rfl | hp
    · exact big lcL
    · exact (N p hp).2.2
  · obtain ⟨c2, oc, vs, t, e1, e2, e3, e4⟩ := tx.2 pos c e
    refine ⟨c2, oc, vs, t, e1, ?_, e3, e4⟩
    rcases e2 with e2 | ⟨rfl, rfl⟩
    · exact .inl (A'.keep1 _ _ (of_hideAll _ e2) fun z => absurd hlow (Nat.not_lt_of_le (z ▸ e3)))
    · exact .inr (.head _)
end K_lam_s
end
theorem lam_s {w : World} {V : SV} {E Q : Value → Shared → Prop} {s : Shared} {b h0 g : Heap} {loose : List Str} {mean : ExcName → Option Value} {mg mb : Str → Option Value} {L : Addr} {m : Str → Option Value} {news : List (Addr × Obj)} {k u0 u1 lb x0 x1 xl : Int} {gl : Bool} {mds : Array Value} {M : Model} {p : Program} {T c a : Addr} {cn name qual : Str} {cs scope : Scope} {ccd : Value} {cl clos : List (Str × Addr)} {params : Arguments} {body : Expr} {pos : Pos} {firstLine : Nat} : K_lam_s.KP w V E Q s b h0 g loose mean mg mb L m news k u0 u1 lb x0 x1 xl gl mds M p T c a cn name qual cs scope ccd cl clos params body pos firstLine :=
  @Classical.choose_spec _ _ K_lam_s.Kex (by with_unfolding_all exact @K_lam_s.at0) ((w, V, E, Q, s, b), (h0, g, loose, mean, mg, mb), (L, m, news, k, u0, u1), (lb, x0, x1, xl, gl, mds), (M, p, T, c, a, cn), (name, qual, cs, scope, ccd, cl), (clos, params, body, pos, firstLine))
section
end
section
variable {w : World} {V : SV} {A : Around} {s : Shared} {b h0 g : Heap} {loose : List Str} {mean : ExcName → Option Value} {mg mb : Str → Option Value} {L : Addr} {m : Str → Option Value} {news : List (Addr × Obj)}
  {xs : List (Addr × Obj)} {k u0 u1 lb x0 x1 xl : Int} {gl : Bool} {mds : Array Value} {fl : List Env}
noncomputable def SV.mkr (V : SV) : List Nat := [V.mk, V.mx, V.lm, V.lx, V.sv, V.mm]
theorem St.row (S : St w V b h0 g xs k u0 u1 lb x0 x1 xl gl mds) : ∀ a ∈ V.mkr, ∃ o, g.get? a = some o := allc ⟨_, S.mk⟩ (allc (S.mx.elim fun _ h => h.elim fun _ h => h.elim fun _ e => ⟨_, e⟩) (allc ⟨_, S.lm⟩ (allc ⟨_, S.lx⟩ (allc ⟨_, S.sv⟩ (allc (S.mm.elim fun _ h => h.elim fun _ h => h.elim fun _ e => ⟨_, e.2.2⟩) fun _ q => nomatch q)))))
theorem VOK.L1_mkr (O : VOK w V b) : ∀ a ∈ V.mkr, V.L1 ≠ a := (allc (O.ne 5 14 rfl rfl rfl) (allc (O.ne 5 13 rfl rfl rfl) (allc (O.ne 5 12 rfl rfl rfl) (allc (O.ne 5 11 rfl rfl rfl) (allc (O.ne 5 15 rfl rfl rfl) (allc (O.ne 5 16 rfl rfl rfl) fun _ q => nomatch q))))))
theorem nf_s {h h1 : Heap} {env env2 : Env} (F : Fr g L h m) (S : St w V b h0 g xs k u0 u1 lb x0 x1 xl gl mds) (O : VOK w V b) (_ : h1.FunFrames b [env, env2, V.env1]) (h2 : env2.frame = some L) (nf : ∀ a o, h.get? a = some o → env.frame ≠ some a) :
    ∀ e ∈ [env, env2, V.env1], ∀ a ∈ V.mkr, e.frame ≠ some a := fun e he a ha q => by
  obtain ⟨o, eo⟩ := S.row a ha
  simp only [List.mem_cons, List.not_mem_nil, or_false] at he
  rcases he with rfl | rfl | rfl
  · exact nf _ _ (F.keep _ _ eo) q
  · rw [h2] at q
    exact absurd (Nat.lt_of_lt_of_le (Heap.lt_size eo) F.above) (by rw [← Option.some.inj q]; exact Nat.lt_irrefl _)
  · rw [O.hf] at q; exact O.L1_mkr a ha (Option.some.inj q)
theorem nf_x {ex : Env} {fl : List Env} (nf : ∀ e ∈ fl, ∀ a ∈ V.mkr, e.frame ≠ some a) (S : St w V b h0 g xs k u0 u1 lb x0 x1 xl gl mds) (hx : ex.frame = some L) (hn : g.get? L = none) : ∀ e ∈ ex :: fl, ∀ a ∈ V.mkr, e.frame ≠ some a := fun e he a ha q => by
  rcases List.mem_cons.mp he with rfl | he
  · obtain ⟨o, eo⟩ := S.row a ha
    rw [hx] at q
    rw [← Option.some.inj q, hn] at eo; cases eo
  · exact nf e he a ha q
theorem below_lam {ex : Env} {fl : List Env} {h1 h2 : Heap} {led : List (Addr × Obj)} (F : Fr g L h2 m) (Z : Got b h1 g led L) (kp : ∀ a o, h1.get? a = some o → h2.get? a = some o) (st : b.StaysIn h1) (ff : h1.FunFrames b fl) (hA : A.frames = some (ex :: fl)) (hx : ex.frame = some L) (hk : ex.scope.kind ≠ .module) : Below A b (ex :: fl) h2 := by
  obtain ⟨o, ho, hd⟩ := fr_obj F
  refine ⟨hA, fun a o e => kp _ _ (st _ _ e), hk, ⟨L, o, hx, ?_, ho, hd⟩, ff.of_keeps fun a o e _ => ⟨o, kp _ _ e, rfl⟩⟩
  cases e : b.get? L with
  | none => rfl
  | some o' => have := st _ _ e; rw [Z.new] at this; cases this
theorem mkr_led {gl' : Bool} {a0 a1 a2 : Tok} {es : Array DictEntry} {ep : Nat} (nf : ∀ e ∈ fl, ∀ a ∈ V.mkr, e.frame ≠ some a) :
    ∀ env ∈ fl, ∀ p ∈ mkLed w V.mk V.mx V.lx V.lm V.sv V.jr V.mm V.fr gl' x0 x1 xl V.ls a0 a1 a2 (V.t 10) (V.t 0) (V.t 1) (V.t 2) (V.t 3) (V.t 4) (V.t 5) (V.t 6) (V.t 7) (V.t 8) (V.t 9) V.mn V.lim V.ln es ep, env.frame ≠ some p.1 := fun env he =>
  allc (nf env he _ (nth_mem 0 rfl)) (allc (nf env he _ (nth_mem 1 rfl)) (allc (nf env he _ (nth_mem 2 rfl)) (allc (nf env he _ (nth_mem 3 rfl)) (allc (nf env he _ (nth_mem 4 rfl)) (allc (nf env he _ (nth_mem 5 rfl)) fun _ q => nomatch q)))))
inductive NulOk (w : World) (V : SV) (gl : Bool) (x0 x1 xl many : Int) : Value → List (Addr × Obj) → List (Addr × Obj) → Prop
  | mk {x dx l t dt : Addr} {c qn jn : Nat} {tk q0 q1 q2 q3 tn tl j0 j1 j2 j3 : Tok} {vv ex ac : Value} {chg : List (Addr × Obj)} : 0 ≤ many → many ≤ V.rx → x0 + x1 + many * 8 ≤ V.vm → @LT.lt Nat _ dt t → @LT.lt Nat _ t dx → @LT.lt Nat _ dx x → @LT.lt Nat _ x l →
      Chg w V gl x0 x1 xl (if gl = true then x0 else x0 + many * 8) (if gl = true then x1 + many * 8 else x1) (xl + 1) chg →
      NulOk w V gl x0 x1 xl many (.ref x) chg [(x, instObj 107 dx), (dx, rowD w (xl + 1) tn l gl 0 tl j0 j1 j2 j3 jn), (l, listOf (List.replicate many.toNat (Value.ref t)).toArray c), (t, instObj 65 dt), (dt, thingD w "null" tk vv ex ac q0 q1 q2 q3 qn)]
theorem nulls_m {many : Int} {t : Tok} (G : Gd w loose mean mg mb b) (O : VOK w V b) (S : St w V b h0 s.heap xs k u0 u1 lb x0 x1 xl gl mds) (Bl : Below A b fl s.heap) (hA : A = { depth := 600, units := 2500, frames := some fl, handled := none, guards := none })
    (nf : ∀ e ∈ fl, ∀ a ∈ V.mkr, e.frame ≠ some a) (hl : xl ≤ 800) : codeAny (model PG w) A (.call (.ref 338) ⟨[.ref V.mk, .int many t], []⟩) (DeedR w fl (NulOk w V gl x0 x1 xl many) (ManyF many V.rx 8 V.vm x0 x1) s) s := by
  obtain ⟨a0, a1, a2, es, ep, n, hn, hN, D⟩ := S.led O
  have r1 := O.rx1
  refine nulls_c S.st G Bl hA O.order D O.lvm O.lrx hN (by omega) (by omega) (mkr_led nf) (fun q0 q1 q2 x dx l c t dt tk v ex ac q0 q1 q2 q3 qn h' tks tn tl k0 k1 k2 k3 kn u0' u1' a0' a1' a2' es' ep' e1 e2 hn' l1 l2 l3 l4 Af W => ?_)
    (fun q e h' tks tk X => ⟨"rangecheck", tk, h', tks, rfl, .inl ⟨rfl, q⟩, X⟩) (fun q1 q2 e h' tks tk X => ⟨"limitcheck", tk, h', tks, rfl, .inr (.inl ⟨rfl, q1, q2⟩), X⟩) fun q1 q2 q3 e h' tks tk X => ⟨"VMerror", tk, h', tks, rfl, .inr (.inr ⟨rfl, q1, q2, by omega⟩), X⟩
  subst e1 e2
  rw [Int.mul_comm 8 many] at Af
  exact ⟨_, _, h', tks, rfl, .mk (by assumption) (by assumption) (by omega) l1 l2 l3 l4 (.took (cost := many * 8) (by omega) hn'), Af, W⟩
end
theorem new0 {P : Prop} {g h h' : Heap} {L : Addr} {m : Str → Option Value} {news nw : List (Addr × Obj)} (F : Fr g L h m) (N : News g L h news) (Af : After h h' []) (W : New h h' nw) (k : Fr g L h' m → News g L h' (nw ++ news) → (∀ q ∈ nw, @LT.lt Nat _ L q.1) → (∀ p ∈ news, ∀ q ∈ nw, @LT.lt Nat _ p.1 q.1) → P) : P := by
  have hL : L < h.objs.size := by obtain ⟨o, es, ep, ho, _⟩ := F.ns; exact Heap.lt_size ho
  refine k (after_fr F Af fun _ hp => (nomatch hp)) (fun p hp => ?_) (fun q hq => Nat.lt_of_lt_of_le hL (W q hq).1) fun p hp q hq => Nat.lt_of_lt_of_le (Heap.lt_size (N p hp).1) (W q hq).1
  rcases List.mem_append.mp hp with hp | hp
  · exact ⟨(W p hp).2, Nat.ne_of_gt (Nat.lt_of_lt_of_le hL (W p hp).1), Heap.get?_none_of_le (Nat.le_trans F.above (Nat.le_of_lt (Nat.lt_of_lt_of_le hL (W p hp).1)))⟩
  · exact ⟨Af.keep _ _ (N p hp).1 fun _ hq => (nomatch hq), (N p hp).2⟩
theorem nb_new {b g h : Heap} {L : Addr} {news : List (Addr × Obj)} {p : Addr × Obj} (N : News g L h news) (st : b.StaysIn g) (hp : p ∈ news) : b.get? p.1 = none := (led_of N st (led := [p]) (fun q hq => List.mem_singleton.mp hq ▸ hp) p (.head _)).2
section
variable {w : World} {V : SV} {A : Around} {E : Value → Shared → Prop} {s : Shared} {b h0 g : Heap} {loose : List Str} {mean : ExcName → Option Value} {mg mb : Str → Option Value} {L : Addr} {m : Str → Option Value} {news : List (Addr × Obj)}
  {xs : List (Addr × Obj)} {k u0 u1 lb x0 x1 xl : Int} {gl : Bool} {mds : Array Value} {fl : List Env} {prog : Program}
theorem md_meth {pl : Sem Bool} {Q : Value × List Value → Shared → Prop} (F : Fr g L s.heap m) (S : St w V b h0 g xs k u0 u1 lb x0 x1 xl gl mds) (h : Q (.builtin "list.append", [.ref V.md]) s) : wpAny (model prog w) A (getMethod (.ref V.md) "append" pl) Q E s :=
  let ⟨_, e⟩ := S.md; Calls.getMethod_list_append (F.keep _ _ e) rfl rfl h
theorem md_add {x : Value} {Q : Value → Shared → Prop} (F : Fr g L s.heap m) (N : News g L s.heap news) (O : VOK w V b) (S : St w V b h0 g xs k u0 u1 lb x0 x1 xl gl mds) (hz : mds.size ≤ 1000)
    (h : ∀ g' h', Fr g' L h' m → News g' L h' news → St w V b h0 g' xs k u0 u1 lb x0 x1 xl gl (mds.push x) → Q .none { s with heap := h' }) : wpAny (model prog w) A (call (.builtin "list.append") [.ref V.md, x]) Q E s := by
  obtain ⟨c, e⟩ := S.md
  refine append_at (its := mds) (n := c) (F.keep _ _ e) (fun h' hs hd => ?_) (by rw [sizeLine_eq]; omega)
  have Af : After s.heap h' [(V.md, listOf (mds.push x) (c + 1))] := ⟨fun p hp => by obtain rfl := List.mem_singleton.mp hp; exact hd, fun a o q n => (hs.2 a fun z => n _ (.head _) z.symm).trans q⟩
  refine reg (nw := []) F N S.st Af (fun _ hp => (nomatch hp)) (fun p hp => ?_) fun g' st' A' F' N' _ => h g' h' F' N' (S.add O st' A')
  obtain rfl := List.mem_singleton.mp hp
  exact ⟨O.nbd (i := 9) rfl, _, e⟩
inductive DctOk (w : World) (V : SV) (gl : Bool) (x0 x1 xl many : Int) : Value → List (Addr × Obj) → List (Addr × Obj) → Prop
  | mk {x dx l : Addr} {jn : Nat} {tmn tn tl j0 j1 j2 j3 j4 j5 : Tok} {ac : Value} {chg : List (Addr × Obj)} : 0 ≤ many → many ≤ V.ex → x0 + x1 + many * 16 ≤ V.vm → @LT.lt Nat _ dx x → @LT.lt Nat _ x l →
      Chg w V gl x0 x1 xl (if gl = true then x0 else x0 + many * 16) (if gl = true then x1 + many * 16 else x1) (xl + 1) chg →
      DctOk w V gl x0 x1 xl many (.ref x) chg [(x, instObj 140 dx), (dx, dictbD w (xl + 1) tn many tmn gl 0 tl ac l j0 j1 j2 j3 j4 j5 jn), (l, dictOf [] 0)]
theorem dict_m {many : Int} {t : Tok} (G : Gd w loose mean mg mb b) (O : VOK w V b) (S : St w V b h0 s.heap xs k u0 u1 lb x0 x1 xl gl mds) (Bl : Below A b fl s.heap) (hA : A = { depth := 600, units := 2500, frames := some fl, handled := none, guards := none })
    (nf : ∀ e ∈ fl, ∀ a ∈ V.mkr, e.frame ≠ some a) (hl : xl ≤ 800) : codeAny (model PG w) A (.call (.ref 345) ⟨[.ref V.mk, .int many t], []⟩) (DeedR w fl (DctOk w V gl x0 x1 xl many) (ManyF many V.ex 16 V.vm x0 x1) s) s := by
  obtain ⟨a0, a1, a2, es, ep, n, hn, hN, D⟩ := S.led O
  have r1 := O.ex1
  refine mkdict_c S.st G Bl hA O.order D O.lvm O.lex hN (by omega) (by omega) (mkr_led nf) (fun q0 q1 q2 x dx l h' tks ac tn tl k0 k1 k2 k3 k4 k5 kn u0' u1' a0' a1' a2' es' ep' e1 e2 hn' l1 l2 Af W => ?_)
    (fun q e h' tks tk X => ⟨"rangecheck", tk, h', tks, rfl, .inl ⟨rfl, q⟩, X⟩) (fun q1 q2 e h' tks tk X => ⟨"limitcheck", tk, h', tks, rfl, .inr (.inl ⟨rfl, q1, q2⟩), X⟩) fun q1 q2 q3 e h' tks tk X => ⟨"VMerror", tk, h', tks, rfl, .inr (.inr ⟨rfl, q1, q2, by omega⟩), X⟩
  subst e1 e2
  rw [Int.mul_comm 16 many] at Af
  exact ⟨_, _, h', tks, rfl, .mk q0 q1 (by omega) l1 l2 (.took (cost := many * 16) (by omega) hn'), Af, W⟩
theorem made_push {h h' : Heap} {v : Value} (hM : ∀ v ∈ mds, MadeOK w V.lm0 h v) (k : ∀ a o, h.get? a = some o → V.lm0 ≤ a → h'.get? a = some o) (hv : MadeOK w V.lm0 h' v) : ∀ x ∈ mds.push v, MadeOK w V.lm0 h' x := fun x hx => by
  rcases Array.mem_push.mp hx with hx | rfl
  · exact (hM x hx).mono k
  · exact hv
theorem kp_low {h : Heap} (O : VOK w V b) (S : St w V b h0 g xs k u0 u1 lb x0 x1 xl gl mds) (F : Fr g L h m) : ∀ a o, h0.get? a = some o → V.lm0 ≤ a → h.get? a = some o := fun a o e l => F.keep _ _ (S.kp a o e fun z => absurd (O.low z) (Nat.not_lt_of_le l))
end

section
variable {w : World} {V : SV} {A : Around} {E : Value → Shared → Prop} {Q : Value → Shared → Prop} {s : Shared} {b h0 g : Heap} {loose : List Str} {mean : ExcName → Option Value} {mg mb : Str → Option Value} {L : Addr} {m : Str → Option Value} {news : List (Addr × Obj)}
  {xs : List (Addr × Obj)} {k u0 u1 lb x0 x1 xl : Int} {gl : Bool} {mds : Array Value} {fl : List Env} {prog : Program}
theorem sum_us (hh : A.handled = none) (F : Fr g L s.heap m) (N : News g L s.heap news) (S : St w V b h0 g xs k u0 u1 lb x0 x1 xl gl mds) (h : ∀ h' tk t', Fr g L h' m → News g L h' news → Q (.int (u0 + u1) t') { s with heap := h', toks := tk }) : wpAny (model prog w) A (call (.builtin "sum") [.ref V.us]) Q E s := by
  obtain ⟨d0, d1, un, e⟩ := S.us
  refine sumK (vs := [.int u0 d0, .int u1 d1]) (ns := [u0, u1]) hh F N ⟨_, F.keep _ _ e, rfl, _, rfl⟩ (by l_ints) fun h' tk t' F' N' => ?_
  have e2 : [u0, u1].sum = u0 + u1 := by simp
  rw [e2]; exact h h' tk t' F' N'
theorem w_count {value slice : Expr} {t : Tok} (F : Fr g L s.heap m) (S : St w V b h0 g xs k u0 u1 lb x0 x1 xl gl mds) (h : ∀ c5, Q (.int lb c5) { s with toks := s.toks + 1 })
    (hs : subscripted slice false (.ref V.wx) (.str (Str.ofString "count") t) = operate [.ref V.wx, .str (Str.ofString "count") t] (getItem (.ref V.wx) (.str (Str.ofString "count") t)) := by with_unfolding_all rfl) : wpAny (model prog w) A (subscriptTail value slice (.ref V.wx) (.str (Str.ofString "count") t)) Q E s := by
  obtain ⟨c5, e⟩ := S.wx
  have hk : KeysLit w.params [ent w "text" (V.c 4) (.int V.tx (V.c 0)), ent w "row" (V.c 5) (.int V.rx (V.c 1)), ent w "entries" (V.c 6) (.int V.ex (V.c 2)), ent w "room" (V.c 7) (.int V.vm (V.c 3)), ent w "used" (V.c 8) (.ref V.us), ent w "count" (V.c 9) (.int lb c5), ent w "is_global" (V.c 10) (.bool gl), ent w "made" (V.c 11) (.ref V.md)] := by k_keys
  have hmo := mapOf_lit (prog := prog) (F.keep _ _ e) hk
  exact tail_any hmo.typeIs slot_dict_getitem.lookup (wpAny_getItem_of (strKind_is prog w _ t) hmo (find_lit (by exact rfl)) (h c5)) hs
theorem counted_s {cost : Int} {m2 : Tok} (F : Fr g L s.heap m) (N : News g L s.heap news) (G : Gd w loose mean mg mb b) (O : VOK w V b) (S : St w V b h0 g xs k u0 u1 lb x0 x1 xl gl mds) (hA0 : A.handled = none) (hA3 : A.depth ≤ 830) (hA4 : A.units ≤ 4400)
    (hR : ∀ g' h' tks, Fr g' L h' m → News g' L h' news → St w V b h0 g' xs k (if gl = true then u0 else u0 + cost) (if gl = true then u1 + cost else u1) (lb + 1) x0 x1 xl gl mds → Q .none ⟨h', s.gens, s.drawn, tks, s.os⟩) :
    wpAny (model PG w) A (call (.ref 392) [.ref V.wx, .int cost m2]) Q E s := by
  obtain ⟨c5, e1⟩ := S.wx
  obtain ⟨d0, d1, un, e2⟩ := S.us
  refine wpAny_call (codeAny_room (counted_c (A := { depth := 830, units := 4400, frames := none, handled := none, guards := none }) (fun a o q => F.keep _ _ (S.st _ _ q)) G (O.lt 8 9 rfl rfl rfl) (two_g F O e1 e2) rfl fun h' tks u0' u1' d0' d1' un' c5' z0 z1 Af => ?_) hA0 hA3 (.inl rfl) rfl hA4)
  subst z0 z1
  refine reg (nw := []) F N S.st Af (fun _ hp => (nomatch hp)) (fun p hp => ?_) fun g' st' A' F' N' _ => hR g' h' tks F' N' (S.counted O st' A')
  rcases List.mem_cons.mp hp with rfl | hp
  · exact ⟨O.nbd (i := 7) rfl, _, e1⟩
  · obtain rfl := List.mem_singleton.mp hp
    exact ⟨O.nbd (i := 8) rfl, _, e2⟩
def RoomB (cost vm u0 u1 : Int) (nm : String) : Prop := nm = "VMerror" ∧ vm < u0 + u1 + cost
inductive ChkOk (w : World) (V : SV) (gl : Bool) (x0 x1 xl cost : Int) : Value → List (Addr × Obj) → List (Addr × Obj) → Prop
  | mk : x0 + x1 + cost ≤ V.vm → ChkOk w V gl x0 x1 xl cost .none [] []
inductive TakOk (w : World) (V : SV) (gl : Bool) (x0 x1 xl cost : Int) : Value → List (Addr × Obj) → List (Addr × Obj) → Prop
  | mk {tk : Tok} {chg : List (Addr × Obj)} : x0 + x1 + cost ≤ V.vm → Chg w V gl x0 x1 xl (if gl = true then x0 else x0 + cost) (if gl = true then x1 + cost else x1) (xl + 1) chg → TakOk w V gl x0 x1 xl cost (.int (xl + 1) tk) chg []
end
noncomputable section
namespace K_chk_m
def KP (w : World) (V : SV) (s : Shared) (b h0 : Heap) (loose : List Str) (mean : ExcName → Option Value) (mg mb : Str → Option Value) (xs : List (Addr × Obj)) (k u0 u1 lb x0 x1 xl : Int) (gl : Bool) (mds : Array Value) (fl : List Env) (cost : Int) (t : Tok) : Prop := ∀ {A : Around} (G : Gd w loose mean mg mb b) (O : VOK w V b) (S : St w V b h0 s.heap xs k u0 u1 lb x0 x1 xl gl mds) (Bl : Below A b fl s.heap) (hA : A = { depth := 900, units := 5000, frames := some fl, handled := none, guards := none }) (nf : ∀ e ∈ fl, ∀ a ∈ V.mkr, e.frame ≠ some a), codeAny (model PG w) A (.call (.ref 317) ⟨[.ref V.mk, .int cost t], []⟩) (DeedR w fl (ChkOk w V gl x0 x1 xl cost) (RoomB cost V.vm x0 x1) s) s
def KT (x : (World × SV × Shared × Heap × Heap × List Str) × ((ExcName → Option Value) × (Str → Option Value) × (Str → Option Value) × (List (Addr × Obj)) × Int × Int) × (Int × Int × Int × Int × Int × Bool) × (Array Value × List Env × Int × Tok)) : Prop := KP x.1.1 x.1.2.1 x.1.2.2.1 x.1.2.2.2.1 x.1.2.2.2.2.1 x.1.2.2.2.2.2 x.2.1.1 x.2.1.2.1 x.2.1.2.2.1 x.2.1.2.2.2.1 x.2.1.2.2.2.2.1 x.2.1.2.2.2.2.2 x.2.2.1.1 x.2.2.1.2.1 x.2.2.1.2.2.1 x.2.2.1.2.2.2.1 x.2.2.1.2.2.2.2.1 x.2.2.1.2.2.2.2.2 x.2.2.2.1 x.2.2.2.2.1 x.2.2.2.2.2.1 x.2.2.2.2.2.2
theorem Kex : ∃ x, KT x → ∀ y, KT y := drink ((anyW, anyV, {}, default, default, default), (default, default, default, default, default, default), (default, default, default, default, default, default), (default, default, default, default)) _
@[irreducible] def Kx0 := Classical.choose Kex
@[irreducible] def w := Kx0.1.1
@[irreducible] def V := Kx0.1.2.1
@[irreducible] def s := Kx0.1.2.2.1
@[irreducible] def b := Kx0.1.2.2.2.1
@[irreducible] def h0 := Kx0.1.2.2.2.2.1
@[irreducible] def loose := Kx0.1.2.2.2.2.2
@[irreducible] def mean := Kx0.2.1.1
@[irreducible] def mg := Kx0.2.1.2.1
@[irreducible] def mb := Kx0.2.1.2.2.1
@[irreducible] def xs := Kx0.2.1.2.2.2.1
@[irreducible] def k := Kx0.2.1.2.2.2.2.1
@[irreducible] def u0 := Kx0.2.1.2.2.2.2.2
@[irreducible] def u1 := Kx0.2.2.1.1
@[irreducible] def lb := Kx0.2.2.1.2.1
@[irreducible] def x0 := Kx0.2.2.1.2.2.1
@[irreducible] def x1 := Kx0.2.2.1.2.2.2.1
@[irreducible] def xl := Kx0.2.2.1.2.2.2.2.1
@[irreducible] def gl := Kx0.2.2.1.2.2.2.2.2
@[irreducible] def mds := Kx0.2.2.2.1
@[irreducible] def fl := Kx0.2.2.2.2.1
@[irreducible] def cost := Kx0.2.2.2.2.2.1
@[irreducible] def t := Kx0.2.2.2.2.2.2
set_option maxRecDepth 100000
set_option maxHeartbeats 4000000
theorem at0 : KP w V s b h0 loose mean mg mb xs k u0 u1 lb x0 x1 xl gl mds fl cost t := by
  intro A G O S Bl hA nf
  obtain ⟨a0, a1, a2, es, ep, n, hn, hN, D⟩ := S.led O
  have hm : ∀ p ∈ [(V.mk, instObj 348 V.mx), (V.mx, V.mxO w gl x0 x1 xl a0 a1 a2), (V.lm, instObj 270 V.lx), (V.lx, dictOf V.lim V.ln)], p ∈ mkLed w V.mk V.mx V.lx V.lm V.sv V.jr V.mm V.fr gl x0 x1 xl V.ls a0 a1 a2 (V.t 10) (V.t 0) (V.t 1) (V.t 2) (V.t 3) (V.t 4) (V.t 5) (V.t 6) (V.t 7) (V.t 8) (V.t 9) V.mn V.lim V.ln es ep := allc (nth_mem 0 rfl) (allc (nth_mem 1 rfl) (allc (nth_mem 2 rfl) (allc (nth_mem 3 rfl) fun _ q => nomatch q)))
  exact room_c S.st G Bl hA (D.sub hm) O.lvm (fun e he p hp => mkr_led nf e he p (hm p hp)) (fun q h' tks Af => ⟨[], [], h', tks, rfl, .mk q, Af, fun _ hp => (nomatch hp)⟩) fun q e h' tks tk X => ⟨"VMerror", tk, h', tks, rfl, ⟨rfl, q⟩, X⟩
end K_chk_m
end
theorem chk_m {w : World} {V : SV} {s : Shared} {b h0 : Heap} {loose : List Str} {mean : ExcName → Option Value} {mg mb : Str → Option Value} {xs : List (Addr × Obj)} {k u0 u1 lb x0 x1 xl : Int} {gl : Bool} {mds : Array Value} {fl : List Env} {cost : Int} {t : Tok} : K_chk_m.KP w V s b h0 loose mean mg mb xs k u0 u1 lb x0 x1 xl gl mds fl cost t :=
  @Classical.choose_spec _ _ K_chk_m.Kex (by with_unfolding_all exact @K_chk_m.at0) ((w, V, s, b, h0, loose), (mean, mg, mb, xs, k, u0), (u1, lb, x0, x1, xl, gl), (mds, fl, cost, t))
section
variable {w : World} {V : SV} {A : Around} {E : Value → Shared → Prop} {Q : Value → Shared → Prop} {s : Shared} {b h0 g : Heap} {loose : List Str} {mean : ExcName → Option Value} {mg mb : Str → Option Value} {L : Addr} {m : Str → Option Value} {news : List (Addr × Obj)}
  {xs : List (Addr × Obj)} {k u0 u1 lb x0 x1 xl : Int} {gl : Bool} {mds : Array Value} {fl : List Env} {prog : Program}
theorem tak_m {cost : Int} {t : Tok} (G : Gd w loose mean mg mb b) (O : VOK w V b) (S : St w V b h0 s.heap xs k u0 u1 lb x0 x1 xl gl mds) (Bl : Below A b fl s.heap) (hA : A = { depth := 880, units := 4900, frames := some fl, handled := none, guards := none })
    (nf : ∀ e ∈ fl, ∀ a ∈ V.mkr, e.frame ≠ some a) (hl : xl ≤ 800) : codeAny (model PG w) A (.call (.ref 310) ⟨[.ref V.mk, .int cost t], []⟩) (DeedR w fl (TakOk w V gl x0 x1 xl cost) (RoomB cost V.vm x0 x1) s) s := by
  obtain ⟨a0, a1, a2, es, ep, n, hn, hN, D⟩ := S.led O
  refine take_c S.st G Bl hA O.order D O.lvm hN (by omega) (mkr_led nf) (fun q h' tks tk u0' u1' a0' a1' a2' es' ep' e1 e2 hn' Af => ?_) fun q e h' tks tk X => ⟨"VMerror", tk, h', tks, rfl, ⟨rfl, q⟩, X⟩
  subst e1 e2
  exact ⟨_, [], h', tks, rfl, .mk q (.took (by omega) hn'), Af, fun _ hp => (nomatch hp)⟩
end
section
variable {w : World} {V : SV} {A : Around} {E : Value → Shared → Prop} {s : Shared} {b h0 g : Heap} {loose : List Str} {mean : ExcName → Option Value} {mg mb : Str → Option Value} {L : Addr} {m : Str → Option Value} {news : List (Addr × Obj)}
  {xs : List (Addr × Obj)} {k u0 u1 lb x0 x1 xl : Int} {gl : Bool} {mds : Array Value} {fl : List Env} {prog : Program}
inductive TxtOk (w : World) (V : SV) (gl : Bool) (x0 x1 xl many : Int) (y : Array UInt8) : Value → List (Addr × Obj) → List (Addr × Obj) → Prop
  | mk {x dx ba : Addr} {pn : Nat} {tn tl p0 p1 p2 p3 : Tok} {chg : List (Addr × Obj)} : 0 ≤ many → many ≤ V.tx → x0 + x1 + many * 1 ≤ V.vm → @LT.lt Nat _ dx x → @LT.lt Nat _ x ba → (y.size : Int) = many →
      Chg w V gl x0 x1 xl (if gl = true then x0 else x0 + many) (if gl = true then x1 + many else x1) (xl + 1) chg →
      TxtOk w V gl x0 x1 xl many y (.ref x) chg [(x, instObj 86 dx), (dx, textD w (xl + 1) tn ba gl 0 tl p0 p1 p2 p3 pn), (ba, baO y)]
theorem text_m {many : Int} {t : Tok} (G : Gd w loose mean mg mb b) (O : VOK w V b) (S : St w V b h0 s.heap xs k u0 u1 lb x0 x1 xl gl mds) (Bl : Below A b fl s.heap) (hA : A = { depth := 600, units := 2500, frames := some fl, handled := none, guards := none })
    (nf : ∀ e ∈ fl, ∀ a ∈ V.mkr, e.frame ≠ some a) (hl : xl ≤ 800) : codeC (model PG w) A (.call (.ref 324) ⟨[.ref V.mk, .int many t], []⟩) (DeedR w fl (TxtOk w V gl x0 x1 xl many (Array.replicate many.toNat 0)) (ManyF many V.tx 1 V.vm x0 x1) s) s := by
  obtain ⟨a0, a1, a2, es, ep, n, hn, hN, D⟩ := S.led O
  have r1 := O.tx1
  refine mktext_c S.st G Bl hA O.order D O.lvm O.ltx hN (by omega) (by omega) (mkr_led nf) (fun q0 q1 q2 x dx ba h' tks tn tl k0 k1 k2 k3 kn u0' u1' a0' a1' a2' es' ep' e1 e2 hn' l1 l2 Af W => ?_)
    (fun q e h' tks tk X => ⟨"rangecheck", tk, h', tks, rfl, .inl ⟨rfl, q⟩, X⟩) (fun q1 q2 e h' tks tk X => ⟨"limitcheck", tk, h', tks, rfl, .inr (.inl ⟨rfl, q1, q2⟩), X⟩) fun q1 q2 q3 e h' tks tk X => ⟨"VMerror", tk, h', tks, rfl, .inr (.inr ⟨rfl, q1, q2, by omega⟩), X⟩
  subst e1 e2
  exact ⟨_, _, h', tks, rfl, .mk q0 q1 (by omega) l1 l2 (by rw [Array.size_replicate]; omega) (.took (cost := many) (by omega) hn'), Af, W⟩
theorem octets_m {y : Array UInt8} {t : Tok} (G : Gd w loose mean mg mb b) (O : VOK w V b) (S : St w V b h0 s.heap xs k u0 u1 lb x0 x1 xl gl mds) (Bl : Below A b fl s.heap) (hA : A = { depth := 700, units := 3000, frames := some fl, handled := none, guards := none })
    (nf : ∀ e ∈ fl, ∀ a ∈ V.mkr, e.frame ≠ some a) (hl : xl ≤ 800) (hz : y.size ≤ 1000) : codeC (model PG w) A (.call (.ref 331) ⟨[.ref V.mk, .bytes y t], []⟩) (DeedR w fl (TxtOk w V gl x0 x1 xl (y.size : Int) y) (ManyF (y.size : Int) V.tx 1 V.vm x0 x1) s) s := by
  obtain ⟨a0, a1, a2, es, ep, n, hn, hN, D⟩ := S.led O
  refine octets_c S.st G Bl hA O.order D O.lvm O.ltx hN (by omega) hz (mkr_led nf) (fun q1 q2 x dx ba h' tks tn tl k0 k1 k2 k3 kn u0' u1' a0' a1' a2' es' ep' e1 e2 hn' l1 l2 Af W => ?_)
    (fun q2 e h' tks tk X => ⟨"limitcheck", tk, h', tks, rfl, .inr (.inl ⟨rfl, by omega, q2⟩), X⟩) fun q2 q3 e h' tks tk X => ⟨"VMerror", tk, h', tks, rfl, .inr (.inr ⟨rfl, by omega, q2, by omega⟩), X⟩
  subst e1 e2
  exact ⟨_, _, h', tks, rfl, .mk (by omega) q1 (by omega) l1 l2 rfl (.took (cost := (y.size : Int)) (by omega) hn'), Af, W⟩
theorem md_last {value slice : Expr} {v : Value} {t : Tok} {Q : Value → Shared → Prop} (F : Fr g L s.heap m) (S : St w V b h0 g xs k u0 u1 lb x0 x1 xl gl (mds.push v)) (hz : mds.size ≤ 1000) (h : Q v s)
    (hs : subscripted slice false (.ref V.md) (.int (-1) t) = operate [.ref V.md, .int (-1) t] (getItem (.ref V.md) (.int (-1) t)) := by with_unfolding_all rfl)
    (ht : ∀ r, letTemporaryGo value (.ref V.md) r = pure () := by intro _; with_unfolding_all rfl) :
    wpAny (model prog w) A (subscriptTail value slice (.ref V.md) (.int (-1) t)) Q E s := by
  obtain ⟨c, e⟩ := S.md
  have hl : s.heap.IsList V.md (mds.push v) := ⟨_, F.keep _ _ e, rfl, _, rfl⟩
  refine tail_of_ItemOn ⟨"list", _, slot_list_getitem.lookup, hl.typeIs, wpAny_getItem_list_neg hl (by omega) (by rw [Array.size_push]; push_cast; omega) (by omega) ?_ h⟩ hs ht
  rw [Array.size_push]
  have : (-1 + ((mds.size + 1 : Nat) : Int)).toNat = mds.size := by push_cast; omega
  rw [this]
  simp
inductive TextMid (w : World) (V : SV) (b h0 : Heap) (gl : Bool) (k u0 u1 lb : Int) (mds : Array Value) (s : Shared) (L : Addr) (M : Addr → Str → Option Value) : Flow → Shared → Prop
  | ok {many k' : Int} {y : Array UInt8} {tkm tko tn tl p0 p1 p2 p3 : Tok} {pn tk : Nat} {g h : Heap} {tp cx x dx ba : Addr} {ox oo om o9 : Obj} : oo.data = Data.cell (some (.bytes y tko)) → om.data = Data.cell (some (.int many tkm)) → k ≤ k' → k' ≤ k + 4 → 0 ≤ many → many ≤ V.tx → u0 + u1 + many * 1 ≤ V.vm →
      y.size ≤ 100 → @LT.lt Nat _ dx x → @LT.lt Nat _ x ba → @LT.lt Nat _ x tp → @LT.lt Nat _ L dx → @LT.lt Nat _ L tp → Fr g L h (M tp) → News g L h [(cx, ox), (L + 1 + 1 + 1, oo), (L + 1 + 1, om), (L + 1, o9), (tp, tupO [.bool true, .ref x]), (x, instObj 86 dx), (dx, textD w (lb + 1) tn ba gl 0 tl p0 p1 p2 p3 pn), (ba, baO y)] →
      o9.data = Data.cell (some (.ref V.mk)) → St w V b h0 g [(cx, ox)] k' u0 u1 lb (if gl = true then u0 else u0 + many) (if gl = true then u1 + many else u1) (lb + 1) gl mds → TextMid w V b h0 gl k u0 u1 lb mds s L M .next ⟨h, s.gens, s.drawn, tk, s.os⟩
  | bad {many k' : Int} {y : Array UInt8} {tkm tko tkf : Tok} {tk : Nat} {g h : Heap} {tp cx : Addr} {ox oo om o9 : Obj} {nm : String} : oo.data = Data.cell (some (.bytes y tko)) → om.data = Data.cell (some (.int many tkm)) → k ≤ k' → k' ≤ k + 4 → ManyF many V.tx 1 V.vm u0 u1 nm →
      @LT.lt Nat _ L tp → Fr g L h (M tp) → News g L h [(cx, ox), (L + 1 + 1 + 1, oo), (L + 1 + 1, om), (L + 1, o9), (tp, tupO [.bool false, .bytes (asBytes nm) tkf])] →
      o9.data = Data.cell (some (.ref V.mk)) → St w V b h0 g [(cx, ox)] k' u0 u1 lb u0 u1 lb gl mds → TextMid w V b h0 gl k u0 u1 lb mds s L M .next ⟨h, s.gens, s.drawn, tk, s.os⟩
end
section
variable {w : World} {V : SV} {A : Around} {E : Value → Shared → Prop} {s : Shared} {b h0 g : Heap} {loose : List Str} {mean : ExcName → Option Value} {mg mb : Str → Option Value} {L : Addr} {m : Str → Option Value} {news : List (Addr × Obj)}
  {xs : List (Addr × Obj)} {k u0 u1 lb x0 x1 xl : Int} {gl : Bool} {mds : Array Value} {fl : List Env} {prog : Program}
theorem addl_s {a : Addr} {vs1 : Array Value} {c1 : Nat} {Q : Value → Shared → Prop} (F : Fr g L s.heap m) (N : News g L s.heap news) (S : St w V b h0 g xs k u0 u1 lb x0 x1 xl gl mds) (h1 : (a, listOf vs1 c1) ∈ news) (hz : vs1.size + mds.size ≤ 1000)
    (h : ∀ D (sl : List Value) h', sl = vs1.toList ++ mds.toList → sl.length = vs1.size + mds.size → Fr g L h' m → News g L h' ((D, listOf sl.toArray 0) :: news) → (∀ p ∈ news, p.1 < D) → L < D → Q (.ref D) { s with heap := h' }) :
    wpAny (model prog w) A (binaryOp .Add (.ref a) (.ref V.md)) Q E s := by
  obtain ⟨c2, e2⟩ := S.md
  refine PySem.P.add_list (items := vs1) (items2 := mds) (n := c1) (n2 := c2) (N _ h1).1 (F.keep _ _ e2) ?_ (by rw [sizeLine_eq]; omega)
  obtain ⟨F', N'⟩ := new_push (o := listOf (vs1 ++ mds) 0) rfl F N
  refine h _ (vs1.toList ++ mds.toList) _ rfl (by simp) F' ?_ (fun p hp => Heap.lt_size (N p hp).1) F.ns.lt
  have e : (vs1.toList ++ mds.toList).toArray = vs1 ++ mds := by apply Array.toList_inj.mp; simp
  rw [e]; exact N'
theorem draw_A {Q : Value → Shared → Prop} {below : Int} {t3 : Tok} (F : Fr g L s.heap m) (N : News g L s.heap news) (G : Gd w loose mean mg mb b) (O : VOK w V b) (S : St w V b h0 g xs k u0 u1 lb x0 x1 xl gl mds) (hA0 : A.handled = none) (hA3 : A.depth ≤ 900) (hA4 : A.units ≤ 5000)
    (hk0 : 0 ≤ k) (hk1 : k < 1000) (hb0 : 0 < below) (hb1 : below < 200)
    (hR : ∀ r tk kt g' h' tks, 0 ≤ r → r < below → Fr g' L h' m → News g' L h' news → b.StaysIn g' → After g g' [(V.dk, V.dkO w (k + 1) kt)] → Q (.int r tk) ⟨h', s.gens, s.drawn, tks, s.os⟩) :
    wpAny (model PG w) A (call (.ref 371) [.ref V.dk, .int below t3]) Q E s := by
  obtain ⟨kt, e⟩ := S.dk
  have nb : b.get? V.dk = none := O.nbd (i := 6) rfl
  refine wpAny_call (codeAny_room (draw_c (A := { depth := 900, units := 5000, frames := none, handled := none, guards := none }) (vs := V.vs) (tk := kt) (t1 := V.d1) (t2 := V.d2) (n := V.dn) (fun a o q => F.keep _ _ (S.st _ _ q)) G (led_g F fun p hp => ?_) (stays_list' F.keep S.cl) (O.ne 7 6 rfl rfl rfl) O.iv O.hlen hk0 hk1 hb0 hb1 rfl fun r tk1 tk2 h' tks r0 r1 Af => ?_) hA0 hA3 (.inl rfl) rfl hA4)
  · obtain rfl := List.mem_singleton.mp hp
    exact ⟨e, nb⟩
  · refine reg (nw := []) F N S.st Af (fun _ hp => (nomatch hp)) (fun p hp => ?_) fun g' st' A' F' N' _ => hR r tk1 tk2 g' h' tks r0 r1 F' N' st' A'
    obtain rfl := List.mem_singleton.mp hp
    exact ⟨nb, _, e⟩
def FaultR (many most cost vm u0 u1 : Int) (v : Value) : Prop := (v = .none ∧ 0 ≤ many ∧ many ≤ most ∧ u0 + u1 + many * cost ≤ vm) ∨ ∃ nm tk, v = .bytes (asBytes nm) tk ∧ ManyF many most cost vm u0 u1 nm
theorem fault_any_s {Q : Value → Shared → Prop} {many most cost : Int} {m0 m1 m2 : Tok} (F : Fr g L s.heap m) (N : News g L s.heap news) (G : Gd w loose mean mg mb b) (O : VOK w V b) (S : St w V b h0 g xs k u0 u1 lb x0 x1 xl gl mds) (hA0 : A.handled = none) (hA3 : A.depth ≤ 830) (hA4 : A.units ≤ 4400)
    (hc : cost = 1 ∨ cost = 8 ∨ cost = 16) (hu0 : 0 ≤ u0) (hu1 : 0 ≤ u1) (hu2 : u0 + u1 ≤ V.vm)
    (hR : ∀ v h' tks, FaultR many most cost V.vm u0 u1 v → Fr g L h' m → News g L h' news → Q v ⟨h', s.gens, s.drawn, tks, s.os⟩) :
    wpAny (model PG w) A (call (.ref 385) [.ref V.wx, .int many m0, .int most m1, .int cost m2]) Q E s := by
  obtain ⟨c5, e1⟩ := S.wx
  obtain ⟨d0, d1, un, e2⟩ := S.us
  have := O.vm1
  exact wpAny_call (codeAny_room (fault_c (A := { depth := 830, units := 4400, frames := none, handled := none, guards := none }) (fun a o q => F.keep _ _ (S.st _ _ q)) G (O.lt 8 9 rfl rfl rfl) hc (by omega) (two_g F O e1 e2) rfl
    (fun q tk h' tks Af => same_go F N Af fun F' N' => hR _ h' tks (.inr ⟨_, tk, rfl, .inl ⟨rfl, q⟩⟩) F' N') (fun q1 q2 tk h' tks Af => same_go F N Af fun F' N' => hR _ h' tks (.inr ⟨_, tk, rfl, .inr (.inl ⟨rfl, q1, q2⟩)⟩) F' N')
    (fun q1 q2 q3 tk h' tks Af => same_go F N Af fun F' N' => hR _ h' tks (.inr ⟨_, tk, rfl, .inr (.inr ⟨rfl, q1, q2, q3⟩)⟩) F' N') fun q1 q2 q3 h' tks Af => same_go F N Af fun F' N' => hR _ h' tks (.inl ⟨rfl, q1, q2, q3⟩) F' N') hA0 hA3 (.inl rfl) rfl hA4)
inductive ROk (w : World) (V : SV) (its : List (Addr × Bool)) (gl : Bool) (x0 x1 xl : Int) : Value → List (Addr × Obj) → List (Addr × Obj) → Prop
  | mk {x dx l : Addr} {c jn : Nat} {tn tl j0 j1 j2 j3 : Tok} {chg : List (Addr × Obj)} : RowGood its V.rx V.vm x0 x1 gl → @LT.lt Nat _ dx x → @LT.lt Nat _ x l →
      Chg w V gl x0 x1 xl (if gl = true then x0 else x0 + (its.length : Int) * 8) (if gl = true then x1 + (its.length : Int) * 8 else x1) (xl + 1) chg →
      ROk w V its gl x0 x1 xl (.ref x) chg [(x, instObj 107 dx), (dx, rowD w (xl + 1) tn l gl 0 tl j0 j1 j2 j3 jn), (l, listOf (its.map fun p => Value.ref p.1).toArray c)]
theorem row_m {th : Addr} {its : List (Addr × Bool)} (G : Gd w loose mean mg mb b) (O : VOK w V b) (S : St w V b h0 s.heap xs k u0 u1 lb x0 x1 xl gl mds) (Bl : Below A b fl s.heap) (hA : A = { depth := 700, units := 3000, frames := some fl, handled := none, guards := none })
    (nf : ∀ e ∈ fl, ∀ a ∈ V.mkr, e.frame ≠ some a) (hl : xl ≤ 800) (hth : s.heap.IsList th (its.map fun p => Value.ref p.1).toArray) (hton : th ∉ V.mkr) (hok : ∀ p ∈ its, ThingAt w V.lm0 s.heap p.1 p.2) (hz : its.length ≤ 1000) :
    codeAny (model PG w) A (.call (.ref 338) ⟨[.ref V.mk, .ref th], []⟩) (DeedR w fl (ROk w V its gl x0 x1 xl) (RowBad its V.rx V.vm x0 x1 gl) s) s := by
  obtain ⟨a0, a1, a2, es, ep, n, hn, hN, D⟩ := S.led O
  refine row_c S.st G Bl hA O.order D O.lvm O.lrx hN (by omega) hth (fun q => hton ?_) rfl (fun p hp => (hok p hp).ok O.hb0) hz (mkr_led nf) (fun q1 q2 q3 x dx l c h' tks tn tl k0 k1 k2 k3 kn u0' u1' a0' a1' a2' es' ep' e1 e2 hn' l1 l2 Af W => ?_)
    (fun q e h' tks tk X => ⟨_, tk, h', tks, rfl, .inl ⟨rfl, q⟩, X⟩) (fun q1 q2 q3 e h' tks tk X => ⟨_, tk, h', tks, rfl, .inr (.inl ⟨rfl, q1, q2, q3⟩), X⟩) fun q1 q2 q3 e h' tks tk X => ⟨_, tk, h', tks, rfl, .inr (.inr ⟨rfl, q1, q2, q3⟩), X⟩
  · simpa [mkLed, SV.mkr] using q
  · subst e1 e2
    rw [Int.mul_comm 8] at Af
    exact ⟨_, _, h', tks, rfl, .mk ⟨q1, q2, q3⟩ l1 l2 (.took (cost := (its.length : Int) * 8) (by omega) hn'), Af, W⟩
end
theorem row_f {its : List (Addr × Bool)} {rx vm u0 u1 : Int} {gl : Bool} {fv : Value} (h1 : (its.length : Int) ≤ rx) (h2 : gl = true → ∀ p ∈ its, p.2 = true) (F : FaultR its.length rx 8 vm u0 u1 fv) : RowF its rx vm u0 u1 gl fv := by
  rcases F with ⟨e, _, _, q⟩ | ⟨nm, tk, e, q⟩
  · exact .inr ⟨e, h1, h2, by omega⟩
  · refine .inl ⟨nm, tk, e, ?_⟩
    rcases q with ⟨_, q⟩ | ⟨_, _, q⟩ | ⟨e, _, _, q⟩
    · omega
    · omega
    · exact .inr (.inr ⟨e, h1, h2, by omega⟩)
theorem mkr_off {V : SV} {w : World} {b : Heap} {th : Addr} (O : VOK w V b) (l : V.lm0 ≤ th) : th ∉ V.mkr := fun q =>
  absurd l (Nat.not_le_of_lt ((show ∀ a ∈ V.mkr, @LT.lt Nat _ a V.lm0 from allc (O.lt 14 17 rfl rfl rfl) (allc (O.lt 13 17 rfl rfl rfl) (allc (O.lt 12 17 rfl rfl rfl) (allc (O.lt 11 17 rfl rfl rfl) (allc (O.lt 15 17 rfl rfl rfl) (allc (O.lt 16 17 rfl rfl rfl) fun _ q => nomatch q)))))) th q))
theorem After.trans1 {g g' g'' : Heap} {a : Addr} {o o' : Obj} (A : After g g' [(a, o)]) (B : After g' g'' [(a, o')]) : After g g'' [(a, o')] :=
  ⟨B.now, fun x q e n => B.keep x q (A.keep x q e fun p hp => by obtain rfl := List.mem_singleton.mp hp; exact n (a, o') (.head _)) n⟩

section
variable {w : World} {V : SV} {b h0 g : Heap} {loose : List Str} {mean : ExcName → Option Value} {mg mb : Str → Option Value} {xs : List (Addr × Obj)} {k u0 u1 lb x0 x1 xl : Int} {gl : Bool} {mds : Array Value}
variable {A : Around} {E : Value → Shared → Prop}
inductive DIn (w : World) (V : SV) (b h0 : Heap) (A : Around) (xs : List (Addr × Obj)) (u0 u1 lb x0 x1 xl : Int) (gl : Bool) (mds : Array Value) (env : Env) (scope : Scope) (clos : List (Str × Addr)) (elt : Expr) (y : Str) (m : Str → Option Value) (Q : Flow → Shared → Prop) (sm cd cs : Addr) (sms : List Value) (od os : Obj) (xv : Value) (s₁ : Shared) : Prop
  | mk {g : Heap} {k : Int} {r : Addr} {n : Nat} {t u v : Tok} {news : List (Addr × Obj)} : xv = .ref r → IsRange s₁.heap r 0 n 1 t u v → n ≤ 20 → Fr g env.locals s₁.heap m → News g env.locals s₁.heap news → St w V b h0 g xs k u0 u1 lb x0 x1 xl gl mds → (sm, listOf sms.toArray 0) ∈ news → (cd, od) ∈ news → (cs, os) ∈ news →
      (∀ C g₁ k' h' tk' mC E', k ≤ k' → k' ≤ k + 20 → Fr g₁ C h' mC → News g₁ C h' [(sm, listOf sms.toArray 0), (cd, od), (cs, os)] → St w V b h0 g₁ xs k' u0 u1 lb x0 x1 xl gl mds →
        wpAny (model PG w) A (eval elt (compEnvC scope clos C env)) (fun v s' => ∃ g₂ h₂ tk₂ m₂ kt, s' = { s₁ with heap := h₂, toks := tk₂ } ∧ v ∈ sms ∧ Fr g₂ C h₂ m₂ ∧ News g₂ C h₂ [(sm, listOf sms.toArray 0), (cd, od), (cs, os)] ∧ After g₁ g₂ [(V.dk, V.dkO w (k' + 1) kt)]) E' { s₁ with heap := h', toks := tk' }) →
      (∀ D (ys : List Value) c' g' kt h' tk', ys.length = n → (∀ v ∈ ys, v ∈ sms) → b.StaysIn g' → After g g' [(V.dk, V.dkO w (k + n) kt)] → Fr g' env.locals h' (fun z => if z = y then some (.ref D) else m z) → News g' env.locals h' ((D, listOf ys.toArray c') :: news) → (∀ p ∈ news, p.1 < D) → env.locals < D → Q .next { s₁ with heap := h', toks := tk' }) →
      DIn w V b h0 A xs u0 u1 lb x0 x1 xl gl mds env scope clos elt y m Q sm cd cs sms od os xv s₁
end
noncomputable section
namespace K_draws_s
def KP (w : World) (V : SV) (b h0 : Heap) (xs : List (Addr × Obj)) (u0 u1 lb x0 x1 xl : Int) (gl : Bool) (mds : Array Value) (E : Value → Shared → Prop) (s : Shared) (env : Env) (elt iter : Expr) (x y : Str) (px py : Pos) (scope : Scope) (clos : List (Str × Addr)) (pos spos : Pos) (Q : Flow → Shared → Prop) (m : Str → Option Value) (sm cd cs : Addr) (sms : List Value) (od os : Obj) : Prop := ∀ {A : Around} (O : VOK w V b) (hh : A.handled = none) (hsw : swapsWith (.ListComp elt [⟨.Name x px, iter, [], 0⟩] scope pos) (some (.Name y py)) spos.line env = pure true) (hclos : closureFor scope env = pure clos) (hcell : ∀ y ∈ scope.names, y.2 ≠ .cell) (hkind : scope.kind = .function) (hnames : ∀ y ∈ scope.names, y.2 = .local → scope.names.lookup y.1 = some .local) (hx : scope.names.lookup x = some .local) (hy : env.kindOf y = some .local) (hp : (env.scope.kind == .class || (env.scope.kind == .module && env.locals != env.globals)) = false) (h : wpAny (model PG w) A (eval iter env) (DIn w V b h0 A xs u0 u1 lb x0 x1 xl gl mds env scope clos elt y m Q sm cd cs sms od os) E s) (hs : ∀ x, foldedSetIterable iter env x = pure x := by intro _; rfl), wpAny (model PG w) A (exec (.Assign [.Name y py] (.ListComp elt [⟨.Name x px, iter, [], 0⟩] scope pos) spos) env) Q E s
def KT (x : (World × SV × Heap × Heap × (List (Addr × Obj)) × Int) × (Int × Int × Int × Int × Int × Bool) × (Array Value × (Value → Shared → Prop) × Shared × Env × Expr × Expr) × (Str × Str × Pos × Pos × Scope × (List (Str × Addr))) × (Pos × Pos × (Flow → Shared → Prop) × (Str → Option Value) × Addr × Addr) × (Addr × List Value × Obj × Obj)) : Prop := KP x.1.1 x.1.2.1 x.1.2.2.1 x.1.2.2.2.1 x.1.2.2.2.2.1 x.1.2.2.2.2.2 x.2.1.1 x.2.1.2.1 x.2.1.2.2.1 x.2.1.2.2.2.1 x.2.1.2.2.2.2.1 x.2.1.2.2.2.2.2 x.2.2.1.1 x.2.2.1.2.1 x.2.2.1.2.2.1 x.2.2.1.2.2.2.1 x.2.2.1.2.2.2.2.1 x.2.2.1.2.2.2.2.2 x.2.2.2.1.1 x.2.2.2.1.2.1 x.2.2.2.1.2.2.1 x.2.2.2.1.2.2.2.1 x.2.2.2.1.2.2.2.2.1 x.2.2.2.1.2.2.2.2.2 x.2.2.2.2.1.1 x.2.2.2.2.1.2.1 x.2.2.2.2.1.2.2.1 x.2.2.2.2.1.2.2.2.1 x.2.2.2.2.1.2.2.2.2.1 x.2.2.2.2.1.2.2.2.2.2 x.2.2.2.2.2.1 x.2.2.2.2.2.2.1 x.2.2.2.2.2.2.2.1 x.2.2.2.2.2.2.2.2
theorem Kex : ∃ x, KT x → ∀ y, KT y := drink ((anyW, anyV, default, default, default, default), (default, default, default, default, default, default), (default, (fun _ _ => True), {}, anyE, default, default), (default, default, default, default, default, default), (default, default, (fun _ _ => True), default, default, default), (default, default, anyO, anyO)) _
@[irreducible] def Kx0 := Classical.choose Kex
@[irreducible] def w := Kx0.1.1
@[irreducible] def V := Kx0.1.2.1
@[irreducible] def b := Kx0.1.2.2.1
@[irreducible] def h0 := Kx0.1.2.2.2.1
@[irreducible] def xs := Kx0.1.2.2.2.2.1
@[irreducible] def u0 := Kx0.1.2.2.2.2.2
@[irreducible] def u1 := Kx0.2.1.1
@[irreducible] def lb := Kx0.2.1.2.1
@[irreducible] def x0 := Kx0.2.1.2.2.1
@[irreducible] def x1 := Kx0.2.1.2.2.2.1
@[irreducible] def xl := Kx0.2.1.2.2.2.2.1
@[irreducible] def gl := Kx0.2.1.2.2.2.2.2
@[irreducible] def mds := Kx0.2.2.1.1
@[irreducible] def E := Kx0.2.2.1.2.1
@[irreducible] def s := Kx0.2.2.1.2.2.1
@[irreducible] def env := Kx0.2.2.1.2.2.2.1
@[irreducible] def elt := Kx0.2.2.1.2.2.2.2.1
@[irreducible] def iter := Kx0.2.2.1.2.2.2.2.2
@[irreducible] def x := Kx0.2.2.2.1.1
@[irreducible] def y := Kx0.2.2.2.1.2.1
@[irreducible] def px := Kx0.2.2.2.1.2.2.1
@[irreducible] def py := Kx0.2.2.2.1.2.2.2.1
@[irreducible] def scope := Kx0.2.2.2.1.2.2.2.2.1
@[irreducible] def clos := Kx0.2.2.2.1.2.2.2.2.2
@[irreducible] def pos := Kx0.2.2.2.2.1.1
@[irreducible] def spos := Kx0.2.2.2.2.1.2.1
@[irreducible] def Q := Kx0.2.2.2.2.1.2.2.1
@[irreducible] def m := Kx0.2.2.2.2.1.2.2.2.1
@[irreducible] def sm := Kx0.2.2.2.2.1.2.2.2.2.1
@[irreducible] def cd := Kx0.2.2.2.2.1.2.2.2.2.2
@[irreducible] def cs := Kx0.2.2.2.2.2.1
@[irreducible] def sms := Kx0.2.2.2.2.2.2.1
@[irreducible] def od := Kx0.2.2.2.2.2.2.2.1
@[irreducible] def os := Kx0.2.2.2.2.2.2.2.2
set_option maxRecDepth 100000
set_option maxHeartbeats 4000000
theorem at0 : KP w V b h0 xs u0 u1 lb x0 x1 xl gl mds E s env elt iter x y px py scope clos pos spos Q m sm cd cs sms od os := by
  intro A O hh hsw hclos hcell hkind hnames hx hy hp h hs
  refine my_compGA hsw hclos hcell hkind hnames hy hp (wpAny_mono h (fun xv s₁ h₁ => ?_) fun _ _ e => e) hs
  cases h₁ with
  | @mk g k r n t u v news hxv hr hn F N S ms mcd mcs hturn hQ =>
  subst hxv
  obtain ⟨kt0, hdk⟩ := S.dk
  have hLlt : env.locals < s₁.heap.objs.size := F.ns.lt
  have hrlt : r < s₁.heap.objs.size := Heap.lt_size hr
  have esz : Builtin.Range.rangeSize 0 n 1 = n := by
    delta Builtin.Range.rangeSize
    split <;> omega
  have ltN : ∀ p ∈ news, p.1 < s₁.heap.objs.size := fun p hp => Heap.lt_size (N p hp).1
  have ltg : ∀ {a o}, g.get? a = some o → a < env.locals := fun e => Nat.lt_of_lt_of_le (Heap.lt_size e) F.above
  refine wpAny_pyIter_range hr ?_ ?_
  · unfold Builtin.Range.small Builtin.Range.rangeFitsLong
    rw [esz]
    simp
    omega
  rw [esz]
  generalize hs2 : ({ s₁ with heap := s₁.heap.push { cls := .type "range_iterator", data := .fields #[rawInt 0, rawInt n, rawInt 1] } } : Shared) = s₂
  have z2 : s₂.heap.objs.size = s₁.heap.objs.size + 1 := by rw [← hs2]; exact Heap.size_push ..
  have up : ∀ b o, s₁.heap.get? b = some o → s₂.heap.get? b = some o := fun b o e => by rw [← hs2]; exact Heap.get?_push_of_some _ e
  have hit : IsRangeIter s₂.heap s₁.heap.objs.size 0 n 1 := by rw [← hs2]; exact Heap.get?_push_size _ rfl
  have back : ∀ h' tk, ({ s₂ with heap := h', toks := tk } : Shared) = { s₁ with heap := h', toks := tk } := fun h' tk => by rw [← hs2]
  -- the turn's rows
  have mr : ∀ p ∈ [(sm, listOf sms.toArray 0), (cd, od), (cs, os)], p ∈ news := (allc (ms) (allc (mcd) (allc (mcs) fun _ q => nomatch q)))
  have lt2 : s₁.heap.objs.size < s₂.heap.objs.size := by rw [z2]; exact Nat.lt_succ_self _
  have nI : ∀ {c}, c < s₁.heap.objs.size → c ∉ [s₁.heap.objs.size] := fun l q => Nat.ne_of_lt l (List.mem_singleton.mp q)
  refine ⟨s₁.heap.objs.size, [s₁.heap.objs.size], [s₁.heap.objs.size], n, _, _,
    (fun C i ys h' => ∃ g' kt', b.StaysIn g' ∧ After g g' [(V.dk, V.dkO w (k + i) kt')] ∧ Fr g' env.locals h' m ∧ News g' env.locals h' news ∧ (∀ v ∈ ys, v ∈ sms) ∧ ys.length = i), {}, m, rfl, Walks.range hh _ 0 1 n, by omega, by simpa using hit, ?_, Nat.lt_trans hLlt lt2, ⟨?_, ?_, ?_⟩, ?_⟩
  · intro b hb
    rw [List.mem_singleton.mp hb]; exact lt2
  · intro C
    refine ⟨g, kt0, S.st, ⟨fun p hp => ?_, fun a o e _ => e⟩, F.keeps up, fun p hp => ⟨up _ _ (N p hp).1, (N p hp).2⟩, fun v hv => (nomatch hv), rfl⟩
    obtain rfl := List.mem_singleton.mp hp
    simpa using hdk
  · rintro C i ys h' h'' hC ⟨g', kt', st', Ag, F', N', hv, hl⟩ hk
    have hk2 : ∀ b, b < s₁.heap.objs.size → ∀ o, h'.get? b = some o → h''.get? b = some o := fun b hb o e' => hk b o (nI hb) (.inl (Nat.lt_trans hb lt2)) e'
    exact ⟨g', kt', st', Ag, ⟨F'.ns.at' fun o e => hk2 _ hLlt o e, fun b o e => hk2 b (Nat.lt_trans (Nat.lt_of_lt_of_le (Heap.lt_size e) F'.above) hLlt) o (F'.keep b o e), F'.above⟩, fun p hp => ⟨hk2 _ (ltN p hp) _ (N' p hp).1, (N' p hp).2⟩, hv, hl⟩
  · rintro C i v ys h' tk mC E' hC hi hP hst ⟨g', kt', st', Ag, F', N', hv, hl⟩ hn'
    have hC' : s₁.heap.objs.size < C := Nat.lt_trans lt2 hC
    have hLC : env.locals < C := Nat.lt_trans hLlt hC'
    have S' : St w V b h0 g' xs (k + i) u0 u1 lb x0 x1 xl gl mds := S.draw O st' Ag
    rw [back]
    refine wpAny_pure ?_
    have kf : (compEnvC scope clos C env).kindOf x = some .local := lookup_relabel_local hx
    refine wpAny_assign_Name (wpAny_storeName_local kf hn' (fun h₃ hn₃ hs₃ => ?_) (by simp [compEnvC, relabel, hkind]))
    have k3 : ∀ b o, b ≠ C → h'.get? b = some o → h₃.get? b = some o := fun b o n e => hs₃.extBut b o n e
    have lg' : ∀ {a o}, g'.get? a = some o → a < C := fun e => Nat.lt_trans (Nat.lt_of_lt_of_le (Heap.lt_size e) F'.above) hLC
    have rowlt : ∀ p ∈ [(sm, listOf sms.toArray 0), (cd, od), (cs, os)], h₃.get? p.1 = some p.2 ∧ @LT.lt Nat _ p.1 C := fun p hp =>
      have l : @LT.lt Nat _ p.1 C := Nat.lt_trans (ltN p (mr p hp)) hC'
      ⟨k3 _ _ (Nat.ne_of_lt l) (N' p (mr p hp)).1, l⟩
    have g'r : ∀ {a o}, g'.get? a = some o → a ∉ [(sm, listOf sms.toArray 0), (cd, od), (cs, os)].map (·.1) := fun e q => by
      obtain ⟨p, hp, rfl⟩ := List.mem_map.mp q
      rw [(N' p (mr p hp)).2.2] at e; cases e
    have tog1 : ∀ a o, g'.get? a = some o → (under h₃ C [(sm, listOf sms.toArray 0), (cd, od), (cs, os)]).get? a = some o := fun a o e => under_get (lg' e) (k3 a o (Nat.ne_of_lt (lg' e)) (F'.keep a o e)) (g'r e)
    refine wpAny_mono (hturn C (under h₃ C _) (k + i) h₃ _ _ E' (by omega) (by omega) (under_fr hn₃) (under_news rowlt) (S'.mono tog1 fun q hq => .inr hq)) (fun z s₅ h₅ => ?_) fun _ _ e => e
    obtain ⟨g₂, h₅, tk₅, m₅, kt₅, rfl, hz, F₅, N₅, A₅⟩ := h₅
    -- what stood below the comprehension's frame stands, but for the deck
    have k5 : ∀ a, a < C → a ≠ V.dk → ∀ o, h'.get? a = some o → h₅.get? a = some o := fun a ha hd o e => by
      have e3 := k3 a o (Nat.ne_of_lt ha) e
      by_cases q : a ∈ [(sm, listOf sms.toArray 0), (cd, od), (cs, os)].map (·.1)
      · obtain ⟨p, hp, rfl⟩ := List.mem_map.mp q
        have := (rowlt p hp).1
        rw [e3] at this
        rw [Option.some.inj this]; exact (N₅ p hp).1
      · exact F₅.keep _ _ (A₅.keep1 a o (under_get ha e3 q) hd)
    obtain ⟨kt2, hdk'⟩ := S'.dk
    have dL : V.dk < env.locals := Nat.lt_of_lt_of_le (Heap.lt_size hdk') F'.above
    have nd : ∀ p ∈ news, p.1 ≠ V.dk := fun p hp q => by
      have := (N' p hp).2.2
      rw [q, hdk'] at this; cases this
    have e3 : k + ((i + 1 : Nat) : Int) = k + (i : Int) + 1 := by push_cast; omega
    have J' : ∃ g' kt', b.StaysIn g' ∧ After g g' [(V.dk, V.dkO w (k + ((i + 1 : Nat) : Int)) kt')] ∧ Fr g' env.locals h₅ m ∧ News g' env.locals h₅ news := by
      refine reg0 (gx := {}) (g := g') (chg := [(V.dk, V.dkO w (k + ((i + 1 : Nat) : Int)) kt₅)]) (b := b) (L := env.locals) (h' := h₅) (m := m) (news := news) ⟨F'.ns.at' fun o e => k5 _ hLC (Nat.ne_of_gt dL) o e, fun a o e => (nomatch e), Nat.zero_le _⟩ F'.above
        (fun a o e nn => k5 a (lg' e) (fun q => nn _ (.head _) q.symm) o (F'.keep a o e)) (fun p hp => ?_) (fun p hp => ?_) st' (fun p hp => ⟨k5 _ (Nat.lt_trans (ltN p hp) hC') (nd p hp) _ (N' p hp).1, (N' p hp).2⟩)
        fun g'' st'' A'' F'' N'' => ⟨g'', kt₅, st'', Ag.trans1 A'', F'', N''⟩
      · obtain rfl := List.mem_singleton.mp hp
        rw [e3]; exact F₅.keep _ _ (A₅.now _ (.head _))
      · obtain rfl := List.mem_singleton.mp hp
        exact ⟨O.nbd (i := 6) rfl, _, hdk'⟩
    obtain ⟨g'', kt'', st'', A'', F'', N''⟩ := J'
    refine ⟨h₅, tk₅, m₅, (back _ _).symm, ⟨g'', kt'', st'', A'', F'', N'', fun v hv' => ?_, by rw [List.length_append, hl]; rfl⟩, F₅.ns, fun b o hb e => ?_⟩
    · rcases List.mem_append.mp hv' with hv' | hv'
      · exact hv v hv'
      · rw [List.mem_singleton.mp hv']; exact hz
    · have big : V.dk < b ∧ b < C := by
        rcases hb with hb | hb
        · rw [List.mem_singleton.mp hb]; exact ⟨Nat.lt_trans dL hLlt, hC'⟩
        · exact ⟨Nat.lt_of_lt_of_le (Nat.lt_trans (Nat.lt_trans dL hLlt) lt2) hb.1, hb.2⟩
      exact k5 b big.2 (Nat.ne_of_gt big.1) o e
  · rintro D C h' tk ys c' hD hDC hd ⟨g', kt', st', Ag, F', N', hv, hl⟩
    have z3 : s₁.heap.objs.size < D := Nat.lt_of_lt_of_le lt2 hD
    have hLD : env.locals < D := Nat.lt_trans hLlt z3
    refine ⟨⟨F'.ns, fun a o e => (nomatch e), Nat.zero_le _⟩, rfl, fun h'' tk'' F'' k'' => ?_⟩
    rw [back]
    have kg : ∀ a o, g'.get? a = some o → h''.get? a = some o := fun a o e =>
      have l : a < env.locals := Nat.lt_of_lt_of_le (Heap.lt_size e) F'.above
      k'' a o (Nat.ne_of_lt l) (Nat.ne_of_lt (Nat.lt_trans l (Nat.lt_trans hLD hDC))) (F'.keep a o e)
    refine hQ D ys.toList c' g' kt' h'' tk'' hl hv st' Ag ⟨F''.ns, kg, F'.above⟩ (fun p hp => ?_) (fun p hp => Nat.lt_trans (ltN p hp) z3) hLD
    rcases List.mem_cons.mp hp with rfl | hp
    · exact ⟨by simpa using k'' _ _ (Nat.ne_of_gt hLD) (Nat.ne_of_lt hDC) hd, Nat.ne_of_gt hLD, Heap.get?_none_of_le (Nat.le_trans F'.above (Nat.le_of_lt hLD))⟩
    · exact ⟨k'' _ _ (N' p hp).2.1 (Nat.ne_of_lt (Nat.lt_trans (Nat.lt_trans (ltN p hp) z3) hDC)) (N' p hp).1, (N' p hp).2⟩
end K_draws_s
end
theorem draws_s {w : World} {V : SV} {b h0 : Heap} {xs : List (Addr × Obj)} {u0 u1 lb x0 x1 xl : Int} {gl : Bool} {mds : Array Value} {E : Value → Shared → Prop} {s : Shared} {env : Env} {elt iter : Expr} {x y : Str} {px py : Pos} {scope : Scope} {clos : List (Str × Addr)} {pos spos : Pos} {Q : Flow → Shared → Prop} {m : Str → Option Value} {sm cd cs : Addr} {sms : List Value} {od os : Obj} : K_draws_s.KP w V b h0 xs u0 u1 lb x0 x1 xl gl mds E s env elt iter x y px py scope clos pos spos Q m sm cd cs sms od os :=
  @Classical.choose_spec _ _ K_draws_s.Kex (by with_unfolding_all exact @K_draws_s.at0) ((w, V, b, h0, xs, u0), (u1, lb, x0, x1, xl, gl), (mds, E, s, env, elt, iter), (x, y, px, py, scope, clos), (pos, spos, Q, m, sm, cd), (cs, sms, od, os))
section
end
theorem InGT.at1 {g h : Heap} {tr : List (Addr × Obj)} {lm0 : Nat} {p : Addr × Obj} (x : InGT g tr p) (l : lm0 ≤ p.1) (k : ∀ a o, g.get? a = some o → lm0 ≤ a → h.get? a = some o) (kt : ∀ p ∈ tr, h.get? p.1 = some p.2) : h.get? p.1 = some p.2 :=
  x.elim (fun e => k _ _ e l) (kt p)
theorem ThingIn.at1 {g h : Heap} {tr : List (Addr × Obj)} {w : World} {lm0 : Nat} {t : Addr} {f : Bool} (T : ThingIn g tr w lm0 t f) (k : ∀ a o, g.get? a = some o → lm0 ≤ a → h.get? a = some o) (kt : ∀ p ∈ tr, h.get? p.1 = some p.2) : ThingAt w lm0 h t f :=
  let ⟨l, S, D⟩ := T; ⟨l, S, fun p hp => ⟨(D p hp).1, (D p hp).2.at1 (D p hp).1 k kt⟩⟩
inductive MadeI (g : Heap) (tr : List (Addr × Obj)) (w : World) (lm0 : Nat) : Value → Prop
  | mk {tp t : Addr} {f : Bool} : lm0 ≤ tp → InGT g tr (tp, tupO [.ref t, .bool f]) → ThingIn g tr w lm0 t f → MadeI g tr w lm0 (.ref tp)
theorem made_i_old {g : Heap} {tr : List (Addr × Obj)} {w : World} {lm0 : Nat} {v : Value} (M : MadeOK w lm0 g v) : MadeI g tr w lm0 v := by
  obtain ⟨tp, t, f, rfl, hl, ht, l, S, D⟩ := M
  exact .mk hl (.inl ht) ⟨l, S, fun p hp => ⟨(D p hp).1, .inl (D p hp).2⟩⟩
theorem made_i_flat {g : Heap} {tr : List (Addr × Obj)} {w : World} {lm0 : Nat} {tp t dt : Addr} {kind : String} {tk : Tok} {v ex ac : Value} {t0 t1 t2 t3 : Tok} {n : Nat} (hk : kind ∈ ["integer", "name", "null", "mark"]) (hv : handedIn v = true) (m1 : (tp, tupO [.ref t, .bool true]) ∈ tr) (m2 : (t, instObj 65 dt) ∈ tr)
    (m3 : (dt, thingD w kind tk v ex ac t0 t1 t2 t3 n) ∈ tr) (hl : ∀ p ∈ tr, lm0 ≤ p.1) : MadeI g tr w lm0 (.ref tp) :=
  .mk (hl _ m1) (.inr m1) ⟨_, Shape.flat (tk := tk) (ex := ex) (ac := ac) (t0 := t0) (t1 := t1) (t2 := t2) (t3 := t3) (n := n) (dt := dt) hk hv, (allc (⟨hl _ m2, .inr m2⟩) (allc (⟨hl _ m3, .inr m3⟩) fun _ q => nomatch q))⟩
inductive PkI (g h : Heap) (tr : List (Addr × Obj)) (w : World) (lm0 : Nat) : Value → Prop
  | mk {tp : Addr} : lm0 ≤ tp → InGT g tr (tp, tupO [.ref (pk h (.ref tp)).1, .bool (pk h (.ref tp)).2]) → ThingIn g tr w lm0 (pk h (.ref tp)).1 (pk h (.ref tp)).2 → PkI g h tr w lm0 (.ref tp)
theorem pk_i {g h : Heap} {tr : List (Addr × Obj)} {w : World} {lm0 : Nat} {v : Value} (M : MadeI g tr w lm0 v) (k : ∀ a o, g.get? a = some o → lm0 ≤ a → h.get? a = some o) (kt : ∀ p ∈ tr, h.get? p.1 = some p.2) : PkI g h tr w lm0 v := by
  cases M with
  | @mk tp t f hl hT T =>
  have ht := hT.at1 hl k kt
  have e : ∃ p : Addr × Bool, ∃ tp', Value.ref tp = .ref tp' ∧ h.get? tp' = some (tupO [.ref p.1, .bool p.2]) := ⟨(t, f), tp, rfl, ht⟩
  have e1 : pk h (.ref tp) = (t, f) := by
    unfold pk
    rw [dif_pos e]
    obtain ⟨tp', q, ht'⟩ := Classical.choose_spec e
    have q' : tp = tp' := by simpa using q
    subst q'
    rw [ht] at ht'
    have h1 : ([Value.ref t, .bool f] : List Value).toArray = [Value.ref (Classical.choose e).1, .bool (Classical.choose e).2].toArray := by
      have := congrArg Obj.data (Option.some.inj ht')
      simpa using this
    have h3 : ([Value.ref t, .bool f] : List Value) = [Value.ref (Classical.choose e).1, .bool (Classical.choose e).2] := congrArg Array.toList h1
    obtain ⟨a1, b1⟩ := List.cons.inj h3
    exact (Prod.ext (Value.ref.inj a1) (Value.bool.inj (List.cons.inj b1).1)).symm
  refine .mk hl ?_ ?_
  · rw [e1]; exact hT
  · rw [e1]; exact T
theorem PkI.tup {g h h' : Heap} {tr : List (Addr × Obj)} {w : World} {lm0 : Nat} {v : Value} (P : PkI g h tr w lm0 v) (k : ∀ a o, g.get? a = some o → lm0 ≤ a → h'.get? a = some o) (kt : ∀ p ∈ tr, h'.get? p.1 = some p.2) : ∃ tp, v = .ref tp ∧ h'.IsTuple tp [.ref (pk h v).1, .bool (pk h v).2].toArray := by
  cases P with
  | mk hl hT T => exact ⟨_, rfl, _, hT.at1 hl k kt, rfl, _, rfl⟩
theorem PkI.thing {g h : Heap} {tr : List (Addr × Obj)} {w : World} {lm0 : Nat} {v : Value} (P : PkI g h tr w lm0 v) : ThingIn g tr w lm0 (pk h v).1 (pk h v).2 := by
  cases P with
  | mk hl hT T => exact T
theorem thing_kv1 {g : Heap} {tr : List (Addr × Obj)} {w : World} {lm0 : Nat} {t : Addr} {f : Bool} (T : ThingIn g tr w lm0 t f) : ∃ p, ∀ h : Heap, (∀ a o, g.get? a = some o → lm0 ≤ a → h.get? a = some o) → (∀ p ∈ tr, h.get? p.1 = some p.2) → KVAt h (.ref t) p := by
  obtain ⟨l, S, D⟩ := T
  have at9 : ∀ h : Heap, (∀ a o, g.get? a = some o → lm0 ≤ a → h.get? a = some o) → (∀ p ∈ tr, h.get? p.1 = some p.2) → ∀ p ∈ l, h.get? p.1 = some p.2 := fun h k kt p hp => (D p hp).2.at1 (D p hp).1 k kt
  cases S with
  | flat hk hv => exact ⟨(_, _), fun h k kt => ⟨t, _, _, _, rfl, at9 h k kt _ (.head _), at9 h k kt _ (.tail _ (.head _)), rfl, rfl, rfl, hv⟩⟩
  | span hc hk hg => exact ⟨(_, _), fun h k kt => ⟨t, _, _, _, rfl, at9 h k kt _ (.head _), at9 h k kt _ (.tail _ (.head _)), rfl, rfl, rfl, rfl⟩⟩
  | dict hk hg => exact ⟨(_, _), fun h k kt => ⟨t, _, _, _, rfl, at9 h k kt _ (.head _), at9 h k kt _ (.tail _ (.head _)), rfl, rfl, rfl, rfl⟩⟩
theorem things_kv1 {g : Heap} {tr : List (Addr × Obj)} {w : World} {lm0 : Nat} {its : List (Addr × Bool)} (T : ∀ p ∈ its, ThingIn g tr w lm0 p.1 p.2) : ∃ kv : Value → Value × Value, ∀ h : Heap, (∀ a o, g.get? a = some o → lm0 ≤ a → h.get? a = some o) → (∀ p ∈ tr, h.get? p.1 = some p.2) → ∀ p ∈ its, KVAt h (.ref p.1) (kv (.ref p.1)) := by
  have : ∀ v, ∃ q, (∃ p ∈ its, v = .ref p.1) → ∀ h : Heap, (∀ a o, g.get? a = some o → lm0 ≤ a → h.get? a = some o) → (∀ p ∈ tr, h.get? p.1 = some p.2) → KVAt h v q := fun v => by
    by_cases e : ∃ p ∈ its, v = .ref p.1
    · obtain ⟨p, hp, rfl⟩ := e
      obtain ⟨q, hq⟩ := thing_kv1 (T p hp)
      exact ⟨q, fun _ => hq⟩
    · exact ⟨(.none, .none), fun x => absurd x e⟩
  exact ⟨fun v => Classical.choose (this v), fun h k kt p hp => Classical.choose_spec (this (.ref p.1)) ⟨p, hp, rfl⟩ h k kt⟩
inductive RowMid (w : World) (V : SV) (h0 g : Heap) (mds : Array Value) (s : Shared) (L : Addr) (M : Str → Option Value) : Flow → Shared → Prop
  | mk {h : Heap} {tk : Nat} {sm : Addr} {sl : List Value} {tr : List (Addr × Obj)} {od om os ot : Obj} {ov : Option Value} : od.data = Data.cell (some (.ref V.dk)) → om.data = Data.cell (some (.ref V.mk)) → os.data = Data.cell (some (.ref sm)) → ot.data = Data.cell ov →
      sl.length = 4 + mds.size → (∀ v ∈ sl, MadeI h0 tr w V.lm0 v) → (∀ p ∈ tr, @LT.lt Nat _ (L + 1 + 1 + 1 + 1) p.1) → @LT.lt Nat _ (L + 1 + 1 + 1 + 1) sm → Fr g L h M →
      News g L h ((sm, listOf sl.toArray 0) :: (L + 1 + 1 + 1 + 1, ot) :: (L + 1 + 1 + 1, os) :: (L + 1 + 1, om) :: (L + 1, od) :: tr) → RowMid w V h0 g mds s L M .next ⟨h, s.gens, s.drawn, tk, s.os⟩
theorem row_mid {w : World} {V : SV} {h0 g : Heap} {mds : Array Value} {s : Shared} {L : Addr} {M : Str → Option Value} {h : Heap} {tk : Nat} {sm : Addr} {sl : List Value} {od om os ot l1 : (Addr × Obj)} {o1 o2 o3 o4 : Obj} {ov : Option Value} {p1 p2 p3 p4 p5 p6 p7 p8 p9 p10 p11 p12 : Addr × Obj}
    (N : News g L h ((sm, listOf sl.toArray 0) :: l1 :: p1 :: p2 :: p3 :: p4 :: p5 :: p6 :: p7 :: p8 :: p9 :: p10 :: p11 :: p12 :: [ot, os, om, od])) (e1 : od = (L + 1, o1)) (e2 : om = (L + 1 + 1, o2)) (e3 : os = (L + 1 + 1 + 1, o3)) (e4 : ot = (L + 1 + 1 + 1 + 1, o4)) (d1 : o1.data = Data.cell (some (.ref V.dk))) (d2 : o2.data = Data.cell (some (.ref V.mk))) (d3 : o3.data = Data.cell (some (.ref sm))) (d4 : o4.data = Data.cell ov)
    (hsl : sl.length = 4 + mds.size) (hL : V.lm0 ≤ L) (hM : (∀ p ∈ [p1, p2, p3, p4, p5, p6, p7, p8, p9, p10, p11, p12], V.lm0 ≤ p.1) → ∀ v ∈ sl, MadeI h0 [p1, p2, p3, p4, p5, p6, p7, p8, p9, p10, p11, p12] w V.lm0 v) (hl : ∀ p ∈ [p1, p2, p3, p4, p5, p6, p7, p8, p9, p10, p11, p12], @LT.lt Nat _ (L + 1 + 1 + 1 + 1) p.1) (hs : @LT.lt Nat _ (L + 1 + 1 + 1 + 1) sm) (F : Fr g L h M) :
    RowMid w V h0 g mds s L M .next ⟨h, s.gens, s.drawn, tk, s.os⟩ := by
  subst e1 e2 e3 e4
  refine .mk d1 d2 d3 d4 hsl (hM fun p hp => Nat.le_trans hL (Nat.le_of_lt (Nat.lt_trans (Nat.lt_succ_of_lt (Nat.lt_succ_of_lt (Nat.lt_succ_of_lt (Nat.lt_succ_self _)))) (hl p hp)))) hl hs F (allc (N _ (nth_mem 0 rfl)) (allc (N _ (nth_mem 14 rfl)) (allc (N _ (nth_mem 15 rfl)) (allc (N _ (nth_mem 16 rfl)) (allc (N _ (nth_mem 17 rfl)) fun p hp => N p (.tail _ (.tail _ (List.mem_append_left [(L + 1 + 1 + 1 + 1, o4), (L + 1 + 1 + 1, o3), (L + 1 + 1, o2), (L + 1, o1)] hp))))))))
noncomputable def above (h : Heap) (lm : Nat) : List (Addr × Obj) := (List.range h.objs.size).filterMap fun a => if lm ≤ a then (h.get? a).map fun o => (a, o) else none
theorem mem_above {h : Heap} {lm a : Nat} {o : Obj} (e : h.get? a = some o) (l : lm ≤ a) : ((a : Addr), o) ∈ above h lm :=
  List.mem_filterMap.mpr ⟨a, List.mem_range.mpr (Heap.lt_size e), by rw [if_pos l, e]; rfl⟩
theorem of_above {h : Heap} {lm : Nat} {p : Addr × Obj} (m : p ∈ above h lm) : h.get? p.1 = some p.2 ∧ lm ≤ p.1 := by
  obtain ⟨a, _, q⟩ := List.mem_filterMap.mp m
  by_cases l : lm ≤ a
  · rw [if_pos l] at q
    obtain ⟨o, e, rfl⟩ := Option.map_eq_some_iff.mp q
    exact ⟨e, l⟩
  · rw [if_neg l] at q; cases q

section
variable {w : World} {V : SV} {b g h h' : Heap} {L : Addr} {m : Str → Option Value} {k u0 u1 lb k' u0' u1' lb' : Int} {gl gl' : Bool} {mds mds' : Array Value} {ex : List (Addr × Obj)}
noncomputable abbrev rowsL (w : World) (V : SV) (k u0 u1 lb : Int) (gl : Bool) (mds : Array Value) (kt c5 d0 d1 : Tok) (un cm cc : Nat) (a0 a1 a2 : Tok) (es : Array DictEntry) (ep : Nat) (p1 p2 p3 p4 p5 : Array Value) (tr : List (Addr × Obj)) : List (Addr × Obj) :=
  (V.dk, V.dkO w k kt) :: (V.wx, V.wxO w lb gl c5) :: (V.us, usO u0 u1 d0 d1 un) :: (V.md, listOf mds cm) :: (V.mx, V.mxO w gl u0 u1 lb a0 a1 a2) :: (V.mk, instObj 348 V.mx) :: (V.cl, listOf V.vs.toArray cc) :: (V.lm, instObj 270 V.lx) :: (V.lx, dictOf V.lim V.ln) :: (V.sv, listOf #[] 0) :: (V.mm, dictA es ep) ::
    (401, tabObj p1) :: (408, tabObj p2) :: (413, tabObj p3) :: (418, tabObj p4) :: (425, tabObj p5) :: tr
inductive LawSt (w : World) (V : SV) (g : Heap) (L : Addr) (k u0 u1 lb : Int) (gl : Bool) (mds : Array Value) (ex : List (Addr × Obj)) (h : Heap) : Prop
  | mk {kt c5 d0 d1 a0 a1 a2 : Tok} {un cm cc ep n : Nat} {es : Array DictEntry} {p1 p2 p3 p4 p5 : Array Value} {tr : List (Addr × Obj)} : (n : Int) ≤ lb → Nums w es n → (∀ v ∈ mds, MadeI {} tr w V.lm0 v) →
      (TabY V.lm0 {} (Str.ofString "_law_text_right.<locals>.<lambda>") tr p1 ∧ TabY V.lm0 {} (Str.ofString "_law_nulls_right.<locals>.<lambda>") tr p2 ∧ TabY V.lm0 {} (Str.ofString "_law_row_right.<locals>.<lambda>") tr p3 ∧ TabY V.lm0 {} (Str.ofString "_law_dict_right.<locals>.<lambda>") tr p4 ∧ TabY V.lm0 {} (Str.ofString "_law_room_right.<locals>.<lambda>") tr p5) →
      (∀ p ∈ tr, V.lm0 ≤ p.1) → News g L h (ex ++ rowsL w V k u0 u1 lb gl mds kt c5 d0 d1 un cm cc a0 a1 a2 es ep p1 p2 p3 p4 p5 tr) → LawSt w V g L k u0 u1 lb gl mds ex h
theorem VOK.od (O : VOK w V b) {d : Data} (hd : ∀ vs, d ≠ .fields vs) : VOK w { V with od := d } b := { O with hod := hd }
theorem tab_at {lim : Nat} {q : Str} {tr : List (Addr × Obj)} {ps : Array Value} (T : TabY lim {} q tr ps) (kt : ∀ p ∈ tr, h.get? p.1 = some p.2) : TabY lim h q [] ps :=
  ⟨T.1, fun pos c e => (T.2 pos c e).imp fun _ => .imp fun _ => .imp fun _ => .imp fun _ x => ⟨x.1, .inl (x.2.1.elim (fun z => nomatch z) (kt _)), x.2.2⟩⟩
theorem tab_of {lim : Nat} {q : Str} {ps : Array Value} (T : TabY lim h q [] ps) : TabY lim {} q (above h lim) ps :=
  ⟨T.1, fun pos c e => (T.2 pos c e).imp fun _ => .imp fun _ => .imp fun _ => .imp fun _ x => ⟨x.1, .inr (mem_above (x.2.1.elim id fun z => nomatch z) x.2.2.1), x.2.2⟩⟩
theorem made_at {tr : List (Addr × Obj)} {lm : Nat} {v : Value} (M : MadeI {} tr w lm v) (kt : ∀ p ∈ tr, h.get? p.1 = some p.2) : MadeOK w lm h v := by
  cases M with
  | mk hl hT T => exact ⟨_, _, _, rfl, hl, hT.at1 hl (fun _ _ z => nomatch z) kt, T.at1 (fun _ _ z => nomatch z) kt⟩
theorem made_of {lm : Nat} {v : Value} (M : MadeOK w lm h v) : MadeI {} (above h lm) w lm v := by
  obtain ⟨tp, t, f, rfl, hl, ht, l, S, D⟩ := M
  exact .mk hl (.inr (mem_above ht hl)) ⟨l, S, fun p hp => ⟨(D p hp).1, .inr (mem_above (D p hp).2 (D p hp).1)⟩⟩
end
noncomputable section
namespace K_law_to
def KP (w : World) (V : SV) (b g h : Heap) (m : Str → Option Value) (k u0 u1 lb : Int) (gl : Bool) (mds : Array Value) (ex : List (Addr × Obj)) : Prop := ∀ {L : Addr} (F : Fr g L h m) (LS : LawSt w V g L k u0 u1 lb gl mds ex h) (st : b.StaysIn g) (hL : V.L1 = L), ∃ d, (∀ vs, d ≠ .fields vs) ∧ St w { V with od := d } b h h [] k u0 u1 lb u0 u1 lb gl mds ∧ (∀ v ∈ mds, MadeOK w V.lm0 h v) ∧ ∃ o, h.get? L = some o ∧ o.data = d
def KT (x : (World × SV × Heap × Heap × Heap × (Str → Option Value)) × (Int × Int × Int × Int × Bool × Array Value) × (List (Addr × Obj))) : Prop := KP x.1.1 x.1.2.1 x.1.2.2.1 x.1.2.2.2.1 x.1.2.2.2.2.1 x.1.2.2.2.2.2 x.2.1.1 x.2.1.2.1 x.2.1.2.2.1 x.2.1.2.2.2.1 x.2.1.2.2.2.2.1 x.2.1.2.2.2.2.2 x.2.2
theorem Kex : ∃ x, KT x → ∀ y, KT y := drink ((anyW, anyV, default, default, default, default), (default, default, default, default, default, default), default) _
@[irreducible] def Kx0 := Classical.choose Kex
@[irreducible] def w := Kx0.1.1
@[irreducible] def V := Kx0.1.2.1
@[irreducible] def b := Kx0.1.2.2.1
@[irreducible] def g := Kx0.1.2.2.2.1
@[irreducible] def h := Kx0.1.2.2.2.2.1
@[irreducible] def m := Kx0.1.2.2.2.2.2
@[irreducible] def k := Kx0.2.1.1
@[irreducible] def u0 := Kx0.2.1.2.1
@[irreducible] def u1 := Kx0.2.1.2.2.1
@[irreducible] def lb := Kx0.2.1.2.2.2.1
@[irreducible] def gl := Kx0.2.1.2.2.2.2.1
@[irreducible] def mds := Kx0.2.1.2.2.2.2.2
@[irreducible] def ex := Kx0.2.2
set_option maxRecDepth 100000
set_option maxHeartbeats 4000000
theorem at0 : KP w V b g h m k u0 u1 lb gl mds ex := by
  intro L F LS st hL
  subst hL
  obtain ⟨o, es', ep', ho, hd, _⟩ := F.ns
  cases LS with
  | @mk kt c5 d0 d1 a0 a1 a2 un cm cc ep n es p1 p2 p3 p4 p5 tr hn hN hM hT hlo N =>
  have kt' : ∀ p ∈ tr, h.get? p.1 = some p.2 := fun p hp => (N p (List.mem_append_right _ (.tail _ (.tail _ (.tail _ (.tail _ (.tail _ (.tail _ (.tail _ (.tail _ (.tail _ (.tail _ (.tail _ (.tail _ (.tail _ (.tail _ (.tail _ (.tail _ (hp))))))))))))))))))).1
  have R : ∀ p, p ∈ rowsL w V k u0 u1 lb gl mds kt c5 d0 d1 un cm cc a0 a1 a2 es ep p1 p2 p3 p4 p5 tr → h.get? p.1 = some p.2 := fun p hp => (N p (List.mem_append_right _ hp)).1
  obtain ⟨t1, t2, t3, t4, t5⟩ := hT
  refine ⟨o.data, (fun vs q => by rw [hd] at q; cases q), ?_, fun v hv => made_at (hM v hv) kt', o, ho, rfl⟩
  exact {
    st := fun a o e => F.keep _ _ (st _ _ e)
    dk := ⟨_, R (V.dk, _) (.head _)⟩
    cl := ⟨_, R (V.cl, _) (.tail _ (.tail _ (.tail _ (.tail _ (.tail _ (.tail _ (.head _))))))), rfl, _, rfl⟩
    wx := ⟨_, R (V.wx, _) (.tail _ (.head _))⟩
    us := ⟨_, _, _, R (V.us, _) (.tail _ (.tail _ (.head _)))⟩
    md := ⟨_, R (V.md, _) (.tail _ (.tail _ (.tail _ (.head _))))⟩
    mx := ⟨_, _, _, R (V.mx, _) (.tail _ (.tail _ (.tail _ (.tail _ (.head _)))))⟩
    mm := ⟨_, _, n, hn, hN, R (V.mm, _) (.tail _ (.tail _ (.tail _ (.tail _ (.tail _ (.tail _ (.tail _ (.tail _ (.tail _ (.tail _ (.head _)))))))))))⟩
    mk := R (V.mk, _) (.tail _ (.tail _ (.tail _ (.tail _ (.tail _ (.head _))))))
    lm := R (V.lm, _) (.tail _ (.tail _ (.tail _ (.tail _ (.tail _ (.tail _ (.tail _ (.head _))))))))
    lx := R (V.lx, _) (.tail _ (.tail _ (.tail _ (.tail _ (.tail _ (.tail _ (.tail _ (.tail _ (.head _)))))))))
    sv := R (V.sv, _) (.tail _ (.tail _ (.tail _ (.tail _ (.tail _ (.tail _ (.tail _ (.tail _ (.tail _ (.head _))))))))))
    L1 := ⟨o, ho, rfl⟩
    tb := (allc (⟨_, R (401, _) (.tail _ (.tail _ (.tail _ (.tail _ (.tail _ (.tail _ (.tail _ (.tail _ (.tail _ (.tail _ (.tail _ (.head _)))))))))))), tab_at t1 kt'⟩) (allc (⟨_, R (408, _) (.tail _ (.tail _ (.tail _ (.tail _ (.tail _ (.tail _ (.tail _ (.tail _ (.tail _ (.tail _ (.tail _ (.tail _ (.head _))))))))))))), tab_at t2 kt'⟩) (allc (⟨_, R (413, _) (.tail _ (.tail _ (.tail _ (.tail _ (.tail _ (.tail _ (.tail _ (.tail _ (.tail _ (.tail _ (.tail _ (.tail _ (.tail _ (.head _)))))))))))))), tab_at t3 kt'⟩) (allc (⟨_, R (418, _) (.tail _ (.tail _ (.tail _ (.tail _ (.tail _ (.tail _ (.tail _ (.tail _ (.tail _ (.tail _ (.tail _ (.tail _ (.tail _ (.tail _ (.head _))))))))))))))), tab_at t4 kt'⟩) (allc (⟨_, R (425, _) (.tail _ (.tail _ (.tail _ (.tail _ (.tail _ (.tail _ (.tail _ (.tail _ (.tail _ (.tail _ (.tail _ (.tail _ (.tail _ (.tail _ (.tail _ (.head _)))))))))))))))), tab_at t5 kt'⟩) fun _ q => nomatch q)))))
    kp := fun _ _ e _ => e }
end K_law_to
end
theorem law_to {w : World} {V : SV} {b g h : Heap} {m : Str → Option Value} {k u0 u1 lb : Int} {gl : Bool} {mds : Array Value} {ex : List (Addr × Obj)} : K_law_to.KP w V b g h m k u0 u1 lb gl mds ex :=
  @Classical.choose_spec _ _ K_law_to.Kex (by with_unfolding_all exact @K_law_to.at0) ((w, V, b, g, h, m), (k, u0, u1, lb, gl, mds), ex)
section
end
noncomputable section
namespace K_law_of
def KP (w : World) (V : SV) (b g h h' : Heap) (m : Str → Option Value) (k u0 u1 lb k' u0' u1' lb' : Int) (gl gl' : Bool) (mds mds' : Array Value) (ex : List (Addr × Obj)) : Prop := ∀ {L : Addr} (O : VOK w V b) (hL : V.L1 = L) (F : Fr g L h m) (LS : LawSt w V g L k u0 u1 lb gl mds ex h) {d : Data} {o : Obj} (ho : h.get? L = some o) (hod : o.data = d) (hex : ∀ p ∈ ex, @LT.lt Nat _ V.mm p.1) (hl0 : @LT.lt Nat _ L V.lm0) (S : St w { V with od := d } b h h' [] k' u0' u1' lb' u0' u1' lb' gl' mds') (hM : ∀ v ∈ mds', MadeOK w V.lm0 h' v), Fr g L h' m ∧ LawSt w V g L k' u0' u1' lb' gl' mds' ex h'
def KT (x : (World × SV × Heap × Heap × Heap × Heap) × ((Str → Option Value) × Int × Int × Int × Int × Int) × (Int × Int × Int × Bool × Bool × Array Value) × (Array Value × (List (Addr × Obj)))) : Prop := KP x.1.1 x.1.2.1 x.1.2.2.1 x.1.2.2.2.1 x.1.2.2.2.2.1 x.1.2.2.2.2.2 x.2.1.1 x.2.1.2.1 x.2.1.2.2.1 x.2.1.2.2.2.1 x.2.1.2.2.2.2.1 x.2.1.2.2.2.2.2 x.2.2.1.1 x.2.2.1.2.1 x.2.2.1.2.2.1 x.2.2.1.2.2.2.1 x.2.2.1.2.2.2.2.1 x.2.2.1.2.2.2.2.2 x.2.2.2.1 x.2.2.2.2
theorem Kex : ∃ x, KT x → ∀ y, KT y := drink ((anyW, anyV, default, default, default, default), (default, default, default, default, default, default), (default, default, default, default, default, default), (default, default)) _
@[irreducible] def Kx0 := Classical.choose Kex
@[irreducible] def w := Kx0.1.1
@[irreducible] def V := Kx0.1.2.1
@[irreducible] def b := Kx0.1.2.2.1
@[irreducible] def g := Kx0.1.2.2.2.1
@[irreducible] def h := Kx0.1.2.2.2.2.1
@[irreducible] def h' := Kx0.1.2.2.2.2.2
@[irreducible] def m := Kx0.2.1.1
@[irreducible] def k := Kx0.2.1.2.1
@[irreducible] def u0 := Kx0.2.1.2.2.1
@[irreducible] def u1 := Kx0.2.1.2.2.2.1
@[irreducible] def lb := Kx0.2.1.2.2.2.2.1
@[irreducible] def k' := Kx0.2.1.2.2.2.2.2
@[irreducible] def u0' := Kx0.2.2.1.1
@[irreducible] def u1' := Kx0.2.2.1.2.1
@[irreducible] def lb' := Kx0.2.2.1.2.2.1
@[irreducible] def gl := Kx0.2.2.1.2.2.2.1
@[irreducible] def gl' := Kx0.2.2.1.2.2.2.2.1
@[irreducible] def mds := Kx0.2.2.1.2.2.2.2.2
@[irreducible] def mds' := Kx0.2.2.2.1
@[irreducible] def ex := Kx0.2.2.2.2
set_option maxRecDepth 100000
set_option maxHeartbeats 4000000
theorem at0 : KP w V b g h h' m k u0 u1 lb k' u0' u1' lb' gl gl' mds mds' ex := by
  intro L O hL F LS d o ho hod hex hl0 S hM
  subst hL
  obtain ⟨o', es', ep', ho', hd, hs⟩ := F.ns
  rw [ho] at ho'; cases ho'
  -- what is below the law's frame
  have nd : ∀ a, a ∈ V.dyn → g.get? a = none := fun a ha => by
    cases LS with
    | @mk kt c5 d0 d1 a0 a1 a2 un cm cc ep n es p1 p2 p3 p4 p5 tr hn hN hM' hT hlo N =>
    have R : ∀ p, p ∈ rowsL w V k u0 u1 lb gl mds kt c5 d0 d1 un cm cc a0 a1 a2 es ep p1 p2 p3 p4 p5 tr → g.get? p.1 = none := fun p hp => (N p (List.mem_append_right _ hp)).2.2
    exact (show ∀ x ∈ V.dyn, g.get? x = none from allc (R (401, _) (nth_mem 11 rfl)) (allc (R (408, _) (nth_mem 12 rfl)) (allc (R (413, _) (nth_mem 13 rfl)) (allc (R (418, _) (nth_mem 14 rfl)) (allc (R (425, _) (nth_mem 15 rfl)) (allc (Heap.get?_none_of_le F.above) (allc (R (V.dk, _) (nth_mem 0 rfl)) (allc (R (V.wx, _) (nth_mem 1 rfl)) (allc (R (V.us, _) (nth_mem 2 rfl)) (allc (R (V.md, _) (nth_mem 3 rfl)) (allc (R (V.mx, _) (nth_mem 4 rfl)) (allc (R (V.mm, _) (nth_mem 10 rfl)) (fun _ q => nomatch q))))))))))))) a ha
  obtain ⟨o1, e1, hd1⟩ := S.L1
  have F' : Fr g V.L1 h' m := ⟨⟨o1, es', ep', e1, by rw [hd1]; exact hod.symm.trans hd, hs⟩, fun a o e => S.kp a o (F.keep _ _ e) fun q => (by rw [nd a q] at e; cases e), F.above⟩
  refine ⟨F', ?_⟩
  obtain ⟨kt, edk⟩ := S.dk
  obtain ⟨c5, ewx⟩ := S.wx
  obtain ⟨d0, d1, un, eus⟩ := S.us
  obtain ⟨cm, emd⟩ := S.md
  obtain ⟨a0, a1, a2, emx⟩ := S.mx
  obtain ⟨es, ep, n, hn, hN, emm⟩ := S.mm
  cases LS with
  | @mk kt' c5' d0' d1' a0' a1' a2' un' cm' cc' ep'' n' es'' p1' p2' p3' p4' p5' tr' hn' hN' hM' hT' hlo' N =>
  have R : ∀ p, p ∈ rowsL w V k u0 u1 lb gl mds kt' c5' d0' d1' un' cm' cc' a0' a1' a2' es'' ep'' p1' p2' p3' p4' p5' tr' → p.1 ≠ V.L1 ∧ g.get? p.1 = none := fun p hp => (N p (List.mem_append_right _ hp)).2
  have ecl : h'.get? V.cl = some (listOf V.vs.toArray cc') := S.kp _ _ (N (V.cl, _) (List.mem_append_right _ (.tail _ (.tail _ (.tail _ (.tail _ (.tail _ (.tail _ (.head _))))))))).1 (O.not_dyn 7 rfl rfl)
  obtain ⟨p1, q1, t1⟩ := S.tb _ (.head _)
  obtain ⟨p2, q2, t2⟩ := S.tb _ (.tail _ (.head _))
  obtain ⟨p3, q3, t3⟩ := S.tb _ (.tail _ (.tail _ (.head _)))
  obtain ⟨p4, q4, t4⟩ := S.tb _ (.tail _ (.tail _ (.tail _ (.head _))))
  obtain ⟨p5, q5, t5⟩ := S.tb _ (.tail _ (.tail _ (.tail _ (.tail _ (.head _)))))
  refine .mk (kt := kt) (c5 := c5) (d0 := d0) (d1 := d1) (un := un) (cm := cm) (cc := cc') (a0 := a0) (a1 := a1) (a2 := a2) (es := es) (ep := ep) (p1 := p1) (p2 := p2) (p3 := p3) (p4 := p4) (p5 := p5) (tr := above h' V.lm0) hn hN (fun v hv => made_of (hM v hv)) ⟨tab_of t1, tab_of t2, tab_of t3, tab_of t4, tab_of t5⟩ (fun p hp => (of_above hp).2) fun p hp => ?_
  rcases List.mem_append.mp hp with hp | hp
  · refine ⟨S.kp _ _ (N p (List.mem_append_left _ hp)).1 fun q => ?_, (N p (List.mem_append_left _ hp)).2⟩
    have l := hex p hp
    rcases Nat.lt_or_ge V.mm p.1 with l | l
    · have top : ∀ a ∈ V.dyn, @LE.le Nat _ a V.mm := (allc (Nat.le_of_lt (O.lt 0 16 rfl rfl rfl)) (allc (Nat.le_of_lt (O.lt 1 16 rfl rfl rfl)) (allc (Nat.le_of_lt (O.lt 2 16 rfl rfl rfl)) (allc (Nat.le_of_lt (O.lt 3 16 rfl rfl rfl)) (allc (Nat.le_of_lt (O.lt 4 16 rfl rfl rfl)) (allc (Nat.le_of_lt (O.lt 5 16 rfl rfl rfl)) (allc (Nat.le_of_lt (O.lt 6 16 rfl rfl rfl)) (allc (Nat.le_of_lt (O.lt 8 16 rfl rfl rfl)) (allc (Nat.le_of_lt (O.lt 9 16 rfl rfl rfl)) (allc (Nat.le_of_lt (O.lt 10 16 rfl rfl rfl)) (allc (Nat.le_of_lt (O.lt 13 16 rfl rfl rfl)) (allc (Nat.le_refl _) fun _ q => nomatch q))))))))))))
      exact absurd (top _ q) (Nat.not_le_of_lt l)
    · exact absurd l (Nat.not_le_of_lt ‹_›)
  · have old : ∀ a o o', h'.get? a = some o' → (a, o) ∈ rowsL w V k u0 u1 lb gl mds kt' c5' d0' d1' un' cm' cc' a0' a1' a2' es'' ep'' p1' p2' p3' p4' p5' tr' → h'.get? a = some o' ∧ a ≠ V.L1 ∧ g.get? a = none := fun a o o' e q => ⟨e, R (a, o) q⟩
    exact (show ∀ q ∈ rowsL w V k' u0' u1' lb' gl' mds' kt c5 d0 d1 un cm cc' a0 a1 a2 es ep p1 p2 p3 p4 p5 (above h' V.lm0), h'.get? q.1 = some q.2 ∧ q.1 ≠ V.L1 ∧ g.get? q.1 = none from allc (old _ _ _ edk (nth_mem 0 rfl)) (allc (old _ (V.wxO w lb gl c5') _ ewx (nth_mem 1 rfl)) (allc (old _ (usO u0 u1 d0' d1' un') _ eus (nth_mem 2 rfl)) (allc (old _ (listOf mds cm') _ emd (nth_mem 3 rfl)) (allc (old _ (V.mxO w gl u0 u1 lb a0' a1' a2') _ emx (nth_mem 4 rfl)) (allc (old _ (instObj 348 V.mx) _ S.mk (nth_mem 5 rfl)) (allc (old _ (listOf V.vs.toArray cc') _ ecl (nth_mem 6 rfl)) (allc (old _ (instObj 270 V.lx) _ S.lm (nth_mem 7 rfl)) (allc (old _ (dictOf V.lim V.ln) _ S.lx (nth_mem 8 rfl)) (allc (old _ (listOf #[] 0) _ S.sv (nth_mem 9 rfl)) (allc (old _ (dictA es'' ep'') _ emm (nth_mem 10 rfl)) (allc (old _ (tabObj p1') _ q1 (nth_mem 11 rfl)) (allc (old _ (tabObj p2') _ q2 (nth_mem 12 rfl)) (allc (old _ (tabObj p3') _ q3 (nth_mem 13 rfl)) (allc (old _ (tabObj p4') _ q4 (nth_mem 14 rfl)) (allc (old _ (tabObj p5') _ q5 (nth_mem 15 rfl)) (fun p hp => ⟨(of_above hp).1, Nat.ne_of_gt (Nat.lt_of_lt_of_le hl0 (of_above hp).2), Heap.get?_none_of_le (Nat.le_trans F.above (Nat.le_of_lt (Nat.lt_of_lt_of_le hl0 (of_above hp).2)))⟩))))))))))))))))) p hp
end K_law_of
end
theorem law_of {w : World} {V : SV} {b g h h' : Heap} {m : Str → Option Value} {k u0 u1 lb k' u0' u1' lb' : Int} {gl gl' : Bool} {mds mds' : Array Value} {ex : List (Addr × Obj)} : K_law_of.KP w V b g h h' m k u0 u1 lb k' u0' u1' lb' gl gl' mds mds' ex :=
  @Classical.choose_spec _ _ K_law_of.Kex (by with_unfolding_all exact @K_law_of.at0) ((w, V, b, g, h, h'), (m, k, u0, u1, lb, k'), (u0', u1', lb', gl, gl', mds), (mds', ex))
section
end
def Inc : List Nat → Prop
  | a :: c :: r => a < c ∧ Inc (c :: r)
  | _ => True
theorem inc_pw : ∀ {l : List Nat}, Inc l → l.Pairwise (· < ·)
  | [], _ => .nil
  | [a], _ => List.pairwise_singleton _ a
  | a :: c :: r, ⟨h, i⟩ => by
    have p := inc_pw i
    refine .cons (fun x hx => ?_) p
    rcases List.mem_cons.mp hx with rfl | hx
    · exact h
    · exact Nat.lt_trans h (List.rel_of_pairwise_cons p hx)
theorem cut_drop {w : World} {A : Around} {env : Env} {stmts : List Stmt} {Q : Flow → Shared → Prop} {E : Value → Shared → Prop} {s : Shared} (n : Nat) (Mid : Env → Shared → Prop) (h2 : ∀ s', Mid env s' → wpC (model PG w) A (execs (stmts.drop n) env) Q E s')
    (h1 : (∀ s', Mid env s' → wpC (model PG w) A (execs (stmts.drop n) env) Q E s') → wpC (model PG w) A (execs stmts env) Q E s) : wpC (model PG w) A (execs stmts env) Q E s := h1 h2
theorem fr_pin {g h : Heap} {L : Addr} {M : Str → Option Value} {x : Str} {v : Option Value} (F : Fr g L h M) (e : M x = v) : Fr g L h (fun z => if z = x then v else M z) := fr_eq F fun z => by
  by_cases q : z = x
  · rw [if_pos q, q]; exact e
  · rw [if_neg q]
theorem vok_of {w : World} {V : SV} {b g h : Heap} {L : Addr} {k u0 u1 lb : Int} {gl : Bool} {mds : Array Value} {ex : List (Addr × Obj)} {kt c5 d0 d1 a0 a1 a2 : Tok} {un cm cc ep : Nat} {es : Array DictEntry} {p1 p2 p3 p4 p5 : Array Value} {tr : List (Addr × Obj)} {m : Str → Option Value} (st : b.StaysIn g) (F : Fr g L h m)
    (N : News g L h (ex ++ rowsL w V k u0 u1 lb gl mds kt c5 d0 d1 un cm cc a0 a1 a2 es ep p1 p2 p3 p4 p5 tr)) (hL : V.L1 = L) (hf : V.env1.frame = some L) (hk : V.env1.scope.kind ≠ .module) (iv : IntsAre V.vs V.ns) (hlen : V.ns.length ≤ 60)
    (hlim : LimOk V.lim V.tx V.rx V.ex V.vm (V.v 1) (V.v 2) (V.v 3) (V.v 0)) (h1 : 0 ≤ V.vm ∧ V.vm ≤ 150) (h2 : 0 ≤ V.tx ∧ V.tx ≤ 10) (h3 : 0 ≤ V.rx ∧ V.rx ≤ 10) (h4 : 0 ≤ V.ex ∧ V.ex ≤ 10) (hod : ∀ vs, V.od ≠ .fields vs)
    (hi : Inc [425, V.L1, V.dk, V.cl, V.wx, V.us, V.md, V.lx, V.lm, V.mx, V.mk, V.sv, V.mm]) {lm : Nat} (hl : @LT.lt Nat _ V.mm lm) (hb : b.objs.size ≤ lm) : VOK w { V with lm0 := lm } b := by
  have nb : ∀ a, g.get? a = none → b.get? a = none := fun a e => by
    cases q : b.get? a with
    | none => rfl
    | some o => rw [st _ _ q] at e; cases e
  have R : ∀ p, p ∈ rowsL w V k u0 u1 lb gl mds kt c5 d0 d1 un cm cc a0 a1 a2 es ep p1 p2 p3 p4 p5 tr → b.get? p.1 = none := fun p hp => nb _ (N p (List.mem_append_right _ hp)).2.2
  exact {
    ord := inc_pw (show Inc [401, 408, 413, 418, 425, V.L1, V.dk, V.cl, V.wx, V.us, V.md, V.lx, V.lm, V.mx, V.mk, V.sv, V.mm, lm] from
      ⟨by decide, by decide, by decide, by decide, hi.1, hi.2.1, hi.2.2.1, hi.2.2.2.1, hi.2.2.2.2.1, hi.2.2.2.2.2.1, hi.2.2.2.2.2.2.1, hi.2.2.2.2.2.2.2.1, hi.2.2.2.2.2.2.2.2.1, hi.2.2.2.2.2.2.2.2.2.1, hi.2.2.2.2.2.2.2.2.2.2.1, hi.2.2.2.2.2.2.2.2.2.2.2.1, hl, trivial⟩)
    nb := (show ∀ a ∈ V.dyn ++ [V.lx, V.lm, V.mk, V.sv], b.get? a = none from allc (R (401, _) (nth_mem 11 rfl)) (allc (R (408, _) (nth_mem 12 rfl)) (allc (R (413, _) (nth_mem 13 rfl)) (allc (R (418, _) (nth_mem 14 rfl)) (allc (R (425, _) (nth_mem 15 rfl)) (allc (nb _ (Heap.get?_none_of_le (by rw [hL]; exact F.above))) (allc (R (V.dk, _) (nth_mem 0 rfl)) (allc (R (V.wx, _) (nth_mem 1 rfl)) (allc (R (V.us, _) (nth_mem 2 rfl)) (allc (R (V.md, _) (nth_mem 3 rfl)) (allc (R (V.mx, _) (nth_mem 4 rfl)) (allc (R (V.mm, _) (nth_mem 10 rfl)) (allc (R (V.lx, _) (nth_mem 8 rfl)) (allc (R (V.lm, _) (nth_mem 7 rfl)) (allc (R (V.mk, _) (nth_mem 5 rfl)) (allc (R (V.sv, _) (nth_mem 9 rfl)) (fun _ q => nomatch q)))))))))))))))))
    hf := by rw [hL]; exact hf
    hk := hk
    iv := iv
    hlen := hlen
    lvm := hlim.1
    ltx := hlim.2.1
    lrx := hlim.2.2.1
    lex := hlim.2.2.2
    vm0 := h1.1
    vm1 := h1.2
    tx0 := h2.1
    tx1 := h2.2
    rx0 := h3.1
    rx1 := h3.2
    ex0 := h4.1
    ex1 := h4.2
    hb0 := hb
    hod := hod }
inductive LawMid (w : World) (b g : Heap) (L : Addr) (env : Env) (s0 : Shared) : Shared → Prop
  | mk {V : SV} {dl : Addr} {M : Str → Option Value} {h : Heap} {tk c : Nat} {kt c5 d0 d1 a0 a1 a2 : Tok} {un cm cc ep : Nat} : V.L1 = L → V.env1 = env → (∀ lm : Nat, @LT.lt Nat _ V.mm lm → b.objs.size ≤ lm → VOK w { V with lm0 := lm } b) → @LT.lt Nat _ V.mm dl →
      M (Str.ofString "deck") = some (.ref V.dk) → M (Str.ofString "w") = some (.ref V.wx) → M (Str.ofString "maker") = some (.ref V.mk) → M (Str.ofString "deeds") = some (.ref dl) → M (Str.ofString "turn") = none → M (Str.ofString "number") = none → Fr g L h M →
      News g L h ((dl, listOf #[.ref 406, .ref 406, .ref 411, .ref 416, .ref 416, .ref 423, .ref 430] c) :: rowsL w V 4 0 0 0 false #[] kt c5 d0 d1 un cm cc a0 a1 a2 #[] ep #[] #[] #[] #[] #[] []) → LawMid w b g L env s0 ⟨h, s0.gens, s0.drawn, tk, s0.os⟩
noncomputable section
namespace K_law_mid
set_option maxHeartbeats 1000000 in
def KP (w : World) (b g h : Heap) (L : Addr) (env : Env) (s : Shared) (tk c c' c'' cc ln mn wn dn : Nat) (dl mk mx sv mm lm lx md us wx dk cl jr fr : Addr) (pT : Addr × Obj) (lim : List DictEntry) (tx rx ex vm : Int) (c0 c1 c2 c3 k0 k1 k2 k3 k4 k5 k6 k7 c5 v0 v1 v2 v3 e0 e1 kt t1 t2 a0 a1 a2 a3 m0 m1 m2 m3 m4 m5 m6 m7 m8 m9 : Tok) (vs : List Value) (ns : List Int) (M : Str → Option Value) : Prop := ∀  (st : b.StaysIn g) (F : Fr g L h M) (N : News g L h [(dl, listOf #[.ref 406, .ref 406, .ref 411, .ref 416, .ref 416, .ref 423, .ref 430] c), (mk, instObj 348 mx), (mx, makerO w lm sv jr mm fr false 0 0 0 0 a0 a1 a2 a3 m0 m1 m2 m3 m4 m5 m6 m7 m8 m9 mn), (sv, listOf #[] 0), (mm, dictOf [] 0), (lm, instObj 270 lx), (lx, dictOf lim ln), pT, (md, listOf #[] c'), (us, listOf #[.int 0 e0, .int 0 e1] c''),
      (wx, dictOf [ent w "text" k0 (.int tx c0), ent w "row" k1 (.int rx c1), ent w "entries" k2 (.int ex c2), ent w "room" k3 (.int vm c3), ent w "used" k4 (.ref us), ent w "count" k5 (.int 0 c5), ent w "is_global" k6 (.bool false), ent w "made" k7 (.ref md)] wn), (dk, deckO w cl 4 kt t1 t2 dn), (cl, listOf vs.toArray cc), (401, tabObj #[]), (408, tabObj #[]), (413, tabObj #[]), (418, tabObj #[]), (425, tabObj #[])]) (hf : env.frame = some L) (hk : env.scope.kind ≠ .module) (iv : IntsAre vs ns) (hlen : ns.length ≤ 60) (hlim : LimOk lim tx rx ex vm v1 v2 v3 v0) (h1 : 0 ≤ vm ∧ vm ≤ 150) (h2 : 0 ≤ tx ∧ tx ≤ 10) (h3 : 0 ≤ rx ∧ rx ≤ 10) (h4 : 0 ≤ ex ∧ ex ≤ 10) (hi : Inc [425, L, dk, cl, wx, us, md, lx, lm, mx, mk, sv, mm]) (hd : @LT.lt Nat _ mm dl) (q1 : M (Str.ofString "deck") = some (.ref dk)) (q2 : M (Str.ofString "w") = some (.ref wx)) (q3 : M (Str.ofString "maker") = some (.ref mk)) (q4 : M (Str.ofString "deeds") = some (.ref dl)) (q5 : M (Str.ofString "turn") = none) (q6 : M (Str.ofString "number") = none), LawMid w b g L env s ⟨h, s.gens, s.drawn, tk, s.os⟩
set_option maxHeartbeats 1000000 in
def KT (x : (World × Heap × Heap × Heap × Addr × Env) × (Shared × Nat × Nat × Nat × Nat × Nat) × (Nat × Nat × Nat × Nat × Addr × Addr) × (Addr × Addr × Addr × Addr × Addr × Addr) × (Addr × Addr × Addr × Addr × Addr × Addr) × ((Addr × Obj) × List DictEntry × Int × Int × Int × Int) × (Tok × Tok × Tok × Tok × Tok × Tok) × (Tok × Tok × Tok × Tok × Tok × Tok) × (Tok × Tok × Tok × Tok × Tok × Tok) × (Tok × Tok × Tok × Tok × Tok × Tok) × (Tok × Tok × Tok × Tok × Tok × Tok) × (Tok × Tok × Tok × Tok × Tok × Tok) × (List Value × List Int × (Str → Option Value))) : Prop := KP x.1.1 x.1.2.1 x.1.2.2.1 x.1.2.2.2.1 x.1.2.2.2.2.1 x.1.2.2.2.2.2 x.2.1.1 x.2.1.2.1 x.2.1.2.2.1 x.2.1.2.2.2.1 x.2.1.2.2.2.2.1 x.2.1.2.2.2.2.2 x.2.2.1.1 x.2.2.1.2.1 x.2.2.1.2.2.1 x.2.2.1.2.2.2.1 x.2.2.1.2.2.2.2.1 x.2.2.1.2.2.2.2.2 x.2.2.2.1.1 x.2.2.2.1.2.1 x.2.2.2.1.2.2.1 x.2.2.2.1.2.2.2.1 x.2.2.2.1.2.2.2.2.1 x.2.2.2.1.2.2.2.2.2 x.2.2.2.2.1.1 x.2.2.2.2.1.2.1 x.2.2.2.2.1.2.2.1 x.2.2.2.2.1.2.2.2.1 x.2.2.2.2.1.2.2.2.2.1 x.2.2.2.2.1.2.2.2.2.2 x.2.2.2.2.2.1.1 x.2.2.2.2.2.1.2.1 x.2.2.2.2.2.1.2.2.1 x.2.2.2.2.2.1.2.2.2.1 x.2.2.2.2.2.1.2.2.2.2.1 x.2.2.2.2.2.1.2.2.2.2.2 x.2.2.2.2.2.2.1.1 x.2.2.2.2.2.2.1.2.1 x.2.2.2.2.2.2.1.2.2.1 x.2.2.2.2.2.2.1.2.2.2.1 x.2.2.2.2.2.2.1.2.2.2.2.1 x.2.2.2.2.2.2.1.2.2.2.2.2 x.2.2.2.2.2.2.2.1.1 x.2.2.2.2.2.2.2.1.2.1 x.2.2.2.2.2.2.2.1.2.2.1 x.2.2.2.2.2.2.2.1.2.2.2.1 x.2.2.2.2.2.2.2.1.2.2.2.2.1 x.2.2.2.2.2.2.2.1.2.2.2.2.2 x.2.2.2.2.2.2.2.2.1.1 x.2.2.2.2.2.2.2.2.1.2.1 x.2.2.2.2.2.2.2.2.1.2.2.1 x.2.2.2.2.2.2.2.2.1.2.2.2.1 x.2.2.2.2.2.2.2.2.1.2.2.2.2.1 x.2.2.2.2.2.2.2.2.1.2.2.2.2.2 x.2.2.2.2.2.2.2.2.2.1.1 x.2.2.2.2.2.2.2.2.2.1.2.1 x.2.2.2.2.2.2.2.2.2.1.2.2.1 x.2.2.2.2.2.2.2.2.2.1.2.2.2.1 x.2.2.2.2.2.2.2.2.2.1.2.2.2.2.1 x.2.2.2.2.2.2.2.2.2.1.2.2.2.2.2 x.2.2.2.2.2.2.2.2.2.2.1.1 x.2.2.2.2.2.2.2.2.2.2.1.2.1 x.2.2.2.2.2.2.2.2.2.2.1.2.2.1 x.2.2.2.2.2.2.2.2.2.2.1.2.2.2.1 x.2.2.2.2.2.2.2.2.2.2.1.2.2.2.2.1 x.2.2.2.2.2.2.2.2.2.2.1.2.2.2.2.2 x.2.2.2.2.2.2.2.2.2.2.2.1.1 x.2.2.2.2.2.2.2.2.2.2.2.1.2.1 x.2.2.2.2.2.2.2.2.2.2.2.1.2.2.1 x.2.2.2.2.2.2.2.2.2.2.2.1.2.2.2.1 x.2.2.2.2.2.2.2.2.2.2.2.1.2.2.2.2.1 x.2.2.2.2.2.2.2.2.2.2.2.1.2.2.2.2.2 x.2.2.2.2.2.2.2.2.2.2.2.2.1 x.2.2.2.2.2.2.2.2.2.2.2.2.2.1 x.2.2.2.2.2.2.2.2.2.2.2.2.2.2
theorem Kex : ∃ x, KT x → ∀ y, KT y := drink ((anyW, default, default, default, default, anyE), ({}, default, default, default, default, default), (default, default, default, default, default, default), (default, default, default, default, default, default), (default, default, default, default, default, default), (default, default, default, default, default, default), (default, default, default, default, default, default), (default, default, default, default, default, default), (default, default, default, default, default, default), (default, default, default, default, default, default), (default, default, default, default, default, default), (default, default, default, default, default, default), (default, default, default)) _
@[irreducible] def Kx0 := Classical.choose Kex
@[irreducible] def w := Kx0.1.1
@[irreducible] def b := Kx0.1.2.1
@[irreducible] def g := Kx0.1.2.2.1
@[irreducible] def h := Kx0.1.2.2.2.1
@[irreducible] def L := Kx0.1.2.2.2.2.1
@[irreducible] def env := Kx0.1.2.2.2.2.2
@[irreducible] def s := Kx0.2.1.1
@[irreducible] def tk := Kx0.2.1.2.1
@[irreducible] def c := Kx0.2.1.2.2.1
@[irreducible] def c' := Kx0.2.1.2.2.2.1
@[irreducible] def c'' := Kx0.2.1.2.2.2.2.1
@[irreducible] def cc := Kx0.2.1.2.2.2.2.2
@[irreducible] def ln := Kx0.2.2.1.1
@[irreducible] def mn := Kx0.2.2.1.2.1
@[irreducible] def wn := Kx0.2.2.1.2.2.1
@[irreducible] def dn := Kx0.2.2.1.2.2.2.1
@[irreducible] def dl := Kx0.2.2.1.2.2.2.2.1
@[irreducible] def mk := Kx0.2.2.1.2.2.2.2.2
@[irreducible] def mx := Kx0.2.2.2.1.1
@[irreducible] def sv := Kx0.2.2.2.1.2.1
@[irreducible] def mm := Kx0.2.2.2.1.2.2.1
@[irreducible] def lm := Kx0.2.2.2.1.2.2.2.1
@[irreducible] def lx := Kx0.2.2.2.1.2.2.2.2.1
@[irreducible] def md := Kx0.2.2.2.1.2.2.2.2.2
@[irreducible] def us := Kx0.2.2.2.2.1.1
@[irreducible] def wx := Kx0.2.2.2.2.1.2.1
@[irreducible] def dk := Kx0.2.2.2.2.1.2.2.1
@[irreducible] def cl := Kx0.2.2.2.2.1.2.2.2.1
@[irreducible] def jr := Kx0.2.2.2.2.1.2.2.2.2.1
@[irreducible] def fr := Kx0.2.2.2.2.1.2.2.2.2.2
@[irreducible] def pT := Kx0.2.2.2.2.2.1.1
@[irreducible] def lim := Kx0.2.2.2.2.2.1.2.1
@[irreducible] def tx := Kx0.2.2.2.2.2.1.2.2.1
@[irreducible] def rx := Kx0.2.2.2.2.2.1.2.2.2.1
@[irreducible] def ex := Kx0.2.2.2.2.2.1.2.2.2.2.1
@[irreducible] def vm := Kx0.2.2.2.2.2.1.2.2.2.2.2
@[irreducible] def c0 := Kx0.2.2.2.2.2.2.1.1
@[irreducible] def c1 := Kx0.2.2.2.2.2.2.1.2.1
@[irreducible] def c2 := Kx0.2.2.2.2.2.2.1.2.2.1
@[irreducible] def c3 := Kx0.2.2.2.2.2.2.1.2.2.2.1
@[irreducible] def k0 := Kx0.2.2.2.2.2.2.1.2.2.2.2.1
@[irreducible] def k1 := Kx0.2.2.2.2.2.2.1.2.2.2.2.2
@[irreducible] def k2 := Kx0.2.2.2.2.2.2.2.1.1
@[irreducible] def k3 := Kx0.2.2.2.2.2.2.2.1.2.1
@[irreducible] def k4 := Kx0.2.2.2.2.2.2.2.1.2.2.1
@[irreducible] def k5 := Kx0.2.2.2.2.2.2.2.1.2.2.2.1
@[irreducible] def k6 := Kx0.2.2.2.2.2.2.2.1.2.2.2.2.1
@[irreducible] def k7 := Kx0.2.2.2.2.2.2.2.1.2.2.2.2.2
@[irreducible] def c5 := Kx0.2.2.2.2.2.2.2.2.1.1
@[irreducible] def v0 := Kx0.2.2.2.2.2.2.2.2.1.2.1
@[irreducible] def v1 := Kx0.2.2.2.2.2.2.2.2.1.2.2.1
@[irreducible] def v2 := Kx0.2.2.2.2.2.2.2.2.1.2.2.2.1
@[irreducible] def v3 := Kx0.2.2.2.2.2.2.2.2.1.2.2.2.2.1
@[irreducible] def e0 := Kx0.2.2.2.2.2.2.2.2.1.2.2.2.2.2
@[irreducible] def e1 := Kx0.2.2.2.2.2.2.2.2.2.1.1
@[irreducible] def kt := Kx0.2.2.2.2.2.2.2.2.2.1.2.1
@[irreducible] def t1 := Kx0.2.2.2.2.2.2.2.2.2.1.2.2.1
@[irreducible] def t2 := Kx0.2.2.2.2.2.2.2.2.2.1.2.2.2.1
@[irreducible] def a0 := Kx0.2.2.2.2.2.2.2.2.2.1.2.2.2.2.1
@[irreducible] def a1 := Kx0.2.2.2.2.2.2.2.2.2.1.2.2.2.2.2
@[irreducible] def a2 := Kx0.2.2.2.2.2.2.2.2.2.2.1.1
@[irreducible] def a3 := Kx0.2.2.2.2.2.2.2.2.2.2.1.2.1
@[irreducible] def m0 := Kx0.2.2.2.2.2.2.2.2.2.2.1.2.2.1
@[irreducible] def m1 := Kx0.2.2.2.2.2.2.2.2.2.2.1.2.2.2.1
@[irreducible] def m2 := Kx0.2.2.2.2.2.2.2.2.2.2.1.2.2.2.2.1
@[irreducible] def m3 := Kx0.2.2.2.2.2.2.2.2.2.2.1.2.2.2.2.2
@[irreducible] def m4 := Kx0.2.2.2.2.2.2.2.2.2.2.2.1.1
@[irreducible] def m5 := Kx0.2.2.2.2.2.2.2.2.2.2.2.1.2.1
@[irreducible] def m6 := Kx0.2.2.2.2.2.2.2.2.2.2.2.1.2.2.1
@[irreducible] def m7 := Kx0.2.2.2.2.2.2.2.2.2.2.2.1.2.2.2.1
@[irreducible] def m8 := Kx0.2.2.2.2.2.2.2.2.2.2.2.1.2.2.2.2.1
@[irreducible] def m9 := Kx0.2.2.2.2.2.2.2.2.2.2.2.1.2.2.2.2.2
@[irreducible] def vs := Kx0.2.2.2.2.2.2.2.2.2.2.2.2.1
@[irreducible] def ns := Kx0.2.2.2.2.2.2.2.2.2.2.2.2.2.1
@[irreducible] def M := Kx0.2.2.2.2.2.2.2.2.2.2.2.2.2.2
set_option maxRecDepth 100000
set_option maxHeartbeats 4000000
set_option maxHeartbeats 1000000 in
theorem at0 : KP w b g h L env s tk c c' c'' cc ln mn wn dn dl mk mx sv mm lm lx md us wx dk cl jr fr pT lim tx rx ex vm c0 c1 c2 c3 k0 k1 k2 k3 k4 k5 k6 k7 c5 v0 v1 v2 v3 e0 e1 kt t1 t2 a0 a1 a2 a3 m0 m1 m2 m3 m4 m5 m6 m7 m8 m9 vs ns M := by
  intro st F N hf hk iv hlen hlim h1 h2 h3 h4 hi hd q1 q2 q3 q4 q5 q6
  have N' : News g L h ((dl, listOf #[.ref 406, .ref 406, .ref 411, .ref 416, .ref 416, .ref 423, .ref 430] c) :: rowsL w (SV.con dk cl wx us md mk mx lx lm sv jr mm fr L 0 env t1 t2 dn ns vs (fun i => [c0, c1, c2, c3, k0, k1, k2, k3, k4, k5, k6, k7].getD i 0) wn (fun i => [m0, m1, m2, m3, m4, m5, m6, m7, m8, m9, a3].getD i 0) mn 0 lim ln (fun i => [v0, v1, v2, v3].getD i 0) vm tx rx ex (.cell none)) 4 0 0 0 false #[] kt c5 e0 e1 c'' c' cc a0 a1 a2 #[] 0 #[] #[] #[] #[] #[] []) := 
    (allc (N _ (nth_mem 0 rfl)) (allc (N _ (nth_mem 11 rfl)) (allc (N _ (nth_mem 10 rfl)) (allc (N _ (nth_mem 9 rfl)) (allc (N _ (nth_mem 8 rfl)) (allc (N _ (nth_mem 2 rfl)) (allc (N _ (nth_mem 1 rfl)) (allc (N _ (nth_mem 12 rfl)) (allc (N _ (nth_mem 5 rfl)) (allc (N _ (nth_mem 6 rfl)) (allc (N _ (nth_mem 3 rfl)) (allc (N _ (nth_mem 4 rfl)) (allc (N _ (nth_mem 13 rfl)) (allc (N _ (nth_mem 14 rfl)) (allc (N _ (nth_mem 15 rfl)) (allc (N _ (nth_mem 16 rfl)) (allc (N _ (nth_mem 17 rfl)) fun _ q => nomatch q)))))))))))))))))
  exact .mk rfl rfl (fun lm' l1 l2 => vok_of (ex := [(dl, listOf #[.ref 406, .ref 406, .ref 411, .ref 416, .ref 416, .ref 423, .ref 430] c)]) st F N' rfl hf hk iv hlen hlim h1 h2 h3 h4 (fun _ q => nomatch q) hi l1 l2) hd q1 q2 q3 q4 q5 q6 F N'
end K_law_mid
end
theorem law_mid {w : World} {b g h : Heap} {L : Addr} {env : Env} {s : Shared} {tk c c' c'' cc ln mn wn dn : Nat} {dl mk mx sv mm lm lx md us wx dk cl jr fr : Addr} {pT : Addr × Obj} {lim : List DictEntry} {tx rx ex vm : Int} {c0 c1 c2 c3 k0 k1 k2 k3 k4 k5 k6 k7 c5 v0 v1 v2 v3 e0 e1 kt t1 t2 a0 a1 a2 a3 m0 m1 m2 m3 m4 m5 m6 m7 m8 m9 : Tok} {vs : List Value} {ns : List Int} {M : Str → Option Value} : K_law_mid.KP w b g h L env s tk c c' c'' cc ln mn wn dn dl mk mx sv mm lm lx md us wx dk cl jr fr pT lim tx rx ex vm c0 c1 c2 c3 k0 k1 k2 k3 k4 k5 k6 k7 c5 v0 v1 v2 v3 e0 e1 kt t1 t2 a0 a1 a2 a3 m0 m1 m2 m3 m4 m5 m6 m7 m8 m9 vs ns M :=
  @Classical.choose_spec _ _ K_law_mid.Kex (by with_unfolding_all exact @K_law_mid.at0) ((w, b, g, h, L, env), (s, tk, c, c', c'', cc), (ln, mn, wn, dn, dl, mk), (mx, sv, mm, lm, lx, md), (us, wx, dk, cl, jr, fr), (pT, lim, tx, rx, ex, vm), (c0, c1, c2, c3, k0, k1), (k2, k3, k4, k5, k6, k7), (c5, v0, v1, v2, v3, e0), (e1, kt, t1, t2, a0, a1), (a2, a3, m0, m1, m2, m3), (m4, m5, m6, m7, m8, m9), (vs, ns, M))
theorem kwN1liness1 : True := by
  k_with "call ref" => (k_here; (with_reducible show wpAny _ _ (call (Value.ref 371) _) _ _ _); (rename Frag.In _ _ => oX); (rename Top _ _ _ _ _ _ => oT); (rename Fr _ _ _ _ => oF); (rename News _ _ _ _ => oN); (rename St _ _ _ _ _ _ _ _ _ _ _ _ _ _ _ => oS); k_dflt (refine' draw_s oF oN ?Gx282 ?Ox282 oS ?a0x282 ?a3x282 ?a4x282 ?hk0x282 ?hk1x282 ?hb0x282 ?hb1x282 ?_; (case Gx282 => assumption); (case Ox282 => assumption); (case a0x282 => exact rfl); (case a3x282 => exact Nat.le_of_ble_eq_true rfl); (case a4x282 => exact Nat.le_of_ble_eq_true rfl); (case hk0x282 => first | assumption | omega); (case hk1x282 => omega); (case hb0x282 => omega); (case hb1x282 => omega); k_whole); clear oX oT oF oN oS; intro r9 tk9 g9 h9 tks9 r0' r1' F9 N9 S9; (have X9 := Frag.In.keeps (Gd.X (by assumption)) (St.st S9)); (have T9 := Top.keeps (Gd.T (by assumption)) (St.st S9)); (try k_sweep))
  k_with "subscriptTail Name Constant ref str" => (k_here; (with_reducible show wpAny _ _ (subscriptTail _ _ (Value.ref (SV.wx _)) _) _ _ _); k_dflt (refine' w_item ?Fx8f3 ?Sx8f3 ?ex8f3 ?_; (case Fx8f3 => k_asm); (case Sx8f3 => assumption); (case ex8f3 => exact fun _ => rfl); k_whole))
  k_with "eval Lambda" => (k_here; k_dflt (refine' kla_eval ?d0x4fb ?_; (case d0x4fb => exact rfl)); (rename Frag.In _ _ => oX); (rename Top _ _ _ _ _ _ => oT); (rename Fr _ _ _ _ => oF); (rename News _ _ _ _ => oN); (rename St _ _ _ _ _ _ _ _ _ _ _ _ _ _ _ => oS); k_dflt (refine' lam_s oF oN ?Tx4fb ?Ox4fb oS ?Cx4fb ?ix4fb ?hix4fb ?hTx4fb ?htx4fb ?cdx4fb ?hLx4fb ?hrx4fb ?clx4fb ?_; (case Tx4fb => exact Gd.T (by assumption)); (case Ox4fb => assumption); (case Cx4fb => walk_at "my code"); (case hix4fb => walk_at "my idx"); (case hTx4fb => exact rfl); (case htx4fb => walk_at "my tabm"); (case cdx4fb => exact rfl); (case hLx4fb => assumption); (case hrx4fb => exact ⟨_, .head _, by (try dsimp only); first | assumption | omega⟩); (case clx4fb => exact rfl); k_whole); clear oX oT oF oN oS; intro f9 c9 ct9 cx9 ox9 g9 h9 tk9 F9 N9 cr9 S9 lc9 lf9 lqc9 lqf9; (have X9 := Frag.In.keeps (Gd.X (by assumption)) (St.st S9)); (have T9 := Top.keeps (Gd.T (by assumption)) (St.st S9)); (try k_sweep))
  k_with "call ref" => (k_here; (with_reducible show wpAny _ _ (call (Value.ref 385) _) _ _ _); k_dflt (first | (refine' fault_bad_s ?Fx6bc ?Nx6bc ?Gx6bc ?Ox6bc ?Sx6bc ?a0x6bc ?a3x6bc ?a4x6bc ?cx6bc ?hu0x6bc ?hu1x6bc ?hu2x6bc ?hBx6bc ?_; (case hBx6bc => assumption); (case Fx6bc => k_asm); (case Nx6bc => k_asm); (case Gx6bc => assumption); (case Ox6bc => assumption); (case Sx6bc => assumption); (case a0x6bc => exact rfl); (case a3x6bc => exact Nat.le_of_ble_eq_true rfl); (case a4x6bc => exact Nat.le_of_ble_eq_true rfl); (case cx6bc => first | exact .inl rfl | exact .inr (.inl rfl) | exact .inr (.inr rfl)); (case hu0x6bc => assumption); (case hu1x6bc => assumption); (case hu2x6bc => assumption); k_whole; intro tk' h' tks' F' N') | (refine' fault_ok_s ?Fx6bc ?Nx6bc ?Gx6bc ?Ox6bc ?Sx6bc ?a0x6bc ?a3x6bc ?a4x6bc ?cx6bc ?hu0x6bc ?hu1x6bc ?hu2x6bc ?h0x6bc ?h1x6bc ?h2x6bc ?_; (case h0x6bc => assumption); (case h1x6bc => assumption); (case h2x6bc => assumption); (case Fx6bc => k_asm); (case Nx6bc => k_asm); (case Gx6bc => assumption); (case Ox6bc => assumption); (case Sx6bc => assumption); (case a0x6bc => exact rfl); (case a3x6bc => exact Nat.le_of_ble_eq_true rfl); (case a4x6bc => exact Nat.le_of_ble_eq_true rfl); (case cx6bc => first | exact .inl rfl | exact .inr (.inl rfl) | exact .inr (.inr rfl)); (case hu0x6bc => assumption); (case hu1x6bc => assumption); (case hu2x6bc => assumption); k_whole; intro h' tks' F' N')); (try k_sweep))
  k_with "call ref" => (k_here; (with_reducible show wpAny _ _ (call (Value.ref 399) [_, _, _, Value.none, _]) _ _ _); (rename Frag.In _ _ => oX); (rename Top _ _ _ _ _ _ => oT); (rename Fr _ _ _ _ => oF); (rename News _ _ _ _ => oN); (rename St _ _ _ _ _ _ _ _ _ _ _ _ _ _ _ => oS); k_dflt (refine' bright_ok_s oF oN ?Gx815 ?Ox815 oS ?a0x815 ?a3x815 ?a4x815 ?l1x815 ?l2x815 ?l3x815 ?hCx815 ?hkx815 ?h1x815 ?h2x815 ?h3x815 ?m1x815 ?m2x815 ?m3x815 ?_; (case Gx815 => assumption); (case Ox815 => assumption); (case a0x815 => exact rfl); (case a3x815 => exact Nat.le_of_ble_eq_true rfl); (case a4x815 => exact Nat.le_of_ble_eq_true rfl); (case m1x815 => k_mem); (case m2x815 => k_mem); (case m3x815 => k_mem); (case l1x815 => assumption); (case l2x815 => assumption); (case l3x815 => assumption); (case hCx815 => first | exact .inl rfl | exact .inr (.inl rfl) | exact .inr (.inr rfl)); (case hkx815 => k_keys); (case h1x815 => k_get); (case h2x815 => k_get); (case h3x815 => k_get); k_whole); clear oX oT oF oN oS; intro g9 h9 tks9 F9 N9 S9; (have X9 := Frag.In.keeps (Gd.X (by assumption)) (St.st S9)); (have T9 := Top.keeps (Gd.T (by assumption)) (St.st S9)); (try k_sweep))
  k_with "my n0" => ((rename After _ _ _ => myA); (rename New _ _ _ => myW); (rename Fr _ _ _ _ => myF); (rename News _ _ _ _ => myN); k_dflt (refine' new0 myF myN myA myW ?_); clear myA myW; intro F' N' nwl' nwc'; clear nwc'; (try dsimp only [List.cons_append, List.nil_append] at N'); (try k_sweep))
  k_with "call ref" => (k_here; (with_reducible show wpAny _ _ (call (Value.ref 210) _) _ _ _); k_dflt (refine' ofrow_w ?Fxa29 ?Nxa29 ?Gxa29 ?stxa29 ?a0xa29 ?a3xa29 ?a4xa29 ?hmxa29 ?hzxa29 ?_; (case Fxa29 => k_asm); (case Nxa29 => k_asm); (case Gxa29 => assumption); (case stxa29 => exact St.st (by assumption)); (case a0xa29 => exact rfl); (case a3xa29 => exact Nat.le_of_ble_eq_true rfl); (case a4xa29 => exact Nat.le_of_ble_eq_true rfl); (case hmxa29 => walk_at "my sub"); (case hzxa29 => first | assumption | (rw [List.length_replicate]; omega) | omega); k_whole); intro th9 dth9 sp9 ds9 h' tks' tkk' tkz' tky' j0' j1' j2' j3' jn' i0' i1' i2' in' lt1' lt2' lt3' af' nw'; walk_at "my n0")
  k_with "call ref" => (k_here; (with_reducible show wpAny _ _ (call (Value.ref 252) _) _ _ _); k_dflt (refine' thgspan_w ?Fx598 ?Nx598 ?Gx598 ?stx598 ?a0x598 ?a3x598 ?a4x598 ?hmx598 ?hzx598 ?_; (case Fx598 => k_asm); (case Nx598 => k_asm); (case Gx598 => assumption); (case stx598 => exact St.st (by assumption)); (case a0x598 => exact rfl); (case a3x598 => exact Nat.le_of_ble_eq_true rfl); (case a4x598 => exact Nat.le_of_ble_eq_true rfl); (case hmx598 => walk_at "my sub"); (case hzx598 => first | assumption | (rw [List.length_replicate]; omega) | omega); k_whole); intro l9 lc9' h' tks' af' nw'; walk_at "my n0")
  k_with "my same" => ((rename After _ _ _ => myA); (rename Fr _ _ _ _ => myF); (rename News _ _ _ _ => myN); k_dflt (refine' same_go myF myN myA ?_); clear myA; intro F' N'; (try k_sweep))
  k_with "my st" => (first | exact St.st (by assumption) | exact fun _ _ e => e | exact Got.st (by assumption) | exact Fr.keep (by assumption))
  k_with "my made" => walk_at "my n0"
  k_with "getMethod ref" => (k_here; (with_reducible show wpAny _ _ (getMethod (Value.ref (SV.md _)) _ _) _ _ _); k_dflt (refine' md_meth ?Fx5da ?Sx5da ?_; (case Fx5da => k_asm); (case Sx5da => assumption); k_whole))
  k_with "call builtin:list.append" => (k_here; (with_reducible show wpAny _ _ (call (Value.builtin _) [Value.ref (SV.md _), _]) _ _ _); (rename Frag.In _ _ => oX); (rename Top _ _ _ _ _ _ => oT); (rename Fr _ _ _ _ => oF); (rename News _ _ _ _ => oN); (rename St _ _ _ _ _ _ _ _ _ _ _ _ _ _ _ => oS); k_dflt (refine' md_add oF oN ?Oxf05 oS ?zxf05 ?_; (case Oxf05 => assumption); (case zxf05 => omega); k_whole); clear oX oT oF oN oS; intro g9 h9 F9 N9 S9; (have X9 := Frag.In.keeps (Gd.X (by assumption)) (St.st S9)); (have T9 := Top.keeps (Gd.T (by assumption)) (St.st S9)); (try k_sweep))
  k_with "call builtin:sum" => (k_here; (with_reducible show wpAny _ _ (call (Value.builtin "sum") [Value.ref (SV.us _)]) _ _ _); k_dflt (refine' sum_us ?hx239 ?Fx239 ?Nx239 ?Sx239 ?_; (case hx239 => exact rfl); (case Fx239 => k_asm); (case Nx239 => k_asm); (case Sx239 => assumption); k_whole); intro h' tk' t' F' N'; (try k_sweep))
  k_with "subscriptTail Name Constant ref str" => (k_here; (with_reducible show wpAny _ _ (subscriptTail _ _ (Value.ref (SV.wx _)) (Value.str (Str.ofString "count") _)) _ _ _); k_dflt (refine' w_count ?Fx010 ?Sx010 ?_; (case Fx010 => k_asm); (case Sx010 => assumption); k_whole); intro c5')
  k_with "call ref" => (k_here; (with_reducible show wpAny _ _ (call (Value.ref 392) _) _ _ _); (rename Frag.In _ _ => oX); (rename Top _ _ _ _ _ _ => oT); (rename Fr _ _ _ _ => oF); (rename News _ _ _ _ => oN); (rename St _ _ _ _ _ _ _ _ _ _ _ _ _ _ _ => oS); k_dflt (refine' counted_s oF oN ?Gx879 ?Ox879 oS ?a0x879 ?a3x879 ?a4x879 ?_; (case Gx879 => assumption); (case Ox879 => assumption); (case a0x879 => exact rfl); (case a3x879 => exact Nat.le_of_ble_eq_true rfl); (case a4x879 => exact Nat.le_of_ble_eq_true rfl); k_whole); clear oX oT oF oN oS; intro g9 h9 tks9 F9 N9 S9; (have X9 := Frag.In.keeps (Gd.X (by assumption)) (St.st S9)); (have T9 := Top.keeps (Gd.T (by assumption)) (St.st S9)); (try k_sweep))
  k_with "my goif" => ((try k_fold); repeat' ((fail_if_success (with_reducible show wpAny _ _ (eval (Expr.IfExp _ _ _ _) _) _ _ _)); first | (k_unfold; (try dsimp only)) | (walk1; (try dsimp only)) | (dsimp only; walk1)))
  k_with "my goand" => ((try k_fold); repeat' ((fail_if_success (with_reducible show And _ _)); first | (k_unfold; (try dsimp only)) | (walk1; (try dsimp only)) | (dsimp only; walk1)))
  exact trivial

noncomputable section
namespace K_nulls_s
def KP (w : World) (V : SV) (R : Result → Shared → Prop) (s : Shared) (b : Heap) (loose : List Str) (mean : ExcName → Option Value) (mg mb : Str → Option Value) (k u0 u1 lb : Int) (gl : Bool) (mds : Array Value) : Prop := ∀ {A : Around} (G : Gd w loose mean mg mb b) (O : VOK w V b) (hA : A = { depth := 310, units := 1000, frames := some [V.env1], handled := none, guards := none }) (S : St w V b s.heap s.heap [] k u0 u1 lb u0 u1 lb gl mds) (hsz : V.lm0 ≤ s.heap.objs.size) (hk0 : 0 ≤ k) (hk1 : k < 900) (hu0 : 0 ≤ u0) (hu1 : 0 ≤ u1) (hu2 : u0 + u1 ≤ V.vm) (hl1 : lb ≤ 700) (hM : ∀ v ∈ mds, MadeOK w V.lm0 s.heap v) (hmz : mds.size ≤ 100) (hR : ∀ h' tks k' u0' u1' lb' mds', k ≤ k' → k' ≤ k + 20 → 0 ≤ u0' → 0 ≤ u1' → u0' + u1' ≤ V.vm → lb ≤ lb' → lb' ≤ lb + 1 → mds'.size ≤ mds.size + 1 → St w V b s.heap h' [] k' u0' u1' lb' u0' u1' lb' gl mds' → (∀ v ∈ mds', MadeOK w V.lm0 h' v) → R (.ok (.ret (.bool true))) ⟨h', s.gens, s.drawn, tks, s.os⟩), codeC (model PG w) A (.call (.ref 411) ⟨[.ref V.dk, .ref V.wx, .ref V.mk], []⟩) R s
def KT (x : (World × SV × (Result → Shared → Prop) × Shared × Heap × List Str) × ((ExcName → Option Value) × (Str → Option Value) × (Str → Option Value) × Int × Int × Int) × (Int × Bool × Array Value)) : Prop := KP x.1.1 x.1.2.1 x.1.2.2.1 x.1.2.2.2.1 x.1.2.2.2.2.1 x.1.2.2.2.2.2 x.2.1.1 x.2.1.2.1 x.2.1.2.2.1 x.2.1.2.2.2.1 x.2.1.2.2.2.2.1 x.2.1.2.2.2.2.2 x.2.2.1 x.2.2.2.1 x.2.2.2.2
theorem Kex : ∃ x, KT x → ∀ y, KT y := drink ((anyW, anyV, (fun _ _ => True), {}, default, default), (default, default, default, default, default, default), (default, default, default)) _
@[irreducible] def Kx0 := Classical.choose Kex
@[irreducible] def w := Kx0.1.1
@[irreducible] def V := Kx0.1.2.1
@[irreducible] def R := Kx0.1.2.2.1
@[irreducible] def s := Kx0.1.2.2.2.1
@[irreducible] def b := Kx0.1.2.2.2.2.1
@[irreducible] def loose := Kx0.1.2.2.2.2.2
@[irreducible] def mean := Kx0.2.1.1
@[irreducible] def mg := Kx0.2.1.2.1
@[irreducible] def mb := Kx0.2.1.2.2.1
@[irreducible] def k := Kx0.2.1.2.2.2.1
@[irreducible] def u0 := Kx0.2.1.2.2.2.2.1
@[irreducible] def u1 := Kx0.2.1.2.2.2.2.2
@[irreducible] def lb := Kx0.2.2.1
@[irreducible] def gl := Kx0.2.2.2.1
@[irreducible] def mds := Kx0.2.2.2.2
set_option maxRecDepth 100000
set_option maxHeartbeats 4000000
theorem kwN1n11 : True := by
  k_with "my code" => exact Gd.c4 (by assumption)
  k_with "my idx" => exact (rfl : Nat.blt 1 5 = true)
  k_with "my tabm" => exact List.Mem.tail _ (List.Mem.head _)
  k_with "my goto" => ((try k_fold); repeat' ((fail_if_success (with_reducible show wpAny _ _ (call (Value.ref 338) _) _ _ _)); first | (k_unfold; (try dsimp only)) | (walk1; (try dsimp only)) | (dsimp only; walk1)))
  exact trivial
@[irreducible] def g9 : Heap := hideAll s.heap (([] : List (Addr × Obj)).map (·.1))
@[irreducible] def L' : Addr := s.heap.objs.size
theorem KgE  : g9 = hideAll s.heap (([] : List (Addr × Obj)).map (·.1)) := by with_unfolding_all rfl
theorem KlE : L' = s.heap.objs.size := by with_unfolding_all rfl
theorem at0 : KP w V R s b loose mean mg mb k u0 u1 lb gl mds := by
  intro A G O hA S hsz hk0 hk1 hu0 hu1 hu2 hl1 hM hmz hR
  subst hA
  have Xs := G.X.keeps S.st
  refine' enterXC' KgE KlE (led := []) (binds := [(Str.ofString "deck", .ref V.dk), (Str.ofString "w", .ref V.wx), (Str.ofString "maker", .ref V.mk)]) S.st G (fun _ hp => (nomatch hp)) ?k6 ?k7 ?k8 ?k9 ?kB ?kD ?_ ?c2 ?c3 ?c4
  case k6 => k_dflt k_is
  case k7 => k_dflt k_is
  case k8 => k_room
  case k9 => first | exact BindsTo.of_eq rfl | exact binds_K (by assumption) rfl (by k_is) rfl rfl rfl
  case kB => exact rfl
  case kD => decide +kernel
  case c2 => exact rfl
  case c3 => exact rfl
  case c4 => exact rfl
  intro h' tk cells Z F9 N9 Y'
  k_cells Y'
  (try dsimp only [List.cons_append, List.nil_append] at N9)
  have S9 : St w V b s.heap g9 [] k u0 u1 lb u0 u1 lb gl mds := S.mono (fun a o e => Z.kp a o e fun q => (nomatch q)) fun _ hp => (nomatch hp)
  have hL : V.lm0 ≤ L' := by rw [← Z.sz]; exact hsz
  have X9 := G.X.keeps S9.st
  have T9 := G.T.keeps S9.st
  have cH := G.c4
  have rx0 := O.rx0
  have rx1 := O.rx1
  have hc1 : @LT.lt Nat _ L' (L' + 1) := Nat.lt_succ_self _
  have hc2 : @LT.lt Nat _ L' (L' + 1 + 1) := Nat.lt_succ_of_lt hc1
  clear Z Xs S
  refine wpC_execs_cons (.of ?_)
  walk_at "my go"
  (try k_unfold); (try dsimp only)
  refine wpC_execs_cons (wpC_Assign_Name (wpC_CallName ?_))
  walk_at "my go"
  (try k_unfold); (try dsimp only)
  refine wpC_callK (K := hd.heap_1 w.params) (by k_is) ?_
  walk_at "my go"
  refine' outcome_s (Ok := NulOk w V gl u0 u1 lb (r9 - 2)) (Bad := ManyF (r9 - 2) V.rx 8 V.vm u0 u1) F9 N9 G O S9 ?fr ?hh ?a3 ?a4 ?f2 ?k2 ?hf ?hfd ?hC ?hdeed ?ok ?bad
  case fr => exact rfl
  case hh => exact rfl
  case a3 => exact Nat.le_of_ble_eq_true rfl
  case a4 => exact Nat.le_of_ble_eq_true rfl
  case f2 => exact rfl
  case k2 => intro q; cases q
  case hf => k_mem
  case hfd => exact rfl
  case hC =>
    intro v chg nw z
    cases z; assumption
  case hdeed =>
    intro h₁ tks env kp ff nf₁ st₁ S₁
    obtain ⟨ma0, ma1, ma2, em⟩ := S₁.mx
    have D : Led b h₁ [(L' + 1 + 1, _), (L' + 1, _), (V.mk, _), (V.mx, _)] := List.forall_mem_cons.mpr ⟨⟨kp _ _ (N9.get (by k_mem)), nb_new N9 S9.st (by k_mem)⟩, List.forall_mem_cons.mpr ⟨⟨kp _ _ (N9.get (by k_mem)), nb_new N9 S9.st (by k_mem)⟩, List.forall_mem_cons.mpr ⟨⟨S₁.mk, O.nbd (i := 14) rfl⟩, List.forall_mem_cons.mpr ⟨⟨em, O.nbd (i := 10) rfl⟩, List.forall_mem_nil _⟩⟩⟩⟩
    refine' enterL (binds := []) st₁ G D (kp _ _ (N9.get ?mf)) ?cr ?room ?hb ?hloc ?_ ?c2 ?c3 ?c4 ?c5
    case mf => k_mem
    case cr => exact codeRec_keeps cr9 kp
    case room => k_room
    case hb => exact rfl
    case hloc => exact fun _ hp => (nomatch hp)
    case c2 => exact rfl
    case c3 => exact rfl
    case c4 => exact rfl
    case c5 => decide
    have nf₂ := nf_s F9 S9 O ff rfl nf₁
    intro g₁ L₁ h₂ Z₁ F₁ N₁
    have X₁ := G.X.keeps Z₁.st
    have T₁ := G.T.keeps Z₁.st
    clear F9 N9 X9 T9 S9 nf₁
    refine .of ?_
    walk_at "my goto"
    (rename Fr _ _ _ _ => F₂); (rename News _ _ _ _ => N₂)
    have kp₂ := keep_all F₂ N₂ Z₁ (fun _ hp => hp)
    refine' lam_endA (dd := 600) (uu := 2500) ?xf ?xn ?xz ?xm ?xa ?xb ?h ?xc ?hd ?hu
    case xf => exact F₂
    case xn => exact N₂
    case xz => exact Z₁
    case xm => exact fun _ hp => hp
    case xa => exact rfl
    case xb => exact rfl
    case h => exact nulls_m G O (S₁.mono kp₂ fun _ hp => .inr hp) (below_lam F₂ Z₁ kp₂ st₁ ff rfl rfl (fun q => nomatch q)) rfl (nf_x nf₂ S₁ rfl Z₁.new) (by omega)
    case xc => exact rfl
    case hd => exact Nat.le_of_ble_eq_true rfl
    case hu => exact Nat.le_of_ble_eq_true rfl
  case ok =>
    clear X9 T9 F9 N9 S9
    intro v chg nw g9 h9 tks9 tp hok F9 N9 lt9 lw9 ltp lc8 S9
    cases hok with
    | @mk x dx l t dt c qn jn tk0 q0 q1 q2 q3 tn tl j0 j1 j2 j3 vv ac ex0 chg hq0 hq1 hq2 z1 z2 z3 z4 _ =>
    have X9 := G.X.keeps S9.st
    have T9 := G.T.keeps S9.st
    have lxt : @LT.lt Nat _ x tp := lt9 _ (.head _)
    have ldx : @LT.lt Nat _ L' dx := lw9 _ (.tail _ (.head _))
    clear lt9 lw9
    dsimp only [List.cons_append, List.nil_append] at N9
    walk_at "my go"
    refine .of ?_
    walk_at "my gocomp"
    refine my_comp (fun _ y => y = .str (Str.ofString "null") tk0) (by rfl) (by rfl) (by decide) rfl ?nm (by rfl) ?main
    case nm => decide
    case main =>
      walk_at "my goex"
      (rename Fr _ _ _ _ => F6); (rename News _ _ _ _ => N6)
      refine ⟨_, List.replicate (r9 - 2).toNat (Value.ref t), g9, L', _, _, rfl, N6.isList (by k_mem), by rw [List.length_replicate]; omega, F6, N6, ?elt, ?fin⟩
      case elt =>
        intro C v s₂ m₂ E' hv hn9 hm9 kp9
        obtain rfl := List.eq_of_mem_replicate hv
        have X8 : (hd.heap_1 w.params).In s₂.heap := X9.keeps fun a o e => kp9 _ _ (F6.keep _ _ e)
        exact comp_attr X8 hn9 hm9 (kp9 _ _ (N6.get (by k_mem))) (kp9 _ _ (N6.get (by k_mem))) rfl rfl (by decide) (by k_is) (by k_is) (by k_is) (by k_is) (by with_unfolding_all rfl) rfl ⟨rfl, _, _, rfl, fun _ _ e => e⟩
      case fin =>
        intro D ys c' h6 tk6 F5 N5 hP
        obtain rfl : ys = (List.replicate (r9 - 2).toNat (Value.str (Str.ofString "null") tk0)).toArray := by
          apply Array.toList_inj.mp
          rw [paired_const hP, List.length_replicate]
        clear F6 N6
        have hm1 : r9 - 2 ≤ 1000 := by omega
        walk_at "my gocmp"
        rename News _ _ _ _ => N4
        refine' eq_strs (x := Str.ofString "null") N4 ?m1 ?m2 ?ut ?_
        case m1 => k_mem
        case m2 => k_mem
        case ut => exact Nat.le_of_ble_eq_true rfl
        walk_at "my go"
        (rename Fr _ _ _ _ => F7); (rename News _ _ _ _ => N7)
        refine' hR _ _ (k + 1) _ _ (lb + 1) mds ?q1 ?q2 ?q3 ?q4 ?q5 ?q6 ?q7 ?q8 (S9.fin F7 N7 fun p hp => ?q9) fun v hv => ?q10
        case q1 => first | assumption | omega
        case q2 => first | assumption | omega
        case q3 => split <;> omega
        case q4 => split <;> omega
        case q5 => split <;> omega
        case q6 => first | assumption | omega
        case q7 => first | assumption | omega
        case q8 => first | assumption | omega
        case q9 => obtain rfl := List.mem_singleton.mp hp; k_mem
        case q10 => exact (hM v hv).mono fun a o e l => F7.keep _ _ (S9.kp a o e fun z => absurd (O.low z) (Nat.not_lt_of_le l))
  case bad =>
    clear X9 T9 F9 N9 S9
    intro nm tkf g9 h9 tks9 tp hB F9 N9 ltp lc8 S9
    have X9 := G.X.keeps S9.st
    have T9 := G.T.keeps S9.st
    walk_at "my go"
    refine .of ?_
    walk_at "my go"
    (rename Fr _ _ _ _ => F7); (rename News _ _ _ _ => N7)
    refine' hR _ _ (k + 1) u0 u1 lb mds ?q1 ?q2 hu0 hu1 hu2 ?q6 ?q7 ?q8 (S9.fin F7 N7 fun p hp => ?q9) fun v hv => ?q10
    case q1 => first | assumption | omega
    case q2 => first | assumption | omega
    case q6 => first | assumption | omega
    case q7 => first | assumption | omega
    case q8 => first | assumption | omega
    case q9 => obtain rfl := List.mem_singleton.mp hp; k_mem
    case q10 => exact (hM v hv).mono fun a o e l => F7.keep _ _ (S9.kp a o e fun z => absurd (O.low z) (Nat.not_lt_of_le l))
end K_nulls_s
end
theorem nulls_s {w : World} {V : SV} {R : Result → Shared → Prop} {s : Shared} {b : Heap} {loose : List Str} {mean : ExcName → Option Value} {mg mb : Str → Option Value} {k u0 u1 lb : Int} {gl : Bool} {mds : Array Value} : K_nulls_s.KP w V R s b loose mean mg mb k u0 u1 lb gl mds :=
  @Classical.choose_spec _ _ K_nulls_s.Kex (by with_unfolding_all exact @K_nulls_s.at0) ((w, V, R, s, b, loose), (mean, mg, mb, k, u0, u1), (lb, gl, mds))
section
end

noncomputable section
namespace K_dict_s
def KP (w : World) (V : SV) (R : Result → Shared → Prop) (s : Shared) (b : Heap) (loose : List Str) (mean : ExcName → Option Value) (mg mb : Str → Option Value) (k u0 u1 lb : Int) (gl : Bool) (mds : Array Value) : Prop := ∀ {A : Around} (G : Gd w loose mean mg mb b) (O : VOK w V b) (hA : A = { depth := 310, units := 1000, frames := some [V.env1], handled := none, guards := none }) (S : St w V b s.heap s.heap [] k u0 u1 lb u0 u1 lb gl mds) (hsz : V.lm0 ≤ s.heap.objs.size) (hk0 : 0 ≤ k) (hk1 : k < 900) (hu0 : 0 ≤ u0) (hu1 : 0 ≤ u1) (hu2 : u0 + u1 ≤ V.vm) (hl1 : lb ≤ 700) (hmz : mds.size ≤ 100) (hM : ∀ v ∈ mds, MadeOK w V.lm0 s.heap v) (hR : ∀ h' tks k' u0' u1' lb' mds', k ≤ k' → k' ≤ k + 20 → 0 ≤ u0' → 0 ≤ u1' → u0' + u1' ≤ V.vm → lb ≤ lb' → lb' ≤ lb + 1 → mds'.size ≤ mds.size + 1 → St w V b s.heap h' [] k' u0' u1' lb' u0' u1' lb' gl mds' → (∀ v ∈ mds', MadeOK w V.lm0 h' v) → R (.ok (.ret (.bool true))) ⟨h', s.gens, s.drawn, tks, s.os⟩), codeC (model PG w) A (.call (.ref 423) ⟨[.ref V.dk, .ref V.wx, .ref V.mk], []⟩) R s
def KT (x : (World × SV × (Result → Shared → Prop) × Shared × Heap × List Str) × ((ExcName → Option Value) × (Str → Option Value) × (Str → Option Value) × Int × Int × Int) × (Int × Bool × Array Value)) : Prop := KP x.1.1 x.1.2.1 x.1.2.2.1 x.1.2.2.2.1 x.1.2.2.2.2.1 x.1.2.2.2.2.2 x.2.1.1 x.2.1.2.1 x.2.1.2.2.1 x.2.1.2.2.2.1 x.2.1.2.2.2.2.1 x.2.1.2.2.2.2.2 x.2.2.1 x.2.2.2.1 x.2.2.2.2
theorem Kex : ∃ x, KT x → ∀ y, KT y := drink ((anyW, anyV, (fun _ _ => True), {}, default, default), (default, default, default, default, default, default), (default, default, default)) _
@[irreducible] def Kx0 := Classical.choose Kex
@[irreducible] def w := Kx0.1.1
@[irreducible] def V := Kx0.1.2.1
@[irreducible] def R := Kx0.1.2.2.1
@[irreducible] def s := Kx0.1.2.2.2.1
@[irreducible] def b := Kx0.1.2.2.2.2.1
@[irreducible] def loose := Kx0.1.2.2.2.2.2
@[irreducible] def mean := Kx0.2.1.1
@[irreducible] def mg := Kx0.2.1.2.1
@[irreducible] def mb := Kx0.2.1.2.2.1
@[irreducible] def k := Kx0.2.1.2.2.2.1
@[irreducible] def u0 := Kx0.2.1.2.2.2.2.1
@[irreducible] def u1 := Kx0.2.1.2.2.2.2.2
@[irreducible] def lb := Kx0.2.2.1
@[irreducible] def gl := Kx0.2.2.2.1
@[irreducible] def mds := Kx0.2.2.2.2
set_option maxRecDepth 100000
set_option maxHeartbeats 4000000
theorem kwN2n21 : True := by
  k_with "my code" => exact Gd.c2 (by assumption)
  k_with "my idx" => exact (rfl : Nat.blt 3 5 = true)
  k_with "my tabm" => exact List.Mem.tail _ (List.Mem.tail _ (List.Mem.tail _ (List.Mem.head _)))
  k_with "my gopr" => ((try k_fold); repeat' ((fail_if_success (with_reducible show wpAny _ _ (call (Value.ref 137) _) _ _ _)); first | (k_unfold; (try dsimp only)) | (walk1; (try dsimp only)) | (dsimp only; walk1)))
  k_with "my goto" => ((try k_fold); repeat' ((fail_if_success (with_reducible show wpAny _ _ (call (Value.ref 345) _) _ _ _)); first | (k_unfold; (try dsimp only)) | (walk1; (try dsimp only)) | (dsimp only; walk1)))
  exact trivial
@[irreducible] def g9 : Heap := hideAll s.heap (([] : List (Addr × Obj)).map (·.1))
@[irreducible] def L' : Addr := s.heap.objs.size
theorem KgE  : g9 = hideAll s.heap (([] : List (Addr × Obj)).map (·.1)) := by with_unfolding_all rfl
theorem KlE : L' = s.heap.objs.size := by with_unfolding_all rfl
theorem at0 : KP w V R s b loose mean mg mb k u0 u1 lb gl mds := by
  intro A G O hA S hsz hk0 hk1 hu0 hu1 hu2 hl1 hmz hM hR
  subst hA
  have Xs := G.X.keeps S.st
  refine' enterXC' KgE KlE (led := []) (binds := [(Str.ofString "deck", .ref V.dk), (Str.ofString "w", .ref V.wx), (Str.ofString "maker", .ref V.mk)]) S.st G (fun _ hp => (nomatch hp)) ?k6 ?k7 ?k8 ?k9 ?kB ?kD ?_ ?c2 ?c3 ?c4
  case k6 => k_dflt k_is
  case k7 => k_dflt k_is
  case k8 => k_room
  case k9 => first | exact BindsTo.of_eq rfl | exact binds_K (by assumption) rfl (by k_is) rfl rfl rfl
  case kB => exact rfl
  case kD => decide +kernel
  case c2 => exact rfl
  case c3 => exact rfl
  case c4 => exact rfl
  intro h' tk cells Z F9 N9 Y'
  k_cells Y'
  (try dsimp only [List.cons_append, List.nil_append] at N9)
  have S9 : St w V b s.heap g9 [] k u0 u1 lb u0 u1 lb gl mds := S.mono (fun a o e => Z.kp a o e fun q => (nomatch q)) fun _ hp => (nomatch hp)
  have hL : V.lm0 ≤ L' := by rw [← Z.sz]; exact hsz
  have X9 := G.X.keeps S9.st
  have T9 := G.T.keeps S9.st
  have cH := G.c2
  have rx0 := O.ex0
  have rx1 := O.ex1
  have hc1 : @LT.lt Nat _ L' (L' + 1) := Nat.lt_succ_self _
  have hc2 : @LT.lt Nat _ L' (L' + 1 + 1) := Nat.lt_succ_of_lt hc1
  clear Z Xs S
  refine wpC_execs_cons (.of ?_)
  walk_at "my go"
  (try k_unfold); (try dsimp only)
  refine wpC_execs_cons (wpC_Assign_Name (wpC_CallName ?_))
  walk_at "my go"
  (try k_unfold); (try dsimp only)
  refine wpC_callK (K := hd.heap_1 w.params) (by k_is) ?_
  walk_at "my go"
  refine' outcome_s (Ok := DctOk w V gl u0 u1 lb (r9 - 2)) (Bad := ManyF (r9 - 2) V.ex 16 V.vm u0 u1) F9 N9 G O S9 ?fr ?hh ?a3 ?a4 ?f2 ?k2 ?hf ?hfd ?hC ?hdeed ?ok ?bad
  case fr => exact rfl
  case hh => exact rfl
  case a3 => exact Nat.le_of_ble_eq_true rfl
  case a4 => exact Nat.le_of_ble_eq_true rfl
  case f2 => exact rfl
  case k2 => intro q; cases q
  case hf => k_mem
  case hfd => exact rfl
  case hC =>
    intro v chg nw z
    cases z; assumption
  case hdeed =>
    intro h₁ tks env kp ff nf₁ st₁ S₁
    obtain ⟨ma0, ma1, ma2, em⟩ := S₁.mx
    have D : Led b h₁ [(L' + 1 + 1, _), (L' + 1, _), (V.mk, _), (V.mx, _)] := List.forall_mem_cons.mpr ⟨⟨kp _ _ (N9.get (by k_mem)), nb_new N9 S9.st (by k_mem)⟩, List.forall_mem_cons.mpr ⟨⟨kp _ _ (N9.get (by k_mem)), nb_new N9 S9.st (by k_mem)⟩, List.forall_mem_cons.mpr ⟨⟨S₁.mk, O.nbd (i := 14) rfl⟩, List.forall_mem_cons.mpr ⟨⟨em, O.nbd (i := 10) rfl⟩, List.forall_mem_nil _⟩⟩⟩⟩
    refine' enterL (binds := []) st₁ G D (kp _ _ (N9.get ?mf)) ?cr ?room ?hb ?hloc ?_ ?c2 ?c3 ?c4 ?c5
    case mf => k_mem
    case cr => exact codeRec_keeps cr9 kp
    case room => k_room
    case hb => exact rfl
    case hloc => exact fun _ hp => (nomatch hp)
    case c2 => exact rfl
    case c3 => exact rfl
    case c4 => exact rfl
    case c5 => decide
    have nf₂ := nf_s F9 S9 O ff rfl nf₁
    intro g₁ L₁ h₂ Z₁ F₁ N₁
    have X₁ := G.X.keeps Z₁.st
    have T₁ := G.T.keeps Z₁.st
    clear F9 N9 X9 T9 S9 nf₁
    refine .of ?_
    walk_at "my goto"
    (rename Fr _ _ _ _ => F₂); (rename News _ _ _ _ => N₂)
    have kp₂ := keep_all F₂ N₂ Z₁ (fun _ hp => hp)
    refine' lam_endA (dd := 600) (uu := 2500) ?xf ?xn ?xz ?xm ?xa ?xb ?h ?xc ?hd ?hu
    case xf => exact F₂
    case xn => exact N₂
    case xz => exact Z₁
    case xm => exact fun _ hp => hp
    case xa => exact rfl
    case xb => exact rfl
    case h => exact dict_m G O (S₁.mono kp₂ fun _ hp => .inr hp) (below_lam F₂ Z₁ kp₂ st₁ ff rfl rfl (fun q => nomatch q)) rfl (nf_x nf₂ S₁ rfl Z₁.new) (by omega)
    case xc => exact rfl
    case hd => exact Nat.le_of_ble_eq_true rfl
    case hu => exact Nat.le_of_ble_eq_true rfl
  case ok =>
    clear X9 T9 F9 N9 S9
    intro v chg nw g9 h9 tks9 tp hok F9 N9 lt9 lw9 ltp lc8 S9
    cases hok with
    | @mk x dx l jn tmn tn tl j0 j1 j2 j3 j4 j5 ac chg hq0 hq1 hq2 z1 z2 _ =>
    have X9 := G.X.keeps S9.st
    have T9 := G.T.keeps S9.st
    have lxt : @LT.lt Nat _ x tp := lt9 _ (.head _)
    have ldx : @LT.lt Nat _ L' dx := lw9 _ (.tail _ (.head _))
    have hb0 := O.hb0
    clear lt9 lw9
    dsimp only [List.cons_append, List.nil_append] at N9
    walk_at "my go"
    refine .of ?_
    walk_at "my gopr"
    (rename Fr _ _ _ _ => F6); (rename News _ _ _ _ => N6)
    have lx9 : @LT.lt Nat _ L' x := Nat.lt_trans ldx z1
    refine' pairs_w ?uF ?uN G S9.st ?pa0 ?pa3 ?pa4 ?pm ?pz ?_
    case uF => exact F6
    case uN => exact N6
    case pa0 => exact rfl
    case pa3 => exact Nat.le_of_ble_eq_true rfl
    case pa4 => exact Nat.le_of_ble_eq_true rfl
    case pm => walk_at "my sub"
    case pz => first | assumption | omega
    intro D7 c7 h7 tks7 F7 N7
    clear F6 N6
    walk_at "my gocmp"
    rename News _ _ _ _ => N4
    refine' eq_lists (vs := #[]) (ws := #[]) ?m1 ?m2 rfl ?ut ?el ?_
    case m1 => exact N4.isList (by k_mem)
    case m2 => exact N4.isList (by k_mem)
    case ut => exact Nat.le_of_ble_eq_true rfl
    case el => intro j k1; simp at k1
    walk_at "my go"
    (rename Fr _ _ _ _ => F7); (rename News _ _ _ _ => N7); (rename (∀ q ∈ (_ : List (Addr × Obj)), @LT.lt Nat _ _ q.1) => nwo)
    refine' hR _ _ (k + 1) _ _ (lb + 1) (mds.push _) ?q1 ?q2 ?q3 ?q4 ?q5 ?q6 ?q7 ?q8 (S9.fin F7 N7 fun p hp => ?q9) (made_push hM (kp_low O S9 F7) (made_dict (f := gl) N7 ?m1 ?m2 ?m3 ?m4 ?m5 ?m6 ?m7 ?l1 ?l2 ?l3 ?l4 ?l5))
    case q1 => first | assumption | omega
    case q2 => first | assumption | omega
    case q3 => split <;> omega
    case q4 => split <;> omega
    case q5 => split <;> omega
    case q6 => first | assumption | omega
    case q7 => first | assumption | omega
    case q8 => rw [Array.size_push]; exact Nat.le_refl _
    case q9 => obtain rfl := List.mem_singleton.mp hp; k_mem
    case m1 => k_mem
    case m2 => k_mem
    case m3 => k_mem
    case m4 => k_mem
    case m5 => k_mem
    case m6 => k_keys
    case m7 => k_get
    case l1 => first | assumption | omega
    case l2 => exact Nat.le_trans hL (Nat.le_of_lt (nwo _ (.head _)))
    case l3 => exact Nat.le_trans hL (Nat.le_of_lt (nwo _ (.tail _ (.head _))))
    case l4 => first | assumption | omega
    case l5 => first | assumption | omega
    all_goals exact absurd rfl (by assumption)
  case bad =>
    clear X9 T9 F9 N9 S9
    intro nm tkf g9 h9 tks9 tp hB F9 N9 ltp lc8 S9
    have X9 := G.X.keeps S9.st
    have T9 := G.T.keeps S9.st
    walk_at "my go"
    refine .of ?_
    walk_at "my go"
    (rename Fr _ _ _ _ => F7); (rename News _ _ _ _ => N7)
    refine' hR _ _ (k + 1) u0 u1 lb mds ?q1 ?q2 hu0 hu1 hu2 ?q6 ?q7 ?q8 (S9.fin F7 N7 fun p hp => ?q9) fun v hv => ?q10
    case q1 => first | assumption | omega
    case q2 => first | assumption | omega
    case q6 => first | assumption | omega
    case q7 => first | assumption | omega
    case q8 => first | assumption | omega
    case q9 => obtain rfl := List.mem_singleton.mp hp; k_mem
    case q10 => exact (hM v hv).mono fun a o e l => F7.keep _ _ (S9.kp a o e fun z => absurd (O.low z) (Nat.not_lt_of_le l))
end K_dict_s
end
theorem dict_s {w : World} {V : SV} {R : Result → Shared → Prop} {s : Shared} {b : Heap} {loose : List Str} {mean : ExcName → Option Value} {mg mb : Str → Option Value} {k u0 u1 lb : Int} {gl : Bool} {mds : Array Value} : K_dict_s.KP w V R s b loose mean mg mb k u0 u1 lb gl mds :=
  @Classical.choose_spec _ _ K_dict_s.Kex (by with_unfolding_all exact @K_dict_s.at0) ((w, V, R, s, b, loose), (mean, mg, mb, k, u0, u1), (lb, gl, mds))
section
end

noncomputable section
namespace K_room_s
def KP (w : World) (V : SV) (R : Result → Shared → Prop) (s : Shared) (b : Heap) (loose : List Str) (mean : ExcName → Option Value) (mg mb : Str → Option Value) (k u0 u1 lb : Int) (gl : Bool) (mds : Array Value) : Prop := ∀ {A : Around} (G : Gd w loose mean mg mb b) (O : VOK w V b) (hA : A = { depth := 310, units := 1000, frames := some [V.env1], handled := none, guards := none }) (S : St w V b s.heap s.heap [] k u0 u1 lb u0 u1 lb gl mds) (hsz : V.lm0 ≤ s.heap.objs.size) (hk0 : 0 ≤ k) (hk1 : k < 900) (hu0 : 0 ≤ u0) (hu1 : 0 ≤ u1) (hu2 : u0 + u1 ≤ V.vm) (hl1 : lb ≤ 700) (hmz : mds.size ≤ 100) (hM : ∀ v ∈ mds, MadeOK w V.lm0 s.heap v) (hR : ∀ h' tks k' u0' u1' lb' mds', k ≤ k' → k' ≤ k + 20 → 0 ≤ u0' → 0 ≤ u1' → u0' + u1' ≤ V.vm → lb ≤ lb' → lb' ≤ lb + 1 → mds'.size ≤ mds.size + 1 → St w V b s.heap h' [] k' u0' u1' lb' u0' u1' lb' gl mds' → (∀ v ∈ mds', MadeOK w V.lm0 h' v) → R (.ok (.ret (.bool true))) ⟨h', s.gens, s.drawn, tks, s.os⟩), codeC (model PG w) A (.call (.ref 430) ⟨[.ref V.dk, .ref V.wx, .ref V.mk], []⟩) R s
def KT (x : (World × SV × (Result → Shared → Prop) × Shared × Heap × List Str) × ((ExcName → Option Value) × (Str → Option Value) × (Str → Option Value) × Int × Int × Int) × (Int × Bool × Array Value)) : Prop := KP x.1.1 x.1.2.1 x.1.2.2.1 x.1.2.2.2.1 x.1.2.2.2.2.1 x.1.2.2.2.2.2 x.2.1.1 x.2.1.2.1 x.2.1.2.2.1 x.2.1.2.2.2.1 x.2.1.2.2.2.2.1 x.2.1.2.2.2.2.2 x.2.2.1 x.2.2.2.1 x.2.2.2.2
theorem Kex : ∃ x, KT x → ∀ y, KT y := drink ((anyW, anyV, (fun _ _ => True), {}, default, default), (default, default, default, default, default, default), (default, default, default)) _
@[irreducible] def Kx0 := Classical.choose Kex
@[irreducible] def w := Kx0.1.1
@[irreducible] def V := Kx0.1.2.1
@[irreducible] def R := Kx0.1.2.2.1
@[irreducible] def s := Kx0.1.2.2.2.1
@[irreducible] def b := Kx0.1.2.2.2.2.1
@[irreducible] def loose := Kx0.1.2.2.2.2.2
@[irreducible] def mean := Kx0.2.1.1
@[irreducible] def mg := Kx0.2.1.2.1
@[irreducible] def mb := Kx0.2.1.2.2.1
@[irreducible] def k := Kx0.2.1.2.2.2.1
@[irreducible] def u0 := Kx0.2.1.2.2.2.2.1
@[irreducible] def u1 := Kx0.2.1.2.2.2.2.2
@[irreducible] def lb := Kx0.2.2.1
@[irreducible] def gl := Kx0.2.2.2.1
@[irreducible] def mds := Kx0.2.2.2.2
set_option maxRecDepth 100000
set_option maxHeartbeats 4000000
theorem kwN3n31 : True := by
  k_with "my code" => exact Gd.c1 (by assumption)
  k_with "my idx" => exact (rfl : Nat.blt 4 5 = true)
  k_with "my tabm" => exact List.Mem.tail _ (List.Mem.tail _ (List.Mem.tail _ (List.Mem.tail _ (List.Mem.head _))))
  k_with "my gork" => ((try k_fold); repeat' ((fail_if_success (with_reducible show wpAny _ _ (call (Value.ref 317) _) _ _ _)); (fail_if_success (with_reducible show wpAny _ _ (call (Value.ref 310) _) _ _ _)); first | (k_unfold; (try dsimp only)) | (walk1; (try dsimp only)) | (dsimp only; walk1)))
  exact trivial
@[irreducible] def g9 : Heap := hideAll s.heap (([] : List (Addr × Obj)).map (·.1))
@[irreducible] def L' : Addr := s.heap.objs.size
theorem KgE  : g9 = hideAll s.heap (([] : List (Addr × Obj)).map (·.1)) := by with_unfolding_all rfl
theorem KlE : L' = s.heap.objs.size := by with_unfolding_all rfl
theorem at0 : KP w V R s b loose mean mg mb k u0 u1 lb gl mds := by
  intro A G O hA S hsz hk0 hk1 hu0 hu1 hu2 hl1 hmz hM hR
  subst hA
  have Xs := G.X.keeps S.st
  refine' enterXC' KgE KlE (led := []) (binds := [(Str.ofString "deck", .ref V.dk), (Str.ofString "w", .ref V.wx), (Str.ofString "maker", .ref V.mk)]) S.st G (fun _ hp => (nomatch hp)) ?k6 ?k7 ?k8 ?k9 ?kB ?kD ?_ ?c2 ?c3 ?c4
  case k6 => k_dflt k_is
  case k7 => k_dflt k_is
  case k8 => k_room
  case k9 => first | exact BindsTo.of_eq rfl | exact binds_K (by assumption) rfl (by k_is) rfl rfl rfl
  case kB => exact rfl
  case kD => decide +kernel
  case c2 => exact rfl
  case c3 => exact rfl
  case c4 => exact rfl
  intro h' tk cells Z F9 N9 Y'
  k_cells Y'
  (try dsimp only [List.cons_append, List.nil_append] at N9)
  have S9 : St w V b s.heap g9 [] k u0 u1 lb u0 u1 lb gl mds := S.mono (fun a o e => Z.kp a o e fun q => (nomatch q)) fun _ hp => (nomatch hp)
  have hL : V.lm0 ≤ L' := by rw [← Z.sz]; exact hsz
  have X9 := G.X.keeps S9.st
  have T9 := G.T.keeps S9.st
  have cH := G.c1
  have vm0 := O.vm0
  have vm1 := O.vm1
  have hb9 : 0 < V.vm + 5 ∧ V.vm + 5 < 200 := by omega
  have hc1 : @LT.lt Nat _ L' (L' + 1) := Nat.lt_succ_self _
  have hc2 : @LT.lt Nat _ L' (L' + 1 + 1) := Nat.lt_succ_of_lt hc1
  clear Z Xs S
  refine wpC_execs_cons (.of ?_)
  walk_at "my go"
  rename Int => rc
  (try k_unfold); (try dsimp only)
  refine wpC_execs_cons (.of ?_)
  walk_at "my goif"
  (rename Fr _ _ _ _ => F2); (rename News _ _ _ _ => N2)
  refine cutF (FaultV (V.vm < u0 + u1 + rc) "VMerror") F2 N2 ?one ?two
  case one =>
    walk_at "my goand"
    all_goals (rename Fr _ _ _ _ => F7); (rename News _ _ _ _ => N7)
    · exact ⟨.inl ⟨by omega, _, rfl⟩, _, _, rfl, F7, N7⟩
    · exact ⟨.inr ⟨by omega, rfl⟩, _, _, rfl, F7, N7⟩
  case two =>
    intro fv h9 tk9 hv9 F9 N9
    clear F2 N2
    walk_at "my go"
    (try k_unfold); (try dsimp only)
    refine wpC_execs_cons (wpC_If (.of ?_))
    walk_at "my go"
    · refine wpC_execs_cons (wpC_Return (wpC_Compare1 (wpC_CallName ?_)))
      walk_at "my go"
      (try k_unfold); (try dsimp only)
      refine wpC_callK (K := hd.heap_1 w.params) (by k_is) ?_
      walk_at "my go"
      refine' outcome_s (Ok := ChkOk w V gl u0 u1 lb rc) (Bad := RoomB rc V.vm u0 u1) F9 N9 G O S9 ?fr ?hh ?a3 ?a4 ?f2 ?k2 ?hf ?hfd ?hC ?hdeed ?ok ?bad
      case fr => exact rfl
      case hh => exact rfl
      case a3 => exact Nat.le_of_ble_eq_true rfl
      case a4 => exact Nat.le_of_ble_eq_true rfl
      case f2 => exact rfl
      case k2 => intro q; cases q
      case hf => k_mem
      case hfd => exact rfl
      case hC =>
        intro v chg nw z
        cases z; first | assumption | exact .none
      case hdeed =>
        intro h₁ tks env kp ff nf₁ st₁ S₁
        obtain ⟨ma0, ma1, ma2, em⟩ := S₁.mx
        have D : Led b h₁ [(L' + 1 + 1, _), (L' + 1, _), (V.mk, _), (V.mx, _)] := List.forall_mem_cons.mpr ⟨⟨kp _ _ (N9.get (by k_mem)), nb_new N9 S9.st (by k_mem)⟩, List.forall_mem_cons.mpr ⟨⟨kp _ _ (N9.get (by k_mem)), nb_new N9 S9.st (by k_mem)⟩, List.forall_mem_cons.mpr ⟨⟨S₁.mk, O.nbd (i := 14) rfl⟩, List.forall_mem_cons.mpr ⟨⟨em, O.nbd (i := 10) rfl⟩, List.forall_mem_nil _⟩⟩⟩⟩
        refine' enterL (binds := []) st₁ G D (kp _ _ (N9.get ?mf)) ?cr ?room ?hb ?hloc ?_ ?c2 ?c3 ?c4 ?c5
        case mf => k_mem
        case cr => exact codeRec_keeps cr9 kp
        case room => k_room
        case hb => exact rfl
        case hloc => exact fun _ hp => (nomatch hp)
        case c2 => exact rfl
        case c3 => exact rfl
        case c4 => exact rfl
        case c5 => decide
        have nf₂ := nf_s F9 S9 O ff rfl nf₁
        intro g₁ L₁ h₂ Z₁ F₁ N₁
        have X₁ := G.X.keeps Z₁.st
        have T₁ := G.T.keeps Z₁.st
        clear F9 N9 X9 T9 S9 nf₁
        refine .of ?_
        walk_at "my gork"
        (rename Fr _ _ _ _ => F₂); (rename News _ _ _ _ => N₂)
        have kp₂ := keep_all F₂ N₂ Z₁ (fun _ hp => hp)
        refine' lam_endA (dd := 900) (uu := 5000) ?xf ?xn ?xz ?xm ?xa ?xb ?h ?xc ?hd ?hu
        case xf => exact F₂
        case xn => exact N₂
        case xz => exact Z₁
        case xm => first | exact fun _ hp => hp | exact fun _ hp => .tail _ hp
        case xa => exact rfl
        case xb => exact rfl
        case h => exact chk_m G O (S₁.mono kp₂ fun _ hp => .inr hp) (below_lam F₂ Z₁ kp₂ st₁ ff rfl rfl (fun q => nomatch q)) rfl (nf_x nf₂ S₁ rfl Z₁.new)
        case xc => exact rfl
        case hd => exact Nat.le_of_ble_eq_true rfl
        case hu => exact Nat.le_of_ble_eq_true rfl
      case ok =>
        clear X9 T9 F9 N9 S9
        intro v chg nw g9 h9 tks9 tp hok F9 N9 lt9 lw9 ltp lc8 S9
        cases hok with
        | mk hq =>
        rcases hv9 with ⟨hc9, _, _⟩ | ⟨hc9, rfl⟩
        case inl => exfalso; omega
        clear lt9 lw9
        dsimp only [List.cons_append, List.nil_append] at N9
        have X9 := G.X.keeps S9.st
        have T9 := G.T.keeps S9.st
        walk_at "my gocmp"
        (rename News _ _ _ _ => N4)
        refine' eq_pair N4 ?m1 ?m2 ?ut (.same _) (.same _) ?_
        case m1 => k_mem
        case m2 => k_mem
        case ut => exact Nat.le_of_ble_eq_true rfl
        walk_at "my go"
        (rename Fr _ _ _ _ => F7); (rename News _ _ _ _ => N7)
        refine' hR _ _ (k + 1 + 1) u0 u1 (lb) (mds) ?q1 ?q2 ?q3 ?q4 ?q5 ?q6 ?q7 ?q8 (S9.fin F7 N7 fun p hp => ?q9) (fun v hv => (hM v hv).mono (kp_low O S9 F7))
        case q1 => first | assumption | omega
        case q2 => first | assumption | omega
        case q3 => first | assumption | (split <;> omega)
        case q4 => first | assumption | (split <;> omega)
        case q5 => first | assumption | (split <;> omega)
        case q6 => first | assumption | omega
        case q7 => first | assumption | omega
        case q8 => first | omega | (rw [Array.size_push]; exact Nat.le_refl _)
        case q9 => obtain rfl := List.mem_singleton.mp hp; k_mem
      case bad =>
        clear X9 T9 F9 N9 S9
        intro nm tkf g9 h9 tks9 tp hB F9 N9 ltp lc8 S9
        obtain ⟨rfl, hB⟩ := hB
        rcases hv9 with ⟨hc9, tv9, rfl⟩ | ⟨hc9, _⟩
        case inr => exfalso; omega
        have X9 := G.X.keeps S9.st
        have T9 := G.T.keeps S9.st
        walk_at "my gocmp"
        (rename News _ _ _ _ => N4)
        refine' eq_bad N4 ?m1 ?m2 ?ut ?_
        case m1 => k_mem
        case m2 => k_mem
        case ut => exact Nat.le_of_ble_eq_true rfl
        walk_at "my go"
        (rename Fr _ _ _ _ => F7); (rename News _ _ _ _ => N7)
        refine' hR _ _ (k + 1 + 1) u0 u1 (lb) (mds) ?q1 ?q2 ?q3 ?q4 ?q5 ?q6 ?q7 ?q8 (S9.fin F7 N7 fun p hp => ?q9) (fun v hv => (hM v hv).mono (kp_low O S9 F7))
        case q1 => first | assumption | omega
        case q2 => first | assumption | omega
        case q3 => first | assumption | (split <;> omega)
        case q4 => first | assumption | (split <;> omega)
        case q5 => first | assumption | (split <;> omega)
        case q6 => first | assumption | omega
        case q7 => first | assumption | omega
        case q8 => first | omega | (rw [Array.size_push]; exact Nat.le_refl _)
        case q9 => obtain rfl := List.mem_singleton.mp hp; k_mem
    · refine wpC_execs_nil ?_
      dsimp only
      refine wpC_execs_cons (wpC_Assign_Name (wpC_CallName ?_))
      walk_at "my go"
      (try k_unfold); (try dsimp only)
      refine wpC_callK (K := hd.heap_1 w.params) (by k_is) ?_
      walk_at "my go"
      refine' outcome_s (Ok := TakOk w V gl u0 u1 lb rc) (Bad := RoomB rc V.vm u0 u1) F9 N9 G O S9 ?fr ?hh ?a3 ?a4 ?f2 ?k2 ?hf ?hfd ?hC ?hdeed ?ok ?bad
      case fr => exact rfl
      case hh => exact rfl
      case a3 => exact Nat.le_of_ble_eq_true rfl
      case a4 => exact Nat.le_of_ble_eq_true rfl
      case f2 => exact rfl
      case k2 => intro q; cases q
      case hf => k_mem
      case hfd => exact rfl
      case hC =>
        intro v chg nw z
        cases z; first | assumption | exact .none
      case hdeed =>
        intro h₁ tks env kp ff nf₁ st₁ S₁
        obtain ⟨ma0, ma1, ma2, em⟩ := S₁.mx
        have D : Led b h₁ [(L' + 1 + 1, _), (L' + 1, _), (V.mk, _), (V.mx, _)] := List.forall_mem_cons.mpr ⟨⟨kp _ _ (N9.get (by k_mem)), nb_new N9 S9.st (by k_mem)⟩, List.forall_mem_cons.mpr ⟨⟨kp _ _ (N9.get (by k_mem)), nb_new N9 S9.st (by k_mem)⟩, List.forall_mem_cons.mpr ⟨⟨S₁.mk, O.nbd (i := 14) rfl⟩, List.forall_mem_cons.mpr ⟨⟨em, O.nbd (i := 10) rfl⟩, List.forall_mem_nil _⟩⟩⟩⟩
        refine' enterL (binds := []) st₁ G D (kp _ _ (N9.get ?mf)) ?cr ?room ?hb ?hloc ?_ ?c2 ?c3 ?c4 ?c5
        case mf => k_mem
        case cr => exact codeRec_keeps cr9 kp
        case room => k_room
        case hb => exact rfl
        case hloc => exact fun _ hp => (nomatch hp)
        case c2 => exact rfl
        case c3 => exact rfl
        case c4 => exact rfl
        case c5 => decide
        have nf₂ := nf_s F9 S9 O ff rfl nf₁
        intro g₁ L₁ h₂ Z₁ F₁ N₁
        have X₁ := G.X.keeps Z₁.st
        have T₁ := G.T.keeps Z₁.st
        clear F9 N9 X9 T9 S9 nf₁
        refine .of ?_
        walk_at "my gork"
        (rename Fr _ _ _ _ => F₂); (rename News _ _ _ _ => N₂)
        have kp₂ := keep_all F₂ N₂ Z₁ (fun _ hp => hp)
        refine' lam_endA (dd := 880) (uu := 4900) ?xf ?xn ?xz ?xm ?xa ?xb ?h ?xc ?hd ?hu
        case xf => exact F₂
        case xn => exact N₂
        case xz => exact Z₁
        case xm => first | exact fun _ hp => hp | exact fun _ hp => .tail _ hp
        case xa => exact rfl
        case xb => exact rfl
        case h => exact tak_m G O (S₁.mono kp₂ fun _ hp => .inr hp) (below_lam F₂ Z₁ kp₂ st₁ ff rfl rfl (fun q => nomatch q)) rfl (nf_x nf₂ S₁ rfl Z₁.new) (by omega)
        case xc => exact rfl
        case hd => exact Nat.le_of_ble_eq_true rfl
        case hu => exact Nat.le_of_ble_eq_true rfl
      case ok =>
        clear X9 T9 F9 N9 S9
        intro v chg nw g9 h9 tks9 tp hok F9 N9 lt9 lw9 ltp lc8 S9
        cases hok with
        | mk hq _ =>
        rcases hv9 with ⟨hc9, _, _⟩ | ⟨hc9, rfl⟩
        case inl => exfalso; omega
        clear lt9 lw9
        dsimp only [List.cons_append, List.nil_append] at N9
        have X9 := G.X.keeps S9.st
        have T9 := G.T.keeps S9.st
        walk_at "my go"
        refine .of ?_
        walk_at "my gocmp"
        (rename News _ _ _ _ => N4)
        refine' eq_pair N4 ?m1 ?m2 ?ut (.same _) (eqAt_int _ _ _) ?_
        case m1 => k_mem
        case m2 => k_mem
        case ut => exact Nat.le_of_ble_eq_true rfl
        walk_at "my go"
        (rename Fr _ _ _ _ => F7); (rename News _ _ _ _ => N7)
        refine' hR _ _ (k + 1 + 1) _ _ (lb + 1) (mds) ?q1 ?q2 ?q3 ?q4 ?q5 ?q6 ?q7 ?q8 (S9.fin F7 N7 fun p hp => ?q9) (fun v hv => (hM v hv).mono (kp_low O S9 F7))
        case q1 => first | assumption | omega
        case q2 => first | assumption | omega
        case q3 => first | assumption | (split <;> omega)
        case q4 => first | assumption | (split <;> omega)
        case q5 => first | assumption | (split <;> omega)
        case q6 => first | assumption | omega
        case q7 => first | assumption | omega
        case q8 => first | omega | (rw [Array.size_push]; exact Nat.le_refl _)
        case q9 => obtain rfl := List.mem_singleton.mp hp; k_mem
      case bad =>
        clear X9 T9 F9 N9 S9
        intro nm tkf g9 h9 tks9 tp hB F9 N9 ltp lc8 S9
        obtain ⟨rfl, hB⟩ := hB
        rcases hv9 with ⟨hc9, tv9, rfl⟩ | ⟨hc9, _⟩
        case inr => exfalso; omega
        have X9 := G.X.keeps S9.st
        have T9 := G.T.keeps S9.st
        walk_at "my go"
        refine .of ?_
        walk_at "my gocmp"
        (rename News _ _ _ _ => N4)
        refine' eq_bad N4 ?m1 ?m2 ?ut ?_
        case m1 => k_mem
        case m2 => k_mem
        case ut => exact Nat.le_of_ble_eq_true rfl
        walk_at "my go"
        (rename Fr _ _ _ _ => F7); (rename News _ _ _ _ => N7)
        refine' hR _ _ (k + 1 + 1) u0 u1 (lb) (mds) ?q1 ?q2 ?q3 ?q4 ?q5 ?q6 ?q7 ?q8 (S9.fin F7 N7 fun p hp => ?q9) (fun v hv => (hM v hv).mono (kp_low O S9 F7))
        case q1 => first | assumption | omega
        case q2 => first | assumption | omega
        case q3 => first | assumption | (split <;> omega)
        case q4 => first | assumption | (split <;> omega)
        case q5 => first | assumption | (split <;> omega)
        case q6 => first | assumption | omega
        case q7 => first | assumption | omega
        case q8 => first | omega | (rw [Array.size_push]; exact Nat.le_refl _)
        case q9 => obtain rfl := List.mem_singleton.mp hp; k_mem
end K_room_s
end
theorem room_s {w : World} {V : SV} {R : Result → Shared → Prop} {s : Shared} {b : Heap} {loose : List Str} {mean : ExcName → Option Value} {mg mb : Str → Option Value} {k u0 u1 lb : Int} {gl : Bool} {mds : Array Value} : K_room_s.KP w V R s b loose mean mg mb k u0 u1 lb gl mds :=
  @Classical.choose_spec _ _ K_room_s.Kex (by with_unfolding_all exact @K_room_s.at0) ((w, V, R, s, b, loose), (mean, mg, mb, k, u0, u1), (lb, gl, mds))
section
end

noncomputable section
namespace K_text_s
def KP (w : World) (V : SV) (R : Result → Shared → Prop) (s : Shared) (b : Heap) (loose : List Str) (mean : ExcName → Option Value) (mg mb : Str → Option Value) (k u0 u1 lb : Int) (gl : Bool) (mds : Array Value) : Prop := ∀ {A : Around} (G : Gd w loose mean mg mb b) (O : VOK w V b) (hA : A = { depth := 310, units := 1000, frames := some [V.env1], handled := none, guards := none }) (S : St w V b s.heap s.heap [] k u0 u1 lb u0 u1 lb gl mds) (hsz : V.lm0 ≤ s.heap.objs.size) (hk0 : 0 ≤ k) (hk1 : k < 900) (hu0 : 0 ≤ u0) (hu1 : 0 ≤ u1) (hu2 : u0 + u1 ≤ V.vm) (hl1 : lb ≤ 700) (hmz : mds.size ≤ 100) (hM : ∀ v ∈ mds, MadeOK w V.lm0 s.heap v) (hR : ∀ h' tks k' u0' u1' lb' mds', k ≤ k' → k' ≤ k + 20 → 0 ≤ u0' → 0 ≤ u1' → u0' + u1' ≤ V.vm → lb ≤ lb' → lb' ≤ lb + 1 → mds'.size ≤ mds.size + 1 → St w V b s.heap h' [] k' u0' u1' lb' u0' u1' lb' gl mds' → (∀ v ∈ mds', MadeOK w V.lm0 h' v) → R (.ok (.ret (.bool true))) ⟨h', s.gens, s.drawn, tks, s.os⟩), codeC (model PG w) A (.call (.ref 406) ⟨[.ref V.dk, .ref V.wx, .ref V.mk], []⟩) R s
def KT (x : (World × SV × (Result → Shared → Prop) × Shared × Heap × List Str) × ((ExcName → Option Value) × (Str → Option Value) × (Str → Option Value) × Int × Int × Int) × (Int × Bool × Array Value)) : Prop := KP x.1.1 x.1.2.1 x.1.2.2.1 x.1.2.2.2.1 x.1.2.2.2.2.1 x.1.2.2.2.2.2 x.2.1.1 x.2.1.2.1 x.2.1.2.2.1 x.2.1.2.2.2.1 x.2.1.2.2.2.2.1 x.2.1.2.2.2.2.2 x.2.2.1 x.2.2.2.1 x.2.2.2.2
theorem Kex : ∃ x, KT x → ∀ y, KT y := drink ((anyW, anyV, (fun _ _ => True), {}, default, default), (default, default, default, default, default, default), (default, default, default)) _
@[irreducible] def Kx0 := Classical.choose Kex
@[irreducible] def w := Kx0.1.1
@[irreducible] def V := Kx0.1.2.1
@[irreducible] def R := Kx0.1.2.2.1
@[irreducible] def s := Kx0.1.2.2.2.1
@[irreducible] def b := Kx0.1.2.2.2.2.1
@[irreducible] def loose := Kx0.1.2.2.2.2.2
@[irreducible] def mean := Kx0.2.1.1
@[irreducible] def mg := Kx0.2.1.2.1
@[irreducible] def mb := Kx0.2.1.2.2.1
@[irreducible] def k := Kx0.2.1.2.2.2.1
@[irreducible] def u0 := Kx0.2.1.2.2.2.2.1
@[irreducible] def u1 := Kx0.2.1.2.2.2.2.2
@[irreducible] def lb := Kx0.2.2.1
@[irreducible] def gl := Kx0.2.2.2.1
@[irreducible] def mds := Kx0.2.2.2.2
set_option maxRecDepth 100000
set_option maxHeartbeats 4000000
theorem kwN4n41 : True := by
  k_with "my code" => exact Gd.c5 (by assumption)
  k_with "my idx" => exact (rfl : Nat.blt 0 5 = true)
  k_with "my tabm" => exact List.Mem.head _
  k_with "subscriptTail" => (k_here; (with_reducible show wpAny _ _ (subscriptTail _ (Expr.Slice _ _ none _) (Value.bytes _ _) (Value.ref _)) _ _ _); (with_reducible rename Fr _ _ _ _ => sF'); (with_reducible rename News _ _ _ _ => sN'); k_dflt (refine' slice16 (s := ⟨_, _, _, _, _⟩) sF' sN' ?h0x8f3 ?h1x8f3 ?_; (case h0x8f3 => omega); (case h1x8f3 => omega)); intro y9 h' t' k' ys9 F' N'; (try k_sweep))
  k_with "call ref" => (k_here; (with_reducible show wpAny _ _ (call (Value.ref 202) _) _ _ _); k_dflt (refine' ofstr_w ?Fx782 ?Nx782 ?Gx782 ?stx782 ?a0x782 ?a3x782 ?a4x782 ?hmx782 ?hzx782 ?_; (case Fx782 => k_asm); (case Nx782 => k_asm); (case Gx782 => assumption); (case stx782 => walk_at "my st"); (case a0x782 => exact rfl); (case a3x782 => exact Nat.le_of_ble_eq_true rfl); (case a4x782 => exact Nat.le_of_ble_eq_true rfl); (case hmx782 => walk_at "my sub"); (case hzx782 => first | assumption | omega); k_whole); intro th9 dth9 sp9 ds9 h' tks' tkk' tkz' tky' j0' j1' j2' j3' jn' i0' i1' i2' in' lt1' lt2' lt3' af' nw'; walk_at "my n0")
  k_with "call ref" => (k_here; (with_reducible show wpAny _ _ (call (Value.ref 245) _) _ _ _); k_dflt (refine' octspan_w ?Fxa71 ?Nxa71 ?Gxa71 ?stxa71 ?a0xa71 ?a3xa71 ?a4xa71 ?hmxa71 ?hzxa71 ?_; (case Fxa71 => k_asm); (case Nxa71 => k_asm); (case Gxa71 => assumption); (case stxa71 => walk_at "my st"); (case a0xa71 => exact rfl); (case a3xa71 => exact Nat.le_of_ble_eq_true rfl); (case a4xa71 => exact Nat.le_of_ble_eq_true rfl); (case hmxa71 => walk_at "my sub"); (case hzxa71 => first | assumption | omega); k_whole); intro h' tks' tk' af'; walk_at "my same")
  k_with "subscriptTail" => (k_here; (with_reducible show wpAny _ _ (subscriptTail _ _ (Value.ref (SV.md _)) (Value.int (-1) _)) _ _ _); k_dflt (refine' md_last ?Fxcb8 ?Sxcb8 ?qzxcb8 ?_; (case Fxcb8 => k_asm); (case Sxcb8 => assumption); (case qzxcb8 => omega); k_whole))
  k_with "call type:bytes" => (k_here; (with_reducible show wpAny _ _ (call (Value.type "bytes") [Value.bytes _ _]) _ _ _); k_dflt (refine' call_bytes_b ?_; k_whole))
  exact trivial
@[irreducible] def g9 : Heap := hideAll s.heap (([] : List (Addr × Obj)).map (·.1))
@[irreducible] def L' : Addr := s.heap.objs.size
theorem KgE  : g9 = hideAll s.heap (([] : List (Addr × Obj)).map (·.1)) := by with_unfolding_all rfl
theorem KlE : L' = s.heap.objs.size := by with_unfolding_all rfl
theorem at0 : KP w V R s b loose mean mg mb k u0 u1 lb gl mds := by
  intro A G O hA S hsz hk0 hk1 hu0 hu1 hu2 hl1 hmz hM hR
  subst hA
  have Xs := G.X.keeps S.st
  refine' enterXC' KgE KlE (led := []) (binds := [(Str.ofString "deck", .ref V.dk), (Str.ofString "w", .ref V.wx), (Str.ofString "maker", .ref V.mk)]) S.st G (fun _ hp => (nomatch hp)) ?k6 ?k7 ?k8 ?k9 ?kB ?kD ?_ ?c2 ?c3 ?c4
  case k6 => k_dflt k_is
  case k7 => k_dflt k_is
  case k8 => k_room
  case k9 => first | exact BindsTo.of_eq rfl | exact binds_K (by assumption) rfl (by k_is) rfl rfl rfl
  case kB => exact rfl
  case kD => decide +kernel
  case c2 => exact rfl
  case c3 => exact rfl
  case c4 => exact rfl
  intro h' tk cells Z F9 N9 Y'
  k_cells Y'
  (try dsimp only [List.cons_append, List.nil_append] at N9)
  have S9 : St w V b s.heap g9 [] k u0 u1 lb u0 u1 lb gl mds := S.mono (fun a o e => Z.kp a o e fun q => (nomatch q)) fun _ hp => (nomatch hp)
  have hL : V.lm0 ≤ L' := by rw [← Z.sz]; exact hsz
  have X9 := G.X.keeps S9.st
  have T9 := G.T.keeps S9.st
  have cH := G.c5
  have tx0 := O.tx0
  have tx1 := O.tx1
  have hc3 : @LT.lt Nat _ L' (L' + 1 + 1 + 1) := by omega
  have hc1 : @LT.lt Nat _ L' (L' + 1) := Nat.lt_succ_self _
  have hc2 : @LT.lt Nat _ L' (L' + 1 + 1) := Nat.lt_succ_of_lt hc1
  clear Z Xs S
  obtain ⟨M, hM9⟩ := fr_told F9 (Str.ofString "told")
  refine wpC_execs_cons ?_
  refine wpC_mono (Q := TextMid w V b s.heap gl k u0 u1 lb mds s L' M) ?first (fun fl s' h => ?second) (fun _ _ e => e)
  case first =>
    refine wpC_If (.of ?_)
    walk_at "my go"
    · refine wpC_execs_cons (.of ?_)
      walk_at "my go"
      rename Int => rc
      (try k_unfold); (try dsimp only)
      refine wpC_execs_cons (wpC_Assign_Tuple (wpC_Tuple2 (by rfl) ?_))
      walk_at "my go"
      (try k_unfold); (try dsimp only)
      refine wpC_CallName ?_
      walk_at "my go"
      (try k_unfold); (try dsimp only)
      refine wpC_callK (K := hd.heap_1 w.params) (by k_is) ?_
      walk_at "my go"
      have hmx : (if rc - 2 > 0 then rc - 2 else 0).toNat = (rc - 2).toNat := by split <;> omega
      rw [hmx]
      refine' outcome_s (Ok := TxtOk w V gl u0 u1 lb (rc - 2) (Array.replicate (rc - 2).toNat 0)) (Bad := ManyF (rc - 2) V.tx 1 V.vm u0 u1) F9 N9 G O S9 ?fr ?hh ?a3 ?a4 ?f2 ?k2 ?hf ?hfd ?hC ?hdeed ?ok ?bad
      case fr => exact rfl
      case hh => exact rfl
      case a3 => exact Nat.le_of_ble_eq_true rfl
      case a4 => exact Nat.le_of_ble_eq_true rfl
      case f2 => exact rfl
      case k2 => intro q; cases q
      case hf => k_mem
      case hfd => exact rfl
      case hC =>
        intro v chg nw z
        cases z; first | assumption | exact .none
      case hdeed =>
        intro h₁ tks env kp ff nf₁ st₁ S₁
        obtain ⟨ma0, ma1, ma2, em⟩ := S₁.mx
        have D : Led b h₁ [(L' + 1 + 1, _), (L' + 1, _), (V.mk, _), (V.mx, _)] := List.forall_mem_cons.mpr ⟨⟨kp _ _ (N9.get (by k_mem)), nb_new N9 S9.st (by k_mem)⟩, List.forall_mem_cons.mpr ⟨⟨kp _ _ (N9.get (by k_mem)), nb_new N9 S9.st (by k_mem)⟩, List.forall_mem_cons.mpr ⟨⟨S₁.mk, O.nbd (i := 14) rfl⟩, List.forall_mem_cons.mpr ⟨⟨em, O.nbd (i := 10) rfl⟩, List.forall_mem_nil _⟩⟩⟩⟩
        refine' enterL (binds := []) st₁ G D (kp _ _ (N9.get ?mf)) ?cr ?room ?hb ?hloc ?_ ?c2 ?c3 ?c4 ?c5
        case mf => k_mem
        case cr => exact codeRec_keeps cr9 kp
        case room => k_room
        case hb => exact rfl
        case hloc => exact fun _ hp => (nomatch hp)
        case c2 => exact rfl
        case c3 => exact rfl
        case c4 => exact rfl
        case c5 => decide
        have nf₂ := nf_s F9 S9 O ff rfl nf₁
        intro g₁ L₁ h₂ Z₁ F₁ N₁
        have X₁ := G.X.keeps Z₁.st
        have T₁ := G.T.keeps Z₁.st
        clear F9 N9 X9 T9 S9 nf₁
        refine wpC_CallMethod ?_
        walk_at "my go"
        (try k_unfold); (try dsimp only)
        refine wpC_callK (K := hd.heap_1 w.params) (by k_is) ?_
        walk_at "my go"
        (rename Fr _ _ _ _ => F₂); (rename News _ _ _ _ => N₂)
        have kp₂ := keep_all F₂ N₂ Z₁ (fun _ hp => hp)
        refine' lam_end (dd := 600) (uu := 2500) ?xf ?xn ?xz ?xm ?xa ?xb ?h ?xc ?hd ?hu
        case xf => exact F₂
        case xn => exact N₂
        case xz => exact Z₁
        case xm => first | exact fun _ hp => hp | exact fun _ hp => .tail _ hp
        case xa => exact rfl
        case xb => exact rfl
        case h => exact text_m G O (S₁.mono kp₂ fun _ hp => .inr hp) (below_lam F₂ Z₁ kp₂ st₁ ff rfl rfl (fun q => nomatch q)) rfl (nf_x nf₂ S₁ rfl Z₁.new) (by omega)
        case xc => exact rfl
        case hd => exact Nat.le_of_ble_eq_true rfl
        case hu => exact Nat.le_of_ble_eq_true rfl
      case ok =>
        clear X9 T9 F9 N9 S9
        intro v chg nw g9 h9 tks9 tp hok F9 N9 lt9 lw9 ltp lc8 S9
        cases hok with
        | @mk x dx ba pn tn tl p0 p1 p2 p3 chg hq0 hq1 hq2 z1 z2 z3 _ =>
        have lxt : @LT.lt Nat _ x tp := lt9 _ (.head _)
        have ldx : @LT.lt Nat _ L' dx := lw9 _ (.tail _ (.head _))
        clear lt9 lw9
        dsimp only [List.cons_append, List.nil_append] at N9
        have qc1 := lqc9 (L' + 1 + 1 + 1, _) (by k_mem)
        have qc2 := lqf9 (L' + 1 + 1 + 1, _) (by k_mem)
        have qc3 := lc8 (L' + 1 + 1 + 1, _) (by k_mem)
        simp only [List.forall_mem_cons] at qc3
        obtain ⟨qc4, qc5, qc6, qc7, _⟩ := qc3
        have X9 := G.X.keeps S9.st
        have T9 := G.T.keeps S9.st
        walk_at "my go"
        (try k_unfold)
        refine wpC_execs_nil ?_
        (rename Fr _ _ _ _ => F7); (rename News _ _ _ _ => N7)
        refine' TextMid.ok (many := rc - 2) (y := Array.replicate (rc - 2).toNat 0) (k' := k + 1 + 1) (cx := cx9) (ox := ox9) ?w1 ?w2 ?w3 ?w4 hq0 hq1 hq2 ?w5 z1 z2 lxt ldx ltp ?w6 (fun p hp => N7 p ?w7) ?w8 S9
        case w1 => assumption
        case w2 => assumption
        case w3 => first | assumption | omega
        case w4 => first | assumption | omega
        case w5 => first | assumption | omega
        case w6 => rw [hM9]; exact F7
        case w7 => revert p; walk_at "my sub"
        case w8 => assumption
      case bad =>
        clear X9 T9 F9 N9 S9
        intro nm tkf g9 h9 tks9 tp hB F9 N9 ltp lc8 S9
        have qc1 := lqc9 (L' + 1 + 1 + 1, _) (by k_mem)
        have qc2 := lqf9 (L' + 1 + 1 + 1, _) (by k_mem)
        have qc3 := lc8 (L' + 1 + 1 + 1, _) (by k_mem)
        have X9 := G.X.keeps S9.st
        have T9 := G.T.keeps S9.st
        walk_at "my go"
        (try k_unfold)
        refine wpC_execs_nil ?_
        (rename Fr _ _ _ _ => F7); (rename News _ _ _ _ => N7)
        refine' TextMid.bad (many := rc - 2) (y := Array.replicate (rc - 2).toNat 0) (k' := k + 1 + 1) (cx := cx9) (ox := ox9) ?w1 ?w2 ?w3 ?w4 hB ltp ?w6 (fun p hp => N7 p ?w7) ?w8 S9
        case w1 => assumption
        case w2 => assumption
        case w3 => first | assumption | omega
        case w4 => first | assumption | omega
        case w6 => rw [hM9]; exact F7
        case w7 => revert p; walk_at "my sub"
        case w8 => assumption
    · refine wpC_execs_cons (.of ?_)
      walk_at "my go"
      (try k_unfold); (try dsimp only)
      refine wpC_execs_cons (wpC_Assign_Tuple (wpC_Tuple2 (by rfl) ?_))
      walk_at "my go"
      (try k_unfold); (try dsimp only)
      refine wpC_CallName ?_
      walk_at "my go"
      (try k_unfold); (try dsimp only)
      refine wpC_callK (K := hd.heap_1 w.params) (by k_is) ?_
      walk_at "my go"
      refine' outcome_s (Ok := TxtOk w V gl u0 u1 lb ((y9.size : Int)) (y9)) (Bad := ManyF ((y9.size : Int)) V.tx 1 V.vm u0 u1) F9 N9 G O S9 ?fr ?hh ?a3 ?a4 ?f2 ?k2 ?hf ?hfd ?hC ?hdeed ?ok ?bad
      case fr => exact rfl
      case hh => exact rfl
      case a3 => exact Nat.le_of_ble_eq_true rfl
      case a4 => exact Nat.le_of_ble_eq_true rfl
      case f2 => exact rfl
      case k2 => intro q; cases q
      case hf => k_mem
      case hfd => exact rfl
      case hC =>
        intro v chg nw z
        cases z; first | assumption | exact .none
      case hdeed =>
        intro h₁ tks env kp ff nf₁ st₁ S₁
        obtain ⟨ma0, ma1, ma2, em⟩ := S₁.mx
        have D : Led b h₁ [(L' + 1 + 1 + 1, _), (L' + 1, _), (V.mk, _), (V.mx, _)] := List.forall_mem_cons.mpr ⟨⟨kp _ _ (N9.get (by k_mem)), nb_new N9 S9.st (by k_mem)⟩, List.forall_mem_cons.mpr ⟨⟨kp _ _ (N9.get (by k_mem)), nb_new N9 S9.st (by k_mem)⟩, List.forall_mem_cons.mpr ⟨⟨S₁.mk, O.nbd (i := 14) rfl⟩, List.forall_mem_cons.mpr ⟨⟨em, O.nbd (i := 10) rfl⟩, List.forall_mem_nil _⟩⟩⟩⟩
        refine' enterL (binds := []) st₁ G D (kp _ _ (N9.get ?mf)) ?cr ?room ?hb ?hloc ?_ ?c2 ?c3 ?c4 ?c5
        case mf => k_mem
        case cr => exact codeRec_keeps cr9 kp
        case room => k_room
        case hb => exact rfl
        case hloc => exact fun _ hp => (nomatch hp)
        case c2 => exact rfl
        case c3 => exact rfl
        case c4 => exact rfl
        case c5 => decide
        have nf₂ := nf_s F9 S9 O ff rfl nf₁
        intro g₁ L₁ h₂ Z₁ F₁ N₁
        have X₁ := G.X.keeps Z₁.st
        have T₁ := G.T.keeps Z₁.st
        clear F9 N9 X9 T9 S9 nf₁
        refine wpC_CallMethod ?_
        walk_at "my go"
        (try k_unfold); (try dsimp only)
        refine wpC_callK (K := hd.heap_1 w.params) (by k_is) ?_
        walk_at "my go"
        (rename Fr _ _ _ _ => F₂); (rename News _ _ _ _ => N₂)
        have kp₂ := keep_all F₂ N₂ Z₁ (fun _ hp => hp)
        refine' lam_end (dd := 700) (uu := 3000) ?xf ?xn ?xz ?xm ?xa ?xb ?h ?xc ?hd ?hu
        case xf => exact F₂
        case xn => exact N₂
        case xz => exact Z₁
        case xm => first | exact fun _ hp => hp | exact fun _ hp => .tail _ hp
        case xa => exact rfl
        case xb => exact rfl
        case h => exact octets_m G O (S₁.mono kp₂ fun _ hp => .inr hp) (below_lam F₂ Z₁ kp₂ st₁ ff rfl rfl (fun q => nomatch q)) rfl (nf_x nf₂ S₁ rfl Z₁.new) (by omega) (by omega)
        case xc => exact rfl
        case hd => exact Nat.le_of_ble_eq_true rfl
        case hu => exact Nat.le_of_ble_eq_true rfl
      case ok =>
        clear X9 T9 F9 N9 S9
        intro v chg nw g9 h9 tks9 tp hok F9 N9 lt9 lw9 ltp lc8 S9
        cases hok with
        | @mk x dx ba pn tn tl p0 p1 p2 p3 chg hq0 hq1 hq2 z1 z2 z3 _ =>
        have lxt : @LT.lt Nat _ x tp := lt9 _ (.head _)
        have ldx : @LT.lt Nat _ L' dx := lw9 _ (.tail _ (.head _))
        clear lt9 lw9
        dsimp only [List.cons_append, List.nil_append] at N9
        have qc1 := lqc9 (L' + 1 + 1 + 1, _) (by k_mem)
        have qc2 := lqf9 (L' + 1 + 1 + 1, _) (by k_mem)
        have qc3 := lc8 (L' + 1 + 1 + 1, _) (by k_mem)
        simp only [List.forall_mem_cons] at qc3
        obtain ⟨qc4, qc5, qc6, qc7, _⟩ := qc3
        have X9 := G.X.keeps S9.st
        have T9 := G.T.keeps S9.st
        walk_at "my go"
        (try k_unfold)
        refine wpC_execs_nil ?_
        (rename Fr _ _ _ _ => F7); (rename News _ _ _ _ => N7)
        refine' TextMid.ok (many := (y9.size : Int)) (y := y9) (k' := k + 1 + 1) (cx := cx9) (ox := ox9) ?w1 ?w2 ?w3 ?w4 hq0 hq1 hq2 ?w5 z1 z2 lxt ldx ltp ?w6 (fun p hp => N7 p ?w7) ?w8 S9
        case w1 => assumption
        case w2 => assumption
        case w3 => first | assumption | omega
        case w4 => first | assumption | omega
        case w5 => first | assumption | omega
        case w6 => rw [hM9]; exact F7
        case w7 => revert p; walk_at "my sub"
        case w8 => assumption
      case bad =>
        clear X9 T9 F9 N9 S9
        intro nm tkf g9 h9 tks9 tp hB F9 N9 ltp lc8 S9
        have qc1 := lqc9 (L' + 1 + 1 + 1, _) (by k_mem)
        have qc2 := lqf9 (L' + 1 + 1 + 1, _) (by k_mem)
        have qc3 := lc8 (L' + 1 + 1 + 1, _) (by k_mem)
        have X9 := G.X.keeps S9.st
        have T9 := G.T.keeps S9.st
        walk_at "my go"
        (try k_unfold)
        refine wpC_execs_nil ?_
        (rename Fr _ _ _ _ => F7); (rename News _ _ _ _ => N7)
        refine' TextMid.bad (many := (y9.size : Int)) (y := y9) (k' := k + 1 + 1) (cx := cx9) (ox := ox9) ?w1 ?w2 ?w3 ?w4 hB ltp ?w6 (fun p hp => N7 p ?w7) ?w8 S9
        case w1 => assumption
        case w2 => assumption
        case w3 => first | assumption | omega
        case w4 => first | assumption | omega
        case w6 => rw [hM9]; exact F7
        case w7 => revert p; walk_at "my sub"
        case w8 => assumption
  case second =>
    clear F9 N9 S9 X9 T9
    subst hM9
    cases h with
    | @ok many k' y tkm tko tn tl p0 p1 p2 p3 pn tk9 g9 h9 tp cx x dx ba ox oo om o9 dO dM hk2 hk3 hq0 hq1 hq2 hy z1 z2 lxt ldx ltp F9 N9 dK S9 =>
      have hy9 : y.size ≤ 1000 := by omega
      have lx9 : @LT.lt Nat _ L' x := Nat.lt_trans ldx z1
      (try dsimp only at F9)
      have X9 := G.X.keeps S9.st
      have T9 := G.T.keeps S9.st
      (try dsimp only)
      refine .of ?_
      walk_at "my gocmp"
      rw [show (y.toList == y.toList) = true from beq_self_eq_true _]
      (rename (∀ q ∈ (_ : List (Addr × Obj)), @LT.lt Nat _ _ q.1) => nwo)
      (rename Fr _ _ _ _ => F7); (rename News _ _ _ _ => N7)
      refine' hR _ _ (k') _ _ (lb + 1) (mds.push _) ?q1 ?q2 ?q3 ?q4 ?q5 ?q6 ?q7 ?q8 (S9.fin F7 N7 fun p hp => ?q9) (made_push hM (kp_low O S9 F7) (made_span (f := gl) N7 (.inl ⟨rfl, rfl⟩) ?qm1 ?qm2 ?qm3 ?qm6 ?qm7 ?qm4 ?qm5 ?qmk ?qmg ?ql1 ?ql2 ?ql3 ?ql6 ?ql7 ?ql4 ?ql5))
      case q1 => first | assumption | omega
      case q2 => first | assumption | omega
      case q3 => first | assumption | (split <;> omega)
      case q4 => first | assumption | (split <;> omega)
      case q5 => first | assumption | (split <;> omega)
      case q6 => first | assumption | omega
      case q7 => first | assumption | omega
      case q8 => first | omega | (rw [Array.size_push]; exact Nat.le_refl _)
      case q9 => obtain rfl := List.mem_singleton.mp hp; k_mem
      case qm1 => k_mem
      case qm2 => k_mem
      case qm3 => k_mem
      case qm4 => k_mem
      case qm5 => k_mem
      case qm6 => k_mem
      case qm7 => k_mem
      case qmk => k_keys
      case qmg => k_get
      case ql1 => first | assumption | omega
      case ql2 => exact Nat.le_trans hL (Nat.le_of_lt (nwo _ (.head _)))
      case ql3 => exact Nat.le_trans hL (Nat.le_of_lt (nwo _ (.tail _ (.head _))))
      case ql6 => exact Nat.le_trans hL (Nat.le_of_lt (nwo _ (.tail _ (.tail _ (.head _)))))
      case ql7 => exact Nat.le_trans hL (Nat.le_of_lt (nwo _ (.tail _ (.tail _ (.tail _ (.head _))))))
      case ql4 => first | assumption | omega
      case ql5 => first | assumption | omega
    | @bad many k' y tkm tko tkf tk9 g9 h9 tp cx ox oo om o9 nm dO dM hk2 hk3 hB ltp F9 N9 dK S9 =>
      (try dsimp only at F9)
      have X9 := G.X.keeps S9.st
      have T9 := G.T.keeps S9.st
      (try dsimp only)
      refine .of ?_
      walk_at "my go"
      (rename Fr _ _ _ _ => F7); (rename News _ _ _ _ => N7)
      refine' hR _ _ (k') u0 u1 (lb) (mds) ?q1 ?q2 ?q3 ?q4 ?q5 ?q6 ?q7 ?q8 (S9.fin F7 N7 fun p hp => ?q9) (fun v hv => (hM v hv).mono (kp_low O S9 F7))
      case q1 => first | assumption | omega
      case q2 => first | assumption | omega
      case q3 => first | assumption | (split <;> omega)
      case q4 => first | assumption | (split <;> omega)
      case q5 => first | assumption | (split <;> omega)
      case q6 => first | assumption | omega
      case q7 => first | assumption | omega
      case q8 => first | omega | (rw [Array.size_push]; exact Nat.le_refl _)
      case q9 => obtain rfl := List.mem_singleton.mp hp; k_mem
end K_text_s
end
theorem text_s {w : World} {V : SV} {R : Result → Shared → Prop} {s : Shared} {b : Heap} {loose : List Str} {mean : ExcName → Option Value} {mg mb : Str → Option Value} {k u0 u1 lb : Int} {gl : Bool} {mds : Array Value} : K_text_s.KP w V R s b loose mean mg mb k u0 u1 lb gl mds :=
  @Classical.choose_spec _ _ K_text_s.Kex (by with_unfolding_all exact @K_text_s.at0) ((w, V, R, s, b, loose), (mean, mg, mb, k, u0, u1), (lb, gl, mds))
section
end

noncomputable section
namespace K_row_s
def KP (w : World) (V : SV) (R : Result → Shared → Prop) (s : Shared) (b : Heap) (loose : List Str) (mean : ExcName → Option Value) (mg mb : Str → Option Value) (k u0 u1 lb : Int) (gl : Bool) (mds : Array Value) : Prop := ∀ {A : Around} (G : Gd w loose mean mg mb b) (O : VOK w V b) (hA : A = { depth := 310, units := 1000, frames := some [V.env1], handled := none, guards := none }) (S : St w V b s.heap s.heap [] k u0 u1 lb u0 u1 lb gl mds) (hsz : V.lm0 ≤ s.heap.objs.size) (hk0 : 0 ≤ k) (hk1 : k < 900) (hu0 : 0 ≤ u0) (hu1 : 0 ≤ u1) (hu2 : u0 + u1 ≤ V.vm) (hl1 : lb ≤ 700) (hmz : mds.size ≤ 100) (hM : ∀ v ∈ mds, MadeOK w V.lm0 s.heap v) (hR : ∀ h' tks k' u0' u1' lb' mds', k ≤ k' → k' ≤ k + 20 → 0 ≤ u0' → 0 ≤ u1' → u0' + u1' ≤ V.vm → lb ≤ lb' → lb' ≤ lb + 1 → mds'.size ≤ mds.size + 1 → St w V b s.heap h' [] k' u0' u1' lb' u0' u1' lb' gl mds' → (∀ v ∈ mds', MadeOK w V.lm0 h' v) → R (.ok (.ret (.bool true))) ⟨h', s.gens, s.drawn, tks, s.os⟩), codeC (model PG w) A (.call (.ref 416) ⟨[.ref V.dk, .ref V.wx, .ref V.mk], []⟩) R s
def KT (x : (World × SV × (Result → Shared → Prop) × Shared × Heap × List Str) × ((ExcName → Option Value) × (Str → Option Value) × (Str → Option Value) × Int × Int × Int) × (Int × Bool × Array Value)) : Prop := KP x.1.1 x.1.2.1 x.1.2.2.1 x.1.2.2.2.1 x.1.2.2.2.2.1 x.1.2.2.2.2.2 x.2.1.1 x.2.1.2.1 x.2.1.2.2.1 x.2.1.2.2.2.1 x.2.1.2.2.2.2.1 x.2.1.2.2.2.2.2 x.2.2.1 x.2.2.2.1 x.2.2.2.2
theorem Kex : ∃ x, KT x → ∀ y, KT y := drink ((anyW, anyV, (fun _ _ => True), {}, default, default), (default, default, default, default, default, default), (default, default, default)) _
@[irreducible] def Kx0 := Classical.choose Kex
@[irreducible] def w := Kx0.1.1
@[irreducible] def V := Kx0.1.2.1
@[irreducible] def R := Kx0.1.2.2.1
@[irreducible] def s := Kx0.1.2.2.2.1
@[irreducible] def b := Kx0.1.2.2.2.2.1
@[irreducible] def loose := Kx0.1.2.2.2.2.2
@[irreducible] def mean := Kx0.2.1.1
@[irreducible] def mg := Kx0.2.1.2.1
@[irreducible] def mb := Kx0.2.1.2.2.1
@[irreducible] def k := Kx0.2.1.2.2.2.1
@[irreducible] def u0 := Kx0.2.1.2.2.2.2.1
@[irreducible] def u1 := Kx0.2.1.2.2.2.2.2
@[irreducible] def lb := Kx0.2.2.1
@[irreducible] def gl := Kx0.2.2.2.1
@[irreducible] def mds := Kx0.2.2.2.2
set_option maxRecDepth 100000
set_option maxHeartbeats 4000000
theorem kwN5n51 : True := by
  k_with "my code" => exact Gd.c3 (by assumption)
  k_with "my idx" => exact (rfl : Nat.blt 2 5 = true)
  k_with "my tabm" => exact List.Mem.tail _ (List.Mem.tail _ (List.Mem.head _))
  k_with "my sub" => first | exact List.forall_mem_nil _ | ((first | (k_dflt (refine' sub_cons 0 rfl ?_)) | (k_dflt (refine' sub_cons 1 rfl ?_)) | (k_dflt (refine' sub_cons 2 rfl ?_)) | (k_dflt (refine' sub_cons 3 rfl ?_)) | (k_dflt (refine' sub_cons 4 rfl ?_)) | (k_dflt (refine' sub_cons 5 rfl ?_)) | (k_dflt (refine' sub_cons 6 rfl ?_)) | (k_dflt (refine' sub_cons 7 rfl ?_)) | (k_dflt (refine' sub_cons 8 rfl ?_)) | (k_dflt (refine' sub_cons 9 rfl ?_)) | (k_dflt (refine' sub_cons 10 rfl ?_)) | (k_dflt (refine' sub_cons 11 rfl ?_)) | (k_dflt (refine' sub_cons 12 rfl ?_)) | (k_dflt (refine' sub_cons 13 rfl ?_)) | (k_dflt (refine' sub_cons 14 rfl ?_)) | (k_dflt (refine' sub_cons 15 rfl ?_)) | (k_dflt (refine' sub_cons 16 rfl ?_)) | (k_dflt (refine' sub_cons 17 rfl ?_)) | (k_dflt (refine' sub_cons 18 rfl ?_)) | (k_dflt (refine' sub_cons 19 rfl ?_)) | (k_dflt (refine' sub_cons 20 rfl ?_)) | (k_dflt (refine' sub_cons 21 rfl ?_)) | (k_dflt (refine' sub_cons 22 rfl ?_)) | (k_dflt (refine' sub_cons 23 rfl ?_)) | (k_dflt (refine' sub_cons 24 rfl ?_)) | (k_dflt (refine' sub_cons 25 rfl ?_)) | (k_dflt (refine' sub_cons 26 rfl ?_)) | (k_dflt (refine' sub_cons 27 rfl ?_))); walk_at "my sub") | k_dflt (first | exact sub_drop 0 rfl | exact sub_drop 1 rfl | exact sub_drop 2 rfl | exact sub_drop 3 rfl | exact sub_drop 4 rfl | exact sub_drop 5 rfl | exact sub_drop 6 rfl | exact sub_drop 7 rfl | exact sub_drop 8 rfl | exact sub_drop 9 rfl | exact sub_drop 10 rfl | exact sub_drop 11 rfl | exact sub_drop 12 rfl | exact sub_drop 13 rfl | exact sub_drop 14 rfl | exact sub_drop 15 rfl | exact sub_drop 16 rfl | exact sub_drop 17 rfl | exact sub_drop 18 rfl | exact sub_drop 19 rfl | exact sub_drop 20 rfl | exact sub_drop 21 rfl | exact sub_drop 22 rfl | exact sub_drop 23 rfl | exact sub_drop 24 rfl | exact sub_drop 25 rfl)
  k_with "my all2" => first | assumption | exact List.forall_mem_nil _ | (refine' allc ?axd4a ?bxd4a; (case axd4a => k_dflt k_ne); (case bxd4a => walk_at "my all2"))
  k_with "my updf" => first | ((with_reducible refine' UpdF.head ?qhx0fe); (case qhx0fe => walk_at "my all2")) | (refine' UpdF.tail ?qnx0fe ?qtx0fe; (case qnx0fe => k_dflt k_ne); (case qtx0fe => walk_at "my updf"))
  k_with "storeName" => (k_here; k_dflt (refine' storeX_C ?Fxffa ?Nxffa ?cxffa ?Uxffa ?dxffa ?_ ?axffa ?bxffa; (case axffa => rfl); (case bxffa => rfl); (case Fxffa => k_asm); (case Nxffa => k_asm); (case cxffa => rfl); (case Uxffa => walk_at "my updf"); (case dxffa => k_asm); k_whole); intro h' o' F' N' d'; (try dsimp only at N'); (try k_sweep))
  k_with "my n0" => ((rename After _ _ _ => myA); (rename New _ _ _ => myW); (rename Fr _ _ _ _ => myF); (rename News _ _ _ _ => myN); k_dflt (refine' new0 myF myN myA myW ?_); clear myA myW; intro F' N' nwl' nwc'; (try dsimp only [List.cons_append, List.nil_append] at N'); k_dflt (have nwd' := nwc' (L' + 1 + 1 + 1 + 1, _) (by k_mem); simp only [List.forall_mem_cons] at nwd'); clear nwc'; (try k_sweep))
  k_with "call ref" => (k_here; (with_reducible show wpAny _ _ (call (Value.ref 371) _) _ _ _); (rename Frag.In _ _ => oX); (rename Top _ _ _ _ _ _ => oT); (rename Fr _ _ _ _ => oF); (rename News _ _ _ _ => oN); (rename St _ _ _ _ _ _ _ _ _ _ _ _ _ _ _ => oS); k_dflt (refine' draw_A oF oN ?Gx849 ?Ox849 oS ?a0x849 ?a3x849 ?a4x849 ?hk0x849 ?hk1x849 ?hb0x849 ?hb1x849 ?_; (case Gx849 => assumption); (case Ox849 => assumption); (case a0x849 => exact rfl); (case a3x849 => exact Nat.le_of_ble_eq_true rfl); (case a4x849 => exact Nat.le_of_ble_eq_true rfl); (case hk0x849 => first | assumption | omega); (case hk1x849 => omega); (case hb0x849 => omega); (case hb1x849 => omega); k_whole); intro r9 tk9 kt9 g9 h9 tks9 r0' r1' F9 N9 st9 A9; (have S9 := St.draw oS (by assumption) st9 A9); clear oX oT oF oN oS st9; (have X9 := Frag.In.keeps (Gd.X (by assumption)) (St.st S9)); (have T9 := Top.keeps (Gd.T (by assumption)) (St.st S9)); (try k_sweep))
  k_with "binaryOp Add ref ref" => (k_here; k_dflt (refine' addl_s ?qFx816 ?qNx816 ?qSx816 ?qm1x816 ?qzx816 ?_; (case qFx816 => k_asm); (case qNx816 => k_asm); (case qSx816 => assumption); (case qm1x816 => k_mem); (case qzx816 => first | omega | (simp; omega)); k_whole); intro sm9 sl9 h' hs9 hz9 F' N' l1 l2; (try k_lt l1); (try k_sweep))
  k_with "subscriptTail" => (k_here; (with_reducible show wpAny _ _ (subscriptTail _ _ (Value.ref _) (Value.int _ _)) _ _ _); k_dflt (refine' tail_item ?qFx82b ?qNx82b ?qmx82b ?q0x82b ?q1x82b ?qzx82b ?_; (case qFx82b => k_asm); (case qNx82b => k_asm); (case qmx82b => k_mem); (case q0x82b => assumption); (case q1x82b => assumption); (case qzx82b => omega); k_whole); intro vi9 hi9)
  k_with "subscriptTail" => (k_here; (with_reducible show wpAny _ _ (subscriptTail _ _ (Value.ref (SV.md _)) (Value.int (-1) _)) _ _ _); k_dflt (refine' md_last ?Fxcb8 ?Sxcb8 ?qzxcb8 ?_; (case Fxcb8 => k_asm); (case Sxcb8 => assumption); (case qzxcb8 => omega); k_whole))
  k_with "call ref" => (k_here; (with_reducible show wpAny _ _ (call (Value.ref 385) _) _ _ _); k_dflt (refine' fault_any_s ?Fx0e6 ?Nx0e6 ?Gx0e6 ?Ox0e6 ?Sx0e6 ?a0x0e6 ?a3x0e6 ?a4x0e6 ?cx0e6 ?hu0x0e6 ?hu1x0e6 ?hu2x0e6 ?_; (case Fx0e6 => k_asm); (case Nx0e6 => k_asm); (case Gx0e6 => assumption); (case Ox0e6 => assumption); (case Sx0e6 => assumption); (case a0x0e6 => exact rfl); (case a3x0e6 => exact Nat.le_of_ble_eq_true rfl); (case a4x0e6 => exact Nat.le_of_ble_eq_true rfl); (case cx0e6 => exact .inr (.inl rfl)); (case hu0x0e6 => assumption); (case hu1x0e6 => assumption); (case hu2x0e6 => assumption); k_whole); intro fv' h' tks' hfr' F' N'; (try k_sweep))
  k_with "my gofl" => ((try k_fold); repeat' ((fail_if_success (with_reducible show And (@Eq Flow _ _) _)); (fail_if_success (with_reducible show wpAny _ _ (eval (Expr.ListComp _ _ _ _) _) _ _ _)); first | (k_unfold; (try dsimp only)) | (walk1; (try dsimp only)) | (dsimp only; walk1)))
  k_with "my goto" => ((try k_fold); repeat' ((fail_if_success (with_reducible show wpAny _ _ (call (Value.ref 338) _) _ _ _)); first | (k_unfold; (try dsimp only)) | (walk1; (try dsimp only)) | (dsimp only; walk1)))
  exact trivial
@[irreducible] def g9 : Heap := hideAll s.heap (([] : List (Addr × Obj)).map (·.1))
@[irreducible] def L' : Addr := s.heap.objs.size
theorem KgE  : g9 = hideAll s.heap (([] : List (Addr × Obj)).map (·.1)) := by with_unfolding_all rfl
theorem KlE : L' = s.heap.objs.size := by with_unfolding_all rfl
theorem at0 : KP w V R s b loose mean mg mb k u0 u1 lb gl mds := by
  intro A G O hA S hsz hk0 hk1 hu0 hu1 hu2 hl1 hmz hM hR
  subst hA
  have Xs := G.X.keeps S.st
  refine' enterXC' KgE KlE (led := []) (binds := [(Str.ofString "deck", .ref V.dk), (Str.ofString "w", .ref V.wx), (Str.ofString "maker", .ref V.mk)]) S.st G (fun _ hp => (nomatch hp)) ?k6 ?k7 ?k8 ?k9 ?kB ?kD ?_ ?c2 ?c3 ?c4
  case k6 => k_dflt k_is
  case k7 => k_dflt k_is
  case k8 => k_room
  case k9 => first | exact BindsTo.of_eq rfl | exact binds_K (by assumption) rfl (by k_is) rfl rfl rfl
  case kB => exact rfl
  case kD => decide +kernel
  case c2 => exact rfl
  case c3 => exact rfl
  case c4 => exact rfl
  intro h' tk cells Z F9 N9 Y'
  k_cells Y'
  (try dsimp only [List.cons_append, List.nil_append] at N9)
  have S9 : St w V b s.heap g9 [] k u0 u1 lb u0 u1 lb gl mds := S.mono (fun a o e => Z.kp a o e fun q => (nomatch q)) fun _ hp => (nomatch hp)
  have hL : V.lm0 ≤ L' := by rw [← Z.sz]; exact hsz
  have X9 := G.X.keeps S9.st
  have T9 := G.T.keeps S9.st
  have cH := G.c3
  have rx0 := O.rx0
  have rx1 := O.rx1
  have hc3 : @LT.lt Nat _ L' (L' + 1 + 1 + 1) := Nat.lt_succ_of_lt (Nat.lt_succ_of_lt (Nat.lt_succ_self _))
  have hc4 : @LT.lt Nat _ L' (L' + 1 + 1 + 1 + 1) := Nat.lt_succ_of_lt hc3
  have hc1 : @LT.lt Nat _ L' (L' + 1) := Nat.lt_succ_self _
  have hc2 : @LT.lt Nat _ L' (L' + 1 + 1) := Nat.lt_succ_of_lt hc1
  clear Z Xs S
  obtain ⟨M0, hM0⟩ := fr_self F9
  refine wpC_execs_cons (wpC_mono (Q := RowMid w V s.heap g9 mds s L' M0) ?first (fun fl s' h => ?second) (fun _ _ e => e))
  case first =>
    refine .of ?_
    walk_at "my go"
    (rename Fr _ _ _ _ => F7); (rename News _ _ _ _ => N7)
    refine' row_mid N7 rfl rfl rfl rfl ?q1 ?q2 ?q3 ?q4 hz9 hL ?q6 ?q7 ?q8 ?qF
    case qF => rw [hM0]; exact F7
    case q1 => assumption
    case q2 => assumption
    case q3 => assumption
    case q4 => assumption
    case q7 => simp only [List.forall_mem_cons]; refine ⟨?_, ?_, ?_, ?_, ?_, ?_, ?_, ?_, ?_, ?_, ?_, ?_, fun _ h => (nomatch h)⟩ <;> omega
    case q8 => first | assumption | omega
    case q6 =>
      intro hlo v hv
      rw [hs9] at hv
      rcases List.mem_append.mp hv with hv | hv
      · simp only [List.mem_cons, List.not_mem_nil, or_false] at hv
        rcases hv with rfl | rfl | rfl | rfl
        all_goals
          refine' made_i_flat ?qk ?qv ?qm1 ?qm2 ?qm3 hlo
          case qm1 => k_mem
          case qm2 => k_mem
          case qm3 => k_mem
          case qk => decide
          case qv => rfl
      · exact made_i_old (hM v (by simpa using hv))
  case second =>
    subst hM0
    clear F9 N9
    cases h with
    | @mk h9 tk9 sm sl tr od om os ot ov dD dM dS dT hsl hMI htr lsm F9 N9 =>
    have hne4 : ∀ p ∈ tr, p.1 ≠ L' + 1 + 1 + 1 + 1 := fun p hp => Nat.ne_of_gt (htr p hp)
    (try dsimp only)
    refine wpC_execs_cons (.of ?_)
    obtain ⟨M1, hM1⟩ := fr_self F9
    refine' draws_s (V := V) (m := M1) (h0 := s.heap) (b := b) (xs := []) (u0 := u0) (u1 := u1) (lb := lb) (x0 := u0) (x1 := u1) (xl := lb) (gl := gl) (mds := mds) (sm := sm) (sms := sl) (cd := L' + 1) (od := od) (cs := L' + 1 + 1 + 1) (os := os) O rfl ?qsw ?qclos ?qcell ?qkind ?qnames ?qnx ?qny ?qnp ?qmain
    case qsw => rfl
    case qclos => rfl
    case qcell => decide
    case qkind => rfl
    case qnames => decide
    case qnx => rfl
    case qny => rfl
    case qnp => rfl
    case qmain =>
      subst hM1
      walk_at "my go"
      (try k_unfold); (try dsimp only)
      obtain ⟨n9, hn9⟩ := Int.eq_ofNat_of_zero_le r0'
      subst hn9
      (rename Fr _ _ _ _ => F2); (rename News _ _ _ _ => N2)
      refine' DIn.mk (n := n9) (k := k + 1) rfl ?qR ?qn F2 N2 S9 ?qa ?qb ?qc ?qturn ?qfin
      case qR => assumption
      case qn => first | assumption | omega
      case qa => k_mem
      case qb => k_mem
      case qc => k_mem
      case qturn =>
        intro C g₁ k' h₃ tk₃ mC E' hk2 hk3 F3 N3 S3
        have X3 := G.X.keeps S3.st
        have T3 := G.T.keeps S3.st
        clear F2 N2 X9 T9 S9 A9
        walk_at "my goex"
        (try k_unfold); (try dsimp only)
        (rename Fr _ _ _ _ => F7); (rename News _ _ _ _ => N7)
        exact ⟨_, _, _, _, _, rfl, hi9, F7, N7, A9⟩
      case qfin =>
        intro D ys c' g4 kt4 h₄ tk₄ hys hmem st4 A4 F4 N4 l1 l2
        have S4 := S9.draw O st4 A4
        have l1b : @LT.lt Nat _ (L' + 1 + 1 + 1 + 1) D := l1 _ (.tail _ (.head _))
        clear l1
        (try dsimp only at N4)
        clear F2 N2 X9 T9 S9 A9 A4
        have hTR : ∀ (g h : Heap) (x : List (Addr × Obj)), News g L' h x → (∀ p ∈ tr, p ∈ x) → ∀ p ∈ tr, h.get? p.1 = some p.2 := fun g h x N hx p hp => (N p (hx p hp)).1
        have hMk := fun v (hv : v ∈ ys) => pk_i (hMI v (hmem v hv)) (kp_low O S4 F4) (hTR _ _ _ N4 (by walk_at "my sub"))
        have X9 := G.X.keeps S4.st
        have T9 := G.T.keeps S4.st
        have S9 := S4
        clear S4
        (try dsimp only)
        refine wpC_execs_cons (wpC_Assign_Name (.of ?_))
        refine' my_compPair (fun v => .ref (pk h₄ v).1) rfl ?qclos ?qcell ?qkind ?qnames ?qha ?qhb ?qhz ?qdb ?qmain
        case qclos => rfl
        case qcell => decide
        case qkind => rfl
        case qnames => decide
        case qha => rfl
        case qhb => rfl
        case qhz => exact .inr rfl
        case qdb => decide
        case qmain =>
          walk_at "my goex"
          (try k_unfold); (try dsimp only)
          (rename Fr _ _ _ _ => F2); (rename News _ _ _ _ => N2)
          refine' ⟨D, ys, g4, L', _, _, rfl, N2.isList ?qm, by omega, F2, N2, ?qtup, ?qfin⟩
          case qm => k_mem
          case qtup =>
            intro v hv
            obtain ⟨tp, rfl, hT⟩ := (hMk v hv).tup (kp_low O S9 F2) (hTR _ _ _ N2 (by walk_at "my sub"))
            exact ⟨tp, _, _, rfl, hT, rfl⟩
          case qfin =>
            intro D3 c3 h5 tk5 F5 N5 l1 l2
            have l3b : @LT.lt Nat _ (L' + 1 + 1 + 1 + 1) D3 := l1 _ (.tail _ (.tail _ (.head _)))
            clear l1
            clear F2 N2
            (try clear F4 N4)
            obtain ⟨its, hits⟩ : ∃ its : List (Addr × Bool), its = ys.map (pk h₄) := ⟨_, rfl⟩
            have hlen9 : its.length ≤ 12 := by rw [hits, List.length_map]; omega
            rw [show (ys.map fun v => Value.ref (pk h₄ v).1) = its.map (fun p => Value.ref p.1) by rw [hits, List.map_map]; rfl] at N5
            have hlm : (its.map fun p => Value.ref p.1).length = its.length := List.length_map _
            walk_at "my go"
            (try k_unfold); (try dsimp only)
            (rename Fr _ _ _ _ => F6); (rename News _ _ _ _ => N6)
            obtain ⟨M6, hM6⟩ := fr_self F6
            refine cutS (RowP4 its V.rx) (fun fv q => if q = Str.ofString "fault" then some fv else M6 q) N6 ?s4 ?r4
            case s4 =>
              refine .of ?_
              walk_at "my gofl"
              all_goals (rename Fr _ _ _ _ => F7); (rename News _ _ _ _ => N7)
              · exact ⟨rfl, _, _, _, .inl ⟨by omega, _, rfl⟩, rfl, by rw [hM6]; exact F7, N7⟩
              · exact ⟨rfl, _, _, _, .inr ⟨by omega, rfl⟩, rfl, by rw [hM6]; exact F7, N7⟩
            case r4 =>
              intro fv4 h6 tk6 hP4 F8 N8
              clear F6 N6
              rw [hM6] at F8
              refine cutS (RowP5 its V.rx gl) (fun fv q => if q = Str.ofString "fault" then some fv else M6 q) N8 ?s5 ?r5
              case s5 =>
                refine .of ?_
                rcases hP4 with ⟨hc4, tv4, rfl⟩ | ⟨hc4, rfl⟩
                · walk_at "my gofl"
                  (rename Fr _ _ _ _ => F7); (rename News _ _ _ _ => N7)
                  exact ⟨rfl, _, _, _, .inl ⟨hc4, _, rfl⟩, rfl, by rw [hM6]; exact F7, N7⟩
                · walk_at "my gofl"
                  · refine' my_compPair (fun v => .bool (pk h₄ v).2) rfl ?qclos ?qcell ?qkind ?qnames ?qha ?qhb ?qhz ?qdb ?qmain
                    case qclos => rfl
                    case qcell => decide
                    case qkind => rfl
                    case qnames => decide
                    case qha => rfl
                    case qhb => rfl
                    case qhz => exact .inl rfl
                    case qdb => decide
                    case qmain =>
                      walk_at "my goex"
                      (try k_unfold); (try dsimp only)
                      (rename Fr _ _ _ _ => F2); (rename News _ _ _ _ => N2)
                      refine' ⟨D, ys, g4, L', _, _, rfl, N2.isList ?qm, by omega, F2, N2, ?qtup, ?qfin⟩
                      case qm => k_mem
                      case qtup =>
                        intro v hv
                        obtain ⟨tp, rfl, hT⟩ := (hMk v hv).tup (kp_low O S9 F2) (hTR _ _ _ N2 (by walk_at "my sub"))
                        exact ⟨tp, _, _, rfl, hT, rfl⟩
                      case qfin =>
                        intro D5 c5 h7 tk7 F5 N5 l1 l2
                        (try k_lt l1)
                        clear F2 N2
                        (try clear F8 N8)
                        (try k_unfold); (try dsimp only)
                        refine' in_bools N5 ?qm ?qb ?_
                        case qm => k_mem
                        case qb =>
                          intro v hv
                          obtain ⟨z, _, rfl⟩ := List.mem_map.mp hv
                          exact ⟨_, rfl⟩
                        rw [any_flags (f := pk h₄), ← hits]
                        cases hany : its.any (fun p => p.2 == false)
                        · walk_at "my gofl"
                          (try k_unfold)
                          (rename Fr _ _ _ _ => F7); (rename News _ _ _ _ => N7)
                          refine ⟨rfl, _, _, _, .inr (.inr ⟨hc4, fun _ => any_false hany, rfl⟩), rfl, by rw [hM6]; exact F7, fun p hp => N7 p ?_⟩
                          revert p; walk_at "my sub"
                        · walk_at "my gofl"
                          (try k_unfold)
                          (rename Fr _ _ _ _ => F7); (rename News _ _ _ _ => N7)
                          refine ⟨rfl, _, _, _, .inr (.inl ⟨hc4, by assumption, any_true hany, _, rfl⟩), rfl, again_fr (m := M6) (v0 := some .none) (by rw [hM6]; exact F7), fun p hp => N7 p ?_⟩
                          revert p; walk_at "my sub"
                  · (try k_unfold)
                    (rename Fr _ _ _ _ => F7); (rename News _ _ _ _ => N7)
                    exact ⟨rfl, _, _, _, .inr (.inr ⟨hc4, fun e => by first | exact absurd e (by assumption) | (rename gl = false => e9; rw [e9] at e; cases e), rfl⟩), rfl, by rw [hM6]; exact F7, N7⟩
              case r5 =>
                intro fv5 h7 tk7 hP5 F10 N10
                clear F8 N8
                rw [hM6] at F10
                refine cutS (RowF its V.rx V.vm u0 u1 gl) (fun fv q => if q = Str.ofString "fault" then some fv else M6 q) N10 ?s6 ?r6
                case s6 =>
                  refine .of ?_
                  rcases hP5 with ⟨hc5, tv5, rfl⟩ | ⟨hc5, hg5, hf5, tv5, rfl⟩ | ⟨hc5, hf5, rfl⟩
                  · walk_at "my gofl"
                    (rename Fr _ _ _ _ => F7); (rename News _ _ _ _ => N7)
                    exact ⟨rfl, _, _, _, .inl ⟨"limitcheck", _, rfl, .inl ⟨rfl, hc5⟩⟩, rfl, by rw [hM6]; exact F7, N7⟩
                  · walk_at "my gofl"
                    (rename Fr _ _ _ _ => F7); (rename News _ _ _ _ => N7)
                    exact ⟨rfl, _, _, _, .inl ⟨"invalidaccess", _, rfl, .inr (.inl ⟨rfl, hc5, hg5, hf5⟩)⟩, rfl, by rw [hM6]; exact F7, N7⟩
                  · walk_at "my gofl"
                    (try k_unfold)
                    (rename Fr _ _ _ _ => F7); (rename News _ _ _ _ => N7); (rename FaultR _ _ _ _ _ _ _ => hfr9)
                    rw [hlm] at hfr9
                    exact ⟨rfl, _, _, _, row_f hc5 hf5 hfr9, rfl, again_fr (m := M6) (v0 := some .none) (by rw [hM6]; exact F7), N7⟩
                case r6 =>
                  intro fv h8 tk8 hF F11 N11
                  clear F10 N10
                  rw [hM6] at F11
                  have hTh : ∀ p ∈ its, ThingIn s.heap tr w V.lm0 p.1 p.2 := by
                    rw [hits]; intro p hp
                    obtain ⟨v, hv, rfl⟩ := List.mem_map.mp hp
                    exact (hMk v hv).thing
                  obtain ⟨kv, hkv⟩ := things_kv1 hTh
                  clear hMk hMI hmem
                  refine wpC_execs_cons (wpC_Assign_Name (wpC_CallName ?_))
                  walk_at "my go"
                  (try k_unfold); (try dsimp only)
                  refine wpC_callK (K := hd.heap_1 w.params) (by k_is) ?_
                  walk_at "my go"
                  refine' outcome_s (Ok := ROk w V its gl u0 u1 lb) (Bad := RowBad its V.rx V.vm u0 u1 gl) F9 N9 G O S9 ?fr ?hh ?a3 ?a4 ?f2 ?k2 ?hf ?hfd ?hC ?hdeed ?ok ?bad
                  case fr => exact rfl
                  case hh => exact rfl
                  case a3 => exact Nat.le_of_ble_eq_true rfl
                  case a4 => exact Nat.le_of_ble_eq_true rfl
                  case f2 => exact rfl
                  case k2 => intro q; cases q
                  case hf => k_mem
                  case hfd => exact rfl
                  case hC =>
                    intro v chg nw z
                    cases z; first | assumption | exact .none
                  case hdeed =>
                    intro h₁ tks env kp ff nf₁ st₁ S₁
                    obtain ⟨ma0, ma1, ma2, em⟩ := S₁.mx
                    have D : Led b h₁ [(L' + 1 + 1 + 1 + 1, _), (L' + 1 + 1, _), (D3, _), (V.mk, _), (V.mx, _)] := List.forall_mem_cons.mpr ⟨⟨kp _ _ (N9.get (by k_mem)), nb_new N9 S9.st (by k_mem)⟩, List.forall_mem_cons.mpr ⟨⟨kp _ _ (N9.get (by k_mem)), nb_new N9 S9.st (by k_mem)⟩, List.forall_mem_cons.mpr ⟨⟨kp _ _ (N9.get (by k_mem)), nb_new N9 S9.st (by k_mem)⟩, List.forall_mem_cons.mpr ⟨⟨S₁.mk, O.nbd (i := 14) rfl⟩, List.forall_mem_cons.mpr ⟨⟨em, O.nbd (i := 10) rfl⟩, List.forall_mem_nil _⟩⟩⟩⟩⟩
                    refine' enterL (binds := []) st₁ G D (kp _ _ (N9.get ?mf)) ?cr ?room ?hb ?hloc ?_ ?c2 ?c3 ?c4 ?c5
                    case mf => k_mem
                    case cr => exact codeRec_keeps cr9 kp
                    case room => k_room
                    case hb => exact rfl
                    case hloc => exact fun _ hp => (nomatch hp)
                    case c2 => exact rfl
                    case c3 => exact rfl
                    case c4 => exact rfl
                    case c5 => decide
                    have nf₂ := nf_s F9 S9 O ff rfl nf₁
                    intro g₁ L₁ h₂ Z₁ F₁ N₁
                    have X₁ := G.X.keeps Z₁.st
                    have T₁ := G.T.keeps Z₁.st
                    have kl : ∀ a o, s.heap.get? a = some o → V.lm0 ≤ a → h₁.get? a = some o := fun a o e l => kp _ _ (kp_low O S9 F9 a o e l)
                    have kt : ∀ p ∈ tr, h₁.get? p.1 = some p.2 := fun p hp => kp _ _ (N9 p ((by walk_at "my sub" : ∀ p ∈ tr, p ∈ _) p hp)).1
                    clear F9 N9 X9 T9 S9 nf₁
                    refine .of ?_
                    walk_at "my goto"
                    (rename Fr _ _ _ _ => F₂); (rename News _ _ _ _ => N₂)
                    have kp₂ := keep_all F₂ N₂ Z₁ (fun _ hp => .tail _ hp)
                    refine' lam_endA (dd := 700) (uu := 3000) ?xf ?xn ?xz ?xm ?xa ?xb ?h ?xc ?hd ?hu
                    case xf => exact F₂
                    case xn => exact N₂
                    case xz => exact Z₁
                    case xm => first | exact fun _ hp => hp | exact fun _ hp => .tail _ hp
                    case xa => exact rfl
                    case xb => exact rfl
                    case h => exact row_m (its := its) G O (S₁.mono kp₂ fun _ hp => .inr hp) (below_lam F₂ Z₁ kp₂ st₁ ff rfl rfl (fun q => nomatch q)) rfl (nf_x nf₂ S₁ rfl Z₁.new) (by omega) (N₂.isList (by k_mem)) (mkr_off O (by omega)) (fun p hp => (hTh p hp).at1 (fun a o e l => kp₂ _ _ (kl a o e l)) (fun q hq => kp₂ _ _ (kt q hq))) (by omega)
                    case xc => exact rfl
                    case hd => exact Nat.le_of_ble_eq_true rfl
                    case hu => exact Nat.le_of_ble_eq_true rfl
                  case ok =>
                    clear X9 T9 F9 N9 S9
                    intro v chg nw g9 h9 tks9 tp hok F9 N9 lt9 lw9 ltp lc8 S9
                    cases hok with
                    | @mk x dx l c jn tn tl j0 j1 j2 j3 chg hG z1 z2 _ =>
                    rcases hF with ⟨nm, tkf, rfl, hB⟩ | ⟨rfl, _⟩
                    case inl => exact (row_bad_good hB hG).elim
                    obtain ⟨hG1, hG2, hG3⟩ := hG
                    have lxt : @LT.lt Nat _ x tp := lt9 _ (.head _)
                    have ldx : @LT.lt Nat _ L' dx := lw9 _ (.tail _ (.head _))
                    clear lt9 lw9
                    dsimp only [List.cons_append, List.nil_append] at N9
                    have X9 := G.X.keeps S9.st
                    have T9 := G.T.keeps S9.st
                    walk_at "my go"
                    refine .of ?_
                    walk_at "my gocomp"
                    refine' my_compKV (K := hd.heap_1 w.params) (cls := 65) kv rfl ?qclos ?qcell ?qkind ?qnames ?qnx ?qdb ?qg1 ?qhd ?qa1 ?qn1 ?qg2 ?qa2 ?qn2 ?qmain
                    case qclos => rfl
                    case qcell => decide
                    case qkind => rfl
                    case qnames => decide
                    case qnx => rfl
                    case qdb => decide
                    case qg1 => k_is
                    case qhd => k_is
                    case qa1 => k_is
                    case qn1 => k_is
                    case qg2 => k_is
                    case qa2 => k_is
                    case qn2 => k_is
                    case qmain =>
                      walk_at "my goex"
                      (try k_unfold); (try dsimp only)
                      (rename Fr _ _ _ _ => F2); (rename News _ _ _ _ => N2)
                      refine' ⟨_, its.map (fun p => Value.ref p.1), g9, L', _, _, rfl, N2.isList ?qm, by omega, F2, N2, X9.keeps F2.keep, ?qobj, ?qfin⟩
                      case qm => k_mem
                      case qobj =>
                        intro v hv
                        obtain ⟨p, hp, rfl⟩ := List.mem_map.mp hv
                        exact hkv _ (kp_low O S9 F2) (hTR _ _ _ N2 (by walk_at "my sub")) p hp
                      case qfin =>
                        intro Da ca tsa ha tka ka Fa Na la1 la2 Pa
                        (try k_lt la1)
                        clear F2 N2
                        (try k_unfold); (try dsimp only)
                        walk_at "my gocomp"
                        refine' my_compKV (K := hd.heap_1 w.params) (cls := 65) kv rfl ?qclos ?qcell ?qkind ?qnames ?qnx ?qdb ?qg1 ?qhd ?qa1 ?qn1 ?qg2 ?qa2 ?qn2 ?qmain
                        case qclos => rfl
                        case qcell => decide
                        case qkind => rfl
                        case qnames => decide
                        case qnx => rfl
                        case qdb => decide
                        case qg1 => k_is
                        case qhd => k_is
                        case qa1 => k_is
                        case qn1 => k_is
                        case qg2 => k_is
                        case qa2 => k_is
                        case qn2 => k_is
                        case qmain =>
                          walk_at "my goex"
                          (try k_unfold); (try dsimp only)
                          (rename Fr _ _ _ _ => F2); (rename News _ _ _ _ => N2)
                          refine' ⟨_, its.map (fun p => Value.ref p.1), g9, L', _, _, rfl, N2.isList ?qm, by omega, F2, N2, X9.keeps F2.keep, ?qobj, ?qfin⟩
                          case qm => k_mem
                          case qobj =>
                            intro v hv
                            obtain ⟨p, hp, rfl⟩ := List.mem_map.mp hv
                            exact hkv _ (kp_low O S9 F2) (hTR _ _ _ N2 (by walk_at "my sub")) p hp
                          case qfin =>
                            intro Db cb tsb hb tkb kb Fb Nb lb1 lb2 Pb
                            (try k_lt lb1)
                            clear F2 N2
                            (try clear Fa Na)
                            (try k_unfold); (try dsimp only)
                            walk_at "my gocmp"
                            (rename News _ _ _ _ => N4)
                            refine' eq_kv N4 ?qm1 ?qm2 (Pa.mono fun v y r => ?qpa) (Pb.mono fun v y r => ?qpb) ?qut ?_
                            case qm1 => k_mem
                            case qm2 => k_mem
                            case qut => exact Nat.le_of_ble_eq_true rfl
                            case qpa =>
                              obtain ⟨T, e, _, ho⟩ := r
                              exact ⟨T, e, kb _ _ ho⟩
                            case qpb =>
                              obtain ⟨T, e, _, ho⟩ := r
                              exact ⟨T, e, ho⟩
                            walk_at "my go"
                            (rename (∀ q ∈ (_ : List (Addr × Obj)), @LT.lt Nat _ _ q.1) => nwo)
                            clear nwo
                            (rename (∀ q ∈ (_ : List (Addr × Obj)), @LT.lt Nat _ _ q.1) => nwo)
                            rw [hlm] at S9
                            (rename Fr _ _ _ _ => F7); (rename News _ _ _ _ => N7)
                            refine' hR _ _ (k + 1 + n9) _ _ (lb + 1) (mds.push _) ?q1 ?q2 ?q3 ?q4 ?q5 ?q6 ?q7 ?q8 (S9.fin F7 N7 fun p hp => ?q9) (made_push hM (kp_low O S9 F7) (made_span (f := gl) N7 (.inr ⟨rfl, rfl⟩) ?qm1 ?qm2 ?qm3 ?qm6 ?qm7 ?qm4 ?qm5 ?qmk ?qmg ?ql1 ?ql2 ?ql3 ?ql6 ?ql7 ?ql4 ?ql5))
                            case q1 => first | assumption | omega
                            case q2 => first | assumption | omega
                            case q3 => first | assumption | (split <;> omega)
                            case q4 => first | assumption | (split <;> omega)
                            case q5 => first | assumption | (split <;> omega)
                            case q6 => first | assumption | omega
                            case q7 => first | assumption | omega
                            case q8 => first | omega | (rw [Array.size_push]; exact Nat.le_refl _)
                            case q9 => obtain rfl := List.mem_singleton.mp hp; k_mem
                            case qm1 => k_mem
                            case qm2 => k_mem
                            case qm3 => k_mem
                            case qm4 => k_mem
                            case qm5 => k_mem
                            case qm6 => k_mem
                            case qm7 => k_mem
                            case qmk => k_keys
                            case qmg => k_get
                            case ql1 => first | assumption | omega
                            case ql2 => exact Nat.le_trans hL (Nat.le_of_lt (nwo _ (.head _)))
                            case ql3 => exact Nat.le_trans hL (Nat.le_of_lt (nwo _ (.tail _ (.head _))))
                            case ql6 => exact Nat.le_trans hL (Nat.le_of_lt (nwo _ (.tail _ (.tail _ (.head _)))))
                            case ql7 => exact Nat.le_trans hL (Nat.le_of_lt (nwo _ (.tail _ (.tail _ (.tail _ (.head _))))))
                            case ql4 => first | assumption | omega
                            case ql5 => first | assumption | omega
                  case bad =>
                    clear X9 T9 F9 N9 S9
                    intro nm tkf g9 h9 tks9 tp hB F9 N9 ltp lc8 S9
                    rcases hF with ⟨nm', tkf', rfl, hB'⟩ | ⟨rfl, hG⟩
                    case inr => exact (row_bad_good hB hG).elim
                    obtain rfl := row_bad_bad hB hB'
                    have X9 := G.X.keeps S9.st
                    have T9 := G.T.keeps S9.st
                    walk_at "my go"
                    refine .of ?_
                    walk_at "my go"
                    (rename Fr _ _ _ _ => F7); (rename News _ _ _ _ => N7)
                    refine' hR _ _ (k + 1 + n9) u0 u1 (lb) (mds) ?q1 ?q2 ?q3 ?q4 ?q5 ?q6 ?q7 ?q8 (S9.fin F7 N7 fun p hp => ?q9) (fun v hv => (hM v hv).mono (kp_low O S9 F7))
                    case q1 => first | assumption | omega
                    case q2 => first | assumption | omega
                    case q3 => first | assumption | (split <;> omega)
                    case q4 => first | assumption | (split <;> omega)
                    case q5 => first | assumption | (split <;> omega)
                    case q6 => first | assumption | omega
                    case q7 => first | assumption | omega
                    case q8 => first | omega | (rw [Array.size_push]; exact Nat.le_refl _)
                    case q9 => obtain rfl := List.mem_singleton.mp hp; k_mem
end K_row_s
end
theorem row_s {w : World} {V : SV} {R : Result → Shared → Prop} {s : Shared} {b : Heap} {loose : List Str} {mean : ExcName → Option Value} {mg mb : Str → Option Value} {k u0 u1 lb : Int} {gl : Bool} {mds : Array Value} : K_row_s.KP w V R s b loose mean mg mb k u0 u1 lb gl mds :=
  @Classical.choose_spec _ _ K_row_s.Kex (by with_unfolding_all exact @K_row_s.at0) ((w, V, R, s, b, loose), (mean, mg, mb, k, u0, u1), (lb, gl, mds))
section
end
theorem fr_heap {g h : Heap} {L : Addr} {m : Str → Option Value} (_ : Fr g L h m) : ∃ x : Heap, x = h := ⟨h, rfl⟩
theorem news_cons {g h : Heap} {L a : Addr} {o : Obj} {news : List (Addr × Obj)} (N : News g L h news) (F : g.objs.size ≤ L) (e : h.get? a = some o) (l : @LT.lt Nat _ L a) : News g L h ((a, o) :: news) := fun p hp => by
  rcases List.mem_cons.mp hp with rfl | hp
  · exact ⟨e, Nat.ne_of_gt l, Heap.get?_none_of_le (Nat.le_trans F (Nat.le_of_lt l))⟩
  · exact N p hp
section
variable {w : World} {V : SV} {b g h h' : Heap} {L : Addr} {loose : List Str} {mean : ExcName → Option Value} {mg mb : Str → Option Value} {k u0 u1 lb : Int} {gl : Bool} {mds : Array Value} {ex : List (Addr × Obj)} {m : Str → Option Value}
noncomputable abbrev lawM (V : SV) (dl : Addr) (M : Str → Option Value) (tv nv : Option Value) : Str → Option Value := fun z => if z = Str.ofString "turn" then tv else if z = Str.ofString "number" then nv else if z = Str.ofString "deck" then some (.ref V.dk) else if z = Str.ofString "w" then some (.ref V.wx) else if z = Str.ofString "maker" then some (.ref V.mk) else if z = Str.ofString "deeds" then some (.ref dl) else M z
inductive LJ (w : World) (V : SV) (g : Heap) (L dl : Addr) (M : Str → Option Value) (ex : List (Addr × Obj)) (i : Nat) (h : Heap) : Prop
  | mk {k u0 u1 lb : Int} {gl : Bool} {mds : Array Value} {tv nv : Option Value} : 0 ≤ k → k ≤ 5 + 21 * i → 0 ≤ u0 → 0 ≤ u1 → u0 + u1 ≤ V.vm → 0 ≤ lb → lb ≤ i → mds.size ≤ i → Fr g L h (lawM V dl M tv nv) → LawSt w V g L k u0 u1 lb gl mds ex h → LJ w V g L dl M ex i h
theorem VOK.top (O : VOK w V b) {lm : Nat} (hl : @LT.lt Nat _ V.mm lm) {kt c5 d0 d1 a0 a1 a2 : Tok} {un cm cc ep : Nat} {es : Array DictEntry} {p1 p2 p3 p4 p5 : Array Value} {tr : List (Addr × Obj)} {p : Addr × Obj} (hp : p ∈ rowsL w V k u0 u1 lb gl mds kt c5 d0 d1 un cm cc a0 a1 a2 es ep p1 p2 p3 p4 p5 tr) : @LT.lt Nat _ p.1 lm ∨ p ∈ tr :=
  (show ∀ q ∈ rowsL w V k u0 u1 lb gl mds kt c5 d0 d1 un cm cc a0 a1 a2 es ep p1 p2 p3 p4 p5 tr, @LT.lt Nat _ q.1 lm ∨ q ∈ tr from (allc (.inl (Nat.lt_trans (O.lt 6 16 rfl rfl rfl) hl)) (allc (.inl (Nat.lt_trans (O.lt 8 16 rfl rfl rfl) hl)) (allc (.inl (Nat.lt_trans (O.lt 9 16 rfl rfl rfl) hl)) (allc (.inl (Nat.lt_trans (O.lt 10 16 rfl rfl rfl) hl)) (allc (.inl (Nat.lt_trans (O.lt 13 16 rfl rfl rfl) hl)) (allc (.inl (Nat.lt_trans (O.lt 14 16 rfl rfl rfl) hl)) (allc (.inl (Nat.lt_trans (O.lt 7 16 rfl rfl rfl) hl)) (allc (.inl (Nat.lt_trans (O.lt 12 16 rfl rfl rfl) hl)) (allc (.inl (Nat.lt_trans (O.lt 11 16 rfl rfl rfl) hl)) (allc (.inl (Nat.lt_trans (O.lt 15 16 rfl rfl rfl) hl)) (allc (.inl hl) (allc (.inl (Nat.lt_trans (O.lt 0 16 rfl rfl rfl) hl)) (allc (.inl (Nat.lt_trans (O.lt 1 16 rfl rfl rfl) hl)) (allc (.inl (Nat.lt_trans (O.lt 2 16 rfl rfl rfl) hl)) (allc (.inl (Nat.lt_trans (O.lt 3 16 rfl rfl rfl) hl)) (allc (.inl (Nat.lt_trans (O.lt 4 16 rfl rfl rfl) hl)) fun p hp => .inr hp))))))))))))))))) p hp
theorem LJ.stable {dl I : Addr} {M : Str → Option Value} {dlO : Obj} {i : Nat} (O : VOK w V b) (hI : V.lm0 = (I : Nat) + 1) (hd : @LT.lt Nat _ dl I) (hm : @LT.lt Nat _ V.mm I) (hL : @LT.lt Nat _ L I) (J : LJ w V g L dl M [(dl, dlO)] i h) (kp : ∀ a o, a ≠ I → h.get? a = some o → h'.get? a = some o) : LJ w V g L dl M [(dl, dlO)] i h' := by
  cases J with
  | @mk k u0 u1 lb gl mds tv nv b1 b2 b3 b4 b5 b6 b7 b8 F LS =>
  refine .mk (gl := gl) b1 b2 b3 b4 b5 b6 b7 b8 ⟨F.ns.at' fun o e => kp _ o (Nat.ne_of_lt hL) e, fun a o e => kp a o (Nat.ne_of_lt (Nat.lt_trans (Nat.lt_of_lt_of_le (Heap.lt_size e) F.above) hL)) (F.keep a o e), F.above⟩ ?_
  cases LS with
  | mk hn hN hM hT hlo N =>
  refine .mk hn hN hM hT hlo fun p hp => ⟨kp _ _ (fun q => ?_) (N p hp).1, (N p hp).2⟩
  rcases List.mem_append.mp hp with hp | hp
  · obtain rfl := List.mem_singleton.mp hp
    exact absurd q (Nat.ne_of_lt hd)
  · rcases O.top hm hp with l | l
    · exact absurd q (Nat.ne_of_lt l)
    · have := hlo p l
      rw [hI, q] at this
      exact absurd this (Nat.not_le_of_lt (Nat.lt_succ_self _))
theorem deed_l {A : Around} {Q : Value → Shared → Prop} {E : Value → Shared → Prop} {s : Shared} {f : Addr} (hf : f = 406 ∨ f = 411 ∨ f = 416 ∨ f = 423 ∨ f = 430) (G : Gd w loose mean mg mb b) (O : VOK w V b) (hh : A.handled = none) (hfr : A.frames = some [V.env1]) (h3 : A.depth ≤ 310) (h4 : A.units ≤ 1000) (hL : V.L1 = L) (st : b.StaysIn g)
    (F : Fr g L s.heap m) (LS : LawSt w V g L k u0 u1 lb gl mds ex s.heap) (hex : ∀ p ∈ ex, @LT.lt Nat _ V.mm p.1) (hl0 : @LT.lt Nat _ L V.lm0) (hsz : V.lm0 ≤ s.heap.objs.size) (hk0 : 0 ≤ k) (hk1 : k < 900) (hu0 : 0 ≤ u0) (hu1 : 0 ≤ u1) (hu2 : u0 + u1 ≤ V.vm) (hl1 : lb ≤ 700) (hmz : mds.size ≤ 100)
    (hR : ∀ h' tks k' u0' u1' lb' mds', k ≤ k' → k' ≤ k + 20 → 0 ≤ u0' → 0 ≤ u1' → u0' + u1' ≤ V.vm → lb ≤ lb' → lb' ≤ lb + 1 → mds'.size ≤ mds.size + 1 → Fr g L h' m → LawSt w V g L k' u0' u1' lb' gl mds' ex h' → Q (.bool true) ⟨h', s.gens, s.drawn, tks, s.os⟩) :
    wpC (model PG w) A (call (.ref f) [.ref V.dk, .ref V.wx, .ref V.mk]) Q E s := by
  obtain ⟨d, hd, S, hM, o, ho, hod⟩ := law_to F LS st hL
  have key : codeC (model PG w) { depth := 310, units := 1000, frames := some [V.env1], handled := none, guards := none } (.call (.ref f) ⟨[.ref V.dk, .ref V.wx, .ref V.mk], []⟩) (fun r s' => match r with | .ok (.ret v) => Q v s' | .ok _ => False | .error e => E e s') s := by
    have fin : ∀ h' tks k' u0' u1' lb' mds', k ≤ k' → k' ≤ k + 20 → 0 ≤ u0' → 0 ≤ u1' → u0' + u1' ≤ V.vm → lb ≤ lb' → lb' ≤ lb + 1 → mds'.size ≤ mds.size + 1 → St w { V with od := d } b s.heap h' [] k' u0' u1' lb' u0' u1' lb' gl mds' → (∀ v ∈ mds', MadeOK w V.lm0 h' v) → Q (.bool true) ⟨h', s.gens, s.drawn, tks, s.os⟩ :=
      fun h' tks k' u0' u1' lb' mds' z1 z2 z3 z4 z5 z6 z7 z8 S' M' => let ⟨F', L'⟩ := law_of O hL F LS ho hod hex hl0 S' M'; hR h' tks k' u0' u1' lb' mds' z1 z2 z3 z4 z5 z6 z7 z8 F' L'
    rcases hf with rfl | rfl | rfl | rfl | rfl
    · exact text_s (V := { V with od := d }) G (O.od hd) rfl S hsz hk0 hk1 hu0 hu1 hu2 hl1 hmz hM fin
    · exact nulls_s (V := { V with od := d }) G (O.od hd) rfl S hsz hk0 hk1 hu0 hu1 hu2 hl1 hM hmz fin
    · exact row_s (V := { V with od := d }) G (O.od hd) rfl S hsz hk0 hk1 hu0 hu1 hu2 hl1 hmz hM fin
    · exact dict_s (V := { V with od := d }) G (O.od hd) rfl S hsz hk0 hk1 hu0 hu1 hu2 hl1 hmz hM fin
    · exact room_s (V := { V with od := d }) G (O.od hd) rfl S hsz hk0 hk1 hu0 hu1 hu2 hl1 hmz hM fin
  exact wpC_call (codeC_room key hh h3 (.inr hfr) rfl h4)
end
theorem nums0 {w : World} : Nums w #[] 0 := by refine ⟨?_, Nat.le_refl _⟩; intro e he; simp at he
theorem tab0 {lim : Nat} {q : Str} {tr : List (Addr × Obj)} : TabY lim {} q tr #[] := ⟨trivial, fun pos c e => by simp [codeAmong] at e⟩
theorem updM_one {a : Addr} {o : Obj} : ∀ {tr : List (Addr × Obj)}, (∀ p ∈ tr, a ≠ p.1) → UpdM [(a, o)] tr tr
  | [], _ => .nil
  | q :: r, h => .keep (fun x hx => by obtain rfl := List.mem_singleton.mp hx; exact h q (.head _)) (updM_one fun p hp => h p (.tail _ hp))
section
variable {M : Model} {A : Around} {E : Value → Shared → Prop} {s : Shared} {env : Env}
theorem wpC_isTrue_Not {x : Expr} {pos : Pos} {whole : Sem Value} {Q : Bool → Shared → Prop} (h : wpC M A (PySem.isTrue x env (eval x env)) (fun b s₁ => Q (!b) s₁) E s) : wpC M A (PySem.isTrue (.UnaryOp .Not x pos) env whole) Q E s := by
  rw [arm_isTrue_UnaryOp]
  exact wpC_bind (wpC_mono h (fun b s' q => wpC_pure q) fun _ _ e => e)
theorem wpC_isTrue_value {e : Expr} {whole : Sem Value} {Q : Bool → Shared → Prop} (h : wpC M A whole (fun v s₁ => wpAny M A (truthy v) Q E s₁) E s)
    (hp : PySem.isTrue e env whole = (do let v ← whole; standAt e.pos; holding [v] (truthy v)) := by rfl) : wpC M A (PySem.isTrue e env whole) Q E s := by
  rw [hp]
  exact wpC_bind (wpC_mono h (fun v s' q => wpC_bind (wpC_standAt (wpC_holding (.of q)))) fun _ _ e => e)
theorem wpC_CallF {fe : Expr} {pos : Pos} {args : List Expr} {keywords : List Keyword} {Q : Value → Shared → Prop}
    (h : wpAny M A (eval fe env) (fun f s₁ => wpC M A (callWith pos f [] (backTo pos (starEach args env)) (backToKw pos (keywordEach keywords env))) Q E s₁) E s)
    (he : eval (.Call fe args keywords pos) env = (do callWith pos (← eval fe env) [] (backTo pos (starEach args env)) (backToKw pos (keywordEach keywords env))) := by rfl) : wpC M A (eval (.Call fe args keywords pos) env) Q E s := by
  rw [he]
  exact wpC_after h
end
inductive TurnMid (w : World) (V : SV) (g : Heap) (L dl : Addr) (M : Str → Option Value) (ex : List (Addr × Obj)) (i : Nat) (s : Shared) : Flow → Shared → Prop
  | mk {h : Heap} {tk : Nat} : LJ w V g L dl M ex i h → TurnMid w V g L dl M ex i s .next ⟨h, s.gens, s.drawn, tk, s.os⟩
theorem turn_fr {g h : Heap} {L dl : Addr} {V : SV} {M : Str → Option Value} {tv nv nv' tv' : Option Value} (F : Fr g L h (fun z => if z = Str.ofString "number" then nv' else if z = Str.ofString "turn" then tv' else lawM V dl M tv nv z)) : Fr g L h (lawM V dl M tv' nv') := fr_eq F fun z => by
  have d : Str.ofString "number" ≠ Str.ofString "turn" := by decide
  simp only [lawM]
  by_cases q : z = Str.ofString "turn"
  · rw [if_neg (by rw [q]; exact d.symm), if_pos q, if_pos q]
  · by_cases r : z = Str.ofString "number"
    · rw [if_pos r, if_neg q, if_pos r]
    · rw [if_neg r, if_neg q, if_neg q, if_neg r, if_neg q, if_neg r]
theorem wpC_And2 {M : Model} {A : Around} {E : Value → Shared → Prop} {s : Shared} {env : Env} {e1 e2 : Expr} {pos : Pos} {Q : Value → Shared → Prop} (h : wpC M A (eval e1 env) (fun v s₁ => v = .bool true ∧ wpC M A (eval e2 env) Q E s₁) E s)
    (he : evalEach [e1, e2] env = [eval e1 env, eval e2 env] := by rfl) : wpC M A (eval (.BoolOp .And [e1, e2] pos) env) Q E s := by
  rw [arm_eval_BoolOp, he]
  change wpC M A (_ >>= _) Q E s
  refine wpC_bind (wpC_mono h (fun v s₁ k => ?_) fun _ _ e => e)
  obtain ⟨rfl, k⟩ := k
  refine wpC_bind (wpC_standAt (wpC_bind (wpC_holding (.of (wpAny_of_eq (a := true) rfl ?_)))))
  exact k
theorem TabY.low {lim lim' : Nat} {g : Heap} {q : Str} {xs : List (Addr × Obj)} {ps : Array Value} (hl : lim' ≤ lim) (T : TabY lim g q xs ps) : TabY lim' g q xs ps :=
  ⟨T.1, fun pos c e => (T.2 pos c e).imp fun _ => .imp fun _ => .imp fun _ => .imp fun _ x => ⟨x.1, x.2.1, Nat.le_trans hl x.2.2.1, x.2.2.2⟩⟩
theorem LawSt.low {w : World} {V : SV} {g h : Heap} {L : Addr} {k u0 u1 lb : Int} {gl : Bool} {mds : Array Value} {ex : List (Addr × Obj)} {lm : Nat} (hl : lm ≤ V.lm0) (LS : LawSt w V g L k u0 u1 lb gl mds ex h) : LawSt w { V with lm0 := lm } g L k u0 u1 lb gl mds ex h := by
  cases LS with
  | mk hn hN hM hT hlo N =>
  refine .mk hn hN (fun v hv => ?_) ⟨hT.1.low hl, hT.2.1.low hl, hT.2.2.1.low hl, hT.2.2.2.1.low hl, hT.2.2.2.2.low hl⟩ (fun p hp => Nat.le_trans hl (hlo p hp)) N
  cases hM v hv with
  | mk h1 h2 h3 => exact .mk (Nat.le_trans hl h1) h2 (let ⟨l, S, D⟩ := h3; ⟨l, S, fun p hp => ⟨Nat.le_trans hl (D p hp).1, (D p hp).2⟩⟩)
section
variable {w : World} {A : Around} {R : Result → Shared → Prop} {s : Shared} {b : Heap} {loose : List Str} {mean : ExcName → Option Value} {mg mb : Str → Option Value}
set_option maxRecDepth 100000
set_option maxHeartbeats 4000000
theorem level_c {mk mx lm sv jr mm fr : Addr} {gl : Bool} {u0 u1 lb ls : Int} {a0 a1 a2 a3 t0 t1 t2 t3 t4 t5 t6 t7 t8 t9 : Tok} {mn : Nat} (st : b.StaysIn s.heap) (G : Gd w loose mean mg mb b)
    (D : Led b s.heap [(mk, instObj 348 mx), (mx, makerO w lm sv jr mm fr gl u0 u1 lb ls a0 a1 a2 a3 t0 t1 t2 t3 t4 t5 t6 t7 t8 t9 mn), (sv, listOf #[] 0)])
    (hA : A = { depth := 830, units := 4400, frames := none, handled := none, guards := none })
    (hR : ∀ h' tks tk, After s.heap h' [] → R (.ok (.ret (.int 0 tk))) ⟨h', s.gens, s.drawn, tks, s.os⟩) :
    codeAny (model PG w) A (.call (.ref 295) ⟨[.ref mk], []⟩) R s := by
  subst hA
  have Xs := G.X.keeps st
  refine' enterE (binds := [(Str.ofString "self", .ref mk)]) st G D ?k6 ?k7 ?k8 ?k9 ?kB ?_ ?c2 ?c3 ?c4 ?c5
  walk_at "my enter"
  intro g L' h' Z F' N'
  have G' := G.keeps Z.st
  have ⟨X', T', _, _, _, _, _⟩ := G'
  walk_at "my go"
  (rename Fr _ _ _ _ => F9); (rename News _ _ _ _ => N9)
  refine' hR _ _ _ (after_part F9 N9 Z ?c ?l)
  case c => exact fun _ hp => (nomatch hp)
  case l => walk_at "my part"
theorem level_w {E : Value → Shared → Prop} {Q : Value → Shared → Prop} {g : Heap} {L : Addr} {m : Str → Option Value} {news : List (Addr × Obj)} {e : Bool} {mk mx lm sv jr mm fr : Addr} {gl : Bool} {u0 u1 lb ls : Int} {a0 a1 a2 a3 t0 t1 t2 t3 t4 t5 t6 t7 t8 t9 : Tok} {mn : Nat}
    (F : Fr g L s.heap m) (N : News g L s.heap news) (G : Gd w loose mean mg mb b) (stg : b.StaysIn g) (hA0 : A.handled = none) (hA3 : A.depth ≤ 830) (hA4 : A.units ≤ 4300)
    (hm : ∀ p ∈ [(mk, instObj 348 mx), (mx, makerO w lm sv jr mm fr gl u0 u1 lb ls a0 a1 a2 a3 t0 t1 t2 t3 t4 t5 t6 t7 t8 t9 mn), (sv, listOf #[] 0)], p ∈ news)
    (h : ∀ h' tks tk, Fr g L h' m → News g L h' news → Q (.int 0 tk) ⟨h', s.gens, s.drawn, tks, s.os⟩) :
    wpAny (model PG w) A (getAttr (.ref mk) (Str.ofString "level") e) Q E s := by
  have X₀ := G.X.keeps stg
  have n1 := hm (mk, _) (.head _)
  have n2 := hm (mx, _) (.tail _ (.head _))
  have st : b.StaysIn s.heap := fun a o e => F.keep _ _ (stg _ _ e)
  k_dflt (refine' get_prop ?k1 ?k2 ?k3 ?k4 ?k5 ?k6 ?k7 ?k8 ?k9 ?_; (case k1 => exact F); (case k2 => exact X₀); (case k3 => k_inst); (case k4 => k_is); (case k5 => k_is); (case k6 => k_is); (case k7 => k_is); (case k8 => k_is); (case k9 => k_is))
  refine codeAny_room (level_c (A := { depth := 830, units := 4400, frames := none, handled := none, guards := none }) st G (led_of N stg hm) rfl fun h' tks tk Af => ?_) hA0 hA3 (.inl rfl) rfl (Nat.le_trans (Nat.succ_le_succ hA4) (by decide))
  dsimp only
  refine handed_on rfl ?_
  exact same_go F N Af fun F' N' => h _ _ _ F' N'
end
theorem ents3 {w : World} {k1 k2 k3 : String} {v1 v2 v3 : Value} : ∀ {es : List DictEntry}, StrEnts w es [(Str.ofString k1, v1), (Str.ofString k2, v2), (Str.ofString k3, v3)] → ∃ t1 t2 t3, es = [ent w k1 t1 v1, ent w k2 t2 v2, ent w k3 t3 v3]
  := by
  intro es h
  cases es with
  | nil => exact h.elim
  | cons a es =>
  obtain ⟨⟨t1, rfl⟩, h⟩ := h
  cases es with
  | nil => exact h.elim
  | cons a es =>
  obtain ⟨⟨t2, rfl⟩, h⟩ := h
  cases es with
  | nil => exact h.elim
  | cons a es =>
  obtain ⟨⟨t3, rfl⟩, h⟩ := h
  cases es with
  | nil => exact ⟨t1, t2, t3, rfl⟩
  | cons a es => exact h.elim

section
variable {w : World} {A : Around} {R : Result → Shared → Prop} {s : Shared} {b : Heap} {loose : List Str} {mean : ExcName → Option Value} {mg mb : Str → Option Value}
set_option maxRecDepth 100000
set_option maxHeartbeats 4000000
theorem deck_w {E : Value → Shared → Prop} {Q : Value → Shared → Prop} {g : Heap} {L : Addr} {m : Str → Option Value} {news : List (Addr × Obj)} {l : Addr} {vs : List Value} {ns : List Int}
    (F : Fr g L s.heap m) (N : News g L s.heap news) (G : Gd w loose mean mg mb b) (stg : b.StaysIn g) (hA0 : A.handled = none) (hA3 : A.depth ≤ 830) (hA4 : A.units ≤ 4400) (hl : g.IsList l vs.toArray) (hv : IntsAre vs ns) (hz : vs.length ≤ 63)
    (hR : ∀ D C vs' ns' h' tks kt k1 k2 n c, After s.heap h' [] → New s.heap h' [(D, deckO w C 0 kt k1 k2 n), (C, listOf vs'.toArray c)] → @LT.lt Nat _ D C → IntsAre vs' ns' → ns'.length ≤ 60 → Q (.ref D) ⟨h', s.gens, s.drawn, tks, s.os⟩) :
    wpAny (model PG w) A (call (.ref 364) [.ref l]) Q E s :=
  wpAny_call (codeAny_room (deck_c (A := { depth := 830, units := 4400, frames := none, handled := none, guards := none }) (fun a o e => F.keep _ _ (stg _ _ e)) G (stays_list' F.keep hl) hv hz rfl hR) hA0 hA3 (.inl rfl) rfl hA4)
theorem kwG16g16n1 : True := by
  k_with "call ref" => (k_here; (with_reducible show wpAny _ _ (call (Value.ref 364) _) _ _ _); k_dflt (refine' deck_w ?qFx193 ?qNx193 ?qGx193 ?qstx193 ?qa0x193 ?qa3x193 ?qa4x193 ?qlx193 ?qvx193 ?qzx193 ?_; (case qFx193 => k_asm); (case qNx193 => first | k_asm | exact News.nil); (case qGx193 => assumption); (case qstx193 => walk_at "my st"); (case qa0x193 => exact rfl); (case qa3x193 => exact Nat.le_of_ble_eq_true rfl); (case qa4x193 => exact Nat.le_of_ble_eq_true rfl); (case qlx193 => assumption); (case qvx193 => assumption); (case qzx193 => assumption); k_whole); intro dk cl vs9 ns9 h' tks' kt9 kt1 kt2 dn cc9 af' nw' hdc9 hvs hlen; walk_at "my newd")
  k_with "call ref" => (k_here; (with_reducible show wpAny _ _ (call (Value.ref 371) _) _ _ _); (with_reducible rename Fr _ _ _ _ => dF'); (with_reducible rename News _ _ _ _ => dN'); k_dflt (refine' draw_w (s := ⟨_, _, _, _, _⟩) dF' dN' G Z.st ?za0xe14 ?za3xe14 ?za4xe14 ?zmxe14 ?zlxe14 ?znexe14 ?zvxe14 ?zlenxe14 ?zk0xe14 ?zk1xe14 ?zb0xe14 ?zb1xe14 ?_; (case za0xe14 => exact rfl); (case za3xe14 => exact Nat.le_of_ble_eq_true rfl); (case za4xe14 => exact Nat.le_of_ble_eq_true rfl); (case zmxe14 => walk_at "my sub"); (case zlxe14 => exact News.isList dN' (by k_mem)); (case znexe14 => exact Nat.ne_of_gt (by assumption)); (case zvxe14 => assumption); (case zlenxe14 => assumption); (case zk0xe14 => first | assumption | decide | omega); (case zk1xe14 => first | assumption | decide | omega); (case zb0xe14 => first | decide | omega); (case zb1xe14 => first | decide | omega); k_whole); intro r9 tk1' tk2' h' tks' r0' r1' af'; walk_at "my went")
  k_with "call ref" => (k_here; (with_reducible show wpAny _ _ (call (Value.ref 270) [] _) _ _ _); (with_reducible rename Fr _ _ _ _ => dF'); k_dflt (refine' limits_w (s := ⟨_, _, _, _, _⟩) dF' G Z.st ?ykwxb4c ?ya0xb4c ?ya3xb4c ?ya4xb4c ?_; (case ykwxb4c => rfl); (case ya0xb4c => exact rfl); (case ya3xb4c => exact Nat.le_of_ble_eq_true rfl); (case ya4xb4c => exact Nat.le_of_ble_eq_true rfl); k_whole); intro lm lx h' tks' lim ln hlx af' nw' hlim; walk_at "my newd")
  k_with "call ref" => (k_here; (with_reducible show wpAny _ _ (call (Value.ref 348) [_]) _ _ _); (with_reducible rename Fr _ _ _ _ => dF'); k_dflt (refine' maker_w (s := ⟨_, _, _, _, _⟩) dF' G Z.st ?xa0x481 ?xa3x481 ?xa4x481 ?_; (case xa0x481 => exact rfl); (case xa3x481 => exact Nat.le_of_ble_eq_true rfl); (case xa4x481 => exact Nat.le_of_ble_eq_true rfl); k_whole); intro mk mx sv jr mm fr h' tks' ma0 ma1 ma2 ma3 mt0 mt1 mt2 mt3 mt4 mt5 mt6 mt7 mt8 mt9 mn hmx hmk hsv af' nw'; walk_at "my newd")
  k_with "eval Dict" => ((fail_if_success (fail_if_success (have zz := hz))); (k_here; k_dflt (refine' my_disp ?qFx19c ?qNx19c ?qax19c ?qlx19c ?qex19c ?qnx19c ?_; (case qFx19c => k_asm); (case qNx19c => first | k_asm | exact News.nil); (case qax19c => rfl); (case qlx19c => rfl); (case qex19c => exact List.cons_ne_nil _ _); (case qnx19c => exact Nat.le_of_ble_eq_true rfl)); intro d' h' o' F' N' l1 l2 hd'; (try k_lt l1)))
  k_with "my gokd" => ((try k_fold); repeat' ((fail_if_success (with_reducible show PySem.W.KdnMade _ _ _ _ _ _ _)); first | (k_unfold; (try dsimp only)) | (walk1; (try dsimp only)) | (dsimp only; walk1)))
  k_with "my all2" => first | assumption | exact List.forall_mem_nil _ | (refine' allc ?axd4a ?bxd4a; (case axd4a => k_dflt k_ne); (case bxd4a => walk_at "my all2"))
  k_with "my updf" => first | ((with_reducible refine' UpdF.head ?qhx0fe); (case qhx0fe => walk_at "my all2")) | (refine' UpdF.tail ?qnx0fe ?qtx0fe; (case qnx0fe => k_dflt k_ne); (case qtx0fe => walk_at "my updf"))
  exact trivial
local macro_rules | `(tactic| k_updF) => `(tactic| walk_at "my updf")
theorem kwG16g16n2 : True := by
  k_with "subscriptTail" => (k_here; (with_reducible show wpAny _ _ (subscriptTail _ _ (Value.ref _) (Value.int _ _)) _ _ _); k_dflt (refine' tail_item ?qFx577 ?qNx577 ?qmx577 ?q0x577 ?q1x577 ?qzx577 ?_; (case qFx577 => k_asm); (case qNx577 => k_asm); (case qmx577 => k_mem); (case q0x577 => assumption); (case q1x577 => first | assumption | (simp; omega)); (case qzx577 => first | omega | decide); k_whole); intro vi9 hi9)
  k_with "my upd2" => first | ((with_reducible refine' Upd.head ?qhx527); (case qhx527 => walk_at "my all2")) | (refine' Upd.tail ?qnx527 ?qtx527; (case qnx527 => k_dflt k_ne); (case qtx527 => walk_at "my upd2"))
  k_with "setItem ref str" => (k_here; k_dflt (refine' dsetR ?Fx8d1 ?Nx8d1 ?kx8d1 ?mx8d1 ?ex8d1 ?Ux8d1 ?zx8d1 ?_; (case Fx8d1 => k_asm); (case Nx8d1 => k_asm); (case mx8d1 => k_mem); (case kx8d1 => k_keys); (case ex8d1 => walk_at "my putr"); (case Ux8d1 => walk_at "my upd2"); (case zx8d1 => exact Nat.le_of_ble_eq_true rfl); k_whole); intro h' F' N'; (try k_sweep))
  k_with "setAttr ref" => (k_here; k_dflt (refine' set_dict ?k1xa8a ?k2xa8a ?k3xa8a ?k4xa8a ?k5xa8a ?k6xa8a ?k7xa8a ?k8xa8a ?k9xa8a ?k10xa8a (PutR.eq ?k11xa8a) ?k12xa8a ?k13xa8a ?_; (case k1xa8a => k_asm); (case k2xa8a => k_asm); (case k3xa8a => k_asm); (case k4xa8a => k_inst); (case k5xa8a => exact rfl); (case k6xa8a => k_is); (case k7xa8a => k_is); (case k8xa8a => k_is); (case k9xa8a => k_is); (case k10xa8a => k_get); (case k11xa8a => walk_at "my putr"); (case k12xa8a => walk_at "my upd2"); (case k13xa8a => exact Nat.le_of_ble_eq_true rfl); k_whole); intro h' F' N'; (try k_sweep))
  k_with "my updd" => first | exact UpdM.nil | (refine' UpdM.keep ?ax26d ?bx26d; (case ax26d => walk_at "my nes"); (case bx26d => walk_at "my updd")) | (refine' UpdM.upd ?ax26d ?bx26d; (case ax26d => k_mem); (case bx26d => walk_at "my updd")) | exact updM_one (by assumption)
  k_with "getAttr ref" => (k_here; (with_reducible show wpAny _ _ (getAttr (Value.ref _) (Str.ofString "level") _) _ _ _); (with_reducible rename Fr _ _ _ _ => dF'); (with_reducible rename News _ _ _ _ => dN'); k_dflt (refine' level_w (s := ⟨_, _, _, _, _⟩) dF' dN' G Z.st ?la0xf13 ?la3xf13 ?la4xf13 ?lmxf13 ?_; (case la0xf13 => exact rfl); (case la3xf13 => exact Nat.le_of_ble_eq_true rfl); (case la4xf13 => exact Nat.le_of_ble_eq_true rfl); (case lmxf13 => walk_at "my sub"); k_whole); intro h' tks' tk' F' N'; (try k_sweep))
  exact trivial
end
noncomputable section
namespace K_law_second
def KP (w : World) (R : Result → Shared → Prop) (s : Shared) (b : Heap) (loose : List Str) (mean : ExcName → Option Value) (mg mb : Str → Option Value) (g : Heap) (L' : Addr) (V : SV) (dl : Addr) (M : Str → Option Value) (h : Heap) (tk c : Nat) (kt c5 d0 d1 a0 a1 a2 : Tok) (un cm cc ep : Nat) : Prop := ∀ {name qual : Str} {params : Arguments} {body : List Stmt} {scope : Scope} {dV kV doc pm cdv ct oc : Value} {an od : Option Addr} {osl : Array (Option Value)} (ho : (hd.heap_1 w.params).lookup 437 = some ⟨oc, od, .func (fnOf name qual params body scope dV kV doc pm an cdv ct), osl⟩) (hb : b.objs.size ≤ s.heap.objs.size) (st : b.StaysIn s.heap) (G : Gd w loose mean mg mb b) (Z : Got b s.heap g [(401, tabObj #[]), (408, tabObj #[]), (413, tabObj #[]), (418, tabObj #[]), (425, tabObj #[])] L') (hL : V.L1 = L') (henv : V.env1 = envOf qual scope L' 437 cdv) (hO : ∀ lm : Nat, @LT.lt Nat _ V.mm lm → b.objs.size ≤ lm → VOK w { V with lm0 := lm } b) (hmd : @LT.lt Nat _ V.mm dl) (q1 : M (Str.ofString "deck") = some (.ref V.dk)) (q2 : M (Str.ofString "w") = some (.ref V.wx)) (q3 : M (Str.ofString "maker") = some (.ref V.mk)) (q4 : M (Str.ofString "deeds") = some (.ref dl)) (q5 : M (Str.ofString "turn") = none) (q6 : M (Str.ofString "number") = none) (F : Fr g L' h M) (N : News g L' h ((dl, listOf #[.ref 406, .ref 406, .ref 411, .ref 416, .ref 416, .ref 423, .ref 430] c) :: rowsL w V 4 0 0 0 false #[] kt c5 d0 d1 un cm cc a0 a1 a2 #[] ep #[] #[] #[] #[] #[] [])) (hR : ∀ h' tks p1 p2 p3 p4 p5, After s.heap h' [(401, tabObj p1), (408, tabObj p2), (413, tabObj p3), (418, tabObj p4), (425, tabObj p5)] → R (.ok (.ret (.bool true))) ⟨h', s.gens, s.drawn, tks, s.os⟩), wpC (model PG w) ({ depth := 305, units := 900, frames := some [], handled := none, guards := none : Around }.deeper (envOf qual scope L' 437 cdv)) (execs (body.drop 7) (envOf qual scope L' 437 cdv)) (fun fl s' => EndF R fl s')
      (fun e s' => wpAny (model PG w) ({ depth := 305, units := 900, frames := some [], handled := none, guards := none : Around }.deeper (envOf qual scope L' 437 cdv)) (leaving (envOf qual scope L' 437 cdv) e) (fun _ s'' => R (.error e) s'') (fun e' s'' => R (.error e') s'') s') ⟨h, s.gens, s.drawn, tk, s.os⟩
def KT (x : (World × (Result → Shared → Prop) × Shared × Heap × List Str × (ExcName → Option Value)) × ((Str → Option Value) × (Str → Option Value) × Heap × Addr × SV × Addr) × ((Str → Option Value) × Heap × Nat × Nat × Tok × Tok) × (Tok × Tok × Tok × Tok × Tok × Nat) × (Nat × Nat × Nat)) : Prop := KP x.1.1 x.1.2.1 x.1.2.2.1 x.1.2.2.2.1 x.1.2.2.2.2.1 x.1.2.2.2.2.2 x.2.1.1 x.2.1.2.1 x.2.1.2.2.1 x.2.1.2.2.2.1 x.2.1.2.2.2.2.1 x.2.1.2.2.2.2.2 x.2.2.1.1 x.2.2.1.2.1 x.2.2.1.2.2.1 x.2.2.1.2.2.2.1 x.2.2.1.2.2.2.2.1 x.2.2.1.2.2.2.2.2 x.2.2.2.1.1 x.2.2.2.1.2.1 x.2.2.2.1.2.2.1 x.2.2.2.1.2.2.2.1 x.2.2.2.1.2.2.2.2.1 x.2.2.2.1.2.2.2.2.2 x.2.2.2.2.1 x.2.2.2.2.2.1 x.2.2.2.2.2.2
theorem Kex : ∃ x, KT x → ∀ y, KT y := drink ((anyW, (fun _ _ => True), {}, default, default, default), (default, default, default, default, anyV, default), (default, default, default, default, default, default), (default, default, default, default, default, default), (default, default, default)) _
@[irreducible] def Kx0 := Classical.choose Kex
@[irreducible] def w := Kx0.1.1
@[irreducible] def R := Kx0.1.2.1
@[irreducible] def s := Kx0.1.2.2.1
@[irreducible] def b := Kx0.1.2.2.2.1
@[irreducible] def loose := Kx0.1.2.2.2.2.1
@[irreducible] def mean := Kx0.1.2.2.2.2.2
@[irreducible] def mg := Kx0.2.1.1
@[irreducible] def mb := Kx0.2.1.2.1
@[irreducible] def g := Kx0.2.1.2.2.1
@[irreducible] def L' := Kx0.2.1.2.2.2.1
@[irreducible] def V := Kx0.2.1.2.2.2.2.1
@[irreducible] def dl := Kx0.2.1.2.2.2.2.2
@[irreducible] def M := Kx0.2.2.1.1
@[irreducible] def h := Kx0.2.2.1.2.1
@[irreducible] def tk := Kx0.2.2.1.2.2.1
@[irreducible] def c := Kx0.2.2.1.2.2.2.1
@[irreducible] def kt := Kx0.2.2.1.2.2.2.2.1
@[irreducible] def c5 := Kx0.2.2.1.2.2.2.2.2
@[irreducible] def d0 := Kx0.2.2.2.1.1
@[irreducible] def d1 := Kx0.2.2.2.1.2.1
@[irreducible] def a0 := Kx0.2.2.2.1.2.2.1
@[irreducible] def a1 := Kx0.2.2.2.1.2.2.2.1
@[irreducible] def a2 := Kx0.2.2.2.1.2.2.2.2.1
@[irreducible] def un := Kx0.2.2.2.1.2.2.2.2.2
@[irreducible] def cm := Kx0.2.2.2.2.1
@[irreducible] def cc := Kx0.2.2.2.2.2.1
@[irreducible] def ep := Kx0.2.2.2.2.2.2
set_option maxRecDepth 100000
set_option maxHeartbeats 4000000
theorem at0 : KP w R s b loose mean mg mb g L' V dl M h tk c kt c5 d0 d1 a0 a1 a2 un cm cc ep := by
  intro name qual params body scope dV kV doc pm cdv ct oc an od osl ho hb st G Z hL henv hO hmd q1 q2 q3 q4 q5 q6 F N hR
  have e0 := ho.symm.trans (by k_dflt k_is)
  cases e0
  have G' := G.keeps Z.st
  have ⟨X', T', _, _, _, _, _⟩ := G'
  have tl1 : @LT.lt Nat _ 401 L' := Z.lt (401, _) (.head _)
  have tl2 : @LT.lt Nat _ 408 L' := Z.lt (408, _) (.tail _ (.head _))
  have tl3 : @LT.lt Nat _ 413 L' := Z.lt (413, _) (.tail _ (.tail _ (.head _)))
  have tl4 : @LT.lt Nat _ 418 L' := Z.lt (418, _) (.tail _ (.tail _ (.tail _ (.head _))))
  have tl5 : @LT.lt Nat _ 425 L' := Z.lt (425, _) (.tail _ (.tail _ (.tail _ (.tail _ (.head _)))))
  have O0 := hO (V.mm + b.objs.size + 1) (by omega) (by omega)
  have hvs : IntsAre V.vs V.ns := O0.iv
  have hlen : V.ns.length ≤ 60 := O0.hlen
  have hdc : @LT.lt Nat _ V.dk V.cl := O0.lt 6 7 rfl rfl rfl
  have ho1 : @LT.lt Nat _ L' V.dk := by rw [← hL]; exact O0.lt 5 6 rfl rfl rfl
  have ho2 : @LT.lt Nat _ V.cl V.wx := O0.lt 7 8 rfl rfl rfl
  have ho3 : @LT.lt Nat _ V.wx V.us := O0.lt 8 9 rfl rfl rfl
  have ho4 : @LT.lt Nat _ V.us V.md := O0.lt 9 10 rfl rfl rfl
  have ho5 : @LT.lt Nat _ V.md V.lx := O0.lt 10 11 rfl rfl rfl
  have ho6 : @LT.lt Nat _ V.lx V.lm := O0.lt 11 12 rfl rfl rfl
  have ho7 : @LT.lt Nat _ V.lm V.mx := O0.lt 12 13 rfl rfl rfl
  have ho8 : @LT.lt Nat _ V.mx V.mk := O0.lt 13 14 rfl rfl rfl
  have ho9 : @LT.lt Nat _ V.mk V.sv := O0.lt 14 15 rfl rfl rfl
  have ho10 : @LT.lt Nat _ V.sv V.mm := O0.lt 15 16 rfl rfl rfl
  have nm1 : V.mm ≠ V.dk := O0.ne 16 6 rfl rfl rfl
  have nm2 : V.mm ≠ V.wx := O0.ne 16 8 rfl rfl rfl
  have nm3 : V.mm ≠ V.mx := O0.ne 16 13 rfl rfl rfl
  have nm4 : V.lx ≠ V.dk := O0.ne 11 6 rfl rfl rfl
  have nm5 : V.lx ≠ V.wx := O0.ne 11 8 rfl rfl rfl
  have nm6 : V.lx ≠ V.mx := O0.ne 11 13 rfl rfl rfl
  have hLm : @LT.lt Nat _ L' V.mm := by rw [← hL]; exact O0.lt 5 16 rfl rfl rfl
  have F1 : Fr g L' h (lawM V dl M none none) := fr_pin (fr_pin (fr_pin (fr_pin (fr_pin (fr_pin F q4) q3) q2) q1) q6) q5
  clear F q1 q2 q3 q4 q5 q6
  (try dsimp only [lawM] at F1)
  (try dsimp only [rowsL, SV.dkO, SV.wxO, SV.mxO] at N)
  (try dsimp only [List.drop])
  refine wpC_execs_cons (wpC_ForRange rfl ?_)
  walk_at "my goex"
  (try k_unfold); (try dsimp only)
  obtain ⟨n9, hn9⟩ := Int.eq_ofNat_of_zero_le r0'
  subst hn9
  (rename Fr _ _ _ _ => F2); (rename News _ _ _ _ => N2)
  obtain ⟨HI, hHI⟩ := fr_heap F2
  subst hHI
  have zb : b.objs.size ≤ L' := by rw [← Z.sz]; exact hb
  have zL : @LE.le Nat _ g.objs.size L' := F2.above
  have zd : @LT.lt Nat _ dl HI.objs.size := Heap.lt_size (N2 (dl, _) (by k_mem)).1
  have zm : @LT.lt Nat _ V.mm HI.objs.size := Nat.lt_trans hmd zd
  have O1 := hO (HI.objs.size + 1) (by omega) (by omega)
  refine' ⟨_, 1 + n9, _, _, _, fun i h => LJ w { V with lm0 := HI.objs.size + 1 } g L' dl M [(dl, listOf #[.ref 406, .ref 406, .ref 411, .ref 416, .ref 416, .ref 423, .ref 430] c)] i h, rfl, ?jR, by omega, ?js, ?j0, ?jt, ?jf⟩
  case jR => assumption
  case js => exact fun i h h₁ J k => J.stable O1 rfl zd zm (Nat.lt_trans hLm zm) fun a o n e => k a o n e
  case j0 =>
    intro h₁ oI e
    subst e
    have up : ∀ a o, HI.get? a = some o → (HI.push oI).get? a = some o := fun a o e => Heap.get?_push_of_some _ e
    refine .mk (k := 4 + 1) (u0 := 0) (u1 := 0) (lb := 0) (gl := false) (mds := #[]) (tv := none) (nv := none) (by omega) (by omega) (by omega) (by omega) O0.vm0 (by omega) (by omega) (Nat.le_refl _) (F2.keeps up) (.mk (kt := tk2') (c5 := c5) (d0 := d0) (d1 := d1) (un := un) (cm := cm) (cc := cc) (a0 := a0) (a1 := a1) (a2 := a2) (ep := ep) (n := 0) (es := #[]) (p1 := #[]) (p2 := #[]) (p3 := #[]) (p4 := #[]) (p5 := #[]) (tr := []) (by omega) nums0 (fun v hv => absurd hv (by simp)) ⟨tab0, tab0, tab0, tab0, tab0⟩ (fun _ hp => nomatch hp) fun p hp => ⟨up _ _ (N2 p ?jm).1, (N2 p ?jm).2⟩)
    case jm => revert p; dsimp only [rowsL, List.cons_append, List.nil_append, SV.dkO, SV.wxO, SV.mxO]; walk_at "my sub"
  case jf =>
    intro h₁ tk₁ J
    clear F2 N2
    have O2 := hO (dl + 1) (Nat.lt_succ_of_lt hmd) (Nat.le_succ_of_le (Nat.le_trans zb (Nat.le_of_lt (Nat.lt_trans hLm hmd))))
    cases J with
    | @mk k u0 u1 lb gl mds tv nv b1 b2 b3 b4 b5 b6 b7 b8 F9 LS9 =>
    cases LS9.low (show dl + 1 ≤ HI.objs.size + 1 from Nat.succ_le_succ (Nat.le_of_lt zd)) with
    | @mk kt c5 d0 d1 a0 a1 a2 un cm cc ep n es p1 p2 p3 p4 p5 tr hn hN hM hT hlo N9 =>
    refine wpC_execs_cons (wpC_Return (wpC_And2 (wpC_CallName ?_)))
    (try dsimp only [lawM] at F9)
    (try dsimp only [rowsL, List.cons_append, List.nil_append, SV.dkO, SV.wxO, SV.mxO] at N9)
    walk_at "my go"
    refine wpC_callK (K := hd.heap_1 w.params) (by k_is) ?_
    walk_at "my go"
    (rename Fr _ _ _ _ => F7); (rename News _ _ _ _ => N7)
    refine' deed_l (f := 416) (ex := [(dl, listOf #[.ref 406, .ref 406, .ref 411, .ref 416, .ref 416, .ref 423, .ref 430] c)]) (V := { V with lm0 := dl + 1 }) (.inr (.inr (.inl rfl))) G O2 rfl ?y1 ?y2 ?y3 hL ?y4 F7 (LawSt.mk hn hN hM hT hlo fun p hp => N7 p ?z5) ?y5 ?y6 ?y7 ?y8 ?y9 b3 b4 b5 ?y10 ?y11 ?y12
    case z5 => exact hp
    case y1 => rw [henv]; rfl
    case y2 => exact Nat.le_of_ble_eq_true rfl
    case y3 => exact Nat.le_of_ble_eq_true rfl
    case y4 => exact Z.st
    case y5 =>
      intro p hp
      obtain rfl := List.mem_singleton.mp hp
      exact hmd
    case y6 => exact Nat.lt_succ_of_lt (Nat.lt_trans hLm hmd)
    case y7 => exact Heap.lt_size (N7 (dl, _) (by k_mem)).1
    case y8 => first | assumption | omega
    case y9 => first | assumption | omega
    case y10 => first | assumption | omega
    case y11 => first | assumption | omega
    case y12 =>
      intro h9 tks9 k' u0' u1' lb' mds' x1 x2 x3 x4 x5 x6 x7 x8 F9 LS9
      cases LS9 with
      | @mk kt c5 d0 d1 a0 a1 a2 un cm cc ep n es p1 p2 p3 p4 p5 tr hn hN hM hT hlo N9 =>
      (try dsimp only [rowsL, List.cons_append, List.nil_append, SV.dkO, SV.wxO, SV.mxO] at N9)
      refine ⟨rfl, .of ?_⟩
      clear F7 N7
      walk_at "my go"
      (rename Fr _ _ _ _ => F5); (rename News _ _ _ _ => N5)
      refine' hR _ _ p1 p2 p3 p4 p5 (after_part F5 N5 Z ?c ?l)
      case c => walk_at "my sub"
      case l => walk_at "my part"
  case jt =>
    intro i tk9 h₁ tks oI E' hi J9 eI
    cases J9 with
    | @mk k u0 u1 lb gl mds tv nv b1 b2 b3 b4 b5 b6 b7 b8 F9 LS9 =>
    cases LS9 with
    | @mk kt c5 d0 d1 a0 a1 a2 un cm cc ep n es p1 p2 p3 p4 p5 tr hn hN hM hT hlo N9 =>
    clear F2 N2
    have ht1 : ∀ p ∈ tr, V.dk ≠ p.1 := fun p hp => Nat.ne_of_lt (Nat.lt_of_lt_of_le (show @LT.lt Nat _ V.dk (HI.objs.size + 1) by omega) (hlo p hp))
    have ht2 : ∀ p ∈ tr, V.wx ≠ p.1 := fun p hp => Nat.ne_of_lt (Nat.lt_of_lt_of_le (show @LT.lt Nat _ V.wx (HI.objs.size + 1) by omega) (hlo p hp))
    have ht3 : ∀ p ∈ tr, V.mx ≠ p.1 := fun p hp => Nat.ne_of_lt (Nat.lt_of_lt_of_le (show @LT.lt Nat _ V.mx (HI.objs.size + 1) by omega) (hlo p hp))
    have hu2 : ∀ p ∈ tr, p.1 ≠ V.wx := fun p hp q => ht2 p hp q.symm
    have hu3 : ∀ p ∈ tr, p.1 ≠ V.mx := fun p hp q => ht3 p hp q.symm
    replace N9 := news_cons N9 F9.above eI (Nat.lt_trans hLm zm)
    (try dsimp only [lawM] at F9)
    (try dsimp only [rowsL, List.cons_append, List.nil_append, SV.dkO, SV.wxO, SV.mxO] at N9)
    walk_at "my go"
    (try k_unfold); (try dsimp only)
    refine wpC_execs_cons (.of ?_)
    walk_at "my go"
    (try k_unfold); (try dsimp only)
    refine wpC_execs_cons (wpC_mono (Q := TurnMid w { V with lm0 := HI.objs.size + 1 } g L' dl M [(HI.objs.size, oI), (dl, listOf #[.ref 406, .ref 406, .ref 411, .ref 416, .ref 416, .ref 423, .ref 430] c)] (i + 1) s) ?one (fun fl s9 T9 => ?two) (fun _ _ e => e))
    case one =>
      refine wpC_If (.of ?_)
      walk_at "my go"
      · (try k_unfold)
        refine wpC_execs_cons (.of ?_)
        walk_at "my go"
        (try k_unfold); (try dsimp only)
        refine wpC_execs_cons (.of ?_)
        walk_at "my go"
        (try k_unfold); (try dsimp only)
        refine wpC_execs_nil ?_
        (rename Fr _ _ _ _ => F7); (rename News _ _ _ _ => N7)
        refine' TurnMid.mk (LJ.mk (k := k + 1) (u0 := u0) (u1 := u1) (lb := lb) (gl := !gl) (mds := mds) ?z1 ?z2 b3 b4 b5 b6 ?z3 ?z4 (turn_fr F7) (LawSt.mk hn hN hM hT hlo fun p hp => N7 p ?z5))
        case z1 => first | assumption | omega
        case z2 => first | assumption | omega
        case z3 => first | assumption | omega
        case z4 => first | assumption | omega
        case z5 => exact hp
      · (try k_unfold)
        refine wpC_execs_cons (wpC_If (wpC_isTrue_Not (wpC_isTrue_value (wpC_CallF ?_))))
        walk_at "my go"
        (try k_unfold); (try dsimp only)
        obtain ⟨f, rfl, hf⟩ : ∃ f, vi9 = .ref f ∧ (f = 406 ∨ f = 411 ∨ f = 416 ∨ f = 423 ∨ f = 430) := by
          simp at hi9
          rcases hi9 with rfl | rfl | rfl | rfl | rfl | rfl | rfl <;> exact ⟨_, rfl, by simp⟩
        refine wpC_callK (K := hd.heap_1 w.params) (by rcases hf with rfl | rfl | rfl | rfl | rfl <;> k_is) ?_
        walk_at "my go"
        (rename Fr _ _ _ _ => F7); (rename News _ _ _ _ => N7)
        refine' deed_l (ex := [(HI.objs.size, oI), (dl, listOf #[.ref 406, .ref 406, .ref 411, .ref 416, .ref 416, .ref 423, .ref 430] c)]) (V := { V with lm0 := HI.objs.size + 1 }) hf G O1 rfl ?y1 ?y2 ?y3 hL ?y4 F7 (LawSt.mk hn hN hM hT hlo fun p hp => N7 p ?z5) ?y5 ?y6 ?y7 ?y8 ?y9 b3 b4 b5 ?y10 ?y11 ?y12
        case z5 => exact hp
        case y1 => rw [henv]; rfl
        case y2 => exact Nat.le_of_ble_eq_true rfl
        case y3 => exact Nat.le_of_ble_eq_true rfl
        case y4 => exact Z.st
        case y5 =>
          intro p hp
          simp only [List.mem_cons, List.not_mem_nil, or_false] at hp
          rcases hp with rfl | rfl
          · exact zm
          · exact hmd
        case y6 => exact Nat.lt_succ_of_lt (Nat.lt_trans hLm zm)
        case y7 => exact Heap.lt_size (N7 (HI.objs.size, _) (by k_mem)).1
        case y8 => first | assumption | omega
        case y9 => first | assumption | omega
        case y10 => first | assumption | omega
        case y11 => first | assumption | omega
        case y12 =>
          intro h9 tks9 k' u0' u1' lb' mds' x1 x2 x3 x4 x5 x6 x7 x8 F9 LS9
          walk_at "my go"
          (try k_unfold)
          refine wpC_execs_nil ?_
          dsimp only
          refine wpC_execs_nil ?_
          refine' TurnMid.mk (LJ.mk ?w1 ?w2 x3 x4 x5 ?w3 ?w4 ?w5 (turn_fr F9) LS9)
          case w1 => first | assumption | omega
          case w2 => first | assumption | omega
          case w3 => first | assumption | omega
          case w4 => first | assumption | omega
          case w5 => first | assumption | omega
    case two =>
      cases T9 with
      | @mk h9 tk9 J9 =>
      cases J9 with
      | @mk k u0 u1 lb gl mds tv nv b1 b2 b3 b4 b5 b6 b7 b8 F9 LS9 =>
      cases LS9 with
      | @mk kt c5 d0 d1 a0 a1 a2 un cm cc ep n es p1 p2 p3 p4 p5 tr hn hN hM hT hlo N9 =>
      (try dsimp only [lawM] at F9)
      (try dsimp only [rowsL, List.cons_append, List.nil_append, SV.dkO, SV.wxO, SV.mxO] at N9)
      dsimp only
      refine wpC_execs_cons (.of ?_)
      walk_at "my go"
      (rename Fr _ _ _ _ => F7); (rename News _ _ _ _ => N7)
      refine wpC_execs_nil ⟨rfl, _, _, rfl, .mk (gl := gl) b1 b2 b3 b4 b5 b6 b7 b8 F7 (.mk hn hN hM hT hlo fun p hp => N7 p (.tail _ (.tail _ hp))), (N7 (HI.objs.size, _) (.tail _ (.head _))).1⟩
end K_law_second
end
theorem law_second {w : World} {R : Result → Shared → Prop} {s : Shared} {b : Heap} {loose : List Str} {mean : ExcName → Option Value} {mg mb : Str → Option Value} {g : Heap} {L' : Addr} {V : SV} {dl : Addr} {M : Str → Option Value} {h : Heap} {tk c : Nat} {kt c5 d0 d1 a0 a1 a2 : Tok} {un cm cc ep : Nat} : K_law_second.KP w R s b loose mean mg mb g L' V dl M h tk c kt c5 d0 d1 a0 a1 a2 un cm cc ep :=
  @Classical.choose_spec _ _ K_law_second.Kex (by with_unfolding_all exact @K_law_second.at0) ((w, R, s, b, loose, mean), (mg, mb, g, L', V, dl), (M, h, tk, c, kt, c5), (d0, d1, a0, a1, a2, un), (cm, cc, ep))
noncomputable section
namespace K_law_c
def KP (w : World) (R : Result → Shared → Prop) (s : Shared) (b : Heap) (loose : List Str) (mean : ExcName → Option Value) (mg mb : Str → Option Value) (l : Addr) (vs : List Value) (ns : List Int) : Prop := ∀ {A : Around} (hb : b.objs.size ≤ s.heap.objs.size) (st : b.StaysIn s.heap) (G : Gd w loose mean mg mb b) (hl : s.heap.IsList l vs.toArray) (hv : IntsAre vs ns) (hz : vs.length ≤ 63) (hA : A = { depth := 305, units := 900, frames := some [], handled := none, guards := none }) (D : Led b s.heap [(401, tabObj #[]), (408, tabObj #[]), (413, tabObj #[]), (418, tabObj #[]), (425, tabObj #[])]) (hlt : l ∉ [401, 408, 413, 418, 425]) (hR : ∀ h' tks p1 p2 p3 p4 p5, After s.heap h' [(401, tabObj p1), (408, tabObj p2), (413, tabObj p3), (418, tabObj p4), (425, tabObj p5)] → R (.ok (.ret (.bool true))) ⟨h', s.gens, s.drawn, tks, s.os⟩), codeC (model PG w) A (.call (.ref 437) ⟨[.ref l], []⟩) R s
def KT (x : (World × (Result → Shared → Prop) × Shared × Heap × List Str × (ExcName → Option Value)) × ((Str → Option Value) × (Str → Option Value) × Addr × List Value × List Int)) : Prop := KP x.1.1 x.1.2.1 x.1.2.2.1 x.1.2.2.2.1 x.1.2.2.2.2.1 x.1.2.2.2.2.2 x.2.1 x.2.2.1 x.2.2.2.1 x.2.2.2.2.1 x.2.2.2.2.2
theorem Kex : ∃ x, KT x → ∀ y, KT y := drink ((anyW, (fun _ _ => True), {}, default, default, default), (default, default, default, default, default)) _
@[irreducible] def Kx0 := Classical.choose Kex
@[irreducible] def w := Kx0.1.1
@[irreducible] def R := Kx0.1.2.1
@[irreducible] def s := Kx0.1.2.2.1
@[irreducible] def b := Kx0.1.2.2.2.1
@[irreducible] def loose := Kx0.1.2.2.2.2.1
@[irreducible] def mean := Kx0.1.2.2.2.2.2
@[irreducible] def mg := Kx0.2.1
@[irreducible] def mb := Kx0.2.2.1
@[irreducible] def l := Kx0.2.2.2.1
@[irreducible] def vs := Kx0.2.2.2.2.1
@[irreducible] def ns := Kx0.2.2.2.2.2
set_option maxRecDepth 100000
set_option maxHeartbeats 4000000
@[irreducible] def g : Heap := hideAll s.heap (([(401, tabObj #[]), (408, tabObj #[]), (413, tabObj #[]), (418, tabObj #[]), (425, tabObj #[])] : List (Addr × Obj)).map (·.1))
@[irreducible] def L' : Addr := s.heap.objs.size
theorem KgE  : g = hideAll s.heap (([(401, tabObj #[]), (408, tabObj #[]), (413, tabObj #[]), (418, tabObj #[]), (425, tabObj #[])] : List (Addr × Obj)).map (·.1)) := by with_unfolding_all rfl
theorem KlE : L' = s.heap.objs.size := by with_unfolding_all rfl
theorem at0 : KP w R s b loose mean mg mb l vs ns := by
  intro A hb st G hl hv hz hA D hlt hR
  subst hA
  have Xs := G.X.keeps st
  refine' enterX' KgE KlE (binds := [(Str.ofString "script", .ref l)]) st G D ?k6 ?k7 ?k8 ?k9 ?kB ?_ ?c2 ?c3 ?c4 ?c5
  walk_at "my enter"
  intro h' Z F' N'
  have G' := G.keeps Z.st
  have ⟨X', T', _, _, _, _, _⟩ := G'
  have tl1 : @LT.lt Nat _ 401 L' := Z.lt (401, _) (.head _)
  have tl2 : @LT.lt Nat _ 408 L' := Z.lt (408, _) (.tail _ (.head _))
  have tl3 : @LT.lt Nat _ 413 L' := Z.lt (413, _) (.tail _ (.tail _ (.head _)))
  have tl4 : @LT.lt Nat _ 418 L' := Z.lt (418, _) (.tail _ (.tail _ (.tail _ (.head _))))
  have tl5 : @LT.lt Nat _ 425 L' := Z.lt (425, _) (.tail _ (.tail _ (.tail _ (.tail _ (.head _)))))
  have hlg : g.IsList l vs.toArray := isList_off Z.kp hl (by simpa using hlt)
  refine cut_drop 7 (fun e => LawMid w b g L' e s) ?second ?first
  case first =>
    intro key
    refine wpC_execs_cons (.of ?_)
    walk_at "my gokd"
    (try k_unfold); (try dsimp only)
    refine wpC_execs_cons (.of ?_)
    walk_at "my gokd"
    (rename Fr _ _ _ _ => F7); (rename News _ _ _ _ => N7)
    refine' my_kdn (kvs := [(Str.ofString "text", _), (Str.ofString "row", _), (Str.ofString "entries", _)]) F7 N7 ?qU ?qI ⟨is_str, rfl, is_str, rfl, is_str, rfl, trivial⟩ rfl ?_
    case qU => k_updF
    case qI => assumption
    intro h₇ es n₇ tk₇ hE F8 N8
    (try dsimp only at N8)
    clear F7 N7
    obtain ⟨k0, k1, k2, rfl⟩ := ents3 hE
    (try k_unfold); (try dsimp only)
    walk_at "my go"
    (try k_unfold); (try dsimp only)
    refine wpC_execs_cons (.of ?_)
    walk_at "my go"
    (try k_unfold); (try dsimp only)
    refine wpC_execs_cons (.of ?_)
    walk_at "my go"
    (try k_unfold); (try dsimp only)
    refine wpC_execs_cons (.of ?_)
    walk_at "my go"
    (try k_unfold); (try dsimp only)
    refine wpC_execs_cons (.of ?_)
    walk_at "my go"
    (try k_unfold); (try dsimp only)
    refine wpC_execs_cons (.of ?_)
    walk_at "my go"
    (try k_unfold); (try dsimp only)
    (rename Fr _ _ _ _ => F7); (rename News _ _ _ _ => N7)
    simp only [AllNew, allLt_nil, allLt_cons, List.forall_mem_cons] at *
    refine key _ (law_mid (fun a o e => Z.st a o e) F7 N7 rfl ?hk hvs hlen hlim ⟨by omega, by omega⟩ ⟨by omega, by omega⟩ ⟨by omega, by omega⟩ ⟨by omega, by omega⟩ ?hi ?hd rfl rfl rfl rfl rfl rfl)
    case hk => intro q; cases q
    case hi => refine ⟨?_, ?_, ?_, ?_, ?_, ?_, ?_, ?_, ?_, ?_, ?_, ?_, trivial⟩ <;> omega
    case hd => first | assumption | omega
  case second =>
    intro s' Mid
    clear F' N' D hl hv hz hlt hlg
    cases Mid with
    | mk hL henv hO hmd q1 q2 q3 q4 q5 q6 F N =>
    refine' law_second ?k6 hb st G Z hL henv hO hmd q1 q2 q3 q4 q5 q6 F N hR
    case k6 => k_dflt k_is
end K_law_c
end
theorem law_c {w : World} {R : Result → Shared → Prop} {s : Shared} {b : Heap} {loose : List Str} {mean : ExcName → Option Value} {mg mb : Str → Option Value} {l : Addr} {vs : List Value} {ns : List Int} : K_law_c.KP w R s b loose mean mg mb l vs ns :=
  @Classical.choose_spec _ _ K_law_c.Kex (by with_unfolding_all exact @K_law_c.at0) ((w, R, s, b, loose, mean), (mg, mb, l, vs, ns))
section
end
theorem isTab {h : Heap} {c P : Addr} (x : CodeHd h c P) (e : h.get? P = some (tabObj #[])) : isCodeTable h P := (x.tab e).isCodeTable
abbrev fiveT : List Nat := [401, 408, 413, 418, 425]
theorem fin5 {h h' : Heap} {p1 p2 p3 p4 p5 : Array Value} (T : TabsAt [(429, 425), (422, 418), (415, 413), (410, 408), (405, 401)] h) (tb : ∀ P ∈ fiveT, h.get? P = some (tabObj #[])) (A : After h h' [(401, tabObj p1), (408, tabObj p2), (413, tabObj p3), (418, tabObj p4), (425, tabObj p5)]) {a : Nat} {o : Obj} (e : h.get? a = some o) :
    h'.get? a = some o ∨ isCodeTable h a ∧ o = tabObj #[] ∧ ∃ ps, h'.get? a = some (tabObj ps) := by
  by_cases q : a ∈ fiveT
  · exact .inr ⟨(show ∀ x ∈ fiveT, isCodeTable h x from allc (isTab (T (405, 401) (nth_mem 4 rfl)).1 (tb 401 (nth_mem 0 rfl))) (allc (isTab (T (410, 408) (nth_mem 3 rfl)).1 (tb 408 (nth_mem 1 rfl))) (allc (isTab (T (415, 413) (nth_mem 2 rfl)).1 (tb 413 (nth_mem 2 rfl))) (allc (isTab (T (422, 418) (nth_mem 1 rfl)).1 (tb 418 (nth_mem 3 rfl))) (allc (isTab (T (429, 425) (nth_mem 0 rfl)).1 (tb 425 (nth_mem 4 rfl))) fun _ q => nomatch q))))) a q, Option.some.inj (e.symm.trans (tb a q)),
      (show ∀ x ∈ fiveT, ∃ ps, h'.get? x = some (tabObj ps) from allc ⟨_, A.now _ (nth_mem 0 rfl)⟩ (allc ⟨_, A.now _ (nth_mem 1 rfl)⟩ (allc ⟨_, A.now _ (nth_mem 2 rfl)⟩ (allc ⟨_, A.now _ (nth_mem 3 rfl)⟩ (allc ⟨_, A.now _ (nth_mem 4 rfl)⟩ fun _ q => nomatch q))))) a q⟩
  · refine .inl (A.keep a o e fun p hp z => q ?_)
    rw [← z]
    exact List.mem_map_of_mem (f := (·.1)) hp
set_option maxRecDepth 100000
set_option maxHeartbeats 4000000
theorem walk_c (q : Program) (loose : List Str) (XP : (Str → Option Value) → Heap → Prop) (d : DefRec) (kwd : List (Str × Expr)) (hn : d.name = Str.ofString "law") :
    PySem.W.WalkC q loose XP (fun w h => InK hd.heap_1 w h ∧ ∀ P ∈ [425, 418, 413, 408, 401], h.get? P = some (tabObj #[])) PySem.Challenge.rw_on0262_01.row.toRowW d kwd := by
  intro w s₀ s₁ mg mb G Y fa o pm cd doc dV kV ho hd1 hcd hD hmg hg args vals as hpre hlay hrd hwl hlo
  have KX : (hd.heap_1 w.params).In s₁.heap := Y.1
  have hT8 := Y.2
  refine Ground.open G ?_
  intro T B D TE TW
  clear D
  have hT9 : TabsAt [(429, 425), (422, 418), (415, 413), (410, 408), (405, 401)] s₁.heap := List.forall_mem_cons.mpr ⟨⟨codeHd_of_K (c := 429) (P := 425) KX (by kernel_rfl), hT8 425 (by k_mem)⟩, List.forall_mem_cons.mpr ⟨⟨codeHd_of_K (c := 422) (P := 418) KX (by kernel_rfl), hT8 418 (by k_mem)⟩,
    List.forall_mem_cons.mpr ⟨⟨codeHd_of_K (c := 415) (P := 413) KX (by kernel_rfl), hT8 413 (by k_mem)⟩, List.forall_mem_cons.mpr ⟨⟨codeHd_of_K (c := 410) (P := 408) KX (by kernel_rfl), hT8 408 (by k_mem)⟩, List.forall_mem_cons.mpr ⟨⟨codeHd_of_K (c := 405) (P := 401) KX (by kernel_rfl), hT8 401 (by k_mem)⟩, fun _ h => nomatch h⟩⟩⟩⟩⟩
  have e1 : mg (Str.ofString "law") = some (.ref 437) := mg_of KX T.g (by k_is)
  obtain rfl : fa = 437 := by
    have := hmg.symm.trans (hn ▸ e1)
    cases this; rfl
  clear hmg e1 ho hd1 hcd hD B TE TW
  wrow_args hpre hlay hrd hwl hlo
  rename_i ns _ _ _ _ _ _ _ l vs _ hL _ _ _ hI _ hc _
  have gc := ghost_code hT9
  have X' := ghost_K hT9 KX (by kernel_rfl)
  have T' := ghost_top hT9 T
  have tb : ∀ P ∈ fiveT, s₁.heap.get? P = some (tabObj #[]) := allc (hT8 401 (nth_mem 4 rfl)) (allc (hT8 408 (nth_mem 3 rfl)) (allc (hT8 413 (nth_mem 2 rfl)) (allc (hT8 418 (nth_mem 1 rfl)) (allc (hT8 425 (nth_mem 0 rfl)) fun _ q => nomatch q))))
  have fin : ∀ h' tks p1 p2 p3 p4 p5, After s₁.heap h' [(401, tabObj p1), (408, tabObj p2), (413, tabObj p3), (418, tabObj p4), (425, tabObj p5)] →
      GoodWG PySem.Challenge.rw_on0262_01.row.claim (classAt s₀.heap) (ExcName.means s₀.heap) [ofPy (PyData.list (List.map PyData.int ns))] s₁ (.ok (.ret (.bool true))) ⟨h', s₁.gens, s₁.drawn, tks, s₁.os⟩ := fun h' tks p1 p2 p3 p4 p5 Af => by
    refine ⟨.inl ⟨_, .bool true, [], rfl, raisesW_false (by wrow_none_raised), .bool true, by wrow_post, unshared_nil⟩, ⟨fun a o e => ?_, fun a o e => ?_⟩, rfl, .of_eq hg⟩
    · rcases fin5 hT9 tb Af e with q | ⟨c, rfl, ps, hps⟩
      · exact .inl q
      · exact .inr (.inl ⟨c, rfl, #[], ps, rfl, by rw [Array.empty_append]; exact hps⟩)
    · rcases fin5 hT9 tb Af e with q | ⟨_, _, ps, hps⟩
      · exact ⟨_, q⟩
      · exact ⟨_, hps⟩
  refine wpC_call (codeC_mono (codeC_room (law_c (A := { depth := 305, units := 900, frames := some [], handled := none, guards := none }) (b := ghostOf s₁.heap [(429, 425), (422, 418), (415, 413), (410, 408), (405, 401)]) (Nat.le_of_eq (hideAll_size _ _)) (fun a o e => of_hideAll _ e) ⟨X', T', gc.1, gc.2.1, gc.2.2.1, gc.2.2.2.1, gc.2.2.2.2.1⟩ hL hI ?hz rfl ?D ?hlt fin) rfl (by decide) (.inr rfl) rfl (by decide)) fun r s' g => by rcases g.1 with ⟨v, _, _, rfl, _⟩ | ⟨e, _, _, rfl, _⟩ <;> exact g)
  case hz => rw [hI.length]; omega
  case D => exact allc ⟨tb 401 (nth_mem 0 rfl), hideAll_none _ (nth_mem 4 rfl)⟩ (allc ⟨tb 408 (nth_mem 1 rfl), hideAll_none _ (nth_mem 3 rfl)⟩ (allc ⟨tb 413 (nth_mem 2 rfl), hideAll_none _ (nth_mem 2 rfl)⟩ (allc ⟨tb 418 (nth_mem 3 rfl), hideAll_none _ (nth_mem 1 rfl)⟩ (allc ⟨tb 425 (nth_mem 4 rfl), hideAll_none _ (nth_mem 0 rfl)⟩ fun _ q => nomatch q))))
  case hlt =>
    intro q
    obtain ⟨o, e, hc, _⟩ := hL
    rw [tb _ q] at e
    cases e; cases hc
theorem main.tw10953071475505086308 : True := True.intro
theorem main.tw357486453476387696 : True := True.intro
theorem main.tw17006940842653477739 : True := True.intro
theorem main.tw6259829193980601927 : True := True.intro
theorem main.tw13534339028543913591 : True := True.intro
theorem main.tw15800677430330856352 : True := True.intro
theorem main.tw15219850895576480595 : True := True.intro
theorem main.tw9658885295015712986 : True := True.intro
theorem main.tw1767102223536069037 : True := True.intro
theorem main.tw1132636387356132726 : True := True.intro
theorem main.tw3064107358579187875 : True := True.intro
theorem main.tw6379557931619253226 : True := True.intro
theorem main.tw17275981670299983581 : True := True.intro
theorem main.tw6664630266143485421 : True := True.intro
theorem main.tw9191982752017346530 : True := True.intro
theorem main.tw13293747886898857621 : True := True.intro
theorem main.tw2544328076492683441 : True := True.intro
theorem main.tw3394367416137920725 : True := True.intro
theorem main.tw11135027115929721415 : True := True.intro
theorem main.tw6220324348805951584 : True := True.intro
theorem main.tw1496695287857109588 : True := True.intro
theorem main.tw917386388269078853 : True := True.intro
theorem main.tw17353731239590640416 : True := True.intro
theorem main.tw3769868279024859678 : True := True.intro
theorem main.tw2921958311620399285 : True := True.intro
theorem main.tw14064073609400967072 : True := True.intro
theorem main.tw13803360072150633466 : True := True.intro
theorem main.tw17715262827843222689 : True := True.intro
theorem main.tw65644731488775911 : True := True.intro
theorem main.tw3583811862363856187 : True := True.intro
theorem main.tw8595929696516509207 : True := True.intro
theorem main.tw5160751907100791332 : True := True.intro
theorem main.tw13591255225166038476 : True := True.intro
theorem main.tw5781596087445459943 : True := True.intro
theorem main.tw18302796317244248524 : True := True.intro
theorem main.tw15467891735981029475 : True := True.intro
theorem main.tw3491332818749588091 : True := True.intro
theorem main.tw17402982504261768225 : True := True.intro
theorem main.tw11120327062377616369 : True := True.intro
theorem main.tw10755775206947875856 : True := True.intro
theorem main.tw2075378649607365068 : True := True.intro
theorem main.tw9756827057097773860 : True := True.intro
theorem main.tw2583023086579268501 : True := True.intro
theorem main.tw4916484176355187965 : True := True.intro
theorem main.tw7439787175107056256 : True := True.intro
theorem main.tw2085318621824738512 : True := True.intro
theorem main.tw452746233719593009 : True := True.intro
theorem main.tw13876859957761632879 : True := True.intro
theorem main.tw10199874654664476236 : True := True.intro
theorem main.tw7083192437325867461 : True := True.intro
theorem main.tw12915833801598196605 : True := True.intro
theorem main.tw5418533224930618480 : True := True.intro
theorem main.tw3626430660855392483 : True := True.intro
theorem main.tw15365013842991253249 : True := True.intro
theorem main.tw9265829497004654079 : True := True.intro
theorem main.tw4038153913678941442 : True := True.intro
theorem main.tw6019089244302038806 : True := True.intro
theorem main.tw9730157408454304684 : True := True.intro
set_option Elab.async true
set_option maxRecDepth 100000 in
set_option maxHeartbeats 0 in
theorem main : PySem.Challenge.rw_on0262_01.Holds := by
  w_on; o_law; o_head (kmHook hd.heap_1 [2,3,15,22,23,25,26,28,29,30,31,32,33,36,43,44,45,55,56,58,59,61,62,63,64,65,66,67,77,79,80,82,83,84,85,86,87,88,98,100,101,103,104,105,106,107,108,109,119,121,122,124,125,126,128,129,131,132,133,136,137,138,139,140,141,142,152,154,155,157,158,159,160,161,162,163,166,168,169,171,172,173,174,176,177,179,180,181,183,184,186,187,188,190,191,193,194,195,196,198,199,201,202,203,204,206,207,209,210,211,213,214,216,217,218,220,221,223,224,225,227,228,230,231,232,234,235,237,238,239,241,242,244,245,246,248,249,251,252,260,261,263,264,266,267,268,269,270,271,272,282,284,285,287,288,289,291,292,294,295,296,297,299,300,302,303,304,306,307,309,310,311,313,314,316,317,318,320,321,323,324,325,327,328,330,331,332,334,335,337,338,339,341,342,344,345,346,347,348,349,350,353,355,356,358,359,360,363,364,365,367,368,370,371,372,374,375,377,378,379,381,382,384,385,386,388,389,391,392,393,395,396,398,399,400,402,403,405,406,407,410,411,412,415,416,417,419,420,422,423,424,426,427,429,430,431,433,434,436,437] (fun _ => by kernel_rfl) [425, 418, 413, 408, 401]); (case hw => w_witness2)
  exact walk_c _ _ _ _ _ rfl
end Mine
theorem PySem.Challenge.cw_on0262_01_holds : PySem.Challenge.rw_on0262_01.Holds :=
  Mine.main
