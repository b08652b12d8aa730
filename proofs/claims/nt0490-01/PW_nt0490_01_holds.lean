import PyProof.Rows.All
import Wide.All
import OpenK.AllK
import Wide.FinOn
import PySem.Challenge.RW_nt0490_01
open PySem PySem.W PyProof.Rows
set_option Elab.async false
set_option maxRecDepth 100000
set_option maxHeartbeats 8000000
set_option rowWalk.seconds 0
set_option compiler.extract_closed false
namespace Mine
/-! small steps of arithmetic, tried ahead of omega (its proofs are long) -/
theorem low1 {a b b' c : Nat} (h : a + b < c) (e : Nat.ble b' b = true) : a + b' < c := Nat.lt_of_le_of_lt (Nat.add_le_add_left (Nat.le_of_ble_eq_true e) a) h
theorem low2 {a b b1 b2 c : Nat} (h : a + b < c) (e : Nat.ble (b1 + b2) b = true) : a + b1 + b2 < c := by rw [Nat.add_assoc]; exact low1 h e
theorem low7 {a b b1 b2 b3 c : Nat} (h : a + b < c) (e : Nat.ble (b1 + b2 + b3) b = true) : a + b1 + b2 + b3 < c := by rw [Nat.add_assoc, Nat.add_assoc, ← Nat.add_assoc b1]; exact low1 h e
theorem low8 {a b c : Nat} (h : a + b < c) : a < c := Nat.lt_of_le_of_lt (Nat.le_add_right a b) h
theorem low3 {a b c : Nat} (h : a ≤ b) (e : Nat.ble b c = true) : a ≤ c := Nat.le_trans h (Nat.le_of_ble_eq_true e)
theorem low4 {a b c : Nat} (h : a < b) (e : Nat.ble b c = true) : a < c := Nat.lt_of_lt_of_le h (Nat.le_of_ble_eq_true e)
theorem low5 {a b : Nat} (h : @LT.lt Nat _ a b) : @Ne Nat a b := Nat.ne_of_lt h
theorem low6 {a b : Nat} (h : @LT.lt Nat _ a b) : @Ne Nat b a := Nat.ne_of_gt h
theorem low9 {b c : Int} (h : 0 ≤ b ∧ b < c) (e : Nat.ble c.toNat (2 ^ 64) = true) : b.natAbs < 2 ^ 64 := by
  have := Nat.le_of_ble_eq_true e
  omega
theorem low10 {a b c : Nat} (h : a ≤ b) (e : Nat.ble (b + 1) c = true) : a < c := Nat.lt_of_le_of_lt h (Nat.le_of_ble_eq_true e)
theorem low12 {a b c d : Nat} (h : a ≤ b) (e : Nat.ble (b + d) c = true) : a + d ≤ c := Nat.le_trans (Nat.add_le_add_right h d) (Nat.le_of_ble_eq_true e)
theorem low16 {a b c d : Nat} (h : a ≤ b) (h2 : b ≤ c) (e : Nat.ble c d = true) : a ≤ d := Nat.le_trans (Nat.le_trans h h2) (Nat.le_of_ble_eq_true e)
theorem low17 {k n c i : Nat} (h : k + n ≤ c) (h2 : i < n) : k + i ≤ c := Nat.le_trans (Nat.add_le_add_left (Nat.le_of_lt h2) k) h
theorem low18 {n a m k : Nat} (h : n ≤ a + m + (k + 1)) : n ≤ a + (m + 1) + k := by omega
theorem low19 {n a m k : Nat} (h : n ≤ a + (k + 1)) (h2 : 1 ≤ m) : n ≤ a + m + k := by omega
theorem low20 {f k c : Nat} (h : f + (k + 1) ≤ c) : f + (0 + 1) + k ≤ c := by omega
theorem low21 {a b c : Int} (h : 0 ≤ a ∧ a ≤ b) (e : decide (b ≤ c) = true) : 0 ≤ a ∧ a ≤ c := ⟨h.1, Int.le_trans h.2 (of_decide_eq_true e)⟩
theorem low22 {a b c : Int} (h : 0 ≤ a ∧ a ≤ b) (e : decide (b ≤ c) = true) : a ≤ c := Int.le_trans h.2 (of_decide_eq_true e)
/-- the goal under a name, so that what is taken apart ahead of it does not say it again -/
theorem hideGoal {P : Prop} (h : ∀ G : Prop, (P → G) → G) : P := h P id
local macro_rules | `(tactic| omega) => `(tactic| first | k_extra "L om" | fail "none")
local macro_rules | `(tactic| walk_at $s:str) => do `(tactic| first | k_extra $(Lean.Syntax.mkStrLit ("L " ++ s.getString)) | fail "none")
local macro_rules | `(tactic| k_all) => `(tactic| first | k_extra "L all" | fail "none")
local macro_rules | `(tactic| k_room) => `(tactic| first | k_extra "L room" | fail "none")
theorem reg_om : True := by
  (k_with "L om" => first | with_reducible assumption | (with_reducible refine Ne.symm ?_; assumption) | ((with_reducible refine low1 (by assumption) ?_); exact rfl) | ((with_reducible refine low2 (by assumption) ?_); exact rfl) | ((with_reducible refine low7 (by assumption) ?_); exact rfl) | with_reducible exact low8 (by assumption) | ((with_reducible refine low3 (by assumption) ?_); exact rfl) | ((with_reducible refine low4 (by assumption) ?_); exact rfl) | with_reducible exact low5 (by assumption) | with_reducible exact low6 (by assumption) | with_reducible exact And.left (by assumption) | with_reducible exact And.right (by assumption) | with_reducible exact And.intro (by assumption) (by assumption) | ((with_reducible refine low9 (by assumption) ?_); exact rfl) | ((with_reducible refine low10 (by assumption) ?_); exact rfl) | ((with_reducible refine low12 (by assumption) ?_); exact rfl) | with_reducible exact Nat.le_succ_of_le (by assumption) | with_reducible exact Nat.add_le_add (by assumption) (Nat.min_le_left _ _) | ((with_reducible refine low16 (by assumption) (by assumption) ?_); exact rfl) | with_reducible exact low17 (by assumption) (by assumption) | with_reducible exact low18 (by assumption) | with_reducible exact low19 (by assumption) (by assumption) | with_reducible exact low20 (by assumption) | with_reducible exact And.intro (Int.emod_nonneg _ (by decide)) (Int.emod_lt_of_pos _ (by decide)) | ((with_reducible refine low21 (by assumption) ?_); exact rfl) | ((with_reducible refine low22 (by assumption) ?_); exact rfl) | with_reducible exact low6 (And.left (by assumption)) | with_reducible exact low6 (And.left (And.right (by assumption))) | with_reducible exact low6 (And.left (And.right (And.right (by assumption)))) | with_reducible exact low6 (And.left (And.right (And.right (And.right (by assumption))))) | with_reducible exact low6 (And.right (by assumption)) | lia | with_reducible contradiction)
  trivial
section
/-! walks for clean stacks: no builtin lies on the stack that holds a bytearray -/
open PySem.Calls
noncomputable def badIds : List String := Builtin.Bytes.decodersThatHold ++ ["bytearray.__contains__", "bytearray.__mod__", "bytearray.__rmod__", "_struct.pack_into.held", "bytearray.find.held"]
noncomputable def badCode : Code → Bool
  | .builtin id _ => badIds.contains id
  | _ => false
def CleanSt (st : List (Code × Pos)) : Prop := ∀ x ∈ st, badCode x.1 = false
def wpC {α : Type} (M : Model) (A : Around) (t : Sem α) (Q : α → Shared → Prop) (E : Value → Shared → Prop) (s : Shared) : Prop :=
  ∀ Γ p, Γ.In A → CleanSt ((Γ.code, p) :: Γ.below) → Sem.wp M Γ t (fun a _ s' => Q a s') (fun e _ s' => E e s') p s
def codeC (M : Model) (A : Around) (c : Code) (R : Result → Shared → Prop) (s : Shared) : Prop :=
  ∀ Γ p, Γ.code = c → Γ.Below A → CleanSt Γ.below → wpCode M Γ R p s
theorem CleanSt.at {c : Code} {p p' : Pos} {st : List (Code × Pos)} (h : CleanSt ((c, p) :: st)) : CleanSt ((c, p') :: st) := fun x hx => by
  rcases List.mem_cons.mp hx with rfl | hx
  · exact h (c, p) (.head _)
  · exact h x (.tail _ hx)
theorem CleanSt.cons {c : Code} {p : Pos} {st : List (Code × Pos)} (hc : badCode c = false) (h : CleanSt st) : CleanSt ((c, p) :: st) := fun x hx => by
  rcases List.mem_cons.mp hx with rfl | hx
  · exact hc
  · exact h x hx
section
variable {α β : Type} {M : Model} {A : Around} {E : Value → Shared → Prop} {s : Shared}
theorem wpC_of_any {t : Sem α} {Q : α → Shared → Prop} (h : wpAny M A t Q E s) : wpC M A t Q E s := fun Γ p hΓ _ => h Γ p hΓ
theorem codeC_of_any {c : Code} {R : Result → Shared → Prop} (h : codeAny M A c R s) : codeC M A c R s := fun Γ p hc hΓ _ => h Γ p hc hΓ
theorem wpC_mono {t : Sem α} {Q Q' : α → Shared → Prop} {E' : Value → Shared → Prop} (h : wpC M A t Q E s) (hQ : ∀ a s, Q a s → Q' a s) (hE : ∀ e s, E e s → E' e s) : wpC M A t Q' E' s :=
  fun Γ p hΓ hC => Sem.wp_mono M Γ t (fun a _ s => hQ a s) (fun e _ s => hE e s) p s (h Γ p hΓ hC)
theorem wpC_bind {m : Sem α} {f : α → Sem β} {Q : β → Shared → Prop} (h : wpC M A m (fun a s' => wpC M A (f a) Q E s') E s) : wpC M A (m >>= f) Q E s := fun Γ p hΓ hC => by
  rw [Sem.wp_bind']
  exact Sem.wp_mono M Γ m (fun a p' s' h' => h' Γ p' hΓ hC.at) (fun _ _ _ h' => h') p s (h Γ p hΓ hC)
theorem wpC_onRaise {m : Sem α} {k : Value → Sem Unit} {Q : α → Shared → Prop} (h : wpC M A m Q (fun e s' => wpAny M A (k e) (fun _ s'' => E e s'') E s') s) : wpC M A (m.onRaise k) Q E s := fun Γ p hΓ hC => by
  rw [Sem.wp_onRaise]
  exact Sem.wp_mono M Γ m (fun _ _ _ h' => h') (fun e p' s' h' => h' Γ p' hΓ) p s (h Γ p hΓ hC)
theorem wpC_attempt {m : Sem α} {Q : Except Value α → Shared → Prop} (h : wpC M A m (fun a => Q (.ok a)) (fun e => Q (.error e)) s) : wpC M A m.attempt Q E s := fun Γ p hΓ hC => by rw [Sem.wp_attempt]; exact h Γ p hΓ hC
theorem wpC_holding {vs : List Value} {m : Sem α} {Q : α → Shared → Prop} (h : wpC M A m Q E s) : wpC M A (holding vs m) Q E s := fun Γ p hΓ hC => by rw [Sem.wp_holding]; exact h Γ p hΓ hC
theorem wpC_pure {a : α} {Q : α → Shared → Prop} (h : Q a s) : wpC M A (pure a) Q E s := fun _ _ _ _ => h
theorem wpC_standAt {pos : Pos} {Q : Unit → Shared → Prop} (h : Q () s) : wpC M A (standAt pos) Q E s := fun _ _ _ _ => h
theorem wpC_point {Q : Unit → Shared → Prop} (h : Q () s) : wpC M A point Q E s := fun _ _ _ _ => h
theorem wpC_stack {Q : List (Code × Pos) → Shared → Prop} (h : ∀ st, CleanSt st → Q st s) : wpC M A stack Q E s := fun Γ p _ hC => by
  show Q ((Γ.code, p) :: Γ.below) s
  exact h _ hC
theorem c_ite1 {c : Prop} [Decidable c] {a b : Sem α} {Q : α → Shared → Prop} (hc : c) (h : wpC M A a Q E s) : wpC M A (ite c a b) Q E s := by rw [if_pos hc]; exact h
theorem c_ite0 {c : Prop} [Decidable c] {a b : Sem α} {Q : α → Shared → Prop} (hc : ¬ c) (h : wpC M A b Q E s) : wpC M A (ite c a b) Q E s := by rw [if_neg hc]; exact h
theorem a_ite1 {c : Prop} [Decidable c] {a b : Sem α} {Q : α → Shared → Prop} (hc : c) (h : wpAny M A a Q E s) : wpAny M A (ite c a b) Q E s := by rw [if_pos hc]; exact h
theorem a_ite0 {c : Prop} [Decidable c] {a b : Sem α} {Q : α → Shared → Prop} (hc : ¬ c) (h : wpAny M A b Q E s) : wpAny M A (ite c a b) Q E s := by rw [if_neg hc]; exact h
theorem codeC_mono {c : Code} {R R' : Result → Shared → Prop} (h : codeC M A c R s) (hR : ∀ r s, R r s → R' r s) : codeC M A c R' s := fun Γ p hc hΓ hC => wpCode_mono hR (h Γ p hc hΓ hC)
theorem wpC_run {c : Code} {h : Option Value} {Q : Flow → Shared → Prop}
    (hc : codeC M (A.mark h) c (fun r s' => match r with | .ok f => Q f s' | .error e => E e s') s) (hnb : h ≠ some byPass := by intro x; cases x) : wpC M A (run c h) Q E s :=
  fun Γ p hΓ hC => by rw [Sem.wp_run]; exact hc _ p rfl (hΓ.enter c h p hnb) hC
theorem wpC_runValue {c : Code} {Q : Value → Shared → Prop} (hc : codeC M A c (fun r s' => match r with | .ok (.ret v) => Q v s' | .ok _ => False | .error e => E e s') s) : wpC M A (runValue c) Q E s :=
  fun Γ p hΓ hC => by rw [Sem.wp_runValue]; exact hc _ p rfl (hΓ.enter c none p (by intro x; cases x)) hC
theorem wpC_call {f : Value} {pos : List Value} {kw : List (Str × Value)} {Q : Value → Shared → Prop}
    (hc : codeC M A (.call f ⟨pos, kw⟩) (fun r s' => match r with | .ok (.ret v) => Q v s' | .ok _ => False | .error e => E e s') s) : wpC M A (call f pos kw) Q E s := wpC_runValue hc
theorem wpC_runOwn {env : Env} {c : Code} {h : Option Value} {Q : Flow → Shared → Prop}
    (hc : codeC M (A.mark h) c (fun r s' => match r with | .ok f => Q f s' | .error e => cameBackBy M A env E e s') s) (hnb : h ≠ some byPass := by intro x; cases x) : wpC M A (runOwn c env h) Q E s := by
  unfold runOwn
  exact wpC_onRaise (wpC_run hc hnb)
theorem codeC_of_tree {c : Code} {R : Result → Shared → Prop} (hb : badCode c = false)
    (h : wpC M (A.under c) (M.den c) (fun fin s' => match fin with | .done f => R (.ok f) s' | .again c' => c'.quiet = true ∧ codeC M A c' R s') (fun e s' => R (.error e) s') s) : codeC M A c R s := fun Γ p hc hΓ hC => by
  rw [wpCode_iff_wp, hc]
  refine Sem.wp_mono M Γ _ (fun fin p' s' h' => ?_) (fun _ _ _ h' => h') p s (h Γ p (hc ▸ hΓ.in) (hC.cons (hc ▸ hb)))
  cases fin with
  | done f => exact h'
  | again c' => exact ⟨h'.1, h'.2 (Γ.goto c') p' rfl (hΓ.goto c') hC⟩
end
end
section
/-! the head of the layer, for a walk under a clean stack -/
open Sem (wp)
open PyProof.V PySem.Calls
theorem ends_clean {prog : Program} {w : World} {t : Sem Fin} {s : Shared} {R : Result → Shared → Prop} (hreg : s.asleep)
    (h : wpC (model prog w) callerA t (fun fin s' => ∃ f, fin = .done f ∧ (R (.ok f) s' ∧ leftWithCleanup s'.gens = false)) (fun e s' => R (.error e) s' ∧ leftWithCleanup s'.gens = false) s) :
    ∃ n r s' s'', runN (denote table) prog w n s ⟨t, .builtin "claim.caller" {}, default, []⟩ = .halted (outcomeOf r) s' ∧
      schedN (denote table) prog w n (.single s ⟨t, .builtin "claim.caller" {}, default, []⟩) = .halted (outcomeOf r) s' ∧ s'.forget = s''.forget ∧ R r s'' := by
  have hw : wp (model prog w) ⟨.builtin "claim.caller" {}, none, none, [], none⟩ t (Sem.finPost (model prog w) ⟨.builtin "claim.caller" {}, none, none, [], none⟩ (fun r s' => R r s' ∧ leftWithCleanup s'.gens = false))
      (fun e _ s' => R (.error e) s' ∧ leftWithCleanup s'.gens = false) default s := by
    refine Sem.wp_mono _ _ t (fun fin p' s' h' => ?_) (fun _ _ _ h' => h') default s (h _ default caller_in (CleanSt.cons (by decide +kernel) fun _ q => nomatch q))
    obtain ⟨f, rfl, hf⟩ := h'
    exact hf
  refine hideGoal fun G hG => ?_
  obtain ⟨n, r, s₁, s₂, hs, hn, hfo, hR⟩ := wp_halts_full (M := model prog w) (R := R) hreg hw
  refine hG ?_
  clear hG G
  exact ⟨n, r, s₂, s₁, hn, hs, hfo, hR⟩
theorem call_clean {c : ClaimW} {tree : List Value → Sem Fin} {w : World} {s : Shared} {free : Addr → Prop} {gens : Prop} {kept : Heap → Prop} (hz : s.asleep) (hgens : s.gens = #[])
    (hspec : ∀ args, c.pre args = true → WData.layableAll args = true →
      ∀ ord : List DictEntry → List DictEntry, (∀ l, (ord l).Perm l) →
      ∃ vs s₁, layAllW c.records (classAt s.heap) w.params ord args s = some (vs, s₁) ∧
        wpC (model c.prog w) callerA (tree vs) (fun fin s' => ∃ f, fin = .done f ∧ (c.Ends s args vs s₁ (.ok f) s' ∧ s'.os = s.os ∧ AllBare s'.gens ∧ kept s'.heap))
          (fun e s' => c.Ends s args vs s₁ (.error e) s' ∧ s'.os = s.os ∧ AllBare s'.gens ∧ kept s'.heap) s₁) :
    c.CallFrom (fun vs => ⟨tree vs, .builtin "claim.caller" {}, default, []⟩) w free gens kept s := by
  intro args hpre hlay ord hord
  refine hideGoal fun G hG => ?_
  obtain ⟨vs, s₁, hlaid, hcode⟩ := hspec args hpre hlay ord hord
  refine hG ?_
  clear hG G
  have hal := layAllW_rest _ _ _ hlaid
  obtain ⟨k, r, s', s'', hrun, hsched, hfo, hcase, hos, hkp⟩ := ends_clean (prog := c.prog) (w := w) (t := tree vs) (s := s₁)
    (R := fun r s' => c.Ends s args vs s₁ r s' ∧ s'.os = s.os ∧ kept s'.heap) (Shared.asleep_of_life hal.2.2.2 hz)
    (wpC_mono hcode (fun fin s' ⟨f, e, h1, h2, h3, h4⟩ => ⟨f, e, ⟨h1, h2, h4⟩, leftWithCleanup_false_of_bare h3⟩) fun e s' ⟨h1, h2, h3, h4⟩ => ⟨⟨h1, h2, h4⟩, leftWithCleanup_false_of_bare h3⟩)
  refine hideGoal fun G hG => ?_
  obtain ⟨eh, _, _, eo, _⟩ := Shared.forget_eq hfo
  refine hG ?_
  clear hG G
  have hcase := hcase.congr eh
  have hkp : kept s'.heap := eh ▸ hkp
  rw [← eo] at hos
  have hlife : s'.heap.life = s.heap.life := (runN_life _ _ _ hrun).trans hal.2.2.2
  refine ⟨vs, s₁, hlaid, k, _, s', hsched, ?_, (fun _ i x hx => by rw [hgens] at hx; simp at hx), hkp, by rw [hlife], Shared.rest_eq hos⟩
  rcases hcase with ⟨v, rfl, d1, d2, d3, d4, d5⟩ | ⟨e, ob, cls, rfl, d1, d2, d3, d4, d5⟩
  · exact .inl ⟨v, rfl, d1, d2, d3, fun b o y _ => d4 b o y, d5⟩
  · exact .inr ⟨e, ob, cls, rfl, d1, d2, d3, d4, fun b o y _ => d5 b o y⟩

def WalkC (q : Program) (loose : List Str) (XP : (Str → Option Value) → Heap → Prop) (YP : World → Heap → Prop) (r : RowW) (d : DefRec) (kwd : List (Str × PySem.Expr)) : Prop :=
  ∀ (w : World) (s₀ s₁ : Shared) (mg mb : Str → Option Value), Ground q loose r.records XP w s₀ mg mb s₁.heap → YP w s₁.heap → ∀ (a : Addr) (o : Obj) (pm cd doc dV kV : Value), s₁.heap.get? a = some o →
    o.data = .func { docDef d.name d.params d.body d.scope pm cd doc with defaults := dV, kwdefaults := kV } → s₁.heap.CodeRec cd d.name → Dflts mg s₁.heap d.params kwd dV kV → mg d.name = some (.ref a) → s₁.gens = #[] →
    ∀ (args : List WData) (vals : List Value) (as : List Addr), r.claim.pre args = true → WData.layableAll args = true → ReadsAllW r.records (classAt s₀.heap) s₁.heap vals args as → WellAll w.params s₁.heap vals args → (∀ a ∈ as, (a == sysModules) = false) →
      wpC (model r.prog w) callerA (PySem.call (.ref a) vals) (fun v s' => GoodWG r.claim (classAt s₀.heap) (ExcName.means s₀.heap) args s₁ (.ok (.ret v)) s')
        (fun e s' => GoodWG r.claim (classAt s₀.heap) (ExcName.means s₀.heap) args s₁ (.error e) s') s₁
theorem holds_ofTop {r : OpenRow} {q : Program} {loose : List Str} {Xt : Shared → Bool} {XP : (Str → Option Value) → Heap → Prop} {α : Type} {Yf : Shared → α} {Ya : World → α} {YP : World → Heap → Prop} {d : DefRec} {kwd : List (Str × PySem.Expr)} {N : Nat}
    (left : LeftO r.prog q loose Xt Yf Ya N) (hY : ∀ w s, Yf s = Ya w → YP w s.heap) (hYk : ∀ w h h', YP w h → (∀ b o, h.get? b = some o → h'.get? b = some o) → YP w h')
    (hX : ∀ s, Xt s = true → XP (s.heap.nsMap mainGlobals) s.heap) (hXk : ∀ mg h h', XP mg h → (∀ b o, h.get? b = some o → h'.get? b = some o) → XP mg h')
    (hdef : defOf q r.name = some (d, kwd)) (hp : r.prog.theDef r.name = some (d.params, d.body, d.scope)) (hk : kwWritten? d.params.kwonlyargs d.params.kw_defaults = some kwd) (hRf : ∀ s, Xt s = true → RecFacts r.records s.heap) (hwr : (!r.writes || r.records.isEmpty) = true)
    (k1 : r.wellSaid = true) (ok : (chainsOk q && opensWell r.prog && (frees r.toRowW && r.within.isEmpty)) = true) (hb : r.prog.bare) (hw : r.toRowW.promised)
    (call : WalkC q loose XP YP r.toRowW d kwd) : r.Holds := by
  obtain ⟨ok, k5⟩ := Bool.and_eq_true_iff.mp ok
  obtain ⟨hch, o1⟩ := Bool.and_eq_true_iff.mp ok
  obtain ⟨k5, k6⟩ := Bool.and_eq_true_iff.mp k5
  refine hideGoal fun G hG => ?_
  obtain ⟨hsame, hu, ha, hap, hm⟩ := frees_parts k5
  refine hG ?_
  clear hG G
  refine ⟨k1, hw, ⟨hb, o1, by show r.toRowW.makers.map _ = []; rw [hm]; rfl⟩, hw.witness, fun w => ⟨(left.behind hX hch w).1, fun s' hs' => ?_⟩⟩
  refine hideGoal fun G hG => ?_
  obtain ⟨s₀, hf, hg0, s, hT, hz, hgens, hg, G00, y⟩ := (left.behind (XP := fun mg h => XP mg h ∧ RecFacts r.records h) (fun s hs => ⟨hX s hs, hRf s hs⟩) hch w).2 s' hs'
  refine hG ?_
  clear hG G
  have G0 : Ground q loose [] XP w s (s.heap.nsMap mainGlobals) (s.heap.nsMap builtinsNs) s.heap := ⟨G00.T, G00.B, G00.D, G00.TE, G00.TD, G00.W, G00.X.1, G00.cls, G00.has, G00.apart, G00.once, G00.K⟩
  have RF := G00.X.2
  have hT' := hT
  refine ⟨s₀, hf, hg0, s, hT, fun n hn => ?_, RF.1, RF.2.1, ?_⟩
  · obtain rfl : n = r.name := by split at hn <;> simp_all
    exact pinned_of_view hg G0 hdef hp hk
  have hgens : s.gens = #[] := Array.eq_empty_of_size_eq_zero (beq_iff_eq.mp hgens)
  have G : Ground q loose r.records XP w s _ _ s.heap := RF.ground G0
  refine call_clean (c := r.toRowW.claim) (tree := fun vs => do match ← nsGet mainNs r.name with
      | some f => do ret (← PySem.call f vs)
      | none => unsupported "claim.caller:no-such-global") hz hgens fun args hpre hlay ord hord => ?_
  obtain ⟨⟨vs, s₁⟩, hlaid⟩ := Option.isSome_iff_exists.mp (layAllW_isSome (P := w.params) (ord := ord) G.has args r.args s (pre_splitW hpre).1)
  have keeps := layAllW_keeps _ _ _ hlaid
  have hal := layAllW_rest _ _ _ hlaid
  refine hideGoal fun G hG => ?_
  obtain ⟨as, hrd, hin, hold⟩ := reads_layAllW hord _ _ _ hlaid hlay s₁.heap (fun _ _ e => e)
  refine hG ?_
  clear hG G
  have L : Laid r.records w s s₁ args vs as := ⟨⟨ord, hord, hlaid⟩, hrd, hin, hold, keeps, hal.1.trans hgens, hal.2.2.1⟩
  have G₁ := G.keeps hXk keeps
  refine hideGoal fun G hG => ?_
  obtain ⟨a, o, pm, cd, doc, dV, kV, h1, h2, h3, h4, h5⟩ := G₁.fn hdef
  refine hG ?_
  clear hG G
  have hcl := call w s s₁ _ _ G₁ (hYk _ _ _ (hY w s y) keeps) a o pm cd doc dV kV h2 h3 h4 h5 (defOf_name hdef ▸ h1) L.gens args vs as hpre hlay L.reads L.well (L.low G.low)
  have hi := ident_freeW hu ha hap
  have hwi : r.toRowW.claim.within = [] := List.isEmpty_iff.mp k6
  refine ⟨vs, s₁, hlaid, wpC_bind (wpC_of_any (wpAny_nsGet G₁.T.g ?_))⟩
  rw [h1]
  refine wpC_bind (wpC_mono hcl (fun v s' g => wpC_pure ⟨_, rfl, ?_⟩) fun e s' g => ?_)
  · have z := g.laid (c := r.toRowW.claim) hsame hwi hi L
    exact ⟨z.1, z.2.1, z.2.2, fun q => ⟨namesKept_of hT' hg _ keeps g.2.1.old, noTable hwr q⟩⟩
  · have z := g.laid (c := r.toRowW.claim) hsame hwi hi L
    exact ⟨z.1, z.2.1, z.2.2, fun q => ⟨namesKept_of hT' hg _ keeps g.2.1.old, noTable hwr q⟩⟩
end
theorem sub_one {α : Type} {a : α} {l l' : List α} (h : ∀ p ∈ a :: l, p ∈ l') : ∀ p ∈ [a] ++ l, p ∈ l' := h
theorem all_cons {dk : Addr} {q : Addr × Obj} {l : List (Addr × Obj)} (h : q.1 ≠ dk) (hl : ∀ p ∈ l, p.1 ≠ dk) : ∀ p ∈ q :: l, p.1 ≠ dk := List.forall_mem_cons.mpr ⟨h, hl⟩
theorem all_nil {dk : Addr} : ∀ p ∈ ([] : List (Addr × Obj)), p.1 ≠ dk := fun _ hp => nomatch hp
/-! the head by hand: what stands behind the top of the program, and that it does (the kernel runs the top once) -/
noncomputable abbrev RW : OpenLaw := PySem.Challenge.rw_nt0490_01
noncomputable def stTop : List Stmt := RW.row.prog.main.body
noncomputable def stAt (i : Nat) (j : Option Nat) : Option Stmt := match stTop[i]?, j with
  | some (.ClassDef _ _ _ b _ _ _ _ _ _ _), some j => b[j]?
  | x, _ => x
noncomputable def argsAt (i : Nat) (j : Option Nat) : Arguments := match stAt i j with
  | some (.FunctionDef _ a _ _ _ _ _ _ _ _) => a
  | _ => .mk [] [] none [] [] none []
noncomputable def bodyAt (i : Nat) (j : Option Nat) : List Stmt := match stAt i j with
  | some (.FunctionDef _ _ b _ _ _ _ _ _ _) => b
  | _ => []
noncomputable def scopeAt (i : Nat) (j : Option Nat) : Scope := match stAt i j with
  | some (.FunctionDef _ _ _ _ _ _ s _ _ _) => s
  | _ => default
noncomputable def fnO (i : Nat) (j : Option Nat) (n q : Str) {p : Arguments} {b : List Stmt} {s : Scope} (_ : argsAt i j = p) (_ : bodyAt i j = b) (_ : scopeAt i j = s) (dV kV doc pm : Value) (an : Option Addr) (cd ct : Value) : Obj :=
  { cls := .type "function", data := .func (fnOf n q p b s dV kV doc pm an cd ct) }
noncomputable def hd.view_39 : Program := { RW.row.prog with main := { RW.row.prog.main with body := [1, 2, 4, 5, 6, 7, 8, 9, 10, 11, 12, 16, 17, 18, 19, 20, 21, 22, 23, 24].filterMap fun i => stTop[i]? } }
noncomputable def hd.heap_39 : Params → Frag := fun P =>
  (nat_lit 2, Obj.mk Value.none Option.none (Data.dict #[DictEntry.mk (PyData.keyHash P (Str.ofString "type.__subclasses__.Exception.0")) (Value.str (Str.ofString "type.__subclasses__.Exception.0") 214) (Value.int 32 0), DictEntry.mk (PyData.keyHash P (Str.ofString "type.__subclasses__.Exception.n")) (Value.str (Str.ofString "type.__subclasses__.Exception.n") 215) (Value.int 1 0)] 2) #[]) ::
   (nat_lit 3, Obj.mk (Value.type "dict") Option.none (Data.dict #[DictEntry.mk (PyData.keyHash P (Str.ofString "__name__")) (Value.str (Str.ofString "__name__") 165) (Value.str (Str.ofString "law_nt0490_01") 457), DictEntry.mk (PyData.keyHash P (Str.ofString "__doc__")) (Value.str (Str.ofString "__doc__") 166) Value.none, DictEntry.mk (PyData.keyHash P (Str.ofString "__package__")) (Value.str (Str.ofString "__package__") 167) Value.none, DictEntry.mk (PyData.keyHash P (Str.ofString "__loader__")) (Value.str (Str.ofString "__loader__") 168) (Value.builtin "__main__.__loader__#opaque"), DictEntry.mk (PyData.keyHash P (Str.ofString "__spec__")) (Value.str (Str.ofString "__spec__") 169) Value.none, DictEntry.mk (PyData.keyHash P (Str.ofString "__annotations__")) (Value.str (Str.ofString "__annotations__") 170) (Value.ref 6), DictEntry.mk (PyData.keyHash P (Str.ofString "__builtins__")) (Value.str (Str.ofString "__builtins__") 171) (Value.ref 4), DictEntry.mk (PyData.keyHash P (Str.ofString "__file__")) (Value.str (Str.ofString "__file__") 173) (Value.str (Str.ofString "/claim/cut.py") 172), DictEntry.mk (PyData.keyHash P (Str.ofString "__cached__")) (Value.str (Str.ofString "__cached__") 174) Value.none, DictEntry.mk (PyData.keyHash P (Str.ofString "PostError")) (Value.str (Str.ofString "PostError") 217) (Value.ref 32), DictEntry.mk (PyData.keyHash P (Str.ofString "PsError")) (Value.str (Str.ofString "PsError") 233) (Value.ref 45), DictEntry.mk (PyData.keyHash P (Str.ofString "LZW_CLEAR")) (Value.str (Str.ofString "LZW_CLEAR") 237) (Value.int 256 236), DictEntry.mk (PyData.keyHash P (Str.ofString "LZW_END")) (Value.str (Str.ofString "LZW_END") 239) (Value.int 257 238), DictEntry.mk (PyData.keyHash P (Str.ofString "LZW_FIRST")) (Value.str (Str.ofString "LZW_FIRST") 241) (Value.int 258 240), DictEntry.mk (PyData.keyHash P (Str.ofString "LZW_WIDTH")) (Value.str (Str.ofString "LZW_WIDTH") 243) (Value.int 9 242), DictEntry.mk (PyData.keyHash P (Str.ofString "LZW_MOST")) (Value.str (Str.ofString "LZW_MOST") 245) (Value.int 12 244), DictEntry.mk (PyData.keyHash P (Str.ofString "coding_fault")) (Value.str (Str.ofString "coding_fault") 251) (Value.ref 54), DictEntry.mk (PyData.keyHash P (Str.ofString "coded_whole")) (Value.str (Str.ofString "coded_whole") 260) (Value.ref 61), DictEntry.mk (PyData.keyHash P (Str.ofString "LzwDecoder")) (Value.str (Str.ofString "LzwDecoder") 351) (Value.ref 121), DictEntry.mk (PyData.keyHash P (Str.ofString "LzwEncoder")) (Value.str (Str.ofString "LzwEncoder") 436) (Value.ref 185), DictEntry.mk (PyData.keyHash P (Str.ofString "lzw_encoded")) (Value.str (Str.ofString "lzw_encoded") 446) (Value.ref 197), DictEntry.mk (PyData.keyHash P (Str.ofString "lzw_decoded")) (Value.str (Str.ofString "lzw_decoded") 456) (Value.ref 205), DictEntry.mk (PyData.keyHash P (Str.ofString "_law_deck")) (Value.str (Str.ofString "_law_deck") 464) (Value.ref 210), DictEntry.mk (PyData.keyHash P (Str.ofString "_law_draw")) (Value.str (Str.ofString "_law_draw") 474) (Value.ref 217), DictEntry.mk (PyData.keyHash P (Str.ofString "_law_packed")) (Value.str (Str.ofString "_law_packed") 480) (Value.ref 222), DictEntry.mk (PyData.keyHash P (Str.ofString "_law_codes")) (Value.str (Str.ofString "_law_codes") 486) (Value.ref 227), DictEntry.mk (PyData.keyHash P (Str.ofString "_law_read")) (Value.str (Str.ofString "_law_read") 499) (Value.ref 234), DictEntry.mk (PyData.keyHash P (Str.ofString "_law_told")) (Value.str (Str.ofString "_law_told") 508) (Value.ref 241), DictEntry.mk (PyData.keyHash P (Str.ofString "_law_pieces_right")) (Value.str (Str.ofString "_law_pieces_right") 514) (Value.ref 246), DictEntry.mk (PyData.keyHash P (Str.ofString "_law_long_right")) (Value.str (Str.ofString "_law_long_right") 527) (Value.ref 253), DictEntry.mk (PyData.keyHash P (Str.ofString "law")) (Value.str (Str.ofString "law") 533) (Value.ref 258)] 31) #[]) ::
   (nat_lit 15, Obj.mk (Value.type "tuple") Option.none (Data.seq #[Value.type "Exception"]) #[]) ::
   (nat_lit 22, Obj.mk (Value.type "tuple") Option.none (Data.seq #[Value.none]) #[]) ::
   (nat_lit 23, Obj.mk (Value.type "tuple") Option.none (Data.seq #[]) #[]) ::
   (nat_lit 25, Obj.mk (Value.type "tuple") Option.none (Data.seq #[Value.str (Str.ofString "self") 204, Value.str (Str.ofString "told") 205]) #[]) ::
   (nat_lit 26, Obj.mk (Value.type "tuple") Option.none (Data.seq #[]) #[]) ::
   (nat_lit 28, Obj.mk (Value.type "code") Option.none (Data.fields #[Value.str (Str.ofString "__init__") 201, Value.str (Str.ofString "PostError.__init__") 202, Value.str (Str.ofString "/claim/cut.py") 203, Value.int 4 0, Value.int 2 0, Value.int 0 0, Value.int 0 0, Value.int 3 0, Value.ref 23, Value.bool Bool.true, Value.int 181 0, Value.ref 24, Value.none, Value.ref 25, Value.ref 26, Value.ref 27, Value.int 206 0, Value.int 4 0, Value.str (Str.ofString "/claim/cut.py") 207]) #[]) ::
   (nat_lit 29, fnO 1 (some 0) (Str.ofString "__init__") (Str.ofString "PostError.__init__") (p := .mk _ _ _ _ _ _ _) (b := _ :: _) (s := .mk _ _ _ _ _) rfl rfl rfl (Value.ref 22) (Value.none) (Value.none) (Value.str (Str.ofString "postcore.base") 187) (Option.none) (Value.ref 28) (Value.none)) ::
   (nat_lit 30, Obj.mk (Value.type "tuple") Option.none (Data.seq #[Value.str (Str.ofString "told") 209]) #[]) ::
   (nat_lit 31, Obj.mk (Value.type "dict") Option.none (Data.dict #[DictEntry.mk (PyData.keyHash P (Str.ofString "__module__")) (Value.str (Str.ofString "__module__") 196) (Value.str (Str.ofString "postcore.base") 187), DictEntry.mk (PyData.keyHash P (Str.ofString "__firstlineno__")) (Value.str (Str.ofString "__firstlineno__") 200) (Value.int 2 199), DictEntry.mk (PyData.keyHash P (Str.ofString "__init__")) (Value.str (Str.ofString "__init__") 208) (Value.ref 29), DictEntry.mk (PyData.keyHash P (Str.ofString "__static_attributes__")) (Value.str (Str.ofString "__static_attributes__") 210) (Value.ref 30), DictEntry.mk (PyData.keyHash P (Str.ofString "__weakref__")) (Value.str (Str.ofString "__weakref__") 212) (Value.ref 33), DictEntry.mk (PyData.keyHash P (Str.ofString "__doc__")) (Value.str (Str.ofString "__doc__") 213) Value.none] 3) #[]) ::
   (nat_lit 32, Obj.mk (Value.type "type") Option.none (Data.cls (ClassData.mk (Str.ofString "PostError") [Value.type "Exception"] [Value.ref 32, Value.type "Exception", Value.type "BaseException", Value.type "object"] 31 (Str.ofString "PostError") Bool.true [] [Value.ref 45] Bool.false Option.none Bool.false)) #[Option.some (Value.ref 15), Option.none, Option.some (Value.str (Str.ofString "PostError") 189), Option.some (Value.str (Str.ofString "PostError") 197), Option.some (Value.builtin "Exception.__new__"), Option.some (Value.bool Bool.true)]) ::
   (nat_lit 33, Obj.mk (Value.type "getset_descriptor") Option.none (Data.fields #[Value.str (Str.ofString "__weakref__") 211, Value.ref 32, Value.builtin "ExceptionGroup.__weakref__", Value.none]) #[]) ::
   (nat_lit 36, Obj.mk (Value.type "tuple") Option.none (Data.seq #[Value.ref 32]) #[]) ::
   (nat_lit 43, Obj.mk (Value.type "tuple") Option.none (Data.seq #[]) #[]) ::
   (nat_lit 44, Obj.mk (Value.type "dict") Option.none (Data.dict #[DictEntry.mk (PyData.keyHash P (Str.ofString "__module__")) (Value.str (Str.ofString "__module__") 225) (Value.str (Str.ofString "postcore.base") 187), DictEntry.mk (PyData.keyHash P (Str.ofString "__firstlineno__")) (Value.str (Str.ofString "__firstlineno__") 229) (Value.int 6 228), DictEntry.mk (PyData.keyHash P (Str.ofString "__static_attributes__")) (Value.str (Str.ofString "__static_attributes__") 230) (Value.ref 43), DictEntry.mk (PyData.keyHash P (Str.ofString "__doc__")) (Value.str (Str.ofString "__doc__") 231) Value.none] 2) #[]) ::
   (nat_lit 45, Obj.mk (Value.type "type") Option.none (Data.cls (ClassData.mk (Str.ofString "PsError") [Value.ref 32] [Value.ref 45, Value.ref 32, Value.type "Exception", Value.type "BaseException", Value.type "object"] 44 (Str.ofString "PsError") Bool.true [] [] Bool.false Option.none Bool.false)) #[Option.some (Value.ref 36), Option.none, Option.some (Value.str (Str.ofString "PsError") 218), Option.some (Value.str (Str.ofString "PsError") 226), Option.some (Value.builtin "Exception.__new__"), Option.some (Value.bool Bool.true)]) ::
   (nat_lit 48, Obj.mk (Value.type "tuple") Option.none (Data.seq #[]) #[]) ::
   (nat_lit 50, Obj.mk (Value.type "tuple") Option.none (Data.seq #[]) #[]) ::
   (nat_lit 51, Obj.mk (Value.type "tuple") Option.none (Data.seq #[]) #[]) ::
   (nat_lit 53, Obj.mk (Value.type "code") Option.none (Data.fields #[Value.str (Str.ofString "coding_fault") 246, Value.str (Str.ofString "coding_fault") 247, Value.str (Str.ofString "/claim/cut.py") 248, Value.int 14 0, Value.int 0 0, Value.int 0 0, Value.int 0 0, Value.int 3 0, Value.ref 48, Value.bool Bool.true, Value.int 181 0, Value.ref 49, Value.none, Value.ref 50, Value.ref 51, Value.ref 52, Value.int 249 0, Value.int 14 0, Value.str (Str.ofString "/claim/cut.py") 250]) #[]) ::
   (nat_lit 54, fnO 9 none (Str.ofString "coding_fault") (Str.ofString "coding_fault") (p := .mk _ _ _ _ _ _ _) (b := _ :: _) (s := .mk _ _ _ _ _) rfl rfl rfl (Value.none) (Value.none) (Value.none) (Value.str (Str.ofString "postcore.lzw") 234) (Option.none) (Value.ref 53) (Value.none)) ::
   (nat_lit 55, Obj.mk (Value.type "tuple") Option.none (Data.seq #[]) #[]) ::
   (nat_lit 57, Obj.mk (Value.type "tuple") Option.none (Data.seq #[Value.str (Str.ofString "coder") 255, Value.str (Str.ofString "octets") 256, Value.str (Str.ofString "found") 257]) #[]) ::
   (nat_lit 58, Obj.mk (Value.type "tuple") Option.none (Data.seq #[]) #[]) ::
   (nat_lit 60, Obj.mk (Value.type "code") Option.none (Data.fields #[Value.str (Str.ofString "coded_whole") 252, Value.str (Str.ofString "coded_whole") 253, Value.str (Str.ofString "/claim/cut.py") 254, Value.int 16 0, Value.int 2 0, Value.int 0 0, Value.int 0 0, Value.int 3 0, Value.ref 55, Value.bool Bool.true, Value.int 181 0, Value.ref 56, Value.none, Value.ref 57, Value.ref 58, Value.ref 59, Value.int 258 0, Value.int 16 0, Value.str (Str.ofString "/claim/cut.py") 259]) #[]) ::
   (nat_lit 61, fnO 10 none (Str.ofString "coded_whole") (Str.ofString "coded_whole") (p := .mk _ _ _ _ _ _ _) (b := _ :: _) (s := .mk _ _ _ _ _) rfl rfl rfl (Value.none) (Value.none) (Value.none) (Value.str (Str.ofString "postcore.lzw") 234) (Option.none) (Value.ref 60) (Value.none)) ::
   (nat_lit 69, Obj.mk (Value.type "tuple") Option.none (Data.seq #[Value.int 1 273, Value.int 12 244]) #[]) ::
   (nat_lit 70, Obj.mk (Value.type "tuple") Option.none (Data.seq #[]) #[]) ::
   (nat_lit 72, Obj.mk (Value.type "tuple") Option.none (Data.seq #[Value.str (Str.ofString "self") 277, Value.str (Str.ofString "early") 278, Value.str (Str.ofString "most") 279]) #[]) ::
   (nat_lit 73, Obj.mk (Value.type "tuple") Option.none (Data.seq #[]) #[]) ::
   (nat_lit 75, Obj.mk (Value.type "code") Option.none (Data.fields #[Value.str (Str.ofString "__init__") 274, Value.str (Str.ofString "LzwDecoder.__init__") 275, Value.str (Str.ofString "/claim/cut.py") 276, Value.int 21 0, Value.int 3 0, Value.int 0 0, Value.int 0 0, Value.int 3 0, Value.ref 70, Value.bool Bool.true, Value.int 181 0, Value.ref 71, Value.none, Value.ref 72, Value.ref 73, Value.ref 74, Value.int 280 0, Value.int 21 0, Value.str (Str.ofString "/claim/cut.py") 281]) #[]) ::
   (nat_lit 76, fnO 11 (some 0) (Str.ofString "__init__") (Str.ofString "LzwDecoder.__init__") (p := .mk _ _ _ _ _ _ _) (b := _ :: _) (s := .mk _ _ _ _ _) rfl rfl rfl (Value.ref 69) (Value.none) (Value.none) (Value.str (Str.ofString "postcore.lzw") 234) (Option.none) (Value.ref 75) (Value.none)) ::
   (nat_lit 77, Obj.mk (Value.type "tuple") Option.none (Data.seq #[]) #[]) ::
   (nat_lit 79, Obj.mk (Value.type "tuple") Option.none (Data.seq #[Value.str (Str.ofString "self") 286]) #[]) ::
   (nat_lit 80, Obj.mk (Value.type "tuple") Option.none (Data.seq #[]) #[]) ::
   (nat_lit 82, Obj.mk (Value.type "code") Option.none (Data.fields #[Value.str (Str.ofString "clear") 283, Value.str (Str.ofString "LzwDecoder.clear") 284, Value.str (Str.ofString "/claim/cut.py") 285, Value.int 30 0, Value.int 1 0, Value.int 0 0, Value.int 0 0, Value.int 3 0, Value.ref 77, Value.bool Bool.true, Value.int 181 0, Value.ref 78, Value.none, Value.ref 79, Value.ref 80, Value.ref 81, Value.int 287 0, Value.int 30 0, Value.str (Str.ofString "/claim/cut.py") 288]) #[]) ::
   (nat_lit 83, fnO 11 (some 1) (Str.ofString "clear") (Str.ofString "LzwDecoder.clear") (p := .mk _ _ _ _ _ _ _) (b := _ :: _) (s := .mk _ _ _ _ _) rfl rfl rfl (Value.none) (Value.none) (Value.none) (Value.str (Str.ofString "postcore.lzw") 234) (Option.none) (Value.ref 82) (Value.none)) ::
   (nat_lit 84, Obj.mk (Value.type "tuple") Option.none (Data.seq #[]) #[]) ::
   (nat_lit 86, Obj.mk (Value.type "tuple") Option.none (Data.seq #[Value.str (Str.ofString "self") 293, Value.str (Str.ofString "octets") 294, Value.str (Str.ofString "found") 295, Value.str (Str.ofString "place") 296, Value.str (Str.ofString "octet") 297]) #[]) ::
   (nat_lit 87, Obj.mk (Value.type "tuple") Option.none (Data.seq #[]) #[]) ::
   (nat_lit 89, Obj.mk (Value.type "code") Option.none (Data.fields #[Value.str (Str.ofString "feed") 290, Value.str (Str.ofString "LzwDecoder.feed") 291, Value.str (Str.ofString "/claim/cut.py") 292, Value.int 35 0, Value.int 2 0, Value.int 0 0, Value.int 0 0, Value.int 3 0, Value.ref 84, Value.bool Bool.true, Value.int 181 0, Value.ref 85, Value.none, Value.ref 86, Value.ref 87, Value.ref 88, Value.int 298 0, Value.int 35 0, Value.str (Str.ofString "/claim/cut.py") 299]) #[]) ::
   (nat_lit 90, fnO 11 (some 2) (Str.ofString "feed") (Str.ofString "LzwDecoder.feed") (p := .mk _ _ _ _ _ _ _) (b := _ :: _) (s := .mk _ _ _ _ _) rfl rfl rfl (Value.none) (Value.none) (Value.none) (Value.str (Str.ofString "postcore.lzw") 234) (Option.none) (Value.ref 89) (Value.none)) ::
   (nat_lit 91, Obj.mk (Value.type "tuple") Option.none (Data.seq #[]) #[]) ::
   (nat_lit 93, Obj.mk (Value.type "tuple") Option.none (Data.seq #[Value.str (Str.ofString "self") 304, Value.str (Str.ofString "code") 305, Value.str (Str.ofString "found") 306, Value.str (Str.ofString "told") 307]) #[]) ::
   (nat_lit 94, Obj.mk (Value.type "tuple") Option.none (Data.seq #[]) #[]) ::
   (nat_lit 96, Obj.mk (Value.type "code") Option.none (Data.fields #[Value.str (Str.ofString "take") 301, Value.str (Str.ofString "LzwDecoder.take") 302, Value.str (Str.ofString "/claim/cut.py") 303, Value.int 48 0, Value.int 3 0, Value.int 0 0, Value.int 0 0, Value.int 3 0, Value.ref 91, Value.bool Bool.true, Value.int 181 0, Value.ref 92, Value.none, Value.ref 93, Value.ref 94, Value.ref 95, Value.int 308 0, Value.int 48 0, Value.str (Str.ofString "/claim/cut.py") 309]) #[]) ::
   (nat_lit 97, fnO 11 (some 3) (Str.ofString "take") (Str.ofString "LzwDecoder.take") (p := .mk _ _ _ _ _ _ _) (b := _ :: _) (s := .mk _ _ _ _ _) rfl rfl rfl (Value.none) (Value.none) (Value.none) (Value.str (Str.ofString "postcore.lzw") 234) (Option.none) (Value.ref 96) (Value.none)) ::
   (nat_lit 98, Obj.mk (Value.type "tuple") Option.none (Data.seq #[]) #[]) ::
   (nat_lit 100, Obj.mk (Value.type "tuple") Option.none (Data.seq #[Value.str (Str.ofString "self") 314, Value.str (Str.ofString "code") 315, Value.str (Str.ofString "at") 316]) #[]) ::
   (nat_lit 101, Obj.mk (Value.type "tuple") Option.none (Data.seq #[]) #[]) ::
   (nat_lit 103, Obj.mk (Value.type "code") Option.none (Data.fields #[Value.str (Str.ofString "told") 311, Value.str (Str.ofString "LzwDecoder.told") 312, Value.str (Str.ofString "/claim/cut.py") 313, Value.int 60 0, Value.int 2 0, Value.int 0 0, Value.int 0 0, Value.int 3 0, Value.ref 98, Value.bool Bool.true, Value.int 181 0, Value.ref 99, Value.none, Value.ref 100, Value.ref 101, Value.ref 102, Value.int 317 0, Value.int 60 0, Value.str (Str.ofString "/claim/cut.py") 318]) #[]) ::
   (nat_lit 104, fnO 11 (some 4) (Str.ofString "told") (Str.ofString "LzwDecoder.told") (p := .mk _ _ _ _ _ _ _) (b := _ :: _) (s := .mk _ _ _ _ _) rfl rfl rfl (Value.none) (Value.none) (Value.none) (Value.str (Str.ofString "postcore.lzw") 234) (Option.none) (Value.ref 103) (Value.none)) ::
   (nat_lit 105, Obj.mk (Value.type "tuple") Option.none (Data.seq #[]) #[]) ::
   (nat_lit 107, Obj.mk (Value.type "tuple") Option.none (Data.seq #[Value.str (Str.ofString "self") 323, Value.str (Str.ofString "octets") 324]) #[]) ::
   (nat_lit 108, Obj.mk (Value.type "tuple") Option.none (Data.seq #[]) #[]) ::
   (nat_lit 110, Obj.mk (Value.type "code") Option.none (Data.fields #[Value.str (Str.ofString "put") 320, Value.str (Str.ofString "LzwDecoder.put") 321, Value.str (Str.ofString "/claim/cut.py") 322, Value.int 70 0, Value.int 2 0, Value.int 0 0, Value.int 0 0, Value.int 3 0, Value.ref 105, Value.bool Bool.true, Value.int 181 0, Value.ref 106, Value.none, Value.ref 107, Value.ref 108, Value.ref 109, Value.int 325 0, Value.int 70 0, Value.str (Str.ofString "/claim/cut.py") 326]) #[]) ::
   (nat_lit 111, fnO 11 (some 5) (Str.ofString "put") (Str.ofString "LzwDecoder.put") (p := .mk _ _ _ _ _ _ _) (b := _ :: _) (s := .mk _ _ _ _ _) rfl rfl rfl (Value.none) (Value.none) (Value.none) (Value.str (Str.ofString "postcore.lzw") 234) (Option.none) (Value.ref 110) (Value.none)) ::
   (nat_lit 112, Obj.mk (Value.type "tuple") Option.none (Data.seq #[]) #[]) ::
   (nat_lit 114, Obj.mk (Value.type "tuple") Option.none (Data.seq #[Value.str (Str.ofString "self") 331]) #[]) ::
   (nat_lit 115, Obj.mk (Value.type "tuple") Option.none (Data.seq #[]) #[]) ::
   (nat_lit 117, Obj.mk (Value.type "code") Option.none (Data.fields #[Value.str (Str.ofString "finish") 328, Value.str (Str.ofString "LzwDecoder.finish") 329, Value.str (Str.ofString "/claim/cut.py") 330, Value.int 76 0, Value.int 1 0, Value.int 0 0, Value.int 0 0, Value.int 3 0, Value.ref 112, Value.bool Bool.true, Value.int 181 0, Value.ref 113, Value.none, Value.ref 114, Value.ref 115, Value.ref 116, Value.int 332 0, Value.int 76 0, Value.str (Str.ofString "/claim/cut.py") 333]) #[]) ::
   (nat_lit 118, fnO 11 (some 6) (Str.ofString "finish") (Str.ofString "LzwDecoder.finish") (p := .mk _ _ _ _ _ _ _) (b := _ :: _) (s := .mk _ _ _ _ _) rfl rfl rfl (Value.none) (Value.none) (Value.none) (Value.str (Str.ofString "postcore.lzw") 234) (Option.none) (Value.ref 117) (Value.none)) ::
   (nat_lit 119, Obj.mk (Value.type "tuple") Option.none (Data.seq #[Value.str (Str.ofString "bits") 335, Value.str (Str.ofString "early") 336, Value.str (Str.ofString "is_done") 337, Value.str (Str.ofString "last") 338, Value.str (Str.ofString "left") 339, Value.str (Str.ofString "many") 340, Value.str (Str.ofString "most") 341, Value.str (Str.ofString "table") 342, Value.str (Str.ofString "width") 343]) #[]) ::
   (nat_lit 120, Obj.mk (Value.type "dict") Option.none (Data.dict #[DictEntry.mk (PyData.keyHash P (Str.ofString "__module__")) (Value.str (Str.ofString "__module__") 268) (Value.str (Str.ofString "postcore.lzw") 234), DictEntry.mk (PyData.keyHash P (Str.ofString "__firstlineno__")) (Value.str (Str.ofString "__firstlineno__") 272) (Value.int 19 271), DictEntry.mk (PyData.keyHash P (Str.ofString "__init__")) (Value.str (Str.ofString "__init__") 282) (Value.ref 76), DictEntry.mk (PyData.keyHash P (Str.ofString "clear")) (Value.str (Str.ofString "clear") 289) (Value.ref 83), DictEntry.mk (PyData.keyHash P (Str.ofString "feed")) (Value.str (Str.ofString "feed") 300) (Value.ref 90), DictEntry.mk (PyData.keyHash P (Str.ofString "take")) (Value.str (Str.ofString "take") 310) (Value.ref 97), DictEntry.mk (PyData.keyHash P (Str.ofString "told")) (Value.str (Str.ofString "told") 319) (Value.ref 104), DictEntry.mk (PyData.keyHash P (Str.ofString "put")) (Value.str (Str.ofString "put") 327) (Value.ref 111), DictEntry.mk (PyData.keyHash P (Str.ofString "finish")) (Value.str (Str.ofString "finish") 334) (Value.ref 118), DictEntry.mk (PyData.keyHash P (Str.ofString "__static_attributes__")) (Value.str (Str.ofString "__static_attributes__") 344) (Value.ref 119), DictEntry.mk (PyData.keyHash P (Str.ofString "__dict__")) (Value.str (Str.ofString "__dict__") 346) (Value.ref 122), DictEntry.mk (PyData.keyHash P (Str.ofString "__weakref__")) (Value.str (Str.ofString "__weakref__") 348) (Value.ref 123), DictEntry.mk (PyData.keyHash P (Str.ofString "__doc__")) (Value.str (Str.ofString "__doc__") 349) Value.none] 4) #[]) ::
   (nat_lit 121, Obj.mk (Value.type "type") Option.none (Data.cls (ClassData.mk (Str.ofString "LzwDecoder") [Value.type "object"] [Value.ref 121, Value.type "object"] 120 (Str.ofString "LzwDecoder") Bool.true [] [] Bool.false Option.none Bool.false)) #[Option.none, Option.none, Option.some (Value.str (Str.ofString "LzwDecoder") 261), Option.some (Value.str (Str.ofString "LzwDecoder") 269), Option.some (Value.builtin "object.__new__"), Option.some (Value.bool Bool.true)]) ::
   (nat_lit 122, Obj.mk (Value.type "getset_descriptor") Option.none (Data.fields #[Value.str (Str.ofString "__dict__") 345, Value.ref 121, Value.builtin "function.__dict__", Value.builtin "function.__dict__#set"]) #[]) ::
   (nat_lit 123, Obj.mk (Value.type "getset_descriptor") Option.none (Data.fields #[Value.str (Str.ofString "__weakref__") 347, Value.ref 121, Value.builtin "ExceptionGroup.__weakref__", Value.none]) #[]) ::
   (nat_lit 133, Obj.mk (Value.type "tuple") Option.none (Data.seq #[Value.int 1 364, Value.int 12 244]) #[]) ::
   (nat_lit 134, Obj.mk (Value.type "tuple") Option.none (Data.seq #[]) #[]) ::
   (nat_lit 136, Obj.mk (Value.type "tuple") Option.none (Data.seq #[Value.str (Str.ofString "self") 368, Value.str (Str.ofString "early") 369, Value.str (Str.ofString "most") 370]) #[]) ::
   (nat_lit 137, Obj.mk (Value.type "tuple") Option.none (Data.seq #[]) #[]) ::
   (nat_lit 139, Obj.mk (Value.type "code") Option.none (Data.fields #[Value.str (Str.ofString "__init__") 365, Value.str (Str.ofString "LzwEncoder.__init__") 366, Value.str (Str.ofString "/claim/cut.py") 367, Value.int 82 0, Value.int 3 0, Value.int 0 0, Value.int 0 0, Value.int 3 0, Value.ref 134, Value.bool Bool.true, Value.int 181 0, Value.ref 135, Value.none, Value.ref 136, Value.ref 137, Value.ref 138, Value.int 371 0, Value.int 82 0, Value.str (Str.ofString "/claim/cut.py") 372]) #[]) ::
   (nat_lit 140, fnO 12 (some 0) (Str.ofString "__init__") (Str.ofString "LzwEncoder.__init__") (p := .mk _ _ _ _ _ _ _) (b := _ :: _) (s := .mk _ _ _ _ _) rfl rfl rfl (Value.ref 133) (Value.none) (Value.none) (Value.str (Str.ofString "postcore.lzw") 234) (Option.none) (Value.ref 139) (Value.none)) ::
   (nat_lit 141, Obj.mk (Value.type "tuple") Option.none (Data.seq #[]) #[]) ::
   (nat_lit 143, Obj.mk (Value.type "tuple") Option.none (Data.seq #[Value.str (Str.ofString "self") 377]) #[]) ::
   (nat_lit 144, Obj.mk (Value.type "tuple") Option.none (Data.seq #[]) #[]) ::
   (nat_lit 146, Obj.mk (Value.type "code") Option.none (Data.fields #[Value.str (Str.ofString "clear") 374, Value.str (Str.ofString "LzwEncoder.clear") 375, Value.str (Str.ofString "/claim/cut.py") 376, Value.int 92 0, Value.int 1 0, Value.int 0 0, Value.int 0 0, Value.int 3 0, Value.ref 141, Value.bool Bool.true, Value.int 181 0, Value.ref 142, Value.none, Value.ref 143, Value.ref 144, Value.ref 145, Value.int 378 0, Value.int 92 0, Value.str (Str.ofString "/claim/cut.py") 379]) #[]) ::
   (nat_lit 147, fnO 12 (some 1) (Str.ofString "clear") (Str.ofString "LzwEncoder.clear") (p := .mk _ _ _ _ _ _ _) (b := _ :: _) (s := .mk _ _ _ _ _) rfl rfl rfl (Value.none) (Value.none) (Value.none) (Value.str (Str.ofString "postcore.lzw") 234) (Option.none) (Value.ref 146) (Value.none)) ::
   (nat_lit 148, Obj.mk (Value.type "tuple") Option.none (Data.seq #[]) #[]) ::
   (nat_lit 150, Obj.mk (Value.type "tuple") Option.none (Data.seq #[Value.str (Str.ofString "self") 384, Value.str (Str.ofString "code") 385]) #[]) ::
   (nat_lit 151, Obj.mk (Value.type "tuple") Option.none (Data.seq #[]) #[]) ::
   (nat_lit 153, Obj.mk (Value.type "code") Option.none (Data.fields #[Value.str (Str.ofString "write") 381, Value.str (Str.ofString "LzwEncoder.write") 382, Value.str (Str.ofString "/claim/cut.py") 383, Value.int 97 0, Value.int 2 0, Value.int 0 0, Value.int 0 0, Value.int 3 0, Value.ref 148, Value.bool Bool.true, Value.int 181 0, Value.ref 149, Value.none, Value.ref 150, Value.ref 151, Value.ref 152, Value.int 386 0, Value.int 97 0, Value.str (Str.ofString "/claim/cut.py") 387]) #[]) ::
   (nat_lit 154, fnO 12 (some 2) (Str.ofString "write") (Str.ofString "LzwEncoder.write") (p := .mk _ _ _ _ _ _ _) (b := _ :: _) (s := .mk _ _ _ _ _) rfl rfl rfl (Value.none) (Value.none) (Value.none) (Value.str (Str.ofString "postcore.lzw") 234) (Option.none) (Value.ref 153) (Value.none)) ::
   (nat_lit 155, Obj.mk (Value.type "tuple") Option.none (Data.seq #[]) #[]) ::
   (nat_lit 157, Obj.mk (Value.type "tuple") Option.none (Data.seq #[Value.str (Str.ofString "self") 392, Value.str (Str.ofString "found") 393]) #[]) ::
   (nat_lit 158, Obj.mk (Value.type "tuple") Option.none (Data.seq #[]) #[]) ::
   (nat_lit 160, Obj.mk (Value.type "code") Option.none (Data.fields #[Value.str (Str.ofString "told") 389, Value.str (Str.ofString "LzwEncoder.told") 390, Value.str (Str.ofString "/claim/cut.py") 391, Value.int 105 0, Value.int 1 0, Value.int 0 0, Value.int 0 0, Value.int 3 0, Value.ref 155, Value.bool Bool.true, Value.int 181 0, Value.ref 156, Value.none, Value.ref 157, Value.ref 158, Value.ref 159, Value.int 394 0, Value.int 105 0, Value.str (Str.ofString "/claim/cut.py") 395]) #[]) ::
   (nat_lit 161, fnO 12 (some 3) (Str.ofString "told") (Str.ofString "LzwEncoder.told") (p := .mk _ _ _ _ _ _ _) (b := _ :: _) (s := .mk _ _ _ _ _) rfl rfl rfl (Value.none) (Value.none) (Value.none) (Value.str (Str.ofString "postcore.lzw") 234) (Option.none) (Value.ref 160) (Value.none)) ::
   (nat_lit 162, Obj.mk (Value.type "tuple") Option.none (Data.seq #[]) #[]) ::
   (nat_lit 164, Obj.mk (Value.type "tuple") Option.none (Data.seq #[Value.str (Str.ofString "self") 400, Value.str (Str.ofString "octets") 401, Value.str (Str.ofString "octet") 402]) #[]) ::
   (nat_lit 165, Obj.mk (Value.type "tuple") Option.none (Data.seq #[]) #[]) ::
   (nat_lit 167, Obj.mk (Value.type "code") Option.none (Data.fields #[Value.str (Str.ofString "feed") 397, Value.str (Str.ofString "LzwEncoder.feed") 398, Value.str (Str.ofString "/claim/cut.py") 399, Value.int 110 0, Value.int 2 0, Value.int 0 0, Value.int 0 0, Value.int 3 0, Value.ref 162, Value.bool Bool.true, Value.int 181 0, Value.ref 163, Value.none, Value.ref 164, Value.ref 165, Value.ref 166, Value.int 403 0, Value.int 110 0, Value.str (Str.ofString "/claim/cut.py") 404]) #[]) ::
   (nat_lit 168, fnO 12 (some 4) (Str.ofString "feed") (Str.ofString "LzwEncoder.feed") (p := .mk _ _ _ _ _ _ _) (b := _ :: _) (s := .mk _ _ _ _ _) rfl rfl rfl (Value.none) (Value.none) (Value.none) (Value.str (Str.ofString "postcore.lzw") 234) (Option.none) (Value.ref 167) (Value.none)) ::
   (nat_lit 169, Obj.mk (Value.type "tuple") Option.none (Data.seq #[]) #[]) ::
   (nat_lit 171, Obj.mk (Value.type "tuple") Option.none (Data.seq #[Value.str (Str.ofString "self") 409]) #[]) ::
   (nat_lit 172, Obj.mk (Value.type "tuple") Option.none (Data.seq #[]) #[]) ::
   (nat_lit 174, Obj.mk (Value.type "code") Option.none (Data.fields #[Value.str (Str.ofString "grow") 406, Value.str (Str.ofString "LzwEncoder.grow") 407, Value.str (Str.ofString "/claim/cut.py") 408, Value.int 123 0, Value.int 1 0, Value.int 0 0, Value.int 0 0, Value.int 3 0, Value.ref 169, Value.bool Bool.true, Value.int 181 0, Value.ref 170, Value.none, Value.ref 171, Value.ref 172, Value.ref 173, Value.int 410 0, Value.int 123 0, Value.str (Str.ofString "/claim/cut.py") 411]) #[]) ::
   (nat_lit 175, fnO 12 (some 5) (Str.ofString "grow") (Str.ofString "LzwEncoder.grow") (p := .mk _ _ _ _ _ _ _) (b := _ :: _) (s := .mk _ _ _ _ _) rfl rfl rfl (Value.none) (Value.none) (Value.none) (Value.str (Str.ofString "postcore.lzw") 234) (Option.none) (Value.ref 174) (Value.none)) ::
   (nat_lit 176, Obj.mk (Value.type "tuple") Option.none (Data.seq #[]) #[]) ::
   (nat_lit 178, Obj.mk (Value.type "tuple") Option.none (Data.seq #[Value.str (Str.ofString "self") 416]) #[]) ::
   (nat_lit 179, Obj.mk (Value.type "tuple") Option.none (Data.seq #[]) #[]) ::
   (nat_lit 181, Obj.mk (Value.type "code") Option.none (Data.fields #[Value.str (Str.ofString "finish") 413, Value.str (Str.ofString "LzwEncoder.finish") 414, Value.str (Str.ofString "/claim/cut.py") 415, Value.int 131 0, Value.int 1 0, Value.int 0 0, Value.int 0 0, Value.int 3 0, Value.ref 176, Value.bool Bool.true, Value.int 181 0, Value.ref 177, Value.none, Value.ref 178, Value.ref 179, Value.ref 180, Value.int 417 0, Value.int 131 0, Value.str (Str.ofString "/claim/cut.py") 418]) #[]) ::
   (nat_lit 182, fnO 12 (some 6) (Str.ofString "finish") (Str.ofString "LzwEncoder.finish") (p := .mk _ _ _ _ _ _ _) (b := _ :: _) (s := .mk _ _ _ _ _) rfl rfl rfl (Value.none) (Value.none) (Value.none) (Value.str (Str.ofString "postcore.lzw") 234) (Option.none) (Value.ref 181) (Value.none)) ::
   (nat_lit 183, Obj.mk (Value.type "tuple") Option.none (Data.seq #[Value.str (Str.ofString "bits") 420, Value.str (Str.ofString "code") 421, Value.str (Str.ofString "early") 422, Value.str (Str.ofString "following") 423, Value.str (Str.ofString "found") 424, Value.str (Str.ofString "many") 425, Value.str (Str.ofString "most") 426, Value.str (Str.ofString "table") 427, Value.str (Str.ofString "width") 428]) #[]) ::
   (nat_lit 184, Obj.mk (Value.type "dict") Option.none (Data.dict #[DictEntry.mk (PyData.keyHash P (Str.ofString "__module__")) (Value.str (Str.ofString "__module__") 359) (Value.str (Str.ofString "postcore.lzw") 234), DictEntry.mk (PyData.keyHash P (Str.ofString "__firstlineno__")) (Value.str (Str.ofString "__firstlineno__") 363) (Value.int 80 362), DictEntry.mk (PyData.keyHash P (Str.ofString "__init__")) (Value.str (Str.ofString "__init__") 373) (Value.ref 140), DictEntry.mk (PyData.keyHash P (Str.ofString "clear")) (Value.str (Str.ofString "clear") 380) (Value.ref 147), DictEntry.mk (PyData.keyHash P (Str.ofString "write")) (Value.str (Str.ofString "write") 388) (Value.ref 154), DictEntry.mk (PyData.keyHash P (Str.ofString "told")) (Value.str (Str.ofString "told") 396) (Value.ref 161), DictEntry.mk (PyData.keyHash P (Str.ofString "feed")) (Value.str (Str.ofString "feed") 405) (Value.ref 168), DictEntry.mk (PyData.keyHash P (Str.ofString "grow")) (Value.str (Str.ofString "grow") 412) (Value.ref 175), DictEntry.mk (PyData.keyHash P (Str.ofString "finish")) (Value.str (Str.ofString "finish") 419) (Value.ref 182), DictEntry.mk (PyData.keyHash P (Str.ofString "__static_attributes__")) (Value.str (Str.ofString "__static_attributes__") 429) (Value.ref 183), DictEntry.mk (PyData.keyHash P (Str.ofString "__dict__")) (Value.str (Str.ofString "__dict__") 431) (Value.ref 186), DictEntry.mk (PyData.keyHash P (Str.ofString "__weakref__")) (Value.str (Str.ofString "__weakref__") 433) (Value.ref 187), DictEntry.mk (PyData.keyHash P (Str.ofString "__doc__")) (Value.str (Str.ofString "__doc__") 434) Value.none] 4) #[]) ::
   (nat_lit 185, Obj.mk (Value.type "type") Option.none (Data.cls (ClassData.mk (Str.ofString "LzwEncoder") [Value.type "object"] [Value.ref 185, Value.type "object"] 184 (Str.ofString "LzwEncoder") Bool.true [] [] Bool.false Option.none Bool.false)) #[Option.none, Option.none, Option.some (Value.str (Str.ofString "LzwEncoder") 352), Option.some (Value.str (Str.ofString "LzwEncoder") 360), Option.some (Value.builtin "object.__new__"), Option.some (Value.bool Bool.true)]) ::
   (nat_lit 186, Obj.mk (Value.type "getset_descriptor") Option.none (Data.fields #[Value.str (Str.ofString "__dict__") 430, Value.ref 185, Value.builtin "function.__dict__", Value.builtin "function.__dict__#set"]) #[]) ::
   (nat_lit 187, Obj.mk (Value.type "getset_descriptor") Option.none (Data.fields #[Value.str (Str.ofString "__weakref__") 432, Value.ref 185, Value.builtin "ExceptionGroup.__weakref__", Value.none]) #[]) ::
   (nat_lit 190, Obj.mk (Value.type "tuple") Option.none (Data.seq #[Value.int 1 437, Value.int 12 244]) #[]) ::
   (nat_lit 191, Obj.mk (Value.type "tuple") Option.none (Data.seq #[]) #[]) ::
   (nat_lit 193, Obj.mk (Value.type "tuple") Option.none (Data.seq #[Value.str (Str.ofString "octets") 441, Value.str (Str.ofString "early") 442, Value.str (Str.ofString "most") 443]) #[]) ::
   (nat_lit 194, Obj.mk (Value.type "tuple") Option.none (Data.seq #[]) #[]) ::
   (nat_lit 196, Obj.mk (Value.type "code") Option.none (Data.fields #[Value.str (Str.ofString "lzw_encoded") 438, Value.str (Str.ofString "lzw_encoded") 439, Value.str (Str.ofString "/claim/cut.py") 440, Value.int 139 0, Value.int 3 0, Value.int 0 0, Value.int 0 0, Value.int 3 0, Value.ref 191, Value.bool Bool.true, Value.int 181 0, Value.ref 192, Value.none, Value.ref 193, Value.ref 194, Value.ref 195, Value.int 444 0, Value.int 139 0, Value.str (Str.ofString "/claim/cut.py") 445]) #[]) ::
   (nat_lit 197, fnO 13 none (Str.ofString "lzw_encoded") (Str.ofString "lzw_encoded") (p := .mk _ _ _ _ _ _ _) (b := _ :: _) (s := .mk _ _ _ _ _) rfl rfl rfl (Value.ref 190) (Value.none) (Value.none) (Value.str (Str.ofString "postcore.lzw") 234) (Option.none) (Value.ref 196) (Value.none)) ::
   (nat_lit 198, Obj.mk (Value.type "tuple") Option.none (Data.seq #[Value.int 1 447, Value.int 12 244]) #[]) ::
   (nat_lit 199, Obj.mk (Value.type "tuple") Option.none (Data.seq #[]) #[]) ::
   (nat_lit 201, Obj.mk (Value.type "tuple") Option.none (Data.seq #[Value.str (Str.ofString "octets") 451, Value.str (Str.ofString "early") 452, Value.str (Str.ofString "most") 453]) #[]) ::
   (nat_lit 202, Obj.mk (Value.type "tuple") Option.none (Data.seq #[]) #[]) ::
   (nat_lit 204, Obj.mk (Value.type "code") Option.none (Data.fields #[Value.str (Str.ofString "lzw_decoded") 448, Value.str (Str.ofString "lzw_decoded") 449, Value.str (Str.ofString "/claim/cut.py") 450, Value.int 141 0, Value.int 3 0, Value.int 0 0, Value.int 0 0, Value.int 3 0, Value.ref 199, Value.bool Bool.true, Value.int 181 0, Value.ref 200, Value.none, Value.ref 201, Value.ref 202, Value.ref 203, Value.int 454 0, Value.int 141 0, Value.str (Str.ofString "/claim/cut.py") 455]) #[]) ::
   (nat_lit 205, fnO 14 none (Str.ofString "lzw_decoded") (Str.ofString "lzw_decoded") (p := .mk _ _ _ _ _ _ _) (b := _ :: _) (s := .mk _ _ _ _ _) rfl rfl rfl (Value.ref 198) (Value.none) (Value.none) (Value.str (Str.ofString "postcore.lzw") 234) (Option.none) (Value.ref 204) (Value.none)) ::
   (nat_lit 206, Obj.mk (Value.type "tuple") Option.none (Data.seq #[]) #[]) ::
   (nat_lit 209, Obj.mk (Value.type "code") Option.none (Data.fields #[Value.str (Str.ofString "_law_deck") 459, Value.str (Str.ofString "_law_deck") 460, Value.str (Str.ofString "/claim/cut.py") 461, Value.int 144 0, Value.int 1 0, Value.int 0 0, Value.int 0 0, Value.int 3 0, Value.ref 206, Value.bool Bool.true, Value.int 181 0, Value.ref 207, Value.none, Value.none, Value.none, Value.ref 208, Value.int 462 0, Value.int 144 0, Value.str (Str.ofString "/claim/cut.py") 463]) #[]) ::
   (nat_lit 210, fnO 16 none (Str.ofString "_law_deck") (Str.ofString "_law_deck") (p := .mk _ _ _ _ _ _ _) (b := _ :: _) (s := .mk _ _ _ _ _) rfl rfl rfl (Value.none) (Value.none) (Value.none) (Value.str (Str.ofString "law_nt0490_01") 457) (Option.none) (Value.ref 209) (Value.none)) ::
   (nat_lit 211, Obj.mk (Value.type "tuple") Option.none (Data.seq #[]) #[]) ::
   (nat_lit 213, Obj.mk (Value.type "tuple") Option.none (Data.seq #[Value.str (Str.ofString "deck") 468, Value.str (Str.ofString "below") 469, Value.str (Str.ofString "at") 470, Value.str (Str.ofString "cells") 471]) #[]) ::
   (nat_lit 214, Obj.mk (Value.type "tuple") Option.none (Data.seq #[]) #[]) ::
   (nat_lit 216, Obj.mk (Value.type "code") Option.none (Data.fields #[Value.str (Str.ofString "_law_draw") 465, Value.str (Str.ofString "_law_draw") 466, Value.str (Str.ofString "/claim/cut.py") 467, Value.int 146 0, Value.int 2 0, Value.int 0 0, Value.int 0 0, Value.int 3 0, Value.ref 211, Value.bool Bool.true, Value.int 181 0, Value.ref 212, Value.none, Value.ref 213, Value.ref 214, Value.ref 215, Value.int 472 0, Value.int 146 0, Value.str (Str.ofString "/claim/cut.py") 473]) #[]) ::
   (nat_lit 217, fnO 17 none (Str.ofString "_law_draw") (Str.ofString "_law_draw") (p := .mk _ _ _ _ _ _ _) (b := _ :: _) (s := .mk _ _ _ _ _) rfl rfl rfl (Value.none) (Value.none) (Value.none) (Value.str (Str.ofString "law_nt0490_01") 457) (Option.none) (Value.ref 216) (Value.none)) ::
   (nat_lit 218, Obj.mk (Value.type "tuple") Option.none (Data.seq #[]) #[]) ::
   (nat_lit 221, Obj.mk (Value.type "code") Option.none (Data.fields #[Value.str (Str.ofString "_law_packed") 475, Value.str (Str.ofString "_law_packed") 476, Value.str (Str.ofString "/claim/cut.py") 477, Value.int 154 0, Value.int 2 0, Value.int 0 0, Value.int 0 0, Value.int 3 0, Value.ref 218, Value.bool Bool.true, Value.int 181 0, Value.ref 219, Value.none, Value.none, Value.none, Value.ref 220, Value.int 478 0, Value.int 154 0, Value.str (Str.ofString "/claim/cut.py") 479]) #[]) ::
   (nat_lit 222, fnO 18 none (Str.ofString "_law_packed") (Str.ofString "_law_packed") (p := .mk _ _ _ _ _ _ _) (b := _ :: _) (s := .mk _ _ _ _ _) rfl rfl rfl (Value.none) (Value.none) (Value.none) (Value.str (Str.ofString "law_nt0490_01") 457) (Option.none) (Value.ref 221) (Value.none)) ::
   (nat_lit 223, Obj.mk (Value.type "tuple") Option.none (Data.seq #[]) #[]) ::
   (nat_lit 226, Obj.mk (Value.type "code") Option.none (Data.fields #[Value.str (Str.ofString "_law_codes") 481, Value.str (Str.ofString "_law_codes") 482, Value.str (Str.ofString "/claim/cut.py") 483, Value.int 161 0, Value.int 1 0, Value.int 0 0, Value.int 0 0, Value.int 3 0, Value.ref 223, Value.bool Bool.true, Value.int 181 0, Value.ref 224, Value.none, Value.none, Value.none, Value.ref 225, Value.int 484 0, Value.int 161 0, Value.str (Str.ofString "/claim/cut.py") 485]) #[]) ::
   (nat_lit 227, fnO 19 none (Str.ofString "_law_codes") (Str.ofString "_law_codes") (p := .mk _ _ _ _ _ _ _) (b := _ :: _) (s := .mk _ _ _ _ _) rfl rfl rfl (Value.none) (Value.none) (Value.none) (Value.str (Str.ofString "law_nt0490_01") 457) (Option.none) (Value.ref 226) (Value.none)) ::
   (nat_lit 228, Obj.mk (Value.type "tuple") Option.none (Data.seq #[]) #[]) ::
   (nat_lit 230, Obj.mk (Value.type "tuple") Option.none (Data.seq #[Value.str (Str.ofString "codes") 490, Value.str (Str.ofString "table") 491, Value.str (Str.ofString "last") 492, Value.str (Str.ofString "found") 493, Value.str (Str.ofString "at") 494, Value.str (Str.ofString "code") 495, Value.str (Str.ofString "part") 496]) #[]) ::
   (nat_lit 231, Obj.mk (Value.type "tuple") Option.none (Data.seq #[]) #[]) ::
   (nat_lit 233, Obj.mk (Value.type "code") Option.none (Data.fields #[Value.str (Str.ofString "_law_read") 487, Value.str (Str.ofString "_law_read") 488, Value.str (Str.ofString "/claim/cut.py") 489, Value.int 171 0, Value.int 1 0, Value.int 0 0, Value.int 0 0, Value.int 3 0, Value.ref 228, Value.bool Bool.true, Value.int 181 0, Value.ref 229, Value.none, Value.ref 230, Value.ref 231, Value.ref 232, Value.int 497 0, Value.int 171 0, Value.str (Str.ofString "/claim/cut.py") 498]) #[]) ::
   (nat_lit 234, fnO 20 none (Str.ofString "_law_read") (Str.ofString "_law_read") (p := .mk _ _ _ _ _ _ _) (b := _ :: _) (s := .mk _ _ _ _ _) rfl rfl rfl (Value.none) (Value.none) (Value.none) (Value.str (Str.ofString "law_nt0490_01") 457) (Option.none) (Value.ref 233) (Value.none)) ::
   (nat_lit 235, Obj.mk (Value.type "tuple") Option.none (Data.seq #[]) #[]) ::
   (nat_lit 237, Obj.mk (Value.type "tuple") Option.none (Data.seq #[Value.str (Str.ofString "octets") 503, Value.str (Str.ofString "early") 504, Value.str (Str.ofString "e") 505]) #[]) ::
   (nat_lit 238, Obj.mk (Value.type "tuple") Option.none (Data.seq #[]) #[]) ::
   (nat_lit 240, Obj.mk (Value.type "code") Option.none (Data.fields #[Value.str (Str.ofString "_law_told") 500, Value.str (Str.ofString "_law_told") 501, Value.str (Str.ofString "/claim/cut.py") 502, Value.int 191 0, Value.int 2 0, Value.int 0 0, Value.int 0 0, Value.int 3 0, Value.ref 235, Value.bool Bool.true, Value.int 181 0, Value.ref 236, Value.none, Value.ref 237, Value.ref 238, Value.ref 239, Value.int 506 0, Value.int 191 0, Value.str (Str.ofString "/claim/cut.py") 507]) #[]) ::
   (nat_lit 241, fnO 21 none (Str.ofString "_law_told") (Str.ofString "_law_told") (p := .mk _ _ _ _ _ _ _) (b := _ :: _) (s := .mk _ _ _ _ _) rfl rfl rfl (Value.none) (Value.none) (Value.none) (Value.str (Str.ofString "law_nt0490_01") 457) (Option.none) (Value.ref 240) (Value.none)) ::
   (nat_lit 242, Obj.mk (Value.type "tuple") Option.none (Data.seq #[]) #[]) ::
   (nat_lit 245, Obj.mk (Value.type "code") Option.none (Data.fields #[Value.str (Str.ofString "_law_pieces_right") 509, Value.str (Str.ofString "_law_pieces_right") 510, Value.str (Str.ofString "/claim/cut.py") 511, Value.int 196 0, Value.int 5 0, Value.int 0 0, Value.int 0 0, Value.int 3 0, Value.ref 242, Value.bool Bool.true, Value.int 181 0, Value.ref 243, Value.none, Value.none, Value.none, Value.ref 244, Value.int 512 0, Value.int 196 0, Value.str (Str.ofString "/claim/cut.py") 513]) #[]) ::
   (nat_lit 246, fnO 22 none (Str.ofString "_law_pieces_right") (Str.ofString "_law_pieces_right") (p := .mk _ _ _ _ _ _ _) (b := _ :: _) (s := .mk _ _ _ _ _) rfl rfl rfl (Value.none) (Value.none) (Value.none) (Value.str (Str.ofString "law_nt0490_01") 457) (Option.none) (Value.ref 245) (Value.none)) ::
   (nat_lit 247, Obj.mk (Value.type "tuple") Option.none (Data.seq #[]) #[]) ::
   (nat_lit 249, Obj.mk (Value.type "tuple") Option.none (Data.seq #[Value.str (Str.ofString "deck") 518, Value.str (Str.ofString "early") 519, Value.str (Str.ofString "many") 520, Value.str (Str.ofString "widths") 521, Value.str (Str.ofString "width") 522, Value.str (Str.ofString "number") 523, Value.str (Str.ofString "turn") 524]) #[]) ::
   (nat_lit 250, Obj.mk (Value.type "tuple") Option.none (Data.seq #[]) #[]) ::
   (nat_lit 252, Obj.mk (Value.type "code") Option.none (Data.fields #[Value.str (Str.ofString "_law_long_right") 515, Value.str (Str.ofString "_law_long_right") 516, Value.str (Str.ofString "/claim/cut.py") 517, Value.int 207 0, Value.int 2 0, Value.int 0 0, Value.int 0 0, Value.int 3 0, Value.ref 247, Value.bool Bool.true, Value.int 181 0, Value.ref 248, Value.none, Value.ref 249, Value.ref 250, Value.ref 251, Value.int 525 0, Value.int 207 0, Value.str (Str.ofString "/claim/cut.py") 526]) #[]) ::
   (nat_lit 253, fnO 23 none (Str.ofString "_law_long_right") (Str.ofString "_law_long_right") (p := .mk _ _ _ _ _ _ _) (b := _ :: _) (s := .mk _ _ _ _ _) rfl rfl rfl (Value.none) (Value.none) (Value.none) (Value.str (Str.ofString "law_nt0490_01") 457) (Option.none) (Value.ref 252) (Value.none)) ::
   (nat_lit 254, Obj.mk (Value.type "tuple") Option.none (Data.seq #[]) #[]) ::
   (nat_lit 257, Obj.mk (Value.type "code") Option.none (Data.fields #[Value.str (Str.ofString "law") 528, Value.str (Str.ofString "law") 529, Value.str (Str.ofString "/claim/cut.py") 530, Value.int 215 0, Value.int 1 0, Value.int 0 0, Value.int 0 0, Value.int 3 0, Value.ref 254, Value.bool Bool.true, Value.int 181 0, Value.ref 255, Value.none, Value.none, Value.none, Value.ref 256, Value.int 531 0, Value.int 215 0, Value.str (Str.ofString "/claim/cut.py") 532]) #[]) ::
   (nat_lit 258, fnO 24 none (Str.ofString "law") (Str.ofString "law") (p := .mk _ _ _ _ _ _ _) (b := _ :: _) (s := .mk _ _ _ _ _) rfl rfl rfl (Value.none) (Value.none) (Value.none) (Value.str (Str.ofString "law_nt0490_01") 457) (Option.none) (Value.ref 257) (Value.none)) :: []
noncomputable def hdAs : List Addr := [2, 3, 15, 22, 23, 25, 26, 28, 29, 30, 31, 32, 33, 36, 43, 44, 45, 48, 50, 51, 53, 54, 55, 57, 58, 60, 61, 69, 70, 72, 73, 75, 76, 77, 79, 80, 82, 83, 84, 86, 87, 89, 90, 91, 93, 94, 96, 97, 98, 100, 101, 103, 104, 105, 107, 108, 110, 111, 112, 114, 115, 117, 118, 119, 120, 121, 122, 123, 133, 134, 136, 137, 139, 140, 141, 143, 144, 146, 147, 148, 150, 151, 153, 154, 155, 157, 158, 160, 161, 162, 164, 165, 167, 168, 169, 171, 172, 174, 175, 176, 178, 179, 181, 182, 183, 184, 185, 186, 187, 190, 191, 193, 194, 196, 197, 198, 199, 201, 202, 204, 205, 206, 209, 210, 211, 213, 214, 216, 217, 218, 221, 222, 223, 226, 227, 228, 230, 231, 233, 234, 235, 237, 238, 240, 241, 242, 245, 246, 247, 249, 250, 252, 253, 254, 257, 258]
theorem hdAs_eq : ∀ P, hdAs = (hd.heap_39 P).map (·.1) := fun _ => by kernel_rfl
noncomputable def hdLoose : List Str := [Str.ofString "PostError", Str.ofString "LzwDecoder", Str.ofString "LzwEncoder", Str.ofString "lzw_encoded", Str.ofString "lzw_decoded"]
/-! the top is run over a tree of objects: a third of the time, less memory -/
noncomputable def topRunT (tb : String → Option Builtin) (p : Program) (w : World) (n₀ : Nat) (ann : Option Value) : Nat → SharedT → Thread → Option SharedT
  | 0, _, _ => none
  | n + 1, s, t => match through t with
    | true => some s
    | false => match stepOk n₀ ann t with
      | false => none
      | true => match stepT (denote tb) p w s t with
        | some (s', t') => topRunT tb p w n₀ ann n s' t'
        | none => none
theorem topRun_of {tb : String → Option Builtin} {p : Program} {w : World} {n₀ : Nat} {ann : Option Value} : ∀ {n : Nat} {s s' : SharedT} {t : Thread}, topRunT tb p w n₀ ann n s t = some s' → topRun tb p w n₀ ann n s.abs t = some s'.abs
  | 0, _, _, _, h => by cases h
  | n + 1, s, s', t, h => by
    unfold topRunT at h
    unfold topRun
    cases ht : through t with
    | true => rw [ht] at h; cases h; rfl
    | false =>
      rw [ht] at h
      cases hk : stepOk n₀ ann t with
      | false => rw [hk] at h; cases h
      | true =>
        rw [hk] at h
        cases hs : stepT (denote tb) p w s t with
        | none => rw [hs] at h; cases h
        | some r => obtain ⟨s₂, t₂⟩ := r; rw [hs] at h; rw [stepT_spec hs]; exact topRun_of h
theorem left_ofTree {p q : Program} {loose : List Str} {Xt : Shared → Bool} {α : Type} {Yf : Shared → α} {Ya : World → α} {N : Nat} {H₀ : Params → Heap} {T0 : Params → BT} {n0 : Nat} {life : Life} {gs : Array GenState} {d : Drawn} {k m₀ : Nat} {ann : Option Value}
    (open_ : ∀ w : World, (fencedOpening treeTable p w N).map (fun s => (s.heap, s.gens, s.drawn, s.toks)) = some (H₀ w.params, gs, d, k))
    (tree : ∀ P, H₀ P = absHeap (T0 P) n0 life)
    (size : ∀ w : World, ((H₀ w.params).isNs mainGlobals && gs.size == 0, (H₀ w.params).objs.size, (H₀ w.params).nsMap mainGlobals "__annotations__") = (true, m₀, ann))
    (run : ∀ (w : World) (os : OsState), (topRunT treeTable p w m₀ ann N ⟨T0 w.params, n0, life, gs, d, k, os⟩ (topStub p)).map (fun s =>
      ((staticsOk (importedModules p.main.body) (H₀ w.params) s.abs.heap && namesBound p s.abs.heap && gensDone s.abs && laidKept (H₀ w.params) s.abs.heap), openSeen q loose (importedModules p.main.body) Xt true s.abs, Yf s.abs)) = some (true, openGood q loose, Ya w)) :
    LeftO p q loose Xt Yf Ya N := fun w => by
  obtain ⟨⟨h, gs', d', k', os⟩, e, e'⟩ := Option.map_eq_some_iff.mp (open_ w)
  obtain ⟨rfl, rfl, rfl, rfl⟩ : h = H₀ w.params ∧ gs' = gs ∧ d' = d ∧ k' = k := by simpa using e'
  obtain ⟨z1, z2, z3⟩ : _ ∧ _ ∧ _ := by simpa only [Prod.mk.injEq] using size w
  obtain ⟨s', r, l⟩ := Option.map_eq_some_iff.mp (run w os)
  obtain ⟨l1, l2, l3⟩ : _ ∧ _ ∧ _ := by simpa only [Prod.mk.injEq] using l
  have r := topRun_of r
  obtain ⟨S, hS⟩ : ∃ S : SharedT, S = ⟨T0 w.params, n0, life, gs', d', k', os⟩ := ⟨_, rfl⟩
  rw [← hS] at r
  have e0 : (⟨H₀ w.params, gs', d', k', os⟩ : Shared) = S.abs := by subst hS; rw [tree]; rfl
  have a1 : (S.abs.heap.isNs mainGlobals && S.abs.gens.size == 0) = true := by rw [← e0]; exact z1
  have a2 : S.abs.heap.objs.size = m₀ := by rw [← e0]; exact z2
  have a3 : S.abs.heap.nsMap mainGlobals "__annotations__" = ann := by rw [← e0]; exact z3
  have a4 : (staticsOk (importedModules p.main.body) S.abs.heap s'.abs.heap && namesBound p s'.abs.heap && gensDone s'.abs && laidKept S.abs.heap s'.abs.heap) = true := by rw [← e0]; exact l1
  have t : topFrom treeTable p w N S.abs = some s'.abs := by
    unfold topFrom
    rw [a1, a2, a3, r]
    show (match staticsOk (importedModules p.main.body) S.abs.heap s'.abs.heap && namesBound p s'.abs.heap && gensDone s'.abs && laidKept S.abs.heap s'.abs.heap with | true => some s'.abs | false => none) = some s'.abs
    rw [a4]
  unfold openEnds
  rw [e, e0]
  show (topFrom treeTable p w N _).map _ = _
  rw [t]
  exact congrArg some (Prod.ext l2 l3)
noncomputable def bt0 (P : Params) : BT := ((boot_heap P).objs.toList.foldl (fun x o => (x.1.ins x.2 o, x.2 + 1)) ((BT.nil : BT), 0)).1
theorem bt0_eq (P : Params) : boot_heap P = absHeap (bt0 P) 11 {} := by kernel_rfl
theorem bt0_size (w : World) : ((boot_heap w.params).isNs mainGlobals && (Array.mk [] : Array GenState).size == 0, (boot_heap w.params).objs.size, (boot_heap w.params).nsMap mainGlobals "__annotations__") = (true, 11, some (.ref 6)) := by kernel_rfl
theorem hd_open : ∀ w : World, (fencedOpening treeTable PySem.Challenge.rw_nt0490_01.row.prog w 3658).map (fun s => (s.heap, s.gens, s.drawn, s.toks)) = some (boot_heap w.params, Array.mk [], boot_drawn, boot_toks) :=
  boot_open (by kernel_rfl) rfl (fun _ => by kernel_rfl)
theorem hd_left : LeftO PySem.Challenge.rw_nt0490_01.row.prog hd.view_39 hdLoose (fun s => xlAt hd.view_39 [] s && recOk (RowW.records PySem.Challenge.rw_nt0490_01.row.toRowW) s) (kHook hd.heap_39 hdAs hdAs_eq).obs (kHook hd.heap_39 hdAs hdAs_eq).val 3658 := by
  refine left_ofTree hd_open bt0_eq bt0_size ?_
  intro w os
  kernel_rfl
/-- what is to be shown of the law itself -/
def HdWalk {p : Arguments} {b : List Stmt} {s : Scope} (_ : argsAt 24 none = p) (_ : bodyAt 24 none = b) (_ : scopeAt 24 none = s) : Prop :=
  WalkC hd.view_39 hdLoose (XL hd.view_39 []) (kHook hd.heap_39 hdAs hdAs_eq).says PySem.Challenge.rw_nt0490_01.row.toRowW ⟨Str.ofString "law", p, b, s, ⟨215, 0, 233, 71⟩⟩ []
theorem hd (walk : HdWalk (p := .mk _ _ _ _ _ _ _) (b := _ :: _) (s := .mk _ _ _ _ _) rfl rfl rfl) : PySem.Challenge.rw_nt0490_01.Holds := by
  refine holds_law (by kernel_rfl) fun said => ?_
  refine holds_ofTop hd_left (Hook.of _) (Hook.keeps _) (fun s e => xl_of s (Bool.and_eq_true_iff.mp e).1) XL.keeps (by kernel_rfl) (by kernel_rfl) (by kernel_rfl) (fun s e => recFacts_of (Bool.and_eq_true_iff.mp e).2) (by rfl) said (by decide +kernel) ⟨rfl, rfl, rfl, rfl, rfl, by decide +kernel⟩ ?hw walk
  case hw => w_witness2
section
section
variable {M : Model} {A : Around} {E : Value → Shared → Prop} {s : Shared} {env : Env} {α : Type} {t : Sem α} {Q : α → Shared → Prop}
/-- the rest under a name, so that the steps ahead of it do not say it again -/
theorem r_consL {st : Stmt} {rest : List Stmt} {Q : Flow → Shared → Prop}
    (h : let Q' : Flow → Shared → Prop := fun f s' => match f with | .next => wpAny M A (execs rest env) Q E s' | f => Q f s'; wpAny M A (exec st env) Q' E s) : wpAny M A (execs (st :: rest) env) Q E s := wpAny_execs_cons h
theorem foldA (h : let Q' : α → Shared → Prop := Q; wpAny M A t Q' E s) : wpAny M A t Q E s := h
theorem foldC (h : let Q' : α → Shared → Prop := Q; wpC M A t Q' E s) : wpC M A t Q E s := h
end
/-- what a call does with the ledger, said for every frame that calls -/
def CallOk (w : World) (loose : List Str) (mean : ExcName → Option Value) (mg mb : Str → Option Value) (lvl : Nat)
    (f : Value) (args : List Value) (news : List (Addr × Obj)) (Post : Value → List (Addr × Obj) → Prop) : Prop :=
  ∀ (dp un : Nat) (gd : Option (List Code)) (cn : Str) (cs : Scope) (a : Addr) (ccd : Value) (cl : List (Str × Addr)) (outer : List Env)
    (A₀ : Around) (base h₀ : Heap) (L : Addr) (m : Str → Option Value) (s : Shared) (Q E : Value → Shared → Prop),
    Below A₀ base outer h₀ → Fr h₀ L s.heap m → (Mine.hd.heap_39 w.params).In h₀ → News h₀ L s.heap news →
    Top Mine.hd.view_39 loose mean mg mb h₀ → cs.kind = .function →
    dp + lvl < recursionLimit → un + 8 * lvl < cLine →
    (∀ r news' h' tk', Fr h₀ L h' m → News h₀ L h' news' → Post r news' → Q r { s with heap := h', toks := tk' }) →
    wpAny (model PySem.Challenge.rw_nt0490_01.row.prog w) (ktrTop dp un gd cn cs L a ccd cl outer) (call f args) Q E s

noncomputable abbrev ent (kh : Nat → Int × Tok) (i : Nat) (nm : String) (v : Value) : DictEntry := ⟨(kh i).1, .str (Str.ofString nm) (kh i).2, v⟩

noncomputable abbrev decEs (kh : Nat → Int × Tok) (early most isdone left bits many width table last : Value) : List DictEntry :=
  [ent kh 0 "early" early, ent kh 1 "most" most, ent kh 2 "is_done" isdone, ent kh 3 "left" left, ent kh 4 "bits" bits, ent kh 5 "many" many,
   ent kh 6 "width" width, ent kh 7 "table" table, ent kh 8 "last" last]

theorem putL_hd {nm s : Str} {tk : Tok} {hh h : Int} {key v v0 : Value} {r : List DictEntry} (x : (s == nm) = true) : putL nm h key v (⟨hh, .str s tk, v0⟩ :: r) = ⟨hh, .str s tk, v⟩ :: r := by
  unfold putL; rw [if_pos (show (Value.str s tk).isStr nm = true from x)]
theorem putL_tl {nm s : Str} {tk : Tok} {hh h : Int} {key v v0 : Value} {r r' : List DictEntry} (x : (s == nm) = false) (y : putL nm h key v r = r') : putL nm h key v (⟨hh, .str s tk, v0⟩ :: r) = ⟨hh, .str s tk, v0⟩ :: r' := by
  unfold putL; rw [if_neg (by show ¬ (s == nm) = true; rw [x]; exact Bool.false_ne_true), y]
theorem putN_hd {nm s : Str} {tk : Tok} {hh : Int} {v0 : Value} {r : List DictEntry} {n : Nat} (x : (s == nm) = true) : putN nm (⟨hh, .str s tk, v0⟩ :: r) n = n := by
  unfold putN; rw [if_pos (by rw [List.any_cons, show (Value.str s tk).isStr nm = true from x]; rfl)]
theorem putN_tl {nm s : Str} {tk : Tok} {hh : Int} {v0 : Value} {r : List DictEntry} {n n' : Nat} (x : (s == nm) = false) (y : putN nm r n = n') : putN nm (⟨hh, .str s tk, v0⟩ :: r) n = n' := by
  rw [← y]; unfold putN; rw [List.any_cons, show (Value.str s tk).isStr nm = false from x, Bool.false_or]
section
variable {h : Int} {key v a0 a1 a2 a3 a4 a5 a6 a7 a8 : Value} {kh : Nat → Int × Tok} {n : Nat}
theorem putL_d2 : putL (Str.ofString "is_done") h key v (decEs kh a0 a1 a2 a3 a4 a5 a6 a7 a8) = decEs kh a0 a1 v a3 a4 a5 a6 a7 a8 := putL_tl (by decide +kernel) (putL_tl (by decide +kernel) (putL_hd (by decide +kernel)))
theorem putN_d2 : putN (Str.ofString "is_done") (decEs kh a0 a1 a2 a3 a4 a5 a6 a7 a8) n = n := putN_tl (by decide +kernel) (putN_tl (by decide +kernel) (putN_hd (by decide +kernel)))
theorem putL_d3 : putL (Str.ofString "left") h key v (decEs kh a0 a1 a2 a3 a4 a5 a6 a7 a8) = decEs kh a0 a1 a2 v a4 a5 a6 a7 a8 := putL_tl (by decide +kernel) (putL_tl (by decide +kernel) (putL_tl (by decide +kernel) (putL_hd (by decide +kernel))))
theorem putN_d3 : putN (Str.ofString "left") (decEs kh a0 a1 a2 a3 a4 a5 a6 a7 a8) n = n := putN_tl (by decide +kernel) (putN_tl (by decide +kernel) (putN_tl (by decide +kernel) (putN_hd (by decide +kernel))))
theorem putL_d4 : putL (Str.ofString "bits") h key v (decEs kh a0 a1 a2 a3 a4 a5 a6 a7 a8) = decEs kh a0 a1 a2 a3 v a5 a6 a7 a8 := putL_tl (by decide +kernel) (putL_tl (by decide +kernel) (putL_tl (by decide +kernel) (putL_tl (by decide +kernel) (putL_hd (by decide +kernel)))))
theorem putN_d4 : putN (Str.ofString "bits") (decEs kh a0 a1 a2 a3 a4 a5 a6 a7 a8) n = n := putN_tl (by decide +kernel) (putN_tl (by decide +kernel) (putN_tl (by decide +kernel) (putN_tl (by decide +kernel) (putN_hd (by decide +kernel)))))
theorem putL_d5 : putL (Str.ofString "many") h key v (decEs kh a0 a1 a2 a3 a4 a5 a6 a7 a8) = decEs kh a0 a1 a2 a3 a4 v a6 a7 a8 := putL_tl (by decide +kernel) (putL_tl (by decide +kernel) (putL_tl (by decide +kernel) (putL_tl (by decide +kernel) (putL_tl (by decide +kernel) (putL_hd (by decide +kernel))))))
theorem putN_d5 : putN (Str.ofString "many") (decEs kh a0 a1 a2 a3 a4 a5 a6 a7 a8) n = n := putN_tl (by decide +kernel) (putN_tl (by decide +kernel) (putN_tl (by decide +kernel) (putN_tl (by decide +kernel) (putN_tl (by decide +kernel) (putN_hd (by decide +kernel))))))
theorem putL_d6 : putL (Str.ofString "width") h key v (decEs kh a0 a1 a2 a3 a4 a5 a6 a7 a8) = decEs kh a0 a1 a2 a3 a4 a5 v a7 a8 := putL_tl (by decide +kernel) (putL_tl (by decide +kernel) (putL_tl (by decide +kernel) (putL_tl (by decide +kernel) (putL_tl (by decide +kernel) (putL_tl (by decide +kernel) (putL_hd (by decide +kernel)))))))
theorem putN_d6 : putN (Str.ofString "width") (decEs kh a0 a1 a2 a3 a4 a5 a6 a7 a8) n = n := putN_tl (by decide +kernel) (putN_tl (by decide +kernel) (putN_tl (by decide +kernel) (putN_tl (by decide +kernel) (putN_tl (by decide +kernel) (putN_tl (by decide +kernel) (putN_hd (by decide +kernel)))))))
theorem putL_d7 : putL (Str.ofString "table") h key v (decEs kh a0 a1 a2 a3 a4 a5 a6 a7 a8) = decEs kh a0 a1 a2 a3 a4 a5 a6 v a8 := putL_tl (by decide +kernel) (putL_tl (by decide +kernel) (putL_tl (by decide +kernel) (putL_tl (by decide +kernel) (putL_tl (by decide +kernel) (putL_tl (by decide +kernel) (putL_tl (by decide +kernel) (putL_hd (by decide +kernel))))))))
theorem putN_d7 : putN (Str.ofString "table") (decEs kh a0 a1 a2 a3 a4 a5 a6 a7 a8) n = n := putN_tl (by decide +kernel) (putN_tl (by decide +kernel) (putN_tl (by decide +kernel) (putN_tl (by decide +kernel) (putN_tl (by decide +kernel) (putN_tl (by decide +kernel) (putN_tl (by decide +kernel) (putN_hd (by decide +kernel))))))))
theorem putL_d8 : putL (Str.ofString "last") h key v (decEs kh a0 a1 a2 a3 a4 a5 a6 a7 a8) = decEs kh a0 a1 a2 a3 a4 a5 a6 a7 v := putL_tl (by decide +kernel) (putL_tl (by decide +kernel) (putL_tl (by decide +kernel) (putL_tl (by decide +kernel) (putL_tl (by decide +kernel) (putL_tl (by decide +kernel) (putL_tl (by decide +kernel) (putL_tl (by decide +kernel) (putL_hd (by decide +kernel)))))))))
theorem putN_d8 : putN (Str.ofString "last") (decEs kh a0 a1 a2 a3 a4 a5 a6 a7 a8) n = n := putN_tl (by decide +kernel) (putN_tl (by decide +kernel) (putN_tl (by decide +kernel) (putN_tl (by decide +kernel) (putN_tl (by decide +kernel) (putN_tl (by decide +kernel) (putN_tl (by decide +kernel) (putN_tl (by decide +kernel) (putN_hd (by decide +kernel)))))))))
end
noncomputable abbrev encEs (kh : Nat → Int × Tok) (early most bits many found code width table following : Value) : List DictEntry :=
  [ent kh 0 "early" early, ent kh 1 "most" most, ent kh 2 "bits" bits, ent kh 3 "many" many, ent kh 4 "found" found, ent kh 5 "code" code,
   ent kh 6 "width" width, ent kh 7 "table" table, ent kh 8 "following" following]
section
variable {h : Int} {key v a0 a1 a2 a3 a4 a5 a6 a7 a8 : Value} {kh : Nat → Int × Tok} {n : Nat}
theorem putL_e2 : putL (Str.ofString "bits") h key v (encEs kh a0 a1 a2 a3 a4 a5 a6 a7 a8) = encEs kh a0 a1 v a3 a4 a5 a6 a7 a8 := putL_tl (by decide +kernel) (putL_tl (by decide +kernel) (putL_hd (by decide +kernel)))
theorem putN_e2 : putN (Str.ofString "bits") (encEs kh a0 a1 a2 a3 a4 a5 a6 a7 a8) n = n := putN_tl (by decide +kernel) (putN_tl (by decide +kernel) (putN_hd (by decide +kernel)))
theorem putL_e3 : putL (Str.ofString "many") h key v (encEs kh a0 a1 a2 a3 a4 a5 a6 a7 a8) = encEs kh a0 a1 a2 v a4 a5 a6 a7 a8 := putL_tl (by decide +kernel) (putL_tl (by decide +kernel) (putL_tl (by decide +kernel) (putL_hd (by decide +kernel))))
theorem putN_e3 : putN (Str.ofString "many") (encEs kh a0 a1 a2 a3 a4 a5 a6 a7 a8) n = n := putN_tl (by decide +kernel) (putN_tl (by decide +kernel) (putN_tl (by decide +kernel) (putN_hd (by decide +kernel))))
theorem putL_e4 : putL (Str.ofString "found") h key v (encEs kh a0 a1 a2 a3 a4 a5 a6 a7 a8) = encEs kh a0 a1 a2 a3 v a5 a6 a7 a8 := putL_tl (by decide +kernel) (putL_tl (by decide +kernel) (putL_tl (by decide +kernel) (putL_tl (by decide +kernel) (putL_hd (by decide +kernel)))))
theorem putN_e4 : putN (Str.ofString "found") (encEs kh a0 a1 a2 a3 a4 a5 a6 a7 a8) n = n := putN_tl (by decide +kernel) (putN_tl (by decide +kernel) (putN_tl (by decide +kernel) (putN_tl (by decide +kernel) (putN_hd (by decide +kernel)))))
theorem putL_e5 : putL (Str.ofString "code") h key v (encEs kh a0 a1 a2 a3 a4 a5 a6 a7 a8) = encEs kh a0 a1 a2 a3 a4 v a6 a7 a8 := putL_tl (by decide +kernel) (putL_tl (by decide +kernel) (putL_tl (by decide +kernel) (putL_tl (by decide +kernel) (putL_tl (by decide +kernel) (putL_hd (by decide +kernel))))))
theorem putN_e5 : putN (Str.ofString "code") (encEs kh a0 a1 a2 a3 a4 a5 a6 a7 a8) n = n := putN_tl (by decide +kernel) (putN_tl (by decide +kernel) (putN_tl (by decide +kernel) (putN_tl (by decide +kernel) (putN_tl (by decide +kernel) (putN_hd (by decide +kernel))))))
theorem putL_e6 : putL (Str.ofString "width") h key v (encEs kh a0 a1 a2 a3 a4 a5 a6 a7 a8) = encEs kh a0 a1 a2 a3 a4 a5 v a7 a8 := putL_tl (by decide +kernel) (putL_tl (by decide +kernel) (putL_tl (by decide +kernel) (putL_tl (by decide +kernel) (putL_tl (by decide +kernel) (putL_tl (by decide +kernel) (putL_hd (by decide +kernel)))))))
theorem putN_e6 : putN (Str.ofString "width") (encEs kh a0 a1 a2 a3 a4 a5 a6 a7 a8) n = n := putN_tl (by decide +kernel) (putN_tl (by decide +kernel) (putN_tl (by decide +kernel) (putN_tl (by decide +kernel) (putN_tl (by decide +kernel) (putN_tl (by decide +kernel) (putN_hd (by decide +kernel)))))))
theorem putL_e7 : putL (Str.ofString "table") h key v (encEs kh a0 a1 a2 a3 a4 a5 a6 a7 a8) = encEs kh a0 a1 a2 a3 a4 a5 a6 v a8 := putL_tl (by decide +kernel) (putL_tl (by decide +kernel) (putL_tl (by decide +kernel) (putL_tl (by decide +kernel) (putL_tl (by decide +kernel) (putL_tl (by decide +kernel) (putL_tl (by decide +kernel) (putL_hd (by decide +kernel))))))))
theorem putN_e7 : putN (Str.ofString "table") (encEs kh a0 a1 a2 a3 a4 a5 a6 a7 a8) n = n := putN_tl (by decide +kernel) (putN_tl (by decide +kernel) (putN_tl (by decide +kernel) (putN_tl (by decide +kernel) (putN_tl (by decide +kernel) (putN_tl (by decide +kernel) (putN_tl (by decide +kernel) (putN_hd (by decide +kernel))))))))
theorem putL_e8 : putL (Str.ofString "following") h key v (encEs kh a0 a1 a2 a3 a4 a5 a6 a7 a8) = encEs kh a0 a1 a2 a3 a4 a5 a6 a7 v := putL_tl (by decide +kernel) (putL_tl (by decide +kernel) (putL_tl (by decide +kernel) (putL_tl (by decide +kernel) (putL_tl (by decide +kernel) (putL_tl (by decide +kernel) (putL_tl (by decide +kernel) (putL_tl (by decide +kernel) (putL_hd (by decide +kernel)))))))))
theorem putN_e8 : putN (Str.ofString "following") (encEs kh a0 a1 a2 a3 a4 a5 a6 a7 a8) n = n := putN_tl (by decide +kernel) (putN_tl (by decide +kernel) (putN_tl (by decide +kernel) (putN_tl (by decide +kernel) (putN_tl (by decide +kernel) (putN_tl (by decide +kernel) (putN_tl (by decide +kernel) (putN_tl (by decide +kernel) (putN_hd (by decide +kernel)))))))))
end
theorem put_pair {nm : Str} {h : Int} {key v : Value} {es es' : List DictEntry} {n n' : Nat} (a : putL nm h key v es = es') (b : putN nm es n = n') : (putL nm h key v es, putN nm es n) = (es', n') := by rw [a, b]

noncomputable abbrev u8 (i : Int) : UInt8 := i.toNat.toUInt8
noncomputable def lastV (last : Option (List UInt8)) (tk : Tok) : Value := match last with | none => .none | some l => .bytes l.toArray tk
/-- the words of bytes in a list -/
def BA (its : Array Value) (tab : List (List UInt8)) : Prop := its.size = tab.length ∧ ∀ (i : Nat) (l : List UInt8), tab[i]? = some l → ∃ tk : Tok, its[i]? = some (Value.bytes l.toArray tk)
theorem BA.nil : BA #[] [] := ⟨rfl, fun i l h => by simp at h⟩
theorem BA.push {its : Array Value} {tab : List (List UInt8)} (H : BA its tab) (l : List UInt8) (tk : Tok) : BA (its.push (Value.bytes l.toArray tk)) (tab ++ [l]) := by
  refine ⟨by simp [H.1], fun i l' h => ?_⟩
  by_cases hi : i < tab.length
  · rw [List.getElem?_append_left hi] at h
    obtain ⟨tk', e⟩ := H.2 i l' h
    exact ⟨tk', by rw [Array.getElem?_push_lt (by rw [H.1]; exact hi)]; rw [Array.getElem?_eq_getElem (by rw [H.1]; exact hi)] at e; exact e⟩
  · have hi' : i = tab.length := by
      have := List.getElem?_eq_some_iff.mp h
      obtain ⟨h1, _⟩ := this
      simp at h1; omega
    subst hi'
    simp at h; subst h
    exact ⟨tk, by rw [← H.1, Array.getElem?_push_size]⟩
noncomputable def khOf (l : List (Int × Tok)) (i : Nat) : Int × Tok := match l, i with
  | [], _ => (0, 0)
  | a :: _, 0 => a
  | _ :: r, i + 1 => khOf r i
theorem News.sub {h₀ h : Heap} {L : Addr} {news news' : List (Addr × Obj)} (N : News h₀ L h news) (hs : ∀ p ∈ news', p ∈ news) : News h₀ L h news' := fun p hp => N p (hs p hp)
theorem mem_step {α : Type} {a : α} {l l' : List α} (h : ∀ p ∈ l, p ∈ l') : ∀ p ∈ l, p ∈ a :: l' := fun p hp => List.mem_cons_of_mem _ (h p hp)
theorem mem_all {α : Type} {l : List α} : ∀ p ∈ l, p ∈ l := fun _ h => h
theorem allLt_ne {a : Nat} {l : List (Addr × Obj)} (h : AllLt a l) : ∀ p ∈ l, p.1 ≠ a := by
  induction l with
  | nil => exact fun _ h => nomatch h
  | cons q r ih =>
    intro p hp
    rcases List.mem_cons.mp hp with rfl | hp
    · exact Nat.ne_of_lt h.1
    · exact ih h.2 p hp
theorem allLt_lt {a : Nat} {l : List (Addr × Obj)} (h : AllLt a l) : ∀ p ∈ l, @LT.lt Nat _ p.1 a := by
  induction l with
  | nil => exact fun _ h => nomatch h
  | cons q r ih =>
    intro p hp
    rcases List.mem_cons.mp hp with rfl | hp
    · exact h.1
    · exact ih h.2 p hp
end
section
/-! rules of the kit, said for a state in its parts, for every token -/
section
variable {prog : Program} {w : World} {A : Around} {E : Value → Shared → Prop} {Q : Value → Shared → Prop} {h : Heap} {g : Array GenState} {d : Drawn} {t : Nat} {o : OsState} {env : Env} {k : Nat} {pos : Pos} {u v : Tok}
theorem r_int {i : Int} (H : Q (.int i t) ⟨h, g, d, t + 1, o⟩) : wpAny (model prog w) A (eval (.Constant (.int i) k pos) env) Q E ⟨h, g, d, t, o⟩ := wpAny_Constant_int H
theorem r_bytes {x : List UInt8} (H : Q (.bytes x.toArray t) ⟨h, g, d, t + 1, o⟩) : wpAny (model prog w) A (eval (.Constant (.bytes x) k pos) env) Q E ⟨h, g, d, t, o⟩ := Constant_bytes H
theorem r_str {x : Str} (H : Q (.str x t) ⟨h, g, d, t + 1, o⟩) : wpAny (model prog w) A (eval (.Constant (.str x) k pos) env) Q E ⟨h, g, d, t, o⟩ := wpAny_Constant_str H
theorem r_add {a b : Int} (H : Q (.int (a + b) t) ⟨h, g, d, t + 1, o⟩) : wpAny (model prog w) A (binaryOp .Add (.int a u) (.int b v)) Q E ⟨h, g, d, t, o⟩ := add_int H
theorem r_sub {a b : Int} (H : Q (.int (a - b) t) ⟨h, g, d, t + 1, o⟩) : wpAny (model prog w) A (binaryOp .Sub (.int a u) (.int b v)) Q E ⟨h, g, d, t, o⟩ := sub_int H
theorem r_and {a b : Int} (H : Q (.int (Builtin.bitAnd a b) t) ⟨h, g, d, t + 1, o⟩) : wpAny (model prog w) A (binaryOp .BitAnd (.int a u) (.int b v)) Q E ⟨h, g, d, t, o⟩ := and_int H
theorem r_or {a b : Int} (H : Q (.int (Builtin.bitOr a b) t) ⟨h, g, d, t + 1, o⟩) : wpAny (model prog w) A (binaryOp .BitOr (.int a u) (.int b v)) Q E ⟨h, g, d, t, o⟩ := or_int H
theorem r_shr {a n : Int} (hn : 0 ≤ n) (H : Q (.int (a.fdiv (2 ^ n.toNat)) t) ⟨h, g, d, t + 1, o⟩) : wpAny (model prog w) A (binaryOp .RShift (.int a u) (.int n v)) Q E ⟨h, g, d, t, o⟩ := rshift_int hn H
theorem r_shl {a n : Int} (hn : 0 ≤ n) (hn2 : n ≤ 1000000) (ha : a.natAbs < 2 ^ 64) (H : Q (.int (a * 2 ^ n.toNat) t) ⟨h, g, d, t + 1, o⟩) : wpAny (model prog w) A (binaryOp .LShift (.int a u) (.int n v)) Q E ⟨h, g, d, t, o⟩ := lshift_int_small hn hn2 ha H
theorem r_shl_lit {n x : Int} (m : Nat) (hk : n = (m : Int)) (hk2 : m ≤ 1000) (e : (2 : Int) ^ m = x) (H : Q (.int x t) ⟨h, g, d, t + 1, o⟩) : wpAny (model prog w) A (binaryOp .LShift (.int 1 u) (.int n v)) Q E ⟨h, g, d, t, o⟩ := by
  subst hk
  refine lshift_int_small (Int.natCast_nonneg m) (by omega) (by decide) ?_
  rw [Int.toNat_natCast, Int.one_mul, e]; exact H
theorem r_shl09 (H : Q (.int 512 t) ⟨h, g, d, t + 1, o⟩) : wpAny (model prog w) A (binaryOp .LShift (.int 1 u) (.int 9 v)) Q E ⟨h, g, d, t, o⟩ := r_shl_lit 9 (by decide) (by decide) (by decide) H
theorem r_shl10 (H : Q (.int 1024 t) ⟨h, g, d, t + 1, o⟩) : wpAny (model prog w) A (binaryOp .LShift (.int 1 u) (.int 10 v)) Q E ⟨h, g, d, t, o⟩ := r_shl_lit 10 (by decide) (by decide) (by decide) H
theorem r_shl12 (H : Q (.int 4096 t) ⟨h, g, d, t + 1, o⟩) : wpAny (model prog w) A (binaryOp .LShift (.int 1 u) (.int 12 v)) Q E ⟨h, g, d, t, o⟩ := r_shl_lit 12 (by decide) (by decide) (by decide) H
theorem r_shl28 (H : Q (.int 268435456 t) ⟨h, g, d, t + 1, o⟩) : wpAny (model prog w) A (binaryOp .LShift (.int 1 u) (.int 28 v)) Q E ⟨h, g, d, t, o⟩ := r_shl_lit 28 (by decide) (by decide) (by decide) H
theorem r_mod {a b : Int} (hb : b ≠ 0) (H : Q (.int (a.fmod b) t) ⟨h, g, d, t + 1, o⟩) : wpAny (model prog w) A (binaryOp .Mod (.int a u) (.int b v)) Q E ⟨h, g, d, t, o⟩ := mod_int hb H

theorem r_len {l : Addr} {h₀ : Heap} {L : Addr} {news : List (Addr × Obj)} {its : Array Value} {n : Nat} (N : News h₀ L h news) (hm : (l, listOf its n) ∈ news) (hz : its.size ≤ 100000)
    (H : Q (.int its.size (t + 1)) ⟨h, g, d, t + 1 + 1, o⟩) : wpAny (model prog w) A (call (.builtin "len") [.ref l]) Q E ⟨h, g, d, t, o⟩ :=
  len_list (s := ⟨h, g, d, t, o⟩) (News.isList N hm) (by omega) H

variable {h₀ : Heap} {L : Addr} {m : Str → Option Value} {news news' : List (Addr × Obj)} {K : Frag} {x C dx : Addr} {ox : Obj} {es es' : List DictEntry} {n n' : Nat} {name : Str}
theorem r_getattr {val : Value} {expr : Bool} {attr : Option Value} (F : Fr h₀ L h m) (X₀ : K.In h₀) (I : InstAt h x ox C (some (dictOf es n))) (hg : plainGet K C name = true) (hh : hasDictIn K C = true)
    (ha : findIn K (.ref C) name = some attr) (hn : noGet K attr = true) (hl : getL name es = some (some val)) (hv : handedIn val = true) (H : Q val ⟨h, g, d, t + 1, o⟩) :
    wpAny (model prog w) A (getAttr (.ref x) name expr) Q E ⟨h, g, d, t, o⟩ := get_own (s := ⟨h, g, d, t, o⟩) F X₀ I hg hh ha hn hl hv H
/-- a field that is there -/
theorem r_setattr {Q : Unit → Shared → Prop} {val : Value} (F : Fr h₀ L h m) (X₀ : K.In h₀) (N : News h₀ L h news) (I : InstAt h x ox C (some (dictOf es n))) (hd : ox.dict = some dx)
    (hs : findIn K (.ref C) "__setattr__" = some (some (.builtin "object.__setattr__"))) (hp : plainOver K C = true) (ht : takerIn K C name = some none) (hh : hasDictIn K C = true) (hl : (getL name es).isSome = true)
    (e : ∀ tk, putL name (PyData.keyHash w.params name) (.str name tk) val es = es') (e2 : putN name es n = n) (U : Upd dx (dictOf es n) (dictOf es' n) news news') (hz : es'.length ≤ 1000)
    (H : ∀ h' t2, Fr h₀ L h' m → News h₀ L h' news' → Q () ⟨h', g, d, t2, o⟩) :
    wpAny (model prog w) A (setAttr (.ref x) name val) Q E ⟨h, g, d, t, o⟩ :=
  set_dict (s := ⟨h, g, d, t, o⟩) F X₀ N I hd hs hp ht hh hl (put_pair (e _) e2) U hz fun h' F' N' => H h' _ F' N'
/-- a field that is new -/
theorem r_newattr {Q : Unit → Shared → Prop} {val : Value} {gl : Obj → List (Addr × Obj)} (F : Fr h₀ L h m) (X₀ : K.In h₀) (N : News h₀ L h news) (I : InstAt h x ox C (some (dictOf es n))) (hd : ox.dict = some dx)
    (hs : findIn K (.ref C) "__setattr__" = some (some (.builtin "object.__setattr__"))) (hp : plainOver K C = true) (ht : takerIn K C name = some none) (hh : hasDictIn K C = true) (hl : getL name es = some none)
    (e2 : es.any (fun q => q.key.isStr name) = false) (hz : es.length ≤ 500) (U : UpdF dx (dictOf es n) news gl)
    (H : ∀ h' hs tk t2, Fr h₀ L h' m → News h₀ L h' (gl (dictOf (es ++ [⟨hs, .str name tk, val⟩]) (n + 1))) → Q () ⟨h', g, d, t2, o⟩) :
    wpAny (model prog w) A (setAttr (.ref x) name val) Q E ⟨h, g, d, t, o⟩ := by
  have e1 : ∀ (H : Int) (ky : Value) (l : List DictEntry), l.any (fun q => q.key.isStr name) = false → putL name H ky val l = l ++ [⟨H, ky, val⟩] := by
    intro H ky l
    induction l with
    | nil => intro _; rfl
    | cons a r ih =>
      intro q
      rw [List.any_cons, Bool.or_eq_false_iff] at q
      unfold putL
      rw [if_neg (by rw [q.1]; exact Bool.false_ne_true), ih q.2]; rfl
  have e3 : putN name es n = n + 1 := by unfold putN; rw [if_neg (by rw [e2]; exact Bool.false_ne_true)]
  obtain ⟨pre, post, e4, e5, a, b⟩ := U.split
  have U' : ∀ o', Upd dx (dictOf es n) o' news (gl o') := fun o' => by
    rw [e4, e5]
    clear e4 e5 N U I
    induction pre with
    | nil => exact Upd.head b
    | cons q r ih => exact Upd.tail (a q (.head _)) (ih fun p hp => a p (.tail _ hp))
  exact set_dict (s := ⟨h, g, d, t, o⟩) F X₀ N I hd hs hp ht hh (by rw [hl]; rfl) (put_pair (e1 _ _ _ e2) e3) (U' _) (by rw [List.length_append, List.length_singleton]; omega) fun h' F' N' => H h' _ _ _ F' N'

theorem r_store {Q : Unit → Shared → Prop} {y : Str} {val : Value} {cn : Str} {cs : Scope} {a : Addr} {ccd : Value} {cl : List (Str × Addr)} (F : Fr h₀ L h m) (N : News h₀ L h news)
    (hk : cs.kind = .function) (hx : (envX cn cs L a ccd cl).kindOf y = some .local)
    (H : ∀ h' t2, Fr h₀ L h' (fun z => if z = y then some val else m z) → News h₀ L h' news → Q () ⟨h', g, d, t2, o⟩) : wpAny (model prog w) A (storeName (envX cn cs L a ccd cl) y val) Q E ⟨h, g, d, t, o⟩ :=
  storeX_L (s := ⟨h, g, d, t, o⟩) F N (fun h' F' N' => H h' _ F' N') hk hx
theorem r_newList {vs : List Value} (F : Fr h₀ L h m) (N : News h₀ L h news) (hsz : vs.length ≤ 100000)
    (H : ∀ l h', Fr h₀ L h' m → News h₀ L h' ((l, listOf vs.toArray 0) :: news) → (∀ p ∈ news, p.1 < l) → Q (.ref l) ⟨h', g, d, t, o⟩) :
    wpAny (model prog w) A (newList vs) Q E ⟨h, g, d, t, o⟩ := newList_K (s := ⟨h, g, d, t, o⟩) F N H (by rw [sizeLine_eq]; omega)
theorem r_newTuple {vs : List Value} (F : Fr h₀ L h m) (N : News h₀ L h news) (hsz : vs.length ≤ 100000)
    (H : ∀ l h', Fr h₀ L h' m → News h₀ L h' ((l, ({ cls := .type "tuple", data := .seq vs.toArray } : Obj)) :: news) → (∀ p ∈ news, p.1 < l) → Q (.ref l) ⟨h', g, d, t, o⟩) :
    wpAny (model prog w) A (newTuple vs) Q E ⟨h, g, d, t, o⟩ := kup_newTuple (s := ⟨h, g, d, t, o⟩) F N H (by rw [sizeLine_eq]; omega)
theorem r_append {D : Addr} {its : Array Value} {val : Value} (F : Fr h₀ L h m) (N : News h₀ L h news) (U : Upd D (listOf its n) (listOf (its.push val) (n + 1)) news news') (hz : its.size ≤ 100000)
    (H : ∀ h', Fr h₀ L h' m → News h₀ L h' news' → Q .none ⟨h', g, d, t, o⟩) : wpAny (model prog w) A (call (.builtin "list.append") [.ref D, val]) Q E ⟨h, g, d, t, o⟩ :=
  append_K (s := ⟨h, g, d, t, o⟩) F N U H (by rw [sizeLine_eq]; omega)
end
section
variable {w : World} {A A₀ : Around} {E : Value → Shared → Prop} {h : Heap} {gn : Array GenState} {dr : Drawn} {t : Nat} {os : OsState} {prog : Program}
theorem r_enter {K : Frag} {L : Addr} {h₀ base : Heap} {m mg mb : Str → Option Value} {news : List (Addr × Obj)} {p : Program} {loose : List Str} {mean : ExcName → Option Value}
    {env : Env} {outer : List Env} {R : Result → Shared → Prop} {name qual : Str} {params : Arguments} {body : List Stmt} {scope : Scope} {dV kV doc pm cdv ct oc : Value} {an od : Option Addr} {osl : Array (Option Value)} {f : Addr} {args : Args} {binds : List (Str × Value)}
    (B : Below A₀ base outer h₀) (F : Fr h₀ L h m) (X₀ : K.In h₀) (N : News h₀ L h news) (T : Top p loose mean mg mb h₀) (hA : A.frames = some (env :: outer)) (hf : env.frame = some L) (hke : env.scope.kind = .function)
    (ho : K.lookup f = some ⟨oc, od, .func (fnOf name qual params body scope dV kV doc pm an cdv ct), osl⟩) (hcd : codeIn K cdv qual = true) (hroom : A.depth < recursionLimit)
    (hbind : BindsTo ⟨h, gn, dr, t, os⟩ (fnOf name qual params body scope dV kV doc pm an cdv ct) args binds) (hloc : ∀ y ∈ binds, scope.names.lookup y.1 = some .local)
    (H : ∀ g L' h₁ t2, Fr h₀ L g m → Fr g L' h₁ (fun y => binds.reverse.lookup y) → News g L' h₁ news → Below A base (env :: outer) g → K.In g → Top p loose mean mg mb g →
      wpAny (model prog w) (A.deeper (envOf qual scope L' f cdv)) (execs body (envOf qual scope L' f cdv))
        (fun fl s' => LeaveK h₀ L m g R (match fl with | .ret v => v | _ => .none) s')
        (fun e s' => wpAny (model prog w) (A.deeper (envOf qual scope L' f cdv)) (leaving (envOf qual scope L' f cdv) e) (fun _ s'' => R (.error e) s'') (fun e' s'' => R (.error e') s'') s')
        ⟨h₁, gn, dr, t2, os⟩)
    (hco : scope.isCoroutine = false) (hgen : scope.isGenerator = false) (hk : scope.kind = .function)
    (hcell : ∀ x ∈ scope.names, x.2 ≠ .cell) : codeAny (model prog w) A (.call (.ref f) args) R ⟨h, gn, dr, t, os⟩ :=
  code_def (s := ⟨h, gn, dr, t, os⟩) B F X₀ N T hA hf hke ho hcd hroom hbind hloc (fun g L' h₁ a b c d e f => H g L' h₁ _ a b c d e f) hco hgen hk hcell
end

section
variable {prog : Program} {w : World} {A : Around} {E : Value → Shared → Prop} {Q : Value → Shared → Prop} {h : Heap} {g : Array GenState} {d : Drawn} {t : Nat} {o : OsState} {u v : Tok} {h₀ : Heap} {L : Addr} {m : Str → Option Value} {news : List (Addr × Obj)} {value slice : PySem.Expr}
theorem r_badd {a b : List UInt8} (hz : a.length ≤ 100000) (hz2 : b.length ≤ 100000) (H : ∀ t1 t2, Q (.bytes (a ++ b).toArray t1) ⟨h, g, d, t2, o⟩) : wpAny (model prog w) A (binaryOp .Add (.bytes a.toArray u) (.bytes b.toArray v)) Q E ⟨h, g, d, t, o⟩ :=
  KBy.add_bytes (s := ⟨h, g, d, t, o⟩) (by simp only [List.size_toArray]; omega) fun t' k => by
    have := H t' k
    rw [← List.append_toArray] at this
    exact this
theorem r_beq {a b : List UInt8} (H : Q (.bool (a == b)) ⟨h, g, d, t, o⟩) : wpAny (model prog w) A (compareOp .Eq (.bytes a.toArray u) (.bytes b.toArray v)) Q E ⟨h, g, d, t, o⟩ := eq_bytes H
noncomputable def cut (lo hi : Option Int) (l : List UInt8) : List UInt8 := (l.drop (lo.elim 0 (clipAt l.length))).take (hi.elim l.length (clipAt l.length) - lo.elim 0 (clipAt l.length))
theorem cut_length (lo hi : Option Int) (l : List UInt8) : (cut lo hi l).length ≤ l.length := by
  unfold cut; rw [List.length_take, List.length_drop]; omega
theorem r_slice {l : List UInt8} {lv uv : Value} {lo hi : Option Int} (hF : Fr h₀ L h m) (hN : News h₀ L h news) (hl : IsPart lv lo) (hu : IsPart uv hi) (hz : l.length ≤ 100000)
    (H : ∀ h' t1 t2, Fr h₀ L h' m → News h₀ L h' news → Q (.bytes (cut lo hi l).toArray t1) ⟨h', g, d, t2, o⟩)
    (hs : subscripted slice false (.bytes l.toArray u) (.ref h.objs.size) = operate [.ref h.objs.size, .bytes l.toArray u] (getItem (.bytes l.toArray u) (.ref h.objs.size)))
    (ht : ∀ r, letTemporaryGo value (.bytes l.toArray u) r = pure ()) :
    wpAny (model prog w) A (subscriptTail value slice (.bytes l.toArray u) (.ref h.objs.size)) Q E ⟨h.push { cls := .type "slice", data := .fields #[lv, uv, .none] }, g, d, t, o⟩ := by
  have e : KBy.picked l.toArray lo hi = (cut lo hi l).toArray := by
    rw [KBc.picked_eq]; simp only [List.size_toArray]; rfl
  refine tail_of_ItemOn ⟨"bytes", _, FB.slot_bytes_getitem.lookup, typeIs_bytes _ _ _, getItem_meets (typeIs_bytes _ _ _) (by decide) FB.slot_bytes_getitem FB.entry_bytes_getitem (FB.args_bytes_getitem_2 _ _) (KBc.meets_slice2 l.toArray u _ hl hu)
    ⟨Heap.IsSliceOf.new _ _ _ _, ?_, fun t' k => ?_⟩⟩ hs ht
  · refine Nat.le_trans (KBc.size_picked_le _ lo hi) ?_
    rw [List.size_toArray, sizeLine_eq]; omega
  · rw [e]; exact H _ _ _ (hF.push _) (News.pushKeep hN _)
theorem r_item {l : Addr} {its : Array Value} {n : Nat} {i : Int} {x : Value} (N : News h₀ L h news) (hm : (l, listOf its n) ∈ news) (h0 : 0 ≤ i) (hfit : i ≤ 100000) (hx : its[i.toNat]? = some x)
    (H : Q x ⟨h, g, d, t, o⟩)
    (hs : subscripted slice false (.ref l) (.int i u) = operate [.ref l, .int i u] (getItem (.ref l) (.int i u))) (hg : ∀ r, letTemporaryGo value (.ref l) r = pure ()) :
    wpAny (model prog w) A (subscriptTail value slice (.ref l) (.int i u)) Q E ⟨h, g, d, t, o⟩ :=
  item_list (s := ⟨h, g, d, t, o⟩) (News.isList N hm) h0 (by omega) hx H hs hg
end

theorem cut_to (k : Nat) (l : List UInt8) : cut none (some (k : Int)) l = l.take k := by
  unfold cut
  simp only [Option.elim, clipAt_nat, List.drop_zero, Nat.sub_zero]
  rcases Nat.le_total k l.length with h | h
  · rw [Nat.min_eq_left h]
  · rw [Nat.min_eq_right h, List.take_of_length_le (Nat.le_refl _), List.take_of_length_le h]
theorem cut_from (k : Nat) (l : List UInt8) : cut (some (k : Int)) none l = l.drop k := by
  unfold cut
  simp only [Option.elim, clipAt_nat]
  rcases Nat.le_total k l.length with h | h
  · rw [Nat.min_eq_left h, List.take_of_length_le (by rw [List.length_drop]; omega)]
  · rw [Nat.min_eq_right h, List.drop_of_length_le (Nat.le_refl _), List.drop_of_length_le h]; simp
theorem cut_both (a b : Nat) (l : List UInt8) : cut (some (a : Int)) (some (b : Int)) l = (l.drop a).take (b - a) := by
  unfold cut
  simp only [Option.elim, clipAt_nat]
  rcases Nat.le_total a l.length with h | h
  · rw [Nat.min_eq_left h]
    rcases Nat.le_total b l.length with h' | h'
    · rw [Nat.min_eq_left h']
    · rw [Nat.min_eq_right h', List.take_of_length_le (by rw [List.length_drop]; omega), List.take_of_length_le (by rw [List.length_drop]; omega)]
  · rw [Nat.min_eq_right h, List.drop_of_length_le (Nat.le_refl _), List.drop_of_length_le h]; simp
/-! expressions that only read: their value at one stroke, with no word of what is to hold behind -/
def Ev (M : Model) (A : Around) (env : Env) (h : Heap) (g : Array GenState) (d : Drawn) (o : OsState) (e : PySem.Expr) (t : Nat) (v : Value) (t' : Nat) : Prop :=
  ∀ (Q E : Value → Shared → Prop), Q v ⟨h, g, d, t', o⟩ → wpAny M A (eval e env) Q E ⟨h, g, d, t, o⟩
section
variable {M : Model} {prog : Program} {w : World} {A : Around} {env : Env} {h : Heap} {g : Array GenState} {d : Drawn} {o : OsState} {e l r : PySem.Expr} {t t1 t2 t3 : Nat} {v v1 v2 : Value} {pos xp : Pos} {x y : Str} {h₀ : Heap} {L a : Addr} {m : Str → Option Value} {cn : Str} {cs : Scope} {ccd : Value} {cl : List (Str × Addr)} {E : Value → Shared → Prop}
theorem ev_use {Q : Value → Shared → Prop} (H : Ev M A env h g d o e t v t1) (k : Q v ⟨h, g, d, t1, o⟩) : wpAny M A (eval e env) Q E ⟨h, g, d, t, o⟩ := H _ _ k
theorem ev_L (F : Fr h₀ L h m) (hv : m x = some v) (hk : cs.kind = .function) (hx : (envX cn cs L a ccd cl).kindOf x = some .local) (hd : (x == ("__debug__" : Str)) = false) :
    Ev M A (envX cn cs L a ccd cl) h g d o (.Name x pos) t v t := fun _ _ k => nameX_L (s := ⟨h, g, d, t, o⟩) F hv k hk hx hd
theorem ev_int {i : Int} {k : Nat} : Ev (model prog w) A env h g d o (.Constant (.int i) k pos) t (.int i t) (t + 1) := fun _ _ H => r_int H
theorem ev_attr {K : Frag} {y C : Addr} {ox : Obj} {es : List DictEntry} {n : Nat} {name : Str} {val : Value} {attr : Option Value} (F : Fr h₀ L h m) (X₀ : K.In h₀) (hv : m x = some (.ref y)) (I : InstAt h y ox C (some (dictOf es n)))
    (hg : plainGet K C name = true) (hh : hasDictIn K C = true) (ha : findIn K (.ref C) name = some attr) (hn : noGet K attr = true) (hl : getL name es = some (some val)) (hw : handedIn val = true)
    (hk : cs.kind = .function) (hx : (envX cn cs L a ccd cl).kindOf x = some .local) (hd : (x == ("__debug__" : Str)) = false) :
    Ev (model prog w) A (envX cn cs L a ccd cl) h g d o (.Attribute (.Name x xp) name pos) t val (t + 1) :=
  fun _ _ k => Attribute_Name_ (nameX_L (s := ⟨h, g, d, t, o⟩) F hv (r_getattr F X₀ I hg hh ha hn hl hw k) hk hx hd)
theorem ev_bin {op : Operator} (El : Ev M A env h g d o l t v1 t1) (Er : Ev M A env h g d o r t1 v2 t2)
    (hop : ∀ Q E : Value → Shared → Prop, Q v ⟨h, g, d, t3, o⟩ → wpAny M A (binaryOp op v1 v2) Q E ⟨h, g, d, t2, o⟩) : Ev M A env h g d o (.BinOp l op r pos) t v t3 :=
  fun _ _ k => wpAny_BinOp (El _ _ (Er _ _ (hop _ _ k)))
theorem ev_isTrue {op : CmpOp} {whole : Sem Value} {c : Bool} {Q : Bool → Shared → Prop} (El : Ev M A env h g d o l t v1 t1) (Er : Ev M A env h g d o r t1 v2 t2)
    (hop : ∀ Q E : Value → Shared → Prop, Q (.bool c) ⟨h, g, d, t3, o⟩ → wpAny M A (compareOp op v1 v2) Q E ⟨h, g, d, t2, o⟩) (hm : behindInMarks op r = false)
    (k : Q c ⟨h, g, d, t3, o⟩) : wpAny M A (isTrue (.Compare l [op] [r] pos) env whole) Q E ⟨h, g, d, t, o⟩ :=
  wpAny_isTrue_Compare1 (El _ _ (Er _ _ (hop _ _ (wpAny_truthy_bool k)))) hm
end
end
section
/-! words of bits -/
theorem r_shl8 {prog : Program} {w : World} {A : Around} {E Q : Value → Shared → Prop} {h : Heap} {g : Array GenState} {d : Drawn} {t : Nat} {o : OsState} {u v : Tok} {a n : Int} (hn : n = 8) (ha : a.natAbs < 2 ^ 64) (H : Q (.int (a * 256) t) ⟨h, g, d, t + 1, o⟩) : wpAny (model prog w) A (binaryOp .LShift (.int a u) (.int n v)) Q E ⟨h, g, d, t, o⟩ := by
  subst hn; exact r_shl (by decide) (by decide) ha H
theorem or_lo {a b : Int} (ha : 0 ≤ a) (hb : 0 ≤ b) (hb2 : b < 256) : Builtin.bitOr (a * 256) b = a * 256 + b := by
  have h0 : 0 ≤ a * 256 := by omega
  rw [bitOr_and, bitAnd_pp h0 hb]
  have e : (a * 256).toNat &&& b.toNat = 0 := by
    have e1 : (a * 256).toNat = a.toNat <<< 8 := by rw [Nat.shiftLeft_eq]; omega
    have hlt : b.toNat < 2 ^ 8 := by omega
    have e2 := Nat.shiftLeft_add_eq_or_of_lt hlt a.toNat
    rw [e1]
    apply Nat.eq_of_testBit_eq
    intro j
    rw [Nat.testBit_and, Nat.testBit_shiftLeft, Nat.zero_testBit]
    by_cases hj : 8 ≤ j
    · rw [Nat.testBit_lt_two_pow (Nat.lt_of_lt_of_le hlt (Nat.pow_le_pow_right (by decide) hj)), Bool.and_false]
    · simp [hj]
  rw [e]; simp
theorem r_or8 {prog : Program} {w : World} {A : Around} {E Q : Value → Shared → Prop} {h : Heap} {g : Array GenState} {d : Drawn} {t : Nat} {o : OsState} {u v : Tok} {a b : Int} (ha : 0 ≤ a) (hb : 0 ≤ b) (hb2 : b < 256) (H : Q (.int (a * 256 + b) t) ⟨h, g, d, t + 1, o⟩) : wpAny (model prog w) A (binaryOp .BitOr (.int (a * 256) u) (.int b v)) Q E ⟨h, g, d, t, o⟩ :=
  r_or (by rw [or_lo ha hb hb2]; exact H)
theorem r_mask {prog : Program} {w : World} {A : Around} {E Q : Value → Shared → Prop} {h : Heap} {g : Array GenState} {d : Drawn} {t : Nat} {o : OsState} {u v : Tok} {a b c : Int} (k : Nat) (e : b = 2 ^ k - 1) (e2 : (2 : Int) ^ k = c) (H : Q (.int (a % c) t) ⟨h, g, d, t + 1, o⟩) : wpAny (model prog w) A (binaryOp .BitAnd (.int a u) (.int b v)) Q E ⟨h, g, d, t, o⟩ :=
  r_and (by rw [e, kbt_mask, e2]; exact H)
theorem r_maskW {prog : Program} {w : World} {A : Around} {E Q : Value → Shared → Prop} {h : Heap} {g : Array GenState} {d : Drawn} {t : Nat} {o : OsState} {u v : Tok} {a : Int} {n : Nat} (H : Q (.int (a % 2 ^ n) t) ⟨h, g, d, t + 1, o⟩) : wpAny (model prog w) A (binaryOp .BitAnd (.int a u) (.int (1 * 2 ^ n - 1) v)) Q E ⟨h, g, d, t, o⟩ :=
  r_and (by rw [Int.one_mul, kbt_mask]; exact H)
theorem or_lo' {a b : Int} (n : Nat) (ha : 0 ≤ a) (hb : 0 ≤ b) (hb2 : b < 2 ^ n) : Builtin.bitOr (a * 2 ^ n) b = a * 2 ^ n + b := by
  have hp := kbt_pos n
  have h0 : 0 ≤ a * 2 ^ n := Int.mul_nonneg ha (Int.le_of_lt hp)
  rw [bitOr_and, bitAnd_pp h0 hb]
  have e : (a * 2 ^ n).toNat &&& b.toNat = 0 := by
    have hc := kbt_cast n
    have hlt : b.toNat < 2 ^ n := by omega
    have e1 : (a * 2 ^ n).toNat = a.toNat <<< n := by
      rw [Nat.shiftLeft_eq, ← hc, Int.toNat_mul ha (Int.natCast_nonneg _), Int.toNat_natCast]
    rw [e1]
    apply Nat.eq_of_testBit_eq
    intro j
    rw [Nat.testBit_and, Nat.testBit_shiftLeft, Nat.zero_testBit]
    by_cases hj : n ≤ j
    · rw [Nat.testBit_lt_two_pow (Nat.lt_of_lt_of_le hlt (Nat.pow_le_pow_right (by decide) hj)), Bool.and_false]
    · simp [hj]
  rw [e]; simp
section
variable {prog : Program} {w : World} {A : Around} {E Q : Value → Shared → Prop} {h : Heap} {g : Array GenState} {d : Drawn} {t : Nat} {o : OsState} {u v : Tok}
theorem r_shl9 {a n : Int} (hn : n = 9) (ha : a.natAbs < 2 ^ 64) (H : Q (.int (a * 512) t) ⟨h, g, d, t + 1, o⟩) : wpAny (model prog w) A (binaryOp .LShift (.int a u) (.int n v)) Q E ⟨h, g, d, t, o⟩ := by
  subst hn; exact r_shl (by decide) (by decide) ha H
theorem r_or9 {a b : Int} (ha : 0 ≤ a) (hb : 0 ≤ b) (hb2 : b < 512) (H : Q (.int (a * 512 + b) t) ⟨h, g, d, t + 1, o⟩) : wpAny (model prog w) A (binaryOp .BitOr (.int (a * 512) u) (.int b v)) Q E ⟨h, g, d, t, o⟩ :=
  r_or (by rw [show Builtin.bitOr (a * 512) b = a * 512 + b from or_lo' 9 ha hb hb2]; exact H)
end
end
section
open PySem.Calls
noncomputable def excIn1 (K : Frag) (C : Addr) : Bool := match K.lookup C with
  | some ⟨_, _, .cls cd, sl⟩ => !cd.abstract && !cd.hasDel && (sl.toList[4]?).join == some (.builtin "Exception.__new__") && !cd.mro.isEmpty && cd.mro.contains (.ref C) && cd.mro.contains (.type "Exception") &&
      !cd.mro.contains (.type "AttributeError") && !cd.mro.contains (.type "NameError") &&
      specialIn K (.ref C) "__call__" == some (some (.builtin "type.__call__")) && instIn K (.ref C) (.type "type") == some true
  | _ => false
structure ExcMakes (M : Model) (h : Heap) (C : Addr) : Prop where
  obj : ∃ oc od cd sl, h.get? C = some ⟨oc, od, .cls cd, sl⟩ ∧ cd.abstract = false ∧ cd.hasDel = false ∧ cd.mro.isEmpty = false
  made : Looks M h (Bind.madeBy (.ref C)) (some "Exception.__new__")
  base : Looks M h (Bind.staticBase (.ref C)) (.ref C)
  self : Looks M h (isSubtype (.ref C) (.ref C)) true
  isE : Looks M h (isSubtype (.ref C) (.type "Exception")) true
  noA : Looks M h (isSubtype (.ref C) (.type "AttributeError")) false
  noN : Looks M h (isSubtype (.ref C) (.type "NameError")) false
  call : Looks M h (specialOf (.ref C) "__call__") (some (.builtin "type.__call__"))
  typ : Looks M h (isInstance (.ref C) (.type "type")) true
theorem excMakes_of {K : Frag} {M : Model} {h : Heap} (X : K.In h) {C : Addr} (e : excIn1 K C = true) : ExcMakes M h C := by
  unfold excIn1 at e
  split at e
  · rename_i oc od cd sl ho
    simp only [Bool.and_eq_true, Bool.not_eq_true', beq_iff_eq] at e
    obtain ⟨⟨⟨⟨⟨⟨⟨⟨⟨e1, e2⟩, e3⟩, e4⟩, e5⟩, e6⟩, e6a⟩, e6n⟩, e7⟩, e8⟩ := e
    have hc : clsIn K C = some cd := by unfold clsIn; rw [ho]
    have hm : Looks M h (mroOf (.ref C)) cd.mro := (looks_clsIn X hc).andThen .now
    obtain ⟨c, l, hl⟩ : ∃ c l, cd.mro = c :: l := by cases q : cd.mro with | nil => rw [q] at e4; cases e4 | cons c l => exact ⟨c, l, rfl⟩
    have made : Looks M h (Bind.madeBy (.ref C)) (some "Exception.__new__") := by
      intro A Q E s k q
      unfold Bind.madeBy
      refine wpAny_bind (hm A _ E s k ?_)
      rw [hl, List.forIn_cons]
      refine wpAny_bind (wpAny_bind (wpAny_bind (wpAny_bind (wpAny_loadPart (k _ _ (X _ _ ho)) (wpAny_pure ?_)))))
      dsimp only
      rw [← Array.getElem?_toList, e3]
      exact wpAny_pure (wpAny_pure (wpAny_pure q))
    refine ⟨⟨oc, od, cd, sl, X _ _ ho, e1, e2, e4⟩, made, ?_, looks_mroIn X ?_, looks_mroIn X ?_, looks_mroIn X ?_, looks_mroIn X ?_, looks_specialIn X e7, looks_instIn X e8⟩
    · intro A Q E s k q
      unfold Bind.staticBase
      refine wpAny_bind (hm A _ E s k ?_)
      rw [hl, List.forIn_cons]
      exact wpAny_bind (wpAny_bind (wpAny_bind (made A _ E s k (wpAny_pure (wpAny_pure (wpAny_pure q))))))
    · unfold mroIn; rw [hc, Option.bind_some, if_neg (by rw [e4]; decide), e5]
    · unfold mroIn; rw [hc, Option.bind_some, if_neg (by rw [e4]; decide), e6]
    · unfold mroIn; rw [hc, Option.bind_some, if_neg (by rw [e4]; decide), e6a]
    · unfold mroIn; rw [hc, Option.bind_some, if_neg (by rw [e4]; decide), e6n]
  · cases e
noncomputable abbrev tupObj (vs : List Value) : Obj := { cls := .type "tuple", data := .seq vs.toArray }
noncomputable abbrev excObj (C t : Addr) : Obj := { cls := .ref C, data := .fields #[.ref t, .none, .none, .none, .bool false, .none] }
section
variable {prog : Program} {w : World} {A : Around} {R : Result → Shared → Prop} {h : Heap} {g : Array GenState} {d : Drawn} {t : Nat} {os : OsState} {C : Addr}
theorem excNew_code {rest : List Value} (Y : ExcMakes (model prog w) h C) (hz : rest.length ≤ 1000)
    (hq : R (.ok (.ret (.ref (h.objs.size + 1)))) ⟨(h.push (tupObj rest)).push (excObj C h.objs.size), g, d, t, os⟩) :
    codeAny (model prog w) A (.builtin "Exception.__new__" ⟨.ref C :: rest, []⟩) R ⟨h, g, d, t, os⟩ := by
  have F := PySem.F.excBase_Exception
  obtain ⟨⟨oc, od, cd, sl, hC, e1, e2, e4⟩, made, base, self, isE, noA, noN, call, typ⟩ := Y
  have hends := F.ends
  refine PySem.codeAny_builtinAt F.entry ?_
  unfold Builtin.«BaseException.__new__»
  refine PySem.wpAt_bind ?_
  show PySem.wpAt _ _ _ (stack >>= _) _ _ _
  refine PySem.wpAt_bind (PySem.wpAt_stack fun p below => PySem.wpAt_of_wpAny ?_)
  have here : Looks (model prog w) h (Bind.madeHere "BaseException.__new__" (.ref C)) () := base.andThen (made.andThen (Looks.of_pure (by simp only [Option.map_some, F.canon, bne_self_eq_false, Bool.false_eq_true, if_false])))
  have hT : Looks (model prog w) h (isType (.ref C)) true := by
    unfold isType
    exact (Looks.ld hC).andThen .now
  dsimp only
  rw [if_pos hends, F.owner]
  refine wpAny_pure (PySem.wpAt_of_wpAny ?_)
  have isE' : Looks (model prog w) h (isSubtype (.ref C) (.type (toString "Exception"))) true := isE
  repeat (first | exact hq | lk)
  rw [if_neg (show ¬ rest.toArray.size > sizeLine by rw [List.size_toArray, sizeLine_eq]; omega)]
  have hC' := Heap.get?_push_of_some (excObj C h.objs.size) (Heap.get?_push_of_some (tupObj rest) hC)
  repeat (first | exact hq | lk)
  rw [if_neg (by rw [e2]; exact Bool.false_ne_true)]
  refine wpAny_pure (wpAny_pure ?_)
  show R _ _
  rw [Heap.size_push]
  exact hq
theorem excMake_core {rest : List Value} {init : Value} (Y : ExcMakes (model prog w) h C) (hz : rest.length ≤ 1000) (hi : Looks (model prog w) h (typeLookup (.ref C) "__init__") (some init))
    (hb : ∀ self, Looks (model prog w) h (bindSpecial init self) (init, [self]))
    (hq : codeAny (model prog w) (A.under (.builtin "type.__call__" ⟨.ref C :: rest, []⟩)) (.call init ⟨.ref (h.objs.size + 1) :: rest, []⟩) (InitBack (h.objs.size + 1) R) ⟨(h.push (tupObj rest)).push (excObj C h.objs.size), g, d, t, os⟩) :
    codeAny (model prog w) A (.call (.ref C) ⟨rest, []⟩) R ⟨h, g, d, t, os⟩ := by
  have Y' := Y
  obtain ⟨⟨oc, od, cd, sl, hC, e1, e2, e4⟩, made, base, self, isE, noA, noN, call, typ⟩ := Y
  refine codeAny_of_tree ?_
  show wpAny _ _ (callAny (.ref C) _) _ _ _
  refine nd_load hC ?_
  show wpAny _ _ (callAny.viaDunder (.ref C) _) _ _ _
  unfold callAny.viaDunder
  refine wpAny_bind (call.at ?_)
  dsimp only
  rw [tc_bind]
  refine wpAny_bind (wpAny_pure (wpAny_bind (wpAny_pure ?_)))
  refine wpAny_pure (a := Fin.again (.call (.builtin "type.__call__") ⟨.ref C :: rest, []⟩)) (And.intro rfl ?_)
  refine codeAny_call_builtin_at (Code.quiet_builtin _ (by decide +kernel)) entry_typeCall (check_slot tc_kind tc_split typ (tc_args _ _ _) ?_)
  unfold Builtin.«type.__call__»
  have hm : Looks (model prog w) h (mroOf (.ref C)) cd.mro := ((Looks.ld (part := none) hC).andThen .now).andThen .now
  repeat (first | with_reducible refine wpAny_call ?_ | lk | with_reducible refine a_ite0 (by rw [e4]; exact Bool.false_ne_true) ?_ | simp only [e4, Bool.false_eq_true, if_false])
  have F := PySem.F.excBase_Exception
  refine codeAny_call_builtin_code (Code.quiet_builtin _ F.quiet) ?_
  have hstar := F.noStar
  simp only [checkBuiltinCall, F.newKind, F.newSplit, F.newRow]
  repeat (first | lk | with_reducible refine a_ite0 (by rw [bne_self_eq_false]; exact Bool.false_ne_true) ?_ | simp only [bne_self_eq_false, Bool.false_eq_true, if_false])
  refine excNew_code Y' hz ?_
  have k : ∀ b o, h.get? b = some o → ((h.push (tupObj rest)).push (excObj C h.objs.size)).get? b = some o := fun b o e => Heap.get?_push_of_some _ (Heap.get?_push_of_some _ e)
  have hx : ((h.push (tupObj rest)).push (excObj C h.objs.size)).get? (h.objs.size + 1) = some (excObj C h.objs.size) := by heap_get
  have t1 : Looks (model prog w) ((h.push (tupObj rest)).push (excObj C h.objs.size)) (typeOf (.ref (h.objs.size + 1))) (.ref C) := (Looks.ld hx).andThen .now
  have s1 := self.keeps k
  have i1 := hi.keeps k
  have b1 := (hb (.ref (h.objs.size + 1))).keeps k
  dsimp only
  unfold isInstance callSpecial? specialOf
  repeat (first | with_reducible refine wpAny_call ?_ | lk)
  refine codeAny_mono hq fun r s' z => ?_
  rcases r with e | (v | _ | _ | _) <;> first | exact z | exact z.elim | skip
  obtain ⟨rfl, z⟩ := z
  exact wpAny_pure (wpAny_pure z)
end
section
variable {prog : Program} {w : World} {A A₀ : Around} {E : Value → Shared → Prop} {K : Frag} {C L : Addr} {h₀ base : Heap} {m mg mb : Str → Option Value} {news : List (Addr × Obj)} {p : Program} {loose : List Str} {mean : ExcName → Option Value} {Q : Value → Shared → Prop} {h : Heap} {g : Array GenState} {d : Drawn} {t : Nat} {os : OsState}
theorem r_excMake {rest : List Value} {fI : Addr} (F : Fr h₀ L h m) (X₀ : K.In h₀) (N : News h₀ L h news) (hz : rest.length ≤ 1000) (hm : excIn1 K C = true)
    (hi : findIn K (.ref C) "__init__" = some (some (.ref fI))) (hf : isFn K (.ref fI) = true)
    (H : ∀ x tp h', Fr h₀ L h' m → News h₀ L h' ((x, excObj C tp) :: (tp, tupObj rest) :: news) → (∀ p ∈ (tp, tupObj rest) :: news, p.1 < x) →
      codeAny (model prog w) (A.under (.builtin "type.__call__" ⟨.ref C :: rest, []⟩)) (.call (.ref fI) ⟨.ref x :: rest, []⟩) (InitBack x fun r s' => match r with | .ok (.ret v) => Q v s' | .ok _ => False | .error e => E e s') ⟨h', g, d, t, os⟩) :
    wpAny (model prog w) A (call (.ref C) rest) Q E ⟨h, g, d, t, os⟩ := by
  have X := X₀.keeps F.keep
  refine wpAny_call ?_
  refine excMake_core (excMakes_of X hm) hz (looks_findIn X hi) (fun self => bind_fn X self (beq_iff_eq.mp hf)) (H _ h.objs.size _ ((F.push _).push _) ?_ (fun p hp => (List.mem_cons.mp hp).elim (fun e => e ▸ Nat.lt_succ_self _) fun hp => Nat.lt_succ_of_lt (Heap.lt_size (N p hp).1)))
  have := (N.push F (tupObj rest)).push (F.push _) (excObj C h.objs.size)
  rw [Heap.size_push] at this
  exact this
end
end
section
open PySem.Calls
open PySem.Builtin PySem.Builtin.ObjectAttr
theorem refuse45 (self : Value) : refuseLoop self "__setattr__" [.ref 45, .ref 32, .type "Exception", .type "BaseException", .type "object"] = pure () := by
  rw [refuseLoop_ref, refuseLoop_ref]; kernel_rfl
section
variable {prog : Program} {w : World} {A A₀ : Around} {E : Value → Shared → Prop} {L : Addr} {h₀ base : Heap} {m mg mb : Str → Option Value} {news : List (Addr × Obj)} {Q : Unit → Shared → Prop} {h : Heap} {g : Array GenState} {d : Drawn} {t : Nat} {os : OsState}
theorem r_excSet {x tp : Addr} {v : Value} {gl : Obj → List (Addr × Obj)} (F : Fr h₀ L h m) (X₀ : (Mine.hd.heap_39 w.params).In h₀) (N : News h₀ L h news) (U : UpdF x (excObj 45 tp) news gl)
    (H : ∀ h' dx hs tk t2, Fr h₀ L h' m → News h₀ L h' ((dx, dictOf [⟨hs, .str "told" tk, v⟩] 1) :: gl { excObj 45 tp with dict := some dx }) → (∀ p ∈ news, @LT.lt Nat _ p.1 dx) → Q () ⟨h', g, d, t2, os⟩) :
    wpAny (model prog w) A (setAttr (.ref x) "told" v) Q E ⟨h, g, d, t, os⟩ := by
  have X := X₀.keeps F.keep
  obtain ⟨pre, post, e4, e5, a, b⟩ := U.split
  have hx : h.get? x = some (excObj 45 tp) := (N (x, excObj 45 tp) (by rw [e4]; simp)).1
  have ty : Looks (model prog w) h (typeOf (.ref x)) (.ref 45) := (Looks.ld hx).andThen .now
  have sa : Looks (model prog w) h (typeLookup (.ref 45) "__setattr__") (some (.builtin "object.__setattr__")) := looks_findIn X (by kernel_rfl)
  have st : Looks (model prog w) h (typeLookup (.ref 45) "told") none := looks_findIn X (by kernel_rfl)
  have hcd : (clsIn (Mine.hd.heap_39 w.params) 45).map (fun c => (c.mro, c.hasDict)) = some ([.ref 45, .ref 32, .type "Exception", .type "BaseException", .type "object"], true) := by kernel_rfl
  obtain ⟨cd, hc, hc2⟩ := Option.map_eq_some_iff.mp hcd
  obtain ⟨hmro, hdi⟩ := Prod.mk.inj hc2
  have LC : Looks (model prog w) h (classData 45) cd := looks_clsIn X hc
  have mr : Looks (model prog w) h (mroOf (.ref 45)) [.ref 45, .ref 32, .type "Exception", .type "BaseException", .type "object"] := hmro ▸ LC.andThen .now
  have sub : Looks (model prog w) h (isInstance (.ref x) (.type "object")) true := ty.andThen (looks_mroIn X (by kernel_rfl))
  have SF := PySem.F.store_object
  unfold setAttr callSpecial? specialOf
  repeat (first | with_reducible refine wpAny_call ?_ | lk)
  show codeAny _ _ (.call (.builtin "object.__setattr__") ⟨[.ref x, .str "told" t, v], []⟩) _ _
  refine codeAny_call_builtin SF.slot.plain SF.entry (@check_slot (model prog w) _ _ _ "object.__setattr__" "object" "__setattr__" (.ref x) [.str "told" t, v] [] _ SF.kind SF.split sub (SF.args (.ref x) (.str "told" t) v) ?_)
  have L3 : Looks (model prog w) h (storeTaker? none) none := .now
  rw [osa_eq, refuse_eq]
  refine wpAny_bind (wpAny_bind (ty.at (wpAny_bind (mr.at ?_))))
  rw [refuse45]
  refine wpAny_pure (wpAny_bind (ty.at (wpAny_bind (st.at (wpAny_bind (L3.at ?_))))))
  dsimp only
  unfold storeInOwnDict ObjectAttr.ownDictForStores instanceDict
  repeat (first | rw [hdi] | lk)
  have hx1 : (h.push emptyDict).get? x = some (excObj 45 tp) := Heap.get?_push_of_some _ hx
  show wpAny _ _ (updatePart x none _) _ _ _
  refine wpAny_updatePart hx1 ?_
  have xl : x < h.objs.size := Heap.lt_size hx
  have hd2 : ((h.push emptyDict).update x (fun o => { o with dict := some h.objs.size })).get? h.objs.size = some emptyDict := by
    rw [Heap.get?_update_other _ _ (Nat.ne_of_lt xl)]
    exact Heap.get?_push_size _ rfl
  have hx2 : ((h.push emptyDict).update x (fun o => { o with dict := some h.objs.size })).get? x = some { excObj 45 tp with dict := some h.objs.size } := Heap.get?_update_self _ hx1 rfl
  have hs2 : Heap.SameBut x (h.push emptyDict) ((h.push emptyDict).update x (fun o => { o with dict := some h.objs.size })) := Heap.SameBut.update ..
  have Nx := N (x, excObj 45 tp) (by rw [e4]; simp)
  have Nd := (N.push F emptyDict) (h.objs.size, emptyDict) (.head _)
  have F2 : Fr h₀ L ((h.push emptyDict).update x (fun o => { o with dict := some h.objs.size })) m := (F.push emptyDict).change hs2 Nx.2.1 Nx.2.2
  have N2 : ∀ p ∈ pre ++ post, ((h.push emptyDict).update x (fun o => { o with dict := some h.objs.size })).get? p.1 = some p.2 ∧ p.1 ≠ L ∧ h₀.get? p.1 = none := by
    intro p hp
    have hm : p ∈ news := by rw [e4]; rcases List.mem_append.mp hp with q | q <;> simp [q]
    have ne : p.1 ≠ x := (List.mem_append.mp hp).elim (a p) (b p)
    exact ⟨(hs2.2 _ ne).trans (Heap.get?_push_of_some _ (N p hm).1), (N p hm).2⟩
  generalize hh2 : (h.push emptyDict).update x (fun o => { o with dict := some h.objs.size }) = h2 at hd2 hx2 hs2 F2 N2
  unfold dictMade
  repeat lk
  show wpAny _ _ (updatePart h.objs.size _ _) _ _ _
  refine wpAny_updatePart hd2 ?_
  have hs3 : Heap.SameBut h.objs.size h2 (h2.update h.objs.size (Obj.putName "told" (if ("told" : Str).cps.isEmpty = true then 0 else reduceHash ((model prog w).w.params.strHash ("told" : Str).cps)) (.str "told" (t + 1)) v)) := Heap.SameBut.update ..
  have hd3 : (h2.update h.objs.size (Obj.putName "told" (if ("told" : Str).cps.isEmpty = true then 0 else reduceHash ((model prog w).w.params.strHash ("told" : Str).cps)) (.str "told" (t + 1)) v)).get? h.objs.size = some (dictOf [⟨(if ("told" : Str).cps.isEmpty = true then 0 else reduceHash ((model prog w).w.params.strHash ("told" : Str).cps)), .str "told" (t + 1), v⟩] 1) := Heap.get?_update_self _ hd2 rfl
  have F3 := F2.change hs3 Nd.2.1 Nd.2.2
  have lt : ∀ p ∈ news, p.1 ≠ h.objs.size := fun p hp => Nat.ne_of_lt (Heap.lt_size (N p hp).1)
  have N3 : News h₀ L (h2.update h.objs.size (Obj.putName "told" (if ("told" : Str).cps.isEmpty = true then 0 else reduceHash ((model prog w).w.params.strHash ("told" : Str).cps)) (.str "told" (t + 1)) v)) ((h.objs.size, dictOf [⟨(if ("told" : Str).cps.isEmpty = true then 0 else reduceHash ((model prog w).w.params.strHash ("told" : Str).cps)), .str "told" (t + 1), v⟩] 1) :: gl { excObj 45 tp with dict := some h.objs.size }) := by
    intro p hp
    rcases List.mem_cons.mp hp with rfl | hp
    · exact ⟨hd3, Nd.2⟩
    rw [e5] at hp
    rcases List.mem_append.mp hp with hp | hp
    · have z := N2 p (List.mem_append.mpr (.inl hp))
      exact ⟨(hs3.2 _ (lt p (by rw [e4]; simp [hp]))).trans z.1, z.2⟩
    rcases List.mem_cons.mp hp with rfl | hp
    · exact ⟨(hs3.2 _ (Nat.ne_of_lt xl)).trans hx2, Nx.2⟩
    · have z := N2 p (List.mem_append.mpr (.inr hp))
      exact ⟨(hs3.2 _ (lt p (by rw [e4]; simp [hp]))).trans z.1, z.2⟩
  have fin := H _ _ _ _ (t + 1 + 1) F3 N3 (fun p hp => Heap.lt_size (N p hp).1)
  generalize hh3 : h2.update h.objs.size _ = h3 at hd3 fin
  refine wpAny_bind (wpAny_lookBehind hd3 (pastItsLine_dict (by simp [sizeLine_eq])) ?_)
  exact wpAny_pure (wpAny_pure (wpAny_pure fin))

theorem r_excGet {Q : Value → Shared → Prop} {x dx : Addr} {oe : Obj} {hs : Int} {tk tv : Tok} {l : Array UInt8} {n : Nat} {expr : Bool} (F : Fr h₀ L h m) (X₀ : (Mine.hd.heap_39 w.params).In h₀) (hx : h.get? x = some oe) (hcl : oe.cls = .ref 45) (hdi : oe.dict = some dx) {vs : Array Value} (hda : oe.data = .fields vs)
    (hd : h.get? dx = some (dictOf [⟨hs, .str "told" tk, .bytes l tv⟩] n)) (H : ∀ t2, Q (.bytes l tv) ⟨h, g, d, t2, os⟩) :
    wpAny (model prog w) A (getAttr (.ref x) "told" expr) Q E ⟨h, g, d, t, os⟩ := by
  have X := X₀.keeps F.keep
  have ty : Looks (model prog w) h (typeOf (.ref x)) (.ref 45) := hcl ▸ (Looks.ld hx).andThen .now
  have sg : Looks (model prog w) h (typeLookup (.ref 45) "__getattribute__") (some (.builtin "BaseException.__getattribute__")) := looks_findIn X (by kernel_rfl)
  have st : Looks (model prog w) h (typeLookup (.ref 45) "told") none := looks_findIn X (by kernel_rfl)
  have sh : Looks (model prog w) h (typeLookup (.ref 45) "__getattr__") none := looks_findIn X (by kernel_rfl)
  unfold getAttr
  repeat (first | (with_reducible refine wpAny_attempt ?_) | lk)
  rw [if_neg (by cases expr <;> decide)]
  have gk : builtinKind "BaseException.__getattribute__" = some .slot := by decide +kernel
  have gs : splitId "BaseException.__getattribute__" = some ("BaseException", "__getattribute__") := by decide +kernel
  have ge : entryFor table "BaseException.__getattribute__" = some PySem.Builtin.«object.__getattribute__» := PySem.F.entry_bexc_ga
  have gp : plainId "BaseException.__getattribute__" = true := by decide +kernel
  have ga : ∀ a b, argsOk "BaseException.__getattribute__" ⟨[a, b], []⟩ := fun a b => by unfold argsOk; kernel_rfl
  have sub : Looks (model prog w) h (isInstance (.ref x) (.type "BaseException")) true := ty.andThen (looks_mroIn X (by kernel_rfl))
  unfold boundAndCalled
  repeat (first | with_reducible refine wpAny_call ?_ | lk)
  show codeAny _ _ (.call (.builtin "BaseException.__getattribute__") ⟨[.ref x, .str "told" t], []⟩) _ _
  refine codeAny_call_builtin gp ge (@check_slot (model prog w) _ _ _ "BaseException.__getattribute__" "BaseException" "__getattribute__" (.ref x) [.str "told" t] [] _ gk gs sub (ga (.ref x) (.str "told" t)) ?_)
  obtain ⟨oc, odi, oda, osl⟩ := oe
  dsimp only at hcl hdi hda
  subst hcl hdi hda
  have hcd : (clsIn (Mine.hd.heap_39 w.params) 45).map (fun c => c.hasDict) = some true := by kernel_rfl
  obtain ⟨cd, hc, hdi⟩ := Option.map_eq_some_iff.mp hcd
  have LC : Looks (model prog w) h (classData 45) cd := looks_clsIn X hc
  unfold PySem.Builtin.«object.__getattribute__»
  repeat (first | rw [hdi] | lk)
  exact H _
end
end
section
/-! an own exception on its way: its dict stays -/
noncomputable abbrev ioe : List UInt8 := [105, 111, 101, 114, 114, 111, 114]
section
open PySem.Heap
structure Fly (B : Heap) (l : List Env) (e dx : Addr) (fl : Value) (h : Heap) : Prop where
  stays : B.StaysIn h
  fresh : B.get? e = none
  frames : h.FunFrames B l
  there : ∃ oe vs T oT ts, h.get? e = some oe ∧ (oe.cls = .ref 45 ∧ oe.dict = some dx) ∧ oe.data = .fields vs ∧ vs[1]? = some (.ref T) ∧ B.get? T = none ∧ T ≠ e ∧ h.get? T = some oT ∧ oT.data = .fields ts ∧ ts[3]? = some fl
/-- a field of a record is set: what is no record stays -/
theorem fld_stays {B h : Heap} {a : Addr} {o : Obj} {vs : Array Value} {f : Obj → Obj} (k : B.StaysIn h) (n : B.get? a = none) : B.StaysIn (h.update a f) := fun b ob q =>
  (Heap.get?_update_other _ _ fun z => by rw [← z, n] at q; cases q).trans (k b ob q)
theorem fld_slots {h : Heap} {a : Addr} {o : Obj} {vs : Array Value} {f : Obj → Obj} (ho : h.get? a = some o) (hd : o.data = .fields vs) : h.UpToSlots (h.update a f) := fun b ob q nf => by
  refine ⟨ob.slots, (Heap.get?_update_other _ _ fun z => ?_).trans q⟩
  rw [← z, ho] at q; injection q with q; subst q; exact nf vs hd
theorem frames_up {h h' B : Heap} {l : List Env} (k : h.UpToSlots h') (hl : h.FunFrames B l) : h'.FunFrames B l := hl.of_keeps fun b o ho nf => let ⟨sl, e⟩ := k b o ho nf; ⟨_, e, rfl⟩
variable {M : Model} {A : Around} {E : Value → Shared → Prop} {s : Shared} {B : Heap} {env : Env} {outer : List Env} {L e dx : Addr} {Q : Unit → Shared → Prop}
theorem fly_entry {oe : Obj} {vs : Array Value} {head : Value} {hadNext : Bool} (hfr : A.frames = some (env :: outer)) (hl : s.heap.FunFrames B (env :: outer)) (hf : env.frame = some L)
    (he : s.heap.get? e = some oe) (hc : oe.cls = .ref 45 ∧ oe.dict = some dx) (kb : B.StaysIn s.heap) (hen : B.get? e = none) (hd : oe.data = .fields vs) (hsz : 1 < vs.size)
    (H : ∀ h', Fly B (env :: outer) e dx (rawInt L) h' → s.heap.UpToSlots h' → Q () { s with heap := h' }) :
    wpAny M A (do let a ← frameOf env; let pl ← entryPlaceOf L hadNext; let b ← EntryCells.newEntry head a .none (rawInt L) .none pl; setField (.ref e) 1 b) Q E s := by
  have notIn : e ∉ (env :: outer).filterMap (·.frame) := fun hm => by
    refine hideGoal fun G hG => ?_
    obtain ⟨_, o, ho, nf⟩ := hl.mem hm
    refine hG ?_
    clear hG G
    rw [he] at ho; injection ho with ho; subst ho; exact nf vs hd
  refine wpAny_bind (wpAny_frameOf_fun hfr hl hf fun h1 hs1 => ?_)
  refine wpAny_bind (wpAny_entryPlaceOf fun pl hpl => ?_)
  unfold EntryCells.newEntry newFields
  refine wpAny_bind (wpAny_newObj_type ?_ (hpl.sizeOk5 _ _ _ _ _))
  have he1 := (hs1.2.1 e notIn).trans he
  have kb1 : B.StaysIn h1 := fun b o q => (hs1.2.1 b fun hm => by rw [(hl.mem hm).1] at q; cases q).trans (kb b o q)
  have up1 : s.heap.UpToSlots h1 := fun b o q _ => hs1.2.2 b o q
  generalize hT : ({ cls := .type "traceback", dict := none, data := .fields ([head, .ref L, .none, rawInt L, .none] ++ (if pl.isEmpty then List.replicate 6 Value.none else pl)).toArray } : Obj) = oT
  have hTd : oT.data = .fields ([head, .ref L, .none, rawInt L, .none] ++ (if pl.isEmpty then List.replicate 6 Value.none else pl)).toArray := by rw [← hT]
  have he2 := Heap.get?_push_of_some oT he1
  have hT2 : (h1.push oT).get? h1.objs.size = some oT := Heap.get?_push_size h1 (Obj.isFreed_of_fields hTd)
  have hne : h1.objs.size ≠ e := Nat.ne_of_gt (Heap.lt_size he1)
  have kb2 : B.StaysIn (h1.push oT) := fun b o q => Heap.get?_push_of_some _ (kb1 b o q)
  have up2 := up1.trans (Heap.UpToSlots.of_keeps fun b o q => Heap.get?_push_of_some oT q)
  have fT := kb1.fresh
  generalize h1.objs.size = T at hT2 hne fT
  refine wpAny_setField he2 hd hsz (H _ ⟨fld_stays (o := oe) (vs := vs) kb2 hen, hen, frames_up (up2.trans (fld_slots he2 hd)) hl, ?_⟩ (up2.trans (fld_slots he2 hd)))
  refine ⟨_, _, T, oT, _, Heap.get?_update_self _ he2 (Obj.isFreed_of_fields (Obj.data_mapFields hd _)), ?_, Obj.data_mapFields hd _, by simp [hsz], fT, hne, (Heap.get?_update_other _ _ (Ne.symm hne)).trans hT2, hTd, ?_⟩
  · unfold Obj.mapFields; split <;> exact hc
  · first | (simp; done) | (rcases hpl with rfl | ⟨_, _, _, _, _, _, _, rfl⟩ <;> simp)
/-- what is behind the frames is set anew -/
theorem fly_down {fl : Value} {Q : Unit → Shared → Prop} (X : Fly B outer e dx fl s.heap) (H : ∀ h', Fly B outer e dx .none h' → s.heap.UpToSlots h' → (∀ b o, s.heap.get? b = some o → (∀ vs, o.data ≠ .fields vs) → h'.get? b = some o) → Q () { s with heap := h' }) : wpAny M A (setFlight (.ref e) none) Q E s := by
  refine hideGoal fun G hG => ?_
  obtain ⟨oe, vs, T, oT, ts, he, hc, hd, h1, hT, hne, hTo, hTd, h3⟩ := X.there
  refine hG ?_
  clear hG G
  unfold setFlight
  refine wpAny_bind (wpAny_field he hd h1 ?_)
  rw [if_pos (show (Value.ref T != Value.none) = true from by simp)]
  have up := fld_slots (f := Obj.mapFields (·.setIfInBounds 3 ((none : Option Addr).elim Value.none fun f => rawInt f))) hTo hTd
  refine wpAny_setField hTo hTd (Array.getElem?_eq_some_iff.mp h3).1 (H _ ⟨fld_stays (o := oT) (vs := ts) X.stays hT, X.fresh, frames_up up X.frames, ?_⟩ up fun b o q nf => (Heap.get?_update_other _ _ fun z => by rw [← z, hTo] at q; cases q; exact nf ts hTd).trans q)
  exact ⟨oe, vs, T, _, _, (Heap.get?_update_other _ _ hne).trans he, hc, hd, h1, hT, hne, Heap.get?_update_self _ hTo (Obj.isFreed_of_fields (Obj.data_mapFields hTd _)), Obj.data_mapFields hTd _, by simp [(Array.getElem?_eq_some_iff.mp h3).1]⟩
/-- a frame is noted: the first one, or one more -/
theorem fly_note {Q : Unit → Shared → Prop} (hfr : A.frames = some (env :: outer)) (hf : env.frame = some L) (X : Fly B (env :: outer) e dx .none s.heap)
    (H : ∀ h', Fly B (env :: outer) e dx (rawInt L) h' → s.heap.UpToSlots h' → Q () { s with heap := h' }) : wpAny M A (noteFrame (.ref e) env) Q E s := by
  refine hideGoal fun G hG => ?_
  obtain ⟨oe, vs, T, oT, ts, he, hc, hd, h1, hT, hne, hTo, hTd, h3⟩ := X.there
  refine hG ?_
  clear hG G
  unfold noteFrame
  simp only [hf]
  refine wpAny_bind (wpAny_field he hd h1 ?_)
  rw [if_pos (show (Value.ref T != Value.none) = true from by simp)]
  refine wpAny_bind (wpAny_field hTo hTd h3 ?_)
  rw [if_neg (show ¬ ((Value.none == rawInt L) = true) from by simp [rawInt])]
  have up := fld_slots (f := Obj.mapFields (·.setIfInBounds 3 Value.none)) hTo hTd
  refine wpAny_bind (wpAny_setField hTo hTd (Array.getElem?_eq_some_iff.mp h3).1 ?_)
  exact fly_entry (s := { s with heap := _ }) hfr (frames_up up X.frames) hf ((Heap.get?_update_other _ _ hne).trans he) hc (fld_stays (o := oT) (vs := ts) X.stays hT) X.fresh hd (Array.getElem?_eq_some_iff.mp h1).1 fun h' F U => H h' F (up.trans U)
theorem fly_first {oe : Obj} {vs : Array Value} {Q : Unit → Shared → Prop} (hfr : A.frames = some (env :: outer)) (hf : env.frame = some L) (hl : s.heap.FunFrames B (env :: outer))
    (he : s.heap.get? e = some oe) (hc : oe.cls = .ref 45 ∧ oe.dict = some dx) (kb : B.StaysIn s.heap) (hen : B.get? e = none) (hd : oe.data = .fields vs) (h1 : vs[1]? = some .none)
    (H : ∀ h', Fly B (env :: outer) e dx (rawInt L) h' → s.heap.UpToSlots h' → Q () { s with heap := h' }) : wpAny M A (noteFrame (.ref e) env) Q E s := by
  unfold noteFrame
  simp only [hf]
  refine wpAny_bind (wpAny_field he hd h1 ?_)
  rw [if_neg (by decide)]
  exact fly_entry hfr hl hf he hc kb hen hd (Array.getElem?_eq_some_iff.mp h1).1 H
theorem Fly.pop {fl : Value} {h : Heap} (X : Fly B (env :: outer) e dx fl h) : Fly B outer e dx fl h := ⟨X.stays, X.fresh, X.frames.2.2, X.there⟩
end
/-- the exception has left the frames before `l`; `news` stand as they stood -/
inductive Gone (base : Heap) (l : List Env) (e : Addr) (news : List (Addr × Obj)) (h : Heap) : Prop
  | mk (B dx hs tk tv) (h1 : base.StaysIn B) (h2 : (∀ q ∈ news, B.get? q.1 = some q.2 ∧ base.get? q.1 = none)) (h3 : Fly B l e dx .none h) (h4 : B.get? dx = some (dictOf [⟨hs, .str "told" tk, .bytes (ioe).toArray tv⟩] 1)) (h5 : base.get? dx = none)
inductive GoneL (base : Heap) (l : List Env) (e L : Addr) (news : List (Addr × Obj)) (h : Heap) : Prop
  | mk (B dx hs tk tv) (h1 : base.StaysIn B) (h2 : (∀ q ∈ news, B.get? q.1 = some q.2 ∧ base.get? q.1 = none)) (h3 : Fly B l e dx (rawInt L) h) (h4 : B.get? dx = some (dictOf [⟨hs, .str "told" tk, .bytes (ioe).toArray tv⟩] 1)) (h5 : base.get? dx = none)
theorem GoneL.sub {base h : Heap} {l : List Env} {e L : Addr} {news news' : List (Addr × Obj)} (G : GoneL base l e L news h) (hs : ∀ p ∈ news', p ∈ news) : GoneL base l e L news' h :=
  let ⟨B, dx, hs', tk, tv, a, b, c, c2, c3⟩ := G; ⟨B, dx, hs', tk, tv, a, fun q hq => b q (hs q hq), c, c2, c3⟩
section
variable {M : Model} {A : Around} {E : Value → Shared → Prop} {s' : Shared} {base g g₂ h : Heap} {outer : List Env} {L e : Addr} {m : Str → Option Value} {env : Env} {Q : Unit → Shared → Prop} {news : List (Addr × Obj)}
theorem leave_first {dx tp : Addr} {hs : Int} {tk tv : Tok} (K : Below A base outer g) (F : Fr g L s'.heap m) (hf : env.frame = some L) (hk : env.scope.kind = .function)
    (N : News g L s'.heap ((dx, dictOf [⟨hs, .str "told" tk, .bytes (ioe).toArray tv⟩] 1) :: (e, { excObj 45 tp with dict := some dx }) :: news)) (hne : ∀ q ∈ news, q.1 ≠ e) (hdx : dx ≠ e)
    (hQ : ∀ h', Gone base outer e news h' → g.UpToSlots h' → Q () { s' with heap := h' }) :
    wpAny M (A.deeper env) (leaving env (.ref e)) Q E s' := by
  have K' := pushX K F hf hk
  have st : base.StaysIn s'.heap := K'.stays
  have Ne := N _ (.tail _ (.head _))
  have Nd := N _ (.head _)
  dsimp only at Ne Nd
  have inL : ∀ a, a ∈ (env :: outer).filterMap (·.frame) → base.get? a = none := fun a q => (K'.frames.mem q).1
  have inN : ∀ q ∈ ((dx, dictOf [⟨hs, .str "told" tk, .bytes (ioe).toArray tv⟩] 1) :: (e, ({ excObj 45 tp with dict := some dx } : Obj)) :: news), q.1 ∉ (env :: outer).filterMap (·.frame) := fun q hq hm => by
    obtain ⟨env', he, hf'⟩ := List.mem_filterMap.mp hm
    rcases List.mem_cons.mp he with rfl | he
    · rw [hf] at hf'; exact (N q hq).2.1 (Option.some.inj hf').symm
    · obtain ⟨o, ho, _⟩ := (K.frames.mem (List.mem_filterMap.mpr ⟨env', he, hf'⟩)).2
      rw [(N q hq).2.2] at ho; cases ho
  have hB : ∀ b o, s'.heap.get? b = some o → b ≠ e → b ∉ (env :: outer).filterMap (·.frame) → (hideAll s'.heap (e :: (env :: outer).filterMap (·.frame))).get? b = some o := fun b o q n1 n2 =>
    hideAll_get _ q fun z => (List.mem_cons.mp z).elim n1 n2
  have bn : ∀ a, g.get? a = none → base.get? a = none := fun a q => fresh_of_stays K.stays q
  unfold leaving
  refine wpAny_bind (fly_first (B := hideAll s'.heap (e :: (env :: outer).filterMap (·.frame))) (dx := dx) (Around.frames_deeper K.stack) hf ?_ Ne.1 ⟨rfl, rfl⟩ (fun b o q => of_hideAll _ q) (hideAll_none _ (.head _)) rfl rfl fun h1 X1 U1 => ?_)
  · exact funFrames_hide K'.frames fun env' he b hb => .tail _ (List.mem_filterMap.mpr ⟨env', he, hb⟩)
  refine fly_down (s := { s' with heap := h1 }) X1.pop fun h2 X2 U2 _ => hQ h2 ⟨_, dx, hs, tk, tv, fun b o q => hB b o (st b o q) (fun z => ?_) (fun z => ?_), fun q hq => ⟨hB _ _ (N q (.tail _ (.tail _ hq))).1 (hne q hq) (inN q (.tail _ (.tail _ hq))), bn _ (N q (.tail _ (.tail _ hq))).2.2⟩, X2, hB _ _ Nd.1 hdx (inN _ (.head _)), bn _ Nd.2.2⟩ ?_
  · have := bn _ Ne.2.2; rw [← z, q] at this; cases this
  · rw [inL b z] at q; cases q
  · exact ((Heap.UpToSlots.of_keeps F.keep).trans U1).trans U2
theorem leave_more (K : Below A base outer g) (F : Fr g L g₂ m) (hf : env.frame = some L) (R : Gone base (env :: outer) e news s'.heap) (U : g₂.UpToSlots s'.heap)
    (hQ : ∀ h', Gone base outer e news h' → g.UpToSlots h' → Q () { s' with heap := h' }) :
    wpAny M (A.deeper env) (leaving env (.ref e)) Q E s' := by
  refine hideGoal fun G hG => ?_
  obtain ⟨B, dx, hs, tk, tv, hB, hn, X, hd, hdn⟩ := R
  refine hG ?_
  clear hG G
  unfold leaving
  refine wpAny_bind (fly_note (Around.frames_deeper K.stack) hf X fun h1 X1 U1 => fly_down (s := { s' with heap := h1 }) X1.pop fun h2 X2 U2 _ => hQ h2 ⟨B, dx, hs, tk, tv, hB, hn, X2, hd, hdn⟩ ?_)
  exact (((Heap.UpToSlots.of_keeps F.keep).trans U).trans U1).trans U2
end
/-- a heap cut down to some addresses -/
noncomputable def pick (n : Nat) (P : Addr → Bool) (h : Heap) : Heap := ⟨Array.ofFn (n := n) fun i => if P i then (h.get? i).getD { cls := .none, data := .freed } else { cls := .none, data := .freed }, h.life⟩
theorem pick_size (n : Nat) (P : Addr → Bool) (h : Heap) : (pick n P h).objs.size = n := Array.size_ofFn
theorem get?_isFreed {h : Heap} {a : Addr} {o : Obj} (e : h.get? a = some o) : ∀ c d s, o ≠ ⟨c, d, .freed, s⟩ := by
  rintro c d s rfl
  unfold Heap.get? at e
  split at e
  · cases e
  · rename_i x; exact x _ _ _ e
theorem pick_get {n : Nat} {P : Addr → Bool} {h : Heap} {b : Addr} (hb : b < n) (hP : P b = true) : (pick n P h).get? b = h.get? b := by
  have e : (pick n P h).objs[b]? = some ((h.get? b).getD { cls := .none, data := .freed }) := by
    unfold pick; rw [Array.getElem?_ofFn, dif_pos hb]; dsimp only; rw [if_pos hP]
  cases p : h.get? b with
  | none =>
    rw [p] at e
    unfold Heap.get?; rw [e]; rfl
  | some o =>
    rw [p] at e
    dsimp only [Option.getD] at e ⊢
    unfold Heap.get?; rw [e]
    have := get?_isFreed p
    split
    · rename_i c d s z; exact absurd (Option.some.inj z) (this c d s)
    · rfl
theorem pick_out {n : Nat} {P : Addr → Bool} {h : Heap} {b : Addr} (hP : P b = false) : (pick n P h).get? b = none := by
  by_cases hb : b < n
  · have e : (pick n P h).objs[b]? = some { cls := .none, data := .freed } := by
      unfold pick; rw [Array.getElem?_ofFn, dif_pos hb]; dsimp only; rw [if_neg (by rw [hP]; exact Bool.false_ne_true)]
    unfold Heap.get?; rw [e]
  · have e : (pick n P h).objs[b]? = none := Array.getElem?_eq_none (by rw [pick_size]; exact Nat.le_of_not_lt hb)
    unfold Heap.get?; rw [e]
theorem of_pick {n : Nat} {P : Addr → Bool} {h : Heap} {b : Addr} {o : Obj} (e : (pick n P h).get? b = some o) : h.get? b = some o ∧ P b = true := by
  cases hP : P b with
  | false => rw [pick_out hP] at e; cases e
  | true =>
    by_cases hb : b < n
    · rw [pick_get hb hP] at e; exact ⟨e, rfl⟩
    · have e2 : (pick n P h).objs[b]? = none := Array.getElem?_eq_none (by rw [pick_size]; exact Nat.le_of_not_lt hb)
      unfold Heap.get? at e; rw [e2] at e; cases e
theorem frames_pick {base h g : Heap} : ∀ {l : List Env}, h.FunFrames base l → (∀ b ∈ l.filterMap (·.frame), ∀ o, h.get? b = some o → (∀ vs, o.data ≠ .fields vs) → ∃ sl, g.get? b = some { o with slots := sl }) → g.FunFrames base l := fun {l} => by
  induction l with
  | nil => exact fun _ _ => trivial
  | cons env r ih =>
    intro q k
    obtain ⟨hk, ⟨L, o, hf, hn, ho, hd⟩, hr⟩ := q
    obtain ⟨sl, e⟩ := k L (by rw [List.filterMap_cons, hf]; exact .head _) o ho hd
    exact ⟨hk, ⟨L, _, hf, hn, e, hd⟩, ih hr fun b hb => k b (by rw [List.filterMap_cons, hf]; exact .tail _ hb)⟩
section
variable {prog : Program} {w : World} {A₀ : Around} {E : Value → Shared → Prop} {s' : Shared} {base h₀ h : Heap} {outer : List Env} {L e : Addr} {m : Str → Option Value} {env : Env}
  {b₀ : Stmt} {suite : List Stmt} {n : Str} {pos np : Pos} {rest : List ExceptHandler} {Q : Flow → Shared → Prop} {news : List (Addr × Obj)}
  {p : Program} {loose : List Str} {mean : ExcName → Option Value} {mg mb : Str → Option Value} {K : Frag}
/-- caught: the frame goes on over what is left of the heap below it -/
theorem caught_noted {a : Addr} {cn : Str} {cs : Scope} {ccd : Value} {cl : List (Str × Addr)} (KB : Below A₀ base outer h₀) (F : Fr h₀ L h m) (U : h.UpToSlots s'.heap) (R : GoneL base (envX cn cs L a ccd cl :: outer) e L news s'.heap)
    (X : (Mine.hd.heap_39 w.params).In base) (T : Top p loose mean mg mb base)
    (ex : nsIn (Mine.hd.heap_39 w.params) mainGlobals "PsError" = some (some (.ref 45)))
    (k : ∀ g h' dx oe hs tk tv vs tk2, base.StaysIn g → Below A₀ base outer g → (∀ b ∈ outer.filterMap (·.frame), ∀ o, h₀.get? b = some o → (∀ vs, o.data ≠ .fields vs) → ∃ sl, g.get? b = some { o with slots := sl }) → Fr g L h' (fun y => if y = n then some (.ref e) else m y) →
      News g L h' ((e, oe) :: (dx, dictOf [⟨hs, .str "told" tk, .bytes ioe.toArray tv⟩] 1) :: news) → oe.cls = .ref 45 → oe.dict = some dx → oe.data = .fields vs →
      wpAny (model prog w) ((A₀.deeper (envX cn cs L a ccd cl)).mark (some (.ref e))) (execs (b₀ :: suite) (envX cn cs L a ccd cl))
        (fun f s₄ => wpAny (model prog w) (A₀.deeper (envX cn cs L a ccd cl)) (do bindName (envX cn cs L a ccd cl) n .none; unbindBehindTheSuite (envX cn cs L a ccd cl) n pos) (fun _ s₅ => Q f s₅) E s₄)
        (AsSuiteRaised (model prog w) ((A₀.deeper (envX cn cs L a ccd cl)).mark (some (.ref e))) (envX cn cs L a ccd cl) n pos (notedBy (model prog w) ((A₀.deeper (envX cn cs L a ccd cl)).mark (some (.ref e))) (envX cn cs L a ccd cl) (cameBackBy (model prog w) (A₀.deeper (envX cn cs L a ccd cl)) (envX cn cs L a ccd cl) E)))
        { s' with heap := h', toks := tk2 })
    (hk : cs.kind = .function) (hlo : (envX cn cs L a ccd cl).kindOf n = some .local) (hx : (envX cn cs L a ccd cl).kindOf "PsError" = some .globalImplicit) :
    wpAny (model prog w) (A₀.deeper (envX cn cs L a ccd cl)) (setFlight (.ref e) none) (fun _ s₃ =>
        wpAny (model prog w) (A₀.deeper (envX cn cs L a ccd cl)) (handleBy (.ref e) (envX cn cs L a ccd cl) (.ExceptHandler (some (.Name "PsError" np)) (some n) (b₀ :: suite) pos :: rest)) Q E s₃) E s' := by
  refine hideGoal fun G hG => ?_
  obtain ⟨B, dx, hs, tk, tv, hB, hn, X0, hd, hdn⟩ := R
  refine hG ?_
  clear hG G
  have hL : B.get? L = none := by
    refine hideGoal fun G hG => ?_
    obtain ⟨_, ⟨L', _, hf, hn', _⟩, _⟩ := X0.frames
    refine hG ?_
    clear hG G
    obtain rfl : L = L' := Option.some.inj hf
    exact hn'
  refine fly_down X0 fun h2 X2 U2 _ => ?_
  have U12 := U.trans U2
  have up0 : h₀.UpToSlots h2 := (Heap.UpToSlots.of_keeps F.keep).trans U12
  have hsl : ∀ b ∈ outer.filterMap (·.frame), b < h₀.objs.size := fun b hb => let ⟨o, ho, _⟩ := (KB.frames.mem hb).2; Heap.lt_size ho
  have inP : ∀ b ∈ outer.filterMap (·.frame), ((base.get? b).isSome || decide (b ∈ outer.filterMap (·.frame))) = true := fun b hb => by rw [decide_eq_true hb, Bool.or_true]
  have bg : base.StaysIn (pick h₀.objs.size (fun b => (base.get? b).isSome || decide (b ∈ outer.filterMap (·.frame))) h2) := fun b o q => by
    rw [pick_get (Heap.lt_size (KB.stays b o q)) (by rw [q]; rfl)]; exact X2.stays b o (hB b o q)
  have og : ∀ b ∈ outer.filterMap (·.frame), ∀ o, h₀.get? b = some o → (∀ vs, o.data ≠ .fields vs) → ∃ sl, (pick h₀.objs.size (fun b => (base.get? b).isSome || decide (b ∈ outer.filterMap (·.frame))) h2).get? b = some { o with slots := sl } := fun b hb o q nf => by
    rw [pick_get (hsl b hb) (inP b hb)]; exact up0 b o q nf
  have nin : ∀ b o, h2.get? b = some o → B.get? b ≠ none ∨ (∃ vs, o.data = .fields vs) → base.get? b = none → (pick h₀.objs.size (fun b => (base.get? b).isSome || decide (b ∈ outer.filterMap (·.frame))) h2).get? b = none := fun b o q d nb => by
    refine pick_out ?_
    rw [nb, Option.isSome_none, Bool.false_or]
    refine decide_eq_false fun hb => ?_
    refine hideGoal fun G hG => ?_
    obtain ⟨hBn, o', ho', nf⟩ := X2.frames.2.2.mem hb
    refine hG ?_
    clear hG G
    rcases d with d | ⟨vs, d⟩
    · exact d hBn
    · rw [q] at ho'; cases ho'; exact nf vs d
  have F2 : Fr (pick h₀.objs.size (fun b => (base.get? b).isSome || decide (b ∈ outer.filterMap (·.frame))) h2) L h2 m := ⟨U12.ns F.ns, fun b o q => (of_pick q).1, (pick_size _ _ _).symm ▸ F.above⟩
  have Bg : Below A₀ base outer (pick h₀.objs.size (fun b => (base.get? b).isSome || decide (b ∈ outer.filterMap (·.frame))) h2) := ⟨KB.stack, bg, by
    refine frames_pick KB.frames fun b hb o q nf => og b hb o q nf⟩
  refine hideGoal fun G hG => ?_
  obtain ⟨oe, vs, Tb, oT, ts, he, hc, hod, h1', hT, hne, hTo, hTd, h3⟩ := X2.there
  refine hG ?_
  clear hG G
  have Nl : News (pick h₀.objs.size (fun b => (base.get? b).isSome || decide (b ∈ outer.filterMap (·.frame))) h2) L h2 ((e, oe) :: (dx, dictOf [⟨hs, .str "told" tk, .bytes ioe.toArray tv⟩] 1) :: news) := by
    intro q hq
    rcases List.mem_cons.mp hq with rfl | hq
    · refine ⟨he, fun z => ?_, nin _ _ he (.inr ⟨_, hod⟩) (fresh_of_stays hB X2.fresh)⟩
      refine hideGoal fun G hG => ?_
      obtain ⟨oL, es, ep, hLo, hLd, _⟩ := F2.ns
      refine hG ?_
      clear hG G
      dsimp only at z; rw [← z, he] at hLo; cases hLo; rw [hod] at hLd; cases hLd
    · have a : B.get? q.1 = some q.2 ∧ base.get? q.1 = none := by
        rcases List.mem_cons.mp hq with rfl | hq
        · exact ⟨hd, hdn⟩
        · exact hn q hq
      exact ⟨X2.stays _ _ a.1, (fun z => by rw [z, hL] at a; cases a.1), nin _ _ (X2.stays _ _ a.1) (.inl (by rw [a.1]; exact fun z => by cases z)) a.2⟩
  have X' := (X.keeps bg).keeps F2.keep
  have T' := T.g.keeps bg
  have mv : ∀ b o, (pick h₀.objs.size (fun b => (base.get? b).isSome || decide (b ∈ outer.filterMap (·.frame))) h2).get? b = some o → B.get? b = some o ∨ ∀ vs, o.data ≠ .fields vs := fun b o q => by
    obtain ⟨q1, q2⟩ := of_pick q
    rcases Bool.or_eq_true_iff.mp q2 with q2 | q2
    · obtain ⟨o', ho'⟩ := Option.isSome_iff_exists.mp q2
      have := hB _ _ ho'
      have z := X2.stays _ _ this
      rw [q1] at z; cases z; exact .inl this
    · refine hideGoal fun G hG => ?_
      obtain ⟨_, o', ho', nf⟩ := X2.frames.2.2.mem (of_decide_eq_true q2)
      refine hG ?_
      clear hG G
      rw [q1] at ho'; cases ho'; exact .inr nf
  generalize pick h₀.objs.size (fun b => (base.get? b).isSome || decide (b ∈ outer.filterMap (·.frame))) h2 = g at *
  refine wpAny_handleBy_cons (codeAny_handlers_test (PySem.Calls.Name_function_global hk hx (PySem.Calls.loadGlobal_global (env := envX cn cs L a ccd cl) (show Heap.Ns _ mainGlobals _ from T'.keeps F2.keep) (mg_of (X.keeps bg) T' ex) ?_) (by decide))) (by intro q; cases q)
  have hcd : (clsIn (Mine.hd.heap_39 w.params) 45).map (fun c => (c.mro, c.hasDict)) = some ([.ref 45, .ref 32, .type "Exception", .type "BaseException", .type "object"], true) := by kernel_rfl
  obtain ⟨cd, hcc, hc2⟩ := Option.map_eq_some_iff.mp hcd
  obtain ⟨hmro, hdi⟩ := Prod.mk.inj hc2
  have LC : Looks (model prog w) h2 (classData 45) cd := looks_clsIn X' hcc
  have mr : Looks (model prog w) h2 (mroOf (.ref 45)) [.ref 45, .ref 32, .type "Exception", .type "BaseException", .type "object"] := hmro ▸ LC.andThen .now
  have ty : Looks (model prog w) h2 (typeOf (.ref e)) (.ref 45) := hc.1 ▸ (Looks.ld he).andThen .now
  have sB : Looks (model prog w) h2 (isSubtype (.ref 45) (.type "BaseException")) true := looks_mroIn X' (by kernel_rfl)
  have sS : Looks (model prog w) h2 (isSubtype (.ref 45) (.ref 45)) true := looks_mroIn X' (by kernel_rfl)
  have iT : Looks (model prog w) h2 (isInstance (.ref 45) (.type "tuple")) false := looks_instIn X' (by kernel_rfl)
  have isT : Looks (model prog w) h2 (isType (.ref 45)) true := by
    refine hideGoal fun G hG => ?_
    obtain ⟨oc, od, cdd, sl, hC, _⟩ := (excMakes_of (M := model prog w) X' (C := 45) (by kernel_rfl)).obj
    refine hG ?_
    clear hG G
    unfold isType
    exact (Looks.ld hC).andThen .now
  unfold excMatches isExcClass
  repeat lk
  refine codeAny_handlers_suite_as (fly_down (s := { s' with heap := h2 }) X2 fun h4 X4 U4 W4 => ?_)
  have F4 : Fr g L h4 m := ⟨U4.ns F2.ns, fun b o q => (mv b o q).elim (fun z => X4.stays b o z) fun z => W4 b o (F2.keep b o q) z, F2.above⟩
  refine hideGoal fun G hG => ?_
  obtain ⟨oe', vs', Tb', oT', ts', he', hc', hod', _⟩ := X4.there
  refine hG ?_
  clear hG G
  have N4 : News g L h4 ((e, oe') :: (dx, dictOf [⟨hs, .str "told" tk, .bytes ioe.toArray tv⟩] 1) :: news) := by
    intro q hq
    rcases List.mem_cons.mp hq with rfl | hq
    · exact ⟨he', (Nl _ (.head _)).2⟩
    · have z := Nl q (.tail _ hq)
      refine ⟨X4.stays _ _ ?_, z.2⟩
      rcases List.mem_cons.mp hq with rfl | hq
      · exact hd
      · exact (hn q hq).1
  refine storeX_L (s := { s' with heap := h4 }) F4 N4 (fun h5 F5 N5 => ?_) hk hlo
  exact k g h5 dx oe' hs tk tv vs' _ bg Bg og F5 N5 hc'.1 hc'.2 hod'
end

theorem Gone.sub {base h : Heap} {l : List Env} {e : Addr} {news news' : List (Addr × Obj)} (G : Gone base l e news h) (hs : ∀ p ∈ news', p ∈ news) : Gone base l e news' h :=
  let ⟨B, dx, hs', tk, tv, a, b, c, c2, c3⟩ := G; ⟨B, dx, hs', tk, tv, a, fun q hq => b q (hs q hq), c, c2, c3⟩

section
variable {M : Model} {A : Around} {E : Value → Shared → Prop} {s' : Shared} {base : Heap} {outer : List Env} {L e : Addr} {env : Env} {Q : Unit → Shared → Prop} {news : List (Addr × Obj)}
theorem note_gone (hfr : A.frames = some (env :: outer)) (hf : env.frame = some L) (R : Gone base (env :: outer) e news s'.heap)
    (hQ : ∀ h', GoneL base (env :: outer) e L news h' → s'.heap.UpToSlots h' → Q () { s' with heap := h' }) : wpAny M A (noteFrame (.ref e) env) Q E s' := by
  refine hideGoal fun G hG => ?_
  obtain ⟨B, dx, hs, tk, tv, hB, hn, X, hd, hdn⟩ := R
  refine hG ?_
  clear hG G
  exact fly_note hfr hf X fun h1 X1 U1 => hQ h1 ⟨B, dx, hs, tk, tv, hB, hn, X1, hd, hdn⟩ U1
theorem note_noted (hf : env.frame = some L) (R : GoneL base (env :: outer) e L news s'.heap) (hQ : Q () s') : wpAny M A (noteFrame (.ref e) env) Q E s' := by
  refine hideGoal fun G hG => ?_
  obtain ⟨B, dx, hs, tk, tv, hB, hn, X, hd, hdn⟩ := R
  refine hG ?_
  clear hG G
  refine hideGoal fun G hG => ?_
  obtain ⟨oe, vs, T, oT, ts, he, hc, hod, h1f, hT, hne, hTo, hTd, h3⟩ := X.there
  refine hG ?_
  clear hG G
  unfold noteFrame
  simp only [hf]
  refine wpAny_bind (wpAny_field he hod h1f ?_)
  rw [if_pos (show (Value.ref T != Value.none) = true from by simp)]
  refine wpAny_bind (wpAny_field hTo hTd h3 ?_)
  rw [if_pos (by simp)]
  exact wpAny_pure hQ
end
end
section
open PySem.Calls
section
variable {prog : Program} {w : World} {A : Around} {E : Value → Shared → Prop} {s : Shared} {env : Env}
inductive Inst45 (w : World) (E : Value → Shared → Prop) (v : Value) (s₁ : Shared) : Prop
  | mk (e oe vs) (h1 : v = .ref e) (h2 : s₁.heap.get? e = some oe) (h3 : oe.cls = .ref 45) (h4 : oe.data = .fields vs) (h5 : vs[1]? = some .none) (h6 : (Mine.hd.heap_39 w.params).In s₁.heap) (h7 : E (.ref e) s₁)
theorem r_raise {e0 : PySem.Expr} {pos : Pos} {Q : Flow → Shared → Prop} (hh : A.handled = none)
    (h : wpAny (model prog w) A (eval e0 env) (Inst45 w E) E s) :
    wpAny (model prog w) A (exec (.Raise (some e0) none pos) env) Q E s := by
  rw [arm_exec_Raise]
  rw [show evalOpt (some e0) env = some (eval e0 env) from rfl]
  refine wpAny_bind (wpAny_standAt ?_)
  unfold raiseStmt
  refine wpAny_bind (wpAny_bind (wpAny_mono h (fun v s₁ h₁ => ?_) fun _ _ x => x))
  obtain ⟨e, oe, vs, rfl, he, hc, hd, h1, X, hE⟩ := h₁
  obtain ⟨hp, g, d, tk, os⟩ := s₁
  dsimp only at he X
  have ty : Looks (model prog w) hp (typeOf (.ref e)) (.ref 45) := hc ▸ (Looks.ld he).andThen .now
  have iB : Looks (model prog w) hp (isInstance (.ref e) (.type "BaseException")) true := ty.andThen (looks_mroIn X (by kernel_rfl))
  obtain ⟨oc, od, oda, osl⟩ := oe
  dsimp only at hc hd
  subst hc hd
  have iT : Looks (model prog w) hp (isType (.ref e)) false := by
    unfold isType
    exact (Looks.ld he).andThen .now
  have f1 : Looks (model prog w) hp (field (.ref e) 1) .none := by
    intro A Q E s k q
    exact wpAny_field (k _ _ he) rfl h1 q
  unfold excFromValue isExcClass
  refine wpAny_bind (wpAny_standAt (wpAny_pure ?_))
  have hC0 : ((Mine.hd.heap_39 w.params).lookup 45).map (fun o => o.cls) = some (.type "type") := by kernel_rfl
  obtain ⟨o45, hl, hcl⟩ := Option.map_eq_some_iff.mp hC0
  have hC := X _ _ hl
  unfold setFlight raisedInstance
  repeat lk
  rw [hcl]
  repeat (first | exact wpAny_raiseNew_none hh hE | lk)
end

/-- the frame of a function that catches, called from a frame that has none below it -/
inductive LeaveC (h₀ : Heap) (L : Addr) (m : Str → Option Value) (R : Result → Shared → Prop) (v : Value) (s' : Shared) : Prop
  | mk (g L' m' news') (h1 : h₀.StaysIn g) (h2 : g.Ns L m) (h3 : Fr g L' s'.heap m') (h4 : News g L' s'.heap news') (h5 : (Fr h₀ L s'.heap m → News h₀ L s'.heap news' → R (.ok (.ret v)) s'))
def CallX (w : World) (loose : List Str) (mean : ExcName → Option Value) (mg mb : Str → Option Value) (lvl : Nat)
    (f : Value) (args : List Value) (news : List (Addr × Obj)) (Post : Value → List (Addr × Obj) → Prop) (PostE : List (Addr × Obj) → Prop) : Prop :=
  ∀ (dp un : Nat) (gd : Option (List Code)) (cn : Str) (cs : Scope) (a : Addr) (ccd : Value) (cl : List (Str × Addr)) (outer : List Env)
    (A₀ : Around) (base h₀ : Heap) (L : Addr) (m : Str → Option Value) (s : Shared) (Q E : Value → Shared → Prop),
    Below A₀ base outer h₀ → Fr h₀ L s.heap m → (Mine.hd.heap_39 w.params).In h₀ → News h₀ L s.heap news →
    Top Mine.hd.view_39 loose mean mg mb h₀ → cs.kind = .function →
    dp + lvl < recursionLimit → un + 8 * lvl < cLine →
    (∀ r news' h' tk', Fr h₀ L h' m → News h₀ L h' news' → Post r news' → Q r { s with heap := h', toks := tk' }) →
    (∀ e g₂ news' h' tk', Fr h₀ L g₂ m → g₂.UpToSlots h' → Gone base (envX cn cs L a ccd cl :: outer) e news' h' → PostE news' → E (.ref e) { s with heap := h', toks := tk' }) →
    wpAny (model PySem.Challenge.rw_nt0490_01.row.prog w) (ktrTop dp un gd cn cs L a ccd cl outer) (call f args) Q E s
/-- the exception of coding_fault, as it lies there -/
inductive faultPost (rest : List (Addr × Obj)) (r : Value) (news' : List (Addr × Obj)) : Prop
  | mk (x tp dx : Addr) (hs : Int) (tk tv : Tok) (h1 : r = .ref x) (h2 : dx ≠ x) (h3 : (∀ q ∈ rest, q.1 ≠ x)) (h4 : news' = (dx, dictOf [⟨hs, .str "told" tk, .bytes ioe.toArray tv⟩] 1) :: (x, { excObj 45 tp with dict := some dx }) :: rest)
end
section
open PySem.Calls
section
variable {prog : Program} {w : World} {A : Around} {s : Shared} {R : Result → Shared → Prop}
theorem codeC_func {body : List Stmt} {env : Env}
    (h : wpC (model prog w) (A.deeper env) (execs body env) (fun f s' => R (.ok (.ret (match f with | .ret v => v | _ => .none))) s')
      (fun e s' => wpAny (model prog w) (A.deeper env) (leaving env e) (fun _ s'' => R (.error e) s'') (fun e' s'' => R (.error e') s'') s') s) : codeC (model prog w) A (.func body env) R s := by
  refine codeC_of_tree rfl ?_
  show wpC _ (A.deeper env) (do point; match ← (execs body env).onRaise (leaving env) with | .ret v => ret v | _ => ret .none) _ _ s
  refine wpC_bind (wpC_point (wpC_bind (wpC_onRaise (wpC_mono h (fun f s' h' => ?_) fun _ _ h' => h'))))
  cases f <;> exact wpC_pure h'
theorem codeC_call_def {a : Addr} {o : Obj} {fd : FuncData} {body : List Stmt} {args : Args} {binds : List (Str × Value)}
    (hroom : A.depth < recursionLimit) (ho : s.heap.get? a = some o) (hdata : o.data = .func fd) (hlim : s.heap.NoLimit) (hcd : s.heap.CodeRec fd.code fd.qualname)
    (hbody : fd.body = .stmts body) (hbind : BindsTo s fd args binds)
    (hcell : ∀ x ∈ fd.scope.names, x.2 ≠ .cell) (hloc : ∀ x ∈ binds, fd.scope.names.lookup x.1 = some .local)
    (h : ∀ h₀, h₀.Ns s.heap.objs.size (fun x => binds.reverse.lookup x) → (∀ b o, s.heap.get? b = some o → h₀.get? b = some o) →
      wpC (model prog w) (A.deeper (callEnv fd s.heap.objs.size a)) (execs body (callEnv fd s.heap.objs.size a)) (fun f s' => R (.ok (.ret (match f with | .ret v => v | _ => .none))) s')
        (fun e s' => wpAny (model prog w) (A.deeper (callEnv fd s.heap.objs.size a)) (leaving (callEnv fd s.heap.objs.size a) e) (fun _ s'' => R (.error e) s'') (fun e' s'' => R (.error e') s'') s')
        { s with heap := h₀, toks := s.toks + binds.length })
    (hco : fd.scope.isCoroutine = false) (hgen : fd.scope.isGenerator = false) (hk : fd.scope.kind = .function) : codeC (model prog w) A (.call (.ref a) args) R s := by
  refine codeC_of_tree rfl (wpC_of_any ?_)
  show wpAny _ A.in1 (callAny (.ref a) args) _ _ s
  simp only [callAny]
  refine wpAny_bind (wpAny_load ho ?_)
  refine hideGoal fun G hG => ?_
  obtain ⟨c, oc, vs, tq, hc, hoc, hdc, hq⟩ := hcd
  refine hG ?_
  clear hG G
  simp only [hdata, callFunction, hco, hgen, hbody, hc]
  refine wpAny_bind (m := field (.ref c) 1) (wpAny_field hoc hdc hq (wpAny_bind (wpAny_pure ?_)))
  refine wpAny_bind (hbind _ _ _ _ (wpAny_bind ?_))
  refine wpAny_newFunctionEnv hcell hloc (fun h₀ hns₀ hsb₀ => ?_) hk
  refine wpAny_bind (wpAny_enterFrame (hlim.fresh _ hsb₀) hroom (wpAny_pure (And.intro rfl (codeC_func ?_))))
  rw [← hc]
  refine h h₀ hns₀ fun b o e => ?_
  exact hsb₀.extBut b o (Nat.ne_of_lt (Heap.lt_size e)) (Heap.get?_push_of_some _ e)
end
section
variable {w : World} {A A₀ : Around} {h : Heap} {gn : Array GenState} {dr : Drawn} {t : Nat} {os : OsState} {prog : Program} {K : Frag} {L : Addr} {h₀ base : Heap} {m mg mb : Str → Option Value} {news : List (Addr × Obj)} {p : Program} {loose : List Str} {mean : ExcName → Option Value}
    {env : Env} {outer : List Env} {R : Result → Shared → Prop} {name qual : Str} {params : Arguments} {body : List Stmt} {scope : Scope} {dV kV doc pm cdv ct oc : Value} {an od : Option Addr} {osl : Array (Option Value)} {f : Addr} {args : Args} {binds : List (Str × Value)}
theorem c_enter (B : Below A₀ base outer h₀) (F : Fr h₀ L h m) (X₀ : K.In h₀) (N : News h₀ L h news) (T : Top p loose mean mg mb h₀) (hA : A.frames = some (env :: outer)) (hf : env.frame = some L) (hke : env.scope.kind = .function)
    (ho : K.lookup f = some ⟨oc, od, .func (fnOf name qual params body scope dV kV doc pm an cdv ct), osl⟩) (hcd : codeIn K cdv qual = true) (hroom : A.depth < recursionLimit)
    (hbind : BindsTo ⟨h, gn, dr, t, os⟩ (fnOf name qual params body scope dV kV doc pm an cdv ct) args binds) (hloc : ∀ y ∈ binds, scope.names.lookup y.1 = some .local)
    (H : ∀ g L' h₁ t2, Fr h₀ L g m → Fr g L' h₁ (fun y => binds.reverse.lookup y) → News g L' h₁ news → Below A base (env :: outer) g → K.In g → Top p loose mean mg mb g →
      wpC (model prog w) (A.deeper (envOf qual scope L' f cdv)) (execs body (envOf qual scope L' f cdv))
        (fun fl s' => LeaveK h₀ L m g R (match fl with | .ret v => v | _ => .none) s')
        (fun e s' => wpAny (model prog w) (A.deeper (envOf qual scope L' f cdv)) (leaving (envOf qual scope L' f cdv) e) (fun _ s'' => R (.error e) s'') (fun e' s'' => R (.error e') s'') s')
        ⟨h₁, gn, dr, t2, os⟩)
    (hco : scope.isCoroutine = false) (hgen : scope.isGenerator = false) (hk : scope.kind = .function)
    (hcell : ∀ x ∈ scope.names, x.2 ≠ .cell) : codeC (model prog w) A (.call (.ref f) args) R ⟨h, gn, dr, t, os⟩ := by
  refine hideGoal fun G hG => ?_
  obtain ⟨FG, BG, st, lv⟩ := groundX (s := ⟨h, gn, dr, t, os⟩) (R := R) B F N hA hf hke
  refine hG ?_
  clear hG G
  refine codeC_call_def (fd := fnOf name qual params body scope dV kV doc pm an cdv ct) (body := body) (binds := binds) hroom ((X₀.keeps F.keep) _ _ ho) rfl (T.nolimit.keeps F.keep) (codeRec_of (X₀.keeps F.keep) hcd) rfl hbind hcell hloc (fun h₁ hns hk₁ => ?_) hco hgen hk
  exact wpC_mono (H _ h.objs.size h₁ _ FG ⟨hns, fun b o e => hk₁ b o (of_hideAll _ e), Nat.le_of_eq (hideAll_size _ _)⟩
    (fun p hp => ⟨hk₁ _ _ (N p hp).1, Nat.ne_of_lt (Heap.lt_size (N p hp).1), hideAll_none _ (List.mem_map_of_mem hp)⟩) BG (X₀.keeps st) (T.keeps st)) (fun fl s' hl => lv _ _ hl) fun _ _ y => y
theorem c_enterC (B : Below A₀ h₀ [] h₀) (F : Fr h₀ L h m) (X₀ : K.In h₀) (N : News h₀ L h news) (T : Top p loose mean mg mb h₀) (hA : A.frames = some [env]) (hf : env.frame = some L) (hke : env.scope.kind = .function)
    (ho : K.lookup f = some ⟨oc, od, .func (fnOf name qual params body scope dV kV doc pm an cdv ct), osl⟩) (hcd : codeIn K cdv qual = true) (hroom : A.depth < recursionLimit)
    (hbind : BindsTo ⟨h, gn, dr, t, os⟩ (fnOf name qual params body scope dV kV doc pm an cdv ct) args binds) (hloc : ∀ y ∈ binds, scope.names.lookup y.1 = some .local)
    (H : ∀ g L' h₁ t2, Fr h₀ L g m → Fr g L' h₁ (fun y => binds.reverse.lookup y) → News g L' h₁ news → Below A h₀ [env] g → K.In g → Top p loose mean mg mb g → h₀.StaysIn g →
      wpC (model prog w) (A.deeper (envOf qual scope L' f cdv)) (execs body (envOf qual scope L' f cdv))
        (fun fl s' => LeaveC h₀ L m R (match fl with | .ret v => v | _ => .none) s')
        (fun e s' => wpAny (model prog w) (A.deeper (envOf qual scope L' f cdv)) (leaving (envOf qual scope L' f cdv) e) (fun _ s'' => R (.error e) s'') (fun e' s'' => R (.error e') s'') s')
        ⟨h₁, gn, dr, t2, os⟩)
    (hco : scope.isCoroutine = false) (hgen : scope.isGenerator = false) (hk : scope.kind = .function)
    (hcell : ∀ x ∈ scope.names, x.2 ≠ .cell) : codeC (model prog w) A (.call (.ref f) args) R ⟨h, gn, dr, t, os⟩ := by
  refine hideGoal fun G hG => ?_
  obtain ⟨FG, BG, st, _⟩ := groundX (s := ⟨h, gn, dr, t, os⟩) (R := R) B F N hA hf hke
  refine hG ?_
  clear hG G
  refine codeC_call_def (fd := fnOf name qual params body scope dV kV doc pm an cdv ct) (body := body) (binds := binds) hroom ((X₀.keeps F.keep) _ _ ho) rfl (T.nolimit.keeps F.keep) (codeRec_of (X₀.keeps F.keep) hcd) rfl hbind hcell hloc (fun h₁ hns hk₁ => ?_) hco hgen hk
  refine wpC_mono (H _ h.objs.size h₁ _ FG ⟨hns, fun b o e => hk₁ b o (of_hideAll _ e), Nat.le_of_eq (hideAll_size _ _)⟩
    (fun p hp => ⟨hk₁ _ _ (N p hp).1, Nat.ne_of_lt (Heap.lt_size (N p hp).1), hideAll_none _ (List.mem_map_of_mem hp)⟩) BG (X₀.keeps st) (T.keeps st) st) (fun fl s' hl => ?_) fun _ _ y => y
  refine hideGoal fun G hG => ?_
  obtain ⟨g', L', m', news', hs, hn, F', N', k⟩ := hl
  refine hG ?_
  clear hG G
  refine k ⟨hn.keeps F'.keep, fun b o e => F'.keep b o (hs b o e), F.above⟩ fun p hp => ⟨(N' p hp).1, fun q => ?_, ?_⟩
  · refine hideGoal fun G hG => ?_
    obtain ⟨oL, es, ep, hL, _⟩ := hn
    refine hG ?_
    clear hG G
    have := (N' p hp).2.2; rw [q, hL] at this; cases this
  · cases q : h₀.get? p.1 with
    | none => rfl
    | some o => have := (N' p hp).2.2; rw [hs _ _ q] at this; cases this
end
end
section
-- free
open PySem.Calls PySem.Builtin PySem.Builtin.Bytes
theorem reg_Ba0 : True := by
  (k_with "L ck" => first | with_reducible refine c_exported ?_ | with_reducible refine wpC_bind ?_ | ((with_reducible show wpC _ _ _ _ _ _); dsimp only) | ((with_reducible show wpC _ _ (ite _ _ _) _ _ _); first | with_reducible refine c_ite1 (by first | rfl | decide) ?_ | with_reducible refine c_ite0 (by first | decide | (intro q; cases q; (try (revert q; intro _)))) ?_) | with_reducible refine wpC_holding ?_ | (with_reducible refine wpC_of_any ?_; lk) | lk)
  trivial
noncomputable abbrev baObj (b : List UInt8) : Obj := { cls := .type "bytearray", data := .bytearray b.toArray 0 }
section
variable {prog : Program} {w : World} {A : Around} {E : Value → Shared → Prop} {s : Shared} {R : Result → Shared → Prop}
theorem codeC_call_builtin {id : String} {args : Args} {b : Builtin} (hq : plainId id = true) (hbad : badCode (.builtin id args) = false) (hb : entryFor table id = some b)
    (h : wpAny (model prog w) A.in1 (checkBuiltinCall id args) (fun _ s₁ => wpC (model prog w) A.in1 (b args)
      (fun fin s' => match fin with | .done f => R (.ok f) s' | .again c' => c'.quiet = true ∧ codeC (model prog w) A c' R s') (fun e s' => R (.error e) s') s₁)
      (fun e s' => R (.error e) s') s) : codeC (model prog w) A (.call (.builtin id) args) R s := by
  refine codeC_of_tree rfl (wpC_of_any ?_)
  show wpAny _ A.in1 (do checkBuiltinCall id args; again (.builtin id args)) _ _ s
  refine wpAny_bind (wpAny_mono h (fun _ s₁ h₁ => wpAny_pure (And.intro (plainId_quiet hq args) (codeC_of_tree hbad ?_))) fun _ _ h' => h')
  show wpC _ _ (match entryFor table id with | some b => b args | none => unsupported ((withoutEnding? id "#data").getD id)) _ _ s₁
  rw [hb, Around.under_plainId hq args]; exact h₁
theorem codeC_builtin {id : String} {args : Args} {b : Builtin} (hbad : badCode (.builtin id args) = false) (hb : entryFor table id = some b)
    (h : wpC (model prog w) (A.under (.builtin id args)) (b args) (fun fin s' => match fin with | .done f => R (.ok f) s' | .again c' => c'.quiet = true ∧ codeC (model prog w) A c' R s') (fun e s' => R (.error e) s') s) :
    codeC (model prog w) A (.builtin id args) R s := by
  refine codeC_of_tree hbad ?_
  show wpC _ _ (match entryFor table id with | some b => b args | none => unsupported ((withoutEnding? id "#data").getD id)) _ _ s
  rw [hb]; exact h
theorem c_call_entry {T : String} {name : Str} {id : String} {b : Builtin} {self : Value} {rest : List Value} {Q : Value → Shared → Prop} (h : Slot T name id) (hT : s.TypeIs self T) (hbad : badIds.contains id = false)
    (hb : entryFor table id = some b) (ha : argsOk id ⟨self :: rest, []⟩) (hc : wpC (model prog w) A.in1 (b ⟨self :: rest, []⟩) (fun fin s' => ∃ v, fin = .done (.ret v) ∧ Q v s') E s) :
    wpC (model prog w) A (call (.builtin id) (self :: rest)) Q E s := by
  refine wpC_call (codeC_call_builtin h.plain hbad hb (h.check _ _ _ _ _ _ _ _ hT ha (wpC_mono hc (fun fin s' h' => ?_) fun _ _ h' => h')))
  obtain ⟨v, rfl, hv⟩ := h'; exact hv
theorem not_bad {id x : String} (hb : badIds.contains id = false) (hx : badIds.contains x = true) : id ≠ x := fun q => by rw [q, hx] at hb; cases hb
theorem ndite {c : Prop} [Decidable c] {x : c → Bool} {y : ¬c → Bool} (h : ¬c) (k : ¬ (y h = true)) : ¬ (dite c x y = true) := by rw [dif_neg h]; exact k
theorem c_exported {M : Model} {v : Value} {Q : Bool → Shared → Prop} (h : Q false s) : wpC M A (exported v) Q E s := by
  unfold exported
  refine wpC_bind (wpC_stack fun st hst => wpC_pure ?_)
  have e : ∀ x ∈ st, badCode x.1 = false := hst
  rw [List.any_eq_false.mpr ?_]
  · exact h
  · intro x hx
    have hb := e x hx
    obtain ⟨c, p⟩ := x
    cases c with
    | builtin id args =>
      obtain ⟨pos, kw⟩ := args
      replace hb : badIds.contains id = false := hb
      have h1 : decodersThatHold.contains id = false := by
        have : badIds.contains id = false := hb
        unfold badIds at this
        rw [List.contains_eq_any_beq, List.any_append, Bool.or_eq_false_iff] at this
        rw [List.contains_eq_any_beq]; exact this.1
      delta exported.match_1
      show ¬ (dite (id = "bytearray.__contains__") (_ : _ → Bool) _ = true)
      refine ndite (not_bad hb (by decide +kernel)) (ndite (not_bad hb (by decide +kernel)) (ndite (not_bad hb (by decide +kernel)) (ndite (not_bad hb (by decide +kernel)) (ndite (not_bad hb (by decide +kernel)) ?_))))
      cases pos with
      | nil => exact Bool.false_ne_true
      | cons a l =>
        show ¬ ((_ && decodersThatHold.contains id) = true)
        rw [h1, Bool.and_false]; exact Bool.false_ne_true
    | _ => exact Bool.false_ne_true
end
theorem slot_ba_append : Slot "bytearray" "append" "bytearray.append" := Slot.of (owner := "bytearray") (n := "append") (by rw [typeLookup_type, builtinLookup_eq_fast]; kernel_rfl) (by decide +kernel) (by decide +kernel) (by decide +kernel)
    (.inr (by decide +kernel)) (by rw [isSubtype_type]; kernel_rfl)
theorem entry_ba_append : entryFor table "bytearray.append" = some Builtin.«bytearray.append» := entryFor_of_fast (by kernel_rfl)
theorem args_ba_append (a b : Value) : argsOk "bytearray.append" ⟨[a, b], []⟩ := by unfold argsOk; kernel_rfl
theorem slot_ba_extend : Slot "bytearray" "extend" "bytearray.extend" := Slot.of (owner := "bytearray") (n := "extend") (by rw [typeLookup_type, builtinLookup_eq_fast]; kernel_rfl) (by decide +kernel) (by decide +kernel) (by decide +kernel)
    (.inr (by decide +kernel)) (by rw [isSubtype_type]; kernel_rfl)
theorem entry_ba_extend : entryFor table "bytearray.extend" = some Builtin.«bytearray.extend» := entryFor_of_fast (by kernel_rfl)
theorem args_ba_extend (a b : Value) : argsOk "bytearray.extend" ⟨[a, b], []⟩ := by unfold argsOk; kernel_rfl
section
variable {prog : Program} {w : World} {A : Around} {E : Value → Shared → Prop} {h : Heap} {g : Array GenState} {d : Drawn} {t : Nat} {os : OsState} {h₀ : Heap} {L : Addr} {m : Str → Option Value} {news news' : List (Addr × Obj)}
theorem c_asked {M : Model} {E : Value → Shared → Prop} {x : Addr} {b : List UInt8} {Q : Bool → Shared → Prop} (hx : h.get? x = some (baObj b)) (H : Q false ⟨h, g, d, t, os⟩) :
    wpC M A (exported (.ref x) <||> (do return (← exportsOf (.ref x)) > 0)) Q E ⟨h, g, d, t, os⟩ := by
  show wpC _ _ (exported (.ref x) >>= _) _ _ _
  refine wpC_bind (c_exported ?_)
  show wpC _ _ (exportsOf (.ref x) >>= _) _ _ _
  unfold exportsOf
  repeat walk_at "ck"
  exact H
theorem c_checkResize {M : Model} {x : Addr} {b : List UInt8} {Q : Unit → Shared → Prop} (hx : h.get? x = some (baObj b)) (H : Q () ⟨h, g, d, t, os⟩) : wpC M A (checkResize (.ref x)) Q E ⟨h, g, d, t, os⟩ := by
  unfold checkResize
  refine wpC_bind (c_asked hx ?_)
  exact wpC_pure H
theorem pastItsLine_ba {b : Array UInt8} {n : Nat} (h : b.size ≤ sizeLine) : (Data.bytearray b n).pastItsLine = none := if_neg (Nat.not_lt.mpr h)
theorem ba_upd {x : Addr} {b b' : List UInt8} {f : Obj → Obj} (F : Fr h₀ L h m) (N : News h₀ L h news) (U : Upd x (baObj b) (baObj b') news news') (e : f (baObj b) = baObj b') :
    Fr h₀ L (h.update x f) m ∧ News h₀ L (h.update x f) news' := by
  obtain ⟨pre, post, rfl, rfl, a, c⟩ := U.split
  exact news_upd F N a c e rfl
theorem c_append {x : Addr} {b : List UInt8} {i : Int} {tk : Tok} {Q : Value → Shared → Prop} (F : Fr h₀ L h m) (N : News h₀ L h news) (U : Upd x (baObj b) (baObj (b ++ [u8 i])) news news') (hi : 0 ≤ i) (hi2 : i < 256) (hz : b.length ≤ 100000)
    (H : ∀ h', Fr h₀ L h' m → News h₀ L h' news' → Q .none ⟨h', g, d, t, os⟩) :
    wpC (model prog w) A (call (.builtin "bytearray.append") [.ref x, .int i tk]) Q E ⟨h, g, d, t, os⟩ := by
  have hx : h.get? x = some (baObj b) := by
    obtain ⟨pre, post, e4, e5, a, c⟩ := U.split
    exact (N (x, baObj b) (by rw [e4]; simp)).1
  refine c_call_entry slot_ba_append ⟨_, hx, rfl⟩ (by decide +kernel) entry_ba_append (args_ba_append _ _) ?_
  have UB := ba_upd F N U (f := Obj.mapBytearray (·.push (u8 i))) (by simp [Obj.mapBytearray])
  unfold Builtin.«bytearray.append» byteValue
  repeat walk_at "ck"
  rw [if_neg (by simp only [Bool.or_eq_true, decide_eq_true_eq]; omega)]
  refine wpC_pure (wpC_bind (c_checkResize hx ?_))
  unfold write updateBytearray
  repeat walk_at "ck"
  show wpAny _ _ (updatePart x none _) _ _ _
  refine wpAny_updatePart hx (wpC_of_any (wpAny_lookBehind (Heap.get?_update_self _ hx (by rfl)) ?_ (wpC_pure ⟨_, rfl, H _ UB.1 UB.2⟩)))
  exact pastItsLine_ba (by simp only [Array.size_push, List.size_toArray, sizeLine_eq]; omega)
theorem sp_bytes (l : Array UInt8) (tk : Tok) : specialOf (.bytes l tk) "__buffer__" = pure (some (.builtin "bytes.__buffer__")) := by
  show typeLookup (.type "bytes") "__buffer__" = _
  rw [typeLookup_type, builtinLookup_eq_fast]; kernel_rfl
theorem so_bytes (l : Array UInt8) (tk : Tok) : slotIsOwn (.bytes l tk) "__buffer__" = pure true := by unfold slotIsOwn; rw [sp_bytes]; kernel_rfl
theorem sr_bytes (l : Array UInt8) (tk : Tok) : specialOf (.bytes l tk) "__release_buffer__" = pure none := by
  show typeLookup (.type "bytes") "__release_buffer__" = _
  rw [typeLookup_type, builtinLookup_eq_fast]; kernel_rfl
theorem sl_bytes (l : Array UInt8) (tk : Tok) : ownRelease (.bytes l tk) = pure false := by
  unfold ownRelease slotIsOwn; rw [sr_bytes]; kernel_rfl
theorem bf_bytes (id : String) (l : Array UInt8) (tk : Tok) (full : Bool) : buffer? id (.bytes l tk) full = pure (some l) := by
  unfold buffer?
  rw [sp_bytes, so_bytes, sl_bytes]
  cases full <;> kernel_rfl
theorem take_bytes {l : Array UInt8} {tk : Tok} {id : String} {Q : Option (Array UInt8 × Option Value) → Shared → Prop} (H : Q (some (l, none)) ⟨h, g, d, t, os⟩) :
    wpAny (model prog w) A (takeBufferQuiet? id (.bytes l tk) 0) Q E ⟨h, g, d, t, os⟩ := by
  unfold takeBufferQuiet?
  refine wpAny_bind (wpAny_attempt ?_)
  unfold takeBuffer?
  rw [sp_bytes, so_bytes, bf_bytes]
  exact wpAny_pure (wpAny_pure H)
theorem reg_Ba1 : True := by
  (k_with "L ck" => ((with_reducible show wpC _ _ (takeBufferQuiet? _ _ _) _ _ _); refine wpC_of_any (take_bytes ?_)))
  trivial
theorem c_addEnd {x : Addr} {b l : List UInt8} {tr : Sem Fin} {Q : Value → Shared → Prop} (F : Fr h₀ L h m) (N : News h₀ L h news) (U : Upd x (baObj b) (baObj (b ++ l)) news news') (hz : b.length + l.length ≤ 100000)
    (H : ∀ h', Fr h₀ L h' m → News h₀ L h' news' → Q .none ⟨h', g, d, t, os⟩)
    (e : tr = (do
      if !l.toArray.isEmpty then checkResize (.ref x)
      write (.ref x) (· ++ l.toArray)
      ret .none)) :
    wpC (model prog w) A tr (fun fin s' => ∃ v, fin = .done (.ret v) ∧ Q v s') E ⟨h, g, d, t, os⟩ := by
  have hx : h.get? x = some (baObj b) := by
    obtain ⟨pre, post, e4, e5, a, c⟩ := U.split
    exact (N (x, baObj b) (by rw [e4]; simp)).1
  have UB := ba_upd F N U (f := Obj.mapBytearray (· ++ l.toArray)) (by simp [Obj.mapBytearray])
  subst e
  have last : wpC (model prog w) A (write (.ref x) (· ++ l.toArray) >>= fun _ => ret .none) (fun fin s' => ∃ v, fin = .done (.ret v) ∧ Q v s') E ⟨h, g, d, t, os⟩ := by
    refine wpC_bind ?_
    unfold write updateBytearray
    repeat walk_at "ck"
    show wpAny _ _ (updatePart x none _) _ _ _
    refine wpAny_updatePart hx (wpC_of_any (wpAny_lookBehind (Heap.get?_update_self _ hx (by rfl)) ?_ (wpC_pure ⟨_, rfl, H _ UB.1 UB.2⟩)))
    exact pastItsLine_ba (by simp only [Array.size_append, List.size_toArray, sizeLine_eq]; omega)
  cases hl : l.toArray.isEmpty
  · exact wpC_bind (c_checkResize hx last)
  · exact last
theorem c_extend {x : Addr} {b l : List UInt8} {tk : Tok} {Q : Value → Shared → Prop} (F : Fr h₀ L h m) (N : News h₀ L h news) (U : Upd x (baObj b) (baObj (b ++ l)) news news') (hz : b.length + l.length ≤ 100000)
    (H : ∀ h', Fr h₀ L h' m → News h₀ L h' news' → Q .none ⟨h', g, d, t, os⟩) :
    wpC (model prog w) A (call (.builtin "bytearray.extend") [.ref x, .bytes l.toArray tk]) Q E ⟨h, g, d, t, os⟩ := by
  have hx : h.get? x = some (baObj b) := by
    obtain ⟨pre, post, e4, e5, a, c⟩ := U.split
    exact (N (x, baObj b) (by rw [e4]; simp)).1
  refine c_call_entry slot_ba_extend ⟨_, hx, rfl⟩ (by decide +kernel) entry_ba_extend (args_ba_extend _ _) ?_
  unfold Builtin.«bytearray.extend»
  repeat (first | (with_reducible rw [sp_bytes]) | (refine c_addEnd F N U hz H ?_; rfl) | walk_at "ck")
end
end
section
-- free
open PySem.Calls PySem.Builtin PySem.Builtin.Bytes
theorem reg_Ba20 : True := by
  (k_with "L ck" => first | with_reducible refine c_exported ?_ | with_reducible refine wpC_bind ?_ | ((with_reducible show wpC _ _ _ _ _ _); dsimp only) | ((with_reducible show wpC _ _ (ite _ _ _) _ _ _); first | with_reducible refine c_ite1 (by first | rfl | decide) ?_ | with_reducible refine c_ite0 (by first | decide | (intro q; cases q; (try (revert q; intro _)))) ?_) | with_reducible refine wpC_holding ?_ | (with_reducible refine wpC_of_any ?_; lk) | lk)
  trivial
section
variable {prog : Program} {w : World} {A : Around} {E : Value → Shared → Prop} {h : Heap} {g : Array GenState} {d : Drawn} {t : Nat} {os : OsState} {h₀ : Heap} {L : Addr} {m : Str → Option Value} {news news' : List (Addr × Obj)}
theorem owner_ba : ("bytearray.__new__".splitOn ".__new__").headD "" = "bytearray" := by simp +decide [String.splitOn, String.splitOnAux]
theorem ba_sub : isSubtype (.type "bytearray") (.type "bytearray") = pure true := by rw [isSubtype_type]; kernel_rfl
theorem ba_newcall : checkBuiltinCall "bytearray.__new__" ⟨[.type "bytearray"], []⟩ = pure () := by kernel_rfl
theorem entry_ba_new : entryFor table "bytearray.__new__" = some Builtin.«list.__new__» := entryFor_alias (id' := "list.__new__") (by kernel_rfl) (by first | rfl | decide +kernel) (by decide +kernel) (by kernel_rfl)
theorem code_ba_new {Q₁ : Value → Shared → Prop} (H : Q₁ (.ref h.objs.size) ⟨h.push (baObj []), g, d, t, os⟩) :
    codeAny (model prog w) A (.call (.builtin "bytearray.__new__") ⟨[.type "bytearray"], []⟩) (wants Q₁ E) ⟨h, g, d, t, os⟩ := by
  refine codeAny_of_tree ?_
  show wpAny _ A.in1 (do checkBuiltinCall "bytearray.__new__" ⟨[.type "bytearray"], []⟩; again (.builtin "bytearray.__new__" ⟨[.type "bytearray"], []⟩)) _ _ _
  refine wpAny_bind (wpAny_of_eq ba_newcall (wpAny_pure ⟨plainId_quiet (by decide +kernel) _, codeAny_builtin_stack (b := Builtin.«list.__new__») entry_ba_new rfl fun p st => ?_⟩))
  rw [Around.under_plainId (by decide +kernel) _]
  have hsub := ba_sub
  have hown := owner_ba
  simp only [hown]
  wp_walk
  exact H
theorem slot_ba_init : Slot "bytearray" "__init__" "bytearray.__init__" := Slot.of (owner := "bytearray") (n := "__init__") (by rw [typeLookup_type, builtinLookup_eq_fast]; kernel_rfl) (by decide +kernel) (by decide +kernel) (by decide +kernel)
    (.inl (by decide +kernel)) ba_sub
theorem entry_ba_init : entryFor table "bytearray.__init__" = some Builtin.«bytearray.__init__» := entryFor_of_fast (by kernel_rfl)
theorem args_ba_init (a : Value) : argsOk "bytearray.__init__" ⟨[a], []⟩ := by unfold argsOk; kernel_rfl
theorem ba_rel : typeLookup (.type "bytearray") "__release_buffer__" = pure (some (.builtin "bytearray.__release_buffer__")) := by rw [typeLookup_type, builtinLookup_eq_fast]; kernel_rfl
theorem ba_release {M : Model} {x : Addr} {b : List UInt8} (hx : h.get? x = some (baObj b)) : Looks M h (ownRelease (.ref x)) false := by
  have ty : Looks M h (typeOf (.ref x)) (.type "bytearray") := (Looks.ld hx).andThen .now
  have li := ba_rel
  have e1 : ("bytearray.__release_buffer__").endsWith ("." ++ "__release_buffer__") = true := by decide +kernel
  have e2 : ("bytearray.__release_buffer__").dropRight ("__release_buffer__".length + 1) = "bytearray" := by decide +kernel
  intro A Q E s k q
  unfold ownRelease slotIsOwn specialOf
  refine wpAny_bind (wpAny_bind (wpAny_bind (ty A _ E s k ?_)))
  rw [li]
  refine wpAny_pure ?_
  dsimp only
  rw [e1, e2]
  refine wpAny_isInstance (s := s) ⟨_, k _ _ hx, rfl⟩ ba_sub ?_
  exact wpAny_pure q
theorem ba_binds : bindOptional "bytearray.__init__" "bytearray" ["source", "encoding", "errors"] [] [] = pure [none, none, none] := by kernel_rfl
theorem c_new {Q : Value → Shared → Prop} (F : Fr h₀ L h m) (N : News h₀ L h news)
    (H : ∀ x h', Fr h₀ L h' m → News h₀ L h' ((x, baObj []) :: news) → (∀ p ∈ news, p.1 < x) → Q (.ref x) ⟨h', g, d, t, os⟩) :
    wpC (model prog w) A (call (.type "bytearray") []) Q E ⟨h, g, d, t, os⟩ := by
  refine wpC_call (codeC_of_tree rfl ?_)
  show wpC _ _ (callAny (.type "bytearray") _) _ _ _
  refine wpC_of_any (wpAny_pure ⟨Code.quiet_builtin _ (by decide +kernel), codeC_builtin (by decide +kernel) entry_typeCall ?_⟩)
  rw [Around.under_plain (weight_type_call_type "bytearray" [] []) rfl]
  have hct : checkTypeCall "bytearray" ⟨[], []⟩ = pure () := by kernel_rfl
  have h1 : (Value.type "bytearray" == Value.type "type") = false := by decide +kernel
  have h2 : ((Manifest.find? "bytearray").bind (·.mro.findSome? fun t => (Manifest.find? t).bind fun b => if b.noNew then some true else if b.attrs.any (·.1 == "__new__") then some false else none)).getD false = false := by decide +kernel
  have hmro : mroOf (.type "bytearray") = pure [.type "bytearray", .type "object"] := by rw [mroOf_type]; kernel_rfl
  have hnew : typeLookup (.type "bytearray") "__new__" = pure (some (.builtin "bytearray.__new__")) := by rw [typeLookup_type, builtinLookup_eq_fast]; kernel_rfl
  have hmade : Bind.madeBy (.type "bytearray") = pure (some "bytearray.__new__") := madeBy_type hmro hnew (by decide +kernel)
  unfold Builtin.«type.__call__»
  dsimp only
  rw [if_neg (by rw [h1]; exact Bool.false_ne_true), if_neg (by rw [h2]; exact Bool.false_ne_true), hct, hmro, hmade]
  refine wpC_bind (wpC_pure (wpC_bind (wpC_pure ?_)))
  refine c_ite0 (by decide) ?_
  refine wpC_bind (wpC_pure ?_)
  dsimp only
  refine wpC_bind (wpC_pure (wpC_bind (wpC_holding (wpC_call (codeC_of_any (code_ba_new ?_))))))
  have hx : (h.push (baObj [])).get? h.objs.size = some (baObj []) := Heap.get?_push_size h rfl
  have hT : (⟨h.push (baObj []), g, d, t, os⟩ : Shared).TypeIs (.ref h.objs.size) "bytearray" := ⟨_, hx, rfl⟩
  refine wpC_bind (wpC_of_any (wpAny_isInstance hT ba_sub ?_))
  refine c_ite0 (by decide) ?_
  refine wpC_bind (wpC_holding ?_)
  unfold callSpecial? specialOf
  have ty : Looks (model prog w) (h.push (baObj [])) (typeOf (.ref h.objs.size)) (.type "bytearray") := (Looks.ld hx).andThen .now
  have li := slot_ba_init.lookup
  have bi := slot_ba_init.bind (.ref h.objs.size)
  refine wpC_bind (wpC_bind (wpC_of_any (ty.here ?_)))
  rw [li]
  refine wpC_pure ?_
  dsimp only
  rw [bi]
  refine wpC_holding (wpC_bind (wpC_pure (wpC_bind ?_)))
  refine c_call_entry slot_ba_init hT (by decide +kernel) entry_ba_init (args_ba_init _) ?_
  have F1 := F.push (baObj [])
  have N1 := N.push F (baObj [])
  have U1 := ba_upd (b' := []) F1 N1 (.head fun p hp => Nat.ne_of_lt (Heap.lt_size (N p hp).1)) (f := Obj.mapBytearray (fun _ => #[])) (by rfl)
  unfold Builtin.«bytearray.__init__»
  dsimp only [List.nil_append, List.append_nil]
  refine wpC_bind (wpC_of_any ((ba_release hx).here ?_))
  refine c_ite0 (by decide) ?_
  have bo := ba_binds
  show wpC _ _ (bindOptional "bytearray.__init__" "bytearray" ["source", "encoding", "errors"] [] [] >>= _) _ _ _
  rw [bo]
  refine wpC_bind (wpC_pure ?_)
  dsimp only
  refine wpC_bind (m := checkCodecArg _ _ _ none) (wpC_pure (wpC_bind (m := checkCodecArg _ _ _ none) (wpC_pure (wpC_bind (c_asked hx ?_)))))
  refine c_ite0 (by decide) ?_
  refine wpC_bind ?_
  unfold write updateBytearray
  repeat walk_at "ck"
  show wpAny _ _ (updatePart h.objs.size none _) _ _ _
  refine wpAny_updatePart hx (wpC_of_any (wpAny_lookBehind (Heap.get?_update_self _ hx (by rfl)) (by rfl) ?_))
  refine wpC_pure ⟨_, rfl, wpC_pure ?_⟩
  exact wpC_pure (H _ _ U1.1 U1.2 fun p hp => Heap.lt_size (N p hp).1)
end
end
section
/-! bytes(bytes), bytes(bytearray) -/
open PySem.Calls PySem.Builtin PySem.Builtin.Bytes
theorem bb_no_bytes : typeLookup (.type "bytearray") "__bytes__" = pure none := by rw [typeLookup_type, builtinLookup_eq_fast]; kernel_rfl
theorem bb_no_index : typeLookup (.type "bytearray") "__index__" = pure none := by rw [typeLookup_type, builtinLookup_eq_fast]; kernel_rfl
theorem bb_buffer : typeLookup (.type "bytearray") "__buffer__" = pure (some (.builtin "bytearray.__buffer__")) := by rw [typeLookup_type, builtinLookup_eq_fast]; kernel_rfl
theorem bb_bytes : typeLookup (.type "bytes") "__bytes__" = pure (some (.builtin "bytes.__bytes__")) := by rw [typeLookup_type, builtinLookup_eq_fast]; kernel_rfl
section
variable {prog : Program} {w : World} {A : Around} {E : Value → Shared → Prop} {Q : Value → Shared → Prop} {h : Heap} {g : Array GenState} {d : Drawn} {t : Nat} {os : OsState}
theorem bb_new {x : Addr} {b : List UInt8} {Q₁ : Value → Shared → Prop} (hx : h.get? x = some (baObj b)) (hz : b.length ≤ 100000) (H : ∀ t1 t2, Q₁ (.bytes b.toArray t1) ⟨h, g, d, t2, os⟩) :
    codeAny (model prog w) A (.call (.builtin "bytes.__new__") ⟨[.type "bytes", .ref x], []⟩) (wants Q₁ E) ⟨h, g, d, t, os⟩ := by
  refine codeAny_of_tree ?_
  show wpAny _ A.in1 (do checkBuiltinCall "bytes.__new__" ⟨[.type "bytes", .ref x], []⟩; again (.builtin "bytes.__new__" ⟨[.type "bytes", .ref x], []⟩)) _ _ _
  refine wpAny_bind (wpAny_of_eq (PySem.F.bm_newCall _) (wpAny_pure ⟨plainId_quiet PySem.F.bm_plain _, codeAny_builtin PySem.F.bm_entry ?_⟩))
  rw [Around.under_plainId PySem.F.bm_plain _]
  have hT : (⟨h, g, d, t, os⟩ : Shared).TypeIs (.ref x) "bytearray" := ⟨_, hx, rfl⟩
  have e1 : ("bytearray.__buffer__").endsWith ("." ++ "__buffer__") = true := by decide +kernel
  have e2 : ("bytearray.__buffer__").dropRight ("__buffer__".length + 1) = "bytearray" := by decide +kernel
  unfold Builtin.«bytes.__new__»
  refine wpAny_bind (wpAny_of_eq (a := true) rfl ?_)
  refine bm_if_false rfl ?_
  refine wpAny_bind (wpAny_of_eq PySem.F.bm_sub ?_)
  refine bm_if_false rfl ?_
  refine wpAny_bind (wpAny_of_eq (PySem.F.bm_bind _) ?_)
  refine wpAny_bind (wpAny_of_eq (a := ()) rfl ?_)
  refine wpAny_bind (wpAny_of_eq (a := ()) rfl ?_)
  refine bm_if_false rfl ?_
  refine wpAny_bind (wpAny_specialOf hT bb_no_bytes ?_)
  refine wpAny_bind (wpAny_bind ?_)
  show wpAny _ _ (load x >>= _) _ _ _
  refine wpAny_bind (wpAny_load hx ?_)
  refine wpAny_pure (wpAny_pure ?_)
  refine bm_if_false rfl ?_
  refine wpAny_bind (wpAny_specialOf hT bb_no_index ?_)
  refine bm_if_true rfl ?_
  first
    | show wpAny _ _ (Builtin.Bytes.buffer? "bytes.__new__" (.ref x) true >>= _) _ _ _
    | (refine wpAny_bind ?_; show wpAny _ _ (Builtin.Bytes.buffer? "bytes.__new__" (.ref x) true >>= _) _ _ _)
  refine wpAny_bind ?_
  unfold Builtin.Bytes.buffer?
  refine wpAny_bind (wpAny_specialOf hT bb_buffer ?_)
  (try dsimp only)
  refine wpAny_bind ?_
  unfold slotIsOwn
  refine wpAny_bind (wpAny_specialOf hT bb_buffer ?_)
  (try dsimp only)
  rw [e1, e2]
  refine wpAny_isInstance hT ba_sub ?_
  refine bm_if_false rfl ?_
  refine wpAny_bind (wpAny_specialOf hT bb_buffer ?_)
  (try dsimp only)
  refine wpAny_bind ((ba_release hx).here ?_)
  refine bm_if_false rfl ?_
  refine wpAny_bind ?_
  unfold payload payload?
  refine wpAny_bind (wpAny_bind (wpAny_load hx ?_))
  refine wpAny_pure (wpAny_pure (wpAny_pure ?_))
  dsimp only
  refine wpAny_bind (wpAny_rule (wpAny_bind ?_))
  unfold mkBytes
  rw [if_neg (by rw [List.size_toArray, sizeLine_eq]; omega)]
  refine wpAny_bind (wpAny_fresh (wpAny_pure ?_))
  exact wpAny_pure (H _ _)
theorem bb_newB {b : Array UInt8} {tb : Tok} {Q₁ : Value → Shared → Prop} (H : Q₁ (.bytes b tb) ⟨h, g, d, t, os⟩) :
    codeAny (model prog w) A (.call (.builtin "bytes.__new__") ⟨[.type "bytes", .bytes b tb], []⟩) (wants Q₁ E) ⟨h, g, d, t, os⟩ := by
  refine codeAny_of_tree ?_
  show wpAny _ A.in1 (do checkBuiltinCall "bytes.__new__" ⟨[.type "bytes", .bytes b tb], []⟩; again (.builtin "bytes.__new__" ⟨[.type "bytes", .bytes b tb], []⟩)) _ _ _
  refine wpAny_bind (wpAny_of_eq (PySem.F.bm_newCall _) (wpAny_pure ⟨plainId_quiet PySem.F.bm_plain _, codeAny_builtin PySem.F.bm_entry ?_⟩))
  rw [Around.under_plainId PySem.F.bm_plain _]
  unfold Builtin.«bytes.__new__»
  refine wpAny_bind (wpAny_of_eq (a := true) rfl ?_)
  refine bm_if_false rfl ?_
  refine wpAny_bind (wpAny_of_eq PySem.F.bm_sub ?_)
  refine bm_if_false rfl ?_
  refine wpAny_bind (wpAny_of_eq (PySem.F.bm_bind _) ?_)
  refine wpAny_bind (wpAny_of_eq (a := ()) rfl ?_)
  refine wpAny_bind (wpAny_of_eq (a := ()) rfl ?_)
  refine bm_if_false rfl ?_
  refine wpAny_bind (wpAny_specialOf (typeIs_bytes _ b tb) bb_bytes ?_)
  dsimp only
  refine wpAny_bind (wpAny_rule (wpAny_bind (wpAny_of_eq (a := Value.type "bytes") rfl ?_)))
  refine bm_if_true (by decide +kernel) ?_
  exact wpAny_pure H
theorem r_bytesBa {x : Addr} {b : List UInt8} (hx : h.get? x = some (baObj b)) (hz : b.length ≤ 100000) (H : ∀ t1 t2, Q (.bytes b.toArray t1) ⟨h, g, d, t2, os⟩) :
    wpAny (model prog w) A (call (.type "bytes") [.ref x]) Q E ⟨h, g, d, t, os⟩ := by
  refine callType_codes (Q₁ := fun obj s₁ => s₁.TypeIs obj "bytes" ∧ Q obj s₁) PySem.F.bm_called (PySem.F.bm_typeCall _) PySem.F.entry_object_init
    (bb_new hx hz fun t1 t2 => ⟨typeIs_bytes _ _ _, H t1 t2⟩) fun obj s₁ h₁ => ?_
  exact ⟨h₁.1, PySem.F.args_object_init_2 obj _, object_init_meets PySem.F.bm_called.init.lookup PySem.F.bm_called.made (by decide) prog w A.in1 _ s₁ ⟨h₁.1, rfl, h₁.2⟩⟩
theorem r_bytesB {b : Array UInt8} {tb : Tok} (H : Q (.bytes b tb) ⟨h, g, d, t, os⟩) :
    wpAny (model prog w) A (call (.type "bytes") [.bytes b tb]) Q E ⟨h, g, d, t, os⟩ := by
  refine callType_codes (Q₁ := fun obj s₁ => s₁.TypeIs obj "bytes" ∧ Q obj s₁) PySem.F.bm_called (PySem.F.bm_typeCall _) PySem.F.entry_object_init
    (bb_newB ⟨typeIs_bytes _ _ _, H⟩) fun obj s₁ h₁ => ?_
  exact ⟨h₁.1, PySem.F.args_object_init_2 obj _, object_init_meets PySem.F.bm_called.init.lookup PySem.F.bm_called.made (by decide) prog w A.in1 _ s₁ ⟨h₁.1, rfl, h₁.2⟩⟩
end
end
section
open PySem.Calls
section
variable {M : Model} {A : Around} {E : Value → Shared → Prop} {s : Shared} {env : Env}
theorem wpC_operate {vs : List Value} {m : Sem Value} {Q : Value → Shared → Prop} (h : wpC M A m Q E s) : wpC M A (operate vs m) Q E s := fun Γ p hΓ hC => by
  simp only [Sem.wp_operate]; exact h Γ p hΓ hC
theorem c_nil {Q : Flow → Shared → Prop} (h : Q .next s) : wpC M A (execs [] env) Q E s := wpC_of_any (wpAny_execs_nil h)
theorem c_cons {st rest} {Q : Flow → Shared → Prop} (h : wpC M A (exec st env) (fun f s' => match f with | .next => wpC M A (execs rest env) Q E s' | f => Q f s') E s) : wpC M A (execs (st :: rest) env) Q E s := by
  rw [execs_cons]
  refine wpC_bind (wpC_mono h (fun f s' h' => ?_) fun _ _ x => x)
  cases f <;> first | exact h' | exact wpC_pure h'
theorem c_consL {st rest} {Q : Flow → Shared → Prop}
    (h : let Q' : Flow → Shared → Prop := fun f s' => match f with | .next => wpC M A (execs rest env) Q E s' | f => Q f s'; wpC M A (exec st env) Q' E s) : wpC M A (execs (st :: rest) env) Q E s := c_cons h
theorem ofA_isTrue {e whole} {Q : Bool → Shared → Prop} (h : wpAny M A (isTrue e env whole) Q E s) : wpC M A (isTrue e env whole) Q E s := wpC_of_any h
theorem ofA_exec {st} {Q : Flow → Shared → Prop} (h : wpAny M A (exec st env) Q E s) : wpC M A (exec st env) Q E s := wpC_of_any h
theorem ofA_eval {e} {Q : Value → Shared → Prop} (h : wpAny M A (eval e env) Q E s) : wpC M A (eval e env) Q E s := wpC_of_any h
theorem ofA_call {f pos kw} {Q : Value → Shared → Prop} (h : wpAny M A (call f pos kw) Q E s) : wpC M A (call f pos kw) Q E s := wpC_of_any h
theorem c_If {test body orelse pos} {Q : Flow → Shared → Prop}
    (h : wpC M A (isTrue test env (eval test env)) (fun b s₂ => if b then wpC M A (execs body env) Q E s₂ else wpC M A (execs orelse env) Q E s₂) E s) : wpC M A (exec (.If test body orelse pos) env) Q E s := by
  rw [arm_exec_If]
  refine wpC_bind (wpC_standAt (wpC_bind (wpC_mono h (fun b s' h' => ?_) fun _ _ x => x)))
  cases b <;> exact h'
theorem c_Return {e pos} {Q : Flow → Shared → Prop} (h : wpC M A (eval e env) (fun v => Q (.ret v)) E s) : wpC M A (exec (.Return (some e) pos) env) Q E s := by
  rw [arm_exec_Return]
  exact wpC_bind (wpC_standAt (wpC_bind (wpC_mono h (fun v s' h' => wpC_pure h') fun _ _ x => x)))
theorem c_Assign {x pos' value pos} {Q : Flow → Shared → Prop} (h : wpC M A (eval value env) (fun v s₁ => wpAny M A (storeName env x v) (fun _ => Q .next) E s₁) E s)
    (hs : swapsWith value (some (.Name x pos')) pos.line env = pure false := by with_unfolding_all rfl) : wpC M A (exec (.Assign [.Name x pos'] value pos) env) Q E s := fun Γ p hΓ hC => by
  simp only [exec_Assign_Name env x pos' value pos hs, Sem.wp_bind', Sem.wp_cmd_standAt, Sem.wp_bindName, Sem.wp_pure']
  exact Sem.wp_mono M Γ _ (fun v _ s₁ h₁ => h₁ Γ _ hΓ) (fun _ _ _ h' => h') _ _ (h Γ _ hΓ hC.at)
theorem c_AssignA {o attr pos' value pos} {Q : Flow → Shared → Prop}
    (h : wpC M A (eval value env) (fun v s₁ => wpAny M A (eval o env) (fun ov s₂ => wpAny M A (setAttr ov attr v) (fun _ => Q .next) E s₂) E s₁) E s)
    (hs : swapsWith value (some (.Attribute o attr pos')) pos.line env = pure false := by with_unfolding_all rfl) : wpC M A (exec (.Assign [.Attribute o attr pos'] value pos) env) Q E s := fun Γ p hΓ hC => by
  simp only [plainObj_exec_Assign_Attribute o attr pos' value pos hs, assign_Attribute, Sem.wp_bind', Sem.wp_holding, Sem.wp_cmd_standAt, Sem.wp_release, Sem.wp_pure']
  exact Sem.wp_mono M Γ _ (fun v p₁ s₁ h₁ => Sem.wp_mono M Γ _ (fun ov _ s₂ h₂ => h₂ Γ _ hΓ) (fun _ _ _ h' => h') _ _ (h₁ Γ p₁ hΓ)) (fun _ _ _ h' => h') _ _ (h Γ _ hΓ hC.at)
theorem c_BinOp {l op r pos} {Q : Value → Shared → Prop} (h : wpC M A (eval l env) (fun a s₁ => wpC M A (eval r env) (fun b s₂ => wpAny M A (binaryOp op a b) Q E s₂) E s₁) E s) :
    wpC M A (eval (.BinOp l op r pos) env) Q E s := by
  rw [arm_eval_BinOp]
  exact wpC_bind (wpC_mono h (fun a s₁ h₁ => wpC_bind (wpC_holding (wpC_mono h₁ (fun b s₂ h₂ => wpC_bind (wpC_standAt (wpC_operate (wpC_of_any h₂)))) fun _ _ x => x))) fun _ _ x => x)
theorem c_Compare {l op r pos} {Q : Value → Shared → Prop} (h : wpC M A (eval l env) (fun a s₁ => wpC M A (eval r env) (fun b s₂ => wpAny M A (compareOp op a b) Q E s₂) E s₁) E s)
    (hm : behindInMarks op r = false := by with_unfolding_all rfl) : wpC M A (eval (.Compare l [op] [r] pos) env) Q E s := fun Γ p hΓ hC => by
  simp only [eval_Compare1, markedBehindIn_of_false hm, Sem.wp_bind', Sem.wp_holding, Sem.wp_cmd_standAt, Sem.wp_operate]
  exact Sem.wp_mono M Γ _ (fun a p₁ s₁ h₁ => Sem.wp_mono M Γ _ (fun b _ s₂ h₂ => h₂ Γ _ hΓ) (fun _ _ _ h' => h') _ _ (h₁ Γ p₁ hΓ hC.at)) (fun _ _ _ h' => h') _ _ (h Γ p hΓ hC)
theorem c_isTrue {l op r pos whole} {Q : Bool → Shared → Prop}
    (h : wpC M A (eval l env) (fun a s₁ => wpC M A (eval r env) (fun b s₂ => wpAny M A (compareOp op a b) (fun c s₃ => wpAny M A (truthy c) Q E s₃) E s₂) E s₁) E s)
    (hm : behindInMarks op r = false := by with_unfolding_all rfl) : wpC M A (isTrue (.Compare l [op] [r] pos) env whole) Q E s := fun Γ p hΓ hC => by
  simp only [isTrue_Compare1, markedBehindIn_of_false hm, Sem.wp_bind', Sem.wp_holding, Sem.wp_cmd_standAt, Sem.wp_operate]
  exact Sem.wp_mono M Γ _ (fun a p₁ s₁ h₁ => Sem.wp_mono M Γ _ (fun b _ s₂ h₂ => Sem.wp_mono M Γ _ (fun c p₃ s₃ h₃ => h₃ Γ p₃ hΓ)
    (fun _ _ _ h' => h') _ _ (h₂ Γ _ hΓ)) (fun _ _ _ h' => h') _ _ (h₁ Γ p₁ hΓ hC.at)) (fun _ _ _ h' => h') _ _ (h Γ p hΓ hC)
theorem c_And {e₁ e₂ rest pos} {Q : Value → Shared → Prop}
    (h : wpC M A (eval e₁ env) (fun v s₁ => wpAny M A (truthy v) (fun c s₂ => if c then wpC M A (eval (.BoolOp .And (e₂ :: rest) pos) env) Q E s₂ else Q v s₂) E s₁) E s) :
    wpC M A (eval (.BoolOp .And (e₁ :: e₂ :: rest) pos) env) Q E s := by
  show wpC M A (do
    let v ← eval e₁ env
    standAt pos
    let c ← holding [v] (truthy v)
    match BoolOp.And, c with
    | .And, false | .Or, true => pure v
    | _, _ => boolOp pos .And (eval e₂ env :: evalEach rest env)) Q E s
  refine wpC_bind (wpC_mono h (fun v s₁ h₁ => wpC_bind (wpC_standAt (wpC_bind (wpC_holding (wpC_of_any (wpAny_mono h₁ (fun c s₂ h₂ => ?_) fun _ _ x => x)))))) fun _ _ x => x)
  cases c with
  | false => exact wpC_pure h₂
  | true => exact h₂
theorem c_And1 {e₁ pos} {Q : Value → Shared → Prop} (h : wpC M A (eval e₁ env) Q E s) : wpC M A (eval (.BoolOp .And [e₁] pos) env) Q E s := h
theorem c_splice {x : Sem Value} {rest : List (Bool × Sem Value)} {Q : List Value → Shared → Prop}
    (h : wpC M A x (fun v s₁ => wpC M A (spliced rest) (fun vs s₂ => Q (v :: vs) s₂) E s₁) E s) : wpC M A (spliced ((false, x) :: rest)) Q E s := by
  rw [spliced]
  refine wpC_bind (wpC_mono h (fun v s₁ h₁ => ?_) fun _ _ x => x)
  simp only [Bool.false_eq_true, if_false]
  exact wpC_bind (wpC_pure (wpC_bind (wpC_holding (wpC_mono h₁ (fun vs s₂ h₂ => wpC_pure h₂) fun _ _ x => x))))
theorem c_args {e : PySem.Expr} {rest : List PySem.Expr} {pos : Pos} {Q : List Value → Shared → Prop}
    (h : wpC M A (eval e env) (fun v s₁ => wpC M A (spliced (backTo pos (starEach rest env))) (fun vs s₂ => Q (v :: vs) s₂) E s₁) E s)
    (he : starEach (e :: rest) env = (false, eval e env) :: starEach rest env := by with_unfolding_all rfl) : wpC M A (spliced (backTo pos (starEach (e :: rest) env))) Q E s := by
  rw [he]; exact c_splice h
theorem c_args0 {pos : Pos} {Q : List Value → Shared → Prop} (h : Q [] s) : wpC M A (spliced (backTo pos (starEach [] env))) Q E s := wpC_of_any (spliced_nil h)
theorem c_evalArgs {f : Value} {x : Sem Value} {rest : List (Bool × Sem Value)} {Q : Args → Shared → Prop} (h : wpC M A (spliced ((false, x) :: rest)) (fun vs s' => Q ⟨vs, []⟩ s') E s) : wpC M A (evalArgs f true ((false, x) :: rest) []) Q E s := by
  unfold evalArgs
  show wpC M A (spliced ((false, x) :: rest) >>= _) Q E s
  refine wpC_bind (wpC_mono h (fun vs s' h' => ?_) fun _ _ x => x)
  refine wpC_holding ?_
  exact wpC_bind (wpC_pure (wpC_bind (wpC_pure (wpC_pure h'))))
def KeepAt (M : Model) (f : Value) (h : Heap) : Prop := ∃ k, (k = Keeper.frame ∨ k = Keeper.machine ∨ k = Keeper.boundFrame) ∧ Looks M h (keeperOf f) k
theorem c_with {pos : Pos} {f : Value} {first : List Value} {trees : List (Bool × Sem Value)} {Q : Value → Shared → Prop} (hplain : trees.any (·.1) = false)
    (h : wpC M A (evalArgs f true trees []) (fun a s₁ => KeepAt M f s₁.heap ∧ wpC M A (call f (first ++ a.pos) a.kw) Q E s₁) E s) :
    wpC M A (callWith pos f first trees []) Q E s := by
  unfold callWith
  refine wpC_bind (wpC_holding (wpC_mono h (fun a s₁ h₁ => wpC_bind (wpC_standAt ?_)) fun _ _ x => x))
  obtain ⟨⟨k, hk', L⟩, h₁⟩ := h₁
  simp only [hplain, List.any_nil, Bool.or_false]
  refine wpC_bind (wpC_of_any (L.here ?_))
  have tail : ∀ {t : Sem Value}, wpC M A t Q E s₁ → wpC M A (t >>= fun r => holding [r] point >>= fun _ => pure r) Q E s₁ :=
    fun ht => wpC_bind (wpC_mono ht (fun r s₂ hr => wpC_bind (wpC_holding (wpC_point (wpC_pure hr)))) fun _ _ x => x)
  have marked (mk : Value) : wpC M A (callMarked mk f (first ++ a.pos) a.kw) Q E s₁ := by
    unfold callMarked
    exact fun Γ p hΓ hC => by rw [Sem.wp_keep]; exact h₁ Γ p hΓ hC
  have two (c : Prop) [Decidable c] (mk : Value) : wpC M A (if c then (call f (first ++ a.pos) a.kw >>= fun r => holding [r] point >>= fun _ => pure r) else (callMarked mk f (first ++ a.pos) a.kw >>= fun r => holding [r] point >>= fun _ => pure r)) Q E s₁ := by
    split
    · exact tail h₁
    · exact tail (marked _)
  rcases hk' with rfl | rfl | rfl <;> first | exact tail h₁ | exact two _ _
theorem c_with1 {pos : Pos} {f : Value} {first : List Value} {e : PySem.Expr} {rest : List PySem.Expr} {Q : Value → Shared → Prop}
    (h : wpC M A (spliced (backTo pos (starEach (e :: rest) env))) (fun vs s₁ => KeepAt M f s₁.heap ∧ wpC M A (call f (first ++ vs)) Q E s₁) E s)
    (he : starEach (e :: rest) env = (false, eval e env) :: starEach rest env := by with_unfolding_all rfl) (hplain : (backTo pos (starEach rest env)).any (·.1) = false := by with_unfolding_all rfl) :
    wpC M A (callWith pos f first (backTo pos (starEach (e :: rest) env)) []) Q E s := by
  rw [he] at h ⊢
  exact c_with (by show (false || (backTo pos (starEach rest env)).any (·.1)) = false; rw [hplain]; rfl) (c_evalArgs h)
theorem c_with0 {pos : Pos} {f : Value} {first : List Value} {Q : Value → Shared → Prop} (hk : KeepAt M f s.heap) (h : wpC M A (call f first) Q E s) :
    wpC M A (callWith pos f first (backTo pos (starEach [] env)) []) Q E s := c_with rfl (wpC_of_any (evalArgs_nil3 ⟨hk, by rw [List.append_nil]; exact h⟩))
theorem c_Call {func : PySem.Expr} {args : List PySem.Expr} {pos : Pos} {Q : Value → Shared → Prop}
    (h : wpAny M A (eval func env) (fun f s₁ => wpC M A (callWith pos f [] (backTo pos (starEach args env)) []) Q E s₁) E s)
    (he : eval (.Call func args [] pos) env = (do callWith pos (← eval func env) [] (backTo pos (starEach args env)) (backToKw pos (keywordEach [] env))) := by with_unfolding_all rfl) : wpC M A (eval (.Call func args [] pos) env) Q E s := by
  rw [he]; exact wpC_bind (wpC_of_any h)
theorem c_Meth {o : PySem.Expr} {name : Str} {apos pos : Pos} {args : List PySem.Expr} {pl : Sem Bool} {Q : Value → Shared → Prop}
    (h : wpAny M A (eval o env) (fun ov s₁ => wpAny M A (getMethod ov name pl) (fun fx s₂ => wpC M A (callWith pos fx.1 fx.2 (backTo pos (starEach args env)) []) Q E s₂) E s₁) E s)
    (he : eval (.Call (.Attribute o name apos) args [] pos) env = (do
      let ov ← eval o env
      standAt apos.atName
      let (f, first) ← holding [ov] (getMethod ov name pl)
      callWith pos f first (backTo pos (starEach args env)) (backToKw pos (keywordEach [] env))) := by with_unfolding_all rfl) : wpC M A (eval (.Call (.Attribute o name apos) args [] pos) env) Q E s := by
  rw [he]
  exact wpC_bind (wpC_of_any (wpAny_mono h (fun ov s₁ h₁ => wpC_bind (wpC_standAt (wpC_bind (wpC_holding (wpC_of_any (wpAny_mono h₁ (fun fx s₂ h₂ => h₂) fun _ _ x => x)))))) fun _ _ x => x))
end
section
variable {prog : Program} {w : World} {A : Around} {E : Value → Shared → Prop} {s : Shared} {env : Env}
theorem c_Expr {e pos} {Q : Flow → Shared → Prop} (h : wpC (model prog w) A (eval e env) (fun _ => Q .next) E s)
    (hi : interactive env = false := by with_unfolding_all rfl) (hs : swapsWith e none pos.line env = pure false := by with_unfolding_all rfl) : wpC (model prog w) A (exec (.Expr e pos) env) Q E s := by
  rw [exec_Expr env e pos hi hs]
  exact wpC_bind (wpC_standAt (wpC_bind (wpC_mono h (fun v s' h' => wpC_of_any (wpAny_dropValue h')) fun _ _ x => x)))
theorem c_While {test body orelse pos} {Q : Flow → Shared → Prop}
    (h : codeC (model prog w) A (.whileLoop test body orelse env) (fun r s' => match r with | .ok f => Q f s' | .error e => cameBackBy (model prog w) A env E e s') s) :
    wpC (model prog w) A (exec (.While test body orelse pos) env) Q E s := by
  rw [exec_While]; exact wpC_bind (wpC_standAt (wpC_runOwn h))
end
end
section
/-! a dict whose keys are pairs of ints -/
open PyProof.V
noncomputable abbrev tup2 (x y : Int) (t1 t2 : Tok) : Obj := { cls := .type "tuple", data := .seq #[.int x t1, .int y t2] }
inductive TabF (prog : Program) (w : World) (led : List (Addr × Obj)) (tb : Addr) (n : Nat) (f : Int → Int → Option Int) : Prop
  | mk (D) (h1 : TupTab (intKind prog w) PyData.int led tb D) (h2 : D.length ≤ n) (h3 : ∀ x y, PySem.Spec.lookup (encTuple PyData.int [x, y]) D = (f x y).map PyData.int)
section
variable {prog : Program} {w : World} {A : Around} {E : Value → Shared → Prop} {Q : Value → Shared → Prop} {h : Heap} {g : Array GenState} {d : Drawn} {t : Nat} {o : OsState} {h₀ : Heap} {L : Addr} {m : Str → Option Value} {news led : List (Addr × Obj)}
  {tb a : Addr} {n : Nat} {f : Int → Int → Option Int} {x y : Int} {t1 t2 : Tok}
theorem tupTab_sub {D : List (PyData × PyData)} (T : TupTab (intKind prog w) PyData.int led tb D) (hs : ∀ p ∈ led, p ∈ news) : TupTab (intKind prog w) PyData.int news tb D :=
  by
  refine hideGoal fun G hG => ?_
  obtain ⟨lo, o, es, ep, xs, hm, hc, hd, he, hn, hk, hf⟩ := T
  exact hG ⟨lo, o, es, ep, xs, hs _ hm, hc, hd, he, hn, fun x hx => (hk x hx).imp fun okx q => ⟨hs _ q.1, q.2⟩, hf⟩
theorem TabF.sub (T : TabF prog w led tb n f) (hs : ∀ p ∈ led, p ∈ news) : TabF prog w news tb n f := by obtain ⟨D, a, b, c⟩ := T; exact ⟨D, tupTab_sub a hs, b, c⟩
theorem TabF.up {n' : Nat} (T : TabF prog w led tb n f) (hn : n ≤ n') : TabF prog w led tb n' f := by obtain ⟨D, a, b, c⟩ := T; exact ⟨D, a, Nat.le_trans b hn, c⟩
theorem key2 : TupKeyObj (intKind prog w) [x, y] (tup2 x y t1 t2) :=
  TupKeyObj.made (vs := [.int x t1, .int y t2]) (.cons (by simp [intKind, Value.isInt]) (.cons (by simp [intKind, Value.isInt]) .nil))
theorem r_inTup (N : News h₀ L h news) (T : TabF prog w led tb n f) (hs : ∀ p ∈ led, p ∈ news) (ha : (a, tup2 x y t1 t2) ∈ news) (hu : A.units + 1 < cLine)
    (H : ∀ t2, Q (.bool (f x y).isSome) ⟨h, g, d, t2, o⟩) : wpAny (model prog w) A (compareOp .In (.ref a) (.ref tb)) Q E ⟨h, g, d, t, o⟩ := by
  refine hideGoal fun G hG => ?_
  obtain ⟨D, T, _, e⟩ := T
  refine hG ?_
  clear hG G
  refine in_tupTab (s := ⟨h, g, d, t, o⟩) same_int hu N (tupTab_sub T hs) ha key2 ?_
  rw [e, Option.isSome_map]
  exact H _
theorem flat_int {v : Value} {c : Int} (h : Flat v (.int c)) : ∃ tk, v = .int c tk := by
  have := h default
  revert this
  intro this
  cases this with
  | int => exact ⟨_, rfl⟩
theorem r_getTup {c : Int} {value slice : PySem.Expr} (N : News h₀ L h news) (T : TabF prog w led tb n f) (hs' : ∀ p ∈ led, p ∈ news) (ha : (a, tup2 x y t1 t2) ∈ news) (hu : A.units + 1 < cLine) (hc : f x y = some c)
    (H : ∀ t1 t2, Q (.int c t1) ⟨h, g, d, t2, o⟩)
    (hs : subscripted slice false (.ref tb) (.ref a) = operate [.ref tb, .ref a] (getItem (.ref tb) (.ref a)) := by with_unfolding_all rfl) (hg : ∀ r, letTemporaryGo value (.ref tb) r = pure () := by intro _; with_unfolding_all rfl) :
    wpAny (model prog w) A (subscriptTail value slice (.ref tb) (.ref a)) Q E ⟨h, g, d, t, o⟩ := by
  refine hideGoal fun G hG => ?_
  obtain ⟨D, T, _, e⟩ := T
  refine hG ?_
  clear hG G
  have e' := e x y
  rw [hc, Option.map_some] at e'
  refine item_tupTab (s := ⟨h, g, d, t, o⟩) same_int hu N (tupTab_sub T hs') ha key2 e' (fun v hv => ?_) hs hg
  obtain ⟨tk, rfl⟩ := flat_int hv
  exact H _ _
theorem r_setTup {Q : Unit → Shared → Prop} {c : Int} {tc : Tok} {tobj : Obj} {ktups : List (Addr × Obj)} {gl : Obj → List (Addr × Obj)} (F : Fr h₀ L h m) (N : News h₀ L h news) (T : TabF prog w ((tb, tobj) :: ktups) tb n f)
    (hs' : ∀ p ∈ ktups, p ∈ news) (ha : (a, tup2 x y t1 t2) ∈ news) (hu : A.units + 1 < cLine) (U : UpdF tb tobj news gl) (hn : n ≤ 100000)
    (H : ∀ h' o' t3, Fr h₀ L h' m → News h₀ L h' (gl o') → TabF prog w ((tb, o') :: (a, tup2 x y t1 t2) :: ktups) tb (n + 1) (fun x' y' => if x' = x ∧ y' = y then some c else f x' y') → Q () ⟨h', g, d, t3, o⟩) :
    wpAny (model prog w) A (setItem (.ref tb) (.ref a) (.int c tc)) Q E ⟨h, g, d, t, o⟩ := by
  refine hideGoal fun G hG => ?_
  obtain ⟨D, ⟨lo, o1, es, ep, xs, hm, hc, hd, he, hnd, hk, hf⟩, hl, e⟩ := T
  refine hG ?_
  clear hG G
  refine hideGoal fun G hG => ?_
  obtain ⟨own, rst, rfl, hgl, h1, h2⟩ := U.split
  refine hG ?_
  clear hG G
  have ht := N (tb, tobj) (List.mem_append_right _ (.head _))
  have hsub : ∀ p ∈ (tb, tobj) :: ktups, p ∈ own ++ (tb, tobj) :: rst := fun p hp => (List.mem_cons.mp hp).elim (fun q => q ▸ List.mem_append_right _ (.head _)) (hs' p)
  have hD : h.DictOfH (tupleKind (intKind prog w)) tb xs := ⟨o1, es, ep, (N _ (hsub _ hm)).1, hc, hd, he, fun x hx => let ⟨_, hmk, t⟩ := hk x hx; t.key (N _ (hsub _ hmk)).1, hnd⟩
  have hxs : xs.length ≤ sizeLine := by have e := hf.length; simp only [kvsOf, List.length_map] at e; rw [sizeLine_eq]; omega
  refine wpAny_setItem_heap (s := ⟨h, g, d, t, o⟩) (hsz := hxs) (knd := tupleKind (intKind prog w)) (tupleKind_room_in1 hu) (key2.key (N _ ha).1) hD fun h' hm' hs => ?_
  refine hideGoal fun G hG => ?_
  obtain ⟨o', es', ep', ho', hc', hd', he', _, hn'⟩ := hm'
  refine hG ?_
  clear hG G
  have hne : ∀ {b : Addr} {ob : Obj} {ks' : List Int}, (b, ob) ∈ (tb, tobj) :: ktups → TupKeyObj (intKind prog w) ks' ob → (b, ob) ∈ ktups := by
    intro b ob ks' hb tk
    rcases List.mem_cons.mp hb with q | q
    · injection q with q1 q2
      subst q1 q2
      have z := (N _ (hsub _ hm)).1
      dsimp only at z
      rw [ht.1] at z
      injection z with z
      rw [← z] at hc
      have := tk.1
      rw [hc.1] at this
      injection this with this
      exact absurd this (by decide)
    · exact q
  refine H h' o' _ (F.change hs ht.2.1 ht.2.2) (hgl o' ▸ N.setAt h1 h2 hs ho') ⟨putD (encTuple PyData.int [x, y]) (.int c) D, ⟨lo, o', es', ep', storedH xs [x, y] a (.int c tc), .head _, hc', hd', he', hn', fun z hz => ?_, ?_⟩, ?_, fun x' y' => ?_⟩
  · rcases mem_storedH hz with ⟨y', hy, e1, e2⟩ | ⟨e1, e2⟩
    · obtain ⟨oky, hmk, tk⟩ := hk y' hy
      exact ⟨oky, by rw [e2]; exact .tail _ (.tail _ (hne hmk tk)), by rw [e1]; exact tk⟩
    · exact ⟨_, by rw [e2]; exact .tail _ (.head _), by rw [e1]; exact key2⟩
  · rw [kvsOf_storedH]; exact hf.stored (same_encTuple same_int) [x, y] (Flat.int c tc)
  · exact Nat.le_trans (putD_length_le _ _ _) (by omega)
  · by_cases hxy : x' = x ∧ y' = y
    · obtain ⟨rfl, rfl⟩ := hxy
      rw [lookup_putK_same (keyEnc_tuple keyEnc_int)]; simp
    · rw [lookup_putK_other (n := [x, y]) (k := [x', y']) (keyEnc_tuple keyEnc_int) (fun q => hxy (by injection q with q1 q2; injection q2 with q2 _; exact ⟨q1, q2⟩))]
      try dsimp only
      rw [if_neg hxy]
      exact e x' y'
theorem tab_new (N : News h₀ L h ((tb, dictOf [] 0) :: news)) (lo : (tb == sysModules) = false) : TabF prog w [(tb, dictOf [] 0)] tb 0 (fun _ _ => none) :=
  ⟨[], ⟨lo, dictOf [] 0, #[], 0, [], .head _, ⟨rfl, rfl, rfl⟩, rfl, rfl, List.nodup_nil, fun _ hx => by simp at hx, .nil⟩, Nat.zero_le _, fun _ _ => rfl⟩
end
end
theorem reg_PMk : True := by
  k_with_none
  (k_with "L om" => first | with_reducible assumption | (with_reducible refine Ne.symm ?_; assumption) | ((with_reducible refine low1 (by assumption) ?_); exact rfl) | ((with_reducible refine low2 (by assumption) ?_); exact rfl) | ((with_reducible refine low7 (by assumption) ?_); exact rfl) | with_reducible exact low8 (by assumption) | ((with_reducible refine low3 (by assumption) ?_); exact rfl) | ((with_reducible refine low4 (by assumption) ?_); exact rfl) | with_reducible exact low5 (by assumption) | with_reducible exact low6 (by assumption) | with_reducible exact And.left (by assumption) | with_reducible exact And.right (by assumption) | with_reducible exact And.intro (by assumption) (by assumption) | ((with_reducible refine low9 (by assumption) ?_); exact rfl) | ((with_reducible refine low10 (by assumption) ?_); exact rfl) | ((with_reducible refine low12 (by assumption) ?_); exact rfl) | with_reducible exact Nat.le_succ_of_le (by assumption) | with_reducible exact Nat.add_le_add (by assumption) (Nat.min_le_left _ _) | ((with_reducible refine low16 (by assumption) (by assumption) ?_); exact rfl) | with_reducible exact low17 (by assumption) (by assumption) | with_reducible exact low18 (by assumption) | with_reducible exact low19 (by assumption) (by assumption) | with_reducible exact low20 (by assumption) | with_reducible exact And.intro (Int.emod_nonneg _ (by decide)) (Int.emod_lt_of_pos _ (by decide)) | ((with_reducible refine low21 (by assumption) ?_); exact rfl) | ((with_reducible refine low22 (by assumption) ?_); exact rfl) | with_reducible exact low6 (And.left (by assumption)) | with_reducible exact low6 (And.left (And.right (by assumption))) | with_reducible exact low6 (And.left (And.right (And.right (by assumption)))) | with_reducible exact low6 (And.left (And.right (And.right (And.right (by assumption))))) | with_reducible exact low6 (And.right (by assumption)) | lia | with_reducible contradiction)
  (k_with "L my putL" => first | with_reducible exact putL_d4 | with_reducible exact putL_d5 | with_reducible exact putL_d6 | with_reducible exact putL_d7 | with_reducible exact putL_d8 | with_reducible exact putL_d2 | with_reducible exact putL_d3 | (refine' putL_hd ?xZ; (case xZ => decide +kernel)) | (refine' putL_tl ?xZ ?yZ; (case xZ => decide +kernel); (case yZ => k_extra "L my putL")))
  (k_with "L my putN" => first | with_reducible exact putN_d4 | with_reducible exact putN_d5 | with_reducible exact putN_d6 | with_reducible exact putN_d7 | with_reducible exact putN_d8 | with_reducible exact putN_d2 | with_reducible exact putN_d3 | (refine' putN_hd ?xZ; (case xZ => decide +kernel)) | (refine' putN_tl ?xZ ?yZ; (case xZ => decide +kernel); (case yZ => k_extra "L my putN")))
  (k_with "L all" => first | assumption | exact allLt_ne (by assumption) | exact allLt_ne (And.right (by assumption)) | exact allLt_ne (And.right (And.right (by assumption))) | exact allLt_ne (And.right (And.right (And.right (by assumption)))))
  (k_with "L room" => ((try simp only [depth_under_make, depth_under_kw, depth_in1, depth_deeper, depth_caller]); (try dsimp only [ktrTop]); omega))
  (k_with "L execs cons" => (refine r_consL ?_; intro _))
  (k_with "L execs nil" => refine wpAny_execs_nil ?_)
  (k_with "L exec If" => refine wpAny_If ?_)
  (k_with "L eval Constant int" => refine r_int ?_)
  (k_with "L eval Constant bytes" => refine r_bytes ?_)
  (k_with "L eval Constant str" => refine r_str ?_)
  (k_with "L binaryOp Add int int" => refine r_add ?_)
  (k_with "L binaryOp Sub int int" => refine r_sub ?_)
  (k_with "L binaryOp BitAnd int int" => refine r_and ?_)
  (k_with "L binaryOp BitOr int int" => refine r_or ?_)
  (k_with "L binaryOp RShift int int" => (refine' r_shr ?aZ ?_; (case aZ => omega)))
  (k_with "L binaryOp Mod int int" => (refine' r_mod ?aZ ?_; (case aZ => omega)))
  (k_with "L binaryOp LShift int int" => first | with_reducible refine r_shl09 ?_ | with_reducible refine r_shl10 ?_ | with_reducible refine r_shl12 ?_ | with_reducible refine r_shl28 ?_ | (refine' r_shl ?aZ ?bZ ?cZ ?_; (case aZ | bZ | cZ => omega)))
  (k_with "L call builtin:len" => ( (with_reducible show wpAny _ _ (call (Value.builtin "len") [Value.ref _]) _ _ _); refine' r_len ?NZ ?mZ ?zZ ?_; (case NZ => k_asm); (case mZ => k_mem); (case zZ => first | omega | (simp only [List.size_toArray, Array.size_push] at *; omega))))
  (k_with "L getAttr ref" => (k_here; k_dflt ( refine' r_getattr ?k1Z ?k2Z ?k3Z ?k4Z ?k5Z ?k6Z ?k7Z ?k8Z ?k9Z ?_; (case k1Z | k2Z => k_asm); (case k3Z => k_inst); (case k4Z | k5Z | k6Z | k7Z => k_is); (case k8Z => k_get); (case k9Z => k_handed); k_whole)))
  (k_with "L setAttr ref" => (k_here; k_dflt (first | (refine' r_setattr ?k1Z ?k2Z ?k3Z ?k4Z ?k5Z ?k6Z ?k7Z ?k8Z ?k9Z ?k10Z ?k11Z ?k11bZ ?k12Z ?k13Z ?_; (case k1Z | k2Z | k3Z => k_asm); (case k4Z => k_inst); (case k5Z => exact rfl); (case k6Z | k7Z | k8Z | k9Z => k_is); (case k10Z => k_get); (case k11Z => (intro _; k_extra "L my putL")); (case k11bZ => k_extra "L my putN"); (case k12Z => k_upd); (case k13Z => exact Nat.le_of_ble_eq_true rfl); k_whole; intro _ _ _ _; (try k_sweep)) | (refine' r_newattr ?k1Z ?k2Z ?k3Z ?k4Z ?k5Z ?k6Z ?k7Z ?k8Z ?k9Z ?k10Z ?k11Z ?k12Z ?k13Z ?_; (case k1Z | k2Z | k3Z => k_asm); (case k4Z => k_inst); (case k5Z => exact rfl); (case k6Z | k7Z | k8Z | k9Z => k_is); (case k10Z => k_get); (case k11Z => exact rfl); (case k12Z => exact Nat.le_of_ble_eq_true rfl); (case k13Z => k_updF); k_whole; intro _ _ _ _ _ N'; (dsimp only [List.cons_append, List.nil_append] at N'); (try (revert N'; intro _)); (try k_sweep)))))
  (k_with "L storeName" => (k_here; k_dflt ( refine' r_store ?k1Z ?k2Z ?k3Z ?k4Z ?_; (case k1Z | k2Z => k_asm); (case k3Z | k4Z => rfl); k_whole; intro _ _ _ _; (try k_sweep))))
  (k_with "L newList" => (k_here; k_dflt (refine' r_newList ?k1Z ?k2Z ?k3Z ?_; (case k1Z | k2Z => k_asm); (case k3Z => exact Nat.le_of_ble_eq_true rfl); k_whole); intro _ _ _ _ l1; (try k_lt l1); (try (revert l1; intro _)); (try k_sweep)))
  (k_with "L call builtin:list.append" => (k_here; (with_reducible show wpAny _ _ (call (Value.builtin _) [Value.ref _, _]) _ _ _); k_dflt (refine' r_append ?k1Z ?k2Z ?k3Z ?zZ ?_; (case k1Z | k2Z => k_asm); (case k3Z => k_upd); (case zZ => first | omega | (simp only [List.size_toArray, Array.size_push] at *; omega)); k_whole); intro _ _ _; (try k_sweep)))
  (k_with "L my enter" => (refine' r_enter ?k1Z ?k2Z ?k3Z ?k4Z ?k5Z ?kAZ ?kFZ ?kKZ ?k6Z ?k7Z ?k8Z ?k9Z ?kBZ ?_ ?c2Z ?c3Z ?c4Z ?c5Z; (case kAZ | kFZ => exact rfl); (case kKZ => first | assumption | exact rfl); (case k1Z | k2Z | k3Z | k4Z | k5Z => k_asm); (case k6Z | k7Z => k_is); (case k8Z => k_room); (case k9Z => first | exact BindsTo.of_eq rfl | exact binds_K (by k_in) rfl (by k_is) rfl rfl rfl); (case c5Z => decide); (case kBZ => exact locs rfl); (case c2Z | c3Z | c4Z => exact rfl); k_whole; intro _ _ _ _ _ _ _ _ _ _; (try dsimp only); (try k_fold)))
  (k_with "L my class" => (refine' call_cls ?k1Z ?k2Z ?k3Z ?k4Z ?k5Z ?k6Z ?_; (case k1Z | k2Z | k3Z => k_asm); (case k4Z | k5Z | k6Z => k_is); k_whole; intro _ _ _ _ _ l1 l2; (try k_lt l1); (try (revert l1; intro _)); (try k_lt2 l2); (try (revert l2; intro _)); (try k_sweep); k_extra "L my enter"))
  (k_with "L call ref" => (k_here; k_dflt (first | k_extra "L my class" | (refine wpAny_call ?_; k_extra "L my enter"))))
  (k_with "L my sub" => first | exact mem_all | (refine List.forall_mem_cons.mpr ⟨?_, ?_⟩; (k_mem); k_extra "L my sub") | exact List.forall_mem_nil _ | (refine mem_step ?_; k_extra "L my sub"))
  (k_with "L my blen" => first | k_extra "L om" | exact Nat.zero_le _ | ((simp only [List.length_append, List.length_cons, List.length_nil, List.length_take, List.length_drop]); omega) | omega | exact Nat.le_trans (cut_length _ _ _) (by omega) | (simp only [List.length_append, List.length_cons, List.length_nil, List.length_take, List.length_drop]; omega))
  (k_with "L binaryOp Add bytes bytes" => (refine' r_badd ?zZ ?z2Z ?_; (case zZ | z2Z => k_extra "L my blen"); intro _ _))
  (k_with "L compareOp Eq bytes bytes" => refine r_beq ?_)
  (k_with "L subscriptTail" => (k_here; (with_reducible show wpAny _ _ (subscriptTail _ (Expr.Slice _ _ none _) (Value.bytes _ _) (Value.ref _)) _ _ _); k_dflt (refine' r_slice ?FZ ?NZ ?lZ ?uZ ?zZ ?_ ?sZ ?tZ; (case FZ | NZ => k_asm); (case lZ | uZ => constructor); (case zZ => omega); (case sZ => with_unfolding_all rfl); (case tZ => intro _; with_unfolding_all rfl)); intro _ _ _ _ _; (try k_sweep)))
  (k_with "L subscriptTail" => (k_here; (with_reducible show wpAny _ _ (subscriptTail _ _ (Value.ref _) (Value.int _ _)) _ _ _); k_dflt (refine' r_item ?NZ ?mZ ?aZ ?bZ ?xZ ?_ ?sZ ?tZ; (case NZ => k_asm); (case mZ => k_mem); (case aZ | bZ => omega); (case xZ => first | assumption | rfl); (case sZ => with_unfolding_all rfl); (case tZ => intro _; with_unfolding_all rfl))))
  (k_with "L my ev" => first | ((with_reducible show Ev _ _ _ _ _ _ _ (Expr.Constant _ _ _) _ _ _); first | exact ev_int | (intro _ _ Hx; walk1; with_reducible exact Hx)) | ((with_reducible show Ev _ _ _ _ _ _ _ (Expr.Name _ _) _ _ _); first | (refine' ev_L ?FZ ?vZ ?aZ ?bZ ?dZ; (case FZ => k_asm); (case aZ | bZ => rfl); (case dZ => decide); (case vZ => rfl)) | (intro _ _ Hx; walk1; with_reducible exact Hx)) | ((with_reducible show Ev _ _ _ _ _ _ _ (Expr.Attribute _ _ _) _ _ _); refine' ev_attr ?k1Z ?k2Z ?vZ ?k3Z ?k4Z ?k5Z ?k6Z ?k7Z ?k8Z ?k9Z ?aZ ?bZ ?dZ; (case k1Z | k2Z => k_asm); (case aZ | bZ => rfl); (case dZ => decide); (case vZ => rfl); (case k3Z => k_inst); (case k4Z | k5Z | k6Z | k7Z => k_is); (case k8Z => k_get); (case k9Z => k_handed)) | ((with_reducible show Ev _ _ _ _ _ _ _ (Expr.BinOp _ _ _ _) _ _ _); refine' ev_bin ?lZ ?rZ ?oZ; (case lZ | rZ => k_extra "L my ev"); (case oZ => (intro _ _ Hx; walk1; with_reducible exact Hx))) | ((with_reducible show Ev _ _ _ _ _ _ _ (Expr.Call (Expr.Name (Str.ofString "len") _) [_] [] _) _ _ _); intro _ _ Hx; (repeat walk1); with_reducible exact Hx))
  (k_with "L eval BinOp" => (k_here; k_dflt (refine' ev_use ?hZ ?_; (case hZ => k_extra "L my ev"); k_whole)))
  (k_with "L eval Attribute Name" => (k_here; k_dflt (refine' ev_use ?hZ ?_; (case hZ => k_extra "L my ev"); k_whole)))
  (k_with "L isTrue Compare" => (k_here; k_dflt (refine' ev_isTrue ?lZ ?rZ ?oZ ?mZ ?_; (case lZ | rZ => k_extra "L my ev"); (case oZ => (intro _ _ Hx; walk1; with_reducible exact Hx)); (case mZ => with_unfolding_all rfl); k_whole)))
  trivial
inductive mkPost (early : Int) (te : Tok) (rest : List (Addr × Obj)) (r : Value) (news' : List (Addr × Obj)) : Prop
  | mk (x d t : Addr) (n k : Nat) (kh : Nat → Int × Tok) (tm tl tb tn tw : Tok) (h1 : r = .ref x) (h2 : (∀ p ∈ rest, @LT.lt Nat _ p.1 d)) (h3 : @LT.lt Nat _ d x) (h4 : @LT.lt Nat _ x t) (h5 : news' = ((x, instObj 121 d) :: (d, dictOf (decEs kh (.int early te) (.int 12 tm) (.bool false) (.bytes #[] tl) (.int 0 tb) (.int 0 tn) (.int 9 tw) (.ref t) .none) n) :: (t, listOf #[] k) :: rest))
theorem mk1_ok (w : World) (loose : List Str) (mean : ExcName → Option Value) (mg mb : Str → Option Value)
    (early : Int) (te : Tok) (rest : List (Addr × Obj)) :
    CallOk w loose mean mg mb 3 (.ref 121) [.int early te] rest (mkPost early te rest) := by
  unfold CallOk
  intro dp un gd cn cs a ccd cl outer A₀ base h₀ L m s Q E
  k_fill
  obtain ⟨hp, gn, dr, tk0, os⟩ := s
  intro B F X N T hk hd hu hret
  k_dflt (walk_at "my class")
  k_steps
  (rename News _ _ _ _ => N9)
  (rename Fr _ _ _ _ => F9)
  refine' hret _ _ _ _ F9 (News.sub N9 ?s) ⟨_, _, _, _, _, khOf [(_, _), (_, _), (_, _), (_, _), (_, _), (_, _), (_, _), (_, _), (_, _)], _, _, _, _, _, rfl, ?a, ?b, ?c, rfl⟩
  case s => walk_at "my sub"
  case a => assumption
  case b => omega
  case c => omega
theorem put_ok (w : World) (loose : List Str) (mean : ExcName → Option Value) (mg mb : Str → Option Value)
    (x d t : Addr) (n k : Nat) (kh : Nat → Int × Tok) (early wd : Int) (te tm tw : Tok) (vd vl vb vm vla : Value) (its : Array Value)
    (b : Array UInt8) (tkb : Tok) (rest : List (Addr × Obj)) 
    (hxd : @Ne Nat x d) (hxt : @Ne Nat x t) (hdt : @Ne Nat d t) (hr1 : ∀ p ∈ rest, p.1 ≠ d) (hr2 : ∀ p ∈ rest, p.1 ≠ t) (he : 0 ≤ early ∧ early ≤ 1) (hz : its.size ≤ 600)
    (hwd : wd = 9 ∨ wd = 10) :
    CallOk w loose mean mg mb 1 (.ref 111) [.ref x, .bytes b tkb]
      ((x, instObj 121 d) :: (d, dictOf (decEs kh (.int early te) (.int 12 tm) vd vl vb vm (.int wd tw) (.ref t) vla) n) :: (t, listOf its k) :: rest)
      (fun r news' => r = .none ∧ ∃ tw', news' = ((x, instObj 121 d) :: (d, dictOf (decEs kh (.int early te) (.int 12 tm) vd vl vb vm (.int (if 258 + ((its.size : Int) + 1) + early ≥ 512 then 10 else wd) tw') (.ref t) vla) n) :: (t, listOf (its.push (.bytes b tkb)) (k + 1)) :: rest)) := by
  unfold CallOk
  intro dp un gd cn cs a ccd cl outer A₀ base h₀ L m s Q E
  k_fill
  obtain ⟨hp, gn, dr, tk0, os⟩ := s
  intro B F X N T hk hd hu hret
  rcases hwd with rfl | rfl
  all_goals (
    refine wpAny_call ?_
    k_dflt (walk_at "my enter")
    k_steps)
  all_goals simp only [Array.size_push] at *
  all_goals first
    | (exfalso; omega)
    | (have hc : 258 + ((its.size : Int) + 1) + early ≥ 512 := by omega
       refine' hret _ _ _ _ (by assumption) (by assumption) ⟨rfl, ?tk, ?e⟩
       (case e => (simp only [if_pos hc]; exact rfl)))
    | (have hc : ¬ (258 + ((its.size : Int) + 1) + early ≥ 512) := by omega
       refine hret _ _ _ _ (by assumption) (by assumption) ⟨rfl, tw, ?_⟩; simp only [if_neg hc])
    | (refine hret _ _ _ _ (by assumption) (by assumption) ⟨rfl, tw, ?_⟩
       have hc : (if 258 + ((its.size : Int) + 1) + early ≥ 512 then (10 : Int) else 10) = 10 := by split <;> rfl
       rw [hc])

theorem told_a (w : World) (loose : List Str) (mean : ExcName → Option Value) (mg mb : Str → Option Value)
    (x d t : Addr) (n k : Nat) (kh : Nat → Int × Tok) (ve vm0 vd vl vb vm vw vla : Value) (its : Array Value)
    (code : Int) (tkc : Tok) (rest : List (Addr × Obj)) (hc : 0 ≤ code) (hc2 : code < 256) :
    CallOk w loose mean mg mb 1 (.ref 104) [.ref x, .int code tkc]
      ((x, instObj 121 d) :: (d, dictOf (decEs kh ve vm0 vd vl vb vm vw (.ref t) vla) n) :: (t, listOf its k) :: rest)
      (fun r news' => (∃ tk, r = .bytes [u8 code].toArray tk) ∧ news' = ((x, instObj 121 d) :: (d, dictOf (decEs kh ve vm0 vd vl vb vm vw (.ref t) vla) n) :: (t, listOf its k) :: rest)) := by
  unfold CallOk
  intro dp un gd cn cs a ccd cl outer A₀ base h₀ L m s Q E
  k_fill
  obtain ⟨hp, gn, dr, tk0, os⟩ := s
  intro B F X N T hk hd hu hret
  refine wpAny_call ?_
  k_dflt (walk_at "my enter")
  k_steps
  (rename News _ _ _ _ => N9)
  (rename Fr _ _ _ _ => F9)
  exact hret _ _ _ _ F9 (News.sub N9 (by walk_at "my sub")) ⟨⟨_, rfl⟩, rfl⟩
theorem told_b (w : World) (loose : List Str) (mean : ExcName → Option Value) (mg mb : Str → Option Value)
    (x d t : Addr) (n k : Nat) (kh : Nat → Int × Tok) (ve vm0 vd vl vb vm vw vla : Value) (its : Array Value)
    (code : Int) (tkc : Tok) (rest : List (Addr × Obj)) (hc : 258 ≤ code) (hz : its.size ≤ 600) (hc2 : code - 258 < its.size) (l : Array UInt8) (tkl : Tok) (hl : its[(code - 258).toNat]? = some (Value.bytes l tkl)) :
    CallOk w loose mean mg mb 1 (.ref 104) [.ref x, .int code tkc]
      ((x, instObj 121 d) :: (d, dictOf (decEs kh ve vm0 vd vl vb vm vw (.ref t) vla) n) :: (t, listOf its k) :: rest)
      (fun r news' => (∃ tk, r = .bytes l tk) ∧ news' = ((x, instObj 121 d) :: (d, dictOf (decEs kh ve vm0 vd vl vb vm vw (.ref t) vla) n) :: (t, listOf its k) :: rest)) := by
  unfold CallOk
  intro dp un gd cn cs a ccd cl outer A₀ base h₀ L m s Q E
  k_fill
  obtain ⟨hp, gn, dr, tk0, os⟩ := s
  intro B F X N T hk hd hu hret
  refine wpAny_call ?_
  k_dflt (walk_at "my enter")
  k_steps
  (rename News _ _ _ _ => N9)
  (rename Fr _ _ _ _ => F9)
  exact hret _ _ _ _ F9 (News.sub N9 (by walk_at "my sub")) ⟨⟨_, rfl⟩, rfl⟩
theorem told_c (w : World) (loose : List Str) (mean : ExcName → Option Value) (mg mb : Str → Option Value)
    (x d t : Addr) (n k : Nat) (kh : Nat → Int × Tok) (ve vd vl vb vm vw : Value) (its : Array Value) (l : List UInt8) (tkl tm : Tok)
    (code : Int) (tkc : Tok) (rest : List (Addr × Obj)) (hc : 258 ≤ code) (hz : its.size ≤ 600) (hc2 : code - 258 = its.size) (hzl : l.length ≤ 700) :
    CallOk w loose mean mg mb 1 (.ref 104) [.ref x, .int code tkc]
      ((x, instObj 121 d) :: (d, dictOf (decEs kh ve (.int 12 tm) vd vl vb vm vw (.ref t) (.bytes l.toArray tkl)) n) :: (t, listOf its k) :: rest)
      (fun r news' => (∃ tk, r = .bytes (l ++ l.take 1).toArray tk) ∧ news' = ((x, instObj 121 d) :: (d, dictOf (decEs kh ve (.int 12 tm) vd vl vb vm vw (.ref t) (.bytes l.toArray tkl)) n) :: (t, listOf its k) :: rest)) := by
  unfold CallOk
  intro dp un gd cn cs a ccd cl outer A₀ base h₀ L m s Q E
  k_fill
  obtain ⟨hp, gn, dr, tk0, os⟩ := s
  intro B F X N T hk hd hu hret
  refine wpAny_call ?_
  k_dflt (walk_at "my enter")
  k_steps
  (rename News _ _ _ _ => N9)
  (rename Fr _ _ _ _ => F9)
  exact hret _ _ _ _ F9 (News.sub N9 (by walk_at "my sub")) ⟨⟨_, by rw [show (1 : Int) = ((1 : Nat) : Int) from rfl, cut_to]⟩, rfl⟩
theorem reg_PDraw : True := by
  (k_with "L call ref" => (k_here; (with_reducible show wpAny _ _ (call (Value.ref 45) _) _ _ _); refine' r_excMake ?k1Z ?k2Z ?k3Z ?k4Z ?k5Z ?k6Z ?k7Z ?_; (case k1Z | k2Z | k3Z => k_asm); (case k4Z => exact Nat.le_of_ble_eq_true rfl); (case k5Z => kernel_rfl); (case k6Z | k7Z => k_is); k_whole; intro _ _ _ _ _ l1; (try k_lt l1); (try (revert l1; intro _)); (try k_sweep); k_extra "L my enter"))
  (k_with "L setAttr ref" => (k_here; (with_reducible show wpAny _ _ (setAttr _ "told" (Value.bytes _ _)) _ _ _); refine' r_excSet ?k1Z ?k2Z ?k3Z ?k4Z ?_; (case k1Z | k2Z | k3Z => k_asm); (case k4Z => k_updF); k_whole; intro _ _ _ _ _ _ _ l1; (try k_lt l1); (try (revert l1; intro _)); (try k_sweep)))
  (k_with "L Inst45" => (k_here; k_dflt (refine' ⟨_, _, _, rfl, ?aZ, ?cZ, ?dZ, ?eZ, ?bZ, ?_⟩; (case aZ => exact (News.get (by k_asm) (by k_mem))); (case cZ | dZ | eZ => exact rfl); (case bZ => exact Frag.In.keeps (by k_asm) (Fr.keep (by k_asm))); k_whole)))
  (k_with "L exec Raise some none" => (k_here; k_dflt (refine' r_raise ?aZ ?_; (case aZ => rfl); k_whole)))
  (k_with "L my nes" => first | exact List.forall_mem_nil _ | k_all | (refine List.forall_mem_cons.mpr ⟨?_, ?_⟩; (show @Ne Nat _ _; omega); k_extra "L my nes"))
  (k_with "L leaving ref" => (k_here; (rename Gone _ _ _ _ _ => gX); (rename Heap.UpToSlots _ _ => uX); k_dflt (refine' leave_more ?KZ ?FZ ?fZ ?RZ ?UZ ?_; (case KZ => assumption); (case RZ => exact gX); (case UZ => exact uX); (case FZ => assumption); (case fZ => exact rfl); k_whole); (try clear gX uX); intro _ _ _))
  (k_with "L leaving ref" => (k_here; k_dflt (refine' leave_first ?KZ ?FZ ?fZ ?kZ ?NZ ?aZ ?bZ ?_; (case KZ | FZ => assumption); (case fZ | kZ => exact rfl); (case NZ => assumption); (case aZ => k_extra "L my nes"); (case bZ => (show @Ne Nat _ _; omega)); k_whole); intro _ _ _))
  trivial
theorem reg_Draw0 : True := by
  (k_with "L compareOp Eq ref ref" => (k_here; (with_reducible show wpAny _ _ (compareOp CmpOp.Eq (Value.ref _) (Value.ref _)) _ _ _); refine' eq_intsK (ms := []) (us := []) ?k1Z ?k2Z ?k3Z ?k4Z ?k5Z ?_; (case k1Z => exact News.isList (by k_asm) (by k_mem)); (case k2Z => assumption); (case k3Z => exact News.isList (by k_asm) (by k_mem)); (case k4Z => exact IntsAre.nil); (case k5Z => (dsimp only [ktrTop, Around.deeper]; omega)); k_whole))
  trivial
noncomputable abbrev PP' : Program := PySem.Challenge.rw_nt0490_01.row.prog
theorem draw_ok (w : World) (loose : List Str) (mean : ExcName → Option Value) (mg mb : Str → Option Value)
    (dk c : Addr) (dO : Obj) (k : Nat) (vs : List Value) (ns : List Int) (at' below : Int) (ta tb : Tok) (rest : List (Addr × Obj))
    (hdO : dO.IsDictOf (strKind PySem.Challenge.rw_nt0490_01.row.prog w) [(Str.ofString "cells", .ref c), (Str.ofString "at", .int at' ta)])
    (hdc : @Ne Nat dk c) (hrd : ∀ p ∈ rest, p.1 ≠ dk) (hI : IntsAre vs ns) (hz : vs.length ≤ 60) (ha : 0 ≤ at' ∧ at' ≤ 1000) (hb : 1 ≤ below ∧ below ≤ 1000) :
    CallOk w loose mean mg mb 10 (.ref 217) [.ref dk, .int below tb]
      ((dk, dO) :: (c, listOf vs.toArray k) :: rest)
      (fun r news' => (∃ v tk, 0 ≤ v ∧ v < below ∧ r = .int v tk) ∧ ∃ ta' dO', dO'.IsDictOf (strKind PySem.Challenge.rw_nt0490_01.row.prog w) [(Str.ofString "cells", .ref c), (Str.ofString "at", .int (at' + 1) ta')] ∧ news' = (dk, dO') :: (c, listOf vs.toArray k) :: rest) := by
  unfold CallOk
  intro dp un gd cn cs a ccd cl outer A₀ base h₀ L m s Q E
  k_fill
  obtain ⟨hp, gn, dr, tk0, os⟩ := s
  intro B F X N T hk hd hu hret
  have hlen : vs.length = ns.length := IntsAre.length hI
  by_cases hlt : at' < vs.length
  · obtain ⟨x, tx, hx⟩ : ∃ x tx, vs.toArray[at'.toNat]? = some (.int x tx) := by
      obtain ⟨t, ht⟩ := hI.get at'.toNat (ns[at'.toNat]'(by omega)) (by simp)
      exact ⟨_, t, by simpa using ht⟩
    refine wpAny_call ?_
    k_dflt (walk_at "my enter")
    k_steps
    (rename News _ _ _ _ => N9)
    (rename Fr _ _ _ _ => F9)
    exact hret _ _ _ _ F9 (News.sub N9 (by walk_at "my sub")) ⟨⟨_, _, Int.fmod_nonneg_of_pos _ (by omega), Int.fmod_lt_of_pos _ (by omega), rfl⟩, _, _, by assumption, rfl⟩
  refine wpAny_call ?_
  k_dflt (walk_at "my enter")
  k_steps
  all_goals first
    | (exfalso
       have h1 : ns.length = 0 := by omega
       have h2 : decide (ns = []) = false := by assumption
       rw [List.length_eq_zero_iff.mp h1] at h2
       exact absurd h2 (by decide))
    | (rename News _ _ _ _ => N9
       rename Fr _ _ _ _ => F9
       exact hret _ _ _ _ F9 (News.sub N9 (by walk_at "my sub")) ⟨⟨_, _, Int.fmod_nonneg_of_pos _ (by omega), Int.fmod_lt_of_pos _ (by omega), rfl⟩, _, _, by assumption, rfl⟩)
theorem reg_PFault : True := by
  k_with_none
  (k_with "L om" => first | with_reducible assumption | (with_reducible refine Ne.symm ?_; assumption) | ((with_reducible refine low1 (by assumption) ?_); exact rfl) | ((with_reducible refine low2 (by assumption) ?_); exact rfl) | ((with_reducible refine low7 (by assumption) ?_); exact rfl) | with_reducible exact low8 (by assumption) | ((with_reducible refine low3 (by assumption) ?_); exact rfl) | ((with_reducible refine low4 (by assumption) ?_); exact rfl) | with_reducible exact low5 (by assumption) | with_reducible exact low6 (by assumption) | with_reducible exact And.left (by assumption) | with_reducible exact And.right (by assumption) | with_reducible exact And.intro (by assumption) (by assumption) | ((with_reducible refine low9 (by assumption) ?_); exact rfl) | ((with_reducible refine low10 (by assumption) ?_); exact rfl) | ((with_reducible refine low12 (by assumption) ?_); exact rfl) | with_reducible exact Nat.le_succ_of_le (by assumption) | with_reducible exact Nat.add_le_add (by assumption) (Nat.min_le_left _ _) | ((with_reducible refine low16 (by assumption) (by assumption) ?_); exact rfl) | with_reducible exact low17 (by assumption) (by assumption) | with_reducible exact low18 (by assumption) | with_reducible exact low19 (by assumption) (by assumption) | with_reducible exact low20 (by assumption) | with_reducible exact And.intro (Int.emod_nonneg _ (by decide)) (Int.emod_lt_of_pos _ (by decide)) | ((with_reducible refine low21 (by assumption) ?_); exact rfl) | ((with_reducible refine low22 (by assumption) ?_); exact rfl) | with_reducible exact low6 (And.left (by assumption)) | with_reducible exact low6 (And.left (And.right (by assumption))) | with_reducible exact low6 (And.left (And.right (And.right (by assumption)))) | with_reducible exact low6 (And.left (And.right (And.right (And.right (by assumption))))) | with_reducible exact low6 (And.right (by assumption)) | lia | with_reducible contradiction)
  (k_with "L my putL" => first | with_reducible exact putL_d4 | with_reducible exact putL_d5 | with_reducible exact putL_d6 | with_reducible exact putL_d7 | with_reducible exact putL_d8 | with_reducible exact putL_d2 | with_reducible exact putL_d3 | (refine' putL_hd ?xZ; (case xZ => decide +kernel)) | (refine' putL_tl ?xZ ?yZ; (case xZ => decide +kernel); (case yZ => k_extra "L my putL")))
  (k_with "L my putN" => first | with_reducible exact putN_d4 | with_reducible exact putN_d5 | with_reducible exact putN_d6 | with_reducible exact putN_d7 | with_reducible exact putN_d8 | with_reducible exact putN_d2 | with_reducible exact putN_d3 | (refine' putN_hd ?xZ; (case xZ => decide +kernel)) | (refine' putN_tl ?xZ ?yZ; (case xZ => decide +kernel); (case yZ => k_extra "L my putN")))
  (k_with "L all" => first | assumption | exact allLt_ne (by assumption) | exact allLt_ne (And.right (by assumption)) | exact allLt_ne (And.right (And.right (by assumption))) | exact allLt_ne (And.right (And.right (And.right (by assumption)))))
  (k_with "L room" => ((try simp only [depth_under_make, depth_under_kw, depth_in1, depth_deeper, depth_caller]); (try dsimp only [ktrTop]); omega))
  (k_with "L execs cons" => (refine r_consL ?_; intro _))
  (k_with "L execs nil" => refine wpAny_execs_nil ?_)
  (k_with "L exec If" => refine wpAny_If ?_)
  (k_with "L eval Constant int" => refine r_int ?_)
  (k_with "L eval Constant bytes" => refine r_bytes ?_)
  (k_with "L eval Constant str" => refine r_str ?_)
  (k_with "L binaryOp Add int int" => refine r_add ?_)
  (k_with "L binaryOp Sub int int" => refine r_sub ?_)
  (k_with "L binaryOp BitAnd int int" => refine r_and ?_)
  (k_with "L binaryOp BitOr int int" => refine r_or ?_)
  (k_with "L binaryOp RShift int int" => (refine' r_shr ?aZ ?_; (case aZ => omega)))
  (k_with "L binaryOp Mod int int" => (refine' r_mod ?aZ ?_; (case aZ => omega)))
  (k_with "L binaryOp LShift int int" => first | with_reducible refine r_shl09 ?_ | with_reducible refine r_shl10 ?_ | with_reducible refine r_shl12 ?_ | with_reducible refine r_shl28 ?_ | (refine' r_shl ?aZ ?bZ ?cZ ?_; (case aZ | bZ | cZ => omega)))
  (k_with "L call builtin:len" => ( (with_reducible show wpAny _ _ (call (Value.builtin "len") [Value.ref _]) _ _ _); refine' r_len ?NZ ?mZ ?zZ ?_; (case NZ => k_asm); (case mZ => k_mem); (case zZ => first | omega | (simp only [List.size_toArray, Array.size_push] at *; omega))))
  (k_with "L getAttr ref" => (k_here; k_dflt ( refine' r_getattr ?k1Z ?k2Z ?k3Z ?k4Z ?k5Z ?k6Z ?k7Z ?k8Z ?k9Z ?_; (case k1Z | k2Z => k_asm); (case k3Z => k_inst); (case k4Z | k5Z | k6Z | k7Z => k_is); (case k8Z => k_get); (case k9Z => k_handed); k_whole)))
  (k_with "L setAttr ref" => (k_here; k_dflt (first | (refine' r_setattr ?k1Z ?k2Z ?k3Z ?k4Z ?k5Z ?k6Z ?k7Z ?k8Z ?k9Z ?k10Z ?k11Z ?k11bZ ?k12Z ?k13Z ?_; (case k1Z | k2Z | k3Z => k_asm); (case k4Z => k_inst); (case k5Z => exact rfl); (case k6Z | k7Z | k8Z | k9Z => k_is); (case k10Z => k_get); (case k11Z => (intro _; k_extra "L my putL")); (case k11bZ => k_extra "L my putN"); (case k12Z => k_upd); (case k13Z => exact Nat.le_of_ble_eq_true rfl); k_whole; intro _ _ _ _; (try k_sweep)) | (refine' r_newattr ?k1Z ?k2Z ?k3Z ?k4Z ?k5Z ?k6Z ?k7Z ?k8Z ?k9Z ?k10Z ?k11Z ?k12Z ?k13Z ?_; (case k1Z | k2Z | k3Z => k_asm); (case k4Z => k_inst); (case k5Z => exact rfl); (case k6Z | k7Z | k8Z | k9Z => k_is); (case k10Z => k_get); (case k11Z => exact rfl); (case k12Z => exact Nat.le_of_ble_eq_true rfl); (case k13Z => k_updF); k_whole; intro _ _ _ _ _ N'; (dsimp only [List.cons_append, List.nil_append] at N'); (try (revert N'; intro _)); (try k_sweep)))))
  (k_with "L storeName" => (k_here; k_dflt ( refine' r_store ?k1Z ?k2Z ?k3Z ?k4Z ?_; (case k1Z | k2Z => k_asm); (case k3Z | k4Z => rfl); k_whole; intro _ _ _ _; (try k_sweep))))
  (k_with "L newList" => (k_here; k_dflt (refine' r_newList ?k1Z ?k2Z ?k3Z ?_; (case k1Z | k2Z => k_asm); (case k3Z => exact Nat.le_of_ble_eq_true rfl); k_whole); intro _ _ _ _ l1; (try k_lt l1); (try (revert l1; intro _)); (try k_sweep)))
  (k_with "L call builtin:list.append" => (k_here; (with_reducible show wpAny _ _ (call (Value.builtin _) [Value.ref _, _]) _ _ _); k_dflt (refine' r_append ?k1Z ?k2Z ?k3Z ?zZ ?_; (case k1Z | k2Z => k_asm); (case k3Z => k_upd); (case zZ => first | omega | (simp only [List.size_toArray, Array.size_push] at *; omega)); k_whole); intro _ _ _; (try k_sweep)))
  (k_with "L my enter" => (refine' r_enter ?k1Z ?k2Z ?k3Z ?k4Z ?k5Z ?kAZ ?kFZ ?kKZ ?k6Z ?k7Z ?k8Z ?k9Z ?kBZ ?_ ?c2Z ?c3Z ?c4Z ?c5Z; (case kAZ | kFZ => exact rfl); (case kKZ => first | assumption | exact rfl); (case k1Z | k2Z | k3Z | k4Z | k5Z => k_asm); (case k6Z | k7Z => k_is); (case k8Z => k_room); (case k9Z => first | exact BindsTo.of_eq rfl | exact binds_K (by k_in) rfl (by k_is) rfl rfl rfl); (case c5Z => decide); (case kBZ => exact locs rfl); (case c2Z | c3Z | c4Z => exact rfl); k_whole; intro _ _ _ _ _ _ _ _ _ _; (try dsimp only); (try k_fold)))
  (k_with "L my class" => (refine' call_cls ?k1Z ?k2Z ?k3Z ?k4Z ?k5Z ?k6Z ?_; (case k1Z | k2Z | k3Z => k_asm); (case k4Z | k5Z | k6Z => k_is); k_whole; intro _ _ _ _ _ l1 l2; (try k_lt l1); (try (revert l1; intro _)); (try k_lt2 l2); (try (revert l2; intro _)); (try k_sweep); k_extra "L my enter"))
  (k_with "L call ref" => (k_here; k_dflt (first | k_extra "L my class" | (refine wpAny_call ?_; k_extra "L my enter"))))
  (k_with "L my sub" => first | exact mem_all | (refine List.forall_mem_cons.mpr ⟨?_, ?_⟩; (k_mem); k_extra "L my sub") | exact List.forall_mem_nil _ | (refine mem_step ?_; k_extra "L my sub"))
  (k_with "L my blen" => first | k_extra "L om" | exact Nat.zero_le _ | ((simp only [List.length_append, List.length_cons, List.length_nil, List.length_take, List.length_drop]); omega) | omega | exact Nat.le_trans (cut_length _ _ _) (by omega) | (simp only [List.length_append, List.length_cons, List.length_nil, List.length_take, List.length_drop]; omega))
  (k_with "L binaryOp Add bytes bytes" => (refine' r_badd ?zZ ?z2Z ?_; (case zZ | z2Z => k_extra "L my blen"); intro _ _))
  (k_with "L compareOp Eq bytes bytes" => refine r_beq ?_)
  (k_with "L subscriptTail" => (k_here; (with_reducible show wpAny _ _ (subscriptTail _ (Expr.Slice _ _ none _) (Value.bytes _ _) (Value.ref _)) _ _ _); k_dflt (refine' r_slice ?FZ ?NZ ?lZ ?uZ ?zZ ?_ ?sZ ?tZ; (case FZ | NZ => k_asm); (case lZ | uZ => constructor); (case zZ => omega); (case sZ => with_unfolding_all rfl); (case tZ => intro _; with_unfolding_all rfl)); intro _ _ _ _ _; (try k_sweep)))
  (k_with "L subscriptTail" => (k_here; (with_reducible show wpAny _ _ (subscriptTail _ _ (Value.ref _) (Value.int _ _)) _ _ _); k_dflt (refine' r_item ?NZ ?mZ ?aZ ?bZ ?xZ ?_ ?sZ ?tZ; (case NZ => k_asm); (case mZ => k_mem); (case aZ | bZ => omega); (case xZ => first | assumption | rfl); (case sZ => with_unfolding_all rfl); (case tZ => intro _; with_unfolding_all rfl))))
  (k_with "L my ev" => first | ((with_reducible show Ev _ _ _ _ _ _ _ (Expr.Constant _ _ _) _ _ _); first | exact ev_int | (intro _ _ Hx; walk1; with_reducible exact Hx)) | ((with_reducible show Ev _ _ _ _ _ _ _ (Expr.Name _ _) _ _ _); first | (refine' ev_L ?FZ ?vZ ?aZ ?bZ ?dZ; (case FZ => k_asm); (case aZ | bZ => rfl); (case dZ => decide); (case vZ => rfl)) | (intro _ _ Hx; walk1; with_reducible exact Hx)) | ((with_reducible show Ev _ _ _ _ _ _ _ (Expr.Attribute _ _ _) _ _ _); refine' ev_attr ?k1Z ?k2Z ?vZ ?k3Z ?k4Z ?k5Z ?k6Z ?k7Z ?k8Z ?k9Z ?aZ ?bZ ?dZ; (case k1Z | k2Z => k_asm); (case aZ | bZ => rfl); (case dZ => decide); (case vZ => rfl); (case k3Z => k_inst); (case k4Z | k5Z | k6Z | k7Z => k_is); (case k8Z => k_get); (case k9Z => k_handed)) | ((with_reducible show Ev _ _ _ _ _ _ _ (Expr.BinOp _ _ _ _) _ _ _); refine' ev_bin ?lZ ?rZ ?oZ; (case lZ | rZ => k_extra "L my ev"); (case oZ => (intro _ _ Hx; walk1; with_reducible exact Hx))) | ((with_reducible show Ev _ _ _ _ _ _ _ (Expr.Call (Expr.Name (Str.ofString "len") _) [_] [] _) _ _ _); intro _ _ Hx; (repeat walk1); with_reducible exact Hx))
  (k_with "L eval BinOp" => (k_here; k_dflt (refine' ev_use ?hZ ?_; (case hZ => k_extra "L my ev"); k_whole)))
  (k_with "L eval Attribute Name" => (k_here; k_dflt (refine' ev_use ?hZ ?_; (case hZ => k_extra "L my ev"); k_whole)))
  (k_with "L isTrue Compare" => (k_here; k_dflt (refine' ev_isTrue ?lZ ?rZ ?oZ ?mZ ?_; (case lZ | rZ => k_extra "L my ev"); (case oZ => (intro _ _ Hx; walk1; with_reducible exact Hx)); (case mZ => with_unfolding_all rfl); k_whole)))
  (k_with "L call ref" => (k_here; (with_reducible show wpAny _ _ (call (Value.ref 45) _) _ _ _); refine' r_excMake ?k1Z ?k2Z ?k3Z ?k4Z ?k5Z ?k6Z ?k7Z ?_; (case k1Z | k2Z | k3Z => k_asm); (case k4Z => exact Nat.le_of_ble_eq_true rfl); (case k5Z => kernel_rfl); (case k6Z | k7Z => k_is); k_whole; intro _ _ _ _ _ l1; (try k_lt l1); (try (revert l1; intro _)); (try k_sweep); k_extra "L my enter"))
  (k_with "L setAttr ref" => (k_here; (with_reducible show wpAny _ _ (setAttr _ "told" (Value.bytes _ _)) _ _ _); refine' r_excSet ?k1Z ?k2Z ?k3Z ?k4Z ?_; (case k1Z | k2Z | k3Z => k_asm); (case k4Z => k_updF); k_whole; intro _ _ _ _ _ _ _ l1; (try k_lt l1); (try (revert l1; intro _)); (try k_sweep)))
  (k_with "L Inst45" => (k_here; k_dflt (refine' ⟨_, _, _, rfl, ?aZ, ?cZ, ?dZ, ?eZ, ?bZ, ?_⟩; (case aZ => exact (News.get (by k_asm) (by k_mem))); (case cZ | dZ | eZ => exact rfl); (case bZ => exact Frag.In.keeps (by k_asm) (Fr.keep (by k_asm))); k_whole)))
  (k_with "L exec Raise some none" => (k_here; k_dflt (refine' r_raise ?aZ ?_; (case aZ => rfl); k_whole)))
  (k_with "L my nes" => first | exact List.forall_mem_nil _ | k_all | (refine List.forall_mem_cons.mpr ⟨?_, ?_⟩; (show @Ne Nat _ _; omega); k_extra "L my nes"))
  (k_with "L leaving ref" => (k_here; (rename Gone _ _ _ _ _ => gX); (rename Heap.UpToSlots _ _ => uX); k_dflt (refine' leave_more ?KZ ?FZ ?fZ ?RZ ?UZ ?_; (case KZ => assumption); (case RZ => exact gX); (case UZ => exact uX); (case FZ => assumption); (case fZ => exact rfl); k_whole); (try clear gX uX); intro _ _ _))
  (k_with "L leaving ref" => (k_here; k_dflt (refine' leave_first ?KZ ?FZ ?fZ ?kZ ?NZ ?aZ ?bZ ?_; (case KZ | FZ => assumption); (case fZ | kZ => exact rfl); (case NZ => assumption); (case aZ => k_extra "L my nes"); (case bZ => (show @Ne Nat _ _; omega)); k_whole); intro _ _ _))
  trivial
theorem told_d (w : World) (loose : List Str) (mean : ExcName → Option Value) (mg mb : Str → Option Value)
    (x d t : Addr) (n k : Nat) (kh : Nat → Int × Tok) (ve vd vl vb vm vw : Value) (its : Array Value) (last : Option (List UInt8)) (tkl tm : Tok)
    (code : Int) (tkc : Tok) (rest : List (Addr × Obj)) (hc : 258 ≤ code) (hz : its.size ≤ 600) (hc2 : ¬ code - 258 < its.size) (hl : last = none ∨ code - 258 ≠ its.size) :
    CallX w loose mean mg mb 5 (.ref 104) [.ref x, .int code tkc]
      ((x, instObj 121 d) :: (d, dictOf (decEs kh ve (.int 12 tm) vd vl vb vm vw (.ref t) (lastV last tkl)) n) :: (t, listOf its k) :: rest)
      (fun _ _ => False) (fun news' => news' = (x, instObj 121 d) :: (d, dictOf (decEs kh ve (.int 12 tm) vd vl vb vm vw (.ref t) (lastV last tkl)) n) :: (t, listOf its k) :: rest) := by
  unfold CallX
  intro dp un gd cn cs a ccd cl outer A₀ base h₀ L m s Q E
  k_fill
  obtain ⟨hp, gn, dr, tk0, os⟩ := s
  intro B F X N T hk hd hu hret hexc
  refine wpAny_call ?_
  rcases last with _ | l
  all_goals (try (rcases hl with hl | hl; · cases hl))
  all_goals (
    dsimp only [lastV] at N
    k_dflt (walk_at "my enter")
    k_steps)
  all_goals (
    (rename Gone _ _ _ _ _ => G9)
    (rename Heap.UpToSlots _ _ => U9)
    exact hexc _ _ _ _ _ (by assumption) U9 (Gone.sub G9 (by walk_at "my sub")) rfl)
section
/-! contracts, used in a frame one deeper -/
def CallC (w : World) (loose : List Str) (mean : ExcName → Option Value) (mg mb : Str → Option Value) (lvl : Nat)
    (f : Value) (args : List Value) (news : List (Addr × Obj)) (Post : Value → List (Addr × Obj) → Prop) (PostE : List (Addr × Obj) → Prop) : Prop :=
  ∀ (dp un : Nat) (gd : Option (List Code)) (cn : Str) (cs : Scope) (a : Addr) (ccd : Value) (cl : List (Str × Addr)) (outer : List Env)
    (A₀ : Around) (base h₀ : Heap) (L : Addr) (m : Str → Option Value) (s : Shared) (Q E : Value → Shared → Prop),
    Below A₀ base outer h₀ → Fr h₀ L s.heap m → (Mine.hd.heap_39 w.params).In h₀ → News h₀ L s.heap news →
    Top Mine.hd.view_39 loose mean mg mb h₀ → cs.kind = .function →
    dp + lvl < recursionLimit → un + 8 * lvl < cLine →
    (∀ r news' h' tk', Fr h₀ L h' m → News h₀ L h' news' → Post r news' → Q r { s with heap := h', toks := tk' }) →
    (∀ e g₂ news' h' tk', Fr h₀ L g₂ m → g₂.UpToSlots h' → Gone base (envX cn cs L a ccd cl :: outer) e news' h' → PostE news' → E (.ref e) { s with heap := h', toks := tk' }) →
    wpC (model PySem.Challenge.rw_nt0490_01.row.prog w) (ktrTop dp un gd cn cs L a ccd cl outer) (call f args) Q E s
section
variable {w : World} {loose : List Str} {mean : ExcName → Option Value} {mg mb : Str → Option Value} {lvl : Nat} {f : Value} {args : List Value} {news : List (Addr × Obj)} {Post : Value → List (Addr × Obj) → Prop} {PostE : List (Addr × Obj) → Prop}
  {dp un : Nat} {gd : Option (List Code)} {cn : Str} {cs : Scope} {L a : Addr} {ccd : Value} {cl : List (Str × Addr)} {outer : List Env} {qual : Str} {scope : Scope} {L' f' : Addr} {cdv : Value}
  {A₀ : Around} {base g : Heap} {m : Str → Option Value} {Q E : Value → Shared → Prop} {h : Heap} {gn : Array GenState} {dr : Drawn} {t : Nat} {os : OsState}
theorem CallOk.at (H : CallOk w loose mean mg mb lvl f args news Post) (B : Below A₀ base (envX cn cs L a ccd cl :: outer) g) (F : Fr g L' h m) (X : (Mine.hd.heap_39 w.params).In g) (N : News g L' h news)
    (T : Top Mine.hd.view_39 loose mean mg mb g) (hk : scope.kind = .function) (hd : dp + 1 + lvl < recursionLimit) (hu : un + 3 + 8 * lvl < cLine)
    (hret : ∀ r news' h' tk', Fr g L' h' m → News g L' h' news' → Post r news' → Q r ⟨h', gn, dr, tk', os⟩) :
    wpAny (model PySem.Challenge.rw_nt0490_01.row.prog w) ((ktrTop dp un gd cn cs L a ccd cl outer).deeper (envOf qual scope L' f' cdv)) (call f args) Q E ⟨h, gn, dr, t, os⟩ :=
  H (dp + 1) (un + 3) gd qual scope f' cdv [] (envX cn cs L a ccd cl :: outer) A₀ base g L' m ⟨h, gn, dr, t, os⟩ Q E B F X N T hk hd hu hret
theorem CallX.at (H : CallX w loose mean mg mb lvl f args news Post PostE) (B : Below A₀ base (envX cn cs L a ccd cl :: outer) g) (F : Fr g L' h m) (X : (Mine.hd.heap_39 w.params).In g) (N : News g L' h news)
    (T : Top Mine.hd.view_39 loose mean mg mb g) (hk : scope.kind = .function) (hd : dp + 1 + lvl < recursionLimit) (hu : un + 3 + 8 * lvl < cLine)
    (hret : ∀ r news' h' tk', Fr g L' h' m → News g L' h' news' → Post r news' → Q r ⟨h', gn, dr, tk', os⟩)
    (hexc : ∀ e g₂ news' h' tk', Fr g L' g₂ m → g₂.UpToSlots h' → Gone base (envOf qual scope L' f' cdv :: envX cn cs L a ccd cl :: outer) e news' h' → PostE news' → E (.ref e) ⟨h', gn, dr, tk', os⟩) :
    wpAny (model PySem.Challenge.rw_nt0490_01.row.prog w) ((ktrTop dp un gd cn cs L a ccd cl outer).deeper (envOf qual scope L' f' cdv)) (call f args) Q E ⟨h, gn, dr, t, os⟩ :=
  H (dp + 1) (un + 3) gd qual scope f' cdv [] (envX cn cs L a ccd cl :: outer) A₀ base g L' m ⟨h, gn, dr, t, os⟩ Q E B F X N T hk hd hu hret hexc
theorem CallC.at (H : CallC w loose mean mg mb lvl f args news Post PostE) (B : Below A₀ base (envX cn cs L a ccd cl :: outer) g) (F : Fr g L' h m) (X : (Mine.hd.heap_39 w.params).In g) (N : News g L' h news)
    (T : Top Mine.hd.view_39 loose mean mg mb g) (hk : scope.kind = .function) (hd : dp + 1 + lvl < recursionLimit) (hu : un + 3 + 8 * lvl < cLine)
    (hret : ∀ r news' h' tk', Fr g L' h' m → News g L' h' news' → Post r news' → Q r ⟨h', gn, dr, tk', os⟩)
    (hexc : ∀ e g₂ news' h' tk', Fr g L' g₂ m → g₂.UpToSlots h' → Gone base (envOf qual scope L' f' cdv :: envX cn cs L a ccd cl :: outer) e news' h' → PostE news' → E (.ref e) ⟨h', gn, dr, tk', os⟩) :
    wpC (model PySem.Challenge.rw_nt0490_01.row.prog w) ((ktrTop dp un gd cn cs L a ccd cl outer).deeper (envOf qual scope L' f' cdv)) (call f args) Q E ⟨h, gn, dr, t, os⟩ :=
  H (dp + 1) (un + 3) gd qual scope f' cdv [] (envX cn cs L a ccd cl :: outer) A₀ base g L' m ⟨h, gn, dr, t, os⟩ Q E B F X N T hk hd hu hret hexc
end
section
variable {w : World} {h : Heap} {M : Model}
theorem keep_ref {f : Addr} (X : (Mine.hd.heap_39 w.params).In h) (hk : keepIn (Mine.hd.heap_39 w.params) (.ref f) = true) : KeepAt M (.ref f) h := keeps_K hk h X
theorem meth_append {pl : Sem Bool} {x : Addr} {b : List UInt8} (hx : h.get? x = some (baObj b)) : Looks M h (getMethod (.ref x) "append" pl) (.builtin "bytearray.append", [.ref x]) := by
  have ty : Looks M h (typeOf (.ref x)) (.type "bytearray") := (Looks.ld hx).andThen .now
  have l1 := slot_ba_append.lookup
  have l2 : typeLookup (.type "bytearray") "__getattribute__" = pure (some (.builtin "bytearray.__getattribute__")) := by rw [typeLookup_type, builtinLookup_eq_fast]; kernel_rfl
  have l3 : typeLookup (.type "bytearray") "__getattr__" = pure none := by rw [typeLookup_type, builtinLookup_eq_fast]; kernel_rfl
  have l4 : typeOf (.builtin "bytearray.append") = pure (.type "method_descriptor") := by kernel_rfl
  have c1 : (Manifest.canonical "bytearray.__getattribute__" != "object.__getattribute__") = false := by decide +kernel
  intro A Q E s k q
  obtain ⟨hp, g, d, t, os⟩ := s
  have hx' := k _ _ hx
  have ty' := ty.keeps k
  dsimp only at hx' ty'
  unfold getMethod specialOf
  repeat (first | rw [l1] | rw [l2] | rw [l3] | rw [l4] | rw [if_neg (by rw [c1]; exact Bool.false_ne_true)] | lk)
  exact q
theorem meth_extend {pl : Sem Bool} {x : Addr} {b : List UInt8} (hx : h.get? x = some (baObj b)) : Looks M h (getMethod (.ref x) "extend" pl) (.builtin "bytearray.extend", [.ref x]) := by
  have ty : Looks M h (typeOf (.ref x)) (.type "bytearray") := (Looks.ld hx).andThen .now
  have l1 := slot_ba_extend.lookup
  have l2 : typeLookup (.type "bytearray") "__getattribute__" = pure (some (.builtin "bytearray.__getattribute__")) := by rw [typeLookup_type, builtinLookup_eq_fast]; kernel_rfl
  have l3 : typeLookup (.type "bytearray") "__getattr__" = pure none := by rw [typeLookup_type, builtinLookup_eq_fast]; kernel_rfl
  have l4 : typeOf (.builtin "bytearray.extend") = pure (.type "method_descriptor") := by kernel_rfl
  have c1 : (Manifest.canonical "bytearray.__getattribute__" != "object.__getattribute__") = false := by decide +kernel
  intro A Q E s k q
  obtain ⟨hp, g, d, t, os⟩ := s
  have hx' := k _ _ hx
  have ty' := ty.keeps k
  dsimp only at hx' ty'
  unfold getMethod specialOf
  repeat (first | rw [l1] | rw [l2] | rw [l3] | rw [l4] | rw [if_neg (by rw [c1]; exact Bool.false_ne_true)] | lk)
  exact q
theorem keep_append : KeepAt M (.builtin "bytearray.append") h := ⟨.machine, .inr (.inl rfl), Looks.of_pure (by kernel_rfl)⟩
theorem keep_extend : KeepAt M (.builtin "bytearray.extend") h := ⟨.machine, .inr (.inl rfl), Looks.of_pure (by kernel_rfl)⟩
theorem keep_bytearray : KeepAt M (.type "bytearray") h := ⟨.machine, .inr (.inl rfl), Looks.of_pure (by kernel_rfl)⟩
end
end
section
-- free
/-! an own class made, in walks for clean stacks -/
open PySem.Calls PySem.Builtin PySem.Builtin.ObjectAttr PySem.Builtin.Getset_descriptor
theorem reg_CCls0 : True := by
  (k_with "L ck" => first | with_reducible refine wpC_bind ?_ | ((with_reducible show wpC _ _ _ _ _ _); dsimp only) | ((with_reducible show wpC _ _ (ite _ _ _) _ _ _); first | rw [if_pos (by first | rfl | decide | assumption)] | rw [if_neg (by first | decide | assumption | (intro q; cases q; (try (revert q; intro _))))]) | with_reducible refine wpC_holding ?_ | (with_reducible refine wpC_of_any ?_; lk) | lk)
  trivial
section
variable {prog : Program} {w : World} {A : Around} {K : Frag} {C : Addr} {R : Result → Shared → Prop} {h : Heap} {g : Array GenState} {d : Drawn} {t : Nat} {os : OsState} {s : Shared}
theorem codeC_call_builtin_at {id : String} {args : Args} {b : Builtin} (hq : (Code.builtin id args).quiet = true) (hbad : badCode (.builtin id args) = false) (hb : entryFor table id = some b)
    (h : wpAny (model prog w) A.in1 (checkBuiltinCall id args) (fun _ s₁ => wpC (model prog w) (A.under (.builtin id args)) (b args)
      (fun fin s' => match fin with | .done f => R (.ok f) s' | .again c' => c'.quiet = true ∧ codeC (model prog w) A c' R s') (fun e s' => R (.error e) s') s₁)
      (fun e s' => R (.error e) s') s) : codeC (model prog w) A (.call (.builtin id) args) R s := by
  refine codeC_of_tree rfl (wpC_of_any ?_)
  show wpAny _ A.in1 (do checkBuiltinCall id args; again (.builtin id args)) _ _ s
  refine wpAny_bind (wpAny_mono h (fun _ s₁ h₁ => wpAny_pure (And.intro hq (codeC_of_tree hbad ?_))) fun _ _ h' => h')
  show wpC _ _ (match entryFor table id with | some b => b args | none => unsupported ((withoutEnding? id "#data").getD id)) _ _ s₁
  rw [hb]; exact h₁
theorem c_make_core {rest : List Value} {kw : List (Str × Value)} {init : Value} (Y : Makes (model prog w) h C) (hi : Looks (model prog w) h (typeLookup (.ref C) "__init__") (some init))
    (hb : ∀ self, Looks (model prog w) h (bindSpecial init self) (init, [self])) (hne : (some init != some (Value.builtin "object.__init__")) = true ∨ (rest = [] ∧ kw = []))
    (hq : codeC (model prog w) (A.under (.builtin "type.__call__" ⟨.ref C :: rest, kw⟩)) (.call init ⟨.ref (h.objs.size + 1) :: rest, kw⟩) (InitBack (h.objs.size + 1) R) ⟨(h.push emptyDict).push (instObj C h.objs.size), g, d, t, os⟩) :
    codeC (model prog w) A (.call (.ref C) ⟨rest, kw⟩) R ⟨h, g, d, t, os⟩ := by
  have Y' := Y
  obtain ⟨⟨oc, od, cd, sl, hC, e1, e2, e4⟩, made, base, self, top, call, typ⟩ := Y
  refine codeC_of_tree rfl (wpC_of_any ?_)
  show wpAny _ _ (callAny (.ref C) _) _ _ _
  refine nd_load hC ?_
  show wpAny _ _ (callAny.viaDunder (.ref C) _) _ _ _
  unfold callAny.viaDunder
  refine wpAny_bind (call.at ?_)
  dsimp only
  rw [tc_bind]
  refine wpAny_bind (wpAny_pure (wpAny_bind (wpAny_pure ?_)))
  refine wpAny_pure (a := Fin.again (.call (.builtin "type.__call__") ⟨.ref C :: rest, kw⟩)) (And.intro rfl ?_)
  refine codeC_call_builtin_at (Code.quiet_builtin _ (by decide +kernel)) (by show badIds.contains "type.__call__" = false; decide +kernel) entry_typeCall (check_slot tc_kind tc_split typ (tc_args _ _ _) ?_)
  unfold Builtin.«type.__call__»
  have hm : Looks (model prog w) h (mroOf (.ref C)) cd.mro := ((Looks.ld (part := none) hC).andThen .now).andThen .now
  repeat (first | with_reducible refine wpC_call ?_ | walk_at "ck" | simp only [e4, Bool.false_eq_true, if_false])
  refine codeC_of_any (new_K Y' hi hne ?_)
  have k : ∀ b o, h.get? b = some o → ((h.push emptyDict).push (instObj C h.objs.size)).get? b = some o := fun b o e => Heap.get?_push_of_some _ (Heap.get?_push_of_some _ e)
  have hx : ((h.push emptyDict).push (instObj C h.objs.size)).get? (h.objs.size + 1) = some (instObj C h.objs.size) := by heap_get
  have t1 : Looks (model prog w) ((h.push emptyDict).push (instObj C h.objs.size)) (typeOf (.ref (h.objs.size + 1))) (.ref C) := (Looks.ld hx).andThen .now
  have s1 := self.keeps k
  have i1 := hi.keeps k
  have b1 := (hb (.ref (h.objs.size + 1))).keeps k
  unfold isInstance callSpecial? specialOf
  repeat (first | with_reducible refine wpC_call ?_ | walk_at "ck")
  refine codeC_mono hq fun r s' z => ?_
  rcases r with e | (v | _ | _ | _) <;> first | exact z | exact z.elim | skip
  obtain ⟨rfl, z⟩ := z
  exact wpC_pure (wpC_pure z)
end
section
variable {prog : Program} {w : World} {A : Around} {K : Frag} {C : Addr} {E Q : Value → Shared → Prop} {h h₀ : Heap} {g : Array GenState} {d : Drawn} {t : Nat} {os : OsState} {L : Addr} {m : Str → Option Value} {news : List (Addr × Obj)}
theorem c_cls {pos : List Value} {fI : Addr} (F : Fr h₀ L h m) (X₀ : K.In h₀) (N : News h₀ L h news) (hm : makesIn K C = true) (hi : findIn K (.ref C) "__init__" = some (some (.ref fI))) (hf : isFn K (.ref fI) = true)
    (H : ∀ x dx h', Fr h₀ L h' m → News h₀ L h' ((x, instObj C dx) :: (dx, dictOf [] 0) :: news) → (∀ p ∈ news, p.1 < dx) → dx < x →
      codeC (model prog w) (A.under (.builtin "type.__call__" ⟨.ref C :: pos, []⟩)) (.call (.ref fI) ⟨.ref x :: pos, []⟩) (InitBack x fun r s' => match r with | .ok (.ret v) => Q v s' | .ok _ => False | .error e => E e s') ⟨h', g, d, t, os⟩) :
    wpC (model prog w) A (call (.ref C) pos) Q E ⟨h, g, d, t, os⟩ := by
  have X := X₀.keeps F.keep
  refine wpC_call (c_make_core (makes_of X hm) (looks_findIn X hi) (fun self => bind_fn X self (beq_iff_eq.mp hf)) (.inl rfl) (H _ h.objs.size _ ((F.push _).push _) ?_ (fun p hp => Heap.lt_size (N p hp).1) (Nat.lt_succ_self _)))
  have := (N.push F emptyDict).push (F.push _) (instObj C h.objs.size)
  rwa [Heap.size_push] at this
end
theorem under_make {A : Around} {C : Addr} {pos : List Value} {kw : List (Str × Value)} : A.under (.builtin "type.__call__" ⟨.ref C :: pos, kw⟩) = { A with depth := A.depth + 1, units := A.units + 1 } := by
  have h1 : (Code.builtin "type.__call__" ⟨.ref C :: pos, kw⟩).weight = 1 := by kernel_rfl
  have h2 : (Code.builtin "type.__call__" ⟨.ref C :: pos, kw⟩).envs = [] := by kernel_rfl
  have h3 : (Code.builtin "type.__call__" ⟨.ref C :: pos, kw⟩).guards = [] := by kernel_rfl
  have h4 : (Code.builtin "type.__call__" ⟨.ref C :: pos, kw⟩).cUnits = 1 := by kernel_rfl
  obtain ⟨hd, dp, fr, gs, u⟩ := A
  simp [Around.under, h1, h2, h3, h4, pushEnvs, pushGuards]
end
section
/-! contracts, used in a frame one deeper that has cells -/
section
variable {w : World} {loose : List Str} {mean : ExcName → Option Value} {mg mb : Str → Option Value} {lvl : Nat} {f : Value} {args : List Value} {news : List (Addr × Obj)} {Post : Value → List (Addr × Obj) → Prop} {PostE : List (Addr × Obj) → Prop}
  {dp un : Nat} {gd : Option (List Code)} {cn : Str} {cs : Scope} {L a : Addr} {ccd : Value} {cl : List (Str × Addr)} {outer : List Env} {qual : Str} {scope : Scope} {L' f' : Addr} {cdv : Value} {cl' : List (Str × Addr)}
  {A₀ : Around} {base g : Heap} {m : Str → Option Value} {Q E : Value → Shared → Prop} {h : Heap} {gn : Array GenState} {dr : Drawn} {t : Nat} {os : OsState}
theorem CallOk.atX (H : CallOk w loose mean mg mb lvl f args news Post) (B : Below A₀ base (envX cn cs L a ccd cl :: outer) g) (F : Fr g L' h m) (X : (Mine.hd.heap_39 w.params).In g) (N : News g L' h news)
    (T : Top Mine.hd.view_39 loose mean mg mb g) (hk : scope.kind = .function) (hd : dp + 1 + lvl < recursionLimit) (hu : un + 3 + 8 * lvl < cLine)
    (hret : ∀ r news' h' tk', Fr g L' h' m → News g L' h' news' → Post r news' → Q r ⟨h', gn, dr, tk', os⟩) :
    wpAny (model PySem.Challenge.rw_nt0490_01.row.prog w) ((ktrTop dp un gd cn cs L a ccd cl outer).deeper (envX qual scope L' f' cdv cl')) (call f args) Q E ⟨h, gn, dr, t, os⟩ :=
  H (dp + 1) (un + 3) gd qual scope f' cdv cl' (envX cn cs L a ccd cl :: outer) A₀ base g L' m ⟨h, gn, dr, t, os⟩ Q E B F X N T hk hd hu hret
theorem CallX.atX (H : CallX w loose mean mg mb lvl f args news Post PostE) (B : Below A₀ base (envX cn cs L a ccd cl :: outer) g) (F : Fr g L' h m) (X : (Mine.hd.heap_39 w.params).In g) (N : News g L' h news)
    (T : Top Mine.hd.view_39 loose mean mg mb g) (hk : scope.kind = .function) (hd : dp + 1 + lvl < recursionLimit) (hu : un + 3 + 8 * lvl < cLine)
    (hret : ∀ r news' h' tk', Fr g L' h' m → News g L' h' news' → Post r news' → Q r ⟨h', gn, dr, tk', os⟩)
    (hexc : ∀ e g₂ news' h' tk', Fr g L' g₂ m → g₂.UpToSlots h' → Gone base (envX qual scope L' f' cdv cl' :: envX cn cs L a ccd cl :: outer) e news' h' → PostE news' → E (.ref e) ⟨h', gn, dr, tk', os⟩) :
    wpAny (model PySem.Challenge.rw_nt0490_01.row.prog w) ((ktrTop dp un gd cn cs L a ccd cl outer).deeper (envX qual scope L' f' cdv cl')) (call f args) Q E ⟨h, gn, dr, t, os⟩ :=
  H (dp + 1) (un + 3) gd qual scope f' cdv cl' (envX cn cs L a ccd cl :: outer) A₀ base g L' m ⟨h, gn, dr, t, os⟩ Q E B F X N T hk hd hu hret hexc
theorem CallC.atX (H : CallC w loose mean mg mb lvl f args news Post PostE) (B : Below A₀ base (envX cn cs L a ccd cl :: outer) g) (F : Fr g L' h m) (X : (Mine.hd.heap_39 w.params).In g) (N : News g L' h news)
    (T : Top Mine.hd.view_39 loose mean mg mb g) (hk : scope.kind = .function) (hd : dp + 1 + lvl < recursionLimit) (hu : un + 3 + 8 * lvl < cLine)
    (hret : ∀ r news' h' tk', Fr g L' h' m → News g L' h' news' → Post r news' → Q r ⟨h', gn, dr, tk', os⟩)
    (hexc : ∀ e g₂ news' h' tk', Fr g L' g₂ m → g₂.UpToSlots h' → Gone base (envX qual scope L' f' cdv cl' :: envX cn cs L a ccd cl :: outer) e news' h' → PostE news' → E (.ref e) ⟨h', gn, dr, tk', os⟩) :
    wpC (model PySem.Challenge.rw_nt0490_01.row.prog w) ((ktrTop dp un gd cn cs L a ccd cl outer).deeper (envX qual scope L' f' cdv cl')) (call f args) Q E ⟨h, gn, dr, t, os⟩ :=
  H (dp + 1) (un + 3) gd qual scope f' cdv cl' (envX cn cs L a ccd cl :: outer) A₀ base g L' m ⟨h, gn, dr, t, os⟩ Q E B F X N T hk hd hu hret hexc
end
end
section
/-! loops in walks for clean stacks -/
open PySem.Calls
section
variable {M : Model} {A : Around} {s : Shared} {α : Type} {E : Value → Shared → Prop} {env : Env}
theorem codeC_loop' {c : Code} {R : Result → Shared → Prop} (hb : badCode c = false) (hq : c.quiet = true) (I : Nat → Shared → Prop)
    (turn : ∀ n s, I n s → wpC M (A.under c) (M.den c)
      (fun fin s' => match fin with
        | .done f => R (.ok f) s'
        | .again c' => (c' = c ∧ ∃ m, m < n ∧ I m s') ∨ (c'.quiet = true ∧ codeC M A c' R s')) (fun e s' => R (.error e) s') s)
    (n : Nat) (h : I n s) : codeC M A c R s := by
  induction n using Nat.strongRecOn generalizing s with
  | ind n ih =>
    refine codeC_of_tree hb (wpC_mono (turn n s h) (fun fin s' hf => ?_) fun _ _ h' => h')
    cases fin with
    | done f => exact hf
    | again c' =>
      rcases hf with ⟨rfl, m, hm, hI⟩ | hf
      · exact ⟨hq, ih m hm hI⟩
      · exact hf
theorem c_noted {m : Sem α} {Q : α → Shared → Prop} (h : wpC M A m Q (notedBy M A env E) s) : wpC M A (m.onRaise fun x => do noteFrame x env; theTreesLotGoes x) Q E s :=
  wpC_onRaise (wpC_mono h (fun _ _ q => q) fun _ _ hx => wpAny_bind (wpAny_mono hx (fun _ _ e => wpAny_theTreesLotGoes e) fun _ _ e => e))
end
section
variable {prog : Program} {w : World} {A : Around} {E : Value → Shared → Prop} {s : Shared} {env : Env} {R : Result → Shared → Prop}
theorem codeC_block {stmts : List Stmt} (h : wpC (model prog w) A (execs stmts env) (fun f s' => R (.ok f) s') (notedBy (model prog w) A env fun e s' => R (.error e) s') s) : codeC (model prog w) A (.block stmts env) R s := by
  refine codeC_of_tree rfl ?_
  show wpC _ _ (do return Fin.done (← (execs stmts env).onRaise (fun x => do noteFrame x env; theTreesLotGoes x))) _ _ s
  exact wpC_bind (c_noted (wpC_mono h (fun f s' h' => wpC_pure h') fun _ _ h' => h'))
theorem codeC_forLoop {target it body} (I : Nat → Shared → Prop)
    (turn : ∀ n s, I n s → wpAny (model prog w) A (pyNext it) (fun r s₁ => match r with
      | none => R (.ok .next) s₁
      | some v => wpAny (model prog w) A (letOwnedTupleGo target it v) (fun _ s₁' =>
          wpAny (model prog w) A (assign target env v) (fun _ s₂ => wpC (model prog w) A (execs body env) (fun f s₃ => match f with
            | .next | .cont => ∃ m, m < n ∧ I m s₃
            | .brk => R (.ok .next) s₃
            | .ret v => R (.ok (.ret v)) s₃) (notedBy (model prog w) A env fun e s' => R (.error e) s') s₂) (notedBy (model prog w) A env fun e s' => R (.error e) s') s₁') (notedBy (model prog w) A env fun e s' => R (.error e) s') s₁) (notedBy (model prog w) A env fun e s' => R (.error e) s') s)
    (n : Nat) (h : I n s) : codeC (model prog w) A (.forLoop target it body [] env) R s := by
  refine codeC_loop' rfl rfl I (fun n s hI => ?_) n h
  show wpC _ A ((forTurn target it body [] env).onRaise (fun x => do noteFrame x env; theTreesLotGoes x)) _ _ s
  refine c_noted ?_
  simp only [forTurn]
  refine wpC_bind (wpC_standAt (wpC_bind (wpC_onRaise (wpC_of_any (wpAny_mono (turn n s hI) (fun r s₁ h₁ => ?_) fun _ _ h' => wpAny_standAt h')))))
  cases r with
  | none => exact wpC_pure (.inr ⟨rfl, codeC_block (c_nil h₁)⟩)
  | some v =>
    refine wpC_bind (wpC_of_any (wpAny_mono h₁ (fun _ s₁' h₁' => ?_) fun _ _ h' => h'))
    refine wpC_bind (wpC_of_any (wpAny_mono h₁' (fun _ s₂ h₂ => wpC_bind (wpC_mono h₂ (fun f s₃ h₃ => ?_) fun _ _ h' => h')) fun _ _ h' => h'))
    cases f with
    | next => exact wpC_pure (.inl ⟨rfl, h₃⟩)
    | cont => exact wpC_pure (.inl ⟨rfl, h₃⟩)
    | brk => exact wpC_pure h₃
    | ret v => exact wpC_pure h₃
theorem codeC_whileLoop {test body} (I : Nat → Shared → Prop)
    (turn : ∀ n s, I n s →
      wpC (model prog w) A (isTrue test env (eval test env)) (fun b s₂ =>
        if b then wpC (model prog w) A (execs body env) (fun f s₃ => match f with
            | .next | .cont => ∃ m, m < n ∧ I m s₃
            | .brk => R (.ok .next) s₃
            | .ret v => R (.ok (.ret v)) s₃) (notedBy (model prog w) A env fun e s' => R (.error e) s') s₂
        else R (.ok .next) s₂)
        (notedBy (model prog w) A env fun e s' => R (.error e) s') s)
    (n : Nat) (h : I n s) : codeC (model prog w) A (.whileLoop test body [] env) R s := by
  refine codeC_loop' rfl rfl I (fun n s hI => ?_) n h
  show wpC _ A ((whileTurn test body [] env).onRaise (fun x => do noteFrame x env; theTreesLotGoes x)) _ _ s
  refine c_noted ?_
  simp only [whileTurn]
  refine wpC_bind (wpC_mono (turn n s hI) (fun b s₂ h₂ => ?_) fun _ _ h' => h')
  cases b with
  | false =>
    simp only [Bool.false_eq_true, if_false] at h₂ ⊢
    exact wpC_bind (c_nil (wpC_pure h₂))
  | true =>
    simp only [if_true] at h₂ ⊢
    refine wpC_bind (wpC_mono h₂ (fun f s₃ h₃ => ?_) fun _ _ h' => h')
    cases f with
    | next => exact wpC_pure (.inl ⟨rfl, h₃⟩)
    | cont => exact wpC_pure (.inl ⟨rfl, h₃⟩)
    | brk => exact wpC_pure h₃
    | ret v => exact wpC_pure h₃
/-- what a loop owes behind it -/
def LoopR (prog : Program) (w : World) (A : Around) (env : Env) (Q : Flow → Shared → Prop) (E : Value → Shared → Prop) (r : Result) (s' : Shared) : Prop :=
  match r with | .ok f => Q f s' | .error e => cameBackBy (model prog w) A env E e s'
theorem c_For {target iter body pos} {Q : Flow → Shared → Prop}
    (h : wpC (model prog w) A (eval iter env) (fun x s₁ => wpC (model prog w) A (pyIter x) (fun it s₂ => codeC (model prog w) A (.forLoop target it body [] env) (LoopR prog w A env Q E) s₂) E s₁) E s)
    (hs : ∀ x, foldedSetIterable iter env x = pure x := by intro _; rfl) : wpC (model prog w) A (exec (.For target iter body [] pos) env) Q E s := by
  rw [exec_For]
  refine wpC_bind (wpC_standAt (wpC_bind (wpC_mono h (fun x s₁ h₁ => ?_) fun _ _ h' => h')))
  rw [hs x]
  exact wpC_bind (wpC_pure (wpC_bind (wpC_standAt (wpC_bind (wpC_holding (wpC_mono h₁ (fun it s₂ h₂ => wpC_runOwn h₂) fun _ _ h' => h'))))))
theorem c_WhileR {test body pos} {Q : Flow → Shared → Prop} (h : codeC (model prog w) A (.whileLoop test body [] env) (LoopR prog w A env Q E) s) :
    wpC (model prog w) A (exec (.While test body [] pos) env) Q E s := c_While h
end
section
variable {prog : Program} {w : World} {A : Around} {h : Heap} {gn : Array GenState} {dr : Drawn} {t : Nat} {os : OsState} {R : Result → Shared → Prop}
  {h₀ : Heap} {L a : Addr} {cn : Str} {cs : Scope} {ccd : Value} {cl : List (Str × Addr)} {body : List Stmt}
inductive WalkI (h₀ : Heap) (L : Addr) (gn : Array GenState) (dr : Drawn) (os : OsState) (St : Nat → Heap → Prop) (rest : List (Addr × Obj)) (J : Nat → (Str → Option Value) → List (Addr × Obj) → Prop) (n k : Nat) (s' : Shared) : Prop
  | mk (h' : Heap) (tk : Nat) (m' : Str → Option Value) (news' : List (Addr × Obj)) (i : Nat) (h1 : s' = ⟨h', gn, dr, tk, os⟩) (h2 : St i h') (h3 : Fr h₀ L h' m') (h4 : News h₀ L h' (news' ++ rest)) (h5 : J i m' news') (h6 : i ≤ n) (h7 : k = n + 1 - i)
inductive NextC (h₀ : Heap) (L : Addr) (gn : Array GenState) (dr : Drawn) (os : OsState) (J : (Str → Option Value) → List (Addr × Obj) → Prop) (rest : List (Addr × Obj)) (s' : Shared) : Prop
  | mk (h' : Heap) (tk : Nat) (m : Str → Option Value) (news : List (Addr × Obj)) (h1 : s' = ⟨h', gn, dr, tk, os⟩) (h2 : Fr h₀ L h' m) (h3 : News h₀ L h' (news ++ rest)) (h4 : J m news)
/-- where a turn of a loop ends -/
def TurnC (h₀ : Heap) (L : Addr) (gn : Array GenState) (dr : Drawn) (os : OsState) (J : (Str → Option Value) → List (Addr × Obj) → Prop) (rest : List (Addr × Obj)) (R : Result → Shared → Prop) (f : Flow) (s' : Shared) : Prop :=
  match f with
  | .brk => R (.ok .next) s'
  | .ret v => R (.ok (.ret v)) s'
  | _ => NextC h₀ L gn dr os J rest s'
theorem own_of {h : Heap} : ∀ {l : List Addr}, (∀ b ∈ l, ∃ o, h.get? b = some o) → ∃ own : List (Addr × Obj), own.map (·.1) = l ∧ ∀ p ∈ own, h.get? p.1 = some p.2
  | [], _ => ⟨[], rfl, fun _ q => nomatch q⟩
  | b :: r, k => by
    obtain ⟨o, ho⟩ := k b (.head _)
    obtain ⟨own, e, q⟩ := own_of (l := r) fun c hc => k c (.tail _ hc)
    refine ⟨(b, o) :: own, by rw [List.map_cons, e], fun p hp => ?_⟩
    rcases List.mem_cons.mp hp with rfl | hp
    · exact ho
    · exact q p hp
theorem News.append {news news' : List (Addr × Obj)} (N : News h₀ L h news) (N' : News h₀ L h news') : News h₀ L h (news ++ news') := fun p hp => (List.mem_append.mp hp).elim (N p) (N' p)
theorem st_keep {fp wr : List Addr} {St : Nat → Heap → Prop} {j : Nat} {h h' : Heap} {own rest : List (Addr × Obj)} (frame : ∀ i h h', St i h → (∀ b ∈ fp, ∀ o, h.get? b = some o → h'.get? b = some o) → St i h')
    (hfp : ∀ b ∈ fp, b ∈ wr ∨ (∃ o, (b, o) ∈ rest) ∨ ∃ o, h₀.get? b = some o) (ho : own.map (·.1) = wr) (hown : ∀ p ∈ own, h.get? p.1 = some p.2) (hrest : ∀ p ∈ rest, h.get? p.1 = some p.2) (F : ∀ b o, h₀.get? b = some o → h.get? b = some o)
    (hst : St j h) (F' : ∀ b o, h₀.get? b = some o → h'.get? b = some o) (N' : ∀ p ∈ own ++ rest, h'.get? p.1 = some p.2) : St j h' := by
  refine frame _ _ _ hst fun b hb o e => ?_
  rcases hfp b hb with h1 | ⟨o', h1⟩ | ⟨o', h1⟩
  · rw [← ho] at h1
    obtain ⟨q, hq, rfl⟩ := List.mem_map.mp h1
    have := hown q hq
    rw [e] at this; cases this
    exact N' q (List.mem_append_left _ hq)
  · have := hrest _ h1
    dsimp only at this
    rw [e] at this; cases this
    exact N' _ (List.mem_append_right _ h1)
  · have := F _ _ h1
    rw [e] at this; cases this
    exact F' _ _ h1
theorem codeC_for_walk {I : Addr} {fp wr : List Addr} {n : Nat} {P : Nat → Value → Prop} {St : Nat → Heap → Prop} {x : Str} {px : Pos} {m₀ : Str → Option Value} {news₀ : List (Addr × Obj)}
    (W : Walks prog w A I fp wr n P St) (hk : cs.kind = .function) (hx : (envX cn cs L a ccd cl).kindOf x = some .local)
    (rest : List (Addr × Obj)) (hfp : ∀ b ∈ fp, b ∈ wr ∨ (∃ o, (b, o) ∈ rest) ∨ ∃ o, h₀.get? b = some o) (hwr : ∀ b ∈ wr, b ≠ L ∧ h₀.get? b = none)
    (hsome : ∀ i h, St i h → ∀ b ∈ wr, ∃ o, h.get? b = some o) (hr : ∀ p ∈ rest, p.1 ∉ wr)
    (J : Nat → (Str → Option Value) → List (Addr × Obj) → Prop) (hJ : ∀ i m news, J i m news → ∀ p ∈ news, p.1 ∉ wr)
    (turn : ∀ i v m news own h tk, i < n → P i v → own.map (·.1) = wr → J i m news → Fr h₀ L h (fun z => if z = x then some v else m z) → News h₀ L h (news ++ (own ++ rest)) →
      wpC (model prog w) A (execs body (envX cn cs L a ccd cl)) (TurnC h₀ L gn dr os (J (i + 1)) (own ++ rest) R) (notedBy (model prog w) A (envX cn cs L a ccd cl) fun e s' => R (.error e) s') ⟨h, gn, dr, tk, os⟩)
    (done : ∀ m news h tk, J n m news → Fr h₀ L h m → News h₀ L h (news ++ rest) → R (.ok .next) ⟨h, gn, dr, tk, os⟩)
    (hst : St 0 h) (F : Fr h₀ L h m₀) (N : News h₀ L h (news₀ ++ rest)) (h0 : J 0 m₀ news₀) :
    codeC (model prog w) A (.forLoop (.Name x px) (.ref I) body [] (envX cn cs L a ccd cl)) R ⟨h, gn, dr, t, os⟩ := by
  have old : ∀ b o, h₀.get? b = some o → b ∉ wr := fun b o e hb => by rw [(hwr b hb).2] at e; cases e
  have hLw : L ∉ wr := fun q => (hwr L q).1 rfl
  refine codeC_forLoop
    (WalkI h₀ L gn dr os St rest J n) ?_ (n + 1)
    ⟨h, t, m₀, news₀, 0, rfl, hst, F, N, h0, Nat.zero_le _, rfl⟩
  rintro k s' ⟨H, tk, m', news', i, rfl, hst', F', N', hJ', hi, rfl⟩
  have hn' : ∀ p ∈ news' ++ rest, p.1 ∉ wr := fun p hp => (List.mem_append.mp hp).elim (hJ _ _ _ hJ' p) (hr p)
  have next : ∀ h₁ : Heap, (∀ b o, b ∉ wr → H.get? b = some o → h₁.get? b = some o) → Fr h₀ L h₁ m' ∧ News h₀ L h₁ (news' ++ rest) := fun h₁ hk₁ =>
    ⟨⟨F'.ns.at' fun o e => hk₁ _ o hLw e, fun b o e => hk₁ b o (old b o e) (F'.keep b o e), F'.above⟩, fun p hp => ⟨hk₁ _ _ (hn' p hp) (N' p hp).1, (N' p hp).2⟩⟩
  by_cases hlt : i < n
  · refine W.item i _ _ _ hlt hst' fun v h₁ tk₁ hP hst₁ hk₁ => ?_
    refine wpAny_of_eq (a := ()) rfl ?_
    obtain ⟨F₁, N₁⟩ := next h₁ hk₁
    obtain ⟨own, ho, hown⟩ := own_of (hsome _ _ hst₁)
    have N₁' : News h₀ L h₁ (news' ++ (own ++ rest)) := fun p hp => by
      rcases List.mem_append.mp hp with q | q
      · exact N₁ p (List.mem_append_left _ q)
      rcases List.mem_append.mp q with q | q
      · have := hwr p.1 (ho ▸ List.mem_map_of_mem q)
        exact ⟨hown p q, this⟩
      · exact N₁ p (List.mem_append_right _ q)
    have keep : ∀ h', (∀ b o, h₀.get? b = some o → h'.get? b = some o) → (∀ p ∈ own ++ rest, h'.get? p.1 = some p.2) → St (i + 1) h' := fun h' a b =>
      st_keep W.frame hfp ho hown (fun p hp => (N₁ p (List.mem_append_right _ hp)).1) F₁.keep hst₁ a b
    refine wpAny_assign_Name (storeX_L (s := ⟨h₁, gn, dr, tk₁, os⟩) F₁ N₁' (fun h₂ F₂ N₂ => ?_) hk hx)
    refine wpC_mono (turn i v m' news' own h₂ _ hlt hP ho hJ' F₂ N₂) (fun f s₃ ht => ?_) fun _ _ e => e
    have fin : NextC h₀ L gn dr os (J (i + 1)) (own ++ rest) s₃ →
        ∃ m, m < n + 1 - i ∧ WalkI h₀ L gn dr os St rest J n m s₃ := by
      rintro ⟨h', tk, m, news, rfl, F₃, N₃, hj⟩
      exact ⟨n + 1 - (i + 1), by omega, h', tk, m, news, i + 1, rfl, keep _ F₃.keep fun p hp => (N₃ p (List.mem_append_right _ hp)).1, F₃, fun p hp => N₃ p ((List.mem_append.mp hp).elim (List.mem_append_left _) fun q => List.mem_append_right _ (List.mem_append_right _ q)), hj, hlt, rfl⟩
    cases f with
    | next => exact fin ht
    | cont => exact fin ht
    | brk => exact ht
    | ret v => exact ht
  · obtain rfl : i = n := by omega
    refine W.done _ _ _ hst' fun h₁ tk₁ hk₁ => ?_
    obtain ⟨F₁, N₁⟩ := next h₁ hk₁
    exact done m' news' h₁ tk₁ hJ' F₁ N₁
theorem codeC_for_walkU {I : Addr} {fp wr : List Addr} {n : Nat} {Pt : Nat → Array Value → Prop} {P : Nat → Value → Value → Prop} {St : Nat → Heap → Prop} {Mid : Nat → Addr → Heap → Prop} {x y : Str} {px py pt : Pos} {xk : Nat} {m₀ : Str → Option Value} {news₀ : List (Addr × Obj)}
    (hh : A.handled = none) (W : WalksU prog w A I fp wr n Pt St Mid) (h2 : ∀ i vals, Pt i vals → ∃ v0 v1, vals = #[v0, v1] ∧ P i v0 v1) (hk : cs.kind = .function) (hx : (envX cn cs L a ccd cl).kindOf x = some .local) (hy : (envX cn cs L a ccd cl).kindOf y = some .local)
    (rest : List (Addr × Obj)) (hfp : ∀ b ∈ fp, b ∈ wr ∨ (∃ o, (b, o) ∈ rest) ∨ ∃ o, h₀.get? b = some o) (hwr : ∀ b ∈ wr, b ≠ L ∧ h₀.get? b = none)
    (hsome : ∀ i h, St i h → ∀ b ∈ wr, ∃ o, h.get? b = some o) (hr : ∀ p ∈ rest, p.1 ∉ wr)
    (J : Nat → (Str → Option Value) → List (Addr × Obj) → Prop) (hJ : ∀ i m news, J i m news → ∀ p ∈ news, p.1 ∉ wr)
    (turn : ∀ i v v1 m news own h tk, i < n → P i v v1 → own.map (·.1) = wr → J i m news → Fr h₀ L h (fun z => if z = y then some v1 else if z = x then some v else m z) → News h₀ L h (news ++ (own ++ rest)) →
      wpC (model prog w) A (execs body (envX cn cs L a ccd cl)) (TurnC h₀ L gn dr os (J (i + 1)) (own ++ rest) R) (notedBy (model prog w) A (envX cn cs L a ccd cl) fun e s' => R (.error e) s') ⟨h, gn, dr, tk, os⟩)
    (done : ∀ m news h tk, J n m news → Fr h₀ L h m → News h₀ L h (news ++ rest) → R (.ok .next) ⟨h, gn, dr, tk, os⟩)
    (hst : St 0 h) (F : Fr h₀ L h m₀) (N : News h₀ L h (news₀ ++ rest)) (h0 : J 0 m₀ news₀) :
    codeC (model prog w) A (.forLoop (.Tuple [.Name x px, .Name y py] xk pt) (.ref I) body [] (envX cn cs L a ccd cl)) R ⟨h, gn, dr, t, os⟩ := by
  have old : ∀ b o, h₀.get? b = some o → b ∉ wr := fun b o e hb => by rw [(hwr b hb).2] at e; cases e
  have hLw : L ∉ wr := fun q => (hwr L q).1 rfl
  refine codeC_forLoop
    (WalkI h₀ L gn dr os St rest J n) ?_ (n + 1)
    ⟨h, t, m₀, news₀, 0, rfl, hst, F, N, h0, Nat.zero_le _, rfl⟩
  rintro k s' ⟨H, tk, m', news', i, rfl, hst', F', N', hJ', hi, rfl⟩
  have hn' : ∀ p ∈ news' ++ rest, p.1 ∉ wr := fun p hp => (List.mem_append.mp hp).elim (hJ _ _ _ hJ' p) (hr p)
  have next : ∀ h₁ : Heap, (∀ b o, b ∉ wr → H.get? b = some o → h₁.get? b = some o) → Fr h₀ L h₁ m' ∧ News h₀ L h₁ (news' ++ rest) := fun h₁ hk₁ =>
    ⟨⟨F'.ns.at' fun o e => hk₁ _ o hLw e, fun b o e => hk₁ b o (old b o e) (F'.keep b o e), F'.above⟩, fun p hp => ⟨hk₁ _ _ (hn' p hp) (N' p hp).1, (N' p hp).2⟩⟩
  by_cases hlt : i < n
  · refine W.item i _ _ _ hlt hst' fun T vals h₁₁ tk₁ hPt hT hMid hk₁₁ => ?_
    refine hideGoal fun G hG => ?_
    obtain ⟨v, v1, rfl, hP⟩ := h2 i vals hPt
    refine hG ?_
    clear hG G
    refine W.go _ xk pt i T _ _ _ hMid fun h₁₂ hst₁₂ hk₁₂ => ?_
    have ht₂ : h₁₂.IsTuple T #[v, v1] := hT.at fun o e => hk₁₂ T o (W.apart i T h₁₁ hMid) e
    refine wpAny_assign_Tuple hh ht₂ rfl rfl fun h₁ hx₃ => ?_
    replace hx₃ : Heap.ExtBut h₁₂.objs.size h₁₂ h₁ := hx₃
    have up₃ : ∀ b o, h₁₂.get? b = some o → h₁.get? b = some o := fun b o x => hx₃ b o (Nat.ne_of_lt (Heap.lt_size x)) x
    obtain ⟨F₁, N₁⟩ := next h₁ fun b o hb x => up₃ b o (hk₁₂ b o hb (hk₁₁ b o hb x))
    have hst₁ : St (i + 1) h₁ := W.frame _ _ _ hst₁₂ fun b _ o e => up₃ b o e
    obtain ⟨own, ho, hown⟩ := own_of (hsome _ _ hst₁)
    have N₁' : News h₀ L h₁ (news' ++ (own ++ rest)) := fun p hp => by
      rcases List.mem_append.mp hp with q | q
      · exact N₁ p (List.mem_append_left _ q)
      rcases List.mem_append.mp q with q | q
      · have := hwr p.1 (ho ▸ List.mem_map_of_mem q)
        exact ⟨hown p q, this⟩
      · exact N₁ p (List.mem_append_right _ q)
    have keep : ∀ h', (∀ b o, h₀.get? b = some o → h'.get? b = some o) → (∀ p ∈ own ++ rest, h'.get? p.1 = some p.2) → St (i + 1) h' := fun h' a b =>
      st_keep W.frame hfp ho hown (fun p hp => (N₁ p (List.mem_append_right _ hp)).1) F₁.keep hst₁ a b
    show wpAny _ A (do holding [v1] (assign (.Name x px) (envX cn cs L a ccd cl) v); do holding [] (assign (.Name y py) (envX cn cs L a ccd cl) v1); pure ()) _ _ _
    refine wpAny_bind (wpAny_holding (wpAny_assign_Name (storeX_L (s := ⟨h₁, gn, dr, tk₁, os⟩) F₁ N₁' (fun h₃ F₃ N₃ => ?_) hk hx)))
    refine wpAny_bind (wpAny_holding (wpAny_assign_Name (storeX_L (s := ⟨h₃, gn, dr, _, os⟩) F₃ N₃ (fun h₂ F₂ N₂ => wpAny_pure ?_) hk hy)))
    refine wpC_mono (turn i v v1 m' news' own h₂ _ hlt hP ho hJ' F₂ N₂) (fun f s₃ ht => ?_) fun _ _ e => e
    have fin : NextC h₀ L gn dr os (J (i + 1)) (own ++ rest) s₃ →
        ∃ m, m < n + 1 - i ∧ WalkI h₀ L gn dr os St rest J n m s₃ := by
      rintro ⟨h', tk, m, news, rfl, F₃, N₃, hj⟩
      exact ⟨n + 1 - (i + 1), by omega, h', tk, m, news, i + 1, rfl, keep _ F₃.keep fun p hp => (N₃ p (List.mem_append_right _ hp)).1, F₃, fun p hp => N₃ p ((List.mem_append.mp hp).elim (List.mem_append_left _) fun q => List.mem_append_right _ (List.mem_append_right _ q)), hj, hlt, rfl⟩
    cases f with
    | next => exact fin ht
    | cont => exact fin ht
    | brk => exact ht
    | ret v => exact ht
  · obtain rfl : i = n := by omega
    refine W.done _ _ _ hst' fun h₁ tk₁ hk₁ => ?_
    obtain ⟨F₁, N₁⟩ := next h₁ hk₁
    exact done m' news' h₁ tk₁ hJ' F₁ N₁
end
section
variable {prog : Program} {w : World} {A : Around} {s : Shared} {env : Env} {R : Result → Shared → Prop}
theorem codeC_while1 {test body} (h : wpC (model prog w) A (isTrue test env (eval test env)) (fun b s₂ =>
        if b then wpC (model prog w) A (execs body env) (fun f s₃ => match f with
            | .next | .cont => codeC (model prog w) A (.whileLoop test body [] env) R s₃
            | .brk => R (.ok .next) s₃
            | .ret v => R (.ok (.ret v)) s₃) (notedBy (model prog w) A env fun e s' => R (.error e) s') s₂
        else R (.ok .next) s₂)
        (notedBy (model prog w) A env fun e s' => R (.error e) s') s) : codeC (model prog w) A (.whileLoop test body [] env) R s := by
  refine codeC_of_tree rfl ?_
  show wpC _ A ((whileTurn test body [] env).onRaise (fun x => do noteFrame x env; theTreesLotGoes x)) _ _ s
  refine c_noted ?_
  simp only [whileTurn]
  refine wpC_bind (wpC_mono h (fun b s₂ h₂ => ?_) fun _ _ h' => h')
  cases b with
  | false =>
    simp only [Bool.false_eq_true, if_false] at h₂ ⊢
    exact wpC_bind (c_nil (wpC_pure h₂))
  | true =>
    simp only [if_true] at h₂ ⊢
    refine wpC_bind (wpC_mono h₂ (fun f s₃ h₃ => ?_) fun _ _ h' => h')
    cases f with
    | next => exact wpC_pure ⟨rfl, h₃⟩
    | cont => exact wpC_pure ⟨rfl, h₃⟩
    | brk => exact wpC_pure h₃
    | ret v => exact wpC_pure h₃
end
end
section
/-! comprehensions in terms of the ledger -/
open PySem.Calls
inductive CompI (h₀ : Heap) (L : Addr) (m : Str → Option Value) (g : Array GenState) (d : Drawn) (o : OsState) (St : Nat → Heap → Prop) (D C : Addr) (rest : List (Addr × Obj)) (J : Nat → List Value → List (Addr × Obj) → Prop) (n k : Nat) (s' : Shared) : Prop
  | mk (h' : Heap) (tk i : Nat) (ys : List Value) (news : List (Addr × Obj)) (kk : Nat) (cO : Obj) (mc : Str → Option Value) (h1 : s' = ⟨h', g, d, tk, o⟩) (h2 : St i h') (h3 : Fr h₀ L h' m) (h4 : News h₀ L h' (news ++ ((D, listOf ys.toArray kk) :: (C, cO) :: rest)))
    (h5 : ∀ h'' : Heap, h''.get? C = some cO → h''.Ns C mc) (h6 : J i ys news) (h7 : ∀ p ∈ news, p.1 ≠ D ∧ p.1 ≠ C) (h8 : ys.length = i) (h9 : i ≤ n) (h10 : k = n + 1 - i)
theorem ns_obj {h : Heap} {C : Addr} {m : Str → Option Value} (n : h.Ns C m) : ∃ o, h.get? C = some o ∧ ∀ h' : Heap, h'.get? C = some o → h'.Ns C m :=
  let ⟨o, es, ep, ho, hd, r⟩ := n; ⟨o, ho, fun _ e => ⟨o, es, ep, e, hd, r⟩⟩
section
variable {prog : Program} {w : World} {A : Around} {E : Value → Shared → Prop} {h h₀ : Heap} {g : Array GenState} {d : Drawn} {t : Nat} {o : OsState} {L : Addr} {m : Str → Option Value}
theorem comp_led {elt iter : PySem.Expr} {x : Str} {px : Pos} {scope : Scope} {clo : List (Str × Addr)} {pos : Pos} {env : Env} {I : Addr} {fp wr : List Addr} {n : Nat} {P : Nat → Value → Prop} {St : Nat → Heap → Prop} {RR : Value → Addr → Result → Shared → Prop}
    (W : Walks prog w A I fp wr n P St) (hcell : ∀ y ∈ scope.names, y.2 ≠ .cell) (hkind : scope.kind = .function) (hx : scope.names.lookup x = some .local)
    {rest own₀ news₀ : List (Addr × Obj)} (how : own₀.map (·.1) = wr) (F : Fr h₀ L h m) (N : News h₀ L h (news₀ ++ (own₀ ++ rest))) (hst : St 0 h)
    (hfp : ∀ b ∈ fp, b ∈ wr ∨ (∃ o, (b, o) ∈ rest) ∨ ∃ o, h₀.get? b = some o) (hsome : ∀ i h, St i h → ∀ b ∈ wr, ∃ o, h.get? b = some o) (hrest : ∀ p ∈ rest, p.1 ∉ wr)
    (J : Nat → List Value → List (Addr × Obj) → Prop) (hJ : ∀ i ys news, J i ys news → ∀ p ∈ news, p.1 ∉ wr) (h0 : J 0 [] news₀) (hn : n ≤ 100000)
    (turn : ∀ i v ys news own C D cO mc h tk k, i < n → P i v → J i ys news → own.map (·.1) = wr → ys.length = i → (∀ p ∈ news₀ ++ (own₀ ++ rest), p.1 ≠ D ∧ p.1 ≠ C) → (∀ p ∈ news, p.1 ≠ D ∧ p.1 ≠ C) →
      h.Ns C mc → mc x = some v → Fr h₀ L h m → News h₀ L h (news ++ (own ++ ((D, listOf ys.toArray k) :: (C, cO) :: rest))) →
      wpAny (model prog w) A (eval elt (compEnvC scope clo C env)) (fun y s' => ∃ h' tk' news', s' = ⟨h', g, d, tk', o⟩ ∧ Fr h₀ L h' m ∧ News h₀ L h' (news' ++ (own ++ ((D, listOf ys.toArray k) :: (C, cO) :: rest))) ∧ J (i + 1) (ys ++ [y]) news' ∧ ∀ p ∈ news', p.1 ≠ D ∧ p.1 ≠ C) (fun _ _ => False) ⟨h, g, d, tk, o⟩)
    (hRR : ∀ D C cO h' tk ys news mc k, J n ys news → ys.length = n → (∀ p ∈ news₀ ++ (own₀ ++ rest), @LT.lt Nat _ p.1 D ∧ @LT.lt Nat _ p.1 C) → @LT.lt Nat _ D C → (∀ p ∈ news, p.1 ≠ D ∧ p.1 ≠ C) → Fr h₀ L h' m → News h₀ L h' ((D, listOf ys.toArray k) :: (C, cO) :: (news ++ rest)) → h'.Ns C mc → RR (.ref D) C (.ok .next) ⟨h', g, d, tk, o⟩) :
    wpAny (model prog w) A (newList []) (fun acc s₃ => wpAny (model prog w) A (newFunctionEnv scope env.globals clo [] env.qual none .none (some env)) (fun cenv s₄ =>
      codeAny (model prog w) A (.compStart (.ListComp elt [⟨.Name x px, iter, [], 0⟩] scope pos) 0 (.ref I) acc { cenv with scope := relabel scope env }) (RR acc cenv.locals) s₄) E s₃) E ⟨h, g, d, t, o⟩ := by
  refine wpAny_newObj_type (wpAny_newFunctionEnv hcell (by intro y hy; simp at hy) (fun h₁ hns₁ hsb₁ => ?_) hkind)
  dsimp only at hns₁ hsb₁ ⊢
  have F1 := F.push ({ cls := .type "list", dict := none, data := .seq ([] : List Value).toArray } : Obj)
  have N1 := N.push F ({ cls := .type "list", dict := none, data := .seq ([] : List Value).toArray } : Obj)
  have hDlt : ∀ p ∈ news₀ ++ (own₀ ++ rest), @LT.lt Nat _ p.1 h.objs.size := fun p hp => Heap.lt_size (N p hp).1
  generalize hH2 : h.push { cls := .type "list", dict := none, data := .seq ([] : List Value).toArray } = H2 at hns₁ hsb₁ F1 N1 ⊢
  have hC : H2.objs.size = h.objs.size + 1 := by rw [← hH2, Heap.size_push]
  have F2 := F1.push ({ cls := .type "dict", data := .dict #[] } : Obj)
  have N2 := N1.push F1 ({ cls := .type "dict", data := .dict #[] } : Obj)
  have hCm := N2 _ (.head _)
  have F3 : Fr h₀ L h₁ m := F2.change hsb₁ hCm.2.1 hCm.2.2
  obtain ⟨cO, hcO, kO⟩ := ns_obj hns₁
  have N3 : News h₀ L h₁ (news₀ ++ ((h.objs.size, listOf ([] : List Value).toArray 0) :: (H2.objs.size, cO) :: rest)) := by
    have old : ∀ p ∈ (h.objs.size, ({ cls := .type "list", dict := none, data := .seq ([] : List Value).toArray } : Obj)) :: (news₀ ++ (own₀ ++ rest)), h₁.get? p.1 = some p.2 ∧ p.1 ≠ L ∧ h₀.get? p.1 = none := fun p hp =>
      ⟨(hsb₁.2 _ (Nat.ne_of_lt (Heap.lt_size (N1 p hp).1))).trans (N2 p (.tail _ hp)).1, (N2 p (.tail _ hp)).2⟩
    intro p hp
    rcases List.mem_append.mp hp with hp | hp
    · exact old p (.tail _ (List.mem_append_left _ hp))
    rcases List.mem_cons.mp hp with rfl | hp
    · exact old _ (.head _)
    rcases List.mem_cons.mp hp with rfl | hp
    · exact ⟨hcO, hCm.2⟩
    · exact old p (.tail _ (List.mem_append_right _ (List.mem_append_right _ hp)))
  have hCw : H2.objs.size ∉ wr := fun q => by
    rw [← how] at q
    obtain ⟨p, hp, e⟩ := List.mem_map.mp q
    have := hDlt p (List.mem_append_right _ (List.mem_append_left _ hp))
    rw [e, hC] at this; exact Nat.lt_irrefl _ (Nat.lt_of_succ_lt this)
  have hDw : h.objs.size ∉ wr := fun q => by
    rw [← how] at q
    obtain ⟨p, hp, e⟩ := List.mem_map.mp q
    have := hDlt p (List.mem_append_right _ (List.mem_append_left _ hp))
    rw [e] at this; exact Nat.lt_irrefl _ this
  have hfresh : ∀ p ∈ news₀ ++ (own₀ ++ rest), p.1 ≠ h.objs.size ∧ p.1 ≠ H2.objs.size := fun p hp => ⟨Nat.ne_of_lt (hDlt p hp), by rw [hC]; exact Nat.ne_of_lt (Nat.lt_succ_of_lt (hDlt p hp))⟩
  have hwr : ∀ b ∈ wr, b ≠ L ∧ h₀.get? b = none := fun b q => by
    rw [← how] at q
    obtain ⟨p, hp, e⟩ := List.mem_map.mp q
    exact e ▸ (N p (List.mem_append_right _ (List.mem_append_left _ hp))).2
  have hst₁ : St 0 h₁ := by
    refine W.frame _ _ _ hst fun b hb o e => ?_
    have hlt : b < h.objs.size := Heap.lt_size e
    rw [hsb₁.2 b (by rw [hC]; exact Nat.ne_of_lt (Nat.lt_succ_of_lt hlt))]
    exact Heap.get?_push_of_some _ (hH2 ▸ Heap.get?_push_of_some _ e)
  have hDC : @Ne Nat h.objs.size H2.objs.size := by rw [hC]; exact Nat.ne_of_lt (Nat.lt_succ_self _)
  have hDCl : @LT.lt Nat _ h.objs.size H2.objs.size := by rw [hC]; exact Nat.lt_succ_self _
  have hlt2 : ∀ p ∈ news₀ ++ (own₀ ++ rest), @LT.lt Nat _ p.1 h.objs.size ∧ @LT.lt Nat _ p.1 H2.objs.size := fun p hp => ⟨hDlt p hp, Nat.lt_trans (hDlt p hp) hDCl⟩
  have hDL := (N3 (h.objs.size, listOf ([] : List Value).toArray 0) (by simp)).2
  generalize hDn : h.objs.size = D at *
  generalize H2.objs.size = C at *
  have hLw : L ∉ wr := fun q => (hwr L q).1 rfl
  have old : ∀ b o, h₀.get? b = some o → b ∉ wr := fun b o e hb => by rw [(hwr b hb).2] at e; cases e
  have loop : ∀ s₃ : Shared, s₃ = ⟨h₁, g, d, t + ([] : List (Str × Value)).length, o⟩ →
      codeAny (model prog w) A (.compLoop (.ListComp elt [⟨.Name x px, iter, [], 0⟩] scope pos) 0 (.ref I) (.ref D) (compEnvC scope clo C env)) (RR (.ref D) C) s₃ := by
    rintro s₃ rfl
    refine codeAny_compLoop_list (CompI h₀ L m g d o St D C rest J n) ?_ (n + 1)
      ⟨h₁, _, 0, [], news₀, 0, cO, _, rfl, hst₁, F3, N3, kO, h0, fun p hp => hfresh p (List.mem_append_left _ hp), rfl, Nat.zero_le _, rfl⟩
    rintro k s' ⟨h', tk, i, ys, news, kk, cO', mc, rfl, hst', F', N', kO', hj, hnd, hlen, hi, rfl⟩
    have hnw : ∀ p ∈ news ++ ((D, listOf ys.toArray kk) :: (C, cO') :: rest), p.1 ∉ wr := fun p hp => by
      rcases List.mem_append.mp hp with q | q
      · exact hJ _ _ _ hj p q
      rcases List.mem_cons.mp q with rfl | q
      · exact hDw
      rcases List.mem_cons.mp q with rfl | q
      · exact hCw
      · exact hrest p q
    have next : ∀ h₂ : Heap, (∀ b o, b ∉ wr → h'.get? b = some o → h₂.get? b = some o) → Fr h₀ L h₂ m ∧ News h₀ L h₂ (news ++ ((D, listOf ys.toArray kk) :: (C, cO') :: rest)) := fun h₂ hk₂ =>
      ⟨⟨F'.ns.at' fun o e => hk₂ _ o hLw e, fun b o e => hk₂ b o (old b o e) (F'.keep b o e), F'.above⟩, fun p hp => ⟨hk₂ _ _ (hnw p hp) (N' p hp).1, (N' p hp).2⟩⟩
    by_cases hlt : i < n
    · refine W.item i _ _ _ hlt hst' fun v h₂ tk₂ hP hst₂ hk₂ => ?_
      obtain ⟨F₂, N₂⟩ := next h₂ hk₂
      have hCh : h₂.get? C = some cO' := (N₂ (C, cO') (by simp)).1
      refine wpAny_assign_Name (wpAny_storeName_local (lookup_relabel_local hx) (kO' _ hCh) (fun h₃ hn₃ hs₃ => ?_) (by simp [compEnvC, relabel, hkind]))
      replace hs₃ : Heap.SameBut C h₂ h₃ := hs₃
      replace hn₃ : h₃.Ns C (fun z => if z = x then some v else mc z) := hn₃
      obtain ⟨cO₃, hcO₃, kO₃⟩ := ns_obj hn₃
      have hCn := (N₂ (C, cO') (by simp)).2
      obtain ⟨own, ho, hown⟩ := own_of (hsome _ _ hst₂)
      have hCo : ∀ p ∈ own, p.1 ≠ C := fun p hp q => hCw (by rw [← ho, ← q]; exact List.mem_map_of_mem hp)
      have F₃ : Fr h₀ L h₃ m := F₂.change hs₃ hCn.1 hCn.2
      have N₃ : News h₀ L h₃ (news ++ (own ++ ((D, listOf ys.toArray kk) :: (C, cO₃) :: rest))) := by
        intro p hp
        rcases List.mem_append.mp hp with q | q
        · exact ⟨(hs₃.2 _ (hnd p q).2).trans (N₂ p (List.mem_append_left _ q)).1, (N₂ p (List.mem_append_left _ q)).2⟩
        rcases List.mem_append.mp q with q | q
        · exact ⟨(hs₃.2 _ (hCo p q)).trans (hown p q), hwr _ (by rw [← ho]; exact List.mem_map_of_mem q)⟩
        rcases List.mem_cons.mp q with rfl | q
        · exact ⟨(hs₃.2 _ hDC).trans (N₂ (D, listOf ys.toArray kk) (by simp)).1, hDL⟩
        rcases List.mem_cons.mp q with rfl | q
        · exact ⟨hcO₃, hCn⟩
        · exact ⟨(hs₃.2 _ (hfresh p (List.mem_append_right _ (List.mem_append_right _ q))).2).trans (N₂ p (by simp [q])).1, (N₂ p (by simp [q])).2⟩
      have hst₃ : St (i + 1) h₃ := st_keep W.frame hfp ho hown (fun p hp => (N₂ p (by simp [hp])).1) F₂.keep hst₂ F₃.keep fun p hp => (N₃ p (List.mem_append_right _ ((List.mem_append.mp hp).elim (List.mem_append_left _) fun q => List.mem_append_right _ (.tail _ (.tail _ q))))).1
      refine wpAny_mono (turn i v ys news own C D cO₃ _ h₃ _ kk hlt hP hj ho hlen hfresh hnd hn₃ (if_pos rfl) F₃ N₃) (fun y s₄ h₄ => ?_) fun _ _ f => f.elim
      refine hideGoal fun G hG => ?_
      obtain ⟨h4, tk4, news', rfl, F4, N4, hj4, hnd4⟩ := h₄
      refine hG ?_
      clear hG G
      have hDm := N4 (D, listOf ys.toArray kk) (by simp)
      refine append_at (s := ⟨h4, g, d, tk4, o⟩) (hsz := by rw [List.size_toArray, sizeLine_eq]; omega) hDm.1 fun h5 hs5 ho5 => ?_
      replace hs5 : Heap.SameBut D h4 h5 := hs5
      have F5 : Fr h₀ L h5 m := F4.change hs5 hDm.2.1 hDm.2.2
      have hDo : ∀ p ∈ own, p.1 ≠ D := fun p hp q => hDw (by rw [← ho, ← q]; exact List.mem_map_of_mem hp)
      have N5 : News h₀ L h5 (news' ++ own ++ ((D, listOf (ys ++ [y]).toArray (kk + 1)) :: (C, cO₃) :: rest)) := by
        have N4' : News h₀ L h4 ((news' ++ own) ++ (D, listOf ys.toArray kk) :: ((C, cO₃) :: rest)) := by rw [List.append_assoc]; exact N4
        have := news_set N4' (fun p hp => (List.mem_append.mp hp).elim (fun q => (hnd4 p q).1) (hDo p)) (List.forall_mem_cons.mpr ⟨Ne.symm hDC, fun p hp => (hfresh p (List.mem_append_right _ (List.mem_append_right _ hp))).1⟩) hs5 ho5
        rwa [show ys.toArray.push y = (ys ++ [y]).toArray from by simp] at this
      refine ⟨n + 1 - (i + 1), by omega, h5, tk4, i + 1, ys ++ [y], news', kk + 1, cO₃, _, rfl, ?_, F5, fun p hp => N5 p ((List.mem_append.mp hp).elim (fun q => List.mem_append_left _ (List.mem_append_left _ q)) (List.mem_append_right _)), kO₃, hj4, hnd4, by rw [List.length_append, hlen]; rfl, hlt, rfl⟩
      exact st_keep W.frame hfp ho (fun p hp => (N₃ p (List.mem_append_right _ (List.mem_append_left _ hp))).1) (fun p hp => (N₃ p (by simp [hp])).1) F₃.keep hst₃ F5.keep fun p hp => (N5 p ((List.mem_append.mp hp).elim (fun q => List.mem_append_left _ (List.mem_append_right _ q)) fun q => List.mem_append_right _ (.tail _ (.tail _ q)))).1
    · obtain rfl : i = n := by omega
      refine W.done _ _ _ hst' fun h₂ tk₂ hk₂ => ?_
      obtain ⟨F₂, N₂⟩ := next h₂ hk₂
      refine hRR D C cO' h₂ tk₂ ys news mc kk hj hlen hlt2 hDCl hnd F₂ ?_ (kO' _ (N₂ (C, cO') (by simp)).1)
      intro p hp
      refine N₂ p ?_
      simp only [List.mem_cons, List.mem_append] at hp ⊢
      rcases hp with q | q | q | q
      · exact .inr (.inl q)
      · exact .inr (.inr (.inl q))
      · exact .inl q
      · exact .inr (.inr (.inr q))
  exact codeAny_compStart_list (loop _ rfl) (W.self 0 _ _ _ hst₁ (loop _ rfl))
end
end
section
/-! enumerate over bytes -/
open PySem.Calls
open AutoSeq1 (wpAny_loadPart')
noncomputable abbrev bitObj (b : Array UInt8) (t : Tok) (i : Int) : Obj := { cls := .type "bytes_iterator", data := .fields #[.bytes b t, .int i 0] }
noncomputable abbrev enumObj (it : Addr) (i : Int) (old : Value) : Obj := { cls := .type "enumerate", data := .fields #[.none, .bool false, .ref it, rawInt i, .none, old] }
theorem drawsB {prog : Program} {w : World} {A : Around} (hh : A.handled = none) (it : Addr) (b : Array UInt8) (t : Tok) :
    Draws prog w A it [it] b.size (fun i v => ∃ c u, b[i]? = some c ∧ v = .int (c.toNat : Int) u) (fun i h => KBw.IsBytesIter h it b t i) where
  live := fun _ _ ⟨o, ho, _⟩ => ⟨o, ho⟩
  frame := fun _ _ _ st hk => let ⟨o, ho, r⟩ := st; ⟨o, hk it (by simp) o ho, r⟩
  item := fun i s Q E hi st hQ => by
    obtain ⟨o, ho, hc, hd⟩ := id st
    have hx : b[i]? = some b[i] := Array.getElem?_eq_getElem hi
    unfold Builtin.SmallTypes.nextOf
    refine wpAny_bind (wpAny_callSpecial?_slot (name := Str.ofString "__next__") (KBw.iter_typeIs st) KBw.slot_next (wpAny_call_entry KBw.slot_next (KBw.iter_typeIs st) KBw.entry_next ?_ (KBw.args_next _)))
    show wpAny _ _ (field (.ref it) 0 >>= _) _ _ s
    refine wpAny_bind (wpAny_field ho hd (x := .bytes b t) rfl ?_)
    show wpAny _ _ (if (Value.bytes b t == Value.none) = true then _ else _) _ _ s
    rw [if_neg (show ¬ ((Value.bytes b t == Value.none) = true) from Bool.false_ne_true)]
    show wpAny _ _ (field (.ref it) 1 >>= _) _ _ s
    refine wpAny_bind (wpAny_field ho hd (x := .int i 0) rfl ?_)
    refine wpAny_bind (wpAny_of_eq (a := b) rfl ?_)
    simp only [Int.toNat_natCast, hx]
    refine wpAny_bind (wpAny_setField ho hd (by simp) (wpAny_bind (wpAny_mkInt (wpAny_pure ⟨_, rfl, wpAny_pure (hQ _ _ _ ⟨_, _, hx, rfl⟩ ?_ (Heap.SameBut.update ..))⟩))))
    exact ⟨_, Heap.get?_update_self _ ho (Obj.isFreed_of_fields (Obj.data_mapFields hd _)), (Obj.cls_mapFields ..).trans hc, by rw [Obj.data_mapFields hd]; simp [rawInt]⟩
  done := fun s Q E st hE => by
    obtain ⟨o, ho, hc, hd⟩ := id st
    have hx : b[b.size]? = none := by simp
    unfold Builtin.SmallTypes.nextOf
    refine wpAny_bind (wpAny_callSpecial?_slot (name := Str.ofString "__next__") (KBw.iter_typeIs st) KBw.slot_next (wpAny_call_entry KBw.slot_next (KBw.iter_typeIs st) KBw.entry_next ?_ (KBw.args_next _)))
    show wpAny _ _ (field (.ref it) 0 >>= _) _ _ s
    refine wpAny_bind (wpAny_field ho hd (x := .bytes b t) rfl ?_)
    show wpAny _ _ (if (Value.bytes b t == Value.none) = true then _ else _) _ _ s
    rw [if_neg (show ¬ ((Value.bytes b t == Value.none) = true) from Bool.false_ne_true)]
    show wpAny _ _ (field (.ref it) 1 >>= _) _ _ s
    refine wpAny_bind (wpAny_field ho hd (x := .int b.size 0) rfl ?_)
    refine wpAny_bind (wpAny_of_eq (a := b) rfl ?_)
    simp only [Int.toNat_natCast, hx]
    refine wpAny_bind (wpAny_rule (wpAny_bind (wpAny_setField ho hd (by simp) ?_)))
    show wpAny _ _ (newExc (.type "StopIteration") [] >>= _) _ _ _
    refine wpAny_bind ?_
    simp only [newExc, newTuple]
    refine wpAny_bind (wpAny_newObj_type ?_ (by size_fits))
    refine wpAny_bind (m := firstArgMember _ _) (wpAny_of_eq (a := Value.none) (by first | rfl | (simp only [firstArgMember]; rfl)) ?_)
    refine wpAny_newObj_type ?_ (by size_fits)
    simp only [raiseNew]
    refine wpAny_bind (wpAny_handled ?_)
    first | rw [show A.in1.handled = none from hh] | rw [hh]
    refine wpAny_bind (wpAny_pure (wpAny_throw ?_))
    exact hE _ _ (((Heap.SameBut.update ..).extBut.push _).push _) ⟨_, Heap.get?_push_size _ rfl, rfl⟩
theorem meets_enumB (b : Array UInt8) (t : Tok) :
    Meets (Builtin.«enumerate.__new__» ⟨[.type "enumerate", .bytes b t], []⟩) (fun _ R s =>
      R (.ok (.ret (.ref (s.heap.push (bitObj b t 0)).objs.size))) { s with heap := (s.heap.push (bitObj b t 0)).push (enumObj s.heap.objs.size 0 .none) }) :=
  .of_wp fun prog w A R s h => by
    obtain ⟨hp, g, d, tk, os⟩ := s
    have hsub := sub_enumerate
    wp_walk
    refine wpAny_stack_any fun st => wpAny_pure ?_
    split
    · rename_i c _ _ _ _ _
      cases (c == Value.type "enumerate")
      · wp_walk using KBw.pyIter_bytes
        exact ⟨_, rfl, h⟩
      · wp_walk using KBw.pyIter_bytes
        exact ⟨_, rfl, h⟩
    · wp_walk using KBw.pyIter_bytes
      exact ⟨_, rfl, h⟩
section
variable {prog : Program} {w : World} {A : Around} {E : Value → Shared → Prop} {Q : Value → Shared → Prop} {h : Heap} {g : Array GenState} {d : Drawn} {t : Nat} {o : OsState} {h₀ : Heap} {L : Addr} {m : Str → Option Value} {news : List (Addr × Obj)}
theorem r_enumB {b : Array UInt8} {tb : Tok} (F : Fr h₀ L h m) (N : News h₀ L h news)
    (H : ∀ e it h', Fr h₀ L h' m → News h₀ L h' ((e, enumObj it 0 .none) :: (it, bitObj b tb 0) :: news) → (∀ p ∈ news, @LT.lt Nat _ p.1 it) → @LT.lt Nat _ it e → Q (.ref e) ⟨h', g, d, t, o⟩) :
    wpAny (model prog w) A (call (.type "enumerate") [.bytes b tb]) Q E ⟨h, g, d, t, o⟩ := by
  refine callType_new PySem.F.called_enumerate (by decide) (PySem.F.typeCall_enumerate_1 _) (PySem.F.newCall_enumerate_1 _) (fun obj => PySem.F.args_object_init_2 obj _) PySem.F.entry_enumerate_new (meets_enumB b tb) ?_
  have F1 := F.push (bitObj b tb 0)
  have N1 := N.push F (bitObj b tb 0)
  have F2 := F1.push (enumObj h.objs.size 0 .none)
  have N2 := N1.push F1 (enumObj h.objs.size 0 .none)
  exact ⟨⟨_, (N2 _ (.head _)).1, rfl⟩, H _ _ _ F2 N2 (fun p hp => Heap.lt_size (N p hp).1) (by rw [Heap.size_push]; exact Nat.lt_succ_self _)⟩
end
/-- what a loop over enumerate of bytes wants -/
theorem walksB {prog : Program} {w : World} {A : Around} (hh : A.handled = none) (e it : Addr) (b : Array UInt8) (t : Tok) (hei : @LT.lt Nat _ it e) :
    WalksU prog w A e [e, it] [e, it] b.size (fun i vals => ∃ t x, (∃ c u, b[i]? = some c ∧ x = .int (c.toNat : Int) u) ∧ vals = #[.int i t, x]) (fun i h => (∃ old, IsEnum h e it i old) ∧ KBw.IsBytesIter h it b t i)
      (fun i T h => (∃ x, IsEnumOut h e it ((i : Int) + 1) x T) ∧ KBw.IsBytesIter h it b t (i + 1) ∧ T ≠ e ∧ T ≠ it) :=
  (WalksT.enumerateD (drawsB (A := A.in1) hh it b t) e (Nat.ne_of_gt hei) (by simp [Nat.ne_of_gt hei]) (by simp)).toU
end
section
/-! an exception on its way through a loop -/
section
variable {M : Model} {A : Around} {E : Value → Shared → Prop} {s' : Shared} {base g g₂ h : Heap} {outer : List Env} {L e : Addr} {m : Str → Option Value} {env : Env} {Q : Unit → Shared → Prop} {news : List (Addr × Obj)}
theorem fly_set {B : Heap} {dx : Addr} {fl : Value} (X : Fly B outer e dx fl s'.heap) (H : ∀ h', Fly B outer e dx (rawInt L) h' → s'.heap.UpToSlots h' → Q () { s' with heap := h' }) : wpAny M A (setFlight (.ref e) (some L)) Q E s' := by
  refine hideGoal fun G hG => ?_
  obtain ⟨oe, vs, T, oT, ts, he, hc, hd, h1, hT, hne, hTo, hTd, h3⟩ := X.there
  refine hG ?_
  clear hG G
  unfold setFlight
  refine wpAny_bind (wpAny_field he hd h1 ?_)
  rw [if_pos (show (Value.ref T != Value.none) = true from by simp)]
  have up := fld_slots (f := Obj.mapFields (·.setIfInBounds 3 ((some L : Option Addr).elim Value.none fun f => rawInt f))) hTo hTd
  refine wpAny_setField hTo hTd (Array.getElem?_eq_some_iff.mp h3).1 (H _ ⟨fld_stays (o := oT) (vs := ts) X.stays hT, X.fresh, frames_up up X.frames, ?_⟩ up)
  exact ⟨oe, vs, T, _, _, (Heap.get?_update_other _ _ hne).trans he, hc, hd, h1, hT, hne, Heap.get?_update_self _ hTo (Obj.isFreed_of_fields (Obj.data_mapFields hTd _)), Obj.data_mapFields hTd _, by simp [(Array.getElem?_eq_some_iff.mp h3).1]⟩
theorem loop_raise (hfr : A.frames = some (env :: outer)) (hf : env.frame = some L) (R : Gone base (env :: outer) e news s'.heap)
    (hQ : ∀ h', GoneL base (env :: outer) e L news h' → s'.heap.UpToSlots h' → E (.ref e) { s' with heap := h' }) : notedBy M A env (fun e s' => cameBackBy M A env E e s') (.ref e) s' := by
  refine hideGoal fun G hG => ?_
  obtain ⟨B, dx, hs, tk, tv, hB, hn, X, hd, hdn⟩ := R
  refine hG ?_
  clear hG G
  refine fly_note hfr hf X fun h1 X1 U1 => ?_
  have X1' := X1
  refine hideGoal fun G hG => ?_
  obtain ⟨oe, vs, T, oT, ts, he, hc, hod, h1f, hT, hne, hTo, hTd, h3⟩ := X1.there
  refine hG ?_
  clear hG G
  unfold cameBackBy
  refine wpAny_bind (wpAny_field (s := { s' with heap := h1 }) he hod h1f ?_)
  rw [if_neg (show ¬ ((Value.ref T == Value.none) = true) from Bool.false_ne_true), hf]
  exact fly_set (s' := { s' with heap := h1 }) X1' fun h2 X2 U2 => hQ h2 ⟨B, dx, hs, tk, tv, hB, hn, X2, hd, hdn⟩ (U1.trans U2)
theorem leave_noted (K : Below A base outer g) (F : Fr g L g₂ m) (hf : env.frame = some L) (R : GoneL base (env :: outer) e L news s'.heap) (U : g₂.UpToSlots s'.heap)
    (hQ : ∀ h', Gone base outer e news h' → g.UpToSlots h' → Q () { s' with heap := h' }) :
    wpAny M (A.deeper env) (leaving env (.ref e)) Q E s' := by
  refine hideGoal fun G hG => ?_
  obtain ⟨B, dx, hs, tk, tv, hB, hn, X, hd, hdn⟩ := R
  refine hG ?_
  clear hG G
  have X' := X
  refine hideGoal fun G hG => ?_
  obtain ⟨oe, vs, T, oT, ts, he, hc, hod, h1f, hT, hne, hTo, hTd, h3⟩ := X.there
  refine hG ?_
  clear hG G
  unfold leaving noteFrame
  simp only [hf]
  refine wpAny_bind (wpAny_bind (wpAny_field he hod h1f ?_))
  rw [if_pos (show (Value.ref T != Value.none) = true from by simp)]
  refine wpAny_bind (wpAny_field hTo hTd h3 ?_)
  rw [if_pos (by simp)]
  refine wpAny_pure (fly_down X'.pop fun h2 X2 U2 _ => hQ h2 ⟨B, dx, hs, tk, tv, hB, hn, X2, hd, hdn⟩ ?_)
  exact ((Heap.UpToSlots.of_keeps F.keep).trans U).trans U2
end
end
structure DS where
  tab : List (List UInt8)
  last : Option (List UInt8)
  width : Int
  isd : Bool
  found : List UInt8
noncomputable def toldM (tab : List (List UInt8)) (last : Option (List UInt8)) (code : Int) : Option (List UInt8) :=
  if code < 256 then some [u8 code]
  else if code - 258 < tab.length then tab[(code - 258).toNat]?
  else if code - 258 = tab.length then last.map fun l => l ++ l.take 1
  else none
noncomputable def takeM (early : Int) (code : Int) (s : DS) : Option DS :=
  if code = 256 then some { s with tab := [], last := none, width := 9 }
  else if code = 257 then some { s with isd := true }
  else match toldM s.tab s.last code with
    | none => none
    | some p => some ⟨(match s.last with | none => s.tab | some l => s.tab ++ [l ++ p.take 1]), some p,
        (match s.last with | none => s.width | some _ => if 258 + ((s.tab.length : Int) + 1) + early ≥ 512 then 10 else s.width), s.isd, s.found ++ p⟩
structure Ap (x d t f : Addr) (rest : List (Addr × Obj)) : Prop where
  xd : @Ne Nat x d
  xt : @Ne Nat x t
  xf : @Ne Nat x f
  dt : @Ne Nat d t
  df : @Ne Nat d f
  tf : @Ne Nat t f
  rd : ∀ p ∈ rest, p.1 ≠ d
  rt : ∀ p ∈ rest, p.1 ≠ t
  rf : ∀ p ∈ rest, p.1 ≠ f
/-- the decoder as it lies in the ledger -/
inductive DecAt (early : Int) (s : DS) (vl vb vm : Value) (x d f : Addr) (rest news : List (Addr × Obj)) : Prop
  | mk (t : Addr) (n k : Nat) (kh : Nat → Int × Tok) (te tm tw tl : Tok) (its : Array Value) (h1 : BA its s.tab) (h2 : Ap x d t f rest) (h3 : news = (x, instObj 121 d) :: (d, dictOf (decEs kh (.int early te) (.int 12 tm) (.bool s.isd) vl vb vm (.int s.width tw) (.ref t) (lastV s.last tl)) n) :: (t, listOf its k) :: (f, baObj s.found) :: rest)
section
/-! try in walks for clean stacks; functions called from a frame that has none below it -/
open PySem.Calls
section
variable {prog : Program} {w : World} {A : Around} {E : Value → Shared → Prop} {s : Shared} {env : Env}
theorem c_Try {body : List Stmt} {h₀ : ExceptHandler} {hs : List ExceptHandler} {pos : Pos} {Q : Flow → Shared → Prop}
    (h : wpC (model prog w) A (execs body env) Q
      (fun e s₁ => wpAny (model prog w) A (noteFrame e env) (fun _ s₂ => wpAny (model prog w) A (setFlight e none) (fun _ s₃ => wpAny (model prog w) A (handleBy e env (h₀ :: hs)) Q E s₃) E s₂) E s₁) s) :
    wpC (model prog w) A (exec (.Try body (h₀ :: hs) [] [] pos) env) Q E s := by
  rw [arm_exec_Try]
  refine wpC_bind (wpC_standAt ?_)
  unfold tryStmt
  show wpC _ _ ((execs body env).attempt >>= _) _ _ _
  refine wpC_bind (wpC_attempt (wpC_mono h (fun f s₁ h₁ => ?_) fun e s₁ h₁ => ?_))
  · cases f <;> first | exact wpC_pure h₁ | exact c_nil h₁
  · exact wpC_of_any (wpAny_bind (wpAny_mono h₁ (fun _ _ h₂ => wpAny_bind h₂) fun _ _ x => x))
end
def CallT (w : World) (loose : List Str) (mean : ExcName → Option Value) (mg mb : Str → Option Value) (lvl : Nat)
    (f : Value) (args : List Value) (news : List (Addr × Obj)) (Post : Value → List (Addr × Obj) → Prop) : Prop :=
  ∀ (dp un : Nat) (gd : Option (List Code)) (cn : Str) (cs : Scope) (a : Addr) (ccd : Value) (cl : List (Str × Addr))
    (A₀ : Around) (h₀ : Heap) (L : Addr) (m : Str → Option Value) (s : Shared) (Q E : Value → Shared → Prop),
    Below A₀ h₀ [] h₀ → Fr h₀ L s.heap m → (Mine.hd.heap_39 w.params).In h₀ → News h₀ L s.heap news →
    Top Mine.hd.view_39 loose mean mg mb h₀ → cs.kind = .function →
    dp + lvl < recursionLimit → un + 8 * lvl < cLine →
    (∀ r news' h' tk', Fr h₀ L h' m → News h₀ L h' news' → Post r news' → Q r { s with heap := h', toks := tk' }) →
    wpC (model PySem.Challenge.rw_nt0490_01.row.prog w) (ktrTop dp un gd cn cs L a ccd cl []) (call f args) Q E s
/-- the frame below stands as it stood -/
theorem ns_slots {h g : Heap} {L : Addr} {m : Str → Option Value} (n : h.Ns L m) (k : ∀ o, h.get? L = some o → (∀ vs, o.data ≠ .fields vs) → ∃ sl, g.get? L = some { o with slots := sl }) : g.Ns L m := by
  obtain ⟨o, es, ep, ho, hd, r⟩ := n
  obtain ⟨sl, e⟩ := k o ho (fun vs => by rw [hd]; intro q; cases q)
  exact ⟨_, es, ep, e, hd, r⟩
section
variable {M : Model} {A : Around} {E : Value → Shared → Prop} {h h₀ : Heap} {g : Array GenState} {d : Drawn} {t : Nat} {os : OsState} {L a : Addr} {m : Str → Option Value} {news : List (Addr × Obj)} {cn : Str} {cs : Scope} {ccd : Value} {cl : List (Str × Addr)}
theorem r_goes {n : Str} {pos : Pos} {Q : Unit → Shared → Prop} (F : Fr h₀ L h m) (N : News h₀ L h news) (hk : cs.kind = .function) (hl : (envX cn cs L a ccd cl).kindOf n = some .local)
    (H : ∀ h' m' t', Fr h₀ L h' m' → News h₀ L h' news → Q () ⟨h', g, d, t', os⟩) :
    wpAny M A (do bindName (envX cn cs L a ccd cl) n .none; unbindBehindTheSuite (envX cn cs L a ccd cl) n pos) Q E ⟨h, g, d, t, os⟩ :=
  wpAny_nameGoes (s := ⟨h, g, d, t, os⟩) hl F.ns (by show (cs.kind == .class || (cs.kind == .module && L != mainGlobals)) = false; rw [hk]; rfl) fun h' m' hn hs => H h' m' _ (F.set hn hs) (N.set hs)
end
end
section
open PySem.Calls
section
variable {w : World} {A A₀ : Around} {h : Heap} {gn : Array GenState} {dr : Drawn} {t : Nat} {os : OsState} {prog : Program} {K : Frag} {L : Addr} {h₀ base : Heap} {m mg mb : Str → Option Value} {news : List (Addr × Obj)} {p : Program} {loose : List Str} {mean : ExcName → Option Value}
  {env : Env} {outer : List Env} {R : Result → Shared → Prop} {name qual : Str} {params : Arguments} {body : List Stmt} {scope : Scope} {dV kV doc pm cdv ct oc : Value} {an od : Option Addr} {osl : Array (Option Value)} {f : Addr} {args : Args} {binds : List (Str × Value)}
theorem codeC_call_cells
    (B : Below A₀ base outer h₀) (F : Fr h₀ L h m) (X₀ : K.In h₀) (N : News h₀ L h news) (T : Top p loose mean mg mb h₀) (hA : A.frames = some (env :: outer)) (hf : env.frame = some L) (hke : env.scope.kind = .function)
    (ho : K.lookup f = some ⟨oc, od, .func (fnOf name qual params body scope dV kV doc pm an cdv ct), osl⟩) (hcd : codeIn K cdv qual = true) (hroom : A.depth < recursionLimit)
    (hbind : BindsTo ⟨h, gn, dr, t, os⟩ (fnOf name qual params body scope dV kV doc pm an cdv ct) args binds) (hkind : (binds.all fun y => scope.names.lookup y.1 == some .local || scope.names.lookup y.1 == some .cell) = true)
    (hnd : ((cellsFrom 0 scope.names []).map (·.1)).Nodup)
    (H : ∀ g L' h₁ t2 cells, Fr h₀ L g m → Fr g L' h₁ (bindL (envOfC qual scope L' f cdv).kindOf binds fun _ => none) → News g L' h₁ (cells ++ news) →
      CellsAre (bindC (envOfC qual scope L' f cdv).kindOf binds fun _ => none) (cellsFrom (L' + 1) scope.names []) cells → Below A base (env :: outer) g → K.In g → Top p loose mean mg mb g → (∀ p ∈ news, @LT.lt Nat _ p.1 L') → h₀.StaysIn g →
      wpC (model prog w) (A.deeper (envOfC qual scope L' f cdv)) (execs body (envOfC qual scope L' f cdv))
        (fun fl s' => LeaveK h₀ L m g R (match fl with | .ret v => v | _ => .none) s' ∨ R (.ok (.ret (match fl with | .ret v => v | _ => .none))) s')
        (fun e s' => wpAny (model prog w) (A.deeper (envOfC qual scope L' f cdv)) (leaving (envOfC qual scope L' f cdv) e) (fun _ s'' => R (.error e) s'') (fun e' s'' => R (.error e') s'') s')
        ⟨h₁, gn, dr, t2, os⟩)
    (hco : scope.isCoroutine = false) (hgen : scope.isGenerator = false) (hk : scope.kind = .function) : codeC (model prog w) A (.call (.ref f) args) R ⟨h, gn, dr, t, os⟩ := by
  refine hideGoal fun G hG => ?_
  obtain ⟨FG, BG, st, lv⟩ := groundX (s := ⟨h, gn, dr, t, os⟩) (R := R) B F N hA hf hke
  refine hG ?_
  clear hG G
  refine codeC_of_tree rfl (wpC_of_any ?_)
  show wpAny _ A.in1 (callAny (.ref f) args) _ _ _
  simp only [callAny]
  refine wpAny_bind (wpAny_load ((X₀.keeps F.keep) _ _ ho) ?_)
  refine hideGoal fun G hG => ?_
  obtain ⟨c, ob, vs, tq, hc, hoc, hdc, hq⟩ := codeRec_of (X₀.keeps F.keep) hcd
  refine hG ?_
  clear hG G
  simp only [callFunction, hco, hgen, hc]
  refine wpAny_bind (m := field (.ref c) 1) (wpAny_field hoc hdc hq (wpAny_bind (wpAny_pure ?_)))
  rw [← hc]
  refine wpAny_bind (hbind _ _ _ _ (wpAny_bind ?_))
  refine wpAny_newFunctionEnv_cells hk (kindsX hkind _) fun env' he s' x => ?_
  subst he
  refine wpAny_bind (wpAny_enterFrame ((T.nolimit.keeps F.keep).keeps x.toInCall.keep) hroom (wpAny_pure (And.intro rfl (codeC_func ?_))))
  refine hideGoal fun G hG => ?_
  obtain ⟨h₁, tk, rfl, _⟩ := x.done
  refine hG ?_
  clear hG G
  have hk₁ := x.toInCall.keep
  obtain ⟨cells, NC, Y⟩ := Cl.news (h₀ := h) (Nat.le_refl _) fun n c hm => ⟨x.cell n c (lookup_of_mem_nodup (cellsFrom_names scope.names 0 (h.objs.size + 1) [] [] rfl ▸ hnd) hm), x.above n c hm⟩
  refine wpC_mono (H _ h.objs.size h₁ tk cells FG ⟨x.toInCall.ns, fun b o e => hk₁ b o (of_hideAll _ e), Nat.le_of_eq (hideAll_size _ _)⟩ (fun p hp => ?_) Y BG (X₀.keeps st) (T.keeps st) (fun p hp => Heap.lt_size (N p hp).1) st) (fun fl s' hl => hl.elim (lv _ _) id) fun _ _ y => y
  rcases List.mem_append.mp hp with hp | hp
  · refine ⟨(NC p hp).1, (NC p hp).2.1, ?_⟩
    cases q : (hideAll h (news.map (·.1))).get? p.1 with
    | none => rfl
    | some o => have := of_hideAll _ q; rw [(NC p hp).2.2] at this; cases this
  · exact ⟨hk₁ _ _ (N p hp).1, Nat.ne_of_lt (Heap.lt_size (N p hp).1), hideAll_none _ (List.mem_map_of_mem hp)⟩
theorem c_enterX
    (B : Below A₀ base outer h₀) (F : Fr h₀ L h m) (X₀ : K.In h₀) (N : News h₀ L h news) (T : Top p loose mean mg mb h₀) (hA : A.frames = some (env :: outer)) (hf : env.frame = some L) (hke : env.scope.kind = .function)
    (ho : K.lookup f = some ⟨oc, od, .func (fnOf name qual params body scope dV kV doc pm an cdv ct), osl⟩) (hcd : codeIn K cdv qual = true) (hroom : A.depth < recursionLimit)
    (hbind : BindsTo ⟨h, gn, dr, t, os⟩ (fnOf name qual params body scope dV kV doc pm an cdv ct) args binds) (hkind : (binds.all fun y => scope.names.lookup y.1 == some .local || scope.names.lookup y.1 == some .cell) = true)
    (hnd : ((cellsFrom 0 scope.names []).map (·.1)).Nodup)
    (H : ∀ g L' h₁ t2 cells, Fr h₀ L g m → Fr g L' h₁ (bindL (envOfC qual scope L' f cdv).kindOf binds fun _ => none) → News g L' h₁ (cells ++ news) →
      CellsAre (bindC (envOfC qual scope L' f cdv).kindOf binds fun _ => none) (cellsFrom (L' + 1) scope.names []) cells → Below A base (env :: outer) g → K.In g → Top p loose mean mg mb g → (∀ p ∈ news, @LT.lt Nat _ p.1 L') →
      wpC (model prog w) (A.deeper (envOfC qual scope L' f cdv)) (execs body (envOfC qual scope L' f cdv))
        (fun fl s' => LeaveK h₀ L m g R (match fl with | .ret v => v | _ => .none) s')
        (fun e s' => wpAny (model prog w) (A.deeper (envOfC qual scope L' f cdv)) (leaving (envOfC qual scope L' f cdv) e) (fun _ s'' => R (.error e) s'') (fun e' s'' => R (.error e') s'') s')
        ⟨h₁, gn, dr, t2, os⟩)
    (hco : scope.isCoroutine = false) (hgen : scope.isGenerator = false) (hk : scope.kind = .function) : codeC (model prog w) A (.call (.ref f) args) R ⟨h, gn, dr, t, os⟩ :=
  codeC_call_cells B F X₀ N T hA hf hke ho hcd hroom hbind hkind hnd (fun g L' h₁ t2 cells FG F' N' Y B' X' T' l _ => wpC_mono (H g L' h₁ t2 cells FG F' N' Y B' X' T' l) (fun _ _ q => .inl q) fun _ _ q => q) hco hgen hk
theorem c_enterXC
    (B : Below A₀ h₀ [] h₀) (F : Fr h₀ L h m) (X₀ : K.In h₀) (N : News h₀ L h news) (T : Top p loose mean mg mb h₀) (hA : A.frames = some [env]) (hf : env.frame = some L) (hke : env.scope.kind = .function)
    (ho : K.lookup f = some ⟨oc, od, .func (fnOf name qual params body scope dV kV doc pm an cdv ct), osl⟩) (hcd : codeIn K cdv qual = true) (hroom : A.depth < recursionLimit)
    (hbind : BindsTo ⟨h, gn, dr, t, os⟩ (fnOf name qual params body scope dV kV doc pm an cdv ct) args binds) (hkind : (binds.all fun y => scope.names.lookup y.1 == some .local || scope.names.lookup y.1 == some .cell) = true)
    (hnd : ((cellsFrom 0 scope.names []).map (·.1)).Nodup)
    (H : ∀ g L' h₁ t2 cells, Fr h₀ L g m → Fr g L' h₁ (bindL (envOfC qual scope L' f cdv).kindOf binds fun _ => none) → News g L' h₁ (cells ++ news) →
      CellsAre (bindC (envOfC qual scope L' f cdv).kindOf binds fun _ => none) (cellsFrom (L' + 1) scope.names []) cells → Below A h₀ [env] g → K.In g → Top p loose mean mg mb g → (∀ p ∈ news, @LT.lt Nat _ p.1 L') → h₀.StaysIn g →
      wpC (model prog w) (A.deeper (envOfC qual scope L' f cdv)) (execs body (envOfC qual scope L' f cdv))
        (fun fl s' => LeaveC h₀ L m R (match fl with | .ret v => v | _ => .none) s')
        (fun e s' => wpAny (model prog w) (A.deeper (envOfC qual scope L' f cdv)) (leaving (envOfC qual scope L' f cdv) e) (fun _ s'' => R (.error e) s'') (fun e' s'' => R (.error e') s'') s')
        ⟨h₁, gn, dr, t2, os⟩)
    (hco : scope.isCoroutine = false) (hgen : scope.isGenerator = false) (hk : scope.kind = .function) : codeC (model prog w) A (.call (.ref f) args) R ⟨h, gn, dr, t, os⟩ := by
  refine codeC_call_cells B F X₀ N T hA hf hke ho hcd hroom hbind hkind hnd (fun g L' h₁ t2 cells FG F' N' Y B' X' T' l S => wpC_mono (H g L' h₁ t2 cells FG F' N' Y B' X' T' l S) (fun fl s' hl => .inr ?_) fun _ _ q => q) hco hgen hk
  refine hideGoal fun G hG => ?_
  obtain ⟨g', L', m', news', hs, hn, F', N', k⟩ := hl
  refine hG ?_
  clear hG G
  refine k ⟨hn.keeps F'.keep, fun b o e => F'.keep b o (hs b o e), F.above⟩ fun p hp => ⟨(N' p hp).1, fun q => ?_, ?_⟩
  · refine hideGoal fun G hG => ?_
    obtain ⟨oL, es, ep, hL, _⟩ := hn
    refine hG ?_
    clear hG G
    have := (N' p hp).2.2; rw [q, hL] at this; cases this
  · cases q : h₀.get? p.1 with
    | none => rfl
    | some o => have := (N' p hp).2.2; rw [hs _ _ q] at this; cases this
end
section
variable {M : Model} {A : Around} {E : Value → Shared → Prop} {h h₀ : Heap} {g : Array GenState} {d : Drawn} {t : Nat} {os : OsState} {L a : Addr} {m : Str → Option Value} {cn : Str} {cs : Scope} {ccd : Value} {cl : List (Str × Addr)}
  {x : Str} {v : Value} {news : List (Addr × Obj)} {G : Obj → List (Addr × Obj)} {c : Addr} {o : Obj} {v₀ : Option Value}
theorem r_storeC {Q : Unit → Shared → Prop} (F : Fr h₀ L h m) (N : News h₀ L h news) (hc : cl.lookup x = some c) (U : UpdF c o news G) (hd : o.data = .cell v₀) (hk : cs.kind = .function) (hx : (envX cn cs L a ccd cl).kindOf x = some .cell)
    (H : ∀ h' o', Fr h₀ L h' m → News h₀ L h' (G o') → o'.data = .cell (some v) → Q () ⟨h', g, d, t, os⟩) : wpAny M A (storeName (envX cn cs L a ccd cl) x v) Q E ⟨h, g, d, t, os⟩ :=
  storeX_C (s := ⟨h, g, d, t, os⟩) F N hc U hd H hk hx
theorem r_nameC {pos : Pos} {Q : Value → Shared → Prop} (N : News h₀ L h news) (hc : cl.lookup x = some c) (hm : (c, o) ∈ news) (hd : o.data = .cell (some v)) (hk : cs.kind = .function) (hx : (envX cn cs L a ccd cl).kindOf x = some .cell)
    (hb : (x == ("__debug__" : Str)) = false) (H : Q v ⟨h, g, d, t, os⟩) : wpAny M A (eval (.Name x pos) (envX cn cs L a ccd cl)) Q E ⟨h, g, d, t, os⟩ :=
  nameX_C (s := ⟨h, g, d, t, os⟩) N hc hm hd H hk hx hb
end
end
theorem reg_PTake : True := by
  k_with_none
  (k_with "L om" => first | with_reducible assumption | (with_reducible refine Ne.symm ?_; assumption) | ((with_reducible refine low1 (by assumption) ?_); exact rfl) | ((with_reducible refine low2 (by assumption) ?_); exact rfl) | ((with_reducible refine low7 (by assumption) ?_); exact rfl) | with_reducible exact low8 (by assumption) | ((with_reducible refine low3 (by assumption) ?_); exact rfl) | ((with_reducible refine low4 (by assumption) ?_); exact rfl) | with_reducible exact low5 (by assumption) | with_reducible exact low6 (by assumption) | with_reducible exact And.left (by assumption) | with_reducible exact And.right (by assumption) | with_reducible exact And.intro (by assumption) (by assumption) | ((with_reducible refine low9 (by assumption) ?_); exact rfl) | ((with_reducible refine low10 (by assumption) ?_); exact rfl) | ((with_reducible refine low12 (by assumption) ?_); exact rfl) | with_reducible exact Nat.le_succ_of_le (by assumption) | with_reducible exact Nat.add_le_add (by assumption) (Nat.min_le_left _ _) | ((with_reducible refine low16 (by assumption) (by assumption) ?_); exact rfl) | with_reducible exact low17 (by assumption) (by assumption) | with_reducible exact low18 (by assumption) | with_reducible exact low19 (by assumption) (by assumption) | with_reducible exact low20 (by assumption) | with_reducible exact And.intro (Int.emod_nonneg _ (by decide)) (Int.emod_lt_of_pos _ (by decide)) | ((with_reducible refine low21 (by assumption) ?_); exact rfl) | ((with_reducible refine low22 (by assumption) ?_); exact rfl) | with_reducible exact low6 (And.left (by assumption)) | with_reducible exact low6 (And.left (And.right (by assumption))) | with_reducible exact low6 (And.left (And.right (And.right (by assumption)))) | with_reducible exact low6 (And.left (And.right (And.right (And.right (by assumption))))) | with_reducible exact low6 (And.right (by assumption)) | lia | with_reducible contradiction)
  (k_with "L my putL" => first | with_reducible exact putL_d4 | with_reducible exact putL_d5 | with_reducible exact putL_d6 | with_reducible exact putL_d7 | with_reducible exact putL_d8 | with_reducible exact putL_d2 | with_reducible exact putL_d3 | (refine' putL_hd ?xZ; (case xZ => decide +kernel)) | (refine' putL_tl ?xZ ?yZ; (case xZ => decide +kernel); (case yZ => k_extra "L my putL")))
  (k_with "L my putN" => first | with_reducible exact putN_d4 | with_reducible exact putN_d5 | with_reducible exact putN_d6 | with_reducible exact putN_d7 | with_reducible exact putN_d8 | with_reducible exact putN_d2 | with_reducible exact putN_d3 | (refine' putN_hd ?xZ; (case xZ => decide +kernel)) | (refine' putN_tl ?xZ ?yZ; (case xZ => decide +kernel); (case yZ => k_extra "L my putN")))
  (k_with "L all" => first | assumption | exact allLt_ne (by assumption) | exact allLt_ne (And.right (by assumption)) | exact allLt_ne (And.right (And.right (by assumption))) | exact allLt_ne (And.right (And.right (And.right (by assumption)))))
  (k_with "L room" => ((try simp only [depth_under_make, depth_under_kw, depth_in1, depth_deeper, depth_caller]); (try dsimp only [ktrTop]); omega))
  (k_with "L execs cons" => (refine r_consL ?_; intro _))
  (k_with "L execs nil" => refine wpAny_execs_nil ?_)
  (k_with "L exec If" => refine wpAny_If ?_)
  (k_with "L eval Constant int" => refine r_int ?_)
  (k_with "L eval Constant bytes" => refine r_bytes ?_)
  (k_with "L eval Constant str" => refine r_str ?_)
  (k_with "L binaryOp Add int int" => refine r_add ?_)
  (k_with "L binaryOp Sub int int" => refine r_sub ?_)
  (k_with "L binaryOp BitAnd int int" => refine r_and ?_)
  (k_with "L binaryOp BitOr int int" => refine r_or ?_)
  (k_with "L binaryOp RShift int int" => (refine' r_shr ?aZ ?_; (case aZ => omega)))
  (k_with "L binaryOp Mod int int" => (refine' r_mod ?aZ ?_; (case aZ => omega)))
  (k_with "L binaryOp LShift int int" => first | with_reducible refine r_shl09 ?_ | with_reducible refine r_shl10 ?_ | with_reducible refine r_shl12 ?_ | with_reducible refine r_shl28 ?_ | (refine' r_shl ?aZ ?bZ ?cZ ?_; (case aZ | bZ | cZ => omega)))
  (k_with "L call builtin:len" => ( (with_reducible show wpAny _ _ (call (Value.builtin "len") [Value.ref _]) _ _ _); refine' r_len ?NZ ?mZ ?zZ ?_; (case NZ => k_asm); (case mZ => k_mem); (case zZ => first | omega | (simp only [List.size_toArray, Array.size_push] at *; omega))))
  (k_with "L getAttr ref" => (k_here; k_dflt ( refine' r_getattr ?k1Z ?k2Z ?k3Z ?k4Z ?k5Z ?k6Z ?k7Z ?k8Z ?k9Z ?_; (case k1Z | k2Z => k_asm); (case k3Z => k_inst); (case k4Z | k5Z | k6Z | k7Z => k_is); (case k8Z => k_get); (case k9Z => k_handed); k_whole)))
  (k_with "L setAttr ref" => (k_here; k_dflt (first | (refine' r_setattr ?k1Z ?k2Z ?k3Z ?k4Z ?k5Z ?k6Z ?k7Z ?k8Z ?k9Z ?k10Z ?k11Z ?k11bZ ?k12Z ?k13Z ?_; (case k1Z | k2Z | k3Z => k_asm); (case k4Z => k_inst); (case k5Z => exact rfl); (case k6Z | k7Z | k8Z | k9Z => k_is); (case k10Z => k_get); (case k11Z => (intro _; k_extra "L my putL")); (case k11bZ => k_extra "L my putN"); (case k12Z => k_upd); (case k13Z => exact Nat.le_of_ble_eq_true rfl); k_whole; intro _ _ _ _; (try k_sweep)) | (refine' r_newattr ?k1Z ?k2Z ?k3Z ?k4Z ?k5Z ?k6Z ?k7Z ?k8Z ?k9Z ?k10Z ?k11Z ?k12Z ?k13Z ?_; (case k1Z | k2Z | k3Z => k_asm); (case k4Z => k_inst); (case k5Z => exact rfl); (case k6Z | k7Z | k8Z | k9Z => k_is); (case k10Z => k_get); (case k11Z => exact rfl); (case k12Z => exact Nat.le_of_ble_eq_true rfl); (case k13Z => k_updF); k_whole; intro _ _ _ _ _ N'; (dsimp only [List.cons_append, List.nil_append] at N'); (try (revert N'; intro _)); (try k_sweep)))))
  (k_with "L storeName" => (k_here; k_dflt ( refine' r_store ?k1Z ?k2Z ?k3Z ?k4Z ?_; (case k1Z | k2Z => k_asm); (case k3Z | k4Z => rfl); k_whole; intro _ _ _ _; (try k_sweep))))
  (k_with "L newList" => (k_here; k_dflt (refine' r_newList ?k1Z ?k2Z ?k3Z ?_; (case k1Z | k2Z => k_asm); (case k3Z => exact Nat.le_of_ble_eq_true rfl); k_whole); intro _ _ _ _ l1; (try k_lt l1); (try (revert l1; intro _)); (try k_sweep)))
  (k_with "L call builtin:list.append" => (k_here; (with_reducible show wpAny _ _ (call (Value.builtin _) [Value.ref _, _]) _ _ _); k_dflt (refine' r_append ?k1Z ?k2Z ?k3Z ?zZ ?_; (case k1Z | k2Z => k_asm); (case k3Z => k_upd); (case zZ => first | omega | (simp only [List.size_toArray, Array.size_push] at *; omega)); k_whole); intro _ _ _; (try k_sweep)))
  (k_with "L my enter" => (refine' r_enter ?k1Z ?k2Z ?k3Z ?k4Z ?k5Z ?kAZ ?kFZ ?kKZ ?k6Z ?k7Z ?k8Z ?k9Z ?kBZ ?_ ?c2Z ?c3Z ?c4Z ?c5Z; (case kAZ | kFZ => exact rfl); (case kKZ => first | assumption | exact rfl); (case k1Z | k2Z | k3Z | k4Z | k5Z => k_asm); (case k6Z | k7Z => k_is); (case k8Z => k_room); (case k9Z => first | exact BindsTo.of_eq rfl | exact binds_K (by k_in) rfl (by k_is) rfl rfl rfl); (case c5Z => decide); (case kBZ => exact locs rfl); (case c2Z | c3Z | c4Z => exact rfl); k_whole; intro _ _ _ _ _ _ _ _ _ _; (try dsimp only); (try k_fold)))
  (k_with "L my class" => (refine' call_cls ?k1Z ?k2Z ?k3Z ?k4Z ?k5Z ?k6Z ?_; (case k1Z | k2Z | k3Z => k_asm); (case k4Z | k5Z | k6Z => k_is); k_whole; intro _ _ _ _ _ l1 l2; (try k_lt l1); (try (revert l1; intro _)); (try k_lt2 l2); (try (revert l2; intro _)); (try k_sweep); k_extra "L my enter"))
  (k_with "L call ref" => (k_here; k_dflt (first | k_extra "L my class" | (refine wpAny_call ?_; k_extra "L my enter"))))
  (k_with "L my sub" => first | exact mem_all | (refine List.forall_mem_cons.mpr ⟨?_, ?_⟩; (k_mem); k_extra "L my sub") | exact List.forall_mem_nil _ | (refine mem_step ?_; k_extra "L my sub"))
  (k_with "L my blen" => first | k_extra "L om" | exact Nat.zero_le _ | ((simp only [List.length_append, List.length_cons, List.length_nil, List.length_take, List.length_drop]); omega) | omega | exact Nat.le_trans (cut_length _ _ _) (by omega) | (simp only [List.length_append, List.length_cons, List.length_nil, List.length_take, List.length_drop]; omega))
  (k_with "L binaryOp Add bytes bytes" => (refine' r_badd ?zZ ?z2Z ?_; (case zZ | z2Z => k_extra "L my blen"); intro _ _))
  (k_with "L compareOp Eq bytes bytes" => refine r_beq ?_)
  (k_with "L subscriptTail" => (k_here; (with_reducible show wpAny _ _ (subscriptTail _ (Expr.Slice _ _ none _) (Value.bytes _ _) (Value.ref _)) _ _ _); k_dflt (refine' r_slice ?FZ ?NZ ?lZ ?uZ ?zZ ?_ ?sZ ?tZ; (case FZ | NZ => k_asm); (case lZ | uZ => constructor); (case zZ => omega); (case sZ => with_unfolding_all rfl); (case tZ => intro _; with_unfolding_all rfl)); intro _ _ _ _ _; (try k_sweep)))
  (k_with "L subscriptTail" => (k_here; (with_reducible show wpAny _ _ (subscriptTail _ _ (Value.ref _) (Value.int _ _)) _ _ _); k_dflt (refine' r_item ?NZ ?mZ ?aZ ?bZ ?xZ ?_ ?sZ ?tZ; (case NZ => k_asm); (case mZ => k_mem); (case aZ | bZ => omega); (case xZ => first | assumption | rfl); (case sZ => with_unfolding_all rfl); (case tZ => intro _; with_unfolding_all rfl))))
  (k_with "L my ev" => first | ((with_reducible show Ev _ _ _ _ _ _ _ (Expr.Constant _ _ _) _ _ _); first | exact ev_int | (intro _ _ Hx; walk1; with_reducible exact Hx)) | ((with_reducible show Ev _ _ _ _ _ _ _ (Expr.Name _ _) _ _ _); first | (refine' ev_L ?FZ ?vZ ?aZ ?bZ ?dZ; (case FZ => k_asm); (case aZ | bZ => rfl); (case dZ => decide); (case vZ => rfl)) | (intro _ _ Hx; walk1; with_reducible exact Hx)) | ((with_reducible show Ev _ _ _ _ _ _ _ (Expr.Attribute _ _ _) _ _ _); refine' ev_attr ?k1Z ?k2Z ?vZ ?k3Z ?k4Z ?k5Z ?k6Z ?k7Z ?k8Z ?k9Z ?aZ ?bZ ?dZ; (case k1Z | k2Z => k_asm); (case aZ | bZ => rfl); (case dZ => decide); (case vZ => rfl); (case k3Z => k_inst); (case k4Z | k5Z | k6Z | k7Z => k_is); (case k8Z => k_get); (case k9Z => k_handed)) | ((with_reducible show Ev _ _ _ _ _ _ _ (Expr.BinOp _ _ _ _) _ _ _); refine' ev_bin ?lZ ?rZ ?oZ; (case lZ | rZ => k_extra "L my ev"); (case oZ => (intro _ _ Hx; walk1; with_reducible exact Hx))) | ((with_reducible show Ev _ _ _ _ _ _ _ (Expr.Call (Expr.Name (Str.ofString "len") _) [_] [] _) _ _ _); intro _ _ Hx; (repeat walk1); with_reducible exact Hx))
  (k_with "L eval BinOp" => (k_here; k_dflt (refine' ev_use ?hZ ?_; (case hZ => k_extra "L my ev"); k_whole)))
  (k_with "L eval Attribute Name" => (k_here; k_dflt (refine' ev_use ?hZ ?_; (case hZ => k_extra "L my ev"); k_whole)))
  (k_with "L isTrue Compare" => (k_here; k_dflt (refine' ev_isTrue ?lZ ?rZ ?oZ ?mZ ?_; (case lZ | rZ => k_extra "L my ev"); (case oZ => (intro _ _ Hx; walk1; with_reducible exact Hx)); (case mZ => with_unfolding_all rfl); k_whole)))
  (k_with "L call ref" => (k_here; (with_reducible show wpAny _ _ (call (Value.ref 45) _) _ _ _); refine' r_excMake ?k1Z ?k2Z ?k3Z ?k4Z ?k5Z ?k6Z ?k7Z ?_; (case k1Z | k2Z | k3Z => k_asm); (case k4Z => exact Nat.le_of_ble_eq_true rfl); (case k5Z => kernel_rfl); (case k6Z | k7Z => k_is); k_whole; intro _ _ _ _ _ l1; (try k_lt l1); (try (revert l1; intro _)); (try k_sweep); k_extra "L my enter"))
  (k_with "L setAttr ref" => (k_here; (with_reducible show wpAny _ _ (setAttr _ "told" (Value.bytes _ _)) _ _ _); refine' r_excSet ?k1Z ?k2Z ?k3Z ?k4Z ?_; (case k1Z | k2Z | k3Z => k_asm); (case k4Z => k_updF); k_whole; intro _ _ _ _ _ _ _ l1; (try k_lt l1); (try (revert l1; intro _)); (try k_sweep)))
  (k_with "L Inst45" => (k_here; k_dflt (refine' ⟨_, _, _, rfl, ?aZ, ?cZ, ?dZ, ?eZ, ?bZ, ?_⟩; (case aZ => exact (News.get (by k_asm) (by k_mem))); (case cZ | dZ | eZ => exact rfl); (case bZ => exact Frag.In.keeps (by k_asm) (Fr.keep (by k_asm))); k_whole)))
  (k_with "L exec Raise some none" => (k_here; k_dflt (refine' r_raise ?aZ ?_; (case aZ => rfl); k_whole)))
  (k_with "L my nes" => first | exact List.forall_mem_nil _ | k_all | (refine List.forall_mem_cons.mpr ⟨?_, ?_⟩; (show @Ne Nat _ _; omega); k_extra "L my nes"))
  (k_with "L leaving ref" => (k_here; (rename Gone _ _ _ _ _ => gX); (rename Heap.UpToSlots _ _ => uX); k_dflt (refine' leave_more ?KZ ?FZ ?fZ ?RZ ?UZ ?_; (case KZ => assumption); (case RZ => exact gX); (case UZ => exact uX); (case FZ => assumption); (case fZ => exact rfl); k_whole); (try clear gX uX); intro _ _ _))
  (k_with "L leaving ref" => (k_here; k_dflt (refine' leave_first ?KZ ?FZ ?fZ ?kZ ?NZ ?aZ ?bZ ?_; (case KZ | FZ => assumption); (case fZ | kZ => exact rfl); (case NZ => assumption); (case aZ => k_extra "L my nes"); (case bZ => (show @Ne Nat _ _; omega)); k_whole); intro _ _ _))
  (k_with "L c enter" => (refine' c_enter ?k1Z ?k2Z ?k3Z ?k4Z ?k5Z ?kAZ ?kFZ ?kKZ ?k6Z ?k7Z ?k8Z ?k9Z ?kBZ ?_ ?c2Z ?c3Z ?c4Z ?c5Z; (case kAZ | kFZ => exact rfl); (case kKZ => first | assumption | exact rfl); (case k1Z | k2Z | k3Z | k4Z | k5Z => k_asm); (case k6Z | k7Z => k_is); (case k8Z => k_room); (case k9Z => first | exact BindsTo.of_eq rfl | exact binds_K (by k_in) rfl (by k_is) rfl rfl rfl); (case c5Z => decide); (case kBZ => exact locs rfl); (case c2Z | c3Z | c4Z => exact rfl); k_whole; intro _ _ _ _ _ _ _ _ _ _; (try dsimp only)))
  (k_with "L keep at" => first | ((with_reducible show KeepAt _ (Value.ref _) _); refine keep_ref (by k_in) (by k_is)) | exact keep_append | exact keep_extend | exact keep_bytearray | exact ⟨.machine, .inr (.inl rfl), Looks.of_pure (by kernel_rfl)⟩)
  (k_with "L c call" => ( (with_reducible show wpC _ _ (call (Value.builtin "bytearray.append") [Value.ref _, Value.int _ _]) _ _ _); k_dflt (refine' c_append ?k1Z ?k2Z ?k3Z ?k4Z ?k5Z ?zZ ?_; (case k1Z | k2Z => k_asm); (case k3Z => k_upd); (case k4Z | k5Z => omega); (case zZ => k_extra "L my blen"); k_whole); intro _ _ _; (try k_sweep)))
  (k_with "L c call" => ( (with_reducible show wpC _ _ (call (Value.builtin "bytearray.extend") [Value.ref _, Value.bytes _ _]) _ _ _); k_dflt (refine' c_extend ?k1Z ?k2Z ?k3Z ?zZ ?_; (case k1Z | k2Z => k_asm); (case k3Z => k_upd); (case zZ => k_extra "L my blen"); k_whole); intro _ _ _; (try k_sweep)))
  (k_with "L c call" => ( (with_reducible show wpC _ _ (call (Value.type "bytearray") []) _ _ _); k_dflt (refine' c_new ?k1Z ?k2Z ?_; (case k1Z | k2Z => k_asm); k_whole); intro _ _ _ _ l1; (try k_lt l1); (try (revert l1; intro _)); (try k_sweep)))
  (k_with "L getMethod ref" => (k_here; (with_reducible show wpAny _ _ (getMethod (Value.ref _) (PySem.Str.ofString "extend") _) _ _ _); k_dflt (refine' (meth_extend ?xZ).here ?_; (case xZ => exact (News.get (by k_asm) (by k_mem))); k_whole)))
  (k_with "L getMethod ref" => (k_here; (with_reducible show wpAny _ _ (getMethod (Value.ref _) (PySem.Str.ofString "append") _) _ _ _); k_dflt (refine' (meth_append ?xZ).here ?_; (case xZ => exact (News.get (by k_asm) (by k_mem))); k_whole)))
  (k_with "L harm" => fail "no harm")
  (k_with "L cw" => first | ((with_reducible refine c_consL ?_); intro _) | with_reducible refine c_nil ?_ | k_extra "L harm" | with_reducible refine c_If ?_ | ((with_reducible show wpC _ _ (isTrue (Expr.Compare (Expr.Call _ _ _ _) _ _ _) _ _) _ _ _); refine c_isTrue ?_) | with_reducible refine ofA_isTrue ?_ | ((with_reducible show wpC _ _ (exec (Stmt.Expr (Expr.Call _ _ _ _) _) _) _ _ _); refine c_Expr ?_) | with_reducible refine c_Assign ?_ | ((with_reducible show wpC _ _ (exec (Stmt.Assign [Expr.Attribute _ _ _] (Expr.Call _ _ _ _) _) _) _ _ _); refine c_AssignA ?_) | with_reducible refine c_Return ?_ | with_reducible refine ofA_exec ?_ | with_reducible refine c_Meth ?_ | with_reducible refine c_Call ?_ | ((with_reducible show wpC _ _ (eval (Expr.BinOp _ _ _ _) _) _ _ _); k_dflt (refine' ofA_eval (ev_use ?hZ ?_); (case hZ => k_extra "L my ev"); k_whole)) | with_reducible refine c_BinOp ?_ | with_reducible refine c_Compare ?_ | with_reducible refine c_And ?_ | with_reducible refine c_And1 ?_ | with_reducible refine ofA_eval ?_ | with_reducible refine c_args ?_ | with_reducible refine c_args0 ?_ | with_reducible refine c_with1 ?_ | ((with_reducible show wpC _ _ (callWith _ _ _ _ _) _ _ _); refine c_with0 (by k_extra "L keep at") ?_) | ((with_reducible show KeepAt _ _ _ ∧ _); refine ⟨by k_extra "L keep at", ?_⟩; (try dsimp only [List.cons_append, List.nil_append])) | k_extra "L c call" | with_reducible refine ofA_call ?_ | with_reducible refine c_ite1 (by assumption) ?_ | with_reducible refine c_ite0 (by assumption) ?_)
  (k_with "L c steps" => repeat' (first | ((with_reducible show wpAny _ _ _ _ _ _); walk1) | k_extra "L cw" | (k_unfold; (try dsimp only)) | ((show (_ : Flow → Shared → Prop) _ _); k_unfold; (try dsimp only)) | (k_end; wrow_close) | walk1 | (dsimp only; walk1) | (leave1; try dsimp only) | (dsimp only; k_extra "L cw") | fail "no step"))
  trivial
theorem take_clear (w : World) (loose : List Str) (mean : ExcName → Option Value) (mg mb : Str → Option Value)
    (early : Int) (s : DS) (vl vb vm : Value) (x d f : Addr) (tkc : Tok) (rest news : List (Addr × Obj)) (D : DecAt early s vl vb vm x d f rest news) :
    CallC w loose mean mg mb 5 (.ref 97) [.ref x, .int 256 tkc, .ref f] news
      (fun r news' => r = .none ∧ DecAt early { s with tab := [], last := none, width := 9 } vl vb vm x d f rest news') (fun _ => False) := by
  unfold CallC
  obtain ⟨t, n, k, kh, te, tm, tw, tl, its, hb, ⟨hxd, hxt, hxf, hdt, hdf, htf, hrd, hrt, hrf⟩, rfl⟩ := D
  intro dp un gd cn cs a ccd cl outer A₀ base h₀ L m s Q E
  k_fill
  obtain ⟨hp, gn, dr, tk0, os⟩ := s
  intro B F X N T hk hd hu hret hexc
  refine wpC_call ?_
  k_dflt (walk_at "c enter")
  walk_at "c steps"
  (rename News _ _ _ _ => N9)
  (rename Fr _ _ _ _ => F9)
  refine' hret _ _ _ _ F9 (News.sub N9 ?s) ⟨rfl, _, _, _, kh, te, tm, _, tl, #[], BA.nil, ⟨hxd, ?a, hxf, ?b, hdf, ?c, hrd, ?e, hrf⟩, rfl⟩
  (case s => walk_at "my sub")
  (case a => omega)
  (case b => omega)
  (case c => omega)
  (case e => k_all)
theorem take_end (w : World) (loose : List Str) (mean : ExcName → Option Value) (mg mb : Str → Option Value)
    (early : Int) (s : DS) (vl vb vm : Value) (x d f : Addr) (tkc : Tok) (rest news : List (Addr × Obj)) (D : DecAt early s vl vb vm x d f rest news) :
    CallC w loose mean mg mb 5 (.ref 97) [.ref x, .int 257 tkc, .ref f] news
      (fun r news' => r = .none ∧ DecAt early { s with isd := true } vl vb vm x d f rest news') (fun _ => False) := by
  unfold CallC
  obtain ⟨t, n, k, kh, te, tm, tw, tl, its, hb, ⟨hxd, hxt, hxf, hdt, hdf, htf, hrd, hrt, hrf⟩, rfl⟩ := D
  intro dp un gd cn cs a ccd cl outer A₀ base h₀ L m s Q E
  k_fill
  obtain ⟨hp, gn, dr, tk0, os⟩ := s
  intro B F X N T hk hd hu hret hexc
  refine wpC_call ?_
  k_dflt (walk_at "c enter")
  walk_at "c steps"
  (rename News _ _ _ _ => N9)
  (rename Fr _ _ _ _ => F9)
  exact hret _ _ _ _ F9 N9 ⟨rfl, _, _, _, kh, te, tm, _, _, its, hb, ⟨hxd, hxt, hxf, hdt, hdf, htf, hrd, hrt, hrf⟩, rfl⟩

theorem told_ok (w : World) (loose : List Str) (mean : ExcName → Option Value) (mg mb : Str → Option Value)
    (x d t : Addr) (n k : Nat) (kh : Nat → Int × Tok) (ve vd vl vb vm vw : Value) (its : Array Value) (tab : List (List UInt8)) (last : Option (List UInt8)) (tkl tm : Tok)
    (code : Int) (tkc : Tok) (rest : List (Addr × Obj)) (p : List UInt8) (hb : BA its tab) (hz : tab.length ≤ 600) (hl : ∀ l, last = some l → l.length ≤ 700) (h0 : 0 ≤ code) (h1 : code ≠ 256) (h2 : code ≠ 257) (hp : toldM tab last code = some p) :
    CallOk w loose mean mg mb 1 (.ref 104) [.ref x, .int code tkc]
      ((x, instObj 121 d) :: (d, dictOf (decEs kh ve (.int 12 tm) vd vl vb vm vw (.ref t) (lastV last tkl)) n) :: (t, listOf its k) :: rest)
      (fun r news' => (∃ tk, r = .bytes p.toArray tk) ∧ news' = ((x, instObj 121 d) :: (d, dictOf (decEs kh ve (.int 12 tm) vd vl vb vm vw (.ref t) (lastV last tkl)) n) :: (t, listOf its k) :: rest)) := by
  unfold toldM at hp
  have hs := hb.1
  split at hp
  · injection hp with hp; subst hp
    rename_i hc
    exact told_a w loose mean mg mb x d t n k kh ve (.int 12 tm) vd vl vb vm vw (lastV last tkl) its code tkc rest h0 hc
  rename_i hc
  split at hp
  · rename_i hc2
    obtain ⟨tk, e⟩ := hb.2 _ _ hp
    exact told_b w loose mean mg mb x d t n k kh ve (.int 12 tm) vd vl vb vm vw (lastV last tkl) its code tkc rest (by omega) (by omega) (by omega) p.toArray tk e
  rename_i hc2
  split at hp
  · rename_i hc3
    cases last with
    | none => cases hp
    | some l =>
      simp only [Option.map_some, Option.some.injEq] at hp; subst hp
      exact told_c w loose mean mg mb x d t n k kh ve vd vl vb vm vw its l tkl tm code tkc rest (by omega) (by omega) (by omega) (hl l rfl)
  · cases hp
theorem reg_Take0 : True := by
  (k_with "L call ref" => (k_here; (with_reducible show wpAny _ _ (call (Value.ref 104) _) _ _ _); (rename CallOk _ _ _ _ _ _ _ _ _ _ => hTold); k_dflt (refine' CallOk.at hTold ?k1Z ?k2Z ?k3Z ?k4Z ?k5Z ?k6Z ?k7Z ?k8Z ?_; (case k1Z => assumption); (case k2Z => k_asm); (case k3Z => assumption); (case k4Z => k_asm); (case k5Z => assumption); (case k6Z => exact rfl); (case k7Z | k8Z => omega)); intro _ _ _ _ _ _ P'; obtain ⟨⟨tkp, hr'⟩, hn'⟩ := P'; (try (revert P'; intro _)); subst hr' hn'; (try k_sweep)))
  (k_with "L call ref" => (k_here; (with_reducible show wpAny _ _ (call (Value.ref 111) _) _ _ _); k_dflt (refine' CallOk.at (put_ok _ _ _ _ _ _ _ _ _ _ _ _ _ _ _ _ _ _ _ _ _ _ _ _ _ ?a1Z ?a2Z ?a3Z ?a4Z ?a5Z ?a6Z ?a7Z ?a8Z) ?k1Z ?k2Z ?k3Z ?k4Z ?k5Z ?k6Z ?k7Z ?k8Z ?_; (case k1Z => assumption); (case k2Z => k_asm); (case k3Z => assumption); (case k4Z => k_asm); (case k5Z => assumption); (case k6Z => exact rfl); (case k7Z | k8Z | a1Z | a2Z | a3Z => omega); (case a4Z | a5Z => k_extra "L my nes"); (case a6Z | a7Z => omega); (case a8Z => assumption)); intro _ _ _ _ _ _ P'; obtain ⟨hr', tw', hn'⟩ := P'; (try (revert P'; intro _)); subst hr' hn'; (try k_sweep)))
  trivial
theorem take_told (w : World) (loose : List Str) (mean : ExcName → Option Value) (mg mb : Str → Option Value)
    (early : Int) (s : DS) (vl vb vm : Value) (x d f : Addr) (code : Int) (tkc : Tok) (rest news : List (Addr × Obj)) (D : DecAt early s vl vb vm x d f rest news) (p : List UInt8)
    (he : 0 ≤ early ∧ early ≤ 1) (hwd : s.width = 9 ∨ s.width = 10) (hz : s.tab.length ≤ 600) (hl : ∀ l, s.last = some l → l.length ≤ 700) (hf : s.found.length ≤ 95000) (hpl : p.length ≤ 1000) (h0 : 0 ≤ code) (h1 : code ≠ 256) (h2 : code ≠ 257) (hp : toldM s.tab s.last code = some p) (s' : DS) (hs : takeM early code s = some s') :
    CallC w loose mean mg mb 5 (.ref 97) [.ref x, .int code tkc, .ref f] news
      (fun r news' => r = .none ∧ DecAt early s' vl vb vm x d f rest news') (fun news' => False) := by
  unfold CallC
  obtain ⟨tab, last, width, isd, found⟩ := s
  obtain ⟨t, n, k, kh, te, tm, tw, tl, its, hb, ⟨hxd, hxt, hxf, hdt, hdf, htf, hrd, hrt, hrf⟩, rfl⟩ := D
  dsimp only at *
  have hits := hb.1
  intro dp un gd cn cs a ccd cl outer A₀ base h₀ L m s Q E
  k_fill
  obtain ⟨hp', gn, dr, tk0, os⟩ := s
  intro B F X N T hk hd hu hret hexc
  have hTold := told_ok w loose mean mg mb x d t n k kh (.int early te) (.bool isd) vl vb vm (.int width tw) its tab last tl tm code tkc ((f, baObj found) :: rest) p hb (by omega) hl h0 h1 h2 hp
  unfold takeM at hs
  rw [if_neg h1, if_neg h2, hp] at hs
  rcases last with _ | l
  all_goals (
    injection hs with hs
    subst hs
    dsimp only [lastV] at N hTold
    try (have hll := hl _ rfl)
    refine wpC_call ?_
    k_dflt (walk_at "c enter")
    walk_at "c steps")
  all_goals (try (exfalso; omega))
  · (rename News _ _ _ _ => N9)
    (rename Fr _ _ _ _ => F9)
    exact hret _ _ _ _ F9 N9 ⟨rfl, _, _, _, kh, te, tm, _, _, its, hb, ⟨hxd, hxt, hxf, hdt, hdf, htf, hrd, hrt, hrf⟩, rfl⟩
  · (rename News _ _ _ _ => N9)
    (rename Fr _ _ _ _ => F9)
    have ec : cut none (some 1) p = p.take 1 := cut_to 1 p
    rw [ec, hits] at N9
    exact hret _ _ _ _ F9 N9 ⟨rfl, _, _, _, kh, te, tm, _, _, _, BA.push hb _ _, ⟨hxd, hxt, hxf, hdt, hdf, htf, hrd, hrt, hrf⟩, rfl⟩
theorem told_no {tab : List (List UInt8)} {last : Option (List UInt8)} {code : Int} (hp : toldM tab last code = none) (h1 : code ≠ 256) (h2 : code ≠ 257) (h0 : 0 ≤ code) : 258 ≤ code ∧ ¬ code - 258 < tab.length ∧ (last = none ∨ code - 258 ≠ tab.length) := by
  unfold toldM at hp
  split at hp
  · cases hp
  · split at hp
    · rename_i a b
      rw [List.getElem?_eq_getElem (by omega)] at hp; cases hp
    · split at hp
      · refine ⟨by omega, by assumption, .inl ?_⟩
        cases last with
        | none => rfl
        | some l => cases hp
      · exact ⟨by omega, by assumption, .inr (by assumption)⟩
theorem reg_Take1 : True := by
  (k_with "L call ref" => (k_here; (with_reducible show wpAny _ _ (call (Value.ref 104) _) _ _ _); (rename CallX _ _ _ _ _ _ _ _ _ _ _ => hTold); k_dflt (refine' CallX.at hTold ?k1Z ?k2Z ?k3Z ?k4Z ?k5Z ?k6Z ?k7Z ?k8Z ?_ ?_; (case k1Z => assumption); (case k2Z => k_asm); (case k3Z => assumption); (case k4Z => k_asm); (case k5Z => assumption); (case k6Z => exact rfl); (case k7Z | k8Z => omega)); first | (intro _ _ _ _ _ _ P'; exact P'.elim) | (intro _ _ _ _ _ _ _ _ P'; subst P'; (try (revert P'; intro _)))))
  trivial
theorem take_bad (w : World) (loose : List Str) (mean : ExcName → Option Value) (mg mb : Str → Option Value)
    (early : Int) (s : DS) (vl vb vm : Value) (x d f : Addr) (code : Int) (tkc : Tok) (rest news : List (Addr × Obj)) (D : DecAt early s vl vb vm x d f rest news)
    (hz : s.tab.length ≤ 600) (h0 : 0 ≤ code) (hs : takeM early code s = none) :
    CallC w loose mean mg mb 7 (.ref 97) [.ref x, .int code tkc, .ref f] news
      (fun r news' => False) (fun news' => news' = news) := by
  unfold CallC
  obtain ⟨tab, last, width, isd, found⟩ := s
  obtain ⟨t, n, k, kh, te, tm, tw, tl, its, hb, ⟨hxd, hxt, hxf, hdt, hdf, htf, hrd, hrt, hrf⟩, rfl⟩ := D
  dsimp only at *
  have hits := hb.1
  intro dp un gd cn cs a ccd cl outer A₀ base h₀ L m s Q E
  k_fill
  obtain ⟨hp', gn, dr, tk0, os⟩ := s
  intro B F X N T hk hd hu hret hexc
  unfold takeM at hs
  have h1 : code ≠ 256 := fun e => by rw [if_pos e] at hs; cases hs
  rw [if_neg h1] at hs
  have h2 : code ≠ 257 := fun e => by rw [if_pos e] at hs; cases hs
  rw [if_neg h2] at hs
  have hp : toldM tab last code = none := by
    dsimp only at hs
    split at hs
    · assumption
    · cases hs
  obtain ⟨h3, h4, h5⟩ := told_no hp h1 h2 h0
  have hTold := told_d w loose mean mg mb x d t n k kh (.int early te) (.bool isd) vl vb vm (.int width tw) its last tl tm code tkc ((f, baObj found) :: rest) h3 (by omega) (by omega) (by rw [hits]; exact h5)
  refine wpC_call ?_
  k_dflt (walk_at "c enter")
  walk_at "c steps"
  all_goals (try (exfalso; omega))
  (rename Gone _ _ _ _ _ => G9)
  (rename Heap.UpToSlots _ _ => U9)
  exact hexc _ _ _ _ _ (by assumption) U9 G9 (by assumption)
section
-- free
/-- a place at which the walk halts -/
structure StopAt (p : Prop) : Prop where
  go : p
structure FS where
  ds : DS
  left : List UInt8
  bits : Int
  many : Int
noncomputable def codeM (wd bits many : Int) : Int := (bits.fdiv (2 ^ many.toNat)) % (2 ^ wd.toNat)
noncomputable def feedM (early : Int) : FS → List UInt8 → Option FS
  | s, [] => some s
  | s, o :: r =>
    if s.ds.isd then some { s with left := s.left ++ (o :: r) }
    else if s.many + 8 ≥ s.ds.width then
      match takeM early (codeM s.ds.width ((s.bits * 256 + o.toNat) % 268435456) (s.many + 8 - s.ds.width)) s.ds with
      | none => none
      | some d => feedM early ⟨d, s.left, (s.bits * 256 + o.toNat) % 268435456, s.many + 8 - s.ds.width⟩ r
    else feedM early ⟨s.ds, s.left, (s.bits * 256 + o.toNat) % 268435456, s.many + 8⟩ r
/-- sizes after k codes at most -/
structure Sz (k : Nat) (s : DS) : Prop where
  tab : s.tab.length ≤ k
  all : ∀ l ∈ s.tab, l.length ≤ k + 1
  last : ∀ l, s.last = some l → l.length ≤ k + 1
  found : s.found.length ≤ k * (k + 1)
  width : s.width = 9 ∨ s.width = 10
section
variable {M : Model} {A : Around} {E : Value → Shared → Prop} {s : Shared} {α : Type} {t : Sem α} {Q : α → Shared → Prop}
theorem goC (h : let Q' : α → Shared → Prop := Q; StopAt (wpC M A t Q' E s)) : wpC M A t Q E s := StopAt.go h
theorem goA (h : let Q' : α → Shared → Prop := Q; StopAt (wpAny M A t Q' E s)) : wpAny M A t Q E s := StopAt.go h
end
theorem Sz.up {k k' : Nat} {s : DS} (h : Sz k s) (hk : k ≤ k') : Sz k' s :=
  ⟨Nat.le_trans h.tab hk, fun l hl => Nat.le_trans (h.all l hl) (by (first | lia | omega)), fun l hl => Nat.le_trans (h.last l hl) (by (first | lia | omega)), Nat.le_trans h.found (Nat.mul_le_mul hk (by (first | lia | omega))), h.width⟩
theorem Sz.told {k : Nat} {s : DS} (h : Sz k s) {code : Int} {p : List UInt8} (hp : toldM s.tab s.last code = some p) : p.length ≤ k + 2 := by
  unfold toldM at hp
  split at hp
  · injection hp with hp; subst hp; simp
  split at hp
  · have := h.all p (List.mem_of_getElem? hp); (first | lia | omega)
  split at hp
  · cases hl : s.last with
    | none => rw [hl] at hp; cases hp
    | some l =>
      rw [hl] at hp
      injection hp with hp; subst hp
      have := h.last l hl
      rw [List.length_append, List.length_take]; (first | lia | omega)
  · cases hp
theorem Sz.take {k : Nat} {early code : Int} {s s' : DS} (h : Sz k s) (e : takeM early code s = some s') : Sz (k + 1) s' := by
  unfold takeM at e
  split at e
  · injection e with e; subst e
    exact ⟨by simp, by simp, by simp, Nat.le_trans h.found (Nat.mul_le_mul (by (first | lia | omega)) (by (first | lia | omega))), .inl rfl⟩
  split at e
  · injection e with e; subst e
    have := h.up (k' := k + 1) (by (first | lia | omega))
    exact ⟨this.tab, this.all, this.last, this.found, this.width⟩
  split at e
  · cases e
  rename_i p hp
  injection e with e; subst e
  have hl := h.told hp
  have h1 := h.up (k' := k + 1) (by (first | lia | omega))
  have hf : (s.found ++ p).length ≤ (k + 1) * (k + 1 + 1) := by
    have := h.found
    rw [List.length_append]
    have e : (k + 1) * (k + 1 + 1) = k * (k + 1) + 2 * (k + 1) := by rw [Nat.add_mul, Nat.mul_add, Nat.mul_add]; (first | lia | omega)
    rw [e]; (first | lia | omega)
  refine ⟨?_, ?_, ?_, hf, ?_⟩
  · cases hx : s.last with
    | none => exact h1.tab
    | some l => have := h.tab; simp only [List.length_append, List.length_singleton]; (first | lia | omega)
  · cases hx : s.last with
    | none => exact h1.all
    | some l =>
      intro q hq
      rcases List.mem_append.mp hq with hq | hq
      · exact h1.all q hq
      · rw [List.mem_singleton.mp hq, List.length_append, List.length_take]
        have := h.last l hx; (first | lia | omega)
  · intro l hl'
    injection hl' with hl'; subst hl'; (first | lia | omega)
  · cases hx : s.last with
    | none => exact h.width
    | some l => dsimp only; split; exact .inr rfl; exact h.width
theorem codeM_range {wd bits many : Int} : 0 ≤ codeM wd bits many := by
  exact Int.emod_nonneg _ (Int.ne_of_gt (kbt_pos _))
theorem feedM_sz {early : Int} : ∀ (l : List UInt8) (k : Nat) (s s' : FS), Sz k s.ds → feedM early s l = some s' → Sz (k + l.length) s'.ds
  | [], k, s, s', h, e => by injection e with e; subst e; exact h
  | o :: r, k, s, s', h, e => by
    rw [feedM] at e
    split at e
    · injection e with e; subst e; exact h.up (by (first | lia | omega))
    split at e
    · split at e
      · cases e
      · rename_i d hd
        have := feedM_sz r (k + 1) _ s' (h.take hd) e
        rw [List.length_cons, show k + (r.length + 1) = k + 1 + r.length from by (first | lia | omega)]; exact this
    · exact (feedM_sz r k ⟨s.ds, s.left, (s.bits * 256 + o.toNat) % 268435456, s.many + 8⟩ s' h e).up (by rw [List.length_cons]; (first | lia | omega))
section
variable {w : World} {loose : List Str} {mean : ExcName → Option Value} {mg mb : Str → Option Value} {lvl lvl' : Nat} {f : Value} {args : List Value} {news : List (Addr × Obj)} {Post Post' : Value → List (Addr × Obj) → Prop} {PostE PostE' : List (Addr × Obj) → Prop}
theorem CallC.mono (H : CallC w loose mean mg mb lvl f args news Post PostE) (hl : lvl ≤ lvl') (h : ∀ r n, Post r n → Post' r n) (hE : ∀ n, PostE n → PostE' n) : CallC w loose mean mg mb lvl' f args news Post' PostE' := by
  intro dp un gd cn cs a ccd cl outer A₀ base h₀ L m s Q E B F X N T hk hd hu hret hexc
  exact H dp un gd cn cs a ccd cl outer A₀ base h₀ L m s Q E B F X N T hk (by (first | lia | omega)) (by (first | lia | omega)) (fun r n h' t a b c => hret r n h' t a b (h _ _ c)) fun e g n h' t a b c d => hexc e g n h' t a b c (hE _ d)
end
theorem take_ok (w : World) (loose : List Str) (mean : ExcName → Option Value) (mg mb : Str → Option Value)
    (early : Int) (s : DS) (vl vb vm : Value) (x d f : Addr) (code : Int) (tkc : Tok) (rest news : List (Addr × Obj)) (D : DecAt early s vl vb vm x d f rest news) (k : Nat)
    (he : 0 ≤ early ∧ early ≤ 1) (hs : Sz k s) (hk : k ≤ 300) (h0 : 0 ≤ code) :
    CallC w loose mean mg mb 7 (.ref 97) [.ref x, .int code tkc, .ref f] news
      (fun r news' => r = .none ∧ ∃ s', takeM early code s = some s' ∧ DecAt early s' vl vb vm x d f rest news') (fun news' => takeM early code s = none ∧ news' = news) := by
  have hfk : s.found.length ≤ 90300 := Nat.le_trans hs.found (by have : k * (k + 1) ≤ 300 * 301 := Nat.mul_le_mul hk (by (first | lia | omega)); (first | lia | omega))
  by_cases h1 : code = 256
  · subst h1
    refine (take_clear w loose mean mg mb early s vl vb vm x d f tkc rest news D).mono (by (first | lia | omega)) (fun r n h => ⟨h.1, _, if_pos rfl, h.2⟩) fun n h => h.elim

  by_cases h2 : code = 257
  · subst h2
    refine (take_end w loose mean mg mb early s vl vb vm x d f tkc rest news D).mono (by (first | lia | omega)) (fun r n h => ⟨h.1, _, by unfold takeM; rw [if_neg (by decide), if_pos rfl], h.2⟩) fun n h => h.elim

  cases ht : takeM early code s with
  | none =>
    exact (take_bad w loose mean mg mb early s vl vb vm x d f code tkc rest news D (by have := hs.tab; (first | lia | omega)) h0 ht).mono (by (first | lia | omega)) (fun r n h => h.elim) fun n h => ⟨rfl, h⟩
  | some s' =>
    cases hp : toldM s.tab s.last code with
    | none => unfold takeM at ht; rw [if_neg h1, if_neg h2, hp] at ht; cases ht
    | some p =>
      exact (take_told w loose mean mg mb early s vl vb vm x d f code tkc rest news D p he hs.width (by have := hs.tab; (first | lia | omega)) (fun l hl => by have := hs.last l hl; (first | lia | omega)) (by (first | lia | omega)) (by have := hs.told hp; (first | lia | omega)) h0 h1 h2 hp s' ht).mono (by (first | lia | omega)) (fun r n h => ⟨h.1, _, rfl, h.2⟩) fun n h => h.elim
end
section
open PySem.Calls
section
variable {prog : Program} {w : World} {A : Around} {E : Value → Shared → Prop} {env : Env} {s : Shared}
theorem r_compE {elt iter : PySem.Expr} {x : Str} {px : Pos} {scope : Scope} {clo : List (Str × Addr)} {pos : Pos} {Q : Value → Shared → Prop}
    (hclos : closureFor scope env = pure clo) (hkind : scope.kind = .function) (hnames : ∀ y ∈ scope.names, y.2 = .local → scope.names.lookup y.1 = some .local)
    (h : wpAny (model prog w) A (eval iter env) (fun xv s₁ => StopAt (wpAny (model prog w) A (pyIter xv) (fun it s₂ => wpAny (model prog w) A (newList []) (fun acc s₃ =>
      wpAny (model prog w) A (newFunctionEnv scope env.globals clo [] env.qual none .none (some env)) (fun cenv s₄ =>
        codeAny (model prog w) A (.compStart (.ListComp elt [⟨.Name x px, iter, [], 0⟩] scope pos) 0 it acc { cenv with scope := relabel scope env }) (compPost (model prog w) A E none Q acc cenv.locals) s₄) E s₃) E s₂) E s₁)) E s)
    (hs : ∀ x, foldedSetIterable iter env x = pure x := by intro _; rfl) :
    wpAny (model prog w) A (eval (.ListComp elt [⟨.Name x px, iter, [], 0⟩] scope pos) env) Q E s := by
  rw [eval_ListComp]
  exact wpAny_comprehension_free (use := none) rfl hs hclos hkind hnames (wpAny_mono h (fun xv s₁ h₁ => h₁.go) fun _ _ e => e)
theorem r_compU {elt iter : PySem.Expr} {x y : Str} {px py : Pos} {scope : Scope} {clo : List (Str × Addr)} {pos spos : Pos} {Q : Flow → Shared → Prop}
    (hsw : swapsWith (.ListComp elt [⟨.Name x px, iter, [], 0⟩] scope pos) (some (.Name y py)) spos.line env = pure true)
    (hclos : closureFor scope env = pure clo) (hkind : scope.kind = .function) (hnames : ∀ y ∈ scope.names, y.2 = .local → scope.names.lookup y.1 = some .local)
    (h : wpAny (model prog w) A (eval iter env) (fun xv s₁ => StopAt (wpAny (model prog w) A (pyIter xv) (fun it s₂ => wpAny (model prog w) A (newList []) (fun acc s₃ =>
      wpAny (model prog w) A (newFunctionEnv scope env.globals clo [] env.qual none .none (some env)) (fun cenv s₄ =>
        codeAny (model prog w) A (.compStart (.ListComp elt [⟨.Name x px, iter, [], 0⟩] scope pos) 0 it acc { cenv with scope := relabel scope env }) (compPost (model prog w) A E (some (assign (.Name y py) env)) (fun _ => Q .next) acc cenv.locals) s₄) E s₃) E s₂) E s₁)) E s)
    (hs : ∀ x, foldedSetIterable iter env x = pure x := by intro _; rfl) :
    wpAny (model prog w) A (exec (.Assign [.Name y py] (.ListComp elt [⟨.Name x px, iter, [], 0⟩] scope pos) spos) env) Q E s := by
  rw [exec_Assign_Name_used _ _ _ _ hsw]
  refine wpAny_bind (wpAny_standAt (wpAny_bind ?_))
  show wpAny _ A (do let _ ← comprehension (.ListComp elt [⟨.Name x px, iter, [], 0⟩] scope pos) scope env _ (newList []) false (eval iter env) (some (assign (.Name y py) env))) _ _ s
  exact wpAny_bind (wpAny_mono (wpAny_comprehension_free (use := some (assign (.Name y py) env)) (Q := fun _ s' => Q .next s') rfl hs hclos hkind hnames
    (wpAny_mono h (fun xv s₁ h₁ => h₁.go) fun _ _ e => e)) (fun _ s' hq => wpAny_pure (wpAny_pure hq)) fun _ _ e => e)
end
section
variable {prog : Program} {w : World} {A : Around} {E : Value → Shared → Prop} {Q : Value → Shared → Prop} {h h₀ : Heap} {g : Array GenState} {d : Drawn} {t : Nat} {o : OsState} {L C D : Addr} {cO : Obj} {m mc : Str → Option Value} {news : List (Addr × Obj)} {r' : Obj}
/-- behind a comprehension whose list is a value -/
theorem comp_none (F : Fr h₀ L h m) (N : News h₀ L h ((D, r') :: (C, cO) :: news)) (hn : h.Ns C mc) (hDC : D ≠ C) (hne : ∀ p ∈ news, p.1 ≠ C)
    (H : ∀ h', Fr h₀ L h' m → News h₀ L h' ((D, r') :: news) → Q (.ref D) ⟨h', g, d, t, o⟩) : compPost (model prog w) A E none Q (.ref D) C (.ok .next) ⟨h, g, d, t, o⟩ := by
  refine ⟨mc, hn, fun h' hs => ?_⟩
  have hc := N (C, cO) (.tail _ (.head _))
  refine H h' (F.change hs hc.2.1 hc.2.2) fun p hp => ?_
  rcases List.mem_cons.mp hp with rfl | hp
  · exact ⟨(hs.2 _ hDC).trans (N _ (.head _)).1, (N _ (.head _)).2⟩
  · exact ⟨(hs.2 _ (hne p hp)).trans (N p (.tail _ (.tail _ hp))).1, (N p (.tail _ (.tail _ hp))).2⟩
/-- behind a comprehension that is stored under a name -/
theorem comp_some {Q : Value → Shared → Prop} {y : Str} {py : Pos} {cn : Str} {cs : Scope} {a : Addr} {ccd : Value} {cl : List (Str × Addr)} (F : Fr h₀ L h m) (N : News h₀ L h ((D, r') :: (C, cO) :: news)) (hn : h.Ns C mc) (hDC : D ≠ C) (hne : ∀ p ∈ news, p.1 ≠ C)
    (hk : cs.kind = .function) (hx : (envX cn cs L a ccd cl).kindOf y = some .local)
    (H : ∀ h' t', Fr h₀ L h' (fun z => if z = y then some (.ref D) else m z) → News h₀ L h' ((D, r') :: news) → Q .none ⟨h', g, d, t', o⟩) :
    compPost (model prog w) A E (some (assign (.Name y py) (envX cn cs L a ccd cl))) Q (.ref D) C (.ok .next) ⟨h, g, d, t, o⟩ := by
  show wpAny _ A (assign (.Name y py) (envX cn cs L a ccd cl) (.ref D)) _ _ _
  have hc0 := N (C, cO) (.tail _ (.head _))
  have hp : ((envX cn cs L a ccd cl).scope.kind == .class || ((envX cn cs L a ccd cl).scope.kind == .module && (envX cn cs L a ccd cl).locals != (envX cn cs L a ccd cl).globals)) = false := by
    show (cs.kind == .class || (cs.kind == .module && L != mainGlobals)) = false; rw [hk]; rfl
  refine wpAny_assign_Name (wpAny_storeName_local (s := ⟨h, g, d, t, o⟩) hx F.ns (fun h₂ hn₂ hs₂ => ?_) hp)
  replace hs₂ : Heap.SameBut L h h₂ := hs₂
  have F₂ := F.set hn₂ hs₂
  have N₂ := N.set hs₂
  have hc := N₂ (C, cO) (.tail _ (.head _))
  refine ⟨mc, hn.sameBut hs₂ hc0.2.1, fun h' hs => ?_⟩
  refine H h' _ (F₂.change hs hc.2.1 hc.2.2) fun p hp => ?_
  rcases List.mem_cons.mp hp with rfl | hp
  · exact ⟨(hs.2 _ hDC).trans (N₂ _ (.head _)).1, (N₂ _ (.head _)).2⟩
  · exact ⟨(hs.2 _ (hne p hp)).trans (N₂ p (.tail _ (.tail _ hp))).1, (N₂ p (.tail _ (.tail _ hp))).2⟩
end
end
section
/-! comprehensions over a list and over a range -/
open PySem.Calls
section
variable {prog : Program} {w : World} {A : Around} {E : Value → Shared → Prop} {h h₀ : Heap} {g : Array GenState} {d : Drawn} {t : Nat} {o : OsState} {L : Addr} {m : Str → Option Value}
theorem keys_not {news news₀ : List (Addr × Obj)} {P : Addr → Prop} (e : news.map (·.1) = news₀.map (·.1)) (H : ∀ p ∈ news₀, P p.1) : ∀ p ∈ news, P p.1 := fun p hp => by
  have : p.1 ∈ news.map (·.1) := List.mem_map_of_mem hp
  rw [e] at this
  obtain ⟨q, hq, e⟩ := List.mem_map.mp this
  exact e ▸ H q hq
/-- a comprehension over what `I` (just made) walks -/
theorem comp_one {elt iter : PySem.Expr} {x : Str} {px : Pos} {scope : Scope} {clo : List (Str × Addr)} {pos : Pos} {env : Env} {I : Addr} {fp : List Addr} {n : Nat} {P : Nat → Value → Prop} {St : Nat → Heap → Prop} {RR : Value → Addr → Result → Shared → Prop}
    (W : Walks prog w A I fp [I] n P St) (hcell : ∀ y ∈ scope.names, y.2 ≠ .cell) (hkind : scope.kind = .function) (hx : scope.names.lookup x = some .local)
    {rest news₀ : List (Addr × Obj)} {oI : Obj} (F : Fr h₀ L h m) (N : News h₀ L h (news₀ ++ ((I, oI) :: rest))) (hst : St 0 h) (hI : ∀ p ∈ news₀ ++ rest, p.1 ≠ I)
    (hfp : ∀ b ∈ fp, b = I ∨ (∃ o, (b, o) ∈ rest) ∨ ∃ o, h₀.get? b = some o) (hsome : ∀ i h, St i h → ∃ o, h.get? I = some o)
    (J : Nat → List Value → List (Addr × Obj) → Prop) (hJ : ∀ i ys news, J i ys news → news.map (·.1) = news₀.map (·.1)) (h0 : J 0 [] news₀) (hn : n ≤ 100000)
    (turn : ∀ i v ys news oI C D cO mc h tk k, i < n → P i v → J i ys news → ys.length = i → (∀ p ∈ news₀ ++ ((I, oI) :: rest), p.1 ≠ D ∧ p.1 ≠ C) →
      h.Ns C mc → mc x = some v → Fr h₀ L h m → News h₀ L h (news ++ ((I, oI) :: (D, listOf ys.toArray k) :: (C, cO) :: rest)) →
      wpAny (model prog w) A (eval elt (compEnvC scope clo C env)) (fun y s' => StopAt (∃ h' tk' news', s' = ⟨h', g, d, tk', o⟩ ∧ Fr h₀ L h' m ∧ News h₀ L h' (news' ++ ((I, oI) :: (D, listOf ys.toArray k) :: (C, cO) :: rest)) ∧ J (i + 1) (ys ++ [y]) news')) (fun _ _ => False) ⟨h, g, d, tk, o⟩)
    (hRR : ∀ D C cO h' tk ys news mc k, J n ys news → ys.length = n → (∀ p ∈ news ++ rest, @LT.lt Nat _ p.1 D ∧ @LT.lt Nat _ p.1 C) → @LT.lt Nat _ D C → Fr h₀ L h' m → News h₀ L h' ((D, listOf ys.toArray k) :: (C, cO) :: (news ++ rest)) → h'.Ns C mc → RR (.ref D) C (.ok .next) ⟨h', g, d, tk, o⟩) :
    wpAny (model prog w) A (newList []) (fun acc s₃ => wpAny (model prog w) A (newFunctionEnv scope env.globals clo [] env.qual none .none (some env)) (fun cenv s₄ =>
      codeAny (model prog w) A (.compStart (.ListComp elt [⟨.Name x px, iter, [], 0⟩] scope pos) 0 (.ref I) acc { cenv with scope := relabel scope env }) (RR acc cenv.locals) s₄) E s₃) E ⟨h, g, d, t, o⟩ := by
  refine comp_led W hcell hkind hx (own₀ := [(I, oI)]) (rest := rest) (news₀ := news₀) (m := m) (L := L) (h₀ := h₀) rfl F N hst ?_ ?_ ?_ J ?_ h0 hn ?_ ?_
  · exact fun b hb => (hfp b hb).imp (fun e => List.mem_singleton.mpr e) id
  · exact fun i h st b hb => List.mem_singleton.mp hb ▸ hsome i h st
  · exact fun p hp q => hI p (List.mem_append_right _ hp) (List.mem_singleton.mp q)
  · exact fun i ys news j p hp q => keys_not (P := fun b => b ≠ I) (hJ _ _ _ j) (fun q hq => hI q (List.mem_append_left _ hq)) p hp (List.mem_singleton.mp q)
  · intro i v ys news own C D cO mc h tk k hi hP j ho hlen hf hnd hC hv F2 N2
    obtain ⟨⟨b, oI'⟩, rfl, hb⟩ := List.map_eq_singleton_iff.mp ho
    replace hb : b = I := hb
    subst hb
    refine wpAny_mono (turn i v ys news oI' C D cO mc h tk k hi hP j hlen (fun p hp => ?_) hC hv F2 N2) (fun y s' hq => ?_) fun _ _ f => f
    · rcases List.mem_append.mp hp with q | q
      · exact hf p (List.mem_append_left _ q)
      rcases List.mem_cons.mp q with rfl | q
      · exact hf (b, oI) (List.mem_append_right _ (.head _))
      · exact hf p (List.mem_append_right _ (.tail _ q))
    · obtain ⟨h', tk', news', rfl, F', N', j'⟩ := hq.go
      exact ⟨h', tk', news', rfl, F', N', j', keys_not (P := fun b => b ≠ D ∧ b ≠ C) (hJ _ _ _ j') fun p hp => hf p (List.mem_append_left _ hp)⟩
  · intro D C cO h' tk ys news mc k j hlen hlt hDC hnd F N hC
    refine hRR D C cO h' tk ys news mc k j hlen (fun p hp => ?_) hDC F N hC
    rcases List.mem_append.mp hp with q | q
    · exact keys_not (P := fun b => @LT.lt Nat _ b D ∧ @LT.lt Nat _ b C) (hJ _ _ _ j) (fun p hp => hlt p (List.mem_append_left _ hp)) p q
    · exact hlt p (List.mem_append_right _ (.tail _ q))
theorem comp_list {elt iter : PySem.Expr} {x : Str} {px : Pos} {scope : Scope} {clo : List (Str × Addr)} {pos : Pos} {env : Env} {l : Addr} {items : List Value} {RR : Value → Addr → Result → Shared → Prop}
    (hh : A.handled = none) (hl : h.IsList l items.toArray) (hcell : ∀ y ∈ scope.names, y.2 ≠ .cell) (hkind : scope.kind = .function) (hx : scope.names.lookup x = some .local)
    (rest news₀ : List (Addr × Obj)) (F : Fr h₀ L h m) (N : News h₀ L h (news₀ ++ rest))
    (hfp : (∃ o, (l, o) ∈ rest) ∨ ∃ o, h₀.get? l = some o)
    (J : Nat → List Value → List (Addr × Obj) → Prop) (hJ : ∀ i ys news, J i ys news → news.map (·.1) = news₀.map (·.1)) (h0 : J 0 [] news₀) (hn : items.length ≤ 100000)
    (turn : ∀ i v ys news I oI C D cO mc h tk k, items[i]? = some v → J i ys news → ys.length = i → (∀ p ∈ news₀ ++ rest, p.1 ≠ I) → (∀ p ∈ news₀ ++ ((I, oI) :: rest), p.1 ≠ D ∧ p.1 ≠ C) →
      h.Ns C mc → mc x = some v → Fr h₀ L h m → News h₀ L h (news ++ ((I, oI) :: (D, listOf ys.toArray k) :: (C, cO) :: rest)) →
      wpAny (model prog w) A (eval elt (compEnvC scope clo C env)) (fun y s' => StopAt (∃ h' tk' news', s' = ⟨h', g, d, tk', o⟩ ∧ Fr h₀ L h' m ∧ News h₀ L h' (news' ++ ((I, oI) :: (D, listOf ys.toArray k) :: (C, cO) :: rest)) ∧ J (i + 1) (ys ++ [y]) news')) (fun _ _ => False) ⟨h, g, d, tk, o⟩)
    (hRR : ∀ D C cO h' tk ys news mc k, J items.length ys news → ys.length = items.length → (∀ p ∈ news ++ rest, @LT.lt Nat _ p.1 D ∧ @LT.lt Nat _ p.1 C) → @LT.lt Nat _ D C → Fr h₀ L h' m → News h₀ L h' ((D, listOf ys.toArray k) :: (C, cO) :: (news ++ rest)) → h'.Ns C mc → RR (.ref D) C (.ok .next) ⟨h', g, d, tk, o⟩) :
    wpAny (model prog w) A (pyIter (.ref l)) (fun it s₂ => wpAny (model prog w) A (newList []) (fun acc s₃ => wpAny (model prog w) A (newFunctionEnv scope env.globals clo [] env.qual none .none (some env)) (fun cenv s₄ =>
      codeAny (model prog w) A (.compStart (.ListComp elt [⟨.Name x px, iter, [], 0⟩] scope pos) 0 it acc { cenv with scope := relabel scope env }) (RR acc cenv.locals) s₄) E s₃) E s₂) E ⟨h, g, d, t, o⟩ := by
  refine wpAny_pyIter_list hl ?_
  have F' := F.push ({ cls := .type "list_iterator", data := .fields #[.ref l, .int 0 0] } : Obj)
  have N' := N.push F ({ cls := .type "list_iterator", data := .fields #[.ref l, .int 0 0] } : Obj)
  have hit : (h.push { cls := .type "list_iterator", data := .fields #[.ref l, .int 0 0] }).IsListIter h.objs.size l 0 := ⟨_, Heap.get?_push_size _ rfl, rfl, rfl⟩
  have hl' := hl.at (h' := h.push { cls := .type "list_iterator", data := .fields #[.ref l, .int 0 0] }) fun o e => Heap.get?_push_of_some _ e
  have hlt : ∀ p ∈ news₀ ++ rest, p.1 ≠ h.objs.size := fun p hp => Nat.ne_of_lt (Heap.lt_size (N p hp).1)
  have hne : l ≠ h.objs.size := by
    obtain ⟨o, ho, _⟩ := hl
    exact Nat.ne_of_lt (Heap.lt_size ho)
  have W := Walks.list (prog := prog) (w := w) hh h.objs.size l hne items.toArray
  rw [List.size_toArray] at W
  refine comp_one W hcell hkind hx (oI := { cls := .type "list_iterator", data := .fields #[.ref l, .int 0 0] }) F' (fun p hp => N' p ?_) ⟨hit, hl'⟩ hlt ?_ (fun i h st => ?_) J hJ h0 hn (fun i v ys news oI C D cO mc h tk k _ hP j hl => turn i v ys news _ oI C D cO mc h tk k (by simpa using hP) j hl hlt) hRR
  · simp only [List.mem_append, List.mem_cons] at hp ⊢; rcases hp with q | q | q <;> simp [q]
  · intro b hb
    simp only [List.mem_cons, List.not_mem_nil, or_false] at hb
    rcases hb with rfl | rfl
    · exact .inl rfl
    · exact .inr hfp
  · obtain ⟨o, ho, _⟩ := st.1; exact ⟨o, ho⟩
theorem comp_range {elt iter : PySem.Expr} {x : Str} {px : Pos} {scope : Scope} {clo : List (Str × Addr)} {pos : Pos} {env : Env} {r : Addr} {n : Nat} {t1 t2 t3 : Tok} {RR : Value → Addr → Result → Shared → Prop}
    (hh : A.handled = none) (hr : IsRange h r 0 n 1 t1 t2 t3) (hcell : ∀ y ∈ scope.names, y.2 ≠ .cell) (hkind : scope.kind = .function) (hx : scope.names.lookup x = some .local)
    (rest news₀ : List (Addr × Obj)) (F : Fr h₀ L h m) (N : News h₀ L h (news₀ ++ rest))
    (J : Nat → List Value → List (Addr × Obj) → Prop) (hJ : ∀ i ys news, J i ys news → news.map (·.1) = news₀.map (·.1)) (h0 : J 0 [] news₀) (hn : n ≤ 100000)
    (turn : ∀ i tv ys news I oI C D cO mc h tk k, i < n → J i ys news → ys.length = i → (∀ p ∈ news₀ ++ rest, p.1 ≠ I) → (∀ p ∈ news₀ ++ ((I, oI) :: rest), p.1 ≠ D ∧ p.1 ≠ C) →
      h.Ns C mc → mc x = some (.int (i : Nat) tv) → Fr h₀ L h m → News h₀ L h (news ++ ((I, oI) :: (D, listOf ys.toArray k) :: (C, cO) :: rest)) →
      wpAny (model prog w) A (eval elt (compEnvC scope clo C env)) (fun y s' => StopAt (∃ h' tk' news', s' = ⟨h', g, d, tk', o⟩ ∧ Fr h₀ L h' m ∧ News h₀ L h' (news' ++ ((I, oI) :: (D, listOf ys.toArray k) :: (C, cO) :: rest)) ∧ J (i + 1) (ys ++ [y]) news')) (fun _ _ => False) ⟨h, g, d, tk, o⟩)
    (hRR : ∀ D C cO h' tk ys news mc k, J n ys news → ys.length = n → (∀ p ∈ news ++ rest, @LT.lt Nat _ p.1 D ∧ @LT.lt Nat _ p.1 C) → @LT.lt Nat _ D C → Fr h₀ L h' m → News h₀ L h' ((D, listOf ys.toArray k) :: (C, cO) :: (news ++ rest)) → h'.Ns C mc → RR (.ref D) C (.ok .next) ⟨h', g, d, tk, o⟩) :
    wpAny (model prog w) A (pyIter (.ref r)) (fun it s₂ => wpAny (model prog w) A (newList []) (fun acc s₃ => wpAny (model prog w) A (newFunctionEnv scope env.globals clo [] env.qual none .none (some env)) (fun cenv s₄ =>
      codeAny (model prog w) A (.compStart (.ListComp elt [⟨.Name x px, iter, [], 0⟩] scope pos) 0 it acc { cenv with scope := relabel scope env }) (RR acc cenv.locals) s₄) E s₃) E s₂) E ⟨h, g, d, t, o⟩ := by
  have hs : Builtin.Range.rangeSize 0 (n : Int) 1 = n := by
    rw [rangeSize_one]
    split <;> omega
  refine wpAny_pyIter_range hr (small_one (by decide) (by decide) (by omega) (by omega)) ?_
  rw [hs]
  have F' := F.push ({ cls := .type "range_iterator", data := .fields #[rawInt 0, rawInt n, rawInt 1] } : Obj)
  have N' := N.push F ({ cls := .type "range_iterator", data := .fields #[rawInt 0, rawInt n, rawInt 1] } : Obj)
  have hit : IsRangeIter (h.push { cls := .type "range_iterator", data := .fields #[rawInt 0, rawInt n, rawInt 1] }) h.objs.size (0 + ((0 : Nat) : Int) * 1) ((n : Int) - ((0 : Nat) : Int)) 1 := by
    simpa using Heap.get?_push_size _ rfl
  have hlt : ∀ p ∈ news₀ ++ rest, p.1 ≠ h.objs.size := fun p hp => Nat.ne_of_lt (Heap.lt_size (N p hp).1)
  have W := Walks.range (prog := prog) (w := w) hh h.objs.size 0 1 n
  refine comp_one W hcell hkind hx (oI := { cls := .type "range_iterator", data := .fields #[rawInt 0, rawInt n, rawInt 1] }) F' (fun p hp => N' p ?_) hit hlt ?_ (fun i h st => ⟨_, st⟩) J hJ h0 hn ?_ hRR
  · simp only [List.mem_append, List.mem_cons] at hp ⊢; rcases hp with q | q | q <;> simp [q]
  · intro b hb
    simp only [List.mem_cons, List.not_mem_nil, or_false] at hb
    exact .inl hb
  · intro i v ys news oI C D cO mc h tk k hi hP j hlen hf hC hv
    obtain ⟨tv, rfl⟩ := hP
    refine turn i tv ys news _ oI C D cO mc h tk k hi j hlen hlt hf hC ?_
    rw [hv]; simp
/-- the list of a comprehension, as a value -/
theorem hRR_none {Q : Value → Shared → Prop} {n : Nat} {J : Nat → List Value → List (Addr × Obj) → Prop} {rest : List (Addr × Obj)}
    (H : ∀ D h' tk ys news k, J n ys news → ys.length = n → (∀ p ∈ news ++ rest, @LT.lt Nat _ p.1 D) → Fr h₀ L h' m → News h₀ L h' ((D, listOf ys.toArray k) :: (news ++ rest)) → Q (.ref D) ⟨h', g, d, tk, o⟩) :
    ∀ D C cO h' tk ys news mc k, J n ys news → ys.length = n → (∀ p ∈ news ++ rest, @LT.lt Nat _ p.1 D ∧ @LT.lt Nat _ p.1 C) → @LT.lt Nat _ D C → Fr h₀ L h' m → News h₀ L h' ((D, listOf ys.toArray k) :: (C, cO) :: (news ++ rest)) → h'.Ns C mc → compPost (model prog w) A E none Q (.ref D) C (.ok .next) ⟨h', g, d, tk, o⟩ := by
  intro D C cO h' tk ys news mc k j hlen hlt hDC F N hC
  exact comp_none F N hC (Nat.ne_of_lt hDC) (fun p hp => Nat.ne_of_lt (hlt p hp).2) fun h' F' N' => H D h' tk ys news k j hlen (fun p hp => (hlt p hp).1) F' N'
theorem hRR_some {Q : Value → Shared → Prop} {n : Nat} {J : Nat → List Value → List (Addr × Obj) → Prop} {rest : List (Addr × Obj)} {y : Str} {py : Pos} {cn : Str} {cs : Scope} {a : Addr} {ccd : Value} {cl : List (Str × Addr)}
    (hk : cs.kind = .function) (hx : (envX cn cs L a ccd cl).kindOf y = some .local)
    (H : ∀ D h' tk ys news k, J n ys news → ys.length = n → (∀ p ∈ news ++ rest, @LT.lt Nat _ p.1 D) → Fr h₀ L h' (fun z => if z = y then some (.ref D) else m z) → News h₀ L h' ((D, listOf ys.toArray k) :: (news ++ rest)) → Q .none ⟨h', g, d, tk, o⟩) :
    ∀ D C cO h' tk ys news mc k, J n ys news → ys.length = n → (∀ p ∈ news ++ rest, @LT.lt Nat _ p.1 D ∧ @LT.lt Nat _ p.1 C) → @LT.lt Nat _ D C → Fr h₀ L h' m → News h₀ L h' ((D, listOf ys.toArray k) :: (C, cO) :: (news ++ rest)) → h'.Ns C mc → compPost (model prog w) A E (some (assign (.Name y py) (envX cn cs L a ccd cl))) Q (.ref D) C (.ok .next) ⟨h', g, d, tk, o⟩ := by
  intro D C cO h' tk ys news mc k j hlen hlt hDC F N hC
  exact comp_some F N hC (Nat.ne_of_lt hDC) (fun p hp => Nat.ne_of_lt (hlt p hp).2) hk hx fun h' t' F' N' => H D h' t' ys news k j hlen (fun p hp => (hlt p hp).1) F' N'
theorem comp_listN {elt iter : PySem.Expr} {x : Str} {px : Pos} {scope : Scope} {clo : List (Str × Addr)} {pos : Pos} {env : Env} {l : Addr} {items : List Value} {Q : Value → Shared → Prop}
    (hh : A.handled = none) (hl : h.IsList l items.toArray) (hcell : ∀ y ∈ scope.names, y.2 ≠ .cell) (hkind : scope.kind = .function) (hx : scope.names.lookup x = some .local)
    (rest news₀ : List (Addr × Obj)) (F : Fr h₀ L h m) (N : News h₀ L h (news₀ ++ rest))
    (hfp : (∃ o, (l, o) ∈ rest) ∨ ∃ o, h₀.get? l = some o)
    (J : Nat → List Value → List (Addr × Obj) → Prop) (hJ : ∀ i ys news, J i ys news → news.map (·.1) = news₀.map (·.1)) (h0 : J 0 [] news₀) (hn : items.length ≤ 100000)
    (turn : ∀ i v ys news I oI C D cO mc h tk k, items[i]? = some v → J i ys news → ys.length = i → (∀ p ∈ news₀ ++ rest, p.1 ≠ I) → (∀ p ∈ news₀ ++ ((I, oI) :: rest), p.1 ≠ D ∧ p.1 ≠ C) →
      h.Ns C mc → mc x = some v → Fr h₀ L h m → News h₀ L h (news ++ ((I, oI) :: (D, listOf ys.toArray k) :: (C, cO) :: rest)) →
      wpAny (model prog w) A (eval elt (compEnvC scope clo C env)) (fun y s' => StopAt (∃ h' tk' news', s' = ⟨h', g, d, tk', o⟩ ∧ Fr h₀ L h' m ∧ News h₀ L h' (news' ++ ((I, oI) :: (D, listOf ys.toArray k) :: (C, cO) :: rest)) ∧ J (i + 1) (ys ++ [y]) news')) (fun _ _ => False) ⟨h, g, d, tk, o⟩)
    (H : ∀ D h' tk ys news k, J items.length ys news → ys.length = items.length → (∀ p ∈ news ++ rest, @LT.lt Nat _ p.1 D) → Fr h₀ L h' m → News h₀ L h' ((D, listOf ys.toArray k) :: (news ++ rest)) → Q (.ref D) ⟨h', g, d, tk, o⟩) :
    wpAny (model prog w) A (pyIter (.ref l)) (fun it s₂ => wpAny (model prog w) A (newList []) (fun acc s₃ => wpAny (model prog w) A (newFunctionEnv scope env.globals clo [] env.qual none .none (some env)) (fun cenv s₄ =>
      codeAny (model prog w) A (.compStart (.ListComp elt [⟨.Name x px, iter, [], 0⟩] scope pos) 0 it acc { cenv with scope := relabel scope env }) (compPost (model prog w) A E none Q acc cenv.locals) s₄) E s₃) E s₂) E ⟨h, g, d, t, o⟩ :=
  comp_list hh hl hcell hkind hx rest news₀ F N hfp J hJ h0 hn turn (hRR_none H)
theorem comp_rangeN {elt iter : PySem.Expr} {x : Str} {px : Pos} {scope : Scope} {clo : List (Str × Addr)} {pos : Pos} {env : Env} {r : Addr} {n : Nat} {t1 t2 t3 : Tok} {Q : Value → Shared → Prop}
    (hh : A.handled = none) (hr : IsRange h r 0 n 1 t1 t2 t3) (hcell : ∀ y ∈ scope.names, y.2 ≠ .cell) (hkind : scope.kind = .function) (hx : scope.names.lookup x = some .local)
    (rest news₀ : List (Addr × Obj)) (F : Fr h₀ L h m) (N : News h₀ L h (news₀ ++ rest))
    (J : Nat → List Value → List (Addr × Obj) → Prop) (hJ : ∀ i ys news, J i ys news → news.map (·.1) = news₀.map (·.1)) (h0 : J 0 [] news₀) (hn : n ≤ 100000)
    (turn : ∀ i tv ys news I oI C D cO mc h tk k, i < n → J i ys news → ys.length = i → (∀ p ∈ news₀ ++ rest, p.1 ≠ I) → (∀ p ∈ news₀ ++ ((I, oI) :: rest), p.1 ≠ D ∧ p.1 ≠ C) →
      h.Ns C mc → mc x = some (.int (i : Nat) tv) → Fr h₀ L h m → News h₀ L h (news ++ ((I, oI) :: (D, listOf ys.toArray k) :: (C, cO) :: rest)) →
      wpAny (model prog w) A (eval elt (compEnvC scope clo C env)) (fun y s' => StopAt (∃ h' tk' news', s' = ⟨h', g, d, tk', o⟩ ∧ Fr h₀ L h' m ∧ News h₀ L h' (news' ++ ((I, oI) :: (D, listOf ys.toArray k) :: (C, cO) :: rest)) ∧ J (i + 1) (ys ++ [y]) news')) (fun _ _ => False) ⟨h, g, d, tk, o⟩)
    (H : ∀ D h' tk ys news k, J n ys news → ys.length = n → (∀ p ∈ news ++ rest, @LT.lt Nat _ p.1 D) → Fr h₀ L h' m → News h₀ L h' ((D, listOf ys.toArray k) :: (news ++ rest)) → Q (.ref D) ⟨h', g, d, tk, o⟩) :
    wpAny (model prog w) A (pyIter (.ref r)) (fun it s₂ => wpAny (model prog w) A (newList []) (fun acc s₃ => wpAny (model prog w) A (newFunctionEnv scope env.globals clo [] env.qual none .none (some env)) (fun cenv s₄ =>
      codeAny (model prog w) A (.compStart (.ListComp elt [⟨.Name x px, iter, [], 0⟩] scope pos) 0 it acc { cenv with scope := relabel scope env }) (compPost (model prog w) A E none Q acc cenv.locals) s₄) E s₃) E s₂) E ⟨h, g, d, t, o⟩ :=
  comp_range hh hr hcell hkind hx rest news₀ F N J hJ h0 hn turn (hRR_none H)
theorem comp_rangeS {elt iter : PySem.Expr} {x : Str} {px : Pos} {scope : Scope} {clo : List (Str × Addr)} {pos : Pos} {r : Addr} {n : Nat} {t1 t2 t3 : Tok} {Q : Value → Shared → Prop} {y : Str} {py : Pos} {cn : Str} {cs : Scope} {a : Addr} {ccd : Value} {cl : List (Str × Addr)}
    (hh : A.handled = none) (hr : IsRange h r 0 n 1 t1 t2 t3) (hcell : ∀ y ∈ scope.names, y.2 ≠ .cell) (hkind : scope.kind = .function) (hx : scope.names.lookup x = some .local)
    (rest news₀ : List (Addr × Obj)) (F : Fr h₀ L h m) (N : News h₀ L h (news₀ ++ rest))
    (J : Nat → List Value → List (Addr × Obj) → Prop) (hJ : ∀ i ys news, J i ys news → news.map (·.1) = news₀.map (·.1)) (h0 : J 0 [] news₀) (hn : n ≤ 100000)
    (turn : ∀ i tv ys news I oI C D cO mc h tk k, i < n → J i ys news → ys.length = i → (∀ p ∈ news₀ ++ rest, p.1 ≠ I) → (∀ p ∈ news₀ ++ ((I, oI) :: rest), p.1 ≠ D ∧ p.1 ≠ C) →
      h.Ns C mc → mc x = some (.int (i : Nat) tv) → Fr h₀ L h m → News h₀ L h (news ++ ((I, oI) :: (D, listOf ys.toArray k) :: (C, cO) :: rest)) →
      wpAny (model prog w) A (eval elt (compEnvC scope clo C (envX cn cs L a ccd cl))) (fun y s' => StopAt (∃ h' tk' news', s' = ⟨h', g, d, tk', o⟩ ∧ Fr h₀ L h' m ∧ News h₀ L h' (news' ++ ((I, oI) :: (D, listOf ys.toArray k) :: (C, cO) :: rest)) ∧ J (i + 1) (ys ++ [y]) news')) (fun _ _ => False) ⟨h, g, d, tk, o⟩)
    (hkf : cs.kind = .function) (hy : (envX cn cs L a ccd cl).kindOf y = some .local)
    (H : ∀ D h' tk ys news k, J n ys news → ys.length = n → (∀ p ∈ news ++ rest, @LT.lt Nat _ p.1 D) → Fr h₀ L h' (fun z => if z = y then some (.ref D) else m z) → News h₀ L h' ((D, listOf ys.toArray k) :: (news ++ rest)) → Q .none ⟨h', g, d, tk, o⟩) :
    wpAny (model prog w) A (pyIter (.ref r)) (fun it s₂ => wpAny (model prog w) A (newList []) (fun acc s₃ => wpAny (model prog w) A (newFunctionEnv scope (envX cn cs L a ccd cl).globals clo [] (envX cn cs L a ccd cl).qual none .none (some (envX cn cs L a ccd cl))) (fun cenv s₄ =>
      codeAny (model prog w) A (.compStart (.ListComp elt [⟨.Name x px, iter, [], 0⟩] scope pos) 0 it acc { cenv with scope := relabel scope (envX cn cs L a ccd cl) }) (compPost (model prog w) A E (some (assign (.Name y py) (envX cn cs L a ccd cl))) Q acc cenv.locals) s₄) E s₃) E s₂) E ⟨h, g, d, t, o⟩ :=
  comp_range hh hr hcell hkind hx rest news₀ F N J hJ h0 hn turn (hRR_some hkf hy H)
/-- a name of the comprehension itself -/
theorem r_cvar {x : Str} {p : Pos} {scope : Scope} {clo : List (Str × Addr)} {C : Addr} {env : Env} {v : Value} {mc : Str → Option Value} {Q : Value → Shared → Prop} {s : Shared} (hC : s.heap.Ns C mc) (hv : mc x = some v) (h : Q v s) (hkind : scope.kind = .function := by rfl) (hl : (compEnvC scope clo C env).kindOf x = some .local := by rfl) (hd : (x == ("__debug__" : Str)) = false := by decide) :
    wpAny (model prog w) A (eval (.Name x p) (compEnvC scope clo C env)) Q E s :=
  ldVarK hC hv h hkind hl hd
end
section
variable {prog : Program} {w : World} {A : Around} {E : Value → Shared → Prop} {h₀ : Heap} {L : Addr} {m : Str → Option Value} {s : Shared}
theorem r_cB {x : Str} {pos : Pos} {v : Value} {scope : Scope} {clo : List (Str × Addr)} {C : Addr} {env : Env} {Q : Value → Shared → Prop} {K : Frag} {p : Program} {loose : List Str} {mg mb : Str → Option Value} (F : Fr h₀ L s.heap m) (X : K.In h₀) (T : TopRead p loose mg mb h₀) (e : nsIn K mainGlobals x = some none)
    (hv : bootBuiltins x = some v) (hn : x ≠ "__name__") (h : Q v s) (hg : env.globals = mainGlobals := by rfl) (hb : env.builtins = builtinsNs := by rfl) (hk : scope.kind = .function := by rfl) (hx : (compEnvC scope clo C env).kindOf x = some .globalImplicit := by rfl) (hd : (x == ("__debug__" : Str)) = false := by decide) :
    wpAny (model prog w) A (eval (.Name x pos) (compEnvC scope clo C env)) Q E s :=
  Name_function_global hk hx (loadGlobal_builtin (env := compEnvC scope clo C env) (by show s.heap.Ns env.globals mg; rw [hg]; exact T.g.keeps F.keep) (mg_none_of X T.g e) (by show s.heap.Ns env.builtins mb; rw [hb]; exact T.b.keeps F.keep) ((T.builtins x hn).trans hv) h) hd
theorem r_cG {x : Str} {pos : Pos} {v : Value} {scope : Scope} {clo : List (Str × Addr)} {C : Addr} {env : Env} {Q : Value → Shared → Prop} {K : Frag} {p : Program} {loose : List Str} {mg mb : Str → Option Value} (F : Fr h₀ L s.heap m) (X : K.In h₀) (T : TopRead p loose mg mb h₀) (e : nsIn K mainGlobals x = some (some v))
    (h : Q v s) (hg : env.globals = mainGlobals := by rfl) (hk : scope.kind = .function := by rfl) (hx : (compEnvC scope clo C env).kindOf x = some .globalImplicit := by rfl) (hd : (x == ("__debug__" : Str)) = false := by decide) :
    wpAny (model prog w) A (eval (.Name x pos) (compEnvC scope clo C env)) Q E s :=
  Name_function_global hk hx (loadGlobal_global (env := compEnvC scope clo C env) (by show s.heap.Ns env.globals mg; rw [hg]; exact T.g.keeps F.keep) (mg_of X T.g e) h) hd
end
theorem ints_snoc {n : Int} {t : Tok} : ∀ {vs : List Value} {ns : List Int}, IntsAre vs ns → IntsAre (vs ++ [.int n t]) (ns ++ [n]) := fun h => by
  induction h with
  | nil => exact .cons n t .nil
  | cons a b _ ih => exact .cons a b ih
end
section
open PySem.Calls PySem.SeqAt
section
variable {A : Around} {s : Shared}
theorem slot_beq_refl : Slot "bytes" (cmpInfo .Eq).2.2 "bytes.__eq__" := FB.slot_bytes_eq
theorem gives_none_bytes (b : Array UInt8) (t : Tok) : Gives (Builtin.«NoneType.__eq__» ⟨[.none, .bytes b t], []⟩) (.val (Value.notImplemented)) :=
  .of_wp fun M A E s Q h => by obtain ⟨hp, g, d, tk, os⟩ := s; wp_walk; exact ⟨_, rfl, h⟩
theorem gives_bytes_none (b : Array UInt8) (t : Tok) : Gives (Builtin.«bytes.__eq__» ⟨[.bytes b t, .none], []⟩) (.val (Value.notImplemented)) :=
  .of_wp fun M A E s Q h => by
    obtain ⟨hp, g, d, tk, os⟩ := s
    wp_walk
    refine wpAny_of_eq (show isSubtype (.type "NoneType") (.type "bytes") = pure false by rw [isSubtype_type]; kernel_rfl) ?_
    wp_walk
    exact ⟨_, rfl, h⟩
theorem rc_none_bytes (b : Array UInt8) (u : Tok) : RcAt A s .none (.bytes b u) false := fun prog w E Q h =>
  rc_eq_decline_or (k := false) rfl (typeIs_bytes s b u) (by decide) F.sub_bytes_NoneType F.slot_NoneType_eq slot_beq_refl
    (fun _ hq => call_gives F.slot_NoneType_eq rfl F.entry_NoneType_eq (F.args_NoneType_eq_2 _ _) (gives_none_bytes b u) hq)
    (fun _ hq => call_gives slot_beq_refl (typeIs_bytes s b u) FB.entry_bytes_eq (FB.args_bytes_eq_2 _ _) (gives_bytes_none b u) hq)
    (fun _ hq => wpAny_of_eq (rfl : isSame .none (.bytes b u) = pure false) hq) (.inl rfl) h
theorem eq_none_bytes (b : Array UInt8) (u : Tok) : EqAt A s .none (.bytes b u) false := fun prog w E Q h => by
  unfold eqBool
  refine wpAny_holding ?_
  refine wpAny_ite_split (fun hab => absurd (eq_of_beq hab) nofun) (fun _ => ?_)
  exact wpAny_bind (rc_none_bytes b u prog w E _ (wpAny_truthy_bool h))
theorem rc_bytes (b : Array UInt8) (t : Tok) (c : Array UInt8) (u : Tok) : RcAt A s (.bytes b t) (.bytes c u) (b.toList == c.toList) := fun prog w E Q h =>
  richCompare_gives (typeIs_bytes s b t) (typeIs_bytes s c u) FB.slot_bytes_eq FB.entry_bytes_eq (FB.args_bytes_eq_2 _ _) (gives_bytes_eq b c t u) (fun x => nomatch x) h
theorem eq_bytes_at (b : Array UInt8) (t : Tok) (c : Array UInt8) (u : Tok) : EqAt A s (.bytes b t) (.bytes c u) (b.toList == c.toList) := fun prog w E Q h => by
  unfold eqBool
  refine wpAny_holding ?_
  refine wpAny_ite_split (fun hab => ?_) (fun _ => ?_)
  · have e := eq_of_beq hab
    injection e with e1 e2
    subst e1
    exact wpAny_bind (wpAny_rule (wpAny_pure (by simpa using h)))
  · exact wpAny_bind (rc_bytes b t c u prog w E _ (wpAny_truthy_bool h))
end
/-- bytes and None, as a list carries them -/
inductive OptAre : List Value → List (Option (List UInt8)) → Prop
  | nil : OptAre [] []
  | byt (b : List UInt8) (t : Tok) {vs os} : OptAre vs os → OptAre (.bytes b.toArray t :: vs) (some b :: os)
  | non {vs os} : OptAre vs os → OptAre (.none :: vs) (none :: os)
namespace OptAre
theorem length : ∀ {vs os}, OptAre vs os → vs.length = os.length := fun h => by
  induction h with
  | nil => rfl
  | byt _ _ _ ih => exact congrArg (· + 1) ih
  | non _ ih => exact congrArg (· + 1) ih
theorem append : ∀ {vs os vs' os'}, OptAre vs os → OptAre vs' os' → OptAre (vs ++ vs') (os ++ os') := fun h r => by
  induction h with
  | nil => exact r
  | byt b t _ ih => exact .byt b t ih
  | non _ ih => exact .non ih
theorem snoc {vs os} {b : List UInt8} {t : Tok} (h : OptAre vs os) : OptAre (vs ++ [.bytes b.toArray t]) (os ++ [some b]) := h.append (.byt b t .nil)
theorem pick : ∀ {vs os}, OptAre vs os → ∀ (i : Nat) (v : Value), vs[i]? = some v → (∃ b t, v = .bytes b.toArray t ∧ os[i]? = some (some b)) ∨ (v = .none ∧ os[i]? = some none) := fun h => by
  induction h with
  | nil => intro i v e; cases e
  | byt b t _ ih =>
    intro i v e
    cases i with
    | zero => exact .inl ⟨b, t, (Option.some.inj e).symm, rfl⟩
    | succ i => exact ih i v e
  | non _ ih =>
    intro i v e
    cases i with
    | zero => exact .inr ⟨(Option.some.inj e).symm, rfl⟩
    | succ i => exact ih i v e
end OptAre
noncomputable def isB (x : List UInt8) : Value → Bool
  | .bytes b _ => b.toList == x
  | _ => false
theorem isB_eq {x : List UInt8} {vs os} (h : OptAre vs os) (i : Nat) (v : Value) (e : vs[i]? = some v) : ∃ y, os[i]? = some y ∧ isB x v = (y == some x) := by
  rcases h.pick i v e with ⟨b, t, rfl, h⟩ | ⟨rfl, h⟩
  · exact ⟨_, h, rfl⟩
  · exact ⟨_, h, rfl⟩
theorem ne_lt_idx {k : Option (List UInt8)} : ∀ {ns : List (Option (List UInt8))} {j : Nat}, j < ns.idxOf k → ∀ (h2 : j < ns.length), ns[j] ≠ k
  | n :: r, 0, h, _ => by
    by_cases e : n = k
    · subst e; simp at h
    · simpa using e
  | n :: r, j + 1, h, h2 => by
    by_cases e : n = k
    · subst e; simp at h
    · rw [List.idxOf_cons, show (n == k) = false from beq_eq_false_iff_ne.mpr e] at h
      simpa using ne_lt_idx (ns := r) (j := j) (by simpa using h) (by simpa using h2)
open PySem.SeqAt in
theorem isB_at {A : Around} {s : Shared} {x : List UInt8} {t : Tok} {vs os} (h : OptAre vs os) (y : Value) (hy : y ∈ vs.toArray) : EqAt A s y (.bytes x.toArray t) (isB x y) := by
  obtain ⟨i, hi⟩ := List.getElem?_of_mem (show y ∈ vs by simpa using hy)
  rcases h.pick i y hi with ⟨b, t', rfl, -⟩ | ⟨rfl, -⟩
  · exact eq_bytes_at _ _ _ _
  · exact eq_none_bytes _ _
theorem isB_any {x : List UInt8} : ∀ {vs os}, OptAre vs os → vs.any (isB x) = os.any (· == some x)
  | _, _, .nil => rfl
  | _, _, .byt b t r => by rw [List.any_cons, List.any_cons, isB_any r]; rfl
  | _, _, .non r => by rw [List.any_cons, List.any_cons, isB_any r]; rfl
section
open PySem.SeqAt
variable {prog : Program} {w : World} {A : Around} {E : Value → Shared → Prop} {Q : Value → Shared → Prop} {h h₀ : Heap} {g : Array GenState} {d : Drawn} {t : Nat} {o : OsState} {u v : Tok} {L : Addr} {m : Str → Option Value} {news : List (Addr × Obj)}
theorem r_inB {l : Addr} {vs : List Value} {os : List (Option (List UInt8))} {k : Nat} {x : List UInt8} (N : News h₀ L h news) (hm : (l, listOf vs.toArray k) ∈ news) (hO : OptAre vs os)
    (H : Q (.bool (os.any (· == some x))) ⟨h, g, d, t, o⟩) : wpAny (model prog w) A (compareOp .In (.bytes x.toArray u) (.ref l)) Q E ⟨h, g, d, t, o⟩ := by
  refine in_listAt (s := ⟨h, g, d, t, o⟩) (isB x) ⟨_, (N _ hm).1, rfl, k, rfl⟩ (fun y hy => isB_at hO y hy) ?_
  rw [show vs.toArray.any (isB x) = vs.any (isB x) by simp, isB_any hO]
  exact H
theorem r_indexB {l : Addr} {vs : List Value} {os : List (Option (List UInt8))} {k : Nat} {x : List UInt8} (N : News h₀ L h news) (hm : (l, listOf vs.toArray k) ∈ news) (hO : OptAre vs os) (hx : some x ∈ os) (hz : os.length ≤ 100000)
    (H : ∀ t1 t2, Q (.int (os.idxOf (some x) : Nat) t1) ⟨h, g, d, t2, o⟩) : wpAny (model prog w) A (call (.builtin "list.index") [.ref l, .bytes x.toArray u]) Q E ⟨h, g, d, t, o⟩ := by
  have hlen := hO.length
  have hj : os.idxOf (some x) < os.length := List.idxOf_lt_length_iff.mpr hx
  refine call_meets PySem.F.slot_list_index ⟨_, (N _ hm).1, rfl⟩ PySem.F.entry_list_index (PySem.F.args_list_index_2 _ _)
    (list_indexAt l vs.toArray k none #[] (.bytes x.toArray u) (isB x) (os.idxOf (some x)) (by simpa [hlen] using hj) (by omega) ?_ ?_) ⟨(N _ hm).1, fun y hy => isB_at hO y hy, H _ _⟩
  · obtain ⟨y, hy, e⟩ := isB_eq (x := x) hO (os.idxOf (some x)) (vs[os.idxOf (some x)]'(by omega)) (List.getElem?_eq_getElem _)
    have : y = some x := by
      rw [List.getElem?_eq_getElem hj, List.getElem_idxOf hj] at hy
      exact (Option.some.inj hy).symm
    simp only [List.getElem_toArray]
    rw [e, this]; exact beq_self_eq_true _
  · intro j hjs hlt
    have hjs' : j < vs.length := by simpa using hjs
    obtain ⟨y, hy, e⟩ := isB_eq (x := x) hO j (vs[j]'hjs') (List.getElem?_eq_getElem _)
    simp only [List.getElem_toArray]
    rw [e]
    have hjo : j < os.length := by omega
    rw [List.getElem?_eq_getElem hjo] at hy
    have : os[j] ≠ some x := ne_lt_idx hlt hjo
    rw [Option.some.inj hy] at this
    exact beq_eq_false_iff_ne.mpr this
end
end
section
open PySem.Calls
section
variable {prog : Program} {w : World} {A : Around} {E : Value → Shared → Prop} {Q : Value → Shared → Prop} {h h₀ : Heap} {g : Array GenState} {d : Drawn} {t : Nat} {o : OsState} {u v : Tok} {L : Addr} {m : Str → Option Value} {news : List (Addr × Obj)}
theorem r_mulR {a b : Int} (hb : b.natAbs < 2 ^ 64) (H : Q (.int (a * b) t) ⟨h, g, d, t + 1, o⟩) : wpAny (model prog w) A (binaryOp .Mult (.int a u) (.int b v)) Q E ⟨h, g, d, t, o⟩ := PyProof.Rows.mul_int H (IntMulOk.of_right (intBits_le hb))
theorem r_powS {a n : Int} (hn : 0 ≤ n) (hn2 : n ≤ 1000000) (ha : a.natAbs < 2 ^ 64) (H : Q (.int (a ^ n.toNat) t) ⟨h, g, d, t + 1, o⟩) : wpAny (model prog w) A (binaryOp .Pow (.int a u) (.int n v)) Q E ⟨h, g, d, t, o⟩ := pow_int_small hn hn2 ha H
theorem r_fdivS {a b : Int} (hb : b ≠ 0) (hz : b.natAbs.log2 < 9000) (H : Q (.int (a.fdiv b) t) ⟨h, g, d, t + 1, o⟩) : wpAny (model prog w) A (binaryOp .FloorDiv (.int a u) (.int b v)) Q E ⟨h, g, d, t, o⟩ := floordiv_int hb H (.inl (PyProof.noPylong_of_log2 hz))
theorem r_zip {l1 l2 : Addr} {xs ys : Array Value} {k1 k2 : Nat} (F : Fr h₀ L h m) (N : News h₀ L h news) (m1 : (l1, listOf xs k1) ∈ news) (m2 : (l2, listOf ys k2) ∈ news)
    (H : ∀ h' z TI TO i1 i2 oz oT o1 o2 oI, ZipApart z TI TO i1 i2 l1 l2 → Fr h₀ L h' m → News h₀ L h' ([(z, oz), (TO, oT), (i1, o1), (i2, o2)] ++ ((TI, oI) :: news)) →
      (IsZip h' z TI TO .none ∧ IsPair h' TI (.ref i1) (.ref i2) ∧ (∃ a b, IsPair h' TO a b) ∧ h'.IsListIter i1 l1 0 ∧ h'.IsListIter i2 l2 0 ∧ h'.IsList l1 xs ∧ h'.IsList l2 ys) →
      (∀ p ∈ news, @LT.lt Nat _ p.1 z ∧ @LT.lt Nat _ p.1 TI ∧ @LT.lt Nat _ p.1 TO ∧ @LT.lt Nat _ p.1 i1 ∧ @LT.lt Nat _ p.1 i2) → Q (.ref z) ⟨h', g, d, t, o⟩) :
    wpAny (model prog w) A (call (.type "zip") [.ref l1, .ref l2]) Q E ⟨h, g, d, t, o⟩ := by
  have hl1 : h.IsList l1 xs := ⟨_, (N _ m1).1, rfl, k1, rfl⟩
  have hl2 : h.IsList l2 ys := ⟨_, (N _ m2).1, rfl, k2, rfl⟩
  have a1 : l1 < h.objs.size := Heap.lt_size (N _ m1).1
  have a2 : l2 < h.objs.size := Heap.lt_size (N _ m2).1
  have F0 := F.ns.lt
  have new : ∀ n, h.objs.size ≤ n → n ≠ L ∧ h₀.get? n = none := fun n hn => ⟨fun q => by rw [q] at hn; exact absurd F0 (Nat.not_lt.mpr hn), by
    cases q : h₀.get? n with
    | none => rfl
    | some o => exact absurd (Nat.lt_of_lt_of_le (Heap.lt_size (F.keep _ _ q)) hn) (Nat.lt_irrefl _)⟩
  refine call_zip_2 (s := ⟨h, g, d, t, o⟩) hl1 hl2 fun h' hz hTI hTO hi1 hi2 _ hk => ?_
  obtain ⟨o1, ho1, d1⟩ := id hi1
  obtain ⟨o2, ho2, d2⟩ := id hi2
  obtain ⟨oz, hoz⟩ : ∃ o, h'.get? _ = some o := ⟨_, hz⟩
  obtain ⟨oT, hoT⟩ : ∃ o, h'.get? _ = some o := ⟨_, hTO⟩
  obtain ⟨oI, hoI⟩ : ∃ o, h'.get? _ = some o := ⟨_, hTI⟩
  have lt : ∀ p ∈ news, @LT.lt Nat _ p.1 h.objs.size := fun p hp => Heap.lt_size (N p hp).1
  refine H h' _ _ _ _ _ oz oT o1 o2 oI (zipApart_new a1 a2) (F.keeps hk) (fun p hp => ?_) ⟨hz, hTI, ⟨_, _, hTO⟩, hi1, hi2, hl1.at (fun o e => hk _ o e), hl2.at (fun o e => hk _ o e)⟩ fun p hp => ?_
  · simp only [List.mem_append, List.mem_cons, List.not_mem_nil, or_false] at hp
    rcases hp with (rfl | rfl | rfl | rfl) | rfl | hp
    · exact ⟨hoz, new _ (Nat.le_add_right _ 4)⟩
    · exact ⟨hoT, new _ (Nat.le_add_right _ 3)⟩
    · exact ⟨ho1, new _ (Nat.le_refl _)⟩
    · exact ⟨ho2, new _ (Nat.le_add_right _ 1)⟩
    · exact ⟨hoI, new _ (Nat.le_add_right _ 2)⟩
    · exact ⟨hk _ _ (N p hp).1, (N p hp).2⟩
  · have := lt p hp
    exact ⟨Nat.lt_of_lt_of_le this (Nat.le_add_right _ 4), Nat.lt_of_lt_of_le this (Nat.le_add_right _ 2), Nat.lt_of_lt_of_le this (Nat.le_add_right _ 3), this, Nat.lt_of_lt_of_le this (Nat.le_add_right _ 1)⟩
theorem allLt_up {D D' : Nat} (h : D ≤ D') : ∀ {l : List (Addr × Obj)}, AllLt D l → AllLt D' l
  | [], _ => trivial
  | _ :: _, x => ⟨Nat.lt_of_lt_of_le x.1 h, allLt_up h x.2⟩
end
/-- the number that packing makes -/
noncomputable def packF (cs : List (Int × Int)) : Int × Int := cs.foldl (fun a x => (a.1 * 2 ^ x.2.toNat + x.1, a.2 + x.2)) (0, 0)
theorem packF_snoc {cs : List (Int × Int)} {x : Int × Int} : packF (cs ++ [x]) = ((packF cs).1 * 2 ^ x.2.toNat + x.1, (packF cs).2 + x.2) := by
  unfold packF; rw [List.foldl_append]; rfl
theorem packF_many : ∀ {cs : List (Int × Int)}, (∀ x ∈ cs, 0 ≤ x.2 ∧ x.2 ≤ 10) → 0 ≤ (packF cs).2 ∧ (packF cs).2 ≤ 10 * cs.length := by
  intro cs
  suffices ∀ (cs : List (Int × Int)) (a : Int × Int), (∀ x ∈ cs, 0 ≤ x.2 ∧ x.2 ≤ 10) → a.2 ≤ (cs.foldl (fun a x => (a.1 * 2 ^ x.2.toNat + x.1, a.2 + x.2)) a).2 ∧ (cs.foldl (fun a x => (a.1 * 2 ^ x.2.toNat + x.1, a.2 + x.2)) a).2 ≤ a.2 + 10 * cs.length by
    intro h; have := this cs (0, 0) h; unfold packF; simp only at this ⊢; omega
  intro cs
  induction cs with
  | nil => intro a _; simp
  | cons x r ih =>
    intro a h
    have h1 := h x (.head _)
    have h2 := ih (a.1 * 2 ^ x.2.toNat + x.1, a.2 + x.2) fun y hy => h y (.tail _ hy)
    rw [List.foldl_cons, List.length_cons]
    dsimp only at h2 ⊢
    omega
theorem packF_pos : ∀ {cs : List (Int × Int)}, (∀ x ∈ cs, 0 ≤ x.1) → 0 ≤ (packF cs).1 := by
  intro cs
  suffices ∀ (cs : List (Int × Int)) (a : Int × Int), 0 ≤ a.1 → (∀ x ∈ cs, 0 ≤ x.1) → 0 ≤ (cs.foldl (fun a x => (a.1 * 2 ^ x.2.toNat + x.1, a.2 + x.2)) a).1 by
    exact fun h => this cs (0, 0) (Int.le_refl 0) h
  intro cs
  induction cs with
  | nil => intro a h _; exact h
  | cons x r ih =>
    intro a h0 h
    have h1 := h x (.head _)
    refine ih _ ?_ fun y hy => h y (.tail _ hy)
    have : 0 ≤ a.1 * 2 ^ x.2.toNat := Int.mul_nonneg h0 (Int.pow_nonneg (by decide))
    dsimp only; omega
/-- the octets that packing makes -/
noncomputable def packB (cs : List (Int × Int)) : List Int :=
  let rest := ((8 : Int) - (packF cs).2.fmod 8).fmod 8
  let number := (packF cs).1 * 2 ^ rest.toNat
  let many := ((packF cs).2 + rest).fdiv 8
  (List.range many.toNat).map fun (k : Nat) => (number.fdiv (256 ^ (many - 1 - (k : Int)).toNat)).fmod 256
theorem pow2_small {n : Int} (h : 0 ≤ n ∧ n ≤ 10) : ((2 : Int) ^ n.toNat).natAbs < 2 ^ 64 := by
  rw [Int.natAbs_pow]
  exact Nat.lt_of_le_of_lt (Nat.pow_le_pow_right (by decide) (show n.toNat ≤ 10 by omega)) (by decide)
section
variable {prog : Program} {w : World} {A : Around} {E : Value → Shared → Prop} {Q : Value → Shared → Prop} {h h₀ : Heap} {g : Array GenState} {d : Drawn} {t : Nat} {o : OsState} {u v : Tok} {L : Addr} {m : Str → Option Value} {news : List (Addr × Obj)}
theorem r_range {n : Int} (F : Fr h₀ L h m) (N : News h₀ L h news)
    (H : ∀ h' r oR t1 t2 t3 t4, Fr h₀ L h' m → News h₀ L h' ((r, oR) :: news) → IsRange h' r 0 n 1 t1 t2 t3 → (∀ p ∈ news, @LT.lt Nat _ p.1 r) → Q (.ref r) ⟨h', g, d, t4, o⟩) :
    wpAny (model prog w) A (call (.type "range") [.int n u]) Q E ⟨h, g, d, t, o⟩ := by
  refine call_range_1 ?_
  exact H _ _ _ _ _ _ _ (F.push _) (N.push F _) (IsRange.new ..) fun p hp => Heap.lt_size (N p hp).1
theorem r_bytesL {l : Addr} {vs : List Value} {ns : List Int} {k : Nat} (F : Fr h₀ L h m) (N : News h₀ L h news) (hm : (l, listOf vs.toArray k) ∈ news) (hi : IntsAre vs ns) (hr : ∀ n ∈ ns, 0 ≤ n ∧ n < 256) (hz : vs.length ≤ 100000) (hh : A.handled = none)
    (H : ∀ h' t1 t2, Fr h₀ L h' m → News h₀ L h' news → Q (.bytes (byteArr ns) t1) ⟨h', g, d, t2, o⟩) : wpAny (model prog w) A (call (.type "bytes") [.ref l]) Q E ⟨h, g, d, t, o⟩ :=
  call_bytes_ints (s := ⟨h, g, d, t, o⟩) ⟨_, (N _ hm).1, rfl, k, rfl⟩ hi hr (by rw [sizeLine_eq]; omega) hh fun h' t1 t2 hk => H h' t1 t2 (F.keeps hk) fun p hp => ⟨hk _ _ (N p hp).1, (N p hp).2⟩
end
theorem pow256_ne (e : Nat) : (256 : Int) ^ e ≠ 0 := Int.pow_ne_zero (by decide)
theorem pow256_log {e : Int} (h : e ≤ 400) : ((256 : Int) ^ e.toNat).natAbs.log2 < 9000 := by
  rw [Int.natAbs_pow, show (256 : Int).natAbs = 2 ^ 8 from rfl, ← Nat.pow_mul, Nat.log2_two_pow]
  omega
end
section
open PySem.Calls
section
variable {prog : Program} {w : World} {A : Around} {h : Heap} {gn : Array GenState} {dr : Drawn} {t : Nat} {os : OsState} {R : Result → Shared → Prop}
  {h₀ : Heap} {L a : Addr} {cn : Str} {cs : Scope} {ccd : Value} {cl : List (Str × Addr)} {body : List Stmt} {test : PySem.Expr} {env : Env}
inductive WhileI (h₀ : Heap) (L : Addr) (gn : Array GenState) (dr : Drawn) (os : OsState) (J : Nat → (Str → Option Value) → List (Addr × Obj) → Prop) (k : Nat) (s' : Shared) : Prop
  | mk (h' : Heap) (tk : Nat) (m : Str → Option Value) (news : List (Addr × Obj)) (h1 : s' = ⟨h', gn, dr, tk, os⟩) (h2 : Fr h₀ L h' m) (h3 : News h₀ L h' news) (h4 : J k m news)
inductive NextW (h₀ : Heap) (L : Addr) (gn : Array GenState) (dr : Drawn) (os : OsState) (J : Nat → (Str → Option Value) → List (Addr × Obj) → Prop) (k : Nat) (s' : Shared) : Prop
  | mk (k' : Nat) (h' : Heap) (tk : Nat) (m : Str → Option Value) (news : List (Addr × Obj)) (h1 : k' < k) (h2 : s' = ⟨h', gn, dr, tk, os⟩) (h3 : Fr h₀ L h' m) (h4 : News h₀ L h' news) (h5 : J k' m news)
def TurnW (h₀ : Heap) (L : Addr) (gn : Array GenState) (dr : Drawn) (os : OsState) (J : Nat → (Str → Option Value) → List (Addr × Obj) → Prop) (k : Nat) (R : Result → Shared → Prop) (f : Flow) (s' : Shared) : Prop :=
  match f with
  | .brk => R (.ok .next) s'
  | .ret v => R (.ok (.ret v)) s'
  | _ => NextW h₀ L gn dr os J k s'
theorem codeC_while_led (J : Nat → (Str → Option Value) → List (Addr × Obj) → Prop) {k : Nat} {m : Str → Option Value} {news : List (Addr × Obj)}
    (turn : ∀ k m news h tk, J k m news → Fr h₀ L h m → News h₀ L h news →
      wpC (model prog w) A (isTrue test env (eval test env)) (fun b s₂ =>
        if b then wpC (model prog w) A (execs body env) (TurnW h₀ L gn dr os J k R) (notedBy (model prog w) A env fun e s' => R (.error e) s') s₂
        else R (.ok .next) s₂)
        (notedBy (model prog w) A env fun e s' => R (.error e) s') ⟨h, gn, dr, tk, os⟩)
    (j : J k m news) (F : Fr h₀ L h m) (N : News h₀ L h news) : codeC (model prog w) A (.whileLoop test body [] env) R ⟨h, gn, dr, t, os⟩ := by
  refine codeC_whileLoop (WhileI h₀ L gn dr os J) (fun k s' hs => ?_) k ⟨h, t, m, news, rfl, F, N, j⟩
  refine hideGoal fun G hG => ?_
  obtain ⟨h', tk, m, news, rfl, F, N, j⟩ := hs
  refine hG ?_
  clear hG G
  refine wpC_mono (turn k m news h' tk j F N) (fun b s₂ h₂ => ?_) fun _ _ q => q
  cases b with
  | false => exact h₂
  | true =>
    simp only [if_true] at h₂ ⊢
    refine wpC_mono h₂ (fun f s₃ h₃ => ?_) fun _ _ q => q
    cases f with
    | next => obtain ⟨k', h', tk, m, news, hk, rfl, F, N, j⟩ := h₃; exact ⟨k', hk, h', tk, m, news, rfl, F, N, j⟩
    | cont => obtain ⟨k', h', tk, m, news, hk, rfl, F, N, j⟩ := h₃; exact ⟨k', hk, h', tk, m, news, rfl, F, N, j⟩
    | brk => exact h₃
    | ret v => exact h₃
end
section
variable {prog : Program} {w : World} {A : Around} {E : Value → Shared → Prop} {Q : Value → Shared → Prop} {h h₀ : Heap} {g : Array GenState} {d : Drawn} {t : Nat} {o : OsState} {u v : Tok} {L a : Addr} {m : Str → Option Value} {news : List (Addr × Obj)} {cn : Str} {cs : Scope} {ccd : Value} {cl : List (Str × Addr)}
theorem r_listAdd {l b : Addr} {vs ws : List Value} {k1 k2 : Nat} (F : Fr h₀ L h m) (N : News h₀ L h news) (m1 : (l, listOf vs.toArray k1) ∈ news) (m2 : (b, listOf ws.toArray k2) ∈ news) (hz : vs.length + ws.length ≤ 100000)
    (H : ∀ h' D, Fr h₀ L h' m → News h₀ L h' ((D, listOf (vs ++ ws).toArray 0) :: news) → (∀ p ∈ news, @LT.lt Nat _ p.1 D) → Q (.ref D) ⟨h', g, d, t, o⟩) :
    wpAny (model prog w) A (binaryOp .Add (.ref l) (.ref b)) Q E ⟨h, g, d, t, o⟩ :=
  add_lists (s := ⟨h, g, d, t, o⟩) F N ⟨_, (N _ m1).1, rfl, k1, rfl⟩ ⟨_, (N _ m2).1, rfl, k2, rfl⟩ (fun h' F' N' => H h' _ F' N' fun p hp => Heap.lt_size (N p hp).1) (by rw [sizeLine_eq]; omega)
theorem r_nameL {x : Str} {pos : Pos} {v : Value} (F : Fr h₀ L h m) (hv : m x = some v) (hk : cs.kind = .function) (hx : (envX cn cs L a ccd cl).kindOf x = some .local) (hd : (x == ("__debug__" : Str)) = false) (H : Q v ⟨h, g, d, t, o⟩) :
    wpAny (model prog w) A (eval (.Name x pos) (envX cn cs L a ccd cl)) Q E ⟨h, g, d, t, o⟩ := nameX_L (s := ⟨h, g, d, t, o⟩) F hv H hk hx hd
end
section
variable {prog : Program} {w : World} {A : Around} {E : Value → Shared → Prop} {Q : Value → Shared → Prop} {h h₀ : Heap} {g : Array GenState} {d : Drawn} {t : Nat} {o : OsState} {u v : Tok} {L a : Addr} {m : Str → Option Value} {news : List (Addr × Obj)}
theorem r_enumL {l : Addr} {vs : List Value} {k : Nat} (F : Fr h₀ L h m) (N : News h₀ L h news) (m1 : (l, listOf vs.toArray k) ∈ news)
    (H : ∀ h' e it oe oi, Fr h₀ L h' m → News h₀ L h' ((e, oe) :: (it, oi) :: news) → ((∃ old, IsEnum h' e it ((0 : Nat) : Int) old) ∧ h'.IsListIter it l 0 ∧ h'.IsList l vs.toArray) → (∀ p ∈ news, @LT.lt Nat _ p.1 it) → @LT.lt Nat _ it e → Q (.ref e) ⟨h', g, d, t, o⟩) :
    wpAny (model prog w) A (call (.type "enumerate") [.ref l]) Q E ⟨h, g, d, t, o⟩ := by
  have hl : h.IsList l vs.toArray := ⟨_, (N _ m1).1, rfl, k, rfl⟩
  have F0 := F.ns.lt
  have new : ∀ n, h.objs.size ≤ n → n ≠ L ∧ h₀.get? n = none := fun n hn => ⟨fun q => by rw [q] at hn; exact absurd F0 (Nat.not_lt.mpr hn), by
    cases q : h₀.get? n with
    | none => rfl
    | some o => exact absurd (Nat.lt_of_lt_of_le (Heap.lt_size (F.keep _ _ q)) hn) (Nat.lt_irrefl _)⟩
  refine call_enumerate_list (s := ⟨h, g, d, t, o⟩) hl fun h' he hi _ hk => ?_
  obtain ⟨oi, hoi, di⟩ := id hi
  obtain ⟨oe, hoe⟩ : ∃ o, h'.get? _ = some o := ⟨_, he⟩
  refine H h' _ _ oe oi (F.keeps hk) (fun p hp => ?_) ⟨⟨_, he⟩, hi, hl.at (fun o e => hk _ o e)⟩ (fun p hp => Heap.lt_size (N p hp).1) (Nat.lt_succ_self _)
  rcases List.mem_cons.mp hp with rfl | hp
  · exact ⟨hoe, new _ (Nat.le_succ _)⟩
  rcases List.mem_cons.mp hp with rfl | hp
  · exact ⟨hoi, new _ (Nat.le_refl _)⟩
  · exact ⟨hk _ _ (N p hp).1, (N p hp).2⟩
end
theorem r_bytes1 {prog : Program} {w : World} {A : Around} {E : Value → Shared → Prop} {Q : Value → Shared → Prop} {h h₀ : Heap} {g : Array GenState} {d : Drawn} {t : Nat} {o : OsState} {L : Addr} {m : Str → Option Value} {news : List (Addr × Obj)} {l : Addr} {c : Int} {tc : Tok} {k : Nat} (F : Fr h₀ L h m) (N : News h₀ L h news) (hm : (l, listOf #[.int c tc] k) ∈ news) (h0 : 0 ≤ c) (h1 : c < 256) (hh : A.handled = none)
    (H : ∀ h' t1 t2, Fr h₀ L h' m → News h₀ L h' news → Q (.bytes [c.toNat.toUInt8].toArray t1) ⟨h', g, d, t2, o⟩) : wpAny (model prog w) A (call (.type "bytes") [.ref l]) Q E ⟨h, g, d, t, o⟩ :=
  r_bytesL F N (vs := [.int c tc]) (ns := [c]) hm (.cons _ _ .nil) (by intro n hn; rw [List.mem_singleton] at hn; omega) (by show 1 ≤ 100000; omega) hh H
theorem cut1 (l : List UInt8) : cut none (some 1) l = l.take 1 := cut_to 1 l
theorem cut1_len (l : List UInt8) : (cut none (some 1) l).length ≤ 1 := by rw [cut1, List.length_take]; omega
section
variable {prog : Program} {w : World} {A : Around} {h : Heap} {gn : Array GenState} {dr : Drawn} {t : Nat} {os : OsState} {R : Result → Shared → Prop} {E : Value → Shared → Prop}
  {h₀ : Heap} {L a : Addr} {cn : Str} {cs : Scope} {ccd : Value} {cl : List (Str × Addr)} {body : List Stmt}
/-- a for over a range, its iterator and all -/
theorem for_range {r : Addr} {n : Nat} {t1 t2 t3 : Tok} {x : Str} {px : Pos} {m₀ : Str → Option Value}
    (hh : A.handled = none) (hr : IsRange h r 0 n 1 t1 t2 t3) (hk : cs.kind = .function) (hx : (envX cn cs L a ccd cl).kindOf x = some .local) (hn : n ≤ 100000)
    (rest news₀ : List (Addr × Obj)) (J : Nat → (Str → Option Value) → List (Addr × Obj) → Prop) (hJ : ∀ i m news, J i m news → news.map (·.1) = news₀.map (·.1))
    (turn : ∀ i tv m news I oI h tk, i < n → (∀ p ∈ news₀ ++ rest, @LT.lt Nat _ p.1 I) → J i m news → Fr h₀ L h (fun z => if z = x then some (.int (i : Nat) tv) else m z) → News h₀ L h (news ++ ((I, oI) :: rest)) →
      wpC (model prog w) A (execs body (envX cn cs L a ccd cl)) (TurnC h₀ L gn dr os (J (i + 1)) ((I, oI) :: rest) R) (notedBy (model prog w) A (envX cn cs L a ccd cl) fun e s' => R (.error e) s') ⟨h, gn, dr, tk, os⟩)
    (done : ∀ m news h tk, J n m news → Fr h₀ L h m → News h₀ L h (news ++ rest) → R (.ok .next) ⟨h, gn, dr, tk, os⟩)
    (F : Fr h₀ L h m₀) (N : News h₀ L h (news₀ ++ rest)) (h0 : J 0 m₀ news₀) :
    wpAny (model prog w) A (pyIter (.ref r)) (fun it s₂ => codeC (model prog w) A (.forLoop (.Name x px) it body [] (envX cn cs L a ccd cl)) R s₂) E ⟨h, gn, dr, t, os⟩ := by
  have hs : Builtin.Range.rangeSize 0 (n : Int) 1 = n := by
    rw [rangeSize_one]
    split <;> omega
  refine wpAny_pyIter_range hr (small_one (by decide) (by decide) (by omega) (by omega)) ?_
  rw [hs]
  have F' := F.push ({ cls := .type "range_iterator", data := .fields #[rawInt 0, rawInt n, rawInt 1] } : Obj)
  have N' := N.push F ({ cls := .type "range_iterator", data := .fields #[rawInt 0, rawInt n, rawInt 1] } : Obj)
  have hit : IsRangeIter (h.push { cls := .type "range_iterator", data := .fields #[rawInt 0, rawInt n, rawInt 1] }) h.objs.size (0 + ((0 : Nat) : Int) * 1) ((n : Int) - ((0 : Nat) : Int)) 1 := by
    simpa using Heap.get?_push_size _ rfl
  have hlt : ∀ p ∈ news₀ ++ rest, @LT.lt Nat _ p.1 h.objs.size := fun p hp => Heap.lt_size (N p hp).1
  have W := Walks.range (prog := prog) (w := w) hh h.objs.size 0 1 n
  refine codeC_for_walk W hk hx rest (fun b hb => .inl hb) (fun b hb => ?_) (fun i h st b hb => ?_) (fun p hp q => ?_) J (fun i m news j p hp q => ?_) ?_ done hit F' (fun p hp => N' p (.tail _ hp)) h0
  · rw [List.mem_singleton.mp hb]; exact (N' _ (.head _)).2
  · rw [List.mem_singleton.mp hb]; exact ⟨_, st⟩
  · exact Nat.ne_of_lt (hlt p (List.mem_append_right _ hp)) (List.mem_singleton.mp q)
  · exact keys_not (P := fun b => b ≠ h.objs.size) (hJ _ _ _ j) (fun q hq => Nat.ne_of_lt (hlt q (List.mem_append_left _ hq))) p hp (List.mem_singleton.mp q)
  · rintro i v m news own h2 tk hi ⟨tv, rfl⟩ how j F2 N2
    refine hideGoal fun G hG => ?_
    obtain ⟨⟨I, oI⟩, r1, rfl, ez, how1⟩ := List.map_eq_cons_iff.mp how
    refine hG ?_
    clear hG G
    obtain rfl := List.map_eq_nil_iff.mp how1
    replace ez : I = h.objs.size := ez
    subst ez
    refine turn i tv m news _ oI h2 tk hi hlt j ?_ N2
    have e : ((0 : Int) + (i : Nat) * 1) = (i : Nat) := by omega
    rw [e] at F2
    exact F2
end
end
-- free
/-- what reading of codes answers -/
structure RS where
  table : List (List UInt8)
  last : Option (List UInt8)
  found : List UInt8
noncomputable def readStep (s : RS) (c : Int) : Option RS :=
  if c = 256 then some { s with table := [], last := none } else
  (if c < 256 then some [c.toNat.toUInt8] else if c - 258 < s.table.length then s.table[(c - 258).toNat]? else if c - 258 = s.table.length then (match s.last with | some l => some (l ++ l.take 1) | none => none) else none).bind fun part =>
    some ⟨match s.last with | some l => s.table ++ [l ++ part.take 1] | none => s.table, some part, s.found ++ part⟩
noncomputable def readL : List Int → RS → Nat → Option (List UInt8 × Nat)
  | [], _, _ => none
  | c :: r, s, n => if c = 257 then some (s.found, n + 1) else (readStep s c).bind fun s' => readL r s' (n + 1)
noncomputable def readM (codes : List Int) : Option (List UInt8 × Nat) := readL codes ⟨[], none, []⟩ 0
theorem read_next {S S' : RS} {c : Int} {r : List Int} {n : Nat} {X : Option (List UInt8 × Nat)} (hstep : readStep S c = some S') (h257 : c ≠ 257)
    (hr : (if c = 257 then some (S.found, n + 1) else (readStep S c).bind fun s' => readL r s' (n + 1)) = X) : readL r S' (n + 1) = X := by
  rw [if_neg h257, hstep] at hr; exact hr
theorem read_none {S : RS} {c : Int} {r : List Int} {n : Nat} {X : Option (List UInt8 × Nat)} (hstep : readStep S c = none) (h257 : c ≠ 257)
    (hr : (if c = 257 then some (S.found, n + 1) else (readStep S c).bind fun s' => readL r s' (n + 1)) = X) : X = none := by
  rw [if_neg h257, hstep] at hr; exact hr.symm
theorem step_clear {S : RS} : readStep S 256 = some { S with table := [], last := none } := by unfold readStep; rw [if_pos rfl]
theorem step_small {S : RS} {c : Int} (h : c < 256) : readStep S c = some ⟨match S.last with | some l => S.table ++ [l ++ [c.toNat.toUInt8].take 1] | none => S.table, some [c.toNat.toUInt8], S.found ++ [c.toNat.toUInt8]⟩ := by
  unfold readStep; rw [if_neg (by (first | lia | omega)), if_pos h]; rfl
theorem step_in {S : RS} {c : Int} {b : List UInt8} (h : 258 ≤ c) (h2 : c - 258 < S.table.length) (hb : S.table[(c - 258).toNat]? = some b) : readStep S c = some ⟨match S.last with | some l => S.table ++ [l ++ b.take 1] | none => S.table, some b, S.found ++ b⟩ := by
  unfold readStep; rw [if_neg (by (first | lia | omega)), if_neg (by (first | lia | omega)), if_pos h2, hb]; rfl
theorem step_new {S : RS} {c : Int} {l : List UInt8} (h : 258 ≤ c) (h2 : c - 258 = S.table.length) (hl : S.last = some l) : readStep S c = some ⟨S.table ++ [l ++ (l ++ l.take 1).take 1], some (l ++ l.take 1), S.found ++ (l ++ l.take 1)⟩ := by
  unfold readStep; rw [if_neg (by (first | lia | omega)), if_neg (by (first | lia | omega)), if_neg (by (first | lia | omega)), if_pos h2, hl]; rfl
theorem step_fall {S : RS} {c : Int} (h : 258 ≤ c) (h2 : ¬c - 258 < S.table.length) (h3 : c - 258 = S.table.length → S.last = none) : readStep S c = none := by
  unfold readStep; rw [if_neg (by (first | lia | omega)), if_neg (by (first | lia | omega)), if_neg h2]
  by_cases h4 : c - 258 = S.table.length
  · rw [if_pos h4, h3 h4]; rfl
  · rw [if_neg h4]; rfl
theorem mid {c : Int} (h1 : c ≠ 257) (h2 : c ≠ 256) (h3 : ¬ c < 256) : 258 ≤ c := by (first | lia | omega)
theorem mid1 {c n : Int} (h : ¬ (258 ≤ c ∧ c - 258 < n)) (h1 : c ≠ 257) (h2 : c ≠ 256) (h3 : ¬ c < 256) (h4 : c - 258 < n) : False := h ⟨mid h1 h2 h3, h4⟩
theorem mid2 {c n : Int} (h : 258 ≤ c ∧ c - 258 < n) (h1 : c = 257) : False := by (first | lia | omega)
theorem mid3 {c n : Int} (h : 258 ≤ c ∧ c - 258 < n) (h1 : c = 256) : False := by (first | lia | omega)
theorem mid4 {c n : Int} (h : 258 ≤ c ∧ c - 258 < n) (h1 : c < 256) : False := by (first | lia | omega)
theorem found_up {a b i : Nat} (h : a ≤ 20 * i) (h1 : b ≤ i + 1) (h2 : i ≤ 14) : a + b ≤ 20 * (i + 1) := by (first | lia | omega)
theorem reg_PFeed : True := by
  k_with_none
  (k_with "L om" => first | with_reducible assumption | (with_reducible refine Ne.symm ?_; assumption) | ((with_reducible refine low1 (by assumption) ?_); exact rfl) | ((with_reducible refine low2 (by assumption) ?_); exact rfl) | ((with_reducible refine low7 (by assumption) ?_); exact rfl) | with_reducible exact low8 (by assumption) | ((with_reducible refine low3 (by assumption) ?_); exact rfl) | ((with_reducible refine low4 (by assumption) ?_); exact rfl) | with_reducible exact low5 (by assumption) | with_reducible exact low6 (by assumption) | with_reducible exact And.left (by assumption) | with_reducible exact And.right (by assumption) | with_reducible exact And.intro (by assumption) (by assumption) | ((with_reducible refine low9 (by assumption) ?_); exact rfl) | ((with_reducible refine low10 (by assumption) ?_); exact rfl) | ((with_reducible refine low12 (by assumption) ?_); exact rfl) | with_reducible exact Nat.le_succ_of_le (by assumption) | with_reducible exact Nat.add_le_add (by assumption) (Nat.min_le_left _ _) | ((with_reducible refine low16 (by assumption) (by assumption) ?_); exact rfl) | with_reducible exact low17 (by assumption) (by assumption) | with_reducible exact low18 (by assumption) | with_reducible exact low19 (by assumption) (by assumption) | with_reducible exact low20 (by assumption) | with_reducible exact And.intro (Int.emod_nonneg _ (by decide)) (Int.emod_lt_of_pos _ (by decide)) | ((with_reducible refine low21 (by assumption) ?_); exact rfl) | ((with_reducible refine low22 (by assumption) ?_); exact rfl) | with_reducible exact low6 (And.left (by assumption)) | with_reducible exact low6 (And.left (And.right (by assumption))) | with_reducible exact low6 (And.left (And.right (And.right (by assumption)))) | with_reducible exact low6 (And.left (And.right (And.right (And.right (by assumption))))) | with_reducible exact low6 (And.right (by assumption)) | lia | with_reducible contradiction)
  (k_with "L my putL" => first | with_reducible exact putL_d4 | with_reducible exact putL_d5 | with_reducible exact putL_d6 | with_reducible exact putL_d7 | with_reducible exact putL_d8 | with_reducible exact putL_d2 | with_reducible exact putL_d3 | (refine' putL_hd ?xZ; (case xZ => decide +kernel)) | (refine' putL_tl ?xZ ?yZ; (case xZ => decide +kernel); (case yZ => k_extra "L my putL")))
  (k_with "L my putN" => first | with_reducible exact putN_d4 | with_reducible exact putN_d5 | with_reducible exact putN_d6 | with_reducible exact putN_d7 | with_reducible exact putN_d8 | with_reducible exact putN_d2 | with_reducible exact putN_d3 | (refine' putN_hd ?xZ; (case xZ => decide +kernel)) | (refine' putN_tl ?xZ ?yZ; (case xZ => decide +kernel); (case yZ => k_extra "L my putN")))
  (k_with "L all" => first | assumption | exact allLt_ne (by assumption) | exact allLt_ne (And.right (by assumption)) | exact allLt_ne (And.right (And.right (by assumption))) | exact allLt_ne (And.right (And.right (And.right (by assumption)))))
  (k_with "L room" => ((try simp only [depth_under_make, depth_under_kw, depth_in1, depth_deeper, depth_caller]); (try dsimp only [ktrTop]); omega))
  (k_with "L execs cons" => (refine r_consL ?_; intro _))
  (k_with "L execs nil" => refine wpAny_execs_nil ?_)
  (k_with "L exec If" => refine wpAny_If ?_)
  (k_with "L eval Constant int" => refine r_int ?_)
  (k_with "L eval Constant bytes" => refine r_bytes ?_)
  (k_with "L eval Constant str" => refine r_str ?_)
  (k_with "L binaryOp Add int int" => refine r_add ?_)
  (k_with "L binaryOp Sub int int" => refine r_sub ?_)
  (k_with "L binaryOp BitAnd int int" => refine r_and ?_)
  (k_with "L binaryOp BitOr int int" => refine r_or ?_)
  (k_with "L binaryOp RShift int int" => (refine' r_shr ?aZ ?_; (case aZ => omega)))
  (k_with "L binaryOp Mod int int" => (refine' r_mod ?aZ ?_; (case aZ => omega)))
  (k_with "L binaryOp LShift int int" => first | with_reducible refine r_shl09 ?_ | with_reducible refine r_shl10 ?_ | with_reducible refine r_shl12 ?_ | with_reducible refine r_shl28 ?_ | (refine' r_shl ?aZ ?bZ ?cZ ?_; (case aZ | bZ | cZ => omega)))
  (k_with "L call builtin:len" => ( (with_reducible show wpAny _ _ (call (Value.builtin "len") [Value.ref _]) _ _ _); refine' r_len ?NZ ?mZ ?zZ ?_; (case NZ => k_asm); (case mZ => k_mem); (case zZ => first | omega | (simp only [List.size_toArray, Array.size_push] at *; omega))))
  (k_with "L getAttr ref" => (k_here; k_dflt ( refine' r_getattr ?k1Z ?k2Z ?k3Z ?k4Z ?k5Z ?k6Z ?k7Z ?k8Z ?k9Z ?_; (case k1Z | k2Z => k_asm); (case k3Z => k_inst); (case k4Z | k5Z | k6Z | k7Z => k_is); (case k8Z => k_get); (case k9Z => k_handed); k_whole)))
  (k_with "L setAttr ref" => (k_here; k_dflt (first | (refine' r_setattr ?k1Z ?k2Z ?k3Z ?k4Z ?k5Z ?k6Z ?k7Z ?k8Z ?k9Z ?k10Z ?k11Z ?k11bZ ?k12Z ?k13Z ?_; (case k1Z | k2Z | k3Z => k_asm); (case k4Z => k_inst); (case k5Z => exact rfl); (case k6Z | k7Z | k8Z | k9Z => k_is); (case k10Z => k_get); (case k11Z => (intro _; k_extra "L my putL")); (case k11bZ => k_extra "L my putN"); (case k12Z => k_upd); (case k13Z => exact Nat.le_of_ble_eq_true rfl); k_whole; intro _ _ _ _; (try k_sweep)) | (refine' r_newattr ?k1Z ?k2Z ?k3Z ?k4Z ?k5Z ?k6Z ?k7Z ?k8Z ?k9Z ?k10Z ?k11Z ?k12Z ?k13Z ?_; (case k1Z | k2Z | k3Z => k_asm); (case k4Z => k_inst); (case k5Z => exact rfl); (case k6Z | k7Z | k8Z | k9Z => k_is); (case k10Z => k_get); (case k11Z => exact rfl); (case k12Z => exact Nat.le_of_ble_eq_true rfl); (case k13Z => k_updF); k_whole; intro _ _ _ _ _ N'; (dsimp only [List.cons_append, List.nil_append] at N'); (try (revert N'; intro _)); (try k_sweep)))))
  (k_with "L storeName" => (k_here; k_dflt ( refine' r_store ?k1Z ?k2Z ?k3Z ?k4Z ?_; (case k1Z | k2Z => k_asm); (case k3Z | k4Z => rfl); k_whole; intro _ _ _ _; (try k_sweep))))
  (k_with "L newList" => (k_here; k_dflt (refine' r_newList ?k1Z ?k2Z ?k3Z ?_; (case k1Z | k2Z => k_asm); (case k3Z => exact Nat.le_of_ble_eq_true rfl); k_whole); intro _ _ _ _ l1; (try k_lt l1); (try (revert l1; intro _)); (try k_sweep)))
  (k_with "L call builtin:list.append" => (k_here; (with_reducible show wpAny _ _ (call (Value.builtin _) [Value.ref _, _]) _ _ _); k_dflt (refine' r_append ?k1Z ?k2Z ?k3Z ?zZ ?_; (case k1Z | k2Z => k_asm); (case k3Z => k_upd); (case zZ => first | omega | (simp only [List.size_toArray, Array.size_push] at *; omega)); k_whole); intro _ _ _; (try k_sweep)))
  (k_with "L my enter" => (refine' r_enter ?k1Z ?k2Z ?k3Z ?k4Z ?k5Z ?kAZ ?kFZ ?kKZ ?k6Z ?k7Z ?k8Z ?k9Z ?kBZ ?_ ?c2Z ?c3Z ?c4Z ?c5Z; (case kAZ | kFZ => exact rfl); (case kKZ => first | assumption | exact rfl); (case k1Z | k2Z | k3Z | k4Z | k5Z => k_asm); (case k6Z | k7Z => k_is); (case k8Z => k_room); (case k9Z => first | exact BindsTo.of_eq rfl | exact binds_K (by k_in) rfl (by k_is) rfl rfl rfl); (case c5Z => decide); (case kBZ => exact locs rfl); (case c2Z | c3Z | c4Z => exact rfl); k_whole; intro _ _ _ _ _ _ _ _ _ _; (try dsimp only); (try k_fold)))
  (k_with "L my class" => (refine' call_cls ?k1Z ?k2Z ?k3Z ?k4Z ?k5Z ?k6Z ?_; (case k1Z | k2Z | k3Z => k_asm); (case k4Z | k5Z | k6Z => k_is); k_whole; intro _ _ _ _ _ l1 l2; (try k_lt l1); (try (revert l1; intro _)); (try k_lt2 l2); (try (revert l2; intro _)); (try k_sweep); k_extra "L my enter"))
  (k_with "L call ref" => (k_here; k_dflt (first | k_extra "L my class" | (refine wpAny_call ?_; k_extra "L my enter"))))
  (k_with "L my sub" => first | exact mem_all | (refine List.forall_mem_cons.mpr ⟨?_, ?_⟩; (k_mem); k_extra "L my sub") | exact List.forall_mem_nil _ | (refine mem_step ?_; k_extra "L my sub"))
  (k_with "L my blen" => first | k_extra "L om" | exact Nat.zero_le _ | ((simp only [List.length_append, List.length_cons, List.length_nil, List.length_take, List.length_drop]); omega) | omega | exact Nat.le_trans (cut_length _ _ _) (by omega) | (simp only [List.length_append, List.length_cons, List.length_nil, List.length_take, List.length_drop]; omega))
  (k_with "L binaryOp Add bytes bytes" => (refine' r_badd ?zZ ?z2Z ?_; (case zZ | z2Z => k_extra "L my blen"); intro _ _))
  (k_with "L compareOp Eq bytes bytes" => refine r_beq ?_)
  (k_with "L subscriptTail" => (k_here; (with_reducible show wpAny _ _ (subscriptTail _ (Expr.Slice _ _ none _) (Value.bytes _ _) (Value.ref _)) _ _ _); k_dflt (refine' r_slice ?FZ ?NZ ?lZ ?uZ ?zZ ?_ ?sZ ?tZ; (case FZ | NZ => k_asm); (case lZ | uZ => constructor); (case zZ => omega); (case sZ => with_unfolding_all rfl); (case tZ => intro _; with_unfolding_all rfl)); intro _ _ _ _ _; (try k_sweep)))
  (k_with "L subscriptTail" => (k_here; (with_reducible show wpAny _ _ (subscriptTail _ _ (Value.ref _) (Value.int _ _)) _ _ _); k_dflt (refine' r_item ?NZ ?mZ ?aZ ?bZ ?xZ ?_ ?sZ ?tZ; (case NZ => k_asm); (case mZ => k_mem); (case aZ | bZ => omega); (case xZ => first | assumption | rfl); (case sZ => with_unfolding_all rfl); (case tZ => intro _; with_unfolding_all rfl))))
  (k_with "L my ev" => first | ((with_reducible show Ev _ _ _ _ _ _ _ (Expr.Constant _ _ _) _ _ _); first | exact ev_int | (intro _ _ Hx; walk1; with_reducible exact Hx)) | ((with_reducible show Ev _ _ _ _ _ _ _ (Expr.Name _ _) _ _ _); first | (refine' ev_L ?FZ ?vZ ?aZ ?bZ ?dZ; (case FZ => k_asm); (case aZ | bZ => rfl); (case dZ => decide); (case vZ => rfl)) | (intro _ _ Hx; walk1; with_reducible exact Hx)) | ((with_reducible show Ev _ _ _ _ _ _ _ (Expr.Attribute _ _ _) _ _ _); refine' ev_attr ?k1Z ?k2Z ?vZ ?k3Z ?k4Z ?k5Z ?k6Z ?k7Z ?k8Z ?k9Z ?aZ ?bZ ?dZ; (case k1Z | k2Z => k_asm); (case aZ | bZ => rfl); (case dZ => decide); (case vZ => rfl); (case k3Z => k_inst); (case k4Z | k5Z | k6Z | k7Z => k_is); (case k8Z => k_get); (case k9Z => k_handed)) | ((with_reducible show Ev _ _ _ _ _ _ _ (Expr.BinOp _ _ _ _) _ _ _); refine' ev_bin ?lZ ?rZ ?oZ; (case lZ | rZ => k_extra "L my ev"); (case oZ => (intro _ _ Hx; walk1; with_reducible exact Hx))) | ((with_reducible show Ev _ _ _ _ _ _ _ (Expr.Call (Expr.Name (Str.ofString "len") _) [_] [] _) _ _ _); intro _ _ Hx; (repeat walk1); with_reducible exact Hx))
  (k_with "L eval BinOp" => (k_here; k_dflt (refine' ev_use ?hZ ?_; (case hZ => k_extra "L my ev"); k_whole)))
  (k_with "L eval Attribute Name" => (k_here; k_dflt (refine' ev_use ?hZ ?_; (case hZ => k_extra "L my ev"); k_whole)))
  (k_with "L isTrue Compare" => (k_here; k_dflt (refine' ev_isTrue ?lZ ?rZ ?oZ ?mZ ?_; (case lZ | rZ => k_extra "L my ev"); (case oZ => (intro _ _ Hx; walk1; with_reducible exact Hx)); (case mZ => with_unfolding_all rfl); k_whole)))
  (k_with "L call ref" => (k_here; (with_reducible show wpAny _ _ (call (Value.ref 45) _) _ _ _); refine' r_excMake ?k1Z ?k2Z ?k3Z ?k4Z ?k5Z ?k6Z ?k7Z ?_; (case k1Z | k2Z | k3Z => k_asm); (case k4Z => exact Nat.le_of_ble_eq_true rfl); (case k5Z => kernel_rfl); (case k6Z | k7Z => k_is); k_whole; intro _ _ _ _ _ l1; (try k_lt l1); (try (revert l1; intro _)); (try k_sweep); k_extra "L my enter"))
  (k_with "L setAttr ref" => (k_here; (with_reducible show wpAny _ _ (setAttr _ "told" (Value.bytes _ _)) _ _ _); refine' r_excSet ?k1Z ?k2Z ?k3Z ?k4Z ?_; (case k1Z | k2Z | k3Z => k_asm); (case k4Z => k_updF); k_whole; intro _ _ _ _ _ _ _ l1; (try k_lt l1); (try (revert l1; intro _)); (try k_sweep)))
  (k_with "L Inst45" => (k_here; k_dflt (refine' ⟨_, _, _, rfl, ?aZ, ?cZ, ?dZ, ?eZ, ?bZ, ?_⟩; (case aZ => exact (News.get (by k_asm) (by k_mem))); (case cZ | dZ | eZ => exact rfl); (case bZ => exact Frag.In.keeps (by k_asm) (Fr.keep (by k_asm))); k_whole)))
  (k_with "L exec Raise some none" => (k_here; k_dflt (refine' r_raise ?aZ ?_; (case aZ => rfl); k_whole)))
  (k_with "L my nes" => first | exact List.forall_mem_nil _ | k_all | (refine List.forall_mem_cons.mpr ⟨?_, ?_⟩; (show @Ne Nat _ _; omega); k_extra "L my nes"))
  (k_with "L leaving ref" => (k_here; (rename Gone _ _ _ _ _ => gX); (rename Heap.UpToSlots _ _ => uX); k_dflt (refine' leave_more ?KZ ?FZ ?fZ ?RZ ?UZ ?_; (case KZ => assumption); (case RZ => exact gX); (case UZ => exact uX); (case FZ => assumption); (case fZ => exact rfl); k_whole); (try clear gX uX); intro _ _ _))
  (k_with "L leaving ref" => (k_here; k_dflt (refine' leave_first ?KZ ?FZ ?fZ ?kZ ?NZ ?aZ ?bZ ?_; (case KZ | FZ => assumption); (case fZ | kZ => exact rfl); (case NZ => assumption); (case aZ => k_extra "L my nes"); (case bZ => (show @Ne Nat _ _; omega)); k_whole); intro _ _ _))
  (k_with "L c enter" => (refine' c_enter ?k1Z ?k2Z ?k3Z ?k4Z ?k5Z ?kAZ ?kFZ ?kKZ ?k6Z ?k7Z ?k8Z ?k9Z ?kBZ ?_ ?c2Z ?c3Z ?c4Z ?c5Z; (case kAZ | kFZ => exact rfl); (case kKZ => first | assumption | exact rfl); (case k1Z | k2Z | k3Z | k4Z | k5Z => k_asm); (case k6Z | k7Z => k_is); (case k8Z => k_room); (case k9Z => first | exact BindsTo.of_eq rfl | exact binds_K (by k_in) rfl (by k_is) rfl rfl rfl); (case c5Z => decide); (case kBZ => exact locs rfl); (case c2Z | c3Z | c4Z => exact rfl); k_whole; intro _ _ _ _ _ _ _ _ _ _; (try dsimp only)))
  (k_with "L keep at" => first | ((with_reducible show KeepAt _ (Value.ref _) _); refine keep_ref (by k_in) (by k_is)) | exact keep_append | exact keep_extend | exact keep_bytearray | exact ⟨.machine, .inr (.inl rfl), Looks.of_pure (by kernel_rfl)⟩)
  (k_with "L c call" => ( (with_reducible show wpC _ _ (call (Value.builtin "bytearray.append") [Value.ref _, Value.int _ _]) _ _ _); k_dflt (refine' c_append ?k1Z ?k2Z ?k3Z ?k4Z ?k5Z ?zZ ?_; (case k1Z | k2Z => k_asm); (case k3Z => k_upd); (case k4Z | k5Z => omega); (case zZ => k_extra "L my blen"); k_whole); intro _ _ _; (try k_sweep)))
  (k_with "L c call" => ( (with_reducible show wpC _ _ (call (Value.builtin "bytearray.extend") [Value.ref _, Value.bytes _ _]) _ _ _); k_dflt (refine' c_extend ?k1Z ?k2Z ?k3Z ?zZ ?_; (case k1Z | k2Z => k_asm); (case k3Z => k_upd); (case zZ => k_extra "L my blen"); k_whole); intro _ _ _; (try k_sweep)))
  (k_with "L c call" => ( (with_reducible show wpC _ _ (call (Value.type "bytearray") []) _ _ _); k_dflt (refine' c_new ?k1Z ?k2Z ?_; (case k1Z | k2Z => k_asm); k_whole); intro _ _ _ _ l1; (try k_lt l1); (try (revert l1; intro _)); (try k_sweep)))
  (k_with "L getMethod ref" => (k_here; (with_reducible show wpAny _ _ (getMethod (Value.ref _) (PySem.Str.ofString "extend") _) _ _ _); k_dflt (refine' (meth_extend ?xZ).here ?_; (case xZ => exact (News.get (by k_asm) (by k_mem))); k_whole)))
  (k_with "L getMethod ref" => (k_here; (with_reducible show wpAny _ _ (getMethod (Value.ref _) (PySem.Str.ofString "append") _) _ _ _); k_dflt (refine' (meth_append ?xZ).here ?_; (case xZ => exact (News.get (by k_asm) (by k_mem))); k_whole)))
  (k_with "L harm" => fail "no harm")
  (k_with "L cw" => first | ((with_reducible refine c_consL ?_); intro _) | with_reducible refine c_nil ?_ | k_extra "L harm" | with_reducible refine c_If ?_ | ((with_reducible show wpC _ _ (isTrue (Expr.Compare (Expr.Call _ _ _ _) _ _ _) _ _) _ _ _); refine c_isTrue ?_) | with_reducible refine ofA_isTrue ?_ | ((with_reducible show wpC _ _ (exec (Stmt.Expr (Expr.Call _ _ _ _) _) _) _ _ _); refine c_Expr ?_) | with_reducible refine c_Assign ?_ | ((with_reducible show wpC _ _ (exec (Stmt.Assign [Expr.Attribute _ _ _] (Expr.Call _ _ _ _) _) _) _ _ _); refine c_AssignA ?_) | with_reducible refine c_Return ?_ | with_reducible refine ofA_exec ?_ | with_reducible refine c_Meth ?_ | with_reducible refine c_Call ?_ | ((with_reducible show wpC _ _ (eval (Expr.BinOp _ _ _ _) _) _ _ _); k_dflt (refine' ofA_eval (ev_use ?hZ ?_); (case hZ => k_extra "L my ev"); k_whole)) | with_reducible refine c_BinOp ?_ | with_reducible refine c_Compare ?_ | with_reducible refine c_And ?_ | with_reducible refine c_And1 ?_ | with_reducible refine ofA_eval ?_ | with_reducible refine c_args ?_ | with_reducible refine c_args0 ?_ | with_reducible refine c_with1 ?_ | ((with_reducible show wpC _ _ (callWith _ _ _ _ _) _ _ _); refine c_with0 (by k_extra "L keep at") ?_) | ((with_reducible show KeepAt _ _ _ ∧ _); refine ⟨by k_extra "L keep at", ?_⟩; (try dsimp only [List.cons_append, List.nil_append])) | k_extra "L c call" | with_reducible refine ofA_call ?_ | with_reducible refine c_ite1 (by assumption) ?_ | with_reducible refine c_ite0 (by assumption) ?_)
  (k_with "L c steps" => repeat' (first | ((with_reducible show wpAny _ _ _ _ _ _); walk1) | k_extra "L cw" | (k_unfold; (try dsimp only)) | ((show (_ : Flow → Shared → Prop) _ _); k_unfold; (try dsimp only)) | (k_end; wrow_close) | walk1 | (dsimp only; walk1) | (leave1; try dsimp only) | (dsimp only; k_extra "L cw") | fail "no step"))
  (k_with "L c call" => ( (with_reducible show wpC _ _ (call (Value.type "enumerate") [Value.bytes _ _]) _ _ _); k_dflt (refine' wpC_of_any (r_enumB ?k1Z ?k2Z ?_); (case k1Z | k2Z => k_asm); k_whole); intro _ _ _ _ _ l1 l2; (try k_lt l1); (try (revert l1; intro _)); (try k_lt2 l2); (try (revert l2; intro _)); (try k_sweep)))
  (k_with "L call type:bytes" => ((with_reducible show wpAny _ _ (call (Value.type "bytes") [Value.bytes _ _]) _ _ _); refine r_bytesB ?_))
  (k_with "L call type:bytes" => ((with_reducible show wpAny _ _ (call (Value.type "bytes") [Value.ref _]) _ _ _); k_dflt (refine' r_bytesBa ?aZ ?zZ ?_; (case aZ => exact (News.get (by k_asm) (by k_mem))); (case zZ => k_extra "L my blen"); k_whole); intro _ _))
  (k_with "L harm" => first | ((with_reducible show wpC _ _ (exec (Stmt.For _ _ _ [] _) _) _ _ _); refine c_For ?_) | ((with_reducible show wpC _ _ (pyIter _) _ _ _); refine wpC_of_any ?_))
  (k_with "L harm" => first | ((with_reducible show wpC _ _ (exec (Stmt.For _ _ _ [] _) _) _ _ _); refine c_For ?_) | ((with_reducible show wpC _ _ (exec (Stmt.While _ _ [] _) _) _ _ _); refine c_WhileR ?_) | ((with_reducible show codeC _ _ (Code.whileLoop _ _ [] _) _ _); refine codeC_while1 ?_) | ((with_reducible show LoopR _ _ _ _ _ _ _ _); dsimp only [LoopR]) | ((with_reducible show wpC _ _ (pyIter _) _ _ _); refine wpC_of_any ?_))
  (k_with "L binaryOp LShift int int" => (refine' r_shl8 ?aZ ?bZ ?_; (case aZ => with_reducible rfl); (case bZ => omega)))
  (k_with "L binaryOp LShift int int" => (refine' r_shl9 ?aZ ?bZ ?_; (case aZ => with_reducible rfl); (case bZ => omega)))
  (k_with "L binaryOp BitOr int int" => (with_reducible refine' r_or8 ?aZ ?bZ ?cZ ?_; (case aZ | bZ | cZ => omega)))
  (k_with "L binaryOp BitOr int int" => (with_reducible refine' r_or9 ?aZ ?bZ ?cZ ?_; (case aZ | bZ | cZ => omega)))
  (k_with "L binaryOp BitAnd int int" => (first | (with_reducible refine' r_mask (b := 268435456 - 1) (c := 268435456) 28 ?aZ ?bZ ?_; (case aZ | bZ => decide)) | (with_reducible refine' r_mask (b := 255) (c := 256) 8 ?aZ ?bZ ?_; (case aZ | bZ => decide)) | (with_reducible refine r_maskW ?_)))
  (k_with "L my putL" => first | with_reducible exact putL_e2 | with_reducible exact putL_e3 | with_reducible exact putL_e4 | with_reducible exact putL_e5 | with_reducible exact putL_e6 | with_reducible exact putL_e7 | with_reducible exact putL_e8)
  (k_with "L my putN" => first | with_reducible exact putN_e2 | with_reducible exact putN_e3 | with_reducible exact putN_e4 | with_reducible exact putN_e5 | with_reducible exact putN_e6 | with_reducible exact putN_e7 | with_reducible exact putN_e8)
  trivial
theorem reg_Feed0 : True := by
  (k_with "L c call" => ((with_reducible show wpC _ _ (call (Value.ref 97) _) _ _ _); refine StopAt.go ?_))
  trivial
theorem map2 {x y : Str} {a b c d : Option Value} {m : Str → Option Value} : (fun z => if z = y then a else if z = x then b else (if z = y then c else if z = x then d else m z)) = fun z => if z = y then a else if z = x then b else m z := by
  funext z
  by_cases h1 : z = y
  · simp only [if_pos h1]
  · simp only [if_neg h1]
    by_cases h2 : z = x
    · simp only [if_pos h2]
    · simp only [if_neg h2]
noncomputable abbrev mOf {h₀ h : Heap} {L : Addr} {m : Str → Option Value} (_ : Fr h₀ L h m) : Str → Option Value := m
/-- the decoder as it lies in the ledger, between the calls -/
structure Ap3 (x d t : Addr) (rest : List (Addr × Obj)) : Prop where
  xd : @Ne Nat x d
  xt : @Ne Nat x t
  dt : @Ne Nat d t
  rx : ∀ p ∈ rest, p.1 ≠ x
  rd : ∀ p ∈ rest, p.1 ≠ d
  rt : ∀ p ∈ rest, p.1 ≠ t
inductive DecL (early : Int) (s : FS) (x d : Addr) (rest news : List (Addr × Obj)) : Prop
  | mk (t : Addr) (n k : Nat) (kh : Nat → Int × Tok) (te tm tw tl tf tb tn : Tok) (its : Array Value) (h1 : BA its s.ds.tab) (h2 : Ap3 x d t rest) (h3 : news = (x, instObj 121 d) :: (d, dictOf (decEs kh (.int early te) (.int 12 tm) (.bool s.ds.isd) (.bytes s.left.toArray tf) (.int s.bits tb) (.int s.many tn) (.int s.ds.width tw) (.ref t) (lastV s.ds.last tl)) n) :: (t, listOf its k) :: rest)
/-- what holds between the turns of feed -/
inductive feedJ (early : Int) (k : Nat) (octets : List UInt8) (want : Option FS) (x d f e it : Addr) (rest : List (Addr × Obj)) (m₀ : Str → Option Value) (i : Nat) (m : Str → Option Value) (news : List (Addr × Obj)) : Prop
  | mk (s : FS) (vo vp : Option Value) (t : Addr) (n k' : Nat) (kh : Nat → Int × Tok) (te tm tw tl tf tb tn : Tok) (its : Array Value) (h1 : m = (fun z => if z = Str.ofString "octet" then vo else if z = Str.ofString "place" then vp else m₀ z)) (h2 : feedM early s (octets.drop i) = want) (h3 : Sz (k + i) s.ds) (h4 : (0 ≤ s.bits ∧ s.bits < 268435456)) (h5 : (0 ≤ s.many ∧ s.many ≤ 9)) (h6 : s.left.length ≤ 1000) (h7 : BA its s.ds.tab) (h8 : Ap3 x d t rest) (h9 : @Ne Nat f x) (h10 : @Ne Nat f d) (h11 : @Ne Nat f t) (h12 : (∀ p ∈ rest, p.1 ≠ f)) (h13 : (∀ b ∈ [e, it], @Ne Nat b x ∧ @Ne Nat b d ∧ @Ne Nat b t ∧ @Ne Nat b f)) (h14 : news = [(x, instObj 121 d), (d, dictOf (decEs kh (.int early te) (.int 12 tm) (.bool s.ds.isd) (.bytes s.left.toArray tf) (.int s.bits tb) (.int s.many tn) (.int s.ds.width tw) (.ref t) (lastV s.ds.last tl)) n), (t, listOf its k'), (f, baObj s.ds.found)])
theorem mem_forall2 {P : Addr → Prop} {a b : Addr} (h1 : P a) (h2 : P b) : ∀ c ∈ [a, b], P c := fun c hc => by
  rcases List.mem_cons.mp hc with rfl | hc
  · exact h1
  · rw [List.mem_singleton.mp hc]; exact h2
theorem feed_ok (w : World) (loose : List Str) (mean : ExcName → Option Value) (mg mb : Str → Option Value)
    (early : Int) (s : FS) (x d : Addr) (octets : List UInt8) (tko : Tok) (rest news : List (Addr × Obj)) (D : DecL early s x d rest news) (k : Nat)
    (he : 0 ≤ early ∧ early ≤ 1) (hs : Sz k { s.ds with found := [] }) (hk : k + octets.length ≤ 300) (hb : 0 ≤ s.bits ∧ s.bits < 268435456) (hm : 0 ≤ s.many ∧ s.many ≤ 9) (hlf : s.left.length ≤ 1000) :
    CallC w loose mean mg mb 9 (.ref 90) [.ref x, .bytes octets.toArray tko] news
      (fun r news' => ∃ s' tk, feedM early { s with ds := { s.ds with found := [] } } octets = some s' ∧ r = .bytes s'.ds.found.toArray tk ∧ DecL early s' x d rest news')
      (fun news' => feedM early { s with ds := { s.ds with found := [] } } octets = none ∧ news' = rest) := by
  unfold CallC
  obtain ⟨⟨tab, last, width, isd, found⟩, left, bits, many⟩ := s
  obtain ⟨t, n, k', kh, te, tm, tw, tl, tf, tb, tn, its, hba, ⟨hxd, hxt, hdt, hrx, hrd, hrt⟩, rfl⟩ := D
  dsimp only at *
  have hits := hba.1
  intro dp un gd cn cs a ccd cl outer A₀ base h₀ L m s Q E
  k_fill
  obtain ⟨hp', gn, dr, tk0, os⟩ := s
  intro B F X N T hkk hd hu hret hexc
  refine wpC_call ?_
  k_dflt (walk_at "c enter")
  walk_at "c steps"
  refine wpAny_pyIter_enum (i := 0) (old := .none) (News.get (by k_asm) (by k_mem)) ?_
  (rename Fr _ _ _ _ => F9)
  (rename News _ _ _ _ => N9)
  rename_i gF LF _ _ FGF BF XF TF _ xf _ l0 _ _ _ eE eI _ l1 l2
  generalize hRR : LoopR _ _ _ _ _ _ = RR
  have tail : ∀ (s : FS) (h : Heap) (tk : Nat) (vo vp : Option Value) (t : Addr) (n k' : Nat) (kh : Nat → Int × Tok) (te tm tw tl tf tb tn : Tok) (its : Array Value), feedM early ⟨⟨tab, last, width, isd, []⟩, left, bits, many⟩ octets = some s → s.ds.found.length ≤ 95000 → BA its s.ds.tab → Ap3 x d t rest →
      Fr gF LF h (fun z => if z = Str.ofString "octet" then vo else if z = Str.ofString "place" then vp else mOf F9 z) →
      News gF LF h ((x, instObj 121 d) :: (d, dictOf (decEs kh (.int early te) (.int 12 tm) (.bool s.ds.isd) (.bytes (s.left).toArray tf) (.int s.bits tb) (.int s.many tn) (.int s.ds.width tw) (.ref t) (lastV s.ds.last tl)) n) :: (t, listOf its k') :: (xf, baObj s.ds.found) :: rest) → RR (.ok .next) ⟨h, gn, dr, tk, os⟩ := by
    clear l0 l1 l2 N9
    intro s h tk vo vp t n k' kh te tm tw tl tf tb tn its hw hf hba hA F9 N9
    subst hRR
    dsimp only [mOf] at F9
    dsimp only [LoopR]
    walk_at "c steps"
    (rename News _ _ _ _ => N9)
    (rename Fr _ _ _ _ => F9)
    exact hret _ _ _ _ F9 (News.sub N9 (by walk_at "my sub")) ⟨s, _, hw, rfl, t, n, k', kh, te, tm, tw, tl, tf, tb, tn, its, hba, hA, rfl⟩
  refine' codeC_for_walkU (n := octets.toArray.size) (rest := rest) (news₀ := [(x, instObj 121 d), (d, dictOf (decEs kh (.int early te) (.int 12 tm) (.bool isd) (.bytes left.toArray tf) (.int bits tb) (.int many tn) (.int width tw) (.ref t) (lastV last tl)) n), (t, listOf its k'), (xf, baObj [])]) rfl (walksB rfl eE eI octets.toArray tko l2) (P := fun i v v1 => ∃ t u c, octets[i]? = some c ∧ v = .int i t ∧ v1 = .int (c.toNat : Int) u) ?p2 rfl rfl rfl ?fp ?wr ?some ?r
    (feedJ early k octets (feedM early ⟨⟨tab, last, width, isd, []⟩, left, bits, many⟩ octets) x d xf eE eI rest (mOf F9)) ?hJ ?turn ?done ?st F9 ?N ?start
  case p2 =>
    intro i vals hP0
    refine hideGoal fun G hG => ?_
    obtain ⟨t, x, ⟨c, u, hc, rfl⟩, rfl⟩ := hP0
    refine hG ?_
    clear hG G
    exact ⟨_, _, rfl, t, u, c, by simpa using hc, rfl, rfl⟩
  case fp => exact fun b hb => .inl hb
  case wr => exact mem_forall2 (N9 _ (.head _)).2 (N9 _ (.tail _ (.head _))).2
  case some => exact fun i h st => mem_forall2 (let ⟨⟨_, e⟩, _⟩ := st; ⟨_, e⟩) (let ⟨_, _, e, _⟩ := st; ⟨_, e⟩)
  case r =>
    intro p hp hm
    have := allLt_lt (And.right (And.right (And.right (And.right l1)))) p hp
    rcases List.mem_cons.mp hm with e | hm
    · rw [e] at this; omega
    · rw [List.mem_singleton.mp hm] at this; omega
  case hJ =>
    intro i m news hP0 p hp hm
    refine hideGoal fun G hG => ?_
    obtain ⟨_, _, _, _, _, _, _, _, _, _, _, _, _, _, _, _, _, _, _, _, _, _, _, _, _, _, _, hsep, rfl⟩ := hP0
    refine hG ?_
    clear hG G
    have := hsep _ hm
    simp only [List.mem_cons, List.mem_nil_iff, or_false] at hp
    rcases hp with rfl | rfl | rfl | rfl
    · exact this.1 rfl
    · exact this.2.1 rfl
    · exact this.2.2.1 rfl
    · exact this.2.2.2 rfl
  case st => exact ⟨⟨_, (N9 _ (.head _)).1⟩, ⟨_, (N9 _ (.tail _ (.head _))).1, rfl, rfl⟩⟩
  case N => exact News.sub N9 (by walk_at "my sub")
  case start =>
    refine ⟨⟨⟨tab, last, width, isd, []⟩, left, bits, many⟩, mOf F9 (Str.ofString "octet"), mOf F9 (Str.ofString "place"), t, n, k', kh, te, tm, tw, tl, tf, tb, tn, its, ?_, rfl, hs, hb, hm, hlf, hba, ⟨hxd, hxt, hdt, hrx, hrd, hrt⟩, ?_, ?_, ?_, ?_, ?_, rfl⟩
    · funext z
      by_cases h1 : z = Str.ofString "octet"
      · rw [if_pos h1, h1]
      · rw [if_neg h1]
        by_cases h2 : z = Str.ofString "place"
        · rw [if_pos h2, h2]
        · rw [if_neg h2]
    · omega
    · omega
    · omega
    · exact allLt_ne (And.right (And.right (And.right l0)))
    · refine mem_forall2 ⟨?_, ?_, ?_, ?_⟩ ⟨?_, ?_, ?_, ?_⟩ <;> omega
  case done =>
    clear l0 l1 l2 N9
    intro m news h tk hP0 F9 N9
    refine hideGoal fun G hG => ?_
    obtain ⟨⟨⟨tab, last, width, isd, found⟩, left, bits, many⟩, vo, vp, t, n, k', kh, te, tm, tw, tl, tf, tb, tn, its, rfl, hw, hs, hb, hm, hlf, hba, hA, h1, h2, h3, h4, h5, rfl⟩ := hP0
    refine hG ?_
    clear hG G
    have hz : octets.drop octets.toArray.size = [] := List.drop_of_length_le (Nat.le_refl _)
    rw [hz] at hw
    have hfk := hs.found
    have hkn : k + octets.toArray.size ≤ 300 := by simpa using hk
    have hfk2 : (k + octets.toArray.size) * (k + octets.toArray.size + 1) ≤ 300 * 301 := Nat.mul_le_mul hkn (by omega)
    exact tail _ h tk vo vp t n k' kh te tm tw tl tf tb tn its hw.symm (by omega) hba hA F9 N9
  case turn =>
    clear l0 l1 l2 N9
    intro i v v1 m news own h tk hi hP0 ho hP1 F9 N9
    refine hideGoal fun G hG => ?_
    obtain ⟨ti, u, c, hc, rfl, rfl⟩ := hP0
    obtain ⟨⟨⟨tab, last, width, isd, found⟩, left, bits, many⟩, vo, vp, t, n, k', kh, te, tm, tw, tl, tf, tb, tn, its, rfl, hw, hs, hb, hm, hlf, hba, hA, h1, h2, h3, h4, h5, rfl⟩ := hP1
    refine hG ?_
    clear hG G
    rw [map2] at F9
    have hA' := hA
    have hw' : 9 ≤ width ∧ width ≤ 10 := by have := hs.width; dsimp only at this; omega
    have hc9 : c.toNat < 256 := c.toNat_lt
    dsimp only [mOf, List.cons_append, List.nil_append] at F9 N9 hw hb hm hlf hba hA hw'
    obtain ⟨own1, own2, rfl⟩ : ∃ o1 o2, own = [(eE, o1), (eI, o2)] := by
      obtain _ | ⟨⟨q1, o1⟩, _ | ⟨⟨q2, o2⟩, _ | _⟩⟩ := own <;> simp at ho
      obtain ⟨rfl, rfl⟩ := ho
      exact ⟨o1, o2, rfl⟩
    dsimp only [List.cons_append, List.nil_append] at N9
    have hdrop : octets.drop i = c :: octets.drop (i + 1) := by
      rw [List.drop_eq_getElem_cons (by simpa using hi)]
      rw [List.getElem?_eq_getElem (by simpa using hi)] at hc
      injection hc with hc; rw [hc]
    have hi' : i < octets.length := by simpa using hi
    rw [hdrop] at hw
    obtain ⟨⟨e1, e2, e3, e4⟩, ⟨e5, e6, e7, e8⟩⟩ := And.intro (h5 eE (.head _)) (h5 eI (.tail _ (.head _)))
    obtain ⟨hxd, hxt, hdt, hrx, hrd, hrt⟩ := hA
    have hfk := hs.found
    have hfk2 : (k + i) * (k + i + 1) ≤ 300 * 301 := Nat.mul_le_mul (by omega) (by omega)
    dsimp only at hfk
    walk_at "c steps"
    all_goals (try dsimp only [TurnC, List.cons_append, List.nil_append])
    · have hi9 : isd = true := by assumption
      subst hi9
      rw [feedM, if_pos rfl] at hw
      (rename News _ _ _ _ => N9)
      (rename Fr _ _ _ _ => F9)
      have ec : cut (some (i : Int)) none octets = c :: octets.drop (i + 1) := by rw [cut_from, hdrop]
      rw [ec] at N9
      exact tail ⟨⟨tab, last, width, true, found⟩, left ++ c :: octets.drop (i + 1), bits, many⟩ _ _ _ _ t n k' kh te tm tw tl _ tb tn its hw.symm (by dsimp only; omega) hba hA' F9 (News.sub N9 (by walk_at "my sub"))
    · have hi9 : isd = false := by assumption
      subst hi9
      rw [feedM, if_neg (by exact Bool.false_ne_true), if_pos (by assumption)] at hw
      (rename News _ _ _ _ => N9)
      (rename Fr _ _ _ _ => F9)
      refine StopAt.mk ?_
      refine' CallC.at (take_ok w loose mean mg mb early ⟨tab, last, width, false, found⟩ _ _ _ x d xf _ _ ((eE, own1) :: (eI, own2) :: rest) _ ⟨t, n, k', kh, te, tm, tw, tl, its, hba, ⟨hxd, hxt, Ne.symm h1, hdt, Ne.symm h2, Ne.symm h3, ?rd, ?rt, ?rf⟩, rfl⟩ (k + i) he hs (by omega) (codeM_range (wd := width))) BF F9 XF N9 TF rfl (by omega) (by omega) ?ret ?exc
      case rd => walk_at "my nes"
      case rt => walk_at "my nes"
      case rf => walk_at "my nes"
      case ret =>
        intro r n' h' tk' F' N' hP0
        refine hideGoal fun G hG => ?_
        obtain ⟨rfl, ⟨tab', last', width', isd', found'⟩, hs', t', n', k2, kh', te', tm', tw', tl', its', hba', ⟨b1, b2, b3, b4, b5, b6, b7, b8, b9⟩, rfl⟩ := hP0
        refine hG ?_
        clear hG G
        rw [show takeM early (codeM width ((bits * 256 + c.toNat) % 268435456) (many + 8 - width)) ⟨tab, last, width, false, found⟩ = _ from hs'] at hw
        have hsz := hs.take hs'
        dsimp only at hw hba' N' b1 b2 b3 b4 b5 b6 b7 b8 b9
        walk_at "c steps"
        dsimp only [TurnC]
        refine ⟨_, _, _, _, rfl, F', News.sub N' (by walk_at "my sub"), ⟨⟨tab', last', width', isd', found'⟩, left, (bits * 256 + c.toNat) % 268435456, many + 8 - width⟩, _, _, t', n', k2, kh', te', tm', tw', tl', tf, _, _, its', rfl, hw, hsz, by dsimp only; omega, by dsimp only; omega, hlf, hba', ⟨b1, b2, b4, hrx, hrd, fun p hp => b8 p (.tail _ (.tail _ hp))⟩, Ne.symm b3, Ne.symm b5, Ne.symm b6, h4, mem_forall2 ⟨e1, e2, b8 _ (.head _), e4⟩ ⟨e5, e6, b8 _ (.tail _ (.head _)), e8⟩, rfl⟩
      case exc =>
        intro e' g2 n' h' tk' F' U' G' hP0
        refine hideGoal fun G hG => ?_
        obtain ⟨hnone, rfl⟩ := hP0
        refine hG ?_
        clear hG G
        rw [show takeM early (codeM width ((bits * 256 + c.toNat) % 268435456) (many + 8 - width)) ⟨tab, last, width, false, found⟩ = none from hnone] at hw
        dsimp only at hw
        subst hRR
        refine loop_raise (base := base) (L := LF) rfl rfl G' fun h2 G2 U2 => ?_
        refine leave_noted BF F' rfl G2 (U'.trans U2) fun h3 G3 U3 => ?_
        exact hexc _ _ _ _ _ FGF U3 (G3.sub (by walk_at "my sub")) ⟨hw.symm, rfl⟩
    · have hi9 : isd = false := by assumption
      subst hi9
      rw [feedM, if_neg (by exact Bool.false_ne_true), if_neg (by assumption)] at hw
      (rename News _ _ _ _ => N9)
      (rename Fr _ _ _ _ => F9)
      refine ⟨_, _, _, _, rfl, F9, News.sub N9 (by walk_at "my sub"), ⟨⟨tab, last, width, false, found⟩, left, (bits * 256 + c.toNat) % 268435456, many + 8⟩, _, _, t, n, k', kh, te, tm, tw, tl, tf, _, _, its, rfl, hw, hs.up (by omega), by dsimp only; omega, by dsimp only; omega, hlf, hba, hA', h1, h2, h3, h4, h5, rfl⟩
-- free
noncomputable def codeV (code : Option Int) (tk : Tok) : Value := match code with | none => .none | some c => .int c tk
structure WS where
  bits : Int
  many : Int
  found : List UInt8
noncomputable def writeM (s : WS) (code : Int) : WS :=
  if s.many = 7 then ⟨(s.bits * 512 + code) % 2 ^ (s.many + 9 - 8 - 8).toNat, s.many + 9 - 8 - 8, s.found ++ [u8 ((s.bits * 512 + code).fdiv (2 ^ (s.many + 9 - 8).toNat) % 256)] ++ [u8 ((s.bits * 512 + code).fdiv (2 ^ (s.many + 9 - 8 - 8).toNat) % 256)]⟩
  else ⟨(s.bits * 512 + code) % 2 ^ (s.many + 9 - 8).toNat, s.many + 9 - 8, s.found ++ [u8 ((s.bits * 512 + code).fdiv (2 ^ (s.many + 9 - 8).toNat) % 256)]⟩
structure ES where
  ws : WS
  code : Option Int
  table : Int → Int → Option Int
  following : Int
noncomputable def encStep (s : ES) (o : UInt8) : ES :=
  match s.code with
  | none => { s with code := some o.toNat }
  | some c => match s.table c o.toNat with
    | some c' => { s with code := some c' }
    | none => ⟨writeM s.ws c, some o.toNat, fun a b => if a = c ∧ b = o.toNat then some s.following else s.table a b, s.following + 1⟩
noncomputable def encFeed (s : ES) (octets : List UInt8) : ES := octets.foldl encStep s
noncomputable def lastW (s : ES) : WS := match s.code with
  | none => writeM s.ws 257
  | some c => writeM (writeM s.ws c) 257
noncomputable def encFinish (s : ES) : List UInt8 :=
  if (lastW s).many > 0 then (lastW s).found ++ [u8 ((lastW s).bits * 2 ^ (8 - (lastW s).many).toNat % 256)] else (lastW s).found
noncomputable def encInit : ES := ⟨writeM ⟨0, 0, []⟩ 256, none, fun _ _ => none, 258⟩
noncomputable def encodeM (octets : List UInt8) : List UInt8 :=
  (encFeed encInit octets).ws.found ++ encFinish { encFeed encInit octets with ws := { (encFeed encInit octets).ws with found := [] } }
noncomputable abbrev PP : Program := PySem.Challenge.rw_nt0490_01.row.prog
structure Ap4 (x d f tb : Addr) (rest : List (Addr × Obj)) : Prop where
  xd : @Ne Nat x d
  xf : @Ne Nat x f
  xt : @Ne Nat x tb
  df : @Ne Nat d f
  dt : @Ne Nat d tb
  ft : @Ne Nat f tb
  rd : ∀ p ∈ rest, p.1 ≠ d
  rf : ∀ p ∈ rest, p.1 ≠ f
  rt : ∀ p ∈ rest, p.1 ≠ tb
/-- the encoder as it lies in the ledger -/
inductive EncL (w : World) (early : Int) (n : Nat) (s : ES) (x d f tb : Addr) (rest news : List (Addr × Obj)) : Prop
  | mk (k : Nat) (kh : Nat → Int × Tok) (te tm tbi tn tc tw tfo : Tok) (tobj : Obj) (ktups : List (Addr × Obj)) (h1 : TabF PP w ((tb, tobj) :: ktups) tb n s.table) (h2 : Ap4 x d f tb (ktups ++ rest)) (h3 : news = (x, instObj 185 d) :: (d, dictOf (encEs kh (.int early te) (.int 12 tm) (.int s.ws.bits tbi) (.int s.ws.many tn) (.ref f) (codeV s.code tc) (.int 9 tw) (.ref tb) (.int s.following tfo)) k) :: (f, baObj s.ws.found) :: (tb, tobj) :: (ktups ++ rest))
/-- sizes of the encoder behind k octets -/
structure EZ (k : Nat) (s : ES) : Prop where
  bits : 0 ≤ s.ws.bits ∧ s.ws.bits < 256
  many : 0 ≤ s.ws.many ∧ s.ws.many ≤ 7
  found : s.ws.found.length ≤ 2 * k + 4
  code : ∀ c, s.code = some c → 0 ≤ c ∧ c < 512
  table : ∀ a b c, s.table a b = some c → 0 ≤ c ∧ c < 512
  following : 258 ≤ s.following ∧ s.following ≤ 258 + k
theorem writeM_sz {s : WS} {code : Int} (hm : 0 ≤ s.many ∧ s.many ≤ 7) : (0 ≤ (writeM s code).bits ∧ (writeM s code).bits < 256) ∧ (0 ≤ (writeM s code).many ∧ (writeM s code).many ≤ 7) ∧ (writeM s code).found.length ≤ s.found.length + 2 := by
  have key : ∀ (a : Int) (n : Nat), n ≤ 7 → 0 ≤ a % 2 ^ n ∧ a % 2 ^ n < 256 := fun a n hn => by
    have h1 := kbt_pos n
    have h2 : (2 : Int) ^ n ≤ 2 ^ 7 := by
      have := Nat.pow_le_pow_right (n := 2) (by decide) hn
      rw [← kbt_cast, ← kbt_cast 7]; (first | lia | omega)
    have h3 := Int.emod_nonneg a (Int.ne_of_gt h1)
    have h4 := Int.emod_lt_of_pos a h1
    have h5 : (2 : Int) ^ 7 = 128 := by decide
    (first | lia | omega)
  unfold writeM
  split
  · refine ⟨key _ _ (by (first | lia | omega)), by dsimp only; (first | lia | omega), ?_⟩
    simp only [List.length_append, List.length_cons, List.length_nil]; (first | lia | omega)
  · refine ⟨key _ _ (by (first | lia | omega)), by dsimp only; (first | lia | omega), ?_⟩
    simp only [List.length_append, List.length_cons, List.length_nil]; (first | lia | omega)
theorem EZ.step {k : Nat} {s : ES} (h : EZ k s) (hk : k ≤ 100) (o : UInt8) : EZ (k + 1) (encStep s o) := by
  have ho : o.toNat < 256 := o.toNat_lt
  unfold encStep
  split
  · exact ⟨h.bits, h.many, by have := h.found; dsimp only; (first | lia | omega), fun c hc => by injection hc with hc; (first | lia | omega), h.table, by have := h.following; dsimp only; (first | lia | omega)⟩
  · rename_i c hc
    split
    · rename_i c' hc'
      exact ⟨h.bits, h.many, by have := h.found; dsimp only; (first | lia | omega), fun c hc => by injection hc with hc; subst hc; exact h.table _ _ _ hc', h.table, by have := h.following; dsimp only; (first | lia | omega)⟩
    · have hw := writeM_sz (s := s.ws) (code := c) h.many
      have hf := h.following
      refine ⟨hw.1, hw.2.1, by have := h.found; have := hw.2.2; dsimp only; (first | lia | omega), fun c hc => by injection hc with hc; (first | lia | omega), fun a b c' hc' => ?_, by dsimp only; (first | lia | omega)⟩
      dsimp only at hc'
      split at hc'
      · injection hc' with hc'; (first | lia | omega)
      · exact h.table _ _ _ hc'
theorem EZ.init : EZ 0 encInit := by
  have hw := writeM_sz (s := ⟨0, 0, []⟩) (code := 256) ⟨by decide, by decide⟩
  exact ⟨hw.1, hw.2.1, by have := hw.2.2; dsimp only [List.length_nil] at this; exact Nat.le_trans this (by decide), fun c hc => (by cases hc), fun a b c hc => (by cases hc), ⟨by decide, by decide⟩⟩
theorem EZ.feed {s : ES} {octets : List UInt8} {k : Nat} (h : EZ k s) (hk : k + octets.length ≤ 100) : EZ (k + octets.length) (encFeed s octets) := by
  unfold encFeed
  induction octets generalizing k s with
  | nil => exact h
  | cons o r ih =>
    rw [List.length_cons] at hk
    rw [List.foldl_cons, List.length_cons, show k + (r.length + 1) = k + 1 + r.length from by (first | lia | omega)]
    exact ih (h.step (by (first | lia | omega)) o) (by (first | lia | omega))
theorem reg_PDec : True := by
  k_with_none
  (k_with "L om" => first | with_reducible assumption | (with_reducible refine Ne.symm ?_; assumption) | ((with_reducible refine low1 (by assumption) ?_); exact rfl) | ((with_reducible refine low2 (by assumption) ?_); exact rfl) | ((with_reducible refine low7 (by assumption) ?_); exact rfl) | with_reducible exact low8 (by assumption) | ((with_reducible refine low3 (by assumption) ?_); exact rfl) | ((with_reducible refine low4 (by assumption) ?_); exact rfl) | with_reducible exact low5 (by assumption) | with_reducible exact low6 (by assumption) | with_reducible exact And.left (by assumption) | with_reducible exact And.right (by assumption) | with_reducible exact And.intro (by assumption) (by assumption) | ((with_reducible refine low9 (by assumption) ?_); exact rfl) | ((with_reducible refine low10 (by assumption) ?_); exact rfl) | ((with_reducible refine low12 (by assumption) ?_); exact rfl) | with_reducible exact Nat.le_succ_of_le (by assumption) | with_reducible exact Nat.add_le_add (by assumption) (Nat.min_le_left _ _) | ((with_reducible refine low16 (by assumption) (by assumption) ?_); exact rfl) | with_reducible exact low17 (by assumption) (by assumption) | with_reducible exact low18 (by assumption) | with_reducible exact low19 (by assumption) (by assumption) | with_reducible exact low20 (by assumption) | with_reducible exact And.intro (Int.emod_nonneg _ (by decide)) (Int.emod_lt_of_pos _ (by decide)) | ((with_reducible refine low21 (by assumption) ?_); exact rfl) | ((with_reducible refine low22 (by assumption) ?_); exact rfl) | with_reducible exact low6 (And.left (by assumption)) | with_reducible exact low6 (And.left (And.right (by assumption))) | with_reducible exact low6 (And.left (And.right (And.right (by assumption)))) | with_reducible exact low6 (And.left (And.right (And.right (And.right (by assumption))))) | with_reducible exact low6 (And.right (by assumption)) | lia | with_reducible contradiction)
  (k_with "L my putL" => first | with_reducible exact putL_d4 | with_reducible exact putL_d5 | with_reducible exact putL_d6 | with_reducible exact putL_d7 | with_reducible exact putL_d8 | with_reducible exact putL_d2 | with_reducible exact putL_d3 | (refine' putL_hd ?xZ; (case xZ => decide +kernel)) | (refine' putL_tl ?xZ ?yZ; (case xZ => decide +kernel); (case yZ => k_extra "L my putL")))
  (k_with "L my putN" => first | with_reducible exact putN_d4 | with_reducible exact putN_d5 | with_reducible exact putN_d6 | with_reducible exact putN_d7 | with_reducible exact putN_d8 | with_reducible exact putN_d2 | with_reducible exact putN_d3 | (refine' putN_hd ?xZ; (case xZ => decide +kernel)) | (refine' putN_tl ?xZ ?yZ; (case xZ => decide +kernel); (case yZ => k_extra "L my putN")))
  (k_with "L all" => first | assumption | exact allLt_ne (by assumption) | exact allLt_ne (And.right (by assumption)) | exact allLt_ne (And.right (And.right (by assumption))) | exact allLt_ne (And.right (And.right (And.right (by assumption)))))
  (k_with "L room" => ((try simp only [depth_under_make, depth_under_kw, depth_in1, depth_deeper, depth_caller]); (try dsimp only [ktrTop]); omega))
  (k_with "L execs cons" => (refine r_consL ?_; intro _))
  (k_with "L execs nil" => refine wpAny_execs_nil ?_)
  (k_with "L exec If" => refine wpAny_If ?_)
  (k_with "L eval Constant int" => refine r_int ?_)
  (k_with "L eval Constant bytes" => refine r_bytes ?_)
  (k_with "L eval Constant str" => refine r_str ?_)
  (k_with "L binaryOp Add int int" => refine r_add ?_)
  (k_with "L binaryOp Sub int int" => refine r_sub ?_)
  (k_with "L binaryOp BitAnd int int" => refine r_and ?_)
  (k_with "L binaryOp BitOr int int" => refine r_or ?_)
  (k_with "L binaryOp RShift int int" => (refine' r_shr ?aZ ?_; (case aZ => omega)))
  (k_with "L binaryOp Mod int int" => (refine' r_mod ?aZ ?_; (case aZ => omega)))
  (k_with "L binaryOp LShift int int" => first | with_reducible refine r_shl09 ?_ | with_reducible refine r_shl10 ?_ | with_reducible refine r_shl12 ?_ | with_reducible refine r_shl28 ?_ | (refine' r_shl ?aZ ?bZ ?cZ ?_; (case aZ | bZ | cZ => omega)))
  (k_with "L call builtin:len" => ( (with_reducible show wpAny _ _ (call (Value.builtin "len") [Value.ref _]) _ _ _); refine' r_len ?NZ ?mZ ?zZ ?_; (case NZ => k_asm); (case mZ => k_mem); (case zZ => first | omega | (simp only [List.size_toArray, Array.size_push] at *; omega))))
  (k_with "L getAttr ref" => (k_here; k_dflt ( refine' r_getattr ?k1Z ?k2Z ?k3Z ?k4Z ?k5Z ?k6Z ?k7Z ?k8Z ?k9Z ?_; (case k1Z | k2Z => k_asm); (case k3Z => k_inst); (case k4Z | k5Z | k6Z | k7Z => k_is); (case k8Z => k_get); (case k9Z => k_handed); k_whole)))
  (k_with "L setAttr ref" => (k_here; k_dflt (first | (refine' r_setattr ?k1Z ?k2Z ?k3Z ?k4Z ?k5Z ?k6Z ?k7Z ?k8Z ?k9Z ?k10Z ?k11Z ?k11bZ ?k12Z ?k13Z ?_; (case k1Z | k2Z | k3Z => k_asm); (case k4Z => k_inst); (case k5Z => exact rfl); (case k6Z | k7Z | k8Z | k9Z => k_is); (case k10Z => k_get); (case k11Z => (intro _; k_extra "L my putL")); (case k11bZ => k_extra "L my putN"); (case k12Z => k_upd); (case k13Z => exact Nat.le_of_ble_eq_true rfl); k_whole; intro _ _ _ _; (try k_sweep)) | (refine' r_newattr ?k1Z ?k2Z ?k3Z ?k4Z ?k5Z ?k6Z ?k7Z ?k8Z ?k9Z ?k10Z ?k11Z ?k12Z ?k13Z ?_; (case k1Z | k2Z | k3Z => k_asm); (case k4Z => k_inst); (case k5Z => exact rfl); (case k6Z | k7Z | k8Z | k9Z => k_is); (case k10Z => k_get); (case k11Z => exact rfl); (case k12Z => exact Nat.le_of_ble_eq_true rfl); (case k13Z => k_updF); k_whole; intro _ _ _ _ _ N'; (dsimp only [List.cons_append, List.nil_append] at N'); (try (revert N'; intro _)); (try k_sweep)))))
  (k_with "L storeName" => (k_here; k_dflt ( refine' r_store ?k1Z ?k2Z ?k3Z ?k4Z ?_; (case k1Z | k2Z => k_asm); (case k3Z | k4Z => rfl); k_whole; intro _ _ _ _; (try k_sweep))))
  (k_with "L newList" => (k_here; k_dflt (refine' r_newList ?k1Z ?k2Z ?k3Z ?_; (case k1Z | k2Z => k_asm); (case k3Z => exact Nat.le_of_ble_eq_true rfl); k_whole); intro _ _ _ _ l1; (try k_lt l1); (try (revert l1; intro _)); (try k_sweep)))
  (k_with "L call builtin:list.append" => (k_here; (with_reducible show wpAny _ _ (call (Value.builtin _) [Value.ref _, _]) _ _ _); k_dflt (refine' r_append ?k1Z ?k2Z ?k3Z ?zZ ?_; (case k1Z | k2Z => k_asm); (case k3Z => k_upd); (case zZ => first | omega | (simp only [List.size_toArray, Array.size_push] at *; omega)); k_whole); intro _ _ _; (try k_sweep)))
  (k_with "L my enter" => (refine' r_enter ?k1Z ?k2Z ?k3Z ?k4Z ?k5Z ?kAZ ?kFZ ?kKZ ?k6Z ?k7Z ?k8Z ?k9Z ?kBZ ?_ ?c2Z ?c3Z ?c4Z ?c5Z; (case kAZ | kFZ => exact rfl); (case kKZ => first | assumption | exact rfl); (case k1Z | k2Z | k3Z | k4Z | k5Z => k_asm); (case k6Z | k7Z => k_is); (case k8Z => k_room); (case k9Z => first | exact BindsTo.of_eq rfl | exact binds_K (by k_in) rfl (by k_is) rfl rfl rfl); (case c5Z => decide); (case kBZ => exact locs rfl); (case c2Z | c3Z | c4Z => exact rfl); k_whole; intro _ _ _ _ _ _ _ _ _ _; (try dsimp only); (try k_fold)))
  (k_with "L my class" => (refine' call_cls ?k1Z ?k2Z ?k3Z ?k4Z ?k5Z ?k6Z ?_; (case k1Z | k2Z | k3Z => k_asm); (case k4Z | k5Z | k6Z => k_is); k_whole; intro _ _ _ _ _ l1 l2; (try k_lt l1); (try (revert l1; intro _)); (try k_lt2 l2); (try (revert l2; intro _)); (try k_sweep); k_extra "L my enter"))
  (k_with "L call ref" => (k_here; k_dflt (first | k_extra "L my class" | (refine wpAny_call ?_; k_extra "L my enter"))))
  (k_with "L my sub" => first | exact mem_all | (refine List.forall_mem_cons.mpr ⟨?_, ?_⟩; (k_mem); k_extra "L my sub") | exact List.forall_mem_nil _ | (refine mem_step ?_; k_extra "L my sub"))
  (k_with "L my blen" => first | k_extra "L om" | exact Nat.zero_le _ | ((simp only [List.length_append, List.length_cons, List.length_nil, List.length_take, List.length_drop]); omega) | omega | exact Nat.le_trans (cut_length _ _ _) (by omega) | (simp only [List.length_append, List.length_cons, List.length_nil, List.length_take, List.length_drop]; omega))
  (k_with "L binaryOp Add bytes bytes" => (refine' r_badd ?zZ ?z2Z ?_; (case zZ | z2Z => k_extra "L my blen"); intro _ _))
  (k_with "L compareOp Eq bytes bytes" => refine r_beq ?_)
  (k_with "L subscriptTail" => (k_here; (with_reducible show wpAny _ _ (subscriptTail _ (Expr.Slice _ _ none _) (Value.bytes _ _) (Value.ref _)) _ _ _); k_dflt (refine' r_slice ?FZ ?NZ ?lZ ?uZ ?zZ ?_ ?sZ ?tZ; (case FZ | NZ => k_asm); (case lZ | uZ => constructor); (case zZ => omega); (case sZ => with_unfolding_all rfl); (case tZ => intro _; with_unfolding_all rfl)); intro _ _ _ _ _; (try k_sweep)))
  (k_with "L subscriptTail" => (k_here; (with_reducible show wpAny _ _ (subscriptTail _ _ (Value.ref _) (Value.int _ _)) _ _ _); k_dflt (refine' r_item ?NZ ?mZ ?aZ ?bZ ?xZ ?_ ?sZ ?tZ; (case NZ => k_asm); (case mZ => k_mem); (case aZ | bZ => omega); (case xZ => first | assumption | rfl); (case sZ => with_unfolding_all rfl); (case tZ => intro _; with_unfolding_all rfl))))
  (k_with "L my ev" => first | ((with_reducible show Ev _ _ _ _ _ _ _ (Expr.Constant _ _ _) _ _ _); first | exact ev_int | (intro _ _ Hx; walk1; with_reducible exact Hx)) | ((with_reducible show Ev _ _ _ _ _ _ _ (Expr.Name _ _) _ _ _); first | (refine' ev_L ?FZ ?vZ ?aZ ?bZ ?dZ; (case FZ => k_asm); (case aZ | bZ => rfl); (case dZ => decide); (case vZ => rfl)) | (intro _ _ Hx; walk1; with_reducible exact Hx)) | ((with_reducible show Ev _ _ _ _ _ _ _ (Expr.Attribute _ _ _) _ _ _); refine' ev_attr ?k1Z ?k2Z ?vZ ?k3Z ?k4Z ?k5Z ?k6Z ?k7Z ?k8Z ?k9Z ?aZ ?bZ ?dZ; (case k1Z | k2Z => k_asm); (case aZ | bZ => rfl); (case dZ => decide); (case vZ => rfl); (case k3Z => k_inst); (case k4Z | k5Z | k6Z | k7Z => k_is); (case k8Z => k_get); (case k9Z => k_handed)) | ((with_reducible show Ev _ _ _ _ _ _ _ (Expr.BinOp _ _ _ _) _ _ _); refine' ev_bin ?lZ ?rZ ?oZ; (case lZ | rZ => k_extra "L my ev"); (case oZ => (intro _ _ Hx; walk1; with_reducible exact Hx))) | ((with_reducible show Ev _ _ _ _ _ _ _ (Expr.Call (Expr.Name (Str.ofString "len") _) [_] [] _) _ _ _); intro _ _ Hx; (repeat walk1); with_reducible exact Hx))
  (k_with "L eval BinOp" => (k_here; k_dflt (refine' ev_use ?hZ ?_; (case hZ => k_extra "L my ev"); k_whole)))
  (k_with "L eval Attribute Name" => (k_here; k_dflt (refine' ev_use ?hZ ?_; (case hZ => k_extra "L my ev"); k_whole)))
  (k_with "L isTrue Compare" => (k_here; k_dflt (refine' ev_isTrue ?lZ ?rZ ?oZ ?mZ ?_; (case lZ | rZ => k_extra "L my ev"); (case oZ => (intro _ _ Hx; walk1; with_reducible exact Hx)); (case mZ => with_unfolding_all rfl); k_whole)))
  (k_with "L call ref" => (k_here; (with_reducible show wpAny _ _ (call (Value.ref 45) _) _ _ _); refine' r_excMake ?k1Z ?k2Z ?k3Z ?k4Z ?k5Z ?k6Z ?k7Z ?_; (case k1Z | k2Z | k3Z => k_asm); (case k4Z => exact Nat.le_of_ble_eq_true rfl); (case k5Z => kernel_rfl); (case k6Z | k7Z => k_is); k_whole; intro _ _ _ _ _ l1; (try k_lt l1); (try (revert l1; intro _)); (try k_sweep); k_extra "L my enter"))
  (k_with "L setAttr ref" => (k_here; (with_reducible show wpAny _ _ (setAttr _ "told" (Value.bytes _ _)) _ _ _); refine' r_excSet ?k1Z ?k2Z ?k3Z ?k4Z ?_; (case k1Z | k2Z | k3Z => k_asm); (case k4Z => k_updF); k_whole; intro _ _ _ _ _ _ _ l1; (try k_lt l1); (try (revert l1; intro _)); (try k_sweep)))
  (k_with "L Inst45" => (k_here; k_dflt (refine' ⟨_, _, _, rfl, ?aZ, ?cZ, ?dZ, ?eZ, ?bZ, ?_⟩; (case aZ => exact (News.get (by k_asm) (by k_mem))); (case cZ | dZ | eZ => exact rfl); (case bZ => exact Frag.In.keeps (by k_asm) (Fr.keep (by k_asm))); k_whole)))
  (k_with "L exec Raise some none" => (k_here; k_dflt (refine' r_raise ?aZ ?_; (case aZ => rfl); k_whole)))
  (k_with "L my nes" => first | exact List.forall_mem_nil _ | k_all | (refine List.forall_mem_cons.mpr ⟨?_, ?_⟩; (show @Ne Nat _ _; omega); k_extra "L my nes"))
  (k_with "L leaving ref" => (k_here; (rename Gone _ _ _ _ _ => gX); (rename Heap.UpToSlots _ _ => uX); k_dflt (refine' leave_more ?KZ ?FZ ?fZ ?RZ ?UZ ?_; (case KZ => assumption); (case RZ => exact gX); (case UZ => exact uX); (case FZ => assumption); (case fZ => exact rfl); k_whole); (try clear gX uX); intro _ _ _))
  (k_with "L leaving ref" => (k_here; k_dflt (refine' leave_first ?KZ ?FZ ?fZ ?kZ ?NZ ?aZ ?bZ ?_; (case KZ | FZ => assumption); (case fZ | kZ => exact rfl); (case NZ => assumption); (case aZ => k_extra "L my nes"); (case bZ => (show @Ne Nat _ _; omega)); k_whole); intro _ _ _))
  (k_with "L c enter" => (refine' c_enter ?k1Z ?k2Z ?k3Z ?k4Z ?k5Z ?kAZ ?kFZ ?kKZ ?k6Z ?k7Z ?k8Z ?k9Z ?kBZ ?_ ?c2Z ?c3Z ?c4Z ?c5Z; (case kAZ | kFZ => exact rfl); (case kKZ => first | assumption | exact rfl); (case k1Z | k2Z | k3Z | k4Z | k5Z => k_asm); (case k6Z | k7Z => k_is); (case k8Z => k_room); (case k9Z => first | exact BindsTo.of_eq rfl | exact binds_K (by k_in) rfl (by k_is) rfl rfl rfl); (case c5Z => decide); (case kBZ => exact locs rfl); (case c2Z | c3Z | c4Z => exact rfl); k_whole; intro _ _ _ _ _ _ _ _ _ _; (try dsimp only)))
  (k_with "L keep at" => first | ((with_reducible show KeepAt _ (Value.ref _) _); refine keep_ref (by k_in) (by k_is)) | exact keep_append | exact keep_extend | exact keep_bytearray | exact ⟨.machine, .inr (.inl rfl), Looks.of_pure (by kernel_rfl)⟩)
  (k_with "L c call" => ( (with_reducible show wpC _ _ (call (Value.builtin "bytearray.append") [Value.ref _, Value.int _ _]) _ _ _); k_dflt (refine' c_append ?k1Z ?k2Z ?k3Z ?k4Z ?k5Z ?zZ ?_; (case k1Z | k2Z => k_asm); (case k3Z => k_upd); (case k4Z | k5Z => omega); (case zZ => k_extra "L my blen"); k_whole); intro _ _ _; (try k_sweep)))
  (k_with "L c call" => ( (with_reducible show wpC _ _ (call (Value.builtin "bytearray.extend") [Value.ref _, Value.bytes _ _]) _ _ _); k_dflt (refine' c_extend ?k1Z ?k2Z ?k3Z ?zZ ?_; (case k1Z | k2Z => k_asm); (case k3Z => k_upd); (case zZ => k_extra "L my blen"); k_whole); intro _ _ _; (try k_sweep)))
  (k_with "L c call" => ( (with_reducible show wpC _ _ (call (Value.type "bytearray") []) _ _ _); k_dflt (refine' c_new ?k1Z ?k2Z ?_; (case k1Z | k2Z => k_asm); k_whole); intro _ _ _ _ l1; (try k_lt l1); (try (revert l1; intro _)); (try k_sweep)))
  (k_with "L getMethod ref" => (k_here; (with_reducible show wpAny _ _ (getMethod (Value.ref _) (PySem.Str.ofString "extend") _) _ _ _); k_dflt (refine' (meth_extend ?xZ).here ?_; (case xZ => exact (News.get (by k_asm) (by k_mem))); k_whole)))
  (k_with "L getMethod ref" => (k_here; (with_reducible show wpAny _ _ (getMethod (Value.ref _) (PySem.Str.ofString "append") _) _ _ _); k_dflt (refine' (meth_append ?xZ).here ?_; (case xZ => exact (News.get (by k_asm) (by k_mem))); k_whole)))
  (k_with "L harm" => fail "no harm")
  (k_with "L cw" => first | ((with_reducible refine c_consL ?_); intro _) | with_reducible refine c_nil ?_ | k_extra "L harm" | with_reducible refine c_If ?_ | ((with_reducible show wpC _ _ (isTrue (Expr.Compare (Expr.Call _ _ _ _) _ _ _) _ _) _ _ _); refine c_isTrue ?_) | with_reducible refine ofA_isTrue ?_ | ((with_reducible show wpC _ _ (exec (Stmt.Expr (Expr.Call _ _ _ _) _) _) _ _ _); refine c_Expr ?_) | with_reducible refine c_Assign ?_ | ((with_reducible show wpC _ _ (exec (Stmt.Assign [Expr.Attribute _ _ _] (Expr.Call _ _ _ _) _) _) _ _ _); refine c_AssignA ?_) | with_reducible refine c_Return ?_ | with_reducible refine ofA_exec ?_ | with_reducible refine c_Meth ?_ | with_reducible refine c_Call ?_ | ((with_reducible show wpC _ _ (eval (Expr.BinOp _ _ _ _) _) _ _ _); k_dflt (refine' ofA_eval (ev_use ?hZ ?_); (case hZ => k_extra "L my ev"); k_whole)) | with_reducible refine c_BinOp ?_ | with_reducible refine c_Compare ?_ | with_reducible refine c_And ?_ | with_reducible refine c_And1 ?_ | with_reducible refine ofA_eval ?_ | with_reducible refine c_args ?_ | with_reducible refine c_args0 ?_ | with_reducible refine c_with1 ?_ | ((with_reducible show wpC _ _ (callWith _ _ _ _ _) _ _ _); refine c_with0 (by k_extra "L keep at") ?_) | ((with_reducible show KeepAt _ _ _ ∧ _); refine ⟨by k_extra "L keep at", ?_⟩; (try dsimp only [List.cons_append, List.nil_append])) | k_extra "L c call" | with_reducible refine ofA_call ?_ | with_reducible refine c_ite1 (by assumption) ?_ | with_reducible refine c_ite0 (by assumption) ?_)
  (k_with "L c steps" => repeat' (first | ((with_reducible show wpAny _ _ _ _ _ _); walk1) | k_extra "L cw" | (k_unfold; (try dsimp only)) | ((show (_ : Flow → Shared → Prop) _ _); k_unfold; (try dsimp only)) | (k_end; wrow_close) | walk1 | (dsimp only; walk1) | (leave1; try dsimp only) | (dsimp only; k_extra "L cw") | fail "no step"))
  (k_with "L c call" => ( (with_reducible show wpC _ _ (call (Value.type "enumerate") [Value.bytes _ _]) _ _ _); k_dflt (refine' wpC_of_any (r_enumB ?k1Z ?k2Z ?_); (case k1Z | k2Z => k_asm); k_whole); intro _ _ _ _ _ l1 l2; (try k_lt l1); (try (revert l1; intro _)); (try k_lt2 l2); (try (revert l2; intro _)); (try k_sweep)))
  (k_with "L call type:bytes" => ((with_reducible show wpAny _ _ (call (Value.type "bytes") [Value.bytes _ _]) _ _ _); refine r_bytesB ?_))
  (k_with "L call type:bytes" => ((with_reducible show wpAny _ _ (call (Value.type "bytes") [Value.ref _]) _ _ _); k_dflt (refine' r_bytesBa ?aZ ?zZ ?_; (case aZ => exact (News.get (by k_asm) (by k_mem))); (case zZ => k_extra "L my blen"); k_whole); intro _ _))
  (k_with "L harm" => first | ((with_reducible show wpC _ _ (exec (Stmt.For _ _ _ [] _) _) _ _ _); refine c_For ?_) | ((with_reducible show wpC _ _ (pyIter _) _ _ _); refine wpC_of_any ?_))
  (k_with "L harm" => first | ((with_reducible show wpC _ _ (exec (Stmt.For _ _ _ [] _) _) _ _ _); refine c_For ?_) | ((with_reducible show wpC _ _ (exec (Stmt.While _ _ [] _) _) _ _ _); refine c_WhileR ?_) | ((with_reducible show codeC _ _ (Code.whileLoop _ _ [] _) _ _); refine codeC_while1 ?_) | ((with_reducible show LoopR _ _ _ _ _ _ _ _); dsimp only [LoopR]) | ((with_reducible show wpC _ _ (pyIter _) _ _ _); refine wpC_of_any ?_))
  (k_with "L binaryOp LShift int int" => (refine' r_shl8 ?aZ ?bZ ?_; (case aZ => with_reducible rfl); (case bZ => omega)))
  (k_with "L binaryOp LShift int int" => (refine' r_shl9 ?aZ ?bZ ?_; (case aZ => with_reducible rfl); (case bZ => omega)))
  (k_with "L binaryOp BitOr int int" => (with_reducible refine' r_or8 ?aZ ?bZ ?cZ ?_; (case aZ | bZ | cZ => omega)))
  (k_with "L binaryOp BitOr int int" => (with_reducible refine' r_or9 ?aZ ?bZ ?cZ ?_; (case aZ | bZ | cZ => omega)))
  (k_with "L binaryOp BitAnd int int" => (first | (with_reducible refine' r_mask (b := 268435456 - 1) (c := 268435456) 28 ?aZ ?bZ ?_; (case aZ | bZ => decide)) | (with_reducible refine' r_mask (b := 255) (c := 256) 8 ?aZ ?bZ ?_; (case aZ | bZ => decide)) | (with_reducible refine r_maskW ?_)))
  (k_with "L my putL" => first | with_reducible exact putL_e2 | with_reducible exact putL_e3 | with_reducible exact putL_e4 | with_reducible exact putL_e5 | with_reducible exact putL_e6 | with_reducible exact putL_e7 | with_reducible exact putL_e8)
  (k_with "L my putN" => first | with_reducible exact putN_e2 | with_reducible exact putN_e3 | with_reducible exact putN_e4 | with_reducible exact putN_e5 | with_reducible exact putN_e6 | with_reducible exact putN_e7 | with_reducible exact putN_e8)
  trivial
noncomputable def initF : FS := ⟨⟨[], none, 9, false, []⟩, [], 0, 0⟩
noncomputable def decodeM (early : Int) (octets : List UInt8) : Option (List UInt8) :=
  match feedM early initF octets with
  | none => none
  | some s => if s.ds.isd then some s.ds.found else none
theorem mk2_ok (w : World) (loose : List Str) (mean : ExcName → Option Value) (mg mb : Str → Option Value)
    (early : Int) (te tmo : Tok) (rest : List (Addr × Obj)) :
    CallOk w loose mean mg mb 3 (.ref 121) [.int early te, .int 12 tmo] rest (mkPost early te rest) := by
  unfold CallOk
  intro dp un gd cn cs a ccd cl outer A₀ base h₀ L m s Q E
  k_fill
  obtain ⟨hp, gn, dr, tk0, os⟩ := s
  intro B F X N T hk hd hu hret
  k_dflt (walk_at "my class")
  k_steps
  (rename News _ _ _ _ => N9)
  (rename Fr _ _ _ _ => F9)
  refine' hret _ _ _ _ F9 (News.sub N9 ?s) ⟨_, _, _, _, _, khOf [(_, _), (_, _), (_, _), (_, _), (_, _), (_, _), (_, _), (_, _), (_, _)], _, _, _, _, _, rfl, ?a, ?b, ?c, rfl⟩
  case s => walk_at "my sub"
  case a => assumption
  case b => omega
  case c => omega
theorem fin_dec (w : World) (loose : List Str) (mean : ExcName → Option Value) (mg mb : Str → Option Value)
    (early : Int) (s : FS) (x d : Addr) (rest news : List (Addr × Obj)) (D : DecL early s x d rest news) :
    CallX w loose mean mg mb 5 (.ref 118) [.ref x] news
      (fun r news' => s.ds.isd = true ∧ (∃ tk, r = .bytes ([] : List UInt8).toArray tk) ∧ news' = news) (fun news' => s.ds.isd = false ∧ news' = rest) := by
  unfold CallX
  obtain ⟨⟨tab, last, width, isd, found⟩, left, bits, many⟩ := s
  obtain ⟨t, n, k', kh, te, tm, tw, tl, tf, tb, tn, its, hba, ⟨hxd, hxt, hdt, hrx, hrd, hrt⟩, rfl⟩ := D
  dsimp only at *
  intro dp un gd cn cs a ccd cl outer A₀ base h₀ L m s Q E
  k_fill
  obtain ⟨hp', gn, dr, tk0, os⟩ := s
  intro B F X N T hkk hd hu hret hexc
  refine wpAny_call ?_
  cases isd
  all_goals (k_dflt (walk_at "my enter"); k_steps)
  · (rename Gone _ _ _ _ _ => G9)
    (rename Heap.UpToSlots _ _ => U9)
    exact hexc _ _ _ _ _ (by assumption) U9 (Gone.sub G9 (by walk_at "my sub")) ⟨rfl, rfl⟩
  · (rename News _ _ _ _ => N9)
    (rename Fr _ _ _ _ => F9)
    exact hret _ _ _ _ F9 N9 ⟨rfl, ⟨_, rfl⟩, rfl⟩
theorem reg_Dec0 : True := by
  (k_with "L c call" => ((with_reducible show wpC _ _ (call (Value.ref _) _) _ _ _); refine goC ?_; intro _))
  trivial
theorem coded_dec (w : World) (loose : List Str) (mean : ExcName → Option Value) (mg mb : Str → Option Value)
    (early : Int) (x d : Addr) (octets : List UInt8) (tko : Tok) (rest news : List (Addr × Obj)) (D : DecL early initF x d rest news) (he : 0 ≤ early ∧ early ≤ 1) (hk : octets.length ≤ 300) :
    CallC w loose mean mg mb 11 (.ref 61) [.ref x, .bytes octets.toArray tko] news
      (fun r news' => ∃ out tk, decodeM early octets = some out ∧ r = .bytes out.toArray tk ∧ news' = rest) (fun news' => decodeM early octets = none ∧ news' = rest) := by
  unfold CallC
  have D' := D
  obtain ⟨t, n, k', kh, te, tm, tw, tl, tf, tb, tn, its, hba, ⟨hxd, hxt, hdt, hrx, hrd, hrt⟩, rfl⟩ := D'
  dsimp only [initF] at *
  intro dp un gd cn cs a ccd cl outer A₀ base h₀ L m s Q E
  k_fill
  obtain ⟨hp', gn, dr, tk0, os⟩ := s
  intro B F X N T hkk hd hu hret hexc
  refine wpC_call ?_
  k_dflt (walk_at "c enter")
  rename_i gF LF hF0 tF FGF FF NF BF XF TF
  walk_at "c steps"
  refine StopAt.mk ?_
  refine' CallC.at (feed_ok w loose mean mg mb early initF x d octets tko rest _ D 0 he ⟨by simp [initF], by simp [initF], by simp [initF], by simp, .inl rfl⟩ (by omega) ⟨by decide, by decide⟩ ⟨by decide, by decide⟩ (by decide)) BF (by assumption) XF (by assumption) TF rfl (by omega) (by omega) ?ret ?exc
  case ret =>
    intro r n' h' tk' F' N' hP0
    refine hideGoal fun G hG => ?_
    obtain ⟨s', tkr, hs', rfl, D2⟩ := hP0
    refine hG ?_
    clear hG G
    have D3 := D2
    obtain ⟨⟨tab', last', width', isd', found'⟩, left', bits', many'⟩ := s'
    obtain ⟨t', n', k2, kh', te', tm', tw', tl', tf', tb', tn', its', hba', ⟨hxd', hxt', hdt', hrx', hrd', hrt'⟩, rfl⟩ := D3
    dsimp only at *
    have hfl : found'.length ≤ 90300 := by
      have := (feedM_sz octets 0 initF _ ⟨by simp [initF], by simp [initF], by simp [initF], by simp [initF], .inl rfl⟩ hs').found
      have h2 : (0 + octets.length) * (0 + octets.length + 1) ≤ 300 * 301 := Nat.mul_le_mul (by omega) (by omega)
      dsimp only at this; omega
    have hdm : decodeM early octets = if isd' then some found' else none := by
      unfold decodeM; rw [show feedM early initF octets = _ from hs']
    walk_at "c steps"
    refine StopAt.mk (wpC_of_any ?_)
    refine' CallX.at (fin_dec w loose mean mg mb early _ x d rest _ D2) BF (by assumption) XF (by assumption) TF rfl (by omega) (by omega) ?ret2 ?exc2
    case ret2 =>
      intro r n'' h'' tk'' F'' N'' hP0
      refine hideGoal fun G hG => ?_
      obtain ⟨hd2, ⟨tk2, rfl⟩, rfl⟩ := hP0
      refine hG ?_
      clear hG G
      walk_at "c steps"
      (rename News _ _ _ _ => N9)
      (rename Fr _ _ _ _ => F9)
      dsimp only at hd2
      subst hd2
      refine hret _ _ _ _ F9 (News.sub N9 ?s) ⟨_, _, hdm, by rw [List.append_nil], rfl⟩
      walk_at "my sub"
    case exc2 =>
      intro e' g2 n'' h'' tk'' F'' U'' G'' hP0
      refine hideGoal fun G hG => ?_
      obtain ⟨hd2, rfl⟩ := hP0
      refine hG ?_
      clear hG G
      dsimp only at hd2
      subst hd2
      refine leave_more BF F'' rfl G'' U'' fun h3 G3 U3 => ?_
      exact hexc _ _ _ _ _ FGF U3 G3 ⟨hdm, rfl⟩
  case exc =>
    intro e' g2 n' h' tk' F' U' G' hP0
    refine hideGoal fun G hG => ?_
    obtain ⟨hn, rfl⟩ := hP0
    refine hG ?_
    clear hG G
    refine leave_more BF F' rfl G' U' fun h3 G3 U3 => ?_
    exact hexc _ _ _ _ _ FGF U3 G3 ⟨by unfold decodeM; rw [show feedM early initF octets = none from hn], rfl⟩
theorem reg_Dec1 : True := by
  (k_with "L c call" => ((with_reducible show wpC _ _ (call (Value.ref _) _) _ _ _); refine goC ?_; intro _))
  trivial
theorem mk_dec {early : Int} {te : Tok} {rest news : List (Addr × Obj)} {r : Value} (h : mkPost early te rest r news) : ∃ x d, r = .ref x ∧ DecL early initF x d rest news := by
  obtain ⟨x, d, t, n, k, kh, tm, tl, tb, tn, tw, rfl, h1, h2, h3, rfl⟩ := h
  refine ⟨x, d, rfl, t, n, k, kh, te, tm, tw, 0, tl, tb, tn, #[], BA.nil, ⟨Nat.ne_of_gt h2, Nat.ne_of_lt h3, Nat.ne_of_lt (Nat.lt_trans h2 h3), fun p hp => Nat.ne_of_lt (Nat.lt_trans (h1 p hp) h2), fun p hp => Nat.ne_of_lt (h1 p hp), fun p hp => Nat.ne_of_lt (Nat.lt_trans (Nat.lt_trans (h1 p hp) h2) h3)⟩, rfl⟩
theorem dec_ok (w : World) (loose : List Str) (mean : ExcName → Option Value) (mg mb : Str → Option Value)
    (early : Int) (octets : List UInt8) (tko te : Tok) (rest : List (Addr × Obj)) (he : 0 ≤ early ∧ early ≤ 1) (hk : octets.length ≤ 300) :
    CallC w loose mean mg mb 13 (.ref 205) [.bytes octets.toArray tko, .int early te] rest
      (fun r news' => ∃ out tk, decodeM early octets = some out ∧ r = .bytes out.toArray tk ∧ news' = rest) (fun news' => decodeM early octets = none ∧ news' = rest) := by
  unfold CallC
  intro dp un gd cn cs a ccd cl outer A₀ base h₀ L m s Q E
  k_fill
  obtain ⟨hp', gn, dr, tk0, os⟩ := s
  intro B F X N T hkk hd hu hret hexc
  refine wpC_call ?_
  k_dflt (walk_at "c enter")
  rename_i gF LF hF0 tF FGF FF NF BF XF TF
  walk_at "c steps"
  refine StopAt.mk (wpC_of_any ?_)
  refine CallOk.at (mk2_ok w loose mean mg mb early te _ rest) BF (by assumption) XF (by assumption) TF rfl (by omega) (by omega) ?_
  intro r n' h' tk' F' N' P
  obtain ⟨x, d, rfl, D⟩ := mk_dec P
  walk_at "c steps"
  refine StopAt.mk ?_
  refine' CallC.at (coded_dec w loose mean mg mb early x d octets tko rest _ D he hk) BF (by assumption) XF (by assumption) TF rfl (by omega) (by omega) ?ret ?exc
  case ret =>
    intro r n' h' tk' F' N' hP0
    refine hideGoal fun G hG => ?_
    obtain ⟨out, tkr, hs', rfl, rfl⟩ := hP0
    refine hG ?_
    clear hG G
    walk_at "c steps"
    exact hret _ _ _ _ (by assumption) (by assumption) ⟨out, tkr, hs', rfl, rfl⟩
  case exc =>
    intro e' g2 n' h' tk' F' U' G' hP0
    refine hideGoal fun G hG => ?_
    obtain ⟨hn, rfl⟩ := hP0
    refine hG ?_
    clear hG G
    refine leave_more BF F' rfl G' U' fun h3 G3 U3 => ?_
    exact hexc _ _ _ _ _ FGF U3 G3 ⟨hn, rfl⟩
noncomputable def longW (early : Int) (n : Nat) : List Int := (List.range n).map fun (t : Nat) => if 255 ≤ (t : Int) + early then 10 else 9
noncomputable def longB (early : Int) (n : Nat) : List UInt8 := (packB ((List.replicate n (65 : Int) ++ [257]).zip (longW early (n + 1)))).map fun n => n.toNat.toUInt8
theorem long_0_253 : decodeM 0 (longB 0 253) = some (List.replicate 253 65) := by decide +kernel
theorem long_0_254 : decodeM 0 (longB 0 254) = some (List.replicate 254 65) := by decide +kernel
theorem long_0_255 : decodeM 0 (longB 0 255) = some (List.replicate 255 65) := by decide +kernel
theorem long_0_256 : decodeM 0 (longB 0 256) = some (List.replicate 256 65) := by decide +kernel
theorem long_1_253 : decodeM 1 (longB 1 253) = some (List.replicate 253 65) := by decide +kernel
theorem long_1_254 : decodeM 1 (longB 1 254) = some (List.replicate 254 65) := by decide +kernel
theorem long_1_255 : decodeM 1 (longB 1 255) = some (List.replicate 255 65) := by decide +kernel
theorem long_1_256 : decodeM 1 (longB 1 256) = some (List.replicate 256 65) := by decide +kernel
theorem long_all {early : Int} {n : Nat} (he : 0 ≤ early ∧ early ≤ 1) (h0 : 253 ≤ n) (h1 : n < 257) : decodeM early (longB early n) = some (List.replicate n 65) := by
  have h : (early = 0 ∨ early = 1) := by omega
  have h2 : (n = 253 ∨ n = 254 ∨ n = 255 ∨ n = 256) := by omega
  rcases h with rfl | rfl <;> rcases h2 with rfl | rfl | rfl | rfl
  · exact long_0_253
  · exact long_0_254
  · exact long_0_255
  · exact long_0_256
  · exact long_1_253
  · exact long_1_254
  · exact long_1_255
  · exact long_1_256
theorem long_len {early : Int} {n : Nat} (he : 0 ≤ early ∧ early ≤ 1) (h0 : 253 ≤ n) (h1 : n < 257) : (longB early n).length ≤ 300 := by
  have h : (early = 0 ∨ early = 1) := by omega
  have h2 : (n = 253 ∨ n = 254 ∨ n = 255 ∨ n = 256) := by omega
  rcases h with rfl | rfl <;> rcases h2 with rfl | rfl | rfl | rfl <;> decide +kernel
theorem longW_le {early : Int} {n : Nat} : ∀ x ∈ longW early n, 0 ≤ x ∧ x ≤ 10 := by
  intro x hx
  obtain ⟨t, _, rfl⟩ := List.mem_map.mp hx
  split <;> omega
theorem num_up {i : Nat} : (258 + ((i - 1 : Nat) : Int) + if decide (0 < (i : Int)) = true then 1 else 0) = 258 + ((i + 1 - 1 : Nat) : Int) := by
  cases i with
  | zero => rfl
  | succ i => rw [if_pos (by simp <;> omega)]; omega
theorem wide_up {i : Nat} {early : Int} (h : 512 ≤ 258 + ((i + 1 - 1 : Nat) : Int) + early) : 255 ≤ ((i + 1 : Nat) : Int) + early := by omega
theorem wide_no {i : Nat} {early : Int} (h : ¬ 512 ≤ 258 + ((i + 1 - 1 : Nat) : Int) + early) : ¬ 255 ≤ ((i + 1 : Nat) : Int) + early := by omega
theorem wide_no' {i : Nat} {early : Int} (h : ¬ 512 ≤ 258 + ((i + 1 - 1 : Nat) : Int) + early) : ¬ 255 ≤ (i : Int) + early := by omega
-- free
/-! feeding in pieces -/
noncomputable def foundF (f : List UInt8) (d : DS) : DS := { d with found := f ++ d.found }
noncomputable def foundS (f : List UInt8) (s : FS) : FS := { s with ds := foundF f s.ds }
theorem takeM_found {early code : Int} {f : List UInt8} {d : DS} : takeM early code (foundF f d) = (takeM early code d).map (foundF f) := by
  unfold takeM
  split
  · rfl
  split
  · rfl
  dsimp only [foundF]
  cases toldM d.tab d.last code with
  | none => rfl
  | some p => dsimp only [Option.map, foundF]; rw [List.append_assoc]; rfl
theorem feedM_found {early : Int} {f : List UInt8} : ∀ (o : List UInt8) (s : FS), feedM early (foundS f s) o = (feedM early s o).map (foundS f)
  | [], s => rfl
  | c :: r, s => by
    rw [feedM, feedM]
    show (if s.ds.isd = true then _ else _) = _
    by_cases h1 : s.ds.isd = true
    · rw [if_pos h1, if_pos h1]; rfl
    rw [if_neg h1, if_neg h1]
    show (if s.many + 8 ≥ s.ds.width then _ else _) = _
    by_cases h2 : s.many + 8 ≥ s.ds.width
    · rw [if_pos h2, if_pos h2]
      show (match takeM early (codeM s.ds.width ((s.bits * 256 + c.toNat) % 268435456) (s.many + 8 - s.ds.width)) (foundF f s.ds) with | none => _ | some d => _) = _
      rw [takeM_found]
      cases takeM early (codeM s.ds.width ((s.bits * 256 + c.toNat) % 268435456) (s.many + 8 - s.ds.width)) s.ds with
      | none => rfl
      | some d => exact feedM_found (f := f) r ⟨d, s.left, (s.bits * 256 + c.toNat) % 268435456, s.many + 8 - s.ds.width⟩
    · rw [if_neg h2, if_neg h2]; exact feedM_found (f := f) r ⟨s.ds, s.left, (s.bits * 256 + c.toNat) % 268435456, s.many + 8⟩
theorem feedM_append {early : Int} {b : List UInt8} : ∀ (a : List UInt8) (s : FS), feedM early s (a ++ b) = (feedM early s a).bind fun s' => feedM early s' b
  | [], s => rfl
  | c :: r, s => by
    rw [List.cons_append, feedM, feedM]
    by_cases h1 : s.ds.isd = true
    · rw [if_pos h1, if_pos h1]
      cases b with
      | nil => rw [List.append_nil]; rfl
      | cons x b =>
        rw [Option.bind_some, feedM, if_pos h1]
        dsimp only
        rw [List.append_assoc]; rfl
    rw [if_neg h1, if_neg h1]
    by_cases h2 : s.many + 8 ≥ s.ds.width
    · rw [if_pos h2, if_pos h2]
      cases takeM early (codeM s.ds.width ((s.bits * 256 + c.toNat) % 268435456) (s.many + 8 - s.ds.width)) s.ds with
      | none => rfl
      | some d => exact feedM_append r _
    · rw [if_neg h2, if_neg h2]; exact feedM_append r _
theorem feedM_rng {early : Int} : ∀ (o : List UInt8) (k n : Nat) (s s' : FS), Sz k s.ds → (0 ≤ s.bits ∧ s.bits < 268435456) → (0 ≤ s.many ∧ s.many ≤ 9) → s.left.length ≤ n → feedM early s o = some s' → (0 ≤ s'.bits ∧ s'.bits < 268435456) ∧ (0 ≤ s'.many ∧ s'.many ≤ 9) ∧ s'.left.length ≤ n + o.length
  | [], k, n, s, s', hs, hb, hm, hl, e => by injection e with e; subst e; exact ⟨hb, hm, by simpa using hl⟩
  | c :: r, k, n, s, s', hs, hb, hm, hl, e => by
    rw [feedM] at e
    have hw := hs.width
    have hb2 : 0 ≤ (s.bits * 256 + c.toNat) % 268435456 ∧ (s.bits * 256 + c.toNat) % 268435456 < 268435456 := by (first | lia | omega)
    split at e
    · injection e with e; subst e
      exact ⟨hb, hm, by rw [List.length_append]; (first | lia | omega)⟩
    split at e
    · split at e
      · cases e
      · rename_i d hd
        have := feedM_rng r (k + 1) n ⟨d, s.left, (s.bits * 256 + c.toNat) % 268435456, s.many + 8 - s.ds.width⟩ s' (hs.take hd) hb2 (by dsimp only; (first | lia | omega)) hl e
        exact ⟨this.1, this.2.1, by rw [List.length_cons]; (first | lia | omega)⟩
    · have := feedM_rng r k n ⟨s.ds, s.left, (s.bits * 256 + c.toNat) % 268435456, s.many + 8⟩ s' hs hb2 (by dsimp only; (first | lia | omega)) hl e
      exact ⟨this.1, this.2.1, by rw [List.length_cons]; (first | lia | omega)⟩
/-- the decoder behind some octets of at most 300 -/
structure FeedZ (k : Nat) (s : FS) : Prop where
  sz : Sz k s.ds
  bits : 0 ≤ s.bits ∧ s.bits < 268435456
  many : 0 ≤ s.many ∧ s.many ≤ 9
  left : s.left.length ≤ k
theorem feedZ {early : Int} {o : List UInt8} {s : FS} (h : feedM early initF o = some s) : FeedZ o.length s := by
  have z0 : Sz 0 initF.ds := ⟨by simp [initF], by simp [initF], by simp [initF], by simp [initF], .inl rfl⟩
  have h1 := feedM_sz o 0 initF s z0 h
  have h2 := feedM_rng o 0 0 initF s z0 ⟨by decide, by decide⟩ ⟨by decide, by decide⟩ (by simp [initF]) h
  rw [Nat.zero_add] at h1 h2
  exact ⟨h1, h2.1, h2.2.1, h2.2.2⟩
theorem Sz.less {k : Nat} {s : DS} {f : List UInt8} (h : Sz k s) (hf : f.length ≤ k * (k + 1)) : Sz k { s with found := f } := ⟨h.tab, h.all, h.last, hf, h.width⟩
/-- one piece more -/
theorem piece_next {early : Int} {o p : List UInt8} {s s' : FS} {F : List UInt8} (h : feedM early initF o = some { s with ds := { s.ds with found := F } }) (hp : feedM early { s with ds := { s.ds with found := [] } } p = some s') :
    feedM early initF (o ++ p) = some { s' with ds := { s'.ds with found := F ++ s'.ds.found } } := by
  rw [feedM_append, h, Option.bind_some]
  have e : ({ s with ds := { s.ds with found := F } } : FS) = foundS F { s with ds := { s.ds with found := [] } } := by unfold foundS foundF; rw [List.append_nil]
  rw [e, feedM_found, hp]; rfl
theorem piece_none {early : Int} {o p r : List UInt8} {s : FS} {F : List UInt8} (h : feedM early initF o = some { s with ds := { s.ds with found := F } }) (hp : feedM early { s with ds := { s.ds with found := [] } } p = none) :
    feedM early initF (o ++ p ++ r) = none := by
  rw [feedM_append, feedM_append, h, Option.bind_some]
  have e : ({ s with ds := { s.ds with found := F } } : FS) = foundS F { s with ds := { s.ds with found := [] } } := by unfold foundS foundF; rw [List.append_nil]
  rw [e, feedM_found, hp]; rfl
section
open PySem.Calls
section
variable {prog : Program} {w : World} {A : Around} {h : Heap} {gn : Array GenState} {dr : Drawn} {t : Nat} {os : OsState} {R : Result → Shared → Prop} {E : Value → Shared → Prop}
  {h₀ : Heap} {L a : Addr} {cn : Str} {cs : Scope} {ccd : Value} {cl : List (Str × Addr)} {body : List Stmt}
/-- a for over a tuple of the ledger, its iterator and all -/
theorem for_tuple {r : Addr} {items : Array Value} {x : Str} {px : Pos} {m₀ : Str → Option Value} {oT : Obj} {nT : Nat}
    (hh : A.handled = none) (hk : cs.kind = .function) (hx : (envX cn cs L a ccd cl).kindOf x = some .local)
    (rest news₀ : List (Addr × Obj)) (hm : (r, oT) ∈ rest) (hc : oT.cls = .type "tuple") (hd : oT.data = .seq items nT)
    (J : Addr → Nat → (Str → Option Value) → List (Addr × Obj) → Prop) (hJ : ∀ I i m news, J I i m news → ∀ p ∈ news, p.1 ≠ I)
    (turn : ∀ i v m news I oI h tk, i < items.size → (∀ p ∈ rest, @LT.lt Nat _ p.1 I) → items[i]? = some v → J I i m news → Fr h₀ L h (fun z => if z = x then some v else m z) → News h₀ L h (news ++ ((I, oI) :: rest)) →
      wpC (model prog w) A (execs body (envX cn cs L a ccd cl)) (TurnC h₀ L gn dr os (J I (i + 1)) ((I, oI) :: rest) R) (notedBy (model prog w) A (envX cn cs L a ccd cl) fun e s' => R (.error e) s') ⟨h, gn, dr, tk, os⟩)
    (done : ∀ I m news h tk, (∀ p ∈ rest, @LT.lt Nat _ p.1 I) → J I items.size m news → Fr h₀ L h m → News h₀ L h (news ++ rest) → R (.ok .next) ⟨h, gn, dr, tk, os⟩)
    (F : Fr h₀ L h m₀) (N : News h₀ L h (news₀ ++ rest)) (h0 : ∀ I, (∀ p ∈ news₀ ++ rest, @LT.lt Nat _ p.1 I) → J I 0 m₀ news₀) :
    wpAny (model prog w) A (pyIter (.ref r)) (fun it s₂ => codeC (model prog w) A (.forLoop (.Name x px) it body [] (envX cn cs L a ccd cl)) R s₂) E ⟨h, gn, dr, t, os⟩ := by
  have ht : h.IsTuple r items := ⟨oT, (N _ (List.mem_append_right _ hm)).1, hc, nT, hd⟩
  refine wpAny_pyIter_tuple (s := ⟨h, gn, dr, t, os⟩) ht ?_
  have F' := F.push ({ cls := .type "tuple_iterator", data := .fields #[.ref r, .int 0 0] } : Obj)
  have N' := N.push F ({ cls := .type "tuple_iterator", data := .fields #[.ref r, .int 0 0] } : Obj)
  have hit : (h.push { cls := .type "tuple_iterator", data := .fields #[.ref r, .int 0 0] }).IsTupleIter h.objs.size r 0 := ⟨_, Heap.get?_push_size _ rfl, rfl, rfl⟩
  have hlt : ∀ p ∈ news₀ ++ rest, @LT.lt Nat _ p.1 h.objs.size := fun p hp => Heap.lt_size (N p hp).1
  have hltr : ∀ p ∈ rest, @LT.lt Nat _ p.1 h.objs.size := fun p hp => hlt p (List.mem_append_right _ hp)
  have W := Walks.tuple (prog := prog) (w := w) hh h.objs.size r (Nat.ne_of_lt (hltr _ hm)) items
  refine codeC_for_walk W hk hx rest (fun b hb => ?_) (fun b hb => ?_) (fun i h st b hb => ?_) (fun p hp q => ?_) (J h.objs.size) (fun i m news j p hp q => ?_) ?_ (fun m news h tk => done _ m news h tk hltr) ⟨hit, ht.push _⟩ F' (fun p hp => N' p (.tail _ hp)) (h0 _ hlt)
  · rcases List.mem_cons.mp hb with rfl | hb
    · exact .inl (.head _)
    · rw [List.mem_singleton.mp hb]; exact .inr (.inl ⟨_, hm⟩)
  · rw [List.mem_singleton.mp hb]; exact (N' _ (.head _)).2
  · rw [List.mem_singleton.mp hb]; exact let ⟨⟨o, e, _⟩, _⟩ := st; ⟨o, e⟩
  · exact Nat.ne_of_lt (hltr p hp) (List.mem_singleton.mp q)
  · exact hJ _ _ _ _ j p hp (List.mem_singleton.mp q)
  · rintro i v m news own h2 tk hi hv how j F2 N2
    obtain ⟨⟨I, oI⟩, r1, rfl, ez, how1⟩ := List.map_eq_cons_iff.mp how
    obtain rfl := List.map_eq_nil_iff.mp how1
    replace ez : I = h.objs.size := ez
    subst ez
    exact turn i v m news _ oI h2 tk hi hltr hv j F2 N2
end
/-- the decoder in the ledger, ahead of a part that stands -/
inductive DecN (early : Int) (s : FS) (x d : Addr) (rest : List (Addr × Obj)) (I : Addr) (news : List (Addr × Obj)) : Prop
  | mk (t : Addr) (n k : Nat) (kh : Nat → Int × Tok) (te tm tw tl tf tb tn : Tok) (its : Array Value) (h1 : BA its s.ds.tab) (h2 : Ap3 x d t rest) (h3 : (@Ne Nat x I ∧ @Ne Nat d I ∧ @Ne Nat t I)) (h4 : news = [(x, instObj 121 d), (d, dictOf (decEs kh (.int early te) (.int 12 tm) (.bool s.ds.isd) (.bytes s.left.toArray tf) (.int s.bits tb) (.int s.many tn) (.int s.ds.width tw) (.ref t) (lastV s.ds.last tl)) n), (t, listOf its k)])
theorem Ap3.cons {x d t I : Addr} {oI : Obj} {rest : List (Addr × Obj)} (h : Ap3 x d t rest) (hI : @Ne Nat x I ∧ @Ne Nat d I ∧ @Ne Nat t I) : Ap3 x d t ((I, oI) :: rest) :=
  ⟨h.xd, h.xt, h.dt, fun p hp => (List.mem_cons.mp hp).elim (fun e => e ▸ Ne.symm hI.1) (h.rx p), fun p hp => (List.mem_cons.mp hp).elim (fun e => e ▸ Ne.symm hI.2.1) (h.rd p), fun p hp => (List.mem_cons.mp hp).elim (fun e => e ▸ Ne.symm hI.2.2) (h.rt p)⟩
theorem Ap3.uncons {x d t I : Addr} {oI : Obj} {rest : List (Addr × Obj)} (h : Ap3 x d t ((I, oI) :: rest)) : Ap3 x d t rest ∧ (@Ne Nat x I ∧ @Ne Nat d I ∧ @Ne Nat t I) :=
  ⟨⟨h.xd, h.xt, h.dt, fun p hp => h.rx p (.tail _ hp), fun p hp => h.rd p (.tail _ hp), fun p hp => h.rt p (.tail _ hp)⟩, Ne.symm (h.rx _ (.head _)), Ne.symm (h.rd _ (.head _)), Ne.symm (h.rt _ (.head _))⟩
theorem DecN.keys {early : Int} {s : FS} {x d : Addr} {rest : List (Addr × Obj)} {I : Addr} {news : List (Addr × Obj)} (h : DecN early s x d rest I news) : ∀ p ∈ news, p.1 ≠ I := by
  obtain ⟨t, n, k, kh, te, tm, tw, tl, tf, tb, tn, its, _, _, ⟨a, b, c⟩, rfl⟩ := h
  intro p hp
  simp only [List.mem_cons, List.not_mem_nil, or_false] at hp
  rcases hp with rfl | rfl | rfl
  · exact a
  · exact b
  · exact c
theorem DecL.toN {early : Int} {s : FS} {x d : Addr} {rest : List (Addr × Obj)} {I : Addr} {oI : Obj} {news : List (Addr × Obj)} (h : DecL early s x d ((I, oI) :: rest) news) : ∃ news', news = news' ++ ((I, oI) :: rest) ∧ DecN early s x d rest I news' := by
  obtain ⟨t, n, k, kh, te, tm, tw, tl, tf, tb, tn, its, hb, ha, rfl⟩ := h
  exact ⟨_, rfl, t, n, k, kh, te, tm, tw, tl, tf, tb, tn, its, hb, ha.uncons.1, ha.uncons.2, rfl⟩
/-- what holds between the pieces -/
inductive pieceJ (early : Int) (x d : Addr) (due : Value) (behind : List UInt8) (tb : Tok) (rest : List (Addr × Obj)) (ps : Nat → List UInt8) (I : Addr) (i : Nat) (m : Str → Option Value) (news : List (Addr × Obj)) : Prop
  | mk (s : FS) (F : List UInt8) (tF : Tok) (h1 : m (Str.ofString "coder") = some (.ref x)) (h2 : m (Str.ofString "found") = some (.bytes F.toArray tF)) (h3 : m (Str.ofString "due") = some due) (h4 : m (Str.ofString "behind") = some (.bytes behind.toArray tb)) (h5 : feedM early initF (ps i) = some { s with ds := { s.ds with found := F } }) (h6 : DecN early s x d rest I news)
end
theorem reg_PLTold : True := by
  k_with_none
  (k_with "L om" => first | with_reducible assumption | (with_reducible refine Ne.symm ?_; assumption) | ((with_reducible refine low1 (by assumption) ?_); exact rfl) | ((with_reducible refine low2 (by assumption) ?_); exact rfl) | ((with_reducible refine low7 (by assumption) ?_); exact rfl) | with_reducible exact low8 (by assumption) | ((with_reducible refine low3 (by assumption) ?_); exact rfl) | ((with_reducible refine low4 (by assumption) ?_); exact rfl) | with_reducible exact low5 (by assumption) | with_reducible exact low6 (by assumption) | with_reducible exact And.left (by assumption) | with_reducible exact And.right (by assumption) | with_reducible exact And.intro (by assumption) (by assumption) | ((with_reducible refine low9 (by assumption) ?_); exact rfl) | ((with_reducible refine low10 (by assumption) ?_); exact rfl) | ((with_reducible refine low12 (by assumption) ?_); exact rfl) | with_reducible exact Nat.le_succ_of_le (by assumption) | with_reducible exact Nat.add_le_add (by assumption) (Nat.min_le_left _ _) | ((with_reducible refine low16 (by assumption) (by assumption) ?_); exact rfl) | with_reducible exact low17 (by assumption) (by assumption) | with_reducible exact low18 (by assumption) | with_reducible exact low19 (by assumption) (by assumption) | with_reducible exact low20 (by assumption) | with_reducible exact And.intro (Int.emod_nonneg _ (by decide)) (Int.emod_lt_of_pos _ (by decide)) | ((with_reducible refine low21 (by assumption) ?_); exact rfl) | ((with_reducible refine low22 (by assumption) ?_); exact rfl) | with_reducible exact low6 (And.left (by assumption)) | with_reducible exact low6 (And.left (And.right (by assumption))) | with_reducible exact low6 (And.left (And.right (And.right (by assumption)))) | with_reducible exact low6 (And.left (And.right (And.right (And.right (by assumption))))) | with_reducible exact low6 (And.right (by assumption)) | lia | with_reducible contradiction)
  (k_with "L my putL" => first | with_reducible exact putL_d4 | with_reducible exact putL_d5 | with_reducible exact putL_d6 | with_reducible exact putL_d7 | with_reducible exact putL_d8 | with_reducible exact putL_d2 | with_reducible exact putL_d3 | (refine' putL_hd ?xZ; (case xZ => decide +kernel)) | (refine' putL_tl ?xZ ?yZ; (case xZ => decide +kernel); (case yZ => k_extra "L my putL")))
  (k_with "L my putN" => first | with_reducible exact putN_d4 | with_reducible exact putN_d5 | with_reducible exact putN_d6 | with_reducible exact putN_d7 | with_reducible exact putN_d8 | with_reducible exact putN_d2 | with_reducible exact putN_d3 | (refine' putN_hd ?xZ; (case xZ => decide +kernel)) | (refine' putN_tl ?xZ ?yZ; (case xZ => decide +kernel); (case yZ => k_extra "L my putN")))
  (k_with "L all" => first | assumption | exact allLt_ne (by assumption) | exact allLt_ne (And.right (by assumption)) | exact allLt_ne (And.right (And.right (by assumption))) | exact allLt_ne (And.right (And.right (And.right (by assumption)))))
  (k_with "L room" => ((try simp only [depth_under_make, depth_under_kw, depth_in1, depth_deeper, depth_caller]); (try dsimp only [ktrTop]); omega))
  (k_with "L execs cons" => (refine r_consL ?_; intro _))
  (k_with "L execs nil" => refine wpAny_execs_nil ?_)
  (k_with "L exec If" => refine wpAny_If ?_)
  (k_with "L eval Constant int" => refine r_int ?_)
  (k_with "L eval Constant bytes" => refine r_bytes ?_)
  (k_with "L eval Constant str" => refine r_str ?_)
  (k_with "L binaryOp Add int int" => refine r_add ?_)
  (k_with "L binaryOp Sub int int" => refine r_sub ?_)
  (k_with "L binaryOp BitAnd int int" => refine r_and ?_)
  (k_with "L binaryOp BitOr int int" => refine r_or ?_)
  (k_with "L binaryOp RShift int int" => (refine' r_shr ?aZ ?_; (case aZ => omega)))
  (k_with "L binaryOp Mod int int" => (refine' r_mod ?aZ ?_; (case aZ => omega)))
  (k_with "L binaryOp LShift int int" => first | with_reducible refine r_shl09 ?_ | with_reducible refine r_shl10 ?_ | with_reducible refine r_shl12 ?_ | with_reducible refine r_shl28 ?_ | (refine' r_shl ?aZ ?bZ ?cZ ?_; (case aZ | bZ | cZ => omega)))
  (k_with "L call builtin:len" => ( (with_reducible show wpAny _ _ (call (Value.builtin "len") [Value.ref _]) _ _ _); refine' r_len ?NZ ?mZ ?zZ ?_; (case NZ => k_asm); (case mZ => k_mem); (case zZ => first | omega | (simp only [List.size_toArray, Array.size_push] at *; omega))))
  (k_with "L getAttr ref" => (k_here; k_dflt ( refine' r_getattr ?k1Z ?k2Z ?k3Z ?k4Z ?k5Z ?k6Z ?k7Z ?k8Z ?k9Z ?_; (case k1Z | k2Z => k_asm); (case k3Z => k_inst); (case k4Z | k5Z | k6Z | k7Z => k_is); (case k8Z => k_get); (case k9Z => k_handed); k_whole)))
  (k_with "L setAttr ref" => (k_here; k_dflt (first | (refine' r_setattr ?k1Z ?k2Z ?k3Z ?k4Z ?k5Z ?k6Z ?k7Z ?k8Z ?k9Z ?k10Z ?k11Z ?k11bZ ?k12Z ?k13Z ?_; (case k1Z | k2Z | k3Z => k_asm); (case k4Z => k_inst); (case k5Z => exact rfl); (case k6Z | k7Z | k8Z | k9Z => k_is); (case k10Z => k_get); (case k11Z => (intro _; k_extra "L my putL")); (case k11bZ => k_extra "L my putN"); (case k12Z => k_upd); (case k13Z => exact Nat.le_of_ble_eq_true rfl); k_whole; intro _ _ _ _; (try k_sweep)) | (refine' r_newattr ?k1Z ?k2Z ?k3Z ?k4Z ?k5Z ?k6Z ?k7Z ?k8Z ?k9Z ?k10Z ?k11Z ?k12Z ?k13Z ?_; (case k1Z | k2Z | k3Z => k_asm); (case k4Z => k_inst); (case k5Z => exact rfl); (case k6Z | k7Z | k8Z | k9Z => k_is); (case k10Z => k_get); (case k11Z => exact rfl); (case k12Z => exact Nat.le_of_ble_eq_true rfl); (case k13Z => k_updF); k_whole; intro _ _ _ _ _ N'; (dsimp only [List.cons_append, List.nil_append] at N'); (try (revert N'; intro _)); (try k_sweep)))))
  (k_with "L storeName" => (k_here; k_dflt ( refine' r_store ?k1Z ?k2Z ?k3Z ?k4Z ?_; (case k1Z | k2Z => k_asm); (case k3Z | k4Z => rfl); k_whole; intro _ _ _ _; (try k_sweep))))
  (k_with "L newList" => (k_here; k_dflt (refine' r_newList ?k1Z ?k2Z ?k3Z ?_; (case k1Z | k2Z => k_asm); (case k3Z => exact Nat.le_of_ble_eq_true rfl); k_whole); intro _ _ _ _ l1; (try k_lt l1); (try (revert l1; intro _)); (try k_sweep)))
  (k_with "L call builtin:list.append" => (k_here; (with_reducible show wpAny _ _ (call (Value.builtin _) [Value.ref _, _]) _ _ _); k_dflt (refine' r_append ?k1Z ?k2Z ?k3Z ?zZ ?_; (case k1Z | k2Z => k_asm); (case k3Z => k_upd); (case zZ => first | omega | (simp only [List.size_toArray, Array.size_push] at *; omega)); k_whole); intro _ _ _; (try k_sweep)))
  (k_with "L my enter" => (refine' r_enter ?k1Z ?k2Z ?k3Z ?k4Z ?k5Z ?kAZ ?kFZ ?kKZ ?k6Z ?k7Z ?k8Z ?k9Z ?kBZ ?_ ?c2Z ?c3Z ?c4Z ?c5Z; (case kAZ | kFZ => exact rfl); (case kKZ => first | assumption | exact rfl); (case k1Z | k2Z | k3Z | k4Z | k5Z => k_asm); (case k6Z | k7Z => k_is); (case k8Z => k_room); (case k9Z => first | exact BindsTo.of_eq rfl | exact binds_K (by k_in) rfl (by k_is) rfl rfl rfl); (case c5Z => decide); (case kBZ => exact locs rfl); (case c2Z | c3Z | c4Z => exact rfl); k_whole; intro _ _ _ _ _ _ _ _ _ _; (try dsimp only); (try k_fold)))
  (k_with "L my class" => (refine' call_cls ?k1Z ?k2Z ?k3Z ?k4Z ?k5Z ?k6Z ?_; (case k1Z | k2Z | k3Z => k_asm); (case k4Z | k5Z | k6Z => k_is); k_whole; intro _ _ _ _ _ l1 l2; (try k_lt l1); (try (revert l1; intro _)); (try k_lt2 l2); (try (revert l2; intro _)); (try k_sweep); k_extra "L my enter"))
  (k_with "L call ref" => (k_here; k_dflt (first | k_extra "L my class" | (refine wpAny_call ?_; k_extra "L my enter"))))
  (k_with "L my sub" => first | exact mem_all | (refine List.forall_mem_cons.mpr ⟨?_, ?_⟩; (k_mem); k_extra "L my sub") | exact List.forall_mem_nil _ | (refine mem_step ?_; k_extra "L my sub"))
  (k_with "L my blen" => first | k_extra "L om" | exact Nat.zero_le _ | ((simp only [List.length_append, List.length_cons, List.length_nil, List.length_take, List.length_drop]); omega) | omega | exact Nat.le_trans (cut_length _ _ _) (by omega) | (simp only [List.length_append, List.length_cons, List.length_nil, List.length_take, List.length_drop]; omega))
  (k_with "L binaryOp Add bytes bytes" => (refine' r_badd ?zZ ?z2Z ?_; (case zZ | z2Z => k_extra "L my blen"); intro _ _))
  (k_with "L compareOp Eq bytes bytes" => refine r_beq ?_)
  (k_with "L subscriptTail" => (k_here; (with_reducible show wpAny _ _ (subscriptTail _ (Expr.Slice _ _ none _) (Value.bytes _ _) (Value.ref _)) _ _ _); k_dflt (refine' r_slice ?FZ ?NZ ?lZ ?uZ ?zZ ?_ ?sZ ?tZ; (case FZ | NZ => k_asm); (case lZ | uZ => constructor); (case zZ => omega); (case sZ => with_unfolding_all rfl); (case tZ => intro _; with_unfolding_all rfl)); intro _ _ _ _ _; (try k_sweep)))
  (k_with "L subscriptTail" => (k_here; (with_reducible show wpAny _ _ (subscriptTail _ _ (Value.ref _) (Value.int _ _)) _ _ _); k_dflt (refine' r_item ?NZ ?mZ ?aZ ?bZ ?xZ ?_ ?sZ ?tZ; (case NZ => k_asm); (case mZ => k_mem); (case aZ | bZ => omega); (case xZ => first | assumption | rfl); (case sZ => with_unfolding_all rfl); (case tZ => intro _; with_unfolding_all rfl))))
  (k_with "L my ev" => first | ((with_reducible show Ev _ _ _ _ _ _ _ (Expr.Constant _ _ _) _ _ _); first | exact ev_int | (intro _ _ Hx; walk1; with_reducible exact Hx)) | ((with_reducible show Ev _ _ _ _ _ _ _ (Expr.Name _ _) _ _ _); first | (refine' ev_L ?FZ ?vZ ?aZ ?bZ ?dZ; (case FZ => k_asm); (case aZ | bZ => rfl); (case dZ => decide); (case vZ => rfl)) | (intro _ _ Hx; walk1; with_reducible exact Hx)) | ((with_reducible show Ev _ _ _ _ _ _ _ (Expr.Attribute _ _ _) _ _ _); refine' ev_attr ?k1Z ?k2Z ?vZ ?k3Z ?k4Z ?k5Z ?k6Z ?k7Z ?k8Z ?k9Z ?aZ ?bZ ?dZ; (case k1Z | k2Z => k_asm); (case aZ | bZ => rfl); (case dZ => decide); (case vZ => rfl); (case k3Z => k_inst); (case k4Z | k5Z | k6Z | k7Z => k_is); (case k8Z => k_get); (case k9Z => k_handed)) | ((with_reducible show Ev _ _ _ _ _ _ _ (Expr.BinOp _ _ _ _) _ _ _); refine' ev_bin ?lZ ?rZ ?oZ; (case lZ | rZ => k_extra "L my ev"); (case oZ => (intro _ _ Hx; walk1; with_reducible exact Hx))) | ((with_reducible show Ev _ _ _ _ _ _ _ (Expr.Call (Expr.Name (Str.ofString "len") _) [_] [] _) _ _ _); intro _ _ Hx; (repeat walk1); with_reducible exact Hx))
  (k_with "L eval BinOp" => (k_here; k_dflt (refine' ev_use ?hZ ?_; (case hZ => k_extra "L my ev"); k_whole)))
  (k_with "L eval Attribute Name" => (k_here; k_dflt (refine' ev_use ?hZ ?_; (case hZ => k_extra "L my ev"); k_whole)))
  (k_with "L isTrue Compare" => (k_here; k_dflt (refine' ev_isTrue ?lZ ?rZ ?oZ ?mZ ?_; (case lZ | rZ => k_extra "L my ev"); (case oZ => (intro _ _ Hx; walk1; with_reducible exact Hx)); (case mZ => with_unfolding_all rfl); k_whole)))
  (k_with "L call ref" => (k_here; (with_reducible show wpAny _ _ (call (Value.ref 45) _) _ _ _); refine' r_excMake ?k1Z ?k2Z ?k3Z ?k4Z ?k5Z ?k6Z ?k7Z ?_; (case k1Z | k2Z | k3Z => k_asm); (case k4Z => exact Nat.le_of_ble_eq_true rfl); (case k5Z => kernel_rfl); (case k6Z | k7Z => k_is); k_whole; intro _ _ _ _ _ l1; (try k_lt l1); (try (revert l1; intro _)); (try k_sweep); k_extra "L my enter"))
  (k_with "L setAttr ref" => (k_here; (with_reducible show wpAny _ _ (setAttr _ "told" (Value.bytes _ _)) _ _ _); refine' r_excSet ?k1Z ?k2Z ?k3Z ?k4Z ?_; (case k1Z | k2Z | k3Z => k_asm); (case k4Z => k_updF); k_whole; intro _ _ _ _ _ _ _ l1; (try k_lt l1); (try (revert l1; intro _)); (try k_sweep)))
  (k_with "L Inst45" => (k_here; k_dflt (refine' ⟨_, _, _, rfl, ?aZ, ?cZ, ?dZ, ?eZ, ?bZ, ?_⟩; (case aZ => exact (News.get (by k_asm) (by k_mem))); (case cZ | dZ | eZ => exact rfl); (case bZ => exact Frag.In.keeps (by k_asm) (Fr.keep (by k_asm))); k_whole)))
  (k_with "L exec Raise some none" => (k_here; k_dflt (refine' r_raise ?aZ ?_; (case aZ => rfl); k_whole)))
  (k_with "L my nes" => first | exact List.forall_mem_nil _ | k_all | (refine List.forall_mem_cons.mpr ⟨?_, ?_⟩; (show @Ne Nat _ _; omega); k_extra "L my nes"))
  (k_with "L leaving ref" => (k_here; (rename Gone _ _ _ _ _ => gX); (rename Heap.UpToSlots _ _ => uX); k_dflt (refine' leave_more ?KZ ?FZ ?fZ ?RZ ?UZ ?_; (case KZ => assumption); (case RZ => exact gX); (case UZ => exact uX); (case FZ => assumption); (case fZ => exact rfl); k_whole); (try clear gX uX); intro _ _ _))
  (k_with "L leaving ref" => (k_here; k_dflt (refine' leave_first ?KZ ?FZ ?fZ ?kZ ?NZ ?aZ ?bZ ?_; (case KZ | FZ => assumption); (case fZ | kZ => exact rfl); (case NZ => assumption); (case aZ => k_extra "L my nes"); (case bZ => (show @Ne Nat _ _; omega)); k_whole); intro _ _ _))
  (k_with "L c enter" => (refine' c_enter ?k1Z ?k2Z ?k3Z ?k4Z ?k5Z ?kAZ ?kFZ ?kKZ ?k6Z ?k7Z ?k8Z ?k9Z ?kBZ ?_ ?c2Z ?c3Z ?c4Z ?c5Z; (case kAZ | kFZ => exact rfl); (case kKZ => first | assumption | exact rfl); (case k1Z | k2Z | k3Z | k4Z | k5Z => k_asm); (case k6Z | k7Z => k_is); (case k8Z => k_room); (case k9Z => first | exact BindsTo.of_eq rfl | exact binds_K (by k_in) rfl (by k_is) rfl rfl rfl); (case c5Z => decide); (case kBZ => exact locs rfl); (case c2Z | c3Z | c4Z => exact rfl); k_whole; intro _ _ _ _ _ _ _ _ _ _; (try dsimp only)))
  (k_with "L keep at" => first | ((with_reducible show KeepAt _ (Value.ref _) _); refine keep_ref (by k_in) (by k_is)) | exact keep_append | exact keep_extend | exact keep_bytearray | exact ⟨.machine, .inr (.inl rfl), Looks.of_pure (by kernel_rfl)⟩)
  (k_with "L c call" => ( (with_reducible show wpC _ _ (call (Value.builtin "bytearray.append") [Value.ref _, Value.int _ _]) _ _ _); k_dflt (refine' c_append ?k1Z ?k2Z ?k3Z ?k4Z ?k5Z ?zZ ?_; (case k1Z | k2Z => k_asm); (case k3Z => k_upd); (case k4Z | k5Z => omega); (case zZ => k_extra "L my blen"); k_whole); intro _ _ _; (try k_sweep)))
  (k_with "L c call" => ( (with_reducible show wpC _ _ (call (Value.builtin "bytearray.extend") [Value.ref _, Value.bytes _ _]) _ _ _); k_dflt (refine' c_extend ?k1Z ?k2Z ?k3Z ?zZ ?_; (case k1Z | k2Z => k_asm); (case k3Z => k_upd); (case zZ => k_extra "L my blen"); k_whole); intro _ _ _; (try k_sweep)))
  (k_with "L c call" => ( (with_reducible show wpC _ _ (call (Value.type "bytearray") []) _ _ _); k_dflt (refine' c_new ?k1Z ?k2Z ?_; (case k1Z | k2Z => k_asm); k_whole); intro _ _ _ _ l1; (try k_lt l1); (try (revert l1; intro _)); (try k_sweep)))
  (k_with "L getMethod ref" => (k_here; (with_reducible show wpAny _ _ (getMethod (Value.ref _) (PySem.Str.ofString "extend") _) _ _ _); k_dflt (refine' (meth_extend ?xZ).here ?_; (case xZ => exact (News.get (by k_asm) (by k_mem))); k_whole)))
  (k_with "L getMethod ref" => (k_here; (with_reducible show wpAny _ _ (getMethod (Value.ref _) (PySem.Str.ofString "append") _) _ _ _); k_dflt (refine' (meth_append ?xZ).here ?_; (case xZ => exact (News.get (by k_asm) (by k_mem))); k_whole)))
  (k_with "L harm" => fail "no harm")
  (k_with "L cw" => first | ((with_reducible refine c_consL ?_); intro _) | with_reducible refine c_nil ?_ | k_extra "L harm" | with_reducible refine c_If ?_ | ((with_reducible show wpC _ _ (isTrue (Expr.Compare (Expr.Call _ _ _ _) _ _ _) _ _) _ _ _); refine c_isTrue ?_) | with_reducible refine ofA_isTrue ?_ | ((with_reducible show wpC _ _ (exec (Stmt.Expr (Expr.Call _ _ _ _) _) _) _ _ _); refine c_Expr ?_) | with_reducible refine c_Assign ?_ | ((with_reducible show wpC _ _ (exec (Stmt.Assign [Expr.Attribute _ _ _] (Expr.Call _ _ _ _) _) _) _ _ _); refine c_AssignA ?_) | with_reducible refine c_Return ?_ | with_reducible refine ofA_exec ?_ | with_reducible refine c_Meth ?_ | with_reducible refine c_Call ?_ | ((with_reducible show wpC _ _ (eval (Expr.BinOp _ _ _ _) _) _ _ _); k_dflt (refine' ofA_eval (ev_use ?hZ ?_); (case hZ => k_extra "L my ev"); k_whole)) | with_reducible refine c_BinOp ?_ | with_reducible refine c_Compare ?_ | with_reducible refine c_And ?_ | with_reducible refine c_And1 ?_ | with_reducible refine ofA_eval ?_ | with_reducible refine c_args ?_ | with_reducible refine c_args0 ?_ | with_reducible refine c_with1 ?_ | ((with_reducible show wpC _ _ (callWith _ _ _ _ _) _ _ _); refine c_with0 (by k_extra "L keep at") ?_) | ((with_reducible show KeepAt _ _ _ ∧ _); refine ⟨by k_extra "L keep at", ?_⟩; (try dsimp only [List.cons_append, List.nil_append])) | k_extra "L c call" | with_reducible refine ofA_call ?_ | with_reducible refine c_ite1 (by assumption) ?_ | with_reducible refine c_ite0 (by assumption) ?_)
  (k_with "L c steps" => repeat' (first | ((with_reducible show wpAny _ _ _ _ _ _); walk1) | k_extra "L cw" | (k_unfold; (try dsimp only)) | ((show (_ : Flow → Shared → Prop) _ _); k_unfold; (try dsimp only)) | (k_end; wrow_close) | walk1 | (dsimp only; walk1) | (leave1; try dsimp only) | (dsimp only; k_extra "L cw") | fail "no step"))
  (k_with "L c call" => ( (with_reducible show wpC _ _ (call (Value.type "enumerate") [Value.bytes _ _]) _ _ _); k_dflt (refine' wpC_of_any (r_enumB ?k1Z ?k2Z ?_); (case k1Z | k2Z => k_asm); k_whole); intro _ _ _ _ _ l1 l2; (try k_lt l1); (try (revert l1; intro _)); (try k_lt2 l2); (try (revert l2; intro _)); (try k_sweep)))
  (k_with "L call type:bytes" => ((with_reducible show wpAny _ _ (call (Value.type "bytes") [Value.bytes _ _]) _ _ _); refine r_bytesB ?_))
  (k_with "L call type:bytes" => ((with_reducible show wpAny _ _ (call (Value.type "bytes") [Value.ref _]) _ _ _); k_dflt (refine' r_bytesBa ?aZ ?zZ ?_; (case aZ => exact (News.get (by k_asm) (by k_mem))); (case zZ => k_extra "L my blen"); k_whole); intro _ _))
  (k_with "L harm" => first | ((with_reducible show wpC _ _ (exec (Stmt.For _ _ _ [] _) _) _ _ _); refine c_For ?_) | ((with_reducible show wpC _ _ (pyIter _) _ _ _); refine wpC_of_any ?_))
  (k_with "L harm" => first | ((with_reducible show wpC _ _ (exec (Stmt.For _ _ _ [] _) _) _ _ _); refine c_For ?_) | ((with_reducible show wpC _ _ (exec (Stmt.While _ _ [] _) _) _ _ _); refine c_WhileR ?_) | ((with_reducible show codeC _ _ (Code.whileLoop _ _ [] _) _ _); refine codeC_while1 ?_) | ((with_reducible show LoopR _ _ _ _ _ _ _ _); dsimp only [LoopR]) | ((with_reducible show wpC _ _ (pyIter _) _ _ _); refine wpC_of_any ?_))
  (k_with "L harm" => ((with_reducible show wpC _ _ (exec (Stmt.Try _ (_ :: _) [] [] _) _) _ _ _); refine c_Try ?_))
  (k_with "L c enterC" => (refine' c_enterC ?k1Z ?k2Z ?k3Z ?k4Z ?k5Z ?kAZ ?kFZ ?kKZ ?k6Z ?k7Z ?k8Z ?k9Z ?kBZ ?_ ?c2Z ?c3Z ?c4Z ?c5Z; (case kAZ | kFZ => exact rfl); (case kKZ => first | assumption | exact rfl); (case k1Z | k2Z | k3Z | k4Z | k5Z => k_asm); (case k6Z | k7Z => k_is); (case k8Z => k_room); (case k9Z => first | exact BindsTo.of_eq rfl | exact binds_K (by k_in) rfl (by k_is) rfl rfl rfl); (case c5Z => decide); (case kBZ => exact locs rfl); (case c2Z | c3Z | c4Z => exact rfl); k_whole; intro _ _ _ _ _ _ _ _ _ _ _; (try dsimp only)))
  (k_with "L getAttr ref" => (k_here; (with_reducible show wpAny _ _ (getAttr (Value.ref _) (PySem.Str.ofString "told") _) _ _ _); refine' r_excGet ?k1Z ?k2Z ?k3Z ?k4Z ?k5Z ?k6Z ?k7Z ?_; (case k1Z | k2Z => k_asm); (case k3Z => exact (News.get (by k_asm) (by k_mem))); (case k4Z | k5Z | k6Z => assumption); (case k7Z => exact (News.get (by k_asm) (by k_mem))); k_whole; intro _))
  trivial
theorem reg_LTold0 : True := by
  (k_with "L c call" => ((with_reducible show wpC _ _ (call (Value.ref _) _) _ _ _); refine goC ?_; intro _))
  trivial
theorem ltold_ok (w : World) (loose : List Str) (mean : ExcName → Option Value) (mg mb : Str → Option Value)
    (early : Int) (octets : List UInt8) (tko te : Tok) (rest : List (Addr × Obj)) (he : 0 ≤ early ∧ early ≤ 1) (hk : octets.length ≤ 300) :
    CallT w loose mean mg mb 20 (.ref 241) [.bytes octets.toArray tko, .int early te] rest
      (fun r news' => ((∃ out tk, decodeM early octets = some out ∧ r = .bytes out.toArray tk) ∨ (decodeM early octets = none ∧ r = .none)) ∧ news' = rest) := by
  unfold CallT
  intro dp un gd cn cs a ccd cl A₀ h₀ L m s Q E
  k_fill
  obtain ⟨hp', gn, dr, tk0, os⟩ := s
  intro B F X N T hkk hd hu hret
  refine wpC_call ?_
  k_dflt (walk_at "c enterC")
  rename_i gF LF hF0 tF FGF FF NF BF XF TF SF
  walk_at "c steps"
  refine StopAt.mk ?_
  refine' CallC.at (dec_ok w loose mean mg mb early octets tko te rest he hk) BF (by assumption) XF (by assumption) TF rfl (by omega) (by omega) ?ret ?exc
  case ret =>
    rintro r n' h' tk' F' N' ⟨out, tkr, hs', rfl, rfl⟩
    walk_at "c steps"
    exact ⟨gF, LF, _, _, SF, FGF.ns, by assumption, by assumption, fun F9 N9 => hret _ _ _ _ F9 N9 ⟨.inl ⟨out, tkr, hs', rfl⟩, rfl⟩⟩
  case exc =>
    rintro e' g2 n' h' tk' F' U' G' ⟨hn, rfl⟩
    refine note_gone rfl rfl G' fun h2 G2 U2 => ?_
    refine caught_noted BF F' (U'.trans U2) G2 X T (by kernel_rfl) (fun g h3 dx oe hs tk tv vs tk2 St Bg og Fg Ng hcls hdict hdata => ?_) rfl rfl rfl
    have nsg : g.Ns L m := ns_slots FGF.ns fun o q nf => og L (by simp) o q nf
    have Xg := X.keeps St
    have Tg := T.keeps St
    clear FF NF
    k_steps
    (try dsimp only)
    refine r_goes (by assumption) (by assumption) rfl rfl fun h5 m5 t5 F5 N5 => ?_
    exact ⟨g, LF, _, _, St, nsg, F5, News.sub N5 (fun p hp => .tail _ (.tail _ hp)), fun F9 N9 => hret _ _ _ _ F9 N9 ⟨.inr ⟨hn, rfl⟩, rfl⟩⟩
theorem reg_PLToldS : True := by
  k_with_none
  (k_with "L om" => first | with_reducible assumption | (with_reducible refine Ne.symm ?_; assumption) | ((with_reducible refine low1 (by assumption) ?_); exact rfl) | ((with_reducible refine low2 (by assumption) ?_); exact rfl) | ((with_reducible refine low7 (by assumption) ?_); exact rfl) | with_reducible exact low8 (by assumption) | ((with_reducible refine low3 (by assumption) ?_); exact rfl) | ((with_reducible refine low4 (by assumption) ?_); exact rfl) | with_reducible exact low5 (by assumption) | with_reducible exact low6 (by assumption) | with_reducible exact And.left (by assumption) | with_reducible exact And.right (by assumption) | with_reducible exact And.intro (by assumption) (by assumption) | ((with_reducible refine low9 (by assumption) ?_); exact rfl) | ((with_reducible refine low10 (by assumption) ?_); exact rfl) | ((with_reducible refine low12 (by assumption) ?_); exact rfl) | with_reducible exact Nat.le_succ_of_le (by assumption) | with_reducible exact Nat.add_le_add (by assumption) (Nat.min_le_left _ _) | ((with_reducible refine low16 (by assumption) (by assumption) ?_); exact rfl) | with_reducible exact low17 (by assumption) (by assumption) | with_reducible exact low18 (by assumption) | with_reducible exact low19 (by assumption) (by assumption) | with_reducible exact low20 (by assumption) | with_reducible exact And.intro (Int.emod_nonneg _ (by decide)) (Int.emod_lt_of_pos _ (by decide)) | ((with_reducible refine low21 (by assumption) ?_); exact rfl) | ((with_reducible refine low22 (by assumption) ?_); exact rfl) | with_reducible exact low6 (And.left (by assumption)) | with_reducible exact low6 (And.left (And.right (by assumption))) | with_reducible exact low6 (And.left (And.right (And.right (by assumption)))) | with_reducible exact low6 (And.left (And.right (And.right (And.right (by assumption))))) | with_reducible exact low6 (And.right (by assumption)) | lia | with_reducible contradiction)
  (k_with "L my putL" => first | with_reducible exact putL_d4 | with_reducible exact putL_d5 | with_reducible exact putL_d6 | with_reducible exact putL_d7 | with_reducible exact putL_d8 | with_reducible exact putL_d2 | with_reducible exact putL_d3 | (refine' putL_hd ?xZ; (case xZ => decide +kernel)) | (refine' putL_tl ?xZ ?yZ; (case xZ => decide +kernel); (case yZ => k_extra "L my putL")))
  (k_with "L my putN" => first | with_reducible exact putN_d4 | with_reducible exact putN_d5 | with_reducible exact putN_d6 | with_reducible exact putN_d7 | with_reducible exact putN_d8 | with_reducible exact putN_d2 | with_reducible exact putN_d3 | (refine' putN_hd ?xZ; (case xZ => decide +kernel)) | (refine' putN_tl ?xZ ?yZ; (case xZ => decide +kernel); (case yZ => k_extra "L my putN")))
  (k_with "L all" => first | assumption | exact allLt_ne (by assumption) | exact allLt_ne (And.right (by assumption)) | exact allLt_ne (And.right (And.right (by assumption))) | exact allLt_ne (And.right (And.right (And.right (by assumption)))))
  (k_with "L room" => ((try simp only [depth_under_make, depth_under_kw, depth_in1, depth_deeper, depth_caller]); (try dsimp only [ktrTop]); omega))
  (k_with "L execs cons" => (refine r_consL ?_; intro _))
  (k_with "L execs nil" => refine wpAny_execs_nil ?_)
  (k_with "L exec If" => refine wpAny_If ?_)
  (k_with "L eval Constant int" => refine r_int ?_)
  (k_with "L eval Constant bytes" => refine r_bytes ?_)
  (k_with "L eval Constant str" => refine r_str ?_)
  (k_with "L binaryOp Add int int" => refine r_add ?_)
  (k_with "L binaryOp Sub int int" => refine r_sub ?_)
  (k_with "L binaryOp BitAnd int int" => refine r_and ?_)
  (k_with "L binaryOp BitOr int int" => refine r_or ?_)
  (k_with "L binaryOp RShift int int" => (refine' r_shr ?aZ ?_; (case aZ => omega)))
  (k_with "L binaryOp Mod int int" => (refine' r_mod ?aZ ?_; (case aZ => omega)))
  (k_with "L binaryOp LShift int int" => first | with_reducible refine r_shl09 ?_ | with_reducible refine r_shl10 ?_ | with_reducible refine r_shl12 ?_ | with_reducible refine r_shl28 ?_ | (refine' r_shl ?aZ ?bZ ?cZ ?_; (case aZ | bZ | cZ => omega)))
  (k_with "L call builtin:len" => ( (with_reducible show wpAny _ _ (call (Value.builtin "len") [Value.ref _]) _ _ _); refine' r_len ?NZ ?mZ ?zZ ?_; (case NZ => k_asm); (case mZ => k_mem); (case zZ => first | omega | (simp only [List.size_toArray, Array.size_push] at *; omega))))
  (k_with "L getAttr ref" => (k_here; k_dflt ( refine' r_getattr ?k1Z ?k2Z ?k3Z ?k4Z ?k5Z ?k6Z ?k7Z ?k8Z ?k9Z ?_; (case k1Z | k2Z => k_asm); (case k3Z => k_inst); (case k4Z | k5Z | k6Z | k7Z => k_is); (case k8Z => k_get); (case k9Z => k_handed); k_whole)))
  (k_with "L setAttr ref" => (k_here; k_dflt (first | (refine' r_setattr ?k1Z ?k2Z ?k3Z ?k4Z ?k5Z ?k6Z ?k7Z ?k8Z ?k9Z ?k10Z ?k11Z ?k11bZ ?k12Z ?k13Z ?_; (case k1Z | k2Z | k3Z => k_asm); (case k4Z => k_inst); (case k5Z => exact rfl); (case k6Z | k7Z | k8Z | k9Z => k_is); (case k10Z => k_get); (case k11Z => (intro _; k_extra "L my putL")); (case k11bZ => k_extra "L my putN"); (case k12Z => k_upd); (case k13Z => exact Nat.le_of_ble_eq_true rfl); k_whole; intro _ _ _ _; (try k_sweep)) | (refine' r_newattr ?k1Z ?k2Z ?k3Z ?k4Z ?k5Z ?k6Z ?k7Z ?k8Z ?k9Z ?k10Z ?k11Z ?k12Z ?k13Z ?_; (case k1Z | k2Z | k3Z => k_asm); (case k4Z => k_inst); (case k5Z => exact rfl); (case k6Z | k7Z | k8Z | k9Z => k_is); (case k10Z => k_get); (case k11Z => exact rfl); (case k12Z => exact Nat.le_of_ble_eq_true rfl); (case k13Z => k_updF); k_whole; intro _ _ _ _ _ N'; (dsimp only [List.cons_append, List.nil_append] at N'); (try (revert N'; intro _)); (try k_sweep)))))
  (k_with "L storeName" => (k_here; k_dflt ( refine' r_store ?k1Z ?k2Z ?k3Z ?k4Z ?_; (case k1Z | k2Z => k_asm); (case k3Z | k4Z => rfl); k_whole; intro _ _ _ _; (try k_sweep))))
  (k_with "L newList" => (k_here; k_dflt (refine' r_newList ?k1Z ?k2Z ?k3Z ?_; (case k1Z | k2Z => k_asm); (case k3Z => exact Nat.le_of_ble_eq_true rfl); k_whole); intro _ _ _ _ l1; (try k_lt l1); (try (revert l1; intro _)); (try k_sweep)))
  (k_with "L call builtin:list.append" => (k_here; (with_reducible show wpAny _ _ (call (Value.builtin _) [Value.ref _, _]) _ _ _); k_dflt (refine' r_append ?k1Z ?k2Z ?k3Z ?zZ ?_; (case k1Z | k2Z => k_asm); (case k3Z => k_upd); (case zZ => first | omega | (simp only [List.size_toArray, Array.size_push] at *; omega)); k_whole); intro _ _ _; (try k_sweep)))
  (k_with "L my enter" => (refine' r_enter ?k1Z ?k2Z ?k3Z ?k4Z ?k5Z ?kAZ ?kFZ ?kKZ ?k6Z ?k7Z ?k8Z ?k9Z ?kBZ ?_ ?c2Z ?c3Z ?c4Z ?c5Z; (case kAZ | kFZ => exact rfl); (case kKZ => first | assumption | exact rfl); (case k1Z | k2Z | k3Z | k4Z | k5Z => k_asm); (case k6Z | k7Z => k_is); (case k8Z => k_room); (case k9Z => first | exact BindsTo.of_eq rfl | exact binds_K (by k_in) rfl (by k_is) rfl rfl rfl); (case c5Z => decide); (case kBZ => exact locs rfl); (case c2Z | c3Z | c4Z => exact rfl); k_whole; intro _ _ _ _ _ _ _ _ _ _; (try dsimp only); (try k_fold)))
  (k_with "L my class" => (refine' call_cls ?k1Z ?k2Z ?k3Z ?k4Z ?k5Z ?k6Z ?_; (case k1Z | k2Z | k3Z => k_asm); (case k4Z | k5Z | k6Z => k_is); k_whole; intro _ _ _ _ _ l1 l2; (try k_lt l1); (try (revert l1; intro _)); (try k_lt2 l2); (try (revert l2; intro _)); (try k_sweep); k_extra "L my enter"))
  (k_with "L call ref" => (k_here; k_dflt (first | k_extra "L my class" | (refine wpAny_call ?_; k_extra "L my enter"))))
  (k_with "L my sub" => first | exact mem_all | (refine List.forall_mem_cons.mpr ⟨?_, ?_⟩; (k_mem); k_extra "L my sub") | exact List.forall_mem_nil _ | (refine mem_step ?_; k_extra "L my sub"))
  (k_with "L my blen" => first | k_extra "L om" | exact Nat.zero_le _ | ((simp only [List.length_append, List.length_cons, List.length_nil, List.length_take, List.length_drop]); omega) | omega | exact Nat.le_trans (cut_length _ _ _) (by omega) | (simp only [List.length_append, List.length_cons, List.length_nil, List.length_take, List.length_drop]; omega))
  (k_with "L binaryOp Add bytes bytes" => (refine' r_badd ?zZ ?z2Z ?_; (case zZ | z2Z => k_extra "L my blen"); intro _ _))
  (k_with "L compareOp Eq bytes bytes" => refine r_beq ?_)
  (k_with "L subscriptTail" => (k_here; (with_reducible show wpAny _ _ (subscriptTail _ (Expr.Slice _ _ none _) (Value.bytes _ _) (Value.ref _)) _ _ _); k_dflt (refine' r_slice ?FZ ?NZ ?lZ ?uZ ?zZ ?_ ?sZ ?tZ; (case FZ | NZ => k_asm); (case lZ | uZ => constructor); (case zZ => omega); (case sZ => with_unfolding_all rfl); (case tZ => intro _; with_unfolding_all rfl)); intro _ _ _ _ _; (try k_sweep)))
  (k_with "L subscriptTail" => (k_here; (with_reducible show wpAny _ _ (subscriptTail _ _ (Value.ref _) (Value.int _ _)) _ _ _); k_dflt (refine' r_item ?NZ ?mZ ?aZ ?bZ ?xZ ?_ ?sZ ?tZ; (case NZ => k_asm); (case mZ => k_mem); (case aZ | bZ => omega); (case xZ => first | assumption | rfl); (case sZ => with_unfolding_all rfl); (case tZ => intro _; with_unfolding_all rfl))))
  (k_with "L my ev" => first | ((with_reducible show Ev _ _ _ _ _ _ _ (Expr.Constant _ _ _) _ _ _); first | exact ev_int | (intro _ _ Hx; walk1; with_reducible exact Hx)) | ((with_reducible show Ev _ _ _ _ _ _ _ (Expr.Name _ _) _ _ _); first | (refine' ev_L ?FZ ?vZ ?aZ ?bZ ?dZ; (case FZ => k_asm); (case aZ | bZ => rfl); (case dZ => decide); (case vZ => rfl)) | (intro _ _ Hx; walk1; with_reducible exact Hx)) | ((with_reducible show Ev _ _ _ _ _ _ _ (Expr.Attribute _ _ _) _ _ _); refine' ev_attr ?k1Z ?k2Z ?vZ ?k3Z ?k4Z ?k5Z ?k6Z ?k7Z ?k8Z ?k9Z ?aZ ?bZ ?dZ; (case k1Z | k2Z => k_asm); (case aZ | bZ => rfl); (case dZ => decide); (case vZ => rfl); (case k3Z => k_inst); (case k4Z | k5Z | k6Z | k7Z => k_is); (case k8Z => k_get); (case k9Z => k_handed)) | ((with_reducible show Ev _ _ _ _ _ _ _ (Expr.BinOp _ _ _ _) _ _ _); refine' ev_bin ?lZ ?rZ ?oZ; (case lZ | rZ => k_extra "L my ev"); (case oZ => (intro _ _ Hx; walk1; with_reducible exact Hx))) | ((with_reducible show Ev _ _ _ _ _ _ _ (Expr.Call (Expr.Name (Str.ofString "len") _) [_] [] _) _ _ _); intro _ _ Hx; (repeat walk1); with_reducible exact Hx))
  (k_with "L eval BinOp" => (k_here; k_dflt (refine' ev_use ?hZ ?_; (case hZ => k_extra "L my ev"); k_whole)))
  (k_with "L eval Attribute Name" => (k_here; k_dflt (refine' ev_use ?hZ ?_; (case hZ => k_extra "L my ev"); k_whole)))
  (k_with "L isTrue Compare" => (k_here; k_dflt (refine' ev_isTrue ?lZ ?rZ ?oZ ?mZ ?_; (case lZ | rZ => k_extra "L my ev"); (case oZ => (intro _ _ Hx; walk1; with_reducible exact Hx)); (case mZ => with_unfolding_all rfl); k_whole)))
  (k_with "L call ref" => (k_here; (with_reducible show wpAny _ _ (call (Value.ref 45) _) _ _ _); refine' r_excMake ?k1Z ?k2Z ?k3Z ?k4Z ?k5Z ?k6Z ?k7Z ?_; (case k1Z | k2Z | k3Z => k_asm); (case k4Z => exact Nat.le_of_ble_eq_true rfl); (case k5Z => kernel_rfl); (case k6Z | k7Z => k_is); k_whole; intro _ _ _ _ _ l1; (try k_lt l1); (try (revert l1; intro _)); (try k_sweep); k_extra "L my enter"))
  (k_with "L setAttr ref" => (k_here; (with_reducible show wpAny _ _ (setAttr _ "told" (Value.bytes _ _)) _ _ _); refine' r_excSet ?k1Z ?k2Z ?k3Z ?k4Z ?_; (case k1Z | k2Z | k3Z => k_asm); (case k4Z => k_updF); k_whole; intro _ _ _ _ _ _ _ l1; (try k_lt l1); (try (revert l1; intro _)); (try k_sweep)))
  (k_with "L Inst45" => (k_here; k_dflt (refine' ⟨_, _, _, rfl, ?aZ, ?cZ, ?dZ, ?eZ, ?bZ, ?_⟩; (case aZ => exact (News.get (by k_asm) (by k_mem))); (case cZ | dZ | eZ => exact rfl); (case bZ => exact Frag.In.keeps (by k_asm) (Fr.keep (by k_asm))); k_whole)))
  (k_with "L exec Raise some none" => (k_here; k_dflt (refine' r_raise ?aZ ?_; (case aZ => rfl); k_whole)))
  (k_with "L my nes" => first | exact List.forall_mem_nil _ | k_all | (refine List.forall_mem_cons.mpr ⟨?_, ?_⟩; (show @Ne Nat _ _; omega); k_extra "L my nes"))
  (k_with "L leaving ref" => (k_here; (rename Gone _ _ _ _ _ => gX); (rename Heap.UpToSlots _ _ => uX); k_dflt (refine' leave_more ?KZ ?FZ ?fZ ?RZ ?UZ ?_; (case KZ => assumption); (case RZ => exact gX); (case UZ => exact uX); (case FZ => assumption); (case fZ => exact rfl); k_whole); (try clear gX uX); intro _ _ _))
  (k_with "L leaving ref" => (k_here; k_dflt (refine' leave_first ?KZ ?FZ ?fZ ?kZ ?NZ ?aZ ?bZ ?_; (case KZ | FZ => assumption); (case fZ | kZ => exact rfl); (case NZ => assumption); (case aZ => k_extra "L my nes"); (case bZ => (show @Ne Nat _ _; omega)); k_whole); intro _ _ _))
  (k_with "L c enter" => (refine' c_enter ?k1Z ?k2Z ?k3Z ?k4Z ?k5Z ?kAZ ?kFZ ?kKZ ?k6Z ?k7Z ?k8Z ?k9Z ?kBZ ?_ ?c2Z ?c3Z ?c4Z ?c5Z; (case kAZ | kFZ => exact rfl); (case kKZ => first | assumption | exact rfl); (case k1Z | k2Z | k3Z | k4Z | k5Z => k_asm); (case k6Z | k7Z => k_is); (case k8Z => k_room); (case k9Z => first | exact BindsTo.of_eq rfl | exact binds_K (by k_in) rfl (by k_is) rfl rfl rfl); (case c5Z => decide); (case kBZ => exact locs rfl); (case c2Z | c3Z | c4Z => exact rfl); k_whole; intro _ _ _ _ _ _ _ _ _ _; (try dsimp only)))
  (k_with "L keep at" => first | ((with_reducible show KeepAt _ (Value.ref _) _); refine keep_ref (by k_in) (by k_is)) | exact keep_append | exact keep_extend | exact keep_bytearray | exact ⟨.machine, .inr (.inl rfl), Looks.of_pure (by kernel_rfl)⟩)
  (k_with "L c call" => ( (with_reducible show wpC _ _ (call (Value.builtin "bytearray.append") [Value.ref _, Value.int _ _]) _ _ _); k_dflt (refine' c_append ?k1Z ?k2Z ?k3Z ?k4Z ?k5Z ?zZ ?_; (case k1Z | k2Z => k_asm); (case k3Z => k_upd); (case k4Z | k5Z => omega); (case zZ => k_extra "L my blen"); k_whole); intro _ _ _; (try k_sweep)))
  (k_with "L c call" => ( (with_reducible show wpC _ _ (call (Value.builtin "bytearray.extend") [Value.ref _, Value.bytes _ _]) _ _ _); k_dflt (refine' c_extend ?k1Z ?k2Z ?k3Z ?zZ ?_; (case k1Z | k2Z => k_asm); (case k3Z => k_upd); (case zZ => k_extra "L my blen"); k_whole); intro _ _ _; (try k_sweep)))
  (k_with "L c call" => ( (with_reducible show wpC _ _ (call (Value.type "bytearray") []) _ _ _); k_dflt (refine' c_new ?k1Z ?k2Z ?_; (case k1Z | k2Z => k_asm); k_whole); intro _ _ _ _ l1; (try k_lt l1); (try (revert l1; intro _)); (try k_sweep)))
  (k_with "L getMethod ref" => (k_here; (with_reducible show wpAny _ _ (getMethod (Value.ref _) (PySem.Str.ofString "extend") _) _ _ _); k_dflt (refine' (meth_extend ?xZ).here ?_; (case xZ => exact (News.get (by k_asm) (by k_mem))); k_whole)))
  (k_with "L getMethod ref" => (k_here; (with_reducible show wpAny _ _ (getMethod (Value.ref _) (PySem.Str.ofString "append") _) _ _ _); k_dflt (refine' (meth_append ?xZ).here ?_; (case xZ => exact (News.get (by k_asm) (by k_mem))); k_whole)))
  (k_with "L harm" => fail "no harm")
  (k_with "L cw" => first | ((with_reducible refine c_consL ?_); intro _) | with_reducible refine c_nil ?_ | k_extra "L harm" | with_reducible refine c_If ?_ | ((with_reducible show wpC _ _ (isTrue (Expr.Compare (Expr.Call _ _ _ _) _ _ _) _ _) _ _ _); refine c_isTrue ?_) | with_reducible refine ofA_isTrue ?_ | ((with_reducible show wpC _ _ (exec (Stmt.Expr (Expr.Call _ _ _ _) _) _) _ _ _); refine c_Expr ?_) | with_reducible refine c_Assign ?_ | ((with_reducible show wpC _ _ (exec (Stmt.Assign [Expr.Attribute _ _ _] (Expr.Call _ _ _ _) _) _) _ _ _); refine c_AssignA ?_) | with_reducible refine c_Return ?_ | with_reducible refine ofA_exec ?_ | with_reducible refine c_Meth ?_ | with_reducible refine c_Call ?_ | ((with_reducible show wpC _ _ (eval (Expr.BinOp _ _ _ _) _) _ _ _); k_dflt (refine' ofA_eval (ev_use ?hZ ?_); (case hZ => k_extra "L my ev"); k_whole)) | with_reducible refine c_BinOp ?_ | with_reducible refine c_Compare ?_ | with_reducible refine c_And ?_ | with_reducible refine c_And1 ?_ | with_reducible refine ofA_eval ?_ | with_reducible refine c_args ?_ | with_reducible refine c_args0 ?_ | with_reducible refine c_with1 ?_ | ((with_reducible show wpC _ _ (callWith _ _ _ _ _) _ _ _); refine c_with0 (by k_extra "L keep at") ?_) | ((with_reducible show KeepAt _ _ _ ∧ _); refine ⟨by k_extra "L keep at", ?_⟩; (try dsimp only [List.cons_append, List.nil_append])) | k_extra "L c call" | with_reducible refine ofA_call ?_ | with_reducible refine c_ite1 (by assumption) ?_ | with_reducible refine c_ite0 (by assumption) ?_)
  (k_with "L c steps" => repeat' (first | ((with_reducible show wpAny _ _ _ _ _ _); walk1) | k_extra "L cw" | (k_unfold; (try dsimp only)) | ((show (_ : Flow → Shared → Prop) _ _); k_unfold; (try dsimp only)) | (k_end; wrow_close) | walk1 | (dsimp only; walk1) | (leave1; try dsimp only) | (dsimp only; k_extra "L cw") | fail "no step"))
  (k_with "L c call" => ( (with_reducible show wpC _ _ (call (Value.type "enumerate") [Value.bytes _ _]) _ _ _); k_dflt (refine' wpC_of_any (r_enumB ?k1Z ?k2Z ?_); (case k1Z | k2Z => k_asm); k_whole); intro _ _ _ _ _ l1 l2; (try k_lt l1); (try (revert l1; intro _)); (try k_lt2 l2); (try (revert l2; intro _)); (try k_sweep)))
  (k_with "L call type:bytes" => ((with_reducible show wpAny _ _ (call (Value.type "bytes") [Value.bytes _ _]) _ _ _); refine r_bytesB ?_))
  (k_with "L call type:bytes" => ((with_reducible show wpAny _ _ (call (Value.type "bytes") [Value.ref _]) _ _ _); k_dflt (refine' r_bytesBa ?aZ ?zZ ?_; (case aZ => exact (News.get (by k_asm) (by k_mem))); (case zZ => k_extra "L my blen"); k_whole); intro _ _))
  (k_with "L harm" => first | ((with_reducible show wpC _ _ (exec (Stmt.For _ _ _ [] _) _) _ _ _); refine c_For ?_) | ((with_reducible show wpC _ _ (pyIter _) _ _ _); refine wpC_of_any ?_))
  (k_with "L harm" => first | ((with_reducible show wpC _ _ (exec (Stmt.For _ _ _ [] _) _) _ _ _); refine c_For ?_) | ((with_reducible show wpC _ _ (exec (Stmt.While _ _ [] _) _) _ _ _); refine c_WhileR ?_) | ((with_reducible show codeC _ _ (Code.whileLoop _ _ [] _) _ _); refine codeC_while1 ?_) | ((with_reducible show LoopR _ _ _ _ _ _ _ _); dsimp only [LoopR]) | ((with_reducible show wpC _ _ (pyIter _) _ _ _); refine wpC_of_any ?_))
  (k_with "L harm" => ((with_reducible show wpC _ _ (exec (Stmt.Try _ (_ :: _) [] [] _) _) _ _ _); refine c_Try ?_))
  (k_with "L c enterC" => (refine' c_enterC ?k1Z ?k2Z ?k3Z ?k4Z ?k5Z ?kAZ ?kFZ ?kKZ ?k6Z ?k7Z ?k8Z ?k9Z ?kBZ ?_ ?c2Z ?c3Z ?c4Z ?c5Z; (case kAZ | kFZ => exact rfl); (case kKZ => first | assumption | exact rfl); (case k1Z | k2Z | k3Z | k4Z | k5Z => k_asm); (case k6Z | k7Z => k_is); (case k8Z => k_room); (case k9Z => first | exact BindsTo.of_eq rfl | exact binds_K (by k_in) rfl (by k_is) rfl rfl rfl); (case c5Z => decide); (case kBZ => exact locs rfl); (case c2Z | c3Z | c4Z => exact rfl); k_whole; intro _ _ _ _ _ _ _ _ _ _ _; (try dsimp only)))
  (k_with "L getAttr ref" => (k_here; (with_reducible show wpAny _ _ (getAttr (Value.ref _) (PySem.Str.ofString "told") _) _ _ _); refine' r_excGet ?k1Z ?k2Z ?k3Z ?k4Z ?k5Z ?k6Z ?k7Z ?_; (case k1Z | k2Z => k_asm); (case k3Z => exact (News.get (by k_asm) (by k_mem))); (case k4Z | k5Z | k6Z => assumption); (case k7Z => exact (News.get (by k_asm) (by k_mem))); k_whole; intro _))
  trivial
theorem reg_LToldS0 : True := by
  (k_with "L c call" => ((with_reducible show wpC _ _ (call (Value.ref _) _) _ _ _); refine goC ?_; intro _))
  trivial
theorem ltoldS_ok (w : World) (loose : List Str) (mean : ExcName → Option Value) (mg mb : Str → Option Value)
    (early : Int) (octets out : List UInt8) (tko te : Tok) (rest : List (Addr × Obj)) (he : 0 ≤ early ∧ early ≤ 1) (hk : octets.length ≤ 300) (hs : decodeM early octets = some out) :
    CallC w loose mean mg mb 20 (.ref 241) [.bytes octets.toArray tko, .int early te] rest
      (fun r news' => ∃ tk, r = .bytes out.toArray tk ∧ news' = rest) (fun _ => False) := by
  unfold CallC
  intro dp un gd cn cs a ccd cl outer A₀ base h₀ L m s Q E
  k_fill
  obtain ⟨hp', gn, dr, tk0, os⟩ := s
  intro B F X N T hkk hd hu hret hexc
  refine wpC_call ?_
  k_dflt (walk_at "c enter")
  rename_i gF LF hF0 tF FGF FF NF BF XF TF
  walk_at "c steps"
  refine StopAt.mk ?_
  refine' CallC.at (dec_ok w loose mean mg mb early octets tko te rest he hk) BF (by assumption) XF (by assumption) TF rfl (by omega) (by omega) ?ret ?exc
  case ret =>
    rintro r n' h' tk' F' N' ⟨out', tkr, hs', rfl, rfl⟩
    obtain rfl : out = out' := Option.some.inj (hs.symm.trans hs')
    walk_at "c steps"
    (rename News h₀ _ _ _ => N9)
    (rename Fr h₀ _ _ _ => F9)
    exact hret _ _ _ _ F9 N9 ⟨_, rfl, rfl⟩
  case exc =>
    rintro e' g2 n' h' tk' F' U' G' ⟨hn, rfl⟩
    rw [hs] at hn; cases hn
theorem reg_PEncW : True := by
  k_with_none
  (k_with "L om" => first | with_reducible assumption | (with_reducible refine Ne.symm ?_; assumption) | ((with_reducible refine low1 (by assumption) ?_); exact rfl) | ((with_reducible refine low2 (by assumption) ?_); exact rfl) | ((with_reducible refine low7 (by assumption) ?_); exact rfl) | with_reducible exact low8 (by assumption) | ((with_reducible refine low3 (by assumption) ?_); exact rfl) | ((with_reducible refine low4 (by assumption) ?_); exact rfl) | with_reducible exact low5 (by assumption) | with_reducible exact low6 (by assumption) | with_reducible exact And.left (by assumption) | with_reducible exact And.right (by assumption) | with_reducible exact And.intro (by assumption) (by assumption) | ((with_reducible refine low9 (by assumption) ?_); exact rfl) | ((with_reducible refine low10 (by assumption) ?_); exact rfl) | ((with_reducible refine low12 (by assumption) ?_); exact rfl) | with_reducible exact Nat.le_succ_of_le (by assumption) | with_reducible exact Nat.add_le_add (by assumption) (Nat.min_le_left _ _) | ((with_reducible refine low16 (by assumption) (by assumption) ?_); exact rfl) | with_reducible exact low17 (by assumption) (by assumption) | with_reducible exact low18 (by assumption) | with_reducible exact low19 (by assumption) (by assumption) | with_reducible exact low20 (by assumption) | with_reducible exact And.intro (Int.emod_nonneg _ (by decide)) (Int.emod_lt_of_pos _ (by decide)) | ((with_reducible refine low21 (by assumption) ?_); exact rfl) | ((with_reducible refine low22 (by assumption) ?_); exact rfl) | with_reducible exact low6 (And.left (by assumption)) | with_reducible exact low6 (And.left (And.right (by assumption))) | with_reducible exact low6 (And.left (And.right (And.right (by assumption)))) | with_reducible exact low6 (And.left (And.right (And.right (And.right (by assumption))))) | with_reducible exact low6 (And.right (by assumption)) | lia | with_reducible contradiction)
  (k_with "L my putL" => first | with_reducible exact putL_d4 | with_reducible exact putL_d5 | with_reducible exact putL_d6 | with_reducible exact putL_d7 | with_reducible exact putL_d8 | with_reducible exact putL_d2 | with_reducible exact putL_d3 | (refine' putL_hd ?xZ; (case xZ => decide +kernel)) | (refine' putL_tl ?xZ ?yZ; (case xZ => decide +kernel); (case yZ => k_extra "L my putL")))
  (k_with "L my putN" => first | with_reducible exact putN_d4 | with_reducible exact putN_d5 | with_reducible exact putN_d6 | with_reducible exact putN_d7 | with_reducible exact putN_d8 | with_reducible exact putN_d2 | with_reducible exact putN_d3 | (refine' putN_hd ?xZ; (case xZ => decide +kernel)) | (refine' putN_tl ?xZ ?yZ; (case xZ => decide +kernel); (case yZ => k_extra "L my putN")))
  (k_with "L all" => first | assumption | exact allLt_ne (by assumption) | exact allLt_ne (And.right (by assumption)) | exact allLt_ne (And.right (And.right (by assumption))) | exact allLt_ne (And.right (And.right (And.right (by assumption)))))
  (k_with "L room" => ((try simp only [depth_under_make, depth_under_kw, depth_in1, depth_deeper, depth_caller]); (try dsimp only [ktrTop]); omega))
  (k_with "L execs cons" => (refine r_consL ?_; intro _))
  (k_with "L execs nil" => refine wpAny_execs_nil ?_)
  (k_with "L exec If" => refine wpAny_If ?_)
  (k_with "L eval Constant int" => refine r_int ?_)
  (k_with "L eval Constant bytes" => refine r_bytes ?_)
  (k_with "L eval Constant str" => refine r_str ?_)
  (k_with "L binaryOp Add int int" => refine r_add ?_)
  (k_with "L binaryOp Sub int int" => refine r_sub ?_)
  (k_with "L binaryOp BitAnd int int" => refine r_and ?_)
  (k_with "L binaryOp BitOr int int" => refine r_or ?_)
  (k_with "L binaryOp RShift int int" => (refine' r_shr ?aZ ?_; (case aZ => omega)))
  (k_with "L binaryOp Mod int int" => (refine' r_mod ?aZ ?_; (case aZ => omega)))
  (k_with "L binaryOp LShift int int" => first | with_reducible refine r_shl09 ?_ | with_reducible refine r_shl10 ?_ | with_reducible refine r_shl12 ?_ | with_reducible refine r_shl28 ?_ | (refine' r_shl ?aZ ?bZ ?cZ ?_; (case aZ | bZ | cZ => omega)))
  (k_with "L call builtin:len" => ( (with_reducible show wpAny _ _ (call (Value.builtin "len") [Value.ref _]) _ _ _); refine' r_len ?NZ ?mZ ?zZ ?_; (case NZ => k_asm); (case mZ => k_mem); (case zZ => first | omega | (simp only [List.size_toArray, Array.size_push] at *; omega))))
  (k_with "L getAttr ref" => (k_here; k_dflt ( refine' r_getattr ?k1Z ?k2Z ?k3Z ?k4Z ?k5Z ?k6Z ?k7Z ?k8Z ?k9Z ?_; (case k1Z | k2Z => k_asm); (case k3Z => k_inst); (case k4Z | k5Z | k6Z | k7Z => k_is); (case k8Z => k_get); (case k9Z => k_handed); k_whole)))
  (k_with "L setAttr ref" => (k_here; k_dflt (first | (refine' r_setattr ?k1Z ?k2Z ?k3Z ?k4Z ?k5Z ?k6Z ?k7Z ?k8Z ?k9Z ?k10Z ?k11Z ?k11bZ ?k12Z ?k13Z ?_; (case k1Z | k2Z | k3Z => k_asm); (case k4Z => k_inst); (case k5Z => exact rfl); (case k6Z | k7Z | k8Z | k9Z => k_is); (case k10Z => k_get); (case k11Z => (intro _; k_extra "L my putL")); (case k11bZ => k_extra "L my putN"); (case k12Z => k_upd); (case k13Z => exact Nat.le_of_ble_eq_true rfl); k_whole; intro _ _ _ _; (try k_sweep)) | (refine' r_newattr ?k1Z ?k2Z ?k3Z ?k4Z ?k5Z ?k6Z ?k7Z ?k8Z ?k9Z ?k10Z ?k11Z ?k12Z ?k13Z ?_; (case k1Z | k2Z | k3Z => k_asm); (case k4Z => k_inst); (case k5Z => exact rfl); (case k6Z | k7Z | k8Z | k9Z => k_is); (case k10Z => k_get); (case k11Z => exact rfl); (case k12Z => exact Nat.le_of_ble_eq_true rfl); (case k13Z => k_updF); k_whole; intro _ _ _ _ _ N'; (dsimp only [List.cons_append, List.nil_append] at N'); (try (revert N'; intro _)); (try k_sweep)))))
  (k_with "L storeName" => (k_here; k_dflt ( refine' r_store ?k1Z ?k2Z ?k3Z ?k4Z ?_; (case k1Z | k2Z => k_asm); (case k3Z | k4Z => rfl); k_whole; intro _ _ _ _; (try k_sweep))))
  (k_with "L newList" => (k_here; k_dflt (refine' r_newList ?k1Z ?k2Z ?k3Z ?_; (case k1Z | k2Z => k_asm); (case k3Z => exact Nat.le_of_ble_eq_true rfl); k_whole); intro _ _ _ _ l1; (try k_lt l1); (try (revert l1; intro _)); (try k_sweep)))
  (k_with "L call builtin:list.append" => (k_here; (with_reducible show wpAny _ _ (call (Value.builtin _) [Value.ref _, _]) _ _ _); k_dflt (refine' r_append ?k1Z ?k2Z ?k3Z ?zZ ?_; (case k1Z | k2Z => k_asm); (case k3Z => k_upd); (case zZ => first | omega | (simp only [List.size_toArray, Array.size_push] at *; omega)); k_whole); intro _ _ _; (try k_sweep)))
  (k_with "L my enter" => (refine' r_enter ?k1Z ?k2Z ?k3Z ?k4Z ?k5Z ?kAZ ?kFZ ?kKZ ?k6Z ?k7Z ?k8Z ?k9Z ?kBZ ?_ ?c2Z ?c3Z ?c4Z ?c5Z; (case kAZ | kFZ => exact rfl); (case kKZ => first | assumption | exact rfl); (case k1Z | k2Z | k3Z | k4Z | k5Z => k_asm); (case k6Z | k7Z => k_is); (case k8Z => k_room); (case k9Z => first | exact BindsTo.of_eq rfl | exact binds_K (by k_in) rfl (by k_is) rfl rfl rfl); (case c5Z => decide); (case kBZ => exact locs rfl); (case c2Z | c3Z | c4Z => exact rfl); k_whole; intro _ _ _ _ _ _ _ _ _ _; (try dsimp only); (try k_fold)))
  (k_with "L my class" => (refine' call_cls ?k1Z ?k2Z ?k3Z ?k4Z ?k5Z ?k6Z ?_; (case k1Z | k2Z | k3Z => k_asm); (case k4Z | k5Z | k6Z => k_is); k_whole; intro _ _ _ _ _ l1 l2; (try k_lt l1); (try (revert l1; intro _)); (try k_lt2 l2); (try (revert l2; intro _)); (try k_sweep); k_extra "L my enter"))
  (k_with "L call ref" => (k_here; k_dflt (first | k_extra "L my class" | (refine wpAny_call ?_; k_extra "L my enter"))))
  (k_with "L my sub" => first | exact mem_all | (refine List.forall_mem_cons.mpr ⟨?_, ?_⟩; (k_mem); k_extra "L my sub") | exact List.forall_mem_nil _ | (refine mem_step ?_; k_extra "L my sub"))
  (k_with "L my blen" => first | k_extra "L om" | exact Nat.zero_le _ | ((simp only [List.length_append, List.length_cons, List.length_nil, List.length_take, List.length_drop]); omega) | omega | exact Nat.le_trans (cut_length _ _ _) (by omega) | (simp only [List.length_append, List.length_cons, List.length_nil, List.length_take, List.length_drop]; omega))
  (k_with "L binaryOp Add bytes bytes" => (refine' r_badd ?zZ ?z2Z ?_; (case zZ | z2Z => k_extra "L my blen"); intro _ _))
  (k_with "L compareOp Eq bytes bytes" => refine r_beq ?_)
  (k_with "L subscriptTail" => (k_here; (with_reducible show wpAny _ _ (subscriptTail _ (Expr.Slice _ _ none _) (Value.bytes _ _) (Value.ref _)) _ _ _); k_dflt (refine' r_slice ?FZ ?NZ ?lZ ?uZ ?zZ ?_ ?sZ ?tZ; (case FZ | NZ => k_asm); (case lZ | uZ => constructor); (case zZ => omega); (case sZ => with_unfolding_all rfl); (case tZ => intro _; with_unfolding_all rfl)); intro _ _ _ _ _; (try k_sweep)))
  (k_with "L subscriptTail" => (k_here; (with_reducible show wpAny _ _ (subscriptTail _ _ (Value.ref _) (Value.int _ _)) _ _ _); k_dflt (refine' r_item ?NZ ?mZ ?aZ ?bZ ?xZ ?_ ?sZ ?tZ; (case NZ => k_asm); (case mZ => k_mem); (case aZ | bZ => omega); (case xZ => first | assumption | rfl); (case sZ => with_unfolding_all rfl); (case tZ => intro _; with_unfolding_all rfl))))
  (k_with "L my ev" => first | ((with_reducible show Ev _ _ _ _ _ _ _ (Expr.Constant _ _ _) _ _ _); first | exact ev_int | (intro _ _ Hx; walk1; with_reducible exact Hx)) | ((with_reducible show Ev _ _ _ _ _ _ _ (Expr.Name _ _) _ _ _); first | (refine' ev_L ?FZ ?vZ ?aZ ?bZ ?dZ; (case FZ => k_asm); (case aZ | bZ => rfl); (case dZ => decide); (case vZ => rfl)) | (intro _ _ Hx; walk1; with_reducible exact Hx)) | ((with_reducible show Ev _ _ _ _ _ _ _ (Expr.Attribute _ _ _) _ _ _); refine' ev_attr ?k1Z ?k2Z ?vZ ?k3Z ?k4Z ?k5Z ?k6Z ?k7Z ?k8Z ?k9Z ?aZ ?bZ ?dZ; (case k1Z | k2Z => k_asm); (case aZ | bZ => rfl); (case dZ => decide); (case vZ => rfl); (case k3Z => k_inst); (case k4Z | k5Z | k6Z | k7Z => k_is); (case k8Z => k_get); (case k9Z => k_handed)) | ((with_reducible show Ev _ _ _ _ _ _ _ (Expr.BinOp _ _ _ _) _ _ _); refine' ev_bin ?lZ ?rZ ?oZ; (case lZ | rZ => k_extra "L my ev"); (case oZ => (intro _ _ Hx; walk1; with_reducible exact Hx))) | ((with_reducible show Ev _ _ _ _ _ _ _ (Expr.Call (Expr.Name (Str.ofString "len") _) [_] [] _) _ _ _); intro _ _ Hx; (repeat walk1); with_reducible exact Hx))
  (k_with "L eval BinOp" => (k_here; k_dflt (refine' ev_use ?hZ ?_; (case hZ => k_extra "L my ev"); k_whole)))
  (k_with "L eval Attribute Name" => (k_here; k_dflt (refine' ev_use ?hZ ?_; (case hZ => k_extra "L my ev"); k_whole)))
  (k_with "L isTrue Compare" => (k_here; k_dflt (refine' ev_isTrue ?lZ ?rZ ?oZ ?mZ ?_; (case lZ | rZ => k_extra "L my ev"); (case oZ => (intro _ _ Hx; walk1; with_reducible exact Hx)); (case mZ => with_unfolding_all rfl); k_whole)))
  (k_with "L call ref" => (k_here; (with_reducible show wpAny _ _ (call (Value.ref 45) _) _ _ _); refine' r_excMake ?k1Z ?k2Z ?k3Z ?k4Z ?k5Z ?k6Z ?k7Z ?_; (case k1Z | k2Z | k3Z => k_asm); (case k4Z => exact Nat.le_of_ble_eq_true rfl); (case k5Z => kernel_rfl); (case k6Z | k7Z => k_is); k_whole; intro _ _ _ _ _ l1; (try k_lt l1); (try (revert l1; intro _)); (try k_sweep); k_extra "L my enter"))
  (k_with "L setAttr ref" => (k_here; (with_reducible show wpAny _ _ (setAttr _ "told" (Value.bytes _ _)) _ _ _); refine' r_excSet ?k1Z ?k2Z ?k3Z ?k4Z ?_; (case k1Z | k2Z | k3Z => k_asm); (case k4Z => k_updF); k_whole; intro _ _ _ _ _ _ _ l1; (try k_lt l1); (try (revert l1; intro _)); (try k_sweep)))
  (k_with "L Inst45" => (k_here; k_dflt (refine' ⟨_, _, _, rfl, ?aZ, ?cZ, ?dZ, ?eZ, ?bZ, ?_⟩; (case aZ => exact (News.get (by k_asm) (by k_mem))); (case cZ | dZ | eZ => exact rfl); (case bZ => exact Frag.In.keeps (by k_asm) (Fr.keep (by k_asm))); k_whole)))
  (k_with "L exec Raise some none" => (k_here; k_dflt (refine' r_raise ?aZ ?_; (case aZ => rfl); k_whole)))
  (k_with "L my nes" => first | exact List.forall_mem_nil _ | k_all | (refine List.forall_mem_cons.mpr ⟨?_, ?_⟩; (show @Ne Nat _ _; omega); k_extra "L my nes"))
  (k_with "L leaving ref" => (k_here; (rename Gone _ _ _ _ _ => gX); (rename Heap.UpToSlots _ _ => uX); k_dflt (refine' leave_more ?KZ ?FZ ?fZ ?RZ ?UZ ?_; (case KZ => assumption); (case RZ => exact gX); (case UZ => exact uX); (case FZ => assumption); (case fZ => exact rfl); k_whole); (try clear gX uX); intro _ _ _))
  (k_with "L leaving ref" => (k_here; k_dflt (refine' leave_first ?KZ ?FZ ?fZ ?kZ ?NZ ?aZ ?bZ ?_; (case KZ | FZ => assumption); (case fZ | kZ => exact rfl); (case NZ => assumption); (case aZ => k_extra "L my nes"); (case bZ => (show @Ne Nat _ _; omega)); k_whole); intro _ _ _))
  (k_with "L c enter" => (refine' c_enter ?k1Z ?k2Z ?k3Z ?k4Z ?k5Z ?kAZ ?kFZ ?kKZ ?k6Z ?k7Z ?k8Z ?k9Z ?kBZ ?_ ?c2Z ?c3Z ?c4Z ?c5Z; (case kAZ | kFZ => exact rfl); (case kKZ => first | assumption | exact rfl); (case k1Z | k2Z | k3Z | k4Z | k5Z => k_asm); (case k6Z | k7Z => k_is); (case k8Z => k_room); (case k9Z => first | exact BindsTo.of_eq rfl | exact binds_K (by k_in) rfl (by k_is) rfl rfl rfl); (case c5Z => decide); (case kBZ => exact locs rfl); (case c2Z | c3Z | c4Z => exact rfl); k_whole; intro _ _ _ _ _ _ _ _ _ _; (try dsimp only)))
  (k_with "L keep at" => first | ((with_reducible show KeepAt _ (Value.ref _) _); refine keep_ref (by k_in) (by k_is)) | exact keep_append | exact keep_extend | exact keep_bytearray | exact ⟨.machine, .inr (.inl rfl), Looks.of_pure (by kernel_rfl)⟩)
  (k_with "L c call" => ( (with_reducible show wpC _ _ (call (Value.builtin "bytearray.append") [Value.ref _, Value.int _ _]) _ _ _); k_dflt (refine' c_append ?k1Z ?k2Z ?k3Z ?k4Z ?k5Z ?zZ ?_; (case k1Z | k2Z => k_asm); (case k3Z => k_upd); (case k4Z | k5Z => omega); (case zZ => k_extra "L my blen"); k_whole); intro _ _ _; (try k_sweep)))
  (k_with "L c call" => ( (with_reducible show wpC _ _ (call (Value.builtin "bytearray.extend") [Value.ref _, Value.bytes _ _]) _ _ _); k_dflt (refine' c_extend ?k1Z ?k2Z ?k3Z ?zZ ?_; (case k1Z | k2Z => k_asm); (case k3Z => k_upd); (case zZ => k_extra "L my blen"); k_whole); intro _ _ _; (try k_sweep)))
  (k_with "L c call" => ( (with_reducible show wpC _ _ (call (Value.type "bytearray") []) _ _ _); k_dflt (refine' c_new ?k1Z ?k2Z ?_; (case k1Z | k2Z => k_asm); k_whole); intro _ _ _ _ l1; (try k_lt l1); (try (revert l1; intro _)); (try k_sweep)))
  (k_with "L getMethod ref" => (k_here; (with_reducible show wpAny _ _ (getMethod (Value.ref _) (PySem.Str.ofString "extend") _) _ _ _); k_dflt (refine' (meth_extend ?xZ).here ?_; (case xZ => exact (News.get (by k_asm) (by k_mem))); k_whole)))
  (k_with "L getMethod ref" => (k_here; (with_reducible show wpAny _ _ (getMethod (Value.ref _) (PySem.Str.ofString "append") _) _ _ _); k_dflt (refine' (meth_append ?xZ).here ?_; (case xZ => exact (News.get (by k_asm) (by k_mem))); k_whole)))
  (k_with "L harm" => fail "no harm")
  (k_with "L cw" => first | ((with_reducible refine c_consL ?_); intro _) | with_reducible refine c_nil ?_ | k_extra "L harm" | with_reducible refine c_If ?_ | ((with_reducible show wpC _ _ (isTrue (Expr.Compare (Expr.Call _ _ _ _) _ _ _) _ _) _ _ _); refine c_isTrue ?_) | with_reducible refine ofA_isTrue ?_ | ((with_reducible show wpC _ _ (exec (Stmt.Expr (Expr.Call _ _ _ _) _) _) _ _ _); refine c_Expr ?_) | with_reducible refine c_Assign ?_ | ((with_reducible show wpC _ _ (exec (Stmt.Assign [Expr.Attribute _ _ _] (Expr.Call _ _ _ _) _) _) _ _ _); refine c_AssignA ?_) | with_reducible refine c_Return ?_ | with_reducible refine ofA_exec ?_ | with_reducible refine c_Meth ?_ | with_reducible refine c_Call ?_ | ((with_reducible show wpC _ _ (eval (Expr.BinOp _ _ _ _) _) _ _ _); k_dflt (refine' ofA_eval (ev_use ?hZ ?_); (case hZ => k_extra "L my ev"); k_whole)) | with_reducible refine c_BinOp ?_ | with_reducible refine c_Compare ?_ | with_reducible refine c_And ?_ | with_reducible refine c_And1 ?_ | with_reducible refine ofA_eval ?_ | with_reducible refine c_args ?_ | with_reducible refine c_args0 ?_ | with_reducible refine c_with1 ?_ | ((with_reducible show wpC _ _ (callWith _ _ _ _ _) _ _ _); refine c_with0 (by k_extra "L keep at") ?_) | ((with_reducible show KeepAt _ _ _ ∧ _); refine ⟨by k_extra "L keep at", ?_⟩; (try dsimp only [List.cons_append, List.nil_append])) | k_extra "L c call" | with_reducible refine ofA_call ?_ | with_reducible refine c_ite1 (by assumption) ?_ | with_reducible refine c_ite0 (by assumption) ?_)
  (k_with "L c steps" => repeat' (first | ((with_reducible show wpAny _ _ _ _ _ _); walk1) | k_extra "L cw" | (k_unfold; (try dsimp only)) | ((show (_ : Flow → Shared → Prop) _ _); k_unfold; (try dsimp only)) | (k_end; wrow_close) | walk1 | (dsimp only; walk1) | (leave1; try dsimp only) | (dsimp only; k_extra "L cw") | fail "no step"))
  (k_with "L c call" => ( (with_reducible show wpC _ _ (call (Value.type "enumerate") [Value.bytes _ _]) _ _ _); k_dflt (refine' wpC_of_any (r_enumB ?k1Z ?k2Z ?_); (case k1Z | k2Z => k_asm); k_whole); intro _ _ _ _ _ l1 l2; (try k_lt l1); (try (revert l1; intro _)); (try k_lt2 l2); (try (revert l2; intro _)); (try k_sweep)))
  (k_with "L call type:bytes" => ((with_reducible show wpAny _ _ (call (Value.type "bytes") [Value.bytes _ _]) _ _ _); refine r_bytesB ?_))
  (k_with "L call type:bytes" => ((with_reducible show wpAny _ _ (call (Value.type "bytes") [Value.ref _]) _ _ _); k_dflt (refine' r_bytesBa ?aZ ?zZ ?_; (case aZ => exact (News.get (by k_asm) (by k_mem))); (case zZ => k_extra "L my blen"); k_whole); intro _ _))
  (k_with "L harm" => first | ((with_reducible show wpC _ _ (exec (Stmt.For _ _ _ [] _) _) _ _ _); refine c_For ?_) | ((with_reducible show wpC _ _ (pyIter _) _ _ _); refine wpC_of_any ?_))
  (k_with "L harm" => first | ((with_reducible show wpC _ _ (exec (Stmt.For _ _ _ [] _) _) _ _ _); refine c_For ?_) | ((with_reducible show wpC _ _ (exec (Stmt.While _ _ [] _) _) _ _ _); refine c_WhileR ?_) | ((with_reducible show codeC _ _ (Code.whileLoop _ _ [] _) _ _); refine codeC_while1 ?_) | ((with_reducible show LoopR _ _ _ _ _ _ _ _); dsimp only [LoopR]) | ((with_reducible show wpC _ _ (pyIter _) _ _ _); refine wpC_of_any ?_))
  (k_with "L binaryOp LShift int int" => (refine' r_shl8 ?aZ ?bZ ?_; (case aZ => with_reducible rfl); (case bZ => omega)))
  (k_with "L binaryOp LShift int int" => (refine' r_shl9 ?aZ ?bZ ?_; (case aZ => with_reducible rfl); (case bZ => omega)))
  (k_with "L binaryOp BitOr int int" => (with_reducible refine' r_or8 ?aZ ?bZ ?cZ ?_; (case aZ | bZ | cZ => omega)))
  (k_with "L binaryOp BitOr int int" => (with_reducible refine' r_or9 ?aZ ?bZ ?cZ ?_; (case aZ | bZ | cZ => omega)))
  (k_with "L binaryOp BitAnd int int" => (first | (with_reducible refine' r_mask (b := 268435456 - 1) (c := 268435456) 28 ?aZ ?bZ ?_; (case aZ | bZ => decide)) | (with_reducible refine' r_mask (b := 255) (c := 256) 8 ?aZ ?bZ ?_; (case aZ | bZ => decide)) | (with_reducible refine r_maskW ?_)))
  (k_with "L my putL" => first | with_reducible exact putL_e2 | with_reducible exact putL_e3 | with_reducible exact putL_e4 | with_reducible exact putL_e5 | with_reducible exact putL_e6 | with_reducible exact putL_e7 | with_reducible exact putL_e8)
  (k_with "L my putN" => first | with_reducible exact putN_e2 | with_reducible exact putN_e3 | with_reducible exact putN_e4 | with_reducible exact putN_e5 | with_reducible exact putN_e6 | with_reducible exact putN_e7 | with_reducible exact putN_e8)
  trivial
theorem write_ok (w : World) (loose : List Str) (mean : ExcName → Option Value) (mg mb : Str → Option Value)
    (x d f : Addr) (n : Nat) (kh : Nat → Int × Tok) (ve vm vc vt vf : Value) (ws : WS) (tb tn tw : Tok) (code : Int) (tkc : Tok) (rest : List (Addr × Obj))
    (hxd : @Ne Nat x d) (hxf : @Ne Nat x f) (hdf : @Ne Nat d f) (hrd : ∀ p ∈ rest, p.1 ≠ d) (hrf : ∀ p ∈ rest, p.1 ≠ f)
    (hb : 0 ≤ ws.bits ∧ ws.bits < 256) (hm : 0 ≤ ws.many ∧ ws.many ≤ 7) (hc : 0 ≤ code ∧ code < 512) (hz : ws.found.length ≤ 90000) :
    CallC w loose mean mg mb 3 (.ref 154) [.ref x, .int code tkc]
      ((x, instObj 185 d) :: (d, dictOf (encEs kh ve vm (.int ws.bits tb) (.int ws.many tn) (.ref f) vc (.int 9 tw) vt vf) n) :: (f, baObj ws.found) :: rest)
      (fun r news' => r = .none ∧ ∃ tb' tn', news' = (x, instObj 185 d) :: (d, dictOf (encEs kh ve vm (.int (writeM ws code).bits tb') (.int (writeM ws code).many tn') (.ref f) vc (.int 9 tw) vt vf) n) :: (f, baObj (writeM ws code).found) :: rest)
      (fun _ => False) := by
  unfold CallC
  obtain ⟨bits, many, found⟩ := ws
  dsimp only at *
  intro dp un gd cn cs a ccd cl outer A₀ base h₀ L m s Q E
  k_fill
  obtain ⟨hp', gn, dr, tk0, os⟩ := s
  intro B F X N T hkk hd hu hret hexc
  refine wpC_call ?_
  by_cases hm7 : many = 7
  all_goals (first
    | rw [show writeM ⟨bits, many, found⟩ code = _ from if_pos hm7] at hret
    | rw [show writeM ⟨bits, many, found⟩ code = _ from if_neg hm7] at hret)
  all_goals (
    k_dflt (walk_at "c enter")
    walk_at "c steps")
  all_goals (
    (rename News _ _ _ _ => N9)
    (rename Fr _ _ _ _ => F9)
    exact hret _ _ _ _ F9 N9 ⟨rfl, _, _, rfl⟩)
theorem reg_PEnc : True := by
  (k_with "L c class" => (refine' c_cls ?k1Z ?k2Z ?k3Z ?k4Z ?k5Z ?k6Z ?_; (case k1Z | k2Z | k3Z => k_asm); (case k4Z | k5Z | k6Z => k_is); k_whole; intro _ _ _ _ _ l1 l2; (try k_lt l1); (try (revert l1; intro _)); (try k_lt2 l2); (try (revert l2; intro _)); (try k_sweep); rw [under_make]; k_extra "L c enter"))
  trivial
theorem grow_ok (w : World) (loose : List Str) (mean : ExcName → Option Value) (mg mb : Str → Option Value)
    (x d : Addr) (n : Nat) (kh : Nat → Int × Tok) (early fo : Int) (te tm tw tf : Tok) (vb vn vf vc vt : Value) (rest : List (Addr × Obj))
    (hxd : @Ne Nat x d) (hrd : ∀ p ∈ rest, p.1 ≠ d) (he : 0 ≤ early ∧ early ≤ 1) (hf : 258 ≤ fo ∧ fo ≤ 400) :
    CallOk w loose mean mg mb 1 (.ref 175) [.ref x]
      ((x, instObj 185 d) :: (d, dictOf (encEs kh (.int early te) (.int 12 tm) vb vn vf vc (.int 9 tw) vt (.int fo tf)) n) :: rest)
      (fun r news' => r = .none ∧ ∃ tf', news' = (x, instObj 185 d) :: (d, dictOf (encEs kh (.int early te) (.int 12 tm) vb vn vf vc (.int 9 tw) vt (.int (fo + 1) tf')) n) :: rest) := by
  unfold CallOk
  intro dp un gd cn cs a ccd cl outer A₀ base h₀ L m s Q E
  k_fill
  obtain ⟨hp, gn, dr, tk0, os⟩ := s
  intro B F X N T hk hd hu hret
  refine wpAny_call ?_
  k_dflt (walk_at "my enter")
  k_steps
  all_goals (
    (rename News _ _ _ _ => N9)
    (rename Fr _ _ _ _ => F9)
    exact hret _ _ _ _ F9 N9 ⟨rfl, _, rfl⟩)
theorem etold_ok (w : World) (loose : List Str) (mean : ExcName → Option Value) (mg mb : Str → Option Value)
    (x d f : Addr) (n : Nat) (kh : Nat → Int × Tok) (ve vm vb vn vc vw vt vf : Value) (found : List UInt8) (rest : List (Addr × Obj))
    (hxd : @Ne Nat x d) (hdf : @Ne Nat d f) (hrd : ∀ p ∈ rest, p.1 ≠ d) (hz : found.length ≤ 90000) :
    CallC w loose mean mg mb 2 (.ref 161) [.ref x]
      ((x, instObj 185 d) :: (d, dictOf (encEs kh ve vm vb vn (.ref f) vc vw vt vf) n) :: (f, baObj found) :: rest)
      (fun r news' => ∃ f' tk, r = .bytes found.toArray tk ∧ (@LT.lt Nat _ x f' ∧ @LT.lt Nat _ d f' ∧ AllLt f' rest) ∧ news' = (x, instObj 185 d) :: (d, dictOf (encEs kh ve vm vb vn (.ref f') vc vw vt vf) n) :: (f', baObj []) :: rest)
      (fun _ => False) := by
  unfold CallC
  intro dp un gd cn cs a ccd cl outer A₀ base h₀ L m s Q E
  k_fill
  obtain ⟨hp', gn, dr, tk0, os⟩ := s
  intro B F X N T hkk hd hu hret hexc
  refine wpC_call ?_
  k_dflt (walk_at "c enter")
  walk_at "c steps"
  (rename News _ _ _ _ => N9)
  (rename Fr _ _ _ _ => F9)
  exact hret _ _ _ _ F9 (News.sub N9 (by walk_at "my sub")) ⟨_, _, rfl, ⟨And.left (by assumption), And.left (And.right (by assumption)), And.right (And.right (And.right (by assumption)))⟩, rfl⟩
theorem reg_Enc0 : True := by
  (k_with "L c call" => ((with_reducible show wpC _ _ (call (Value.ref 154) _) _ _ _); refine goC ?_; intro _))
  trivial
theorem emk_ok (w : World) (loose : List Str) (mean : ExcName → Option Value) (mg mb : Str → Option Value)
    (early : Int) (te tmo : Tok) (rest : List (Addr × Obj)) (he : 0 ≤ early ∧ early ≤ 1) :
    CallC w loose mean mg mb 6 (.ref 185) [.int early te, .int 12 tmo] rest
      (fun r news' => ∃ x d f tb, r = .ref x ∧ EncL w early 0 encInit x d f tb rest news') (fun _ => False) := by
  unfold CallC
  intro dp un gd cn cs a ccd cl outer A₀ base h₀ L m s Q E
  k_fill
  obtain ⟨hp', gn, dr, tk0, os⟩ := s
  intro B F X N T hkk hd hu hret hexc
  k_dflt (walk_at "c class")
  rename_i xE dE _ _ _ lE l2E gF LF hF0 tF FGF FF NF BF XF TF
  walk_at "c steps"
  rename_i fE _ lf _ _ _ _ _ _ _ _ _ _ _ _ _ _ _ _ _ _ _ _ _ _ _ _ _ _ tbE _ oT loT _ _ hiT _ lT _ _ _ _ _ _ _ _ _ _ _ kF9 kN9 _ _ _ _
  refine StopAt.mk ?_
  refine' CallC.at (write_ok w loose mean mg mb xE dE fE _ (khOf [(_, _), (_, _), (_, _), (_, _), (_, _), (_, _), (_, _), (_, _), (_, _)]) (.int early te) (.int 12 tmo) .none (.ref tbE) (.int 258 _) ⟨0, 0, []⟩ _ _ _ 256 _ ((tbE, oT) :: rest) (Nat.ne_of_gt l2E) (Nat.ne_of_lt lf.1) (Nat.ne_of_lt lf.2.1) ?rd ?rf ⟨by decide, by decide⟩ ⟨by decide, by decide⟩ ⟨by decide, by decide⟩ (by decide)) BF kF9 XF (News.sub kN9 ?s) TF rfl (by omega) (by omega) ?ret (fun _ _ _ _ _ _ _ _ h => h.elim)
  case s => walk_at "my sub"
  case rd => exact List.forall_mem_cons.mpr ⟨Nat.ne_of_gt lT.2.2.1, fun p hp => Nat.ne_of_lt (lE p hp)⟩
  case rf => exact List.forall_mem_cons.mpr ⟨Nat.ne_of_gt lT.1, allLt_ne lf.2.2⟩
  case ret =>
    rintro r n' h' tk' F' N' ⟨rfl, tb', tn', rfl⟩
    walk_at "c steps"
    (rename News _ _ _ _ => N9)
    (rename Fr _ _ _ _ => F9)
    exact hret _ _ _ _ F9 N9 ⟨xE, dE, fE, tbE, rfl, _, _, te, tmo, tb', tn', 0, _, _, oT, [], ⟨[], TupTab.ofEmpty (.head _) loT hiT, Nat.zero_le _, fun _ _ => rfl⟩,
      ⟨Nat.ne_of_gt l2E, Nat.ne_of_lt lf.1, Nat.ne_of_lt lT.2.1, Nat.ne_of_lt lf.2.1, Nat.ne_of_lt lT.2.2.1, Nat.ne_of_lt lT.1, fun p hp => Nat.ne_of_lt (lE p hp), allLt_ne lf.2.2, allLt_ne lT.2.2.2⟩, rfl⟩
theorem reg_PEncF : True := by
  k_with_none
  (k_with "L om" => first | with_reducible assumption | (with_reducible refine Ne.symm ?_; assumption) | ((with_reducible refine low1 (by assumption) ?_); exact rfl) | ((with_reducible refine low2 (by assumption) ?_); exact rfl) | ((with_reducible refine low7 (by assumption) ?_); exact rfl) | with_reducible exact low8 (by assumption) | ((with_reducible refine low3 (by assumption) ?_); exact rfl) | ((with_reducible refine low4 (by assumption) ?_); exact rfl) | with_reducible exact low5 (by assumption) | with_reducible exact low6 (by assumption) | with_reducible exact And.left (by assumption) | with_reducible exact And.right (by assumption) | with_reducible exact And.intro (by assumption) (by assumption) | ((with_reducible refine low9 (by assumption) ?_); exact rfl) | ((with_reducible refine low10 (by assumption) ?_); exact rfl) | ((with_reducible refine low12 (by assumption) ?_); exact rfl) | with_reducible exact Nat.le_succ_of_le (by assumption) | with_reducible exact Nat.add_le_add (by assumption) (Nat.min_le_left _ _) | ((with_reducible refine low16 (by assumption) (by assumption) ?_); exact rfl) | with_reducible exact low17 (by assumption) (by assumption) | with_reducible exact low18 (by assumption) | with_reducible exact low19 (by assumption) (by assumption) | with_reducible exact low20 (by assumption) | with_reducible exact And.intro (Int.emod_nonneg _ (by decide)) (Int.emod_lt_of_pos _ (by decide)) | ((with_reducible refine low21 (by assumption) ?_); exact rfl) | ((with_reducible refine low22 (by assumption) ?_); exact rfl) | with_reducible exact low6 (And.left (by assumption)) | with_reducible exact low6 (And.left (And.right (by assumption))) | with_reducible exact low6 (And.left (And.right (And.right (by assumption)))) | with_reducible exact low6 (And.left (And.right (And.right (And.right (by assumption))))) | with_reducible exact low6 (And.right (by assumption)) | lia | with_reducible contradiction)
  (k_with "L my putL" => first | with_reducible exact putL_d4 | with_reducible exact putL_d5 | with_reducible exact putL_d6 | with_reducible exact putL_d7 | with_reducible exact putL_d8 | with_reducible exact putL_d2 | with_reducible exact putL_d3 | (refine' putL_hd ?xZ; (case xZ => decide +kernel)) | (refine' putL_tl ?xZ ?yZ; (case xZ => decide +kernel); (case yZ => k_extra "L my putL")))
  (k_with "L my putN" => first | with_reducible exact putN_d4 | with_reducible exact putN_d5 | with_reducible exact putN_d6 | with_reducible exact putN_d7 | with_reducible exact putN_d8 | with_reducible exact putN_d2 | with_reducible exact putN_d3 | (refine' putN_hd ?xZ; (case xZ => decide +kernel)) | (refine' putN_tl ?xZ ?yZ; (case xZ => decide +kernel); (case yZ => k_extra "L my putN")))
  (k_with "L all" => first | assumption | exact allLt_ne (by assumption) | exact allLt_ne (And.right (by assumption)) | exact allLt_ne (And.right (And.right (by assumption))) | exact allLt_ne (And.right (And.right (And.right (by assumption)))))
  (k_with "L room" => ((try simp only [depth_under_make, depth_under_kw, depth_in1, depth_deeper, depth_caller]); (try dsimp only [ktrTop]); omega))
  (k_with "L execs cons" => (refine r_consL ?_; intro _))
  (k_with "L execs nil" => refine wpAny_execs_nil ?_)
  (k_with "L exec If" => refine wpAny_If ?_)
  (k_with "L eval Constant int" => refine r_int ?_)
  (k_with "L eval Constant bytes" => refine r_bytes ?_)
  (k_with "L eval Constant str" => refine r_str ?_)
  (k_with "L binaryOp Add int int" => refine r_add ?_)
  (k_with "L binaryOp Sub int int" => refine r_sub ?_)
  (k_with "L binaryOp BitAnd int int" => refine r_and ?_)
  (k_with "L binaryOp BitOr int int" => refine r_or ?_)
  (k_with "L binaryOp RShift int int" => (refine' r_shr ?aZ ?_; (case aZ => omega)))
  (k_with "L binaryOp Mod int int" => (refine' r_mod ?aZ ?_; (case aZ => omega)))
  (k_with "L binaryOp LShift int int" => first | with_reducible refine r_shl09 ?_ | with_reducible refine r_shl10 ?_ | with_reducible refine r_shl12 ?_ | with_reducible refine r_shl28 ?_ | (refine' r_shl ?aZ ?bZ ?cZ ?_; (case aZ | bZ | cZ => omega)))
  (k_with "L call builtin:len" => ( (with_reducible show wpAny _ _ (call (Value.builtin "len") [Value.ref _]) _ _ _); refine' r_len ?NZ ?mZ ?zZ ?_; (case NZ => k_asm); (case mZ => k_mem); (case zZ => first | omega | (simp only [List.size_toArray, Array.size_push] at *; omega))))
  (k_with "L getAttr ref" => (k_here; k_dflt ( refine' r_getattr ?k1Z ?k2Z ?k3Z ?k4Z ?k5Z ?k6Z ?k7Z ?k8Z ?k9Z ?_; (case k1Z | k2Z => k_asm); (case k3Z => k_inst); (case k4Z | k5Z | k6Z | k7Z => k_is); (case k8Z => k_get); (case k9Z => k_handed); k_whole)))
  (k_with "L setAttr ref" => (k_here; k_dflt (first | (refine' r_setattr ?k1Z ?k2Z ?k3Z ?k4Z ?k5Z ?k6Z ?k7Z ?k8Z ?k9Z ?k10Z ?k11Z ?k11bZ ?k12Z ?k13Z ?_; (case k1Z | k2Z | k3Z => k_asm); (case k4Z => k_inst); (case k5Z => exact rfl); (case k6Z | k7Z | k8Z | k9Z => k_is); (case k10Z => k_get); (case k11Z => (intro _; k_extra "L my putL")); (case k11bZ => k_extra "L my putN"); (case k12Z => k_upd); (case k13Z => exact Nat.le_of_ble_eq_true rfl); k_whole; intro _ _ _ _; (try k_sweep)) | (refine' r_newattr ?k1Z ?k2Z ?k3Z ?k4Z ?k5Z ?k6Z ?k7Z ?k8Z ?k9Z ?k10Z ?k11Z ?k12Z ?k13Z ?_; (case k1Z | k2Z | k3Z => k_asm); (case k4Z => k_inst); (case k5Z => exact rfl); (case k6Z | k7Z | k8Z | k9Z => k_is); (case k10Z => k_get); (case k11Z => exact rfl); (case k12Z => exact Nat.le_of_ble_eq_true rfl); (case k13Z => k_updF); k_whole; intro _ _ _ _ _ N'; (dsimp only [List.cons_append, List.nil_append] at N'); (try (revert N'; intro _)); (try k_sweep)))))
  (k_with "L storeName" => (k_here; k_dflt ( refine' r_store ?k1Z ?k2Z ?k3Z ?k4Z ?_; (case k1Z | k2Z => k_asm); (case k3Z | k4Z => rfl); k_whole; intro _ _ _ _; (try k_sweep))))
  (k_with "L newList" => (k_here; k_dflt (refine' r_newList ?k1Z ?k2Z ?k3Z ?_; (case k1Z | k2Z => k_asm); (case k3Z => exact Nat.le_of_ble_eq_true rfl); k_whole); intro _ _ _ _ l1; (try k_lt l1); (try (revert l1; intro _)); (try k_sweep)))
  (k_with "L call builtin:list.append" => (k_here; (with_reducible show wpAny _ _ (call (Value.builtin _) [Value.ref _, _]) _ _ _); k_dflt (refine' r_append ?k1Z ?k2Z ?k3Z ?zZ ?_; (case k1Z | k2Z => k_asm); (case k3Z => k_upd); (case zZ => first | omega | (simp only [List.size_toArray, Array.size_push] at *; omega)); k_whole); intro _ _ _; (try k_sweep)))
  (k_with "L my enter" => (refine' r_enter ?k1Z ?k2Z ?k3Z ?k4Z ?k5Z ?kAZ ?kFZ ?kKZ ?k6Z ?k7Z ?k8Z ?k9Z ?kBZ ?_ ?c2Z ?c3Z ?c4Z ?c5Z; (case kAZ | kFZ => exact rfl); (case kKZ => first | assumption | exact rfl); (case k1Z | k2Z | k3Z | k4Z | k5Z => k_asm); (case k6Z | k7Z => k_is); (case k8Z => k_room); (case k9Z => first | exact BindsTo.of_eq rfl | exact binds_K (by k_in) rfl (by k_is) rfl rfl rfl); (case c5Z => decide); (case kBZ => exact locs rfl); (case c2Z | c3Z | c4Z => exact rfl); k_whole; intro _ _ _ _ _ _ _ _ _ _; (try dsimp only); (try k_fold)))
  (k_with "L my class" => (refine' call_cls ?k1Z ?k2Z ?k3Z ?k4Z ?k5Z ?k6Z ?_; (case k1Z | k2Z | k3Z => k_asm); (case k4Z | k5Z | k6Z => k_is); k_whole; intro _ _ _ _ _ l1 l2; (try k_lt l1); (try (revert l1; intro _)); (try k_lt2 l2); (try (revert l2; intro _)); (try k_sweep); k_extra "L my enter"))
  (k_with "L call ref" => (k_here; k_dflt (first | k_extra "L my class" | (refine wpAny_call ?_; k_extra "L my enter"))))
  (k_with "L my sub" => first | exact mem_all | (refine List.forall_mem_cons.mpr ⟨?_, ?_⟩; (k_mem); k_extra "L my sub") | exact List.forall_mem_nil _ | (refine mem_step ?_; k_extra "L my sub"))
  (k_with "L my blen" => first | k_extra "L om" | exact Nat.zero_le _ | ((simp only [List.length_append, List.length_cons, List.length_nil, List.length_take, List.length_drop]); omega) | omega | exact Nat.le_trans (cut_length _ _ _) (by omega) | (simp only [List.length_append, List.length_cons, List.length_nil, List.length_take, List.length_drop]; omega))
  (k_with "L binaryOp Add bytes bytes" => (refine' r_badd ?zZ ?z2Z ?_; (case zZ | z2Z => k_extra "L my blen"); intro _ _))
  (k_with "L compareOp Eq bytes bytes" => refine r_beq ?_)
  (k_with "L subscriptTail" => (k_here; (with_reducible show wpAny _ _ (subscriptTail _ (Expr.Slice _ _ none _) (Value.bytes _ _) (Value.ref _)) _ _ _); k_dflt (refine' r_slice ?FZ ?NZ ?lZ ?uZ ?zZ ?_ ?sZ ?tZ; (case FZ | NZ => k_asm); (case lZ | uZ => constructor); (case zZ => omega); (case sZ => with_unfolding_all rfl); (case tZ => intro _; with_unfolding_all rfl)); intro _ _ _ _ _; (try k_sweep)))
  (k_with "L subscriptTail" => (k_here; (with_reducible show wpAny _ _ (subscriptTail _ _ (Value.ref _) (Value.int _ _)) _ _ _); k_dflt (refine' r_item ?NZ ?mZ ?aZ ?bZ ?xZ ?_ ?sZ ?tZ; (case NZ => k_asm); (case mZ => k_mem); (case aZ | bZ => omega); (case xZ => first | assumption | rfl); (case sZ => with_unfolding_all rfl); (case tZ => intro _; with_unfolding_all rfl))))
  (k_with "L my ev" => first | ((with_reducible show Ev _ _ _ _ _ _ _ (Expr.Constant _ _ _) _ _ _); first | exact ev_int | (intro _ _ Hx; walk1; with_reducible exact Hx)) | ((with_reducible show Ev _ _ _ _ _ _ _ (Expr.Name _ _) _ _ _); first | (refine' ev_L ?FZ ?vZ ?aZ ?bZ ?dZ; (case FZ => k_asm); (case aZ | bZ => rfl); (case dZ => decide); (case vZ => rfl)) | (intro _ _ Hx; walk1; with_reducible exact Hx)) | ((with_reducible show Ev _ _ _ _ _ _ _ (Expr.Attribute _ _ _) _ _ _); refine' ev_attr ?k1Z ?k2Z ?vZ ?k3Z ?k4Z ?k5Z ?k6Z ?k7Z ?k8Z ?k9Z ?aZ ?bZ ?dZ; (case k1Z | k2Z => k_asm); (case aZ | bZ => rfl); (case dZ => decide); (case vZ => rfl); (case k3Z => k_inst); (case k4Z | k5Z | k6Z | k7Z => k_is); (case k8Z => k_get); (case k9Z => k_handed)) | ((with_reducible show Ev _ _ _ _ _ _ _ (Expr.BinOp _ _ _ _) _ _ _); refine' ev_bin ?lZ ?rZ ?oZ; (case lZ | rZ => k_extra "L my ev"); (case oZ => (intro _ _ Hx; walk1; with_reducible exact Hx))) | ((with_reducible show Ev _ _ _ _ _ _ _ (Expr.Call (Expr.Name (Str.ofString "len") _) [_] [] _) _ _ _); intro _ _ Hx; (repeat walk1); with_reducible exact Hx))
  (k_with "L eval BinOp" => (k_here; k_dflt (refine' ev_use ?hZ ?_; (case hZ => k_extra "L my ev"); k_whole)))
  (k_with "L eval Attribute Name" => (k_here; k_dflt (refine' ev_use ?hZ ?_; (case hZ => k_extra "L my ev"); k_whole)))
  (k_with "L isTrue Compare" => (k_here; k_dflt (refine' ev_isTrue ?lZ ?rZ ?oZ ?mZ ?_; (case lZ | rZ => k_extra "L my ev"); (case oZ => (intro _ _ Hx; walk1; with_reducible exact Hx)); (case mZ => with_unfolding_all rfl); k_whole)))
  (k_with "L call ref" => (k_here; (with_reducible show wpAny _ _ (call (Value.ref 45) _) _ _ _); refine' r_excMake ?k1Z ?k2Z ?k3Z ?k4Z ?k5Z ?k6Z ?k7Z ?_; (case k1Z | k2Z | k3Z => k_asm); (case k4Z => exact Nat.le_of_ble_eq_true rfl); (case k5Z => kernel_rfl); (case k6Z | k7Z => k_is); k_whole; intro _ _ _ _ _ l1; (try k_lt l1); (try (revert l1; intro _)); (try k_sweep); k_extra "L my enter"))
  (k_with "L setAttr ref" => (k_here; (with_reducible show wpAny _ _ (setAttr _ "told" (Value.bytes _ _)) _ _ _); refine' r_excSet ?k1Z ?k2Z ?k3Z ?k4Z ?_; (case k1Z | k2Z | k3Z => k_asm); (case k4Z => k_updF); k_whole; intro _ _ _ _ _ _ _ l1; (try k_lt l1); (try (revert l1; intro _)); (try k_sweep)))
  (k_with "L Inst45" => (k_here; k_dflt (refine' ⟨_, _, _, rfl, ?aZ, ?cZ, ?dZ, ?eZ, ?bZ, ?_⟩; (case aZ => exact (News.get (by k_asm) (by k_mem))); (case cZ | dZ | eZ => exact rfl); (case bZ => exact Frag.In.keeps (by k_asm) (Fr.keep (by k_asm))); k_whole)))
  (k_with "L exec Raise some none" => (k_here; k_dflt (refine' r_raise ?aZ ?_; (case aZ => rfl); k_whole)))
  (k_with "L my nes" => first | exact List.forall_mem_nil _ | k_all | (refine List.forall_mem_cons.mpr ⟨?_, ?_⟩; (show @Ne Nat _ _; omega); k_extra "L my nes"))
  (k_with "L leaving ref" => (k_here; (rename Gone _ _ _ _ _ => gX); (rename Heap.UpToSlots _ _ => uX); k_dflt (refine' leave_more ?KZ ?FZ ?fZ ?RZ ?UZ ?_; (case KZ => assumption); (case RZ => exact gX); (case UZ => exact uX); (case FZ => assumption); (case fZ => exact rfl); k_whole); (try clear gX uX); intro _ _ _))
  (k_with "L leaving ref" => (k_here; k_dflt (refine' leave_first ?KZ ?FZ ?fZ ?kZ ?NZ ?aZ ?bZ ?_; (case KZ | FZ => assumption); (case fZ | kZ => exact rfl); (case NZ => assumption); (case aZ => k_extra "L my nes"); (case bZ => (show @Ne Nat _ _; omega)); k_whole); intro _ _ _))
  (k_with "L c enter" => (refine' c_enter ?k1Z ?k2Z ?k3Z ?k4Z ?k5Z ?kAZ ?kFZ ?kKZ ?k6Z ?k7Z ?k8Z ?k9Z ?kBZ ?_ ?c2Z ?c3Z ?c4Z ?c5Z; (case kAZ | kFZ => exact rfl); (case kKZ => first | assumption | exact rfl); (case k1Z | k2Z | k3Z | k4Z | k5Z => k_asm); (case k6Z | k7Z => k_is); (case k8Z => k_room); (case k9Z => first | exact BindsTo.of_eq rfl | exact binds_K (by k_in) rfl (by k_is) rfl rfl rfl); (case c5Z => decide); (case kBZ => exact locs rfl); (case c2Z | c3Z | c4Z => exact rfl); k_whole; intro _ _ _ _ _ _ _ _ _ _; (try dsimp only)))
  (k_with "L keep at" => first | ((with_reducible show KeepAt _ (Value.ref _) _); refine keep_ref (by k_in) (by k_is)) | exact keep_append | exact keep_extend | exact keep_bytearray | exact ⟨.machine, .inr (.inl rfl), Looks.of_pure (by kernel_rfl)⟩)
  (k_with "L c call" => ( (with_reducible show wpC _ _ (call (Value.builtin "bytearray.append") [Value.ref _, Value.int _ _]) _ _ _); k_dflt (refine' c_append ?k1Z ?k2Z ?k3Z ?k4Z ?k5Z ?zZ ?_; (case k1Z | k2Z => k_asm); (case k3Z => k_upd); (case k4Z | k5Z => omega); (case zZ => k_extra "L my blen"); k_whole); intro _ _ _; (try k_sweep)))
  (k_with "L c call" => ( (with_reducible show wpC _ _ (call (Value.builtin "bytearray.extend") [Value.ref _, Value.bytes _ _]) _ _ _); k_dflt (refine' c_extend ?k1Z ?k2Z ?k3Z ?zZ ?_; (case k1Z | k2Z => k_asm); (case k3Z => k_upd); (case zZ => k_extra "L my blen"); k_whole); intro _ _ _; (try k_sweep)))
  (k_with "L c call" => ( (with_reducible show wpC _ _ (call (Value.type "bytearray") []) _ _ _); k_dflt (refine' c_new ?k1Z ?k2Z ?_; (case k1Z | k2Z => k_asm); k_whole); intro _ _ _ _ l1; (try k_lt l1); (try (revert l1; intro _)); (try k_sweep)))
  (k_with "L getMethod ref" => (k_here; (with_reducible show wpAny _ _ (getMethod (Value.ref _) (PySem.Str.ofString "extend") _) _ _ _); k_dflt (refine' (meth_extend ?xZ).here ?_; (case xZ => exact (News.get (by k_asm) (by k_mem))); k_whole)))
  (k_with "L getMethod ref" => (k_here; (with_reducible show wpAny _ _ (getMethod (Value.ref _) (PySem.Str.ofString "append") _) _ _ _); k_dflt (refine' (meth_append ?xZ).here ?_; (case xZ => exact (News.get (by k_asm) (by k_mem))); k_whole)))
  (k_with "L harm" => fail "no harm")
  (k_with "L cw" => first | ((with_reducible refine c_consL ?_); intro _) | with_reducible refine c_nil ?_ | k_extra "L harm" | with_reducible refine c_If ?_ | ((with_reducible show wpC _ _ (isTrue (Expr.Compare (Expr.Call _ _ _ _) _ _ _) _ _) _ _ _); refine c_isTrue ?_) | with_reducible refine ofA_isTrue ?_ | ((with_reducible show wpC _ _ (exec (Stmt.Expr (Expr.Call _ _ _ _) _) _) _ _ _); refine c_Expr ?_) | with_reducible refine c_Assign ?_ | ((with_reducible show wpC _ _ (exec (Stmt.Assign [Expr.Attribute _ _ _] (Expr.Call _ _ _ _) _) _) _ _ _); refine c_AssignA ?_) | with_reducible refine c_Return ?_ | with_reducible refine ofA_exec ?_ | with_reducible refine c_Meth ?_ | with_reducible refine c_Call ?_ | ((with_reducible show wpC _ _ (eval (Expr.BinOp _ _ _ _) _) _ _ _); k_dflt (refine' ofA_eval (ev_use ?hZ ?_); (case hZ => k_extra "L my ev"); k_whole)) | with_reducible refine c_BinOp ?_ | with_reducible refine c_Compare ?_ | with_reducible refine c_And ?_ | with_reducible refine c_And1 ?_ | with_reducible refine ofA_eval ?_ | with_reducible refine c_args ?_ | with_reducible refine c_args0 ?_ | with_reducible refine c_with1 ?_ | ((with_reducible show wpC _ _ (callWith _ _ _ _ _) _ _ _); refine c_with0 (by k_extra "L keep at") ?_) | ((with_reducible show KeepAt _ _ _ ∧ _); refine ⟨by k_extra "L keep at", ?_⟩; (try dsimp only [List.cons_append, List.nil_append])) | k_extra "L c call" | with_reducible refine ofA_call ?_ | with_reducible refine c_ite1 (by assumption) ?_ | with_reducible refine c_ite0 (by assumption) ?_)
  (k_with "L c steps" => repeat' (first | ((with_reducible show wpAny _ _ _ _ _ _); walk1) | k_extra "L cw" | (k_unfold; (try dsimp only)) | ((show (_ : Flow → Shared → Prop) _ _); k_unfold; (try dsimp only)) | (k_end; wrow_close) | walk1 | (dsimp only; walk1) | (leave1; try dsimp only) | (dsimp only; k_extra "L cw") | fail "no step"))
  (k_with "L c call" => ( (with_reducible show wpC _ _ (call (Value.type "enumerate") [Value.bytes _ _]) _ _ _); k_dflt (refine' wpC_of_any (r_enumB ?k1Z ?k2Z ?_); (case k1Z | k2Z => k_asm); k_whole); intro _ _ _ _ _ l1 l2; (try k_lt l1); (try (revert l1; intro _)); (try k_lt2 l2); (try (revert l2; intro _)); (try k_sweep)))
  (k_with "L call type:bytes" => ((with_reducible show wpAny _ _ (call (Value.type "bytes") [Value.bytes _ _]) _ _ _); refine r_bytesB ?_))
  (k_with "L call type:bytes" => ((with_reducible show wpAny _ _ (call (Value.type "bytes") [Value.ref _]) _ _ _); k_dflt (refine' r_bytesBa ?aZ ?zZ ?_; (case aZ => exact (News.get (by k_asm) (by k_mem))); (case zZ => k_extra "L my blen"); k_whole); intro _ _))
  (k_with "L harm" => first | ((with_reducible show wpC _ _ (exec (Stmt.For _ _ _ [] _) _) _ _ _); refine c_For ?_) | ((with_reducible show wpC _ _ (pyIter _) _ _ _); refine wpC_of_any ?_))
  (k_with "L harm" => first | ((with_reducible show wpC _ _ (exec (Stmt.For _ _ _ [] _) _) _ _ _); refine c_For ?_) | ((with_reducible show wpC _ _ (exec (Stmt.While _ _ [] _) _) _ _ _); refine c_WhileR ?_) | ((with_reducible show codeC _ _ (Code.whileLoop _ _ [] _) _ _); refine codeC_while1 ?_) | ((with_reducible show LoopR _ _ _ _ _ _ _ _); dsimp only [LoopR]) | ((with_reducible show wpC _ _ (pyIter _) _ _ _); refine wpC_of_any ?_))
  (k_with "L binaryOp LShift int int" => (refine' r_shl8 ?aZ ?bZ ?_; (case aZ => with_reducible rfl); (case bZ => omega)))
  (k_with "L binaryOp LShift int int" => (refine' r_shl9 ?aZ ?bZ ?_; (case aZ => with_reducible rfl); (case bZ => omega)))
  (k_with "L binaryOp BitOr int int" => (with_reducible refine' r_or8 ?aZ ?bZ ?cZ ?_; (case aZ | bZ | cZ => omega)))
  (k_with "L binaryOp BitOr int int" => (with_reducible refine' r_or9 ?aZ ?bZ ?cZ ?_; (case aZ | bZ | cZ => omega)))
  (k_with "L binaryOp BitAnd int int" => (first | (with_reducible refine' r_mask (b := 268435456 - 1) (c := 268435456) 28 ?aZ ?bZ ?_; (case aZ | bZ => decide)) | (with_reducible refine' r_mask (b := 255) (c := 256) 8 ?aZ ?bZ ?_; (case aZ | bZ => decide)) | (with_reducible refine r_maskW ?_)))
  (k_with "L my putL" => first | with_reducible exact putL_e2 | with_reducible exact putL_e3 | with_reducible exact putL_e4 | with_reducible exact putL_e5 | with_reducible exact putL_e6 | with_reducible exact putL_e7 | with_reducible exact putL_e8)
  (k_with "L my putN" => first | with_reducible exact putN_e2 | with_reducible exact putN_e3 | with_reducible exact putN_e4 | with_reducible exact putN_e5 | with_reducible exact putN_e6 | with_reducible exact putN_e7 | with_reducible exact putN_e8)
  (k_with "L c class" => (refine' c_cls ?k1Z ?k2Z ?k3Z ?k4Z ?k5Z ?k6Z ?_; (case k1Z | k2Z | k3Z => k_asm); (case k4Z | k5Z | k6Z => k_is); k_whole; intro _ _ _ _ _ l1 l2; (try k_lt l1); (try (revert l1; intro _)); (try k_lt2 l2); (try (revert l2; intro _)); (try k_sweep); rw [under_make]; k_extra "L c enter"))
  trivial
section
section
variable {prog : Program} {w : World} {A : Around} {E : Value → Shared → Prop} {Q : Value → Shared → Prop} {h : Heap} {g : Array GenState} {d : Drawn} {t : Nat} {o : OsState} {h₀ : Heap} {L : Addr} {news led : List (Addr × Obj)}
  {tb a : Addr} {n : Nat} {f : Int → Int → Option Int} {x y : Int} {t1 t2 : Tok}
theorem r_inTup' {b : Bool} (N : News h₀ L h news) (T : TabF prog w led tb n f) (hs : ∀ p ∈ led, p ∈ news) (ha : (a, tup2 x y t1 t2) ∈ news) (hu : A.units + 1 < cLine) (hb : (f x y).isSome = b)
    (H : ∀ t2, Q (.bool b) ⟨h, g, d, t2, o⟩) : wpAny (model prog w) A (compareOp .In (.ref a) (.ref tb)) Q E ⟨h, g, d, t, o⟩ := r_inTup N T hs ha hu (by rw [hb]; exact H)
theorem map1 {x : Str} {a b : Option Value} {m : Str → Option Value} : (fun z => if z = x then a else (if z = x then b else m z)) = fun z => if z = x then a else m z := by
  funext z
  by_cases h1 : z = x
  · simp only [if_pos h1]
  · simp only [if_neg h1]
theorem mem_app {α : Type} {a b : List α} : ∀ p ∈ a, p ∈ a ++ b := fun _ => List.mem_append_left _
end
theorem reg_EncF0 : True := by
  (k_with "L c call" => ((with_reducible show wpC _ _ (call (Value.ref _) _) _ _ _); refine goC ?_; intro _))
  (k_with "L my sub" => assumption)
  (k_with "L newTuple" => (k_here; k_dflt (refine' r_newTuple ?k1Z ?k2Z ?k3Z ?_; (case k1Z | k2Z => k_asm); (case k3Z => exact Nat.le_of_ble_eq_true rfl); k_whole); intro _ _ _ _ l1; (try k_lt l1); (try (revert l1; intro _)); (try k_sweep)))
  (k_with "L compareOp In ref ref" => (k_here; (with_reducible show wpAny _ _ (compareOp CmpOp.In (Value.ref _) (Value.ref _)) _ _ _); k_dflt (refine' r_inTup' ?k1Z ?kTZ ?k3Z ?k4Z ?k5Z ?k6Z ?_; (case k1Z => k_asm); (case kTZ => assumption); (case k4Z => k_mem); (case k3Z => k_extra "L my sub"); (case k5Z => (dsimp only [ktrTop, Around.deeper]; omega)); (case k6Z => assumption)); intro _))
  (k_with "L subscriptTail" => (k_here; (with_reducible show wpAny _ _ (subscriptTail _ _ (Value.ref _) (Value.ref _)) _ _ _); k_dflt (refine' r_getTup ?k1Z ?kTZ ?k3Z ?k4Z ?k5Z ?k6Z ?_ ?k7Z ?k8Z; (case k1Z => k_asm); (case kTZ => assumption); (case k4Z => k_mem); (case k3Z => k_extra "L my sub"); (case k5Z => (dsimp only [ktrTop, Around.deeper]; omega)); (case k6Z => assumption); (case k7Z => with_unfolding_all rfl); (case k8Z => (intro _; with_unfolding_all rfl))); intro _ _))
  (k_with "L setItem ref ref" => (k_here; k_dflt (refine' r_setTup ?k1Z ?k2Z ?kTZ ?k3Z ?k4Z ?k5Z ?k6Z ?k7Z ?_; (case k1Z | k2Z => k_asm); (case kTZ => assumption); (case k4Z => k_mem); (case k6Z => k_updF); (case k3Z => k_extra "L my sub"); (case k5Z => (dsimp only [ktrTop, Around.deeper]; omega)); (case k7Z => omega)); intro _ _ _ _ _ _; (try k_sweep)))
  trivial
section
variable {prog : Program} {w : World} {A : Around} {E : Value → Shared → Prop} {Q : Value → Shared → Prop} {h : Heap} {g : Array GenState} {d : Drawn} {t : Nat} {o : OsState} {h₀ : Heap} {L : Addr} {m : Str → Option Value} {news : List (Addr × Obj)}
theorem r_iterB {b : Array UInt8} {tb : Tok} (F : Fr h₀ L h m) (N : News h₀ L h news)
    (H : ∀ it h', Fr h₀ L h' m → News h₀ L h' ((it, bitObj b tb 0) :: news) → (∀ p ∈ news, @LT.lt Nat _ p.1 it) → Q (.ref it) ⟨h', g, d, t, o⟩) : wpAny (model prog w) A (pyIter (.bytes b tb)) Q E ⟨h, g, d, t, o⟩ :=
  KBw.pyIter_bytes (s := ⟨h, g, d, t, o⟩) (H _ _ (F.push _) (N.push F _) fun p hp => Heap.lt_size (N p hp).1)
end
/-- what holds between the turns of the encoder's feed -/
inductive efeedK (w : World) (early : Int) (n : Nat) (s : ES) (x d f tb it : Addr) (rest : List (Addr × Obj)) (m₀ : Str → Option Value) (m : Str → Option Value) (news : List (Addr × Obj)) : Prop
  | mk (vo : Option Value) (k : Nat) (kh : Nat → Int × Tok) (te tm tbi tn tc tw tfo : Tok) (tobj : Obj) (ktups : List (Addr × Obj)) (h1 : m = (fun z => if z = Str.ofString "octet" then vo else m₀ z)) (h2 : TabF PP w ((tb, tobj) :: ktups) tb n s.table) (h3 : Ap4 x d f tb (ktups ++ rest)) (h4 : (∀ p ∈ ktups, p.1 ≠ it)) (h5 : news = (x, instObj 185 d) :: (d, dictOf (encEs kh (.int early te) (.int 12 tm) (.int s.ws.bits tbi) (.int s.ws.many tn) (.ref f) (codeV s.code tc) (.int 9 tw) (.ref tb) (.int s.following tfo)) k) :: (f, baObj s.ws.found) :: (tb, tobj) :: ktups)
noncomputable abbrev efeedJ (w : World) (early : Int) (n : Nat) (s : ES) (octets : List UInt8) (x d f tb it : Addr) (rest : List (Addr × Obj)) (m₀ : Str → Option Value) (i : Nat) (m : Str → Option Value) (news : List (Addr × Obj)) : Prop :=
  efeedK w early (n + i) (encFeed s (octets.take i)) x d f tb it rest m₀ m news
theorem efeed_ok (w : World) (loose : List Str) (mean : ExcName → Option Value) (mg mb : Str → Option Value)
    (early : Int) (n : Nat) (s : ES) (x d f tb : Addr) (octets : List UInt8) (tko : Tok) (rest news : List (Addr × Obj)) (D : EncL w early n s x d f tb rest news) (k : Nat)
    (he : 0 ≤ early ∧ early ≤ 1) (hz : EZ k s) (hk : k + octets.length ≤ 40) (hn : n ≤ 1000) :
    CallC w loose mean mg mb 6 (.ref 168) [.ref x, .bytes octets.toArray tko] news
      (fun r news' => ∃ f' tk n', n' ≤ n + octets.length ∧ r = .bytes (encFeed s octets).ws.found.toArray tk ∧ EncL w early n' { encFeed s octets with ws := { (encFeed s octets).ws with found := [] } } x d f' tb rest news') (fun _ => False) := by
  unfold CallC
  obtain ⟨kk, kh, te, tm, tbi, tn, tc, tw, tfo, tobj, ktups, hT, hA, rfl⟩ := D
  have hA' := hA
  obtain ⟨hxd, hxf, hxt, hdf, hdt, hft, hrd, hrf, hrt⟩ := hA'
  intro dp un gd cn cs a ccd cl outer A₀ base h₀ L m s' Q E
  k_fill
  obtain ⟨hp', gn, dr, tk0, os⟩ := s'
  intro B F X N T hkk hd hu hret hexc
  refine wpC_call ?_
  k_dflt (walk_at "c enter")
  rename_i gF LF hF0 tF FGF FF NF BF XF TF
  walk_at "c steps"
  refine r_iterB FF NF fun it hI FI NI lI => ?_
  generalize hRR : LoopR _ _ _ _ _ _ = RR
  have hIx : @Ne Nat it x := Nat.ne_of_gt (lI _ (.head _))
  have hId : @Ne Nat it d := Nat.ne_of_gt (lI _ (.tail _ (.head _)))
  have hIf : @Ne Nat it f := Nat.ne_of_gt (lI _ (.tail _ (.tail _ (.head _))))
  have hIt : @Ne Nat it tb := Nat.ne_of_gt (lI _ (.tail _ (.tail _ (.tail _ (.head _)))))
  have hIr : ∀ p ∈ ktups ++ rest, p.1 ≠ it := fun p hp => Nat.ne_of_lt (lI p (.tail _ (.tail _ (.tail _ (.tail _ hp)))))
  refine' codeC_for_walk (n := octets.toArray.size) (rest := rest) (news₀ := (x, instObj 185 d) :: (d, dictOf (encEs kh (.int early te) (.int 12 tm) (.int s.ws.bits tbi) (.int s.ws.many tn) (.ref f) (codeV s.code tc) (.int 9 tw) (.ref tb) (.int s.following tfo)) kk) :: (f, baObj s.ws.found) :: (tb, tobj) :: ktups)
    (KBw.walks rfl it octets.toArray tko) rfl rfl ?fp ?wr ?some ?r (efeedJ w early n s octets x d f tb it rest (mOf FF)) ?hJ ?turn ?done ?st FI ?N ?start
  case fp => exact fun b hb => .inl hb
  case wr => exact fun b hb => by rw [List.mem_singleton.mp hb]; exact (NI _ (.head _)).2
  case some => exact fun i h ⟨o, e, _⟩ b hb => by rw [List.mem_singleton.mp hb]; exact ⟨o, e⟩
  case r => exact fun p hp hm => hIr p (List.mem_append_right _ hp) (List.mem_singleton.mp hm)
  case hJ =>
    intro i m news hP0 p hp hm
    refine hideGoal fun G hG => ?_
    obtain ⟨_, _, _, _, _, _, _, _, _, _, _, ktups, rfl, _, _, hki, rfl⟩ := hP0
    refine hG ?_
    clear hG G
    rw [List.mem_singleton] at hm
    simp only [List.mem_cons] at hp
    rcases hp with rfl | rfl | rfl | rfl | hp
    · exact hIx hm.symm
    · exact hId hm.symm
    · exact hIf hm.symm
    · exact hIt hm.symm
    · exact hki p hp hm
  case st => exact ⟨_, (NI _ (.head _)).1, rfl, rfl⟩
  case N => exact News.sub NI (fun p hp => .tail _ hp)
  case start =>
    refine ⟨mOf FF (Str.ofString "octet"), kk, kh, te, tm, tbi, tn, tc, tw, tfo, tobj, ktups, ?_, hT, hA, fun p hp => hIr p (List.mem_append_left _ hp), rfl⟩
    funext z
    by_cases h1 : z = Str.ofString "octet"
    · rw [if_pos h1, h1]
    · rw [if_neg h1]
  case done =>
    intro m news h tk hP0 F9 N9
    refine hideGoal fun G hG => ?_
    obtain ⟨vo, kk, kh, te, tm, tbi, tn, tc, tw, tfo, tobj, ktups, rfl, hT, hA, hki, rfl⟩ := hP0
    refine hG ?_
    clear hG G
    subst hRR
    have hz' : octets.take octets.toArray.size = octets := List.take_of_length_le (Nat.le_refl _)
    rw [hz'] at N9 hT
    dsimp only [mOf, List.cons_append] at F9 N9
    have hze := hz.feed (octets := octets) (by omega)
    have hzf := hze.found
    obtain ⟨hxd, hxf, hxt, hdf, hdt, hft, hrd, hrf, hrt⟩ := hA
    dsimp only [LoopR]
    walk_at "c steps"
    refine StopAt.mk ?_
    refine' CallC.at (etold_ok w loose mean mg mb x d f kk kh (.int early te) (.int 12 tm) _ _ _ _ _ _ (encFeed s octets).ws.found ((tb, tobj) :: (ktups ++ rest)) hxd hdf (List.forall_mem_cons.mpr ⟨Ne.symm hdt, hrd⟩) (by omega)) BF F9 XF N9 TF rfl (by omega) (by omega) ?ret (fun _ _ _ _ _ _ _ _ h => h.elim)
    case ret =>
      intro r n' h' tk' F' N' hP0
      refine hideGoal fun G hG => ?_
      obtain ⟨f', tkr, rfl, ⟨lx, ld, lr⟩, rfl⟩ := hP0
      refine hG ?_
      clear hG G
      walk_at "c steps"
      (rename News _ _ _ _ => N9)
      (rename Fr _ _ _ _ => F9)
      refine hret _ _ _ _ F9 N9 ⟨f', _, n + octets.length, Nat.le_refl _, rfl, kk, kh, te, tm, tbi, tn, tc, tw, tfo, tobj, ktups, by simpa using hT, ⟨hxd, Nat.ne_of_lt lx, hxt, Nat.ne_of_lt ld, hdt, Nat.ne_of_gt lr.1, hrd, allLt_ne lr.2, hrt⟩, rfl⟩
  case turn =>
    intro i v m news own h tk hi hP0 ho hP1 F9 N9
    refine hideGoal fun G hG => ?_
    obtain ⟨c, u, hc, rfl⟩ := hP0
    obtain ⟨vo, kk, kh, te, tm, tbi, tn, tc, tw, tfo, tobj, ktups, rfl, hT, hA, hki, rfl⟩ := hP1
    refine hG ?_
    clear hG G
    rw [map1] at F9
    have hc' : octets[i]? = some c := by simpa using hc
    have hi' : i < octets.length := by simpa using hi
    have hc9 : c.toNat < 256 := c.toNat_lt
    have hstep : encFeed s (octets.take (i + 1)) = encStep (encFeed s (octets.take i)) c := by
      unfold encFeed; rw [List.take_add_one, hc', List.foldl_append]; rfl
    have hzi : EZ (k + i) (encFeed s (octets.take i)) := by
      have := hz.feed (octets := octets.take i) (by rw [List.length_take]; omega)
      rwa [List.length_take, Nat.min_eq_left (by omega)] at this
    unfold efeedJ
    rw [hstep]
    clear hstep
    generalize encFeed s (octets.take i) = si at *
    obtain ⟨o1, rfl⟩ : ∃ o1, own = [(it, o1)] := by
      obtain _ | ⟨⟨q1, o1⟩, _ | _⟩ := own <;> simp at ho
      exact ⟨o1, by rw [ho]⟩
    have hA0 := hA
    obtain ⟨hxd, hxf, hxt, hdf, hdt, hft, hrd, hrf, hrt⟩ := hA
    dsimp only [mOf, List.cons_append, List.nil_append] at F9 N9
    have hrd' : ∀ p ∈ ktups ++ (it, o1) :: rest, p.1 ≠ d := fun p hp => (List.mem_append.mp hp).elim (fun q => hrd p (List.mem_append_left _ q)) fun q => (List.mem_cons.mp q).elim (fun e => e ▸ hId) fun q => hrd p (List.mem_append_right _ q)
    have hrf' : ∀ p ∈ ktups ++ (it, o1) :: rest, p.1 ≠ f := fun p hp => (List.mem_append.mp hp).elim (fun q => hrf p (List.mem_append_left _ q)) fun q => (List.mem_cons.mp q).elim (fun e => e ▸ hIf) fun q => hrf p (List.mem_append_right _ q)
    have hrt' : ∀ p ∈ ktups ++ (it, o1) :: rest, p.1 ≠ tb := fun p hp => (List.mem_append.mp hp).elim (fun q => hrt p (List.mem_append_left _ q)) fun q => (List.mem_cons.mp q).elim (fun e => e ▸ hIt) fun q => hrt p (List.mem_append_right _ q)
    have hTs : ∀ p ∈ ktups, p ∈ ktups ++ (it, o1) :: rest := mem_app
    generalize hTL : ktups ++ (it, o1) :: rest = TL at *
    obtain ⟨⟨bits, many, found⟩, code, table, following⟩ := si
    have hb := hzi.bits
    have hm := hzi.many
    have hfo := hzi.found
    have hco := hzi.code
    have hta := hzi.table
    have hfl := hzi.following
    dsimp only at hb hm hfo hco hta hfl N9 hT
    rcases code with _ | cc
    · dsimp only [codeV] at N9
      walk_at "c steps"
      (rename News _ _ _ _ => N9)
      (rename Fr _ _ _ _ => F9)
      subst hTL
      exact ⟨_, _, _, _, rfl, F9, N9, _, kk, kh, te, tm, tbi, tn, _, tw, tfo, tobj, ktups, rfl, TabF.up hT (by omega), hA0, hki, rfl⟩
    · cases htab : table cc c.toNat with
      | some c' =>
        have hIn : (table cc c.toNat).isSome = true := by rw [htab]; rfl
        have e : encStep ⟨⟨bits, many, found⟩, some cc, table, following⟩ c = ⟨⟨bits, many, found⟩, some c', table, following⟩ := by unfold encStep; simp only [htab]
        rw [e]
        dsimp only [codeV] at N9
        walk_at "c steps"
        (rename News _ _ _ _ => N9)
        (rename Fr _ _ _ _ => F9)
        subst hTL
        exact ⟨_, _, _, _, rfl, F9, News.sub N9 (fun p hp => .tail _ (.tail _ hp)), _, kk, kh, te, tm, tbi, tn, _, tw, tfo, tobj, ktups, rfl, TabF.up hT (by omega), hA0, hki, rfl⟩
      | none =>
        have hIn : (table cc c.toNat).isSome = false := by rw [htab]; rfl
        have e : encStep ⟨⟨bits, many, found⟩, some cc, table, following⟩ c = ⟨writeM ⟨bits, many, found⟩ cc, some c.toNat, fun a b => if a = cc ∧ b = c.toNat then some following else table a b, following + 1⟩ := by unfold encStep; simp only [htab]
        rw [e]
        dsimp only [codeV] at N9
        walk_at "c steps"
        (rename News _ _ _ _ => N9)
        (rename Fr _ _ _ _ => F9)
        refine StopAt.mk ?_
        refine' CallC.at (write_ok w loose mean mg mb x d f kk kh (.int early te) (.int 12 tm) _ _ _ ⟨bits, many, found⟩ _ _ _ cc _ ((tb, tobj) :: TL) hxd hxf hdf (List.forall_mem_cons.mpr ⟨Ne.symm hdt, hrd'⟩) (List.forall_mem_cons.mpr ⟨Ne.symm hft, hrf'⟩) hb hm (hco cc rfl) (by dsimp only; omega)) BF F9 XF (News.sub N9 (fun p hp => .tail _ hp)) TF rfl (by omega) (by omega) ?ret (fun _ _ _ _ _ _ _ _ h => h.elim)
        case ret =>
          intro r n' h' tk' F' N' hP0
          refine hideGoal fun G hG => ?_
          obtain ⟨rfl, tb', tn', rfl⟩ := hP0
          refine hG ?_
          clear hG G
          walk_at "c steps"
          rename_i lT _ l9 _ oT _ FT NT T9 _ _
          refine StopAt.mk (wpC_of_any ?_)
          refine CallOk.at (grow_ok w loose mean mg mb x d kk kh early following te tm tw tfo (.int (writeM ⟨bits, many, found⟩ cc).bits tb') (.int (writeM ⟨bits, many, found⟩ cc).many tn') (.ref f) (.int cc tc) (.ref tb) ((f, baObj (writeM ⟨bits, many, found⟩ cc).found) :: (tb, oT) :: (lT, tup2 cc c.toNat tc u) :: TL) hxd
            (List.forall_mem_cons.mpr ⟨Ne.symm hdf, List.forall_mem_cons.mpr ⟨Ne.symm hdt, List.forall_mem_cons.mpr ⟨Nat.ne_of_gt l9.2.1, hrd'⟩⟩⟩) he (by omega)) BF FT XF (News.sub NT (by walk_at "my sub")) TF rfl (by omega) (by omega) ?_
          intro r n' h' tk' F' N' hP0
          refine hideGoal fun G hG => ?_
          obtain ⟨rfl, tf', rfl⟩ := hP0
          refine hG ?_
          clear hG G
          walk_at "c steps"
          (rename News _ _ _ _ => N9)
          (rename Fr _ _ _ _ => F9)
          subst hTL
          obtain ⟨b1, b2, b3, b4, b5, b6, b7, b8, b9⟩ := hA0
          exact ⟨_, _, _, _, rfl, F9, N9, _, kk, kh, te, tm, _, _, _, tw, _, oT, (lT, tup2 cc c.toNat tc u) :: ktups, rfl, TabF.up T9 (by omega),
            ⟨b1, b2, b3, b4, b5, b6, List.forall_mem_cons.mpr ⟨Nat.ne_of_gt l9.2.1, b7⟩, List.forall_mem_cons.mpr ⟨Nat.ne_of_gt l9.2.2.1, b8⟩, List.forall_mem_cons.mpr ⟨Nat.ne_of_gt l9.2.2.2.1, b9⟩⟩, List.forall_mem_cons.mpr ⟨Nat.ne_of_gt (allLt_lt l9.2.2.2.2 (it, o1) (by simp)), hki⟩, rfl⟩
end
theorem reg_PEncE : True := by
  k_with_none
  (k_with "L om" => first | with_reducible assumption | (with_reducible refine Ne.symm ?_; assumption) | ((with_reducible refine low1 (by assumption) ?_); exact rfl) | ((with_reducible refine low2 (by assumption) ?_); exact rfl) | ((with_reducible refine low7 (by assumption) ?_); exact rfl) | with_reducible exact low8 (by assumption) | ((with_reducible refine low3 (by assumption) ?_); exact rfl) | ((with_reducible refine low4 (by assumption) ?_); exact rfl) | with_reducible exact low5 (by assumption) | with_reducible exact low6 (by assumption) | with_reducible exact And.left (by assumption) | with_reducible exact And.right (by assumption) | with_reducible exact And.intro (by assumption) (by assumption) | ((with_reducible refine low9 (by assumption) ?_); exact rfl) | ((with_reducible refine low10 (by assumption) ?_); exact rfl) | ((with_reducible refine low12 (by assumption) ?_); exact rfl) | with_reducible exact Nat.le_succ_of_le (by assumption) | with_reducible exact Nat.add_le_add (by assumption) (Nat.min_le_left _ _) | ((with_reducible refine low16 (by assumption) (by assumption) ?_); exact rfl) | with_reducible exact low17 (by assumption) (by assumption) | with_reducible exact low18 (by assumption) | with_reducible exact low19 (by assumption) (by assumption) | with_reducible exact low20 (by assumption) | with_reducible exact And.intro (Int.emod_nonneg _ (by decide)) (Int.emod_lt_of_pos _ (by decide)) | ((with_reducible refine low21 (by assumption) ?_); exact rfl) | ((with_reducible refine low22 (by assumption) ?_); exact rfl) | with_reducible exact low6 (And.left (by assumption)) | with_reducible exact low6 (And.left (And.right (by assumption))) | with_reducible exact low6 (And.left (And.right (And.right (by assumption)))) | with_reducible exact low6 (And.left (And.right (And.right (And.right (by assumption))))) | with_reducible exact low6 (And.right (by assumption)) | lia | with_reducible contradiction)
  (k_with "L my putL" => first | with_reducible exact putL_d4 | with_reducible exact putL_d5 | with_reducible exact putL_d6 | with_reducible exact putL_d7 | with_reducible exact putL_d8 | with_reducible exact putL_d2 | with_reducible exact putL_d3 | (refine' putL_hd ?xZ; (case xZ => decide +kernel)) | (refine' putL_tl ?xZ ?yZ; (case xZ => decide +kernel); (case yZ => k_extra "L my putL")))
  (k_with "L my putN" => first | with_reducible exact putN_d4 | with_reducible exact putN_d5 | with_reducible exact putN_d6 | with_reducible exact putN_d7 | with_reducible exact putN_d8 | with_reducible exact putN_d2 | with_reducible exact putN_d3 | (refine' putN_hd ?xZ; (case xZ => decide +kernel)) | (refine' putN_tl ?xZ ?yZ; (case xZ => decide +kernel); (case yZ => k_extra "L my putN")))
  (k_with "L all" => first | assumption | exact allLt_ne (by assumption) | exact allLt_ne (And.right (by assumption)) | exact allLt_ne (And.right (And.right (by assumption))) | exact allLt_ne (And.right (And.right (And.right (by assumption)))))
  (k_with "L room" => ((try simp only [depth_under_make, depth_under_kw, depth_in1, depth_deeper, depth_caller]); (try dsimp only [ktrTop]); omega))
  (k_with "L execs cons" => (refine r_consL ?_; intro _))
  (k_with "L execs nil" => refine wpAny_execs_nil ?_)
  (k_with "L exec If" => refine wpAny_If ?_)
  (k_with "L eval Constant int" => refine r_int ?_)
  (k_with "L eval Constant bytes" => refine r_bytes ?_)
  (k_with "L eval Constant str" => refine r_str ?_)
  (k_with "L binaryOp Add int int" => refine r_add ?_)
  (k_with "L binaryOp Sub int int" => refine r_sub ?_)
  (k_with "L binaryOp BitAnd int int" => refine r_and ?_)
  (k_with "L binaryOp BitOr int int" => refine r_or ?_)
  (k_with "L binaryOp RShift int int" => (refine' r_shr ?aZ ?_; (case aZ => omega)))
  (k_with "L binaryOp Mod int int" => (refine' r_mod ?aZ ?_; (case aZ => omega)))
  (k_with "L binaryOp LShift int int" => first | with_reducible refine r_shl09 ?_ | with_reducible refine r_shl10 ?_ | with_reducible refine r_shl12 ?_ | with_reducible refine r_shl28 ?_ | (refine' r_shl ?aZ ?bZ ?cZ ?_; (case aZ | bZ | cZ => omega)))
  (k_with "L call builtin:len" => ( (with_reducible show wpAny _ _ (call (Value.builtin "len") [Value.ref _]) _ _ _); refine' r_len ?NZ ?mZ ?zZ ?_; (case NZ => k_asm); (case mZ => k_mem); (case zZ => first | omega | (simp only [List.size_toArray, Array.size_push] at *; omega))))
  (k_with "L getAttr ref" => (k_here; k_dflt ( refine' r_getattr ?k1Z ?k2Z ?k3Z ?k4Z ?k5Z ?k6Z ?k7Z ?k8Z ?k9Z ?_; (case k1Z | k2Z => k_asm); (case k3Z => k_inst); (case k4Z | k5Z | k6Z | k7Z => k_is); (case k8Z => k_get); (case k9Z => k_handed); k_whole)))
  (k_with "L setAttr ref" => (k_here; k_dflt (first | (refine' r_setattr ?k1Z ?k2Z ?k3Z ?k4Z ?k5Z ?k6Z ?k7Z ?k8Z ?k9Z ?k10Z ?k11Z ?k11bZ ?k12Z ?k13Z ?_; (case k1Z | k2Z | k3Z => k_asm); (case k4Z => k_inst); (case k5Z => exact rfl); (case k6Z | k7Z | k8Z | k9Z => k_is); (case k10Z => k_get); (case k11Z => (intro _; k_extra "L my putL")); (case k11bZ => k_extra "L my putN"); (case k12Z => k_upd); (case k13Z => exact Nat.le_of_ble_eq_true rfl); k_whole; intro _ _ _ _; (try k_sweep)) | (refine' r_newattr ?k1Z ?k2Z ?k3Z ?k4Z ?k5Z ?k6Z ?k7Z ?k8Z ?k9Z ?k10Z ?k11Z ?k12Z ?k13Z ?_; (case k1Z | k2Z | k3Z => k_asm); (case k4Z => k_inst); (case k5Z => exact rfl); (case k6Z | k7Z | k8Z | k9Z => k_is); (case k10Z => k_get); (case k11Z => exact rfl); (case k12Z => exact Nat.le_of_ble_eq_true rfl); (case k13Z => k_updF); k_whole; intro _ _ _ _ _ N'; (dsimp only [List.cons_append, List.nil_append] at N'); (try (revert N'; intro _)); (try k_sweep)))))
  (k_with "L storeName" => (k_here; k_dflt ( refine' r_store ?k1Z ?k2Z ?k3Z ?k4Z ?_; (case k1Z | k2Z => k_asm); (case k3Z | k4Z => rfl); k_whole; intro _ _ _ _; (try k_sweep))))
  (k_with "L newList" => (k_here; k_dflt (refine' r_newList ?k1Z ?k2Z ?k3Z ?_; (case k1Z | k2Z => k_asm); (case k3Z => exact Nat.le_of_ble_eq_true rfl); k_whole); intro _ _ _ _ l1; (try k_lt l1); (try (revert l1; intro _)); (try k_sweep)))
  (k_with "L call builtin:list.append" => (k_here; (with_reducible show wpAny _ _ (call (Value.builtin _) [Value.ref _, _]) _ _ _); k_dflt (refine' r_append ?k1Z ?k2Z ?k3Z ?zZ ?_; (case k1Z | k2Z => k_asm); (case k3Z => k_upd); (case zZ => first | omega | (simp only [List.size_toArray, Array.size_push] at *; omega)); k_whole); intro _ _ _; (try k_sweep)))
  (k_with "L my enter" => (refine' r_enter ?k1Z ?k2Z ?k3Z ?k4Z ?k5Z ?kAZ ?kFZ ?kKZ ?k6Z ?k7Z ?k8Z ?k9Z ?kBZ ?_ ?c2Z ?c3Z ?c4Z ?c5Z; (case kAZ | kFZ => exact rfl); (case kKZ => first | assumption | exact rfl); (case k1Z | k2Z | k3Z | k4Z | k5Z => k_asm); (case k6Z | k7Z => k_is); (case k8Z => k_room); (case k9Z => first | exact BindsTo.of_eq rfl | exact binds_K (by k_in) rfl (by k_is) rfl rfl rfl); (case c5Z => decide); (case kBZ => exact locs rfl); (case c2Z | c3Z | c4Z => exact rfl); k_whole; intro _ _ _ _ _ _ _ _ _ _; (try dsimp only); (try k_fold)))
  (k_with "L my class" => (refine' call_cls ?k1Z ?k2Z ?k3Z ?k4Z ?k5Z ?k6Z ?_; (case k1Z | k2Z | k3Z => k_asm); (case k4Z | k5Z | k6Z => k_is); k_whole; intro _ _ _ _ _ l1 l2; (try k_lt l1); (try (revert l1; intro _)); (try k_lt2 l2); (try (revert l2; intro _)); (try k_sweep); k_extra "L my enter"))
  (k_with "L call ref" => (k_here; k_dflt (first | k_extra "L my class" | (refine wpAny_call ?_; k_extra "L my enter"))))
  (k_with "L my sub" => first | exact mem_all | (refine List.forall_mem_cons.mpr ⟨?_, ?_⟩; (k_mem); k_extra "L my sub") | exact List.forall_mem_nil _ | (refine mem_step ?_; k_extra "L my sub"))
  (k_with "L my blen" => first | k_extra "L om" | exact Nat.zero_le _ | ((simp only [List.length_append, List.length_cons, List.length_nil, List.length_take, List.length_drop]); omega) | omega | exact Nat.le_trans (cut_length _ _ _) (by omega) | (simp only [List.length_append, List.length_cons, List.length_nil, List.length_take, List.length_drop]; omega))
  (k_with "L binaryOp Add bytes bytes" => (refine' r_badd ?zZ ?z2Z ?_; (case zZ | z2Z => k_extra "L my blen"); intro _ _))
  (k_with "L compareOp Eq bytes bytes" => refine r_beq ?_)
  (k_with "L subscriptTail" => (k_here; (with_reducible show wpAny _ _ (subscriptTail _ (Expr.Slice _ _ none _) (Value.bytes _ _) (Value.ref _)) _ _ _); k_dflt (refine' r_slice ?FZ ?NZ ?lZ ?uZ ?zZ ?_ ?sZ ?tZ; (case FZ | NZ => k_asm); (case lZ | uZ => constructor); (case zZ => omega); (case sZ => with_unfolding_all rfl); (case tZ => intro _; with_unfolding_all rfl)); intro _ _ _ _ _; (try k_sweep)))
  (k_with "L subscriptTail" => (k_here; (with_reducible show wpAny _ _ (subscriptTail _ _ (Value.ref _) (Value.int _ _)) _ _ _); k_dflt (refine' r_item ?NZ ?mZ ?aZ ?bZ ?xZ ?_ ?sZ ?tZ; (case NZ => k_asm); (case mZ => k_mem); (case aZ | bZ => omega); (case xZ => first | assumption | rfl); (case sZ => with_unfolding_all rfl); (case tZ => intro _; with_unfolding_all rfl))))
  (k_with "L my ev" => first | ((with_reducible show Ev _ _ _ _ _ _ _ (Expr.Constant _ _ _) _ _ _); first | exact ev_int | (intro _ _ Hx; walk1; with_reducible exact Hx)) | ((with_reducible show Ev _ _ _ _ _ _ _ (Expr.Name _ _) _ _ _); first | (refine' ev_L ?FZ ?vZ ?aZ ?bZ ?dZ; (case FZ => k_asm); (case aZ | bZ => rfl); (case dZ => decide); (case vZ => rfl)) | (intro _ _ Hx; walk1; with_reducible exact Hx)) | ((with_reducible show Ev _ _ _ _ _ _ _ (Expr.Attribute _ _ _) _ _ _); refine' ev_attr ?k1Z ?k2Z ?vZ ?k3Z ?k4Z ?k5Z ?k6Z ?k7Z ?k8Z ?k9Z ?aZ ?bZ ?dZ; (case k1Z | k2Z => k_asm); (case aZ | bZ => rfl); (case dZ => decide); (case vZ => rfl); (case k3Z => k_inst); (case k4Z | k5Z | k6Z | k7Z => k_is); (case k8Z => k_get); (case k9Z => k_handed)) | ((with_reducible show Ev _ _ _ _ _ _ _ (Expr.BinOp _ _ _ _) _ _ _); refine' ev_bin ?lZ ?rZ ?oZ; (case lZ | rZ => k_extra "L my ev"); (case oZ => (intro _ _ Hx; walk1; with_reducible exact Hx))) | ((with_reducible show Ev _ _ _ _ _ _ _ (Expr.Call (Expr.Name (Str.ofString "len") _) [_] [] _) _ _ _); intro _ _ Hx; (repeat walk1); with_reducible exact Hx))
  (k_with "L eval BinOp" => (k_here; k_dflt (refine' ev_use ?hZ ?_; (case hZ => k_extra "L my ev"); k_whole)))
  (k_with "L eval Attribute Name" => (k_here; k_dflt (refine' ev_use ?hZ ?_; (case hZ => k_extra "L my ev"); k_whole)))
  (k_with "L isTrue Compare" => (k_here; k_dflt (refine' ev_isTrue ?lZ ?rZ ?oZ ?mZ ?_; (case lZ | rZ => k_extra "L my ev"); (case oZ => (intro _ _ Hx; walk1; with_reducible exact Hx)); (case mZ => with_unfolding_all rfl); k_whole)))
  (k_with "L call ref" => (k_here; (with_reducible show wpAny _ _ (call (Value.ref 45) _) _ _ _); refine' r_excMake ?k1Z ?k2Z ?k3Z ?k4Z ?k5Z ?k6Z ?k7Z ?_; (case k1Z | k2Z | k3Z => k_asm); (case k4Z => exact Nat.le_of_ble_eq_true rfl); (case k5Z => kernel_rfl); (case k6Z | k7Z => k_is); k_whole; intro _ _ _ _ _ l1; (try k_lt l1); (try (revert l1; intro _)); (try k_sweep); k_extra "L my enter"))
  (k_with "L setAttr ref" => (k_here; (with_reducible show wpAny _ _ (setAttr _ "told" (Value.bytes _ _)) _ _ _); refine' r_excSet ?k1Z ?k2Z ?k3Z ?k4Z ?_; (case k1Z | k2Z | k3Z => k_asm); (case k4Z => k_updF); k_whole; intro _ _ _ _ _ _ _ l1; (try k_lt l1); (try (revert l1; intro _)); (try k_sweep)))
  (k_with "L Inst45" => (k_here; k_dflt (refine' ⟨_, _, _, rfl, ?aZ, ?cZ, ?dZ, ?eZ, ?bZ, ?_⟩; (case aZ => exact (News.get (by k_asm) (by k_mem))); (case cZ | dZ | eZ => exact rfl); (case bZ => exact Frag.In.keeps (by k_asm) (Fr.keep (by k_asm))); k_whole)))
  (k_with "L exec Raise some none" => (k_here; k_dflt (refine' r_raise ?aZ ?_; (case aZ => rfl); k_whole)))
  (k_with "L my nes" => first | exact List.forall_mem_nil _ | k_all | (refine List.forall_mem_cons.mpr ⟨?_, ?_⟩; (show @Ne Nat _ _; omega); k_extra "L my nes"))
  (k_with "L leaving ref" => (k_here; (rename Gone _ _ _ _ _ => gX); (rename Heap.UpToSlots _ _ => uX); k_dflt (refine' leave_more ?KZ ?FZ ?fZ ?RZ ?UZ ?_; (case KZ => assumption); (case RZ => exact gX); (case UZ => exact uX); (case FZ => assumption); (case fZ => exact rfl); k_whole); (try clear gX uX); intro _ _ _))
  (k_with "L leaving ref" => (k_here; k_dflt (refine' leave_first ?KZ ?FZ ?fZ ?kZ ?NZ ?aZ ?bZ ?_; (case KZ | FZ => assumption); (case fZ | kZ => exact rfl); (case NZ => assumption); (case aZ => k_extra "L my nes"); (case bZ => (show @Ne Nat _ _; omega)); k_whole); intro _ _ _))
  (k_with "L c enter" => (refine' c_enter ?k1Z ?k2Z ?k3Z ?k4Z ?k5Z ?kAZ ?kFZ ?kKZ ?k6Z ?k7Z ?k8Z ?k9Z ?kBZ ?_ ?c2Z ?c3Z ?c4Z ?c5Z; (case kAZ | kFZ => exact rfl); (case kKZ => first | assumption | exact rfl); (case k1Z | k2Z | k3Z | k4Z | k5Z => k_asm); (case k6Z | k7Z => k_is); (case k8Z => k_room); (case k9Z => first | exact BindsTo.of_eq rfl | exact binds_K (by k_in) rfl (by k_is) rfl rfl rfl); (case c5Z => decide); (case kBZ => exact locs rfl); (case c2Z | c3Z | c4Z => exact rfl); k_whole; intro _ _ _ _ _ _ _ _ _ _; (try dsimp only)))
  (k_with "L keep at" => first | ((with_reducible show KeepAt _ (Value.ref _) _); refine keep_ref (by k_in) (by k_is)) | exact keep_append | exact keep_extend | exact keep_bytearray | exact ⟨.machine, .inr (.inl rfl), Looks.of_pure (by kernel_rfl)⟩)
  (k_with "L c call" => ( (with_reducible show wpC _ _ (call (Value.builtin "bytearray.append") [Value.ref _, Value.int _ _]) _ _ _); k_dflt (refine' c_append ?k1Z ?k2Z ?k3Z ?k4Z ?k5Z ?zZ ?_; (case k1Z | k2Z => k_asm); (case k3Z => k_upd); (case k4Z | k5Z => omega); (case zZ => k_extra "L my blen"); k_whole); intro _ _ _; (try k_sweep)))
  (k_with "L c call" => ( (with_reducible show wpC _ _ (call (Value.builtin "bytearray.extend") [Value.ref _, Value.bytes _ _]) _ _ _); k_dflt (refine' c_extend ?k1Z ?k2Z ?k3Z ?zZ ?_; (case k1Z | k2Z => k_asm); (case k3Z => k_upd); (case zZ => k_extra "L my blen"); k_whole); intro _ _ _; (try k_sweep)))
  (k_with "L c call" => ( (with_reducible show wpC _ _ (call (Value.type "bytearray") []) _ _ _); k_dflt (refine' c_new ?k1Z ?k2Z ?_; (case k1Z | k2Z => k_asm); k_whole); intro _ _ _ _ l1; (try k_lt l1); (try (revert l1; intro _)); (try k_sweep)))
  (k_with "L getMethod ref" => (k_here; (with_reducible show wpAny _ _ (getMethod (Value.ref _) (PySem.Str.ofString "extend") _) _ _ _); k_dflt (refine' (meth_extend ?xZ).here ?_; (case xZ => exact (News.get (by k_asm) (by k_mem))); k_whole)))
  (k_with "L getMethod ref" => (k_here; (with_reducible show wpAny _ _ (getMethod (Value.ref _) (PySem.Str.ofString "append") _) _ _ _); k_dflt (refine' (meth_append ?xZ).here ?_; (case xZ => exact (News.get (by k_asm) (by k_mem))); k_whole)))
  (k_with "L harm" => fail "no harm")
  (k_with "L cw" => first | ((with_reducible refine c_consL ?_); intro _) | with_reducible refine c_nil ?_ | k_extra "L harm" | with_reducible refine c_If ?_ | ((with_reducible show wpC _ _ (isTrue (Expr.Compare (Expr.Call _ _ _ _) _ _ _) _ _) _ _ _); refine c_isTrue ?_) | with_reducible refine ofA_isTrue ?_ | ((with_reducible show wpC _ _ (exec (Stmt.Expr (Expr.Call _ _ _ _) _) _) _ _ _); refine c_Expr ?_) | with_reducible refine c_Assign ?_ | ((with_reducible show wpC _ _ (exec (Stmt.Assign [Expr.Attribute _ _ _] (Expr.Call _ _ _ _) _) _) _ _ _); refine c_AssignA ?_) | with_reducible refine c_Return ?_ | with_reducible refine ofA_exec ?_ | with_reducible refine c_Meth ?_ | with_reducible refine c_Call ?_ | ((with_reducible show wpC _ _ (eval (Expr.BinOp _ _ _ _) _) _ _ _); k_dflt (refine' ofA_eval (ev_use ?hZ ?_); (case hZ => k_extra "L my ev"); k_whole)) | with_reducible refine c_BinOp ?_ | with_reducible refine c_Compare ?_ | with_reducible refine c_And ?_ | with_reducible refine c_And1 ?_ | with_reducible refine ofA_eval ?_ | with_reducible refine c_args ?_ | with_reducible refine c_args0 ?_ | with_reducible refine c_with1 ?_ | ((with_reducible show wpC _ _ (callWith _ _ _ _ _) _ _ _); refine c_with0 (by k_extra "L keep at") ?_) | ((with_reducible show KeepAt _ _ _ ∧ _); refine ⟨by k_extra "L keep at", ?_⟩; (try dsimp only [List.cons_append, List.nil_append])) | k_extra "L c call" | with_reducible refine ofA_call ?_ | with_reducible refine c_ite1 (by assumption) ?_ | with_reducible refine c_ite0 (by assumption) ?_)
  (k_with "L c steps" => repeat' (first | ((with_reducible show wpAny _ _ _ _ _ _); walk1) | k_extra "L cw" | (k_unfold; (try dsimp only)) | ((show (_ : Flow → Shared → Prop) _ _); k_unfold; (try dsimp only)) | (k_end; wrow_close) | walk1 | (dsimp only; walk1) | (leave1; try dsimp only) | (dsimp only; k_extra "L cw") | fail "no step"))
  (k_with "L c call" => ( (with_reducible show wpC _ _ (call (Value.type "enumerate") [Value.bytes _ _]) _ _ _); k_dflt (refine' wpC_of_any (r_enumB ?k1Z ?k2Z ?_); (case k1Z | k2Z => k_asm); k_whole); intro _ _ _ _ _ l1 l2; (try k_lt l1); (try (revert l1; intro _)); (try k_lt2 l2); (try (revert l2; intro _)); (try k_sweep)))
  (k_with "L call type:bytes" => ((with_reducible show wpAny _ _ (call (Value.type "bytes") [Value.bytes _ _]) _ _ _); refine r_bytesB ?_))
  (k_with "L call type:bytes" => ((with_reducible show wpAny _ _ (call (Value.type "bytes") [Value.ref _]) _ _ _); k_dflt (refine' r_bytesBa ?aZ ?zZ ?_; (case aZ => exact (News.get (by k_asm) (by k_mem))); (case zZ => k_extra "L my blen"); k_whole); intro _ _))
  (k_with "L harm" => first | ((with_reducible show wpC _ _ (exec (Stmt.For _ _ _ [] _) _) _ _ _); refine c_For ?_) | ((with_reducible show wpC _ _ (pyIter _) _ _ _); refine wpC_of_any ?_))
  (k_with "L harm" => first | ((with_reducible show wpC _ _ (exec (Stmt.For _ _ _ [] _) _) _ _ _); refine c_For ?_) | ((with_reducible show wpC _ _ (exec (Stmt.While _ _ [] _) _) _ _ _); refine c_WhileR ?_) | ((with_reducible show codeC _ _ (Code.whileLoop _ _ [] _) _ _); refine codeC_while1 ?_) | ((with_reducible show LoopR _ _ _ _ _ _ _ _); dsimp only [LoopR]) | ((with_reducible show wpC _ _ (pyIter _) _ _ _); refine wpC_of_any ?_))
  (k_with "L binaryOp LShift int int" => (refine' r_shl8 ?aZ ?bZ ?_; (case aZ => with_reducible rfl); (case bZ => omega)))
  (k_with "L binaryOp LShift int int" => (refine' r_shl9 ?aZ ?bZ ?_; (case aZ => with_reducible rfl); (case bZ => omega)))
  (k_with "L binaryOp BitOr int int" => (with_reducible refine' r_or8 ?aZ ?bZ ?cZ ?_; (case aZ | bZ | cZ => omega)))
  (k_with "L binaryOp BitOr int int" => (with_reducible refine' r_or9 ?aZ ?bZ ?cZ ?_; (case aZ | bZ | cZ => omega)))
  (k_with "L binaryOp BitAnd int int" => (first | (with_reducible refine' r_mask (b := 268435456 - 1) (c := 268435456) 28 ?aZ ?bZ ?_; (case aZ | bZ => decide)) | (with_reducible refine' r_mask (b := 255) (c := 256) 8 ?aZ ?bZ ?_; (case aZ | bZ => decide)) | (with_reducible refine r_maskW ?_)))
  (k_with "L my putL" => first | with_reducible exact putL_e2 | with_reducible exact putL_e3 | with_reducible exact putL_e4 | with_reducible exact putL_e5 | with_reducible exact putL_e6 | with_reducible exact putL_e7 | with_reducible exact putL_e8)
  (k_with "L my putN" => first | with_reducible exact putN_e2 | with_reducible exact putN_e3 | with_reducible exact putN_e4 | with_reducible exact putN_e5 | with_reducible exact putN_e6 | with_reducible exact putN_e7 | with_reducible exact putN_e8)
  (k_with "L c class" => (refine' c_cls ?k1Z ?k2Z ?k3Z ?k4Z ?k5Z ?k6Z ?_; (case k1Z | k2Z | k3Z => k_asm); (case k4Z | k5Z | k6Z => k_is); k_whole; intro _ _ _ _ _ l1 l2; (try k_lt l1); (try (revert l1; intro _)); (try k_lt2 l2); (try (revert l2; intro _)); (try k_sweep); rw [under_make]; k_extra "L c enter"))
  trivial
theorem reg_EncE0 : True := by
  (k_with "L c call" => ((with_reducible show wpC _ _ (call (Value.ref _) _) _ _ _); refine goC ?_; intro _))
  trivial
/-- told at the end of finish, after the last code was written -/
theorem efin_ok (w : World) (loose : List Str) (mean : ExcName → Option Value) (mg mb : Str → Option Value)
    (early : Int) (n : Nat) (s : ES) (x d f tb : Addr) (rest news : List (Addr × Obj)) (D : EncL w early n s x d f tb rest news) (k : Nat)
    (he : 0 ≤ early ∧ early ≤ 1) (hz : EZ k s) (hk : k ≤ 40) :
    CallC w loose mean mg mb 6 (.ref 182) [.ref x] news
      (fun r news' => ∃ tk, r = .bytes (encFinish s).toArray tk ∧ news' = rest) (fun _ => False) := by
  unfold CallC
  obtain ⟨kk, kh, te, tm, tbi, tn, tc, tw, tfo, tobj, ktups, hT, hA, rfl⟩ := D
  obtain ⟨hxd, hxf, hxt, hdf, hdt, hft, hrd, hrf, hrt⟩ := hA
  obtain ⟨⟨bits, many, found⟩, code, table, following⟩ := s
  have hb := hz.bits
  have hm := hz.many
  have hfo := hz.found
  have hco := hz.code
  have hfl := hz.following
  dsimp only at hb hm hfo hco hfl
  intro dp un gd cn cs a ccd cl outer A₀ base h₀ L m s' Q E
  k_fill
  obtain ⟨hp', gn, dr, tk0, os⟩ := s'
  intro B F X N T hkk hd hu hret hexc
  refine wpC_call ?_
  dsimp only [List.cons_append] at N
  rcases code with _ | cc
  · dsimp only [codeV] at N
    k_dflt (walk_at "c enter")
    rename_i gF LF hF0 tF FGF FF NF BF XF TF
    walk_at "c steps"
    refine StopAt.mk ?_
    refine' CallC.at (write_ok w loose mean mg mb x d f kk kh (.int early te) (.int 12 tm) _ _ _ ⟨bits, many, found⟩ _ _ _ 257 _ ((tb, tobj) :: (ktups ++ rest)) hxd hxf hdf (List.forall_mem_cons.mpr ⟨Ne.symm hdt, hrd⟩) (List.forall_mem_cons.mpr ⟨Ne.symm hft, hrf⟩) hb hm ⟨by decide, by decide⟩ (by dsimp only; omega)) BF (by assumption) XF (by assumption) TF rfl (by omega) (by omega) ?ret2 (fun _ _ _ _ _ _ _ _ h => h.elim)
    case ret2 =>
      intro r n2 h2 tk2 F2 N2 hP0
      refine hideGoal fun G hG => ?_
      obtain ⟨rfl, tb2, tn2, rfl⟩ := hP0
      refine hG ?_
      clear hG G
      have hw2 := writeM_sz (s := ⟨bits, many, found⟩) (code := 257) hm
      have el : lastW ⟨⟨bits, many, found⟩, none, table, following⟩ = writeM ⟨bits, many, found⟩ 257 := rfl
      generalize writeM ⟨bits, many, found⟩ 257 = W2 at *
      obtain ⟨b2, m2, f2⟩ := W2
      dsimp only at N2 hw2
      by_cases hm0 : m2 > 0
      all_goals (
        walk_at "c steps"
        refine StopAt.mk ?_
        refine' CallC.at (etold_ok w loose mean mg mb x d f kk kh (.int early te) (.int 12 tm) _ _ _ _ _ _ _ ((tb, tobj) :: (ktups ++ rest)) hxd hdf (List.forall_mem_cons.mpr ⟨Ne.symm hdt, hrd⟩) ?z) BF (by assumption) XF (by assumption) TF rfl (by omega) (by omega) ?ret3 (fun _ _ _ _ _ _ _ _ h => h.elim)
        case z => first | omega | (simp only [List.length_append, List.length_cons, List.length_nil]; omega)
        case ret3 =>
          intro r n3 h3 tk3 F3 N3 hP0
          refine hideGoal fun G hG => ?_
          obtain ⟨f', tkr, rfl, _, rfl⟩ := hP0
          refine hG ?_
          clear hG G
          walk_at "c steps"
          (rename News _ _ _ _ => N9)
          (rename Fr _ _ _ _ => F9)
          refine hret _ _ _ _ F9 (News.sub N9 (fun p hp => .tail _ (.tail _ (.tail _ (.tail _ (List.mem_append_right _ hp)))))) ⟨tkr, ?_, rfl⟩
          unfold encFinish
          rw [el]
          first | rw [if_pos hm0] | rw [if_neg hm0])
  · dsimp only [codeV] at N
    k_dflt (walk_at "c enter")
    rename_i gF LF hF0 tF FGF FF NF BF XF TF
    walk_at "c steps"
    refine StopAt.mk ?_
    refine' CallC.at (write_ok w loose mean mg mb x d f kk kh (.int early te) (.int 12 tm) _ _ _ ⟨bits, many, found⟩ _ _ _ cc _ ((tb, tobj) :: (ktups ++ rest)) hxd hxf hdf (List.forall_mem_cons.mpr ⟨Ne.symm hdt, hrd⟩) (List.forall_mem_cons.mpr ⟨Ne.symm hft, hrf⟩) hb hm (hco cc rfl) (by dsimp only; omega)) BF (by assumption) XF (by assumption) TF rfl (by omega) (by omega) ?ret1 (fun _ _ _ _ _ _ _ _ h => h.elim)
    case ret1 =>
      intro r n1 h1 tk1 F1 N1 hP0
      refine hideGoal fun G hG => ?_
      obtain ⟨rfl, tb1, tn1, rfl⟩ := hP0
      refine hG ?_
      clear hG G
      have hw1 := writeM_sz (s := ⟨bits, many, found⟩) (code := cc) hm
      dsimp only at hw1
      walk_at "c steps"
      refine StopAt.mk (wpC_of_any ?_)
      refine' CallOk.at (grow_ok w loose mean mg mb x d kk kh early following te tm _ _ _ _ _ _ _ ((f, baObj (writeM ⟨bits, many, found⟩ cc).found) :: (tb, tobj) :: (ktups ++ rest)) hxd (List.forall_mem_cons.mpr ⟨Ne.symm hdf, List.forall_mem_cons.mpr ⟨Ne.symm hdt, hrd⟩⟩) he (by omega)) BF (by assumption) XF (by assumption) TF rfl (by omega) (by omega) ?retg
      case retg =>
        intro r n' h' tk' F' N' hP0
        refine hideGoal fun G hG => ?_
        obtain ⟨rfl, tf', rfl⟩ := hP0
        refine hG ?_
        clear hG G
        walk_at "c steps"
        refine StopAt.mk ?_
        refine' CallC.at (write_ok w loose mean mg mb x d f kk kh (.int early te) (.int 12 tm) _ _ _ (writeM ⟨bits, many, found⟩ cc) _ _ _ 257 _ ((tb, tobj) :: (ktups ++ rest)) hxd hxf hdf (List.forall_mem_cons.mpr ⟨Ne.symm hdt, hrd⟩) (List.forall_mem_cons.mpr ⟨Ne.symm hft, hrf⟩) hw1.1 hw1.2.1 ⟨by decide, by decide⟩ (by omega)) BF (by assumption) XF (by assumption) TF rfl (by omega) (by omega) ?ret2 (fun _ _ _ _ _ _ _ _ h => h.elim)
        case ret2 =>
          intro r n2 h2 tk2 F2 N2 hP0
          refine hideGoal fun G hG => ?_
          obtain ⟨rfl, tb2, tn2, rfl⟩ := hP0
          refine hG ?_
          clear hG G
          have hw2 := writeM_sz (s := (writeM ⟨bits, many, found⟩ cc)) (code := 257) hw1.2.1
          have el : lastW ⟨⟨bits, many, found⟩, some cc, table, following⟩ = writeM (writeM ⟨bits, many, found⟩ cc) 257 := rfl
          generalize writeM (writeM ⟨bits, many, found⟩ cc) 257 = W2 at *
          obtain ⟨b2, m2, f2⟩ := W2
          dsimp only at N2 hw2
          by_cases hm0 : m2 > 0
          all_goals (
            walk_at "c steps"
            refine StopAt.mk ?_
            refine' CallC.at (etold_ok w loose mean mg mb x d f kk kh (.int early te) (.int 12 tm) _ _ _ _ _ _ _ ((tb, tobj) :: (ktups ++ rest)) hxd hdf (List.forall_mem_cons.mpr ⟨Ne.symm hdt, hrd⟩) ?z) BF (by assumption) XF (by assumption) TF rfl (by omega) (by omega) ?ret3 (fun _ _ _ _ _ _ _ _ h => h.elim)
            case z => first | omega | (simp only [List.length_append, List.length_cons, List.length_nil]; omega)
            case ret3 =>
              intro r n3 h3 tk3 F3 N3 hP0
              refine hideGoal fun G hG => ?_
              obtain ⟨f', tkr, rfl, _, rfl⟩ := hP0
              refine hG ?_
              clear hG G
              walk_at "c steps"
              (rename News _ _ _ _ => N9)
              (rename Fr _ _ _ _ => F9)
              refine hret _ _ _ _ F9 (News.sub N9 (fun p hp => .tail _ (.tail _ (.tail _ (.tail _ (List.mem_append_right _ hp)))))) ⟨tkr, ?_, rfl⟩
              unfold encFinish
              rw [el]
              first | rw [if_pos hm0] | rw [if_neg hm0])

theorem lastW_sz {s : ES} {k : Nat} (h : EZ k s) : (lastW s).found.length ≤ s.ws.found.length + 4 := by
  unfold lastW
  split
  · exact Nat.le_trans (writeM_sz h.many).2.2 (by omega)
  · rename_i c _
    have h1 := writeM_sz (s := s.ws) (code := c) h.many
    exact Nat.le_trans (writeM_sz h1.2.1).2.2 (by omega)
theorem encFinish_sz {s : ES} {k : Nat} (h : EZ k s) : (encFinish s).length ≤ s.ws.found.length + 5 := by
  have := lastW_sz h
  unfold encFinish
  split
  · rw [List.length_append, List.length_singleton]; omega
  · omega
theorem coded_enc (w : World) (loose : List Str) (mean : ExcName → Option Value) (mg mb : Str → Option Value)
    (early : Int) (x d f tb : Addr) (octets : List UInt8) (tko : Tok) (rest news : List (Addr × Obj)) (D : EncL w early 0 encInit x d f tb rest news) (he : 0 ≤ early ∧ early ≤ 1) (hk : octets.length ≤ 30) :
    CallC w loose mean mg mb 8 (.ref 61) [.ref x, .bytes octets.toArray tko] news
      (fun r news' => ∃ tk, r = .bytes (encodeM octets).toArray tk ∧ news' = rest) (fun _ => False) := by
  unfold CallC
  have D' := D
  obtain ⟨kk, kh, te, tm, tbi, tn, tc, tw, tfo, tobj, ktups, hT, hA, rfl⟩ := D'
  dsimp only [codeV, encInit] at *
  intro dp un gd cn cs a ccd cl outer A₀ base h₀ L m s Q E
  k_fill
  obtain ⟨hp', gn, dr, tk0, os⟩ := s
  intro B F X N T hkk hd hu hret hexc
  refine wpC_call ?_
  k_dflt (walk_at "c enter")
  rename_i gF LF hF0 tF FGF FF NF BF XF TF
  walk_at "c steps"
  refine StopAt.mk ?_
  refine' CallC.at (efeed_ok w loose mean mg mb early 0 encInit x d f tb octets tko rest _ D 0 he EZ.init (by omega) (by decide)) BF (by assumption) XF (by assumption) TF rfl (by omega) (by omega) ?ret (fun _ _ _ _ _ _ _ _ h => h.elim)
  case ret =>
    intro r n' h' tk' F' N' hP0
    refine hideGoal fun G hG => ?_
    obtain ⟨f', tkr, n'', hn, rfl, D2⟩ := hP0
    refine hG ?_
    clear hG G
    have hz := EZ.init.feed (octets := octets) (by omega)
    have hz2 : EZ (0 + octets.length) { encFeed encInit octets with ws := { (encFeed encInit octets).ws with found := [] } } := ⟨hz.bits, hz.many, by simp, hz.code, hz.table, hz.following⟩
    have hfl := hz.found
    have hfl2 := encFinish_sz hz2
    have D3 := D2
    obtain ⟨kk', kh', te', tm', tbi', tn', tc', tw', tfo', tobj', ktups', hT', hA', rfl⟩ := D3
    dsimp only at N'
    walk_at "c steps"
    refine StopAt.mk ?_
    refine' CallC.at (efin_ok w loose mean mg mb early n'' _ x d f' tb rest _ D2 _ he hz2 (by omega)) BF (by assumption) XF (by assumption) TF rfl (by omega) (by omega) ?ret2 (fun _ _ _ _ _ _ _ _ h => h.elim)
    case ret2 =>
      intro r n3 h3 tk3 F3 N3 hP0
      refine hideGoal fun G hG => ?_
      obtain ⟨tk4, rfl, rfl⟩ := hP0
      refine hG ?_
      clear hG G
      simp only [List.length_nil] at hfl2
      walk_at "c steps"
      exact hret _ _ _ _ (by assumption) (by assumption) ⟨_, rfl, rfl⟩
theorem enc_ok (w : World) (loose : List Str) (mean : ExcName → Option Value) (mg mb : Str → Option Value)
    (early : Int) (octets : List UInt8) (tko te : Tok) (rest : List (Addr × Obj)) (he : 0 ≤ early ∧ early ≤ 1) (hk : octets.length ≤ 30) :
    CallC w loose mean mg mb 10 (.ref 197) [.bytes octets.toArray tko, .int early te] rest
      (fun r news' => ∃ tk, r = .bytes (encodeM octets).toArray tk ∧ news' = rest) (fun _ => False) := by
  unfold CallC
  intro dp un gd cn cs a ccd cl outer A₀ base h₀ L m s Q E
  k_fill
  obtain ⟨hp', gn, dr, tk0, os⟩ := s
  intro B F X N T hkk hd hu hret hexc
  refine wpC_call ?_
  k_dflt (walk_at "c enter")
  rename_i gF LF hF0 tF FGF FF NF BF XF TF
  walk_at "c steps"
  refine StopAt.mk ?_
  refine' CallC.at (emk_ok w loose mean mg mb early te _ rest he) BF (by assumption) XF (by assumption) TF rfl (by omega) (by omega) ?ret (fun _ _ _ _ _ _ _ _ h => h.elim)
  case ret =>
    intro r n' h' tk' F' N' hP0
    refine hideGoal fun G hG => ?_
    obtain ⟨x, d, f, tb, rfl, D⟩ := hP0
    refine hG ?_
    clear hG G
    walk_at "c steps"
    refine StopAt.mk ?_
    refine' CallC.at (coded_enc w loose mean mg mb early x d f tb octets tko rest _ D he hk) BF (by assumption) XF (by assumption) TF rfl (by omega) (by omega) ?ret2 (fun _ _ _ _ _ _ _ _ h => h.elim)
    case ret2 =>
      intro r n3 h3 tk3 F3 N3 hP0
      refine hideGoal fun G hG => ?_
      obtain ⟨tk4, rfl, rfl⟩ := hP0
      refine hG ?_
      clear hG G
      walk_at "c steps"
      exact hret _ _ _ _ (by assumption) (by assumption) ⟨_, rfl, rfl⟩
theorem reg_PDeck : True := by
  k_with_none
  (k_with "L om" => first | with_reducible assumption | (with_reducible refine Ne.symm ?_; assumption) | ((with_reducible refine low1 (by assumption) ?_); exact rfl) | ((with_reducible refine low2 (by assumption) ?_); exact rfl) | ((with_reducible refine low7 (by assumption) ?_); exact rfl) | with_reducible exact low8 (by assumption) | ((with_reducible refine low3 (by assumption) ?_); exact rfl) | ((with_reducible refine low4 (by assumption) ?_); exact rfl) | with_reducible exact low5 (by assumption) | with_reducible exact low6 (by assumption) | with_reducible exact And.left (by assumption) | with_reducible exact And.right (by assumption) | with_reducible exact And.intro (by assumption) (by assumption) | ((with_reducible refine low9 (by assumption) ?_); exact rfl) | ((with_reducible refine low10 (by assumption) ?_); exact rfl) | ((with_reducible refine low12 (by assumption) ?_); exact rfl) | with_reducible exact Nat.le_succ_of_le (by assumption) | with_reducible exact Nat.add_le_add (by assumption) (Nat.min_le_left _ _) | ((with_reducible refine low16 (by assumption) (by assumption) ?_); exact rfl) | with_reducible exact low17 (by assumption) (by assumption) | with_reducible exact low18 (by assumption) | with_reducible exact low19 (by assumption) (by assumption) | with_reducible exact low20 (by assumption) | with_reducible exact And.intro (Int.emod_nonneg _ (by decide)) (Int.emod_lt_of_pos _ (by decide)) | ((with_reducible refine low21 (by assumption) ?_); exact rfl) | ((with_reducible refine low22 (by assumption) ?_); exact rfl) | with_reducible exact low6 (And.left (by assumption)) | with_reducible exact low6 (And.left (And.right (by assumption))) | with_reducible exact low6 (And.left (And.right (And.right (by assumption)))) | with_reducible exact low6 (And.left (And.right (And.right (And.right (by assumption))))) | with_reducible exact low6 (And.right (by assumption)) | lia | with_reducible contradiction)
  (k_with "L my putL" => first | with_reducible exact putL_d4 | with_reducible exact putL_d5 | with_reducible exact putL_d6 | with_reducible exact putL_d7 | with_reducible exact putL_d8 | with_reducible exact putL_d2 | with_reducible exact putL_d3 | (refine' putL_hd ?xZ; (case xZ => decide +kernel)) | (refine' putL_tl ?xZ ?yZ; (case xZ => decide +kernel); (case yZ => k_extra "L my putL")))
  (k_with "L my putN" => first | with_reducible exact putN_d4 | with_reducible exact putN_d5 | with_reducible exact putN_d6 | with_reducible exact putN_d7 | with_reducible exact putN_d8 | with_reducible exact putN_d2 | with_reducible exact putN_d3 | (refine' putN_hd ?xZ; (case xZ => decide +kernel)) | (refine' putN_tl ?xZ ?yZ; (case xZ => decide +kernel); (case yZ => k_extra "L my putN")))
  (k_with "L all" => first | assumption | exact allLt_ne (by assumption) | exact allLt_ne (And.right (by assumption)) | exact allLt_ne (And.right (And.right (by assumption))) | exact allLt_ne (And.right (And.right (And.right (by assumption)))))
  (k_with "L room" => ((try simp only [depth_under_make, depth_under_kw, depth_in1, depth_deeper, depth_caller]); (try dsimp only [ktrTop]); omega))
  (k_with "L execs cons" => (refine r_consL ?_; intro _))
  (k_with "L execs nil" => refine wpAny_execs_nil ?_)
  (k_with "L exec If" => refine wpAny_If ?_)
  (k_with "L eval Constant int" => refine r_int ?_)
  (k_with "L eval Constant bytes" => refine r_bytes ?_)
  (k_with "L eval Constant str" => refine r_str ?_)
  (k_with "L binaryOp Add int int" => refine r_add ?_)
  (k_with "L binaryOp Sub int int" => refine r_sub ?_)
  (k_with "L binaryOp BitAnd int int" => refine r_and ?_)
  (k_with "L binaryOp BitOr int int" => refine r_or ?_)
  (k_with "L binaryOp RShift int int" => (refine' r_shr ?aZ ?_; (case aZ => omega)))
  (k_with "L binaryOp Mod int int" => (refine' r_mod ?aZ ?_; (case aZ => omega)))
  (k_with "L binaryOp LShift int int" => first | with_reducible refine r_shl09 ?_ | with_reducible refine r_shl10 ?_ | with_reducible refine r_shl12 ?_ | with_reducible refine r_shl28 ?_ | (refine' r_shl ?aZ ?bZ ?cZ ?_; (case aZ | bZ | cZ => omega)))
  (k_with "L call builtin:len" => ( (with_reducible show wpAny _ _ (call (Value.builtin "len") [Value.ref _]) _ _ _); refine' r_len ?NZ ?mZ ?zZ ?_; (case NZ => k_asm); (case mZ => k_mem); (case zZ => first | omega | (simp only [List.size_toArray, Array.size_push] at *; omega))))
  (k_with "L getAttr ref" => (k_here; k_dflt ( refine' r_getattr ?k1Z ?k2Z ?k3Z ?k4Z ?k5Z ?k6Z ?k7Z ?k8Z ?k9Z ?_; (case k1Z | k2Z => k_asm); (case k3Z => k_inst); (case k4Z | k5Z | k6Z | k7Z => k_is); (case k8Z => k_get); (case k9Z => k_handed); k_whole)))
  (k_with "L setAttr ref" => (k_here; k_dflt (first | (refine' r_setattr ?k1Z ?k2Z ?k3Z ?k4Z ?k5Z ?k6Z ?k7Z ?k8Z ?k9Z ?k10Z ?k11Z ?k11bZ ?k12Z ?k13Z ?_; (case k1Z | k2Z | k3Z => k_asm); (case k4Z => k_inst); (case k5Z => exact rfl); (case k6Z | k7Z | k8Z | k9Z => k_is); (case k10Z => k_get); (case k11Z => (intro _; k_extra "L my putL")); (case k11bZ => k_extra "L my putN"); (case k12Z => k_upd); (case k13Z => exact Nat.le_of_ble_eq_true rfl); k_whole; intro _ _ _ _; (try k_sweep)) | (refine' r_newattr ?k1Z ?k2Z ?k3Z ?k4Z ?k5Z ?k6Z ?k7Z ?k8Z ?k9Z ?k10Z ?k11Z ?k12Z ?k13Z ?_; (case k1Z | k2Z | k3Z => k_asm); (case k4Z => k_inst); (case k5Z => exact rfl); (case k6Z | k7Z | k8Z | k9Z => k_is); (case k10Z => k_get); (case k11Z => exact rfl); (case k12Z => exact Nat.le_of_ble_eq_true rfl); (case k13Z => k_updF); k_whole; intro _ _ _ _ _ N'; (dsimp only [List.cons_append, List.nil_append] at N'); (try (revert N'; intro _)); (try k_sweep)))))
  (k_with "L storeName" => (k_here; k_dflt ( refine' r_store ?k1Z ?k2Z ?k3Z ?k4Z ?_; (case k1Z | k2Z => k_asm); (case k3Z | k4Z => rfl); k_whole; intro _ _ _ _; (try k_sweep))))
  (k_with "L newList" => (k_here; k_dflt (refine' r_newList ?k1Z ?k2Z ?k3Z ?_; (case k1Z | k2Z => k_asm); (case k3Z => exact Nat.le_of_ble_eq_true rfl); k_whole); intro _ _ _ _ l1; (try k_lt l1); (try (revert l1; intro _)); (try k_sweep)))
  (k_with "L call builtin:list.append" => (k_here; (with_reducible show wpAny _ _ (call (Value.builtin _) [Value.ref _, _]) _ _ _); k_dflt (refine' r_append ?k1Z ?k2Z ?k3Z ?zZ ?_; (case k1Z | k2Z => k_asm); (case k3Z => k_upd); (case zZ => first | omega | (simp only [List.size_toArray, Array.size_push] at *; omega)); k_whole); intro _ _ _; (try k_sweep)))
  (k_with "L my enter" => (refine' r_enter ?k1Z ?k2Z ?k3Z ?k4Z ?k5Z ?kAZ ?kFZ ?kKZ ?k6Z ?k7Z ?k8Z ?k9Z ?kBZ ?_ ?c2Z ?c3Z ?c4Z ?c5Z; (case kAZ | kFZ => exact rfl); (case kKZ => first | assumption | exact rfl); (case k1Z | k2Z | k3Z | k4Z | k5Z => k_asm); (case k6Z | k7Z => k_is); (case k8Z => k_room); (case k9Z => first | exact BindsTo.of_eq rfl | exact binds_K (by k_in) rfl (by k_is) rfl rfl rfl); (case c5Z => decide); (case kBZ => exact locs rfl); (case c2Z | c3Z | c4Z => exact rfl); k_whole; intro _ _ _ _ _ _ _ _ _ _; (try dsimp only); (try k_fold)))
  (k_with "L my class" => (refine' call_cls ?k1Z ?k2Z ?k3Z ?k4Z ?k5Z ?k6Z ?_; (case k1Z | k2Z | k3Z => k_asm); (case k4Z | k5Z | k6Z => k_is); k_whole; intro _ _ _ _ _ l1 l2; (try k_lt l1); (try (revert l1; intro _)); (try k_lt2 l2); (try (revert l2; intro _)); (try k_sweep); k_extra "L my enter"))
  (k_with "L call ref" => (k_here; k_dflt (first | k_extra "L my class" | (refine wpAny_call ?_; k_extra "L my enter"))))
  (k_with "L my sub" => first | exact mem_all | (refine List.forall_mem_cons.mpr ⟨?_, ?_⟩; (k_mem); k_extra "L my sub") | exact List.forall_mem_nil _ | (refine mem_step ?_; k_extra "L my sub"))
  (k_with "L my blen" => first | k_extra "L om" | exact Nat.zero_le _ | ((simp only [List.length_append, List.length_cons, List.length_nil, List.length_take, List.length_drop]); omega) | omega | exact Nat.le_trans (cut_length _ _ _) (by omega) | (simp only [List.length_append, List.length_cons, List.length_nil, List.length_take, List.length_drop]; omega))
  (k_with "L binaryOp Add bytes bytes" => (refine' r_badd ?zZ ?z2Z ?_; (case zZ | z2Z => k_extra "L my blen"); intro _ _))
  (k_with "L compareOp Eq bytes bytes" => refine r_beq ?_)
  (k_with "L subscriptTail" => (k_here; (with_reducible show wpAny _ _ (subscriptTail _ (Expr.Slice _ _ none _) (Value.bytes _ _) (Value.ref _)) _ _ _); k_dflt (refine' r_slice ?FZ ?NZ ?lZ ?uZ ?zZ ?_ ?sZ ?tZ; (case FZ | NZ => k_asm); (case lZ | uZ => constructor); (case zZ => omega); (case sZ => with_unfolding_all rfl); (case tZ => intro _; with_unfolding_all rfl)); intro _ _ _ _ _; (try k_sweep)))
  (k_with "L subscriptTail" => (k_here; (with_reducible show wpAny _ _ (subscriptTail _ _ (Value.ref _) (Value.int _ _)) _ _ _); k_dflt (refine' r_item ?NZ ?mZ ?aZ ?bZ ?xZ ?_ ?sZ ?tZ; (case NZ => k_asm); (case mZ => k_mem); (case aZ | bZ => omega); (case xZ => first | assumption | rfl); (case sZ => with_unfolding_all rfl); (case tZ => intro _; with_unfolding_all rfl))))
  (k_with "L my ev" => first | ((with_reducible show Ev _ _ _ _ _ _ _ (Expr.Constant _ _ _) _ _ _); first | exact ev_int | (intro _ _ Hx; walk1; with_reducible exact Hx)) | ((with_reducible show Ev _ _ _ _ _ _ _ (Expr.Name _ _) _ _ _); first | (refine' ev_L ?FZ ?vZ ?aZ ?bZ ?dZ; (case FZ => k_asm); (case aZ | bZ => rfl); (case dZ => decide); (case vZ => rfl)) | (intro _ _ Hx; walk1; with_reducible exact Hx)) | ((with_reducible show Ev _ _ _ _ _ _ _ (Expr.Attribute _ _ _) _ _ _); refine' ev_attr ?k1Z ?k2Z ?vZ ?k3Z ?k4Z ?k5Z ?k6Z ?k7Z ?k8Z ?k9Z ?aZ ?bZ ?dZ; (case k1Z | k2Z => k_asm); (case aZ | bZ => rfl); (case dZ => decide); (case vZ => rfl); (case k3Z => k_inst); (case k4Z | k5Z | k6Z | k7Z => k_is); (case k8Z => k_get); (case k9Z => k_handed)) | ((with_reducible show Ev _ _ _ _ _ _ _ (Expr.BinOp _ _ _ _) _ _ _); refine' ev_bin ?lZ ?rZ ?oZ; (case lZ | rZ => k_extra "L my ev"); (case oZ => (intro _ _ Hx; walk1; with_reducible exact Hx))) | ((with_reducible show Ev _ _ _ _ _ _ _ (Expr.Call (Expr.Name (Str.ofString "len") _) [_] [] _) _ _ _); intro _ _ Hx; (repeat walk1); with_reducible exact Hx))
  (k_with "L eval BinOp" => (k_here; k_dflt (refine' ev_use ?hZ ?_; (case hZ => k_extra "L my ev"); k_whole)))
  (k_with "L eval Attribute Name" => (k_here; k_dflt (refine' ev_use ?hZ ?_; (case hZ => k_extra "L my ev"); k_whole)))
  (k_with "L isTrue Compare" => (k_here; k_dflt (refine' ev_isTrue ?lZ ?rZ ?oZ ?mZ ?_; (case lZ | rZ => k_extra "L my ev"); (case oZ => (intro _ _ Hx; walk1; with_reducible exact Hx)); (case mZ => with_unfolding_all rfl); k_whole)))
  (k_with "L call ref" => (k_here; (with_reducible show wpAny _ _ (call (Value.ref 45) _) _ _ _); refine' r_excMake ?k1Z ?k2Z ?k3Z ?k4Z ?k5Z ?k6Z ?k7Z ?_; (case k1Z | k2Z | k3Z => k_asm); (case k4Z => exact Nat.le_of_ble_eq_true rfl); (case k5Z => kernel_rfl); (case k6Z | k7Z => k_is); k_whole; intro _ _ _ _ _ l1; (try k_lt l1); (try (revert l1; intro _)); (try k_sweep); k_extra "L my enter"))
  (k_with "L setAttr ref" => (k_here; (with_reducible show wpAny _ _ (setAttr _ "told" (Value.bytes _ _)) _ _ _); refine' r_excSet ?k1Z ?k2Z ?k3Z ?k4Z ?_; (case k1Z | k2Z | k3Z => k_asm); (case k4Z => k_updF); k_whole; intro _ _ _ _ _ _ _ l1; (try k_lt l1); (try (revert l1; intro _)); (try k_sweep)))
  (k_with "L Inst45" => (k_here; k_dflt (refine' ⟨_, _, _, rfl, ?aZ, ?cZ, ?dZ, ?eZ, ?bZ, ?_⟩; (case aZ => exact (News.get (by k_asm) (by k_mem))); (case cZ | dZ | eZ => exact rfl); (case bZ => exact Frag.In.keeps (by k_asm) (Fr.keep (by k_asm))); k_whole)))
  (k_with "L exec Raise some none" => (k_here; k_dflt (refine' r_raise ?aZ ?_; (case aZ => rfl); k_whole)))
  (k_with "L my nes" => first | exact List.forall_mem_nil _ | k_all | (refine List.forall_mem_cons.mpr ⟨?_, ?_⟩; (show @Ne Nat _ _; omega); k_extra "L my nes"))
  (k_with "L leaving ref" => (k_here; (rename Gone _ _ _ _ _ => gX); (rename Heap.UpToSlots _ _ => uX); k_dflt (refine' leave_more ?KZ ?FZ ?fZ ?RZ ?UZ ?_; (case KZ => assumption); (case RZ => exact gX); (case UZ => exact uX); (case FZ => assumption); (case fZ => exact rfl); k_whole); (try clear gX uX); intro _ _ _))
  (k_with "L leaving ref" => (k_here; k_dflt (refine' leave_first ?KZ ?FZ ?fZ ?kZ ?NZ ?aZ ?bZ ?_; (case KZ | FZ => assumption); (case fZ | kZ => exact rfl); (case NZ => assumption); (case aZ => k_extra "L my nes"); (case bZ => (show @Ne Nat _ _; omega)); k_whole); intro _ _ _))
  (k_with "L c enter" => (refine' c_enter ?k1Z ?k2Z ?k3Z ?k4Z ?k5Z ?kAZ ?kFZ ?kKZ ?k6Z ?k7Z ?k8Z ?k9Z ?kBZ ?_ ?c2Z ?c3Z ?c4Z ?c5Z; (case kAZ | kFZ => exact rfl); (case kKZ => first | assumption | exact rfl); (case k1Z | k2Z | k3Z | k4Z | k5Z => k_asm); (case k6Z | k7Z => k_is); (case k8Z => k_room); (case k9Z => first | exact BindsTo.of_eq rfl | exact binds_K (by k_in) rfl (by k_is) rfl rfl rfl); (case c5Z => decide); (case kBZ => exact locs rfl); (case c2Z | c3Z | c4Z => exact rfl); k_whole; intro _ _ _ _ _ _ _ _ _ _; (try dsimp only)))
  (k_with "L keep at" => first | ((with_reducible show KeepAt _ (Value.ref _) _); refine keep_ref (by k_in) (by k_is)) | exact keep_append | exact keep_extend | exact keep_bytearray | exact ⟨.machine, .inr (.inl rfl), Looks.of_pure (by kernel_rfl)⟩)
  (k_with "L c call" => ( (with_reducible show wpC _ _ (call (Value.builtin "bytearray.append") [Value.ref _, Value.int _ _]) _ _ _); k_dflt (refine' c_append ?k1Z ?k2Z ?k3Z ?k4Z ?k5Z ?zZ ?_; (case k1Z | k2Z => k_asm); (case k3Z => k_upd); (case k4Z | k5Z => omega); (case zZ => k_extra "L my blen"); k_whole); intro _ _ _; (try k_sweep)))
  (k_with "L c call" => ( (with_reducible show wpC _ _ (call (Value.builtin "bytearray.extend") [Value.ref _, Value.bytes _ _]) _ _ _); k_dflt (refine' c_extend ?k1Z ?k2Z ?k3Z ?zZ ?_; (case k1Z | k2Z => k_asm); (case k3Z => k_upd); (case zZ => k_extra "L my blen"); k_whole); intro _ _ _; (try k_sweep)))
  (k_with "L c call" => ( (with_reducible show wpC _ _ (call (Value.type "bytearray") []) _ _ _); k_dflt (refine' c_new ?k1Z ?k2Z ?_; (case k1Z | k2Z => k_asm); k_whole); intro _ _ _ _ l1; (try k_lt l1); (try (revert l1; intro _)); (try k_sweep)))
  (k_with "L getMethod ref" => (k_here; (with_reducible show wpAny _ _ (getMethod (Value.ref _) (PySem.Str.ofString "extend") _) _ _ _); k_dflt (refine' (meth_extend ?xZ).here ?_; (case xZ => exact (News.get (by k_asm) (by k_mem))); k_whole)))
  (k_with "L getMethod ref" => (k_here; (with_reducible show wpAny _ _ (getMethod (Value.ref _) (PySem.Str.ofString "append") _) _ _ _); k_dflt (refine' (meth_append ?xZ).here ?_; (case xZ => exact (News.get (by k_asm) (by k_mem))); k_whole)))
  (k_with "L harm" => fail "no harm")
  (k_with "L cw" => first | ((with_reducible refine c_consL ?_); intro _) | with_reducible refine c_nil ?_ | k_extra "L harm" | with_reducible refine c_If ?_ | ((with_reducible show wpC _ _ (isTrue (Expr.Compare (Expr.Call _ _ _ _) _ _ _) _ _) _ _ _); refine c_isTrue ?_) | with_reducible refine ofA_isTrue ?_ | ((with_reducible show wpC _ _ (exec (Stmt.Expr (Expr.Call _ _ _ _) _) _) _ _ _); refine c_Expr ?_) | with_reducible refine c_Assign ?_ | ((with_reducible show wpC _ _ (exec (Stmt.Assign [Expr.Attribute _ _ _] (Expr.Call _ _ _ _) _) _) _ _ _); refine c_AssignA ?_) | with_reducible refine c_Return ?_ | with_reducible refine ofA_exec ?_ | with_reducible refine c_Meth ?_ | with_reducible refine c_Call ?_ | ((with_reducible show wpC _ _ (eval (Expr.BinOp _ _ _ _) _) _ _ _); k_dflt (refine' ofA_eval (ev_use ?hZ ?_); (case hZ => k_extra "L my ev"); k_whole)) | with_reducible refine c_BinOp ?_ | with_reducible refine c_Compare ?_ | with_reducible refine c_And ?_ | with_reducible refine c_And1 ?_ | with_reducible refine ofA_eval ?_ | with_reducible refine c_args ?_ | with_reducible refine c_args0 ?_ | with_reducible refine c_with1 ?_ | ((with_reducible show wpC _ _ (callWith _ _ _ _ _) _ _ _); refine c_with0 (by k_extra "L keep at") ?_) | ((with_reducible show KeepAt _ _ _ ∧ _); refine ⟨by k_extra "L keep at", ?_⟩; (try dsimp only [List.cons_append, List.nil_append])) | k_extra "L c call" | with_reducible refine ofA_call ?_ | with_reducible refine c_ite1 (by assumption) ?_ | with_reducible refine c_ite0 (by assumption) ?_)
  (k_with "L c steps" => repeat' (first | ((with_reducible show wpAny _ _ _ _ _ _); walk1) | k_extra "L cw" | (k_unfold; (try dsimp only)) | ((show (_ : Flow → Shared → Prop) _ _); k_unfold; (try dsimp only)) | (k_end; wrow_close) | walk1 | (dsimp only; walk1) | (leave1; try dsimp only) | (dsimp only; k_extra "L cw") | fail "no step"))
  (k_with "L c call" => ( (with_reducible show wpC _ _ (call (Value.type "enumerate") [Value.bytes _ _]) _ _ _); k_dflt (refine' wpC_of_any (r_enumB ?k1Z ?k2Z ?_); (case k1Z | k2Z => k_asm); k_whole); intro _ _ _ _ _ l1 l2; (try k_lt l1); (try (revert l1; intro _)); (try k_lt2 l2); (try (revert l2; intro _)); (try k_sweep)))
  (k_with "L call type:bytes" => ((with_reducible show wpAny _ _ (call (Value.type "bytes") [Value.bytes _ _]) _ _ _); refine r_bytesB ?_))
  (k_with "L call type:bytes" => ((with_reducible show wpAny _ _ (call (Value.type "bytes") [Value.ref _]) _ _ _); k_dflt (refine' r_bytesBa ?aZ ?zZ ?_; (case aZ => exact (News.get (by k_asm) (by k_mem))); (case zZ => k_extra "L my blen"); k_whole); intro _ _))
  (k_with "L harm" => first | ((with_reducible show wpC _ _ (exec (Stmt.For _ _ _ [] _) _) _ _ _); refine c_For ?_) | ((with_reducible show wpC _ _ (pyIter _) _ _ _); refine wpC_of_any ?_))
  (k_with "L harm" => first | ((with_reducible show wpC _ _ (exec (Stmt.For _ _ _ [] _) _) _ _ _); refine c_For ?_) | ((with_reducible show wpC _ _ (exec (Stmt.While _ _ [] _) _) _ _ _); refine c_WhileR ?_) | ((with_reducible show codeC _ _ (Code.whileLoop _ _ [] _) _ _); refine codeC_while1 ?_) | ((with_reducible show LoopR _ _ _ _ _ _ _ _); dsimp only [LoopR]) | ((with_reducible show wpC _ _ (pyIter _) _ _ _); refine wpC_of_any ?_))
  (k_with "L harm" => ((with_reducible show wpC _ _ (exec (Stmt.Try _ (_ :: _) [] [] _) _) _ _ _); refine c_Try ?_))
  (k_with "L c enterC" => (refine' c_enterC ?k1Z ?k2Z ?k3Z ?k4Z ?k5Z ?kAZ ?kFZ ?kKZ ?k6Z ?k7Z ?k8Z ?k9Z ?kBZ ?_ ?c2Z ?c3Z ?c4Z ?c5Z; (case kAZ | kFZ => exact rfl); (case kKZ => first | assumption | exact rfl); (case k1Z | k2Z | k3Z | k4Z | k5Z => k_asm); (case k6Z | k7Z => k_is); (case k8Z => k_room); (case k9Z => first | exact BindsTo.of_eq rfl | exact binds_K (by k_in) rfl (by k_is) rfl rfl rfl); (case c5Z => decide); (case kBZ => exact locs rfl); (case c2Z | c3Z | c4Z => exact rfl); k_whole; intro _ _ _ _ _ _ _ _ _ _ _; (try dsimp only)))
  (k_with "L getAttr ref" => (k_here; (with_reducible show wpAny _ _ (getAttr (Value.ref _) (PySem.Str.ofString "told") _) _ _ _); refine' r_excGet ?k1Z ?k2Z ?k3Z ?k4Z ?k5Z ?k6Z ?k7Z ?_; (case k1Z | k2Z => k_asm); (case k3Z => exact (News.get (by k_asm) (by k_mem))); (case k4Z | k5Z | k6Z => assumption); (case k7Z => exact (News.get (by k_asm) (by k_mem))); k_whole; intro _))
  (k_with "L eval ListComp" => (refine StopAt.go ?_))
  (k_with "L my comp" => (refine StopAt.mk ?_; refine' r_compE (hs := ?hsZ) ?aZ ?bZ ?cZ ?_; (case hsZ => intro _; rfl); (case aZ | bZ => rfl); (case cZ => decide)))
  (k_with "L eval Name" => ((with_reducible show wpAny _ _ (eval (Expr.Name _ _) (compEnvC _ _ _ _)) _ _ _); first | (refine' r_cvar ?k1Z ?k2Z ?_; (case k1Z | k2Z => assumption)) | (refine' ldFreeK ?k1Z ?k2Z ?_; (case k1Z => rfl); (case k2Z => assumption)) | (refine' r_cG ?k1Z ?k2Z ?k3Z ?k4Z ?_; (case k1Z | k2Z | k3Z => k_asm); (case k4Z => k_is)) | (refine' r_cB ?k1Z ?k2Z ?k3Z ?k4Z ?k5Z ?k6Z ?_; (case k1Z | k2Z | k3Z => k_asm); (case k4Z => k_is); (case k5Z => boot_by_name); (case k6Z => decide))))
  (k_with "L call type:int" => ((with_reducible show wpAny _ _ (call (Value.type "int") [Value.int _ _]) _ _ _); refine call_int_int ?_))
  trivial
theorem deck_ok (w : World) (loose : List Str) (mean : ExcName → Option Value) (mg mb : Str → Option Value) (l : Addr) (vs : List Value) (ns : List Int) (rest : List (Addr × Obj)) (hI : IntsAre vs ns) (hz : ns.length ≤ 63)
    (dp un : Nat) (gd : Option (List Code)) (cn : Str) (cs : Scope) (a : Addr) (ccd : Value) (cl : List (Str × Addr)) (outer : List Env)
    (A₀ : Around) (base h₀ : Heap) (L : Addr) (m : Str → Option Value) (s : Shared) (Q E : Value → Shared → Prop) (hl : h₀.IsList l vs.toArray) :
    Below A₀ base outer h₀ → Fr h₀ L s.heap m → (Mine.hd.heap_39 w.params).In h₀ → News h₀ L s.heap rest →
    Top Mine.hd.view_39 loose mean mg mb h₀ → cs.kind = .function →
    dp + 20 < recursionLimit → un + 160 < cLine →
    (∀ r news' h' tk', Fr h₀ L h' m → News h₀ L h' news' → (∃ dk c dO k vs' ns' ta, dO.IsDictOf (strKind PySem.Challenge.rw_nt0490_01.row.prog w) [(Str.ofString "cells", .ref c), (Str.ofString "at", .int 0 ta)] ∧ @Ne Nat dk c ∧ (∀ p ∈ rest, p.1 ≠ dk) ∧ IntsAre vs' ns' ∧ vs'.length ≤ 60 ∧ r = .ref dk ∧ news' = (dk, dO) :: (c, listOf vs'.toArray k) :: rest) → Q r { s with heap := h', toks := tk' }) →
    wpAny (model PySem.Challenge.rw_nt0490_01.row.prog w) (ktrTop dp un gd cn cs L a ccd cl outer) (call (.ref 210) [.ref l]) Q E s := by
  k_fill
  obtain ⟨hp, gn, dr, tk0, os⟩ := s
  intro B F X N T hk hd hu hret
  have hlen : vs.length = ns.length := IntsAre.length hI
  refine wpAny_call ?_
  k_dflt (walk_at "my enter")
  rename_i gF LF hF0 tF FGF FF NF BF XF TF
  have hl' : gF.IsList l vs.toArray := hl.at fun o e => FGF.keep l o e
  clear hl
  k_steps
  walk_at "my comp"
  k_steps
  rename IntsAre _ (List.take 60 ns) => hI'
  refine StopAt.mk ?_
  rename List Value => ws
  rename Fr gF LF _ _ => F1
  rename News gF LF _ _ => N1
  refine comp_listN (items := ws) rfl ?l1 (by decide) rfl rfl (_ :: _ :: rest) [] F1 (by exact N1) (.inl ⟨_, .head _⟩) (fun i ys news => news = [] ∧ ∃ ks, IntsAre ys ks) (fun i ys news j => by rw [j.1]) ⟨rfl, [], .nil⟩ ?hn ?turn ?H
  case l1 => exact ⟨_, (N1 _ (.head _)).1, rfl, 0, rfl⟩
  case hn => rw [IntsAre.length hI', List.length_take]; omega
  case turn =>
    intro i v ys news I oI C D cO mc h2 tk k hv j hlen hIl hf hC hmc F2 N2
    obtain ⟨rfl, ks, hks⟩ := j
    obtain ⟨n, tv, rfl, -⟩ := IntsAre.at hI' _ _ hv
    k_steps
    exact StopAt.mk ⟨_, _, [], rfl, F2, N2, rfl, _, ints_snoc hks⟩
  case H =>
    intro D h2 tk ys news k j hlen hlt F2 N2
    obtain ⟨rfl, ks, hks⟩ := j
    replace hlt : ∀ p ∈ (_, _) :: (_, _) :: rest, @LT.lt Nat _ p.1 D := hlt
    k_lt hlt
    replace N2 : News gF LF h2 ((D, listOf ys.toArray k) :: _ :: _ :: rest) := N2
    k_steps
    rename News h₀ _ _ _ => N9
    rename Fr h₀ _ _ _ => F9
    rename Obj.IsDictOf _ _ (_ :: _) => hd9
    refine hret _ _ _ _ F9 (News.sub N9 (by walk_at "my sub")) ⟨_, D, _, k, ys, ks, _, hd9, ?_, ?_, hks, ?_, rfl, rfl⟩
    · exact Nat.ne_of_lt (by first | assumption | exact And.left (by assumption) | exact And.left (And.right (by assumption)))
    · rename ∀ (p : Addr × Obj), p ∈ rest → p.fst < _ => l0
      exact fun p hp => Nat.ne_of_lt (l0 p hp)
    · have := IntsAre.length hI'; rw [hlen, this, List.length_take]; omega
theorem reg_PPacked : True := by
  (k_with "L c enterX" => (refine' c_enterX ?k1Z ?k2Z ?k3Z ?k4Z ?k5Z ?kAZ ?kFZ ?kKZ ?k6Z ?k7Z ?k8Z ?k9Z ?kBZ ?kDZ ?_ ?c2Z ?c3Z ?c4Z; (case kAZ | kFZ => exact rfl); (case kKZ => first | assumption | exact rfl); (case k1Z | k2Z | k3Z | k4Z | k5Z => k_asm); (case k6Z | k7Z => k_is); (case k8Z => k_room); (case k9Z => first | exact BindsTo.of_eq rfl | exact binds_K (by k_in) rfl (by k_is) rfl rfl rfl); (case kBZ => exact rfl); (case kDZ => decide +kernel); (case c2Z | c3Z | c4Z => exact rfl); k_whole; intro _ _ _ _ _ _ _ N' Y' _ _ _ l1; (try k_lt l1); (try (revert l1; intro _)); k_cells Y'; (try simp only [List.cons_append, List.nil_append] at N'); (try (revert N'; intro _)); (try dsimp only)))
  (k_with "L c enterXC" => (refine' c_enterXC ?k1Z ?k2Z ?k3Z ?k4Z ?k5Z ?kAZ ?kFZ ?kKZ ?k6Z ?k7Z ?k8Z ?k9Z ?kBZ ?kDZ ?_ ?c2Z ?c3Z ?c4Z; (case kAZ | kFZ => exact rfl); (case kKZ => first | assumption | exact rfl); (case k1Z | k2Z | k3Z | k4Z | k5Z => k_asm); (case k6Z | k7Z => k_is); (case k8Z => k_room); (case k9Z => first | exact BindsTo.of_eq rfl | exact binds_K (by k_in) rfl (by k_is) rfl rfl rfl); (case kBZ => exact rfl); (case kDZ => decide +kernel); (case c2Z | c3Z | c4Z => exact rfl); k_whole; intro _ _ _ _ _ _ _ N' Y' _ _ _ l1 _; (try k_lt l1); (try (revert l1; intro _)); k_cells Y'; (try simp only [List.cons_append, List.nil_append] at N'); (try (revert N'; intro _)); (try dsimp only)))
  (k_with "L storeName" => (refine' r_storeC ?k1Z ?k2Z ?k3Z ?k4Z ?k5Z ?k6Z ?k7Z ?_; (case k6Z | k7Z => rfl); (case k1Z | k2Z => k_asm); (case k3Z => rfl); (case k4Z => k_updF); (case k5Z => assumption); intro _ _ _ N' _; (try dsimp only at N'); (try (revert N'; intro _))))
  (k_with "L eval Name" => (refine' r_nameC ?k1Z ?k2Z ?k3Z ?k4Z ?k5Z ?k6Z ?k7Z ?_; (case k5Z | k6Z => rfl); (case k7Z => decide); (case k1Z => k_asm); (case k2Z => rfl); (case k3Z => k_mem); (case k4Z => assumption)))
  (k_with "L binaryOp Pow int int" => (refine' r_powS ?aZ ?bZ ?cZ ?_; (case aZ | bZ => omega); (case cZ => decide)))
  (k_with "L binaryOp Mult int int" => (refine' r_mulR ?aZ ?_; (case aZ => first | assumption | decide | omega)))
  (k_with "L binaryOp FloorDiv int int" => (refine' r_fdivS ?aZ ?bZ ?_; (case aZ => first | assumption | exact pow256_ne _ | decide | omega); (case bZ => first | assumption | exact pow256_log (by omega) | decide)))
  (k_with "L call type:range" => ((with_reducible show wpAny _ _ (call (Value.type "range") [Value.int _ _]) _ _ _); refine' r_range ?k1Z ?k2Z ?_; (case k1Z | k2Z => k_asm); intro _ _ _ _ _ _ _ _ _ _ l1; (try k_lt l1); (try (revert l1; intro _))))
  (k_with "L call type:bytes" => ((with_reducible show wpAny _ _ (call (Value.type "bytes") [Value.ref _]) _ _ _); refine StopAt.go ?_))
  trivial
theorem packed_ok (w : World) (loose : List Str) (mean : ExcName → Option Value) (mg mb : Str → Option Value)
    (l1 l2 : Addr) (vs us : List Value) (ns ws : List Int) (k1 k2 : Nat) (rest : List (Addr × Obj)) (hv : IntsAre vs ns) (hu : IntsAre us ws) (h1 : ns.length ≤ 260) (h2 : ws.length ≤ 260) (hw : ∀ x ∈ ws, 0 ≤ x ∧ x ≤ 10) (hn : ∀ x ∈ ns, 0 ≤ x ∧ x < 2 ^ 10)
    (m1 : (l1, listOf vs.toArray k1) ∈ rest) (m2 : (l2, listOf us.toArray k2) ∈ rest) :
    CallC w loose mean mg mb 10 (.ref 222) [.ref l1, .ref l2] rest (fun r news' => ∃ tk, r = .bytes (byteArr (packB (ns.zip ws))) tk ∧ news' = rest) (fun _ => False) := by
  unfold CallC
  intro dp un gd cn cs a ccd cl outer A₀ base h₀ L m s Q E
  k_fill
  obtain ⟨hp', gn, dr, tk0, os⟩ := s
  intro B F X N T hkk hd hu' hret hexc
  refine wpC_call ?_
  k_dflt (walk_at "c enterX")
  rename_i gF LF hF0 tF FGF FF BF XF TF lF oM oN dM dN NF
  have c0 : AllLt LF rest := allLt_of lF
  have c1 : AllLt (LF + 1) rest := allLt_up (Nat.le_succ _) c0
  have c2 : AllLt (LF + 1 + 1) rest := allLt_up (Nat.le_succ _) c1
  have c3 : LF + 1 < LF + 1 + 1 := Nat.lt_succ_self _
  have d1 : ∃ v₀, oM.data = .cell v₀ := ⟨_, dM⟩
  have d2 : ∃ v₀, oN.data = .cell v₀ := ⟨_, dN⟩
  clear dM dN
  obtain ⟨vM, dM⟩ := d1
  obtain ⟨vN, dN⟩ := d2
  walk_at "c steps"
  rename News gF LF _ _ => N1
  rename Fr gF LF _ _ => F1
  obtain ⟨pM0, pN0, tM0, tN0, eM0, eN0, N0⟩ : ∃ pM pN tM tN, pM.data = .cell (some (.int 0 tM)) ∧ pN.data = .cell (some (.int 0 tN)) ∧ News gF LF _ ((LF + 1 + 1, pM) :: (LF + 1, pN) :: rest) := ⟨_, _, _, _, by assumption, by assumption, News.sub N1 (fun p hp => .tail _ hp)⟩
  clear N1
  refine r_zip F1 N0 (.tail _ (.tail _ m1)) (.tail _ (.tail _ m2)) ?_
  intro h2 z TI TO i1 i2 oz oT o1 o2 oI D F2 N2 St lt2
  walk_at "c steps"
  refine wpAny_pyIter_zip St.1 ?_
  walk_at "c steps"
  have hlv : vs.toArray.size = ns.length := by rw [List.size_toArray]; exact IntsAre.length hv
  have hlu : us.toArray.size = ws.length := by rw [List.size_toArray]; exact IntsAre.length hu
  have lM := lt2 _ (.head _)
  have lN := lt2 _ (.tail _ (.head _))
  dsimp only at lM lN
  have ltr : ∀ p ∈ rest, @LT.lt Nat _ p.1 z ∧ @LT.lt Nat _ p.1 TI ∧ @LT.lt Nat _ p.1 TO ∧ @LT.lt Nat _ p.1 i1 ∧ @LT.lt Nat _ p.1 i2 := fun p hp => lt2 p (.tail _ (.tail _ hp))
  refine' codeC_for_walkU (n := min vs.toArray.size us.toArray.size) (rest := (TI, oI) :: rest) rfl (WalksT.zip2 rfl z TI TO i1 i2 l1 l2 D vs.toArray us.toArray).toU (P := fun i x y => vs[i]? = some x ∧ us[i]? = some y) ?h2 rfl rfl rfl ?fp ?wr ?some ?r
    (fun i _ news => ∃ oM oN tM tN, news = [(LF + 1 + 1, oM), (LF + 1, oN)] ∧ oM.data = .cell (some (.int (packF ((ns.zip ws).take i)).2 tM)) ∧ oN.data = .cell (some (.int (packF ((ns.zip ws).take i)).1 tN))) ?hJ ?turn ?done St F2 (news₀ := [(LF + 1 + 1, pM0), (LF + 1, pN0)]) (News.sub N2 ?sub) ?start
  case h2 => rintro i vals ⟨x, y, hx, hy, rfl⟩; exact ⟨x, y, rfl, by simpa using hx, by simpa using hy⟩
  case fp =>
    intro b hb
    simp only [List.mem_cons, List.not_mem_nil, or_false] at hb
    rcases hb with rfl | rfl | rfl | rfl | rfl | rfl | rfl
    · exact .inl (by simp)
    · exact .inr (.inl ⟨_, .head _⟩)
    · exact .inl (by simp)
    · exact .inl (by simp)
    · exact .inl (by simp)
    · exact .inr (.inl ⟨_, .tail _ m1⟩)
    · exact .inr (.inl ⟨_, .tail _ m2⟩)
  case wr =>
    intro b hb
    simp only [List.mem_cons, List.not_mem_nil, or_false] at hb
    rcases hb with rfl | rfl | rfl | rfl
    · exact (N2 _ (.head _)).2
    · exact (N2 _ (.tail _ (.head _))).2
    · exact (N2 _ (.tail _ (.tail _ (.head _)))).2
    · exact (N2 _ (.tail _ (.tail _ (.tail _ (.head _))))).2
  case some =>
    intro i h hP0 b hb
    refine hideGoal fun G hG => ?_
    obtain ⟨a1, a2, ⟨x, y, a3⟩, ⟨o4, a4, _⟩, ⟨o5, a5, _⟩, _⟩ := hP0
    refine hG ?_
    clear hG G
    simp only [List.mem_cons, List.not_mem_nil, or_false] at hb
    rcases hb with rfl | rfl | rfl | rfl
    · exact ⟨_, a1⟩
    · exact ⟨_, a3⟩
    · exact ⟨_, a4⟩
    · exact ⟨_, a5⟩
  case r =>
    intro p hp hm
    simp only [List.mem_cons, List.not_mem_nil, or_false] at hm
    rcases List.mem_cons.mp hp with rfl | hp
    · rcases hm with q | q | q | q
      · exact D.TIz q
      · exact D.TITO q
      · exact D.TIi1 q
      · exact D.TIi2 q
    · have := ltr p hp
      rcases hm with q | q | q | q <;> rw [q] at this <;> simp only [Nat.lt_irrefl, false_and, and_false] at this
  case hJ =>
    intro i m news hP0 p hp hm
    refine hideGoal fun G hG => ?_
    obtain ⟨oM, oN, tM, tN, rfl, _⟩ := hP0
    refine hG ?_
    clear hG G
    simp only [List.mem_cons, List.not_mem_nil, or_false] at hp hm
    rcases hp with rfl | rfl <;> rcases hm with q | q | q | q
    · exact Nat.ne_of_lt lM.1 q
    · exact Nat.ne_of_lt lM.2.2.1 q
    · exact Nat.ne_of_lt lM.2.2.2.1 q
    · exact Nat.ne_of_lt lM.2.2.2.2 q
    · exact Nat.ne_of_lt lN.1 q
    · exact Nat.ne_of_lt lN.2.2.1 q
    · exact Nat.ne_of_lt lN.2.2.2.1 q
    · exact Nat.ne_of_lt lN.2.2.2.2 q
  case sub =>
    intro p hp
    simp only [List.mem_append, List.mem_cons, List.not_mem_nil, or_false] at hp ⊢
    rcases hp with (q | q) | q | q <;> simp [q]
  case start =>
    exact ⟨_, _, _, _, rfl, eM0, eN0⟩
  case turn =>
    intro i v v1 m' news own h3 tk3 hi hP0 how hP1 F3 N3
    (try ((with_reducible refine foldC ?_); intro QT))
    refine hideGoal fun G hG => ?_
    obtain ⟨hvi, hui⟩ := hP0
    obtain ⟨pM, pN, tM, tN, rfl, eM, eN⟩ := hP1
    refine hG ?_
    clear hG G
    obtain ⟨c, tc, rfl, hci⟩ := IntsAre.at hv _ _ hvi
    obtain ⟨wd, tw, rfl, hwi⟩ := IntsAre.at hu _ _ hui
    have hwd := hw wd (List.mem_of_getElem? hwi)
    have hpw := pow2_small hwd
    obtain ⟨⟨b1, q1⟩, r1, rfl, ez1, how1⟩ := List.map_eq_cons_iff.mp how
    obtain ⟨⟨b2, q2⟩, r2, rfl, ez2, how2⟩ := List.map_eq_cons_iff.mp how1
    obtain ⟨⟨b3, q3⟩, r3, rfl, ez3, how3⟩ := List.map_eq_cons_iff.mp how2
    obtain ⟨⟨b4, q4⟩, r4, rfl, ez4, how4⟩ := List.map_eq_cons_iff.mp how3
    obtain rfl := List.map_eq_nil_iff.mp how4
    dsimp only at ez1 ez2 ez3 ez4
    subst ez1 ez2 ez3 ez4
    clear F2 N2
    replace N3 : News gF LF h3 ((LF + 1 + 1, pM) :: (LF + 1, pN) :: (b1, q1) :: (b2, q2) :: (b3, q3) :: (b4, q4) :: (TI, oI) :: rest) := N3
    walk_at "c steps"
    have et : (ns.zip ws).take (i + 1) = (ns.zip ws).take i ++ [(c, wd)] := by
      rw [List.take_add_one, List.getElem?_zip_eq_some (z := (c, wd)) |>.mpr ⟨hci, hwi⟩]; rfl
    rename Fr gF LF _ _ => F9
    rename News gF LF _ _ => N9
    exact ⟨_, _, _, _, rfl, F9, News.sub N9 (fun p hp => .tail _ hp), ⟨_, _, _, _, rfl, by rw [et, packF_snoc]; assumption, by rw [et, packF_snoc]; assumption⟩⟩
  case done =>
    intro m' news h3 tk3 hP0 F3 N3
    refine hideGoal fun G hG => ?_
    obtain ⟨pM, pN, tM, tN, rfl, eM, eN⟩ := hP0
    refine hG ?_
    clear hG G
    have ez : (ns.zip ws).take (min vs.toArray.size us.toArray.size) = ns.zip ws := List.take_of_length_le (by rw [List.length_zip, hlv, hlu]; exact Nat.le_refl _)
    rw [ez] at eM eN
    have hM := packF_many (cs := ns.zip ws) (fun x hx => hw x.2 (List.of_mem_zip hx).2)
    have hzl : (ns.zip ws).length ≤ 260 := by rw [List.length_zip]; omega
    have hr7 : 0 ≤ ((8 : Int) - (packF (ns.zip ws)).2.fmod 8).fmod 8 ∧ ((8 : Int) - (packF (ns.zip ws)).2.fmod 8).fmod 8 ≤ 10 := ⟨Int.fmod_nonneg_of_pos _ (by decide), by have := Int.fmod_lt_of_pos ((8 : Int) - (packF (ns.zip ws)).2.fmod 8) (by decide : (0 : Int) < 8); omega⟩
    have hpw := pow2_small hr7
    clear F2 N2 F1 N0 eM0 eN0
    replace N3 : News gF LF h3 ((LF + 1 + 1, pM) :: (LF + 1, pN) :: (TI, oI) :: rest) := N3
    walk_at "c steps"
    obtain ⟨nb, hnb⟩ : ∃ nb : Nat, ((packF (ns.zip ws)).2 + ((8 : Int) - (packF (ns.zip ws)).2.fmod 8).fmod 8).fdiv 8 = (nb : Int) := ⟨_, (Int.toNat_of_nonneg (Int.fdiv_nonneg (by omega) (by decide))).symm⟩
    have hnb4 : nb ≤ 400 := by
      have h9 := Int.mul_fdiv_self_le (x := (packF (ns.zip ws)).2 + ((8 : Int) - (packF (ns.zip ws)).2.fmod 8).fmod 8) (k := 8) (by decide)
      rw [hnb] at h9; omega
    have hpk : packB (ns.zip ws) = (List.range nb).map fun (k : Nat) => (((packF (ns.zip ws)).1 * 2 ^ (((8 : Int) - (packF (ns.zip ws)).2.fmod 8).fmod 8).toNat).fdiv (256 ^ (((packF (ns.zip ws)).2 + ((8 : Int) - (packF (ns.zip ws)).2.fmod 8).fmod 8).fdiv 8 - 1 - (k : Int)).toNat)).fmod 256 := by
      unfold packB; dsimp only; rw [hnb]; rfl
    have hpr : ∀ n ∈ packB (ns.zip ws), 0 ≤ n ∧ n < 256 := by
      rw [hpk]; intro n hn
      obtain ⟨k, _, rfl⟩ := List.mem_map.mp hn
      exact ⟨Int.fmod_nonneg_of_pos _ (by decide), Int.fmod_lt_of_pos _ (by decide)⟩
    walk_at "my comp"
    walk_at "c steps"
    refine StopAt.mk ?_
    rename IsRange _ _ _ _ _ _ _ _ => hR
    rename Fr gF LF _ _ => F4
    rename News gF LF _ _ => N4
    obtain ⟨qM, qN, uM, uN, fM, fN, N5⟩ : ∃ qM qN uM uN, qM.data = .cell (some (.int (((packF (ns.zip ws)).2 + ((8 : Int) - (packF (ns.zip ws)).2.fmod 8).fmod 8).fdiv 8) uM)) ∧ qN.data = .cell (some (.int ((packF (ns.zip ws)).1 * 2 ^ (((8 : Int) - (packF (ns.zip ws)).2.fmod 8).fmod 8).toNat) uN)) ∧ News gF LF _ ((LF + 1 + 1, qM) :: (LF + 1, qN) :: rest) := ⟨_, _, _, _, by assumption, by assumption, News.sub N4 (by walk_at "my sub")⟩
    clear N4
    refine comp_rangeN (n := nb) rfl (hnb ▸ hR) (by decide) rfl rfl ((LF + 1 + 1, qM) :: (LF + 1, qN) :: rest) [] F4 N5 (fun i ys news => news = [] ∧ IntsAre ys ((List.range i).map fun (k : Nat) => (((packF (ns.zip ws)).1 * 2 ^ (((8 : Int) - (packF (ns.zip ws)).2.fmod 8).fmod 8).toNat).fdiv (256 ^ (((packF (ns.zip ws)).2 + ((8 : Int) - (packF (ns.zip ws)).2.fmod 8).fmod 8).fdiv 8 - 1 - (k : Int)).toNat)).fmod 256)) (fun i ys news j => by rw [j.1]) ⟨rfl, .nil⟩ (by omega) ?turn ?H
    case turn =>
      intro i tv ys news I oI' C D' cO mc h6 tk6 k hi j hlen hIl hf hC hmc F6 N6
      obtain ⟨rfl, hys⟩ := j
      have cM : h6.IsCell (LF + 1 + 1) (some (.int (((packF (ns.zip ws)).2 + ((8 : Int) - (packF (ns.zip ws)).2.fmod 8).fmod 8).fdiv 8) uM)) := ⟨_, (N6 (LF + 1 + 1, qM) (by k_mem)).1, fM⟩
      have cN : h6.IsCell (LF + 1) (some (.int ((packF (ns.zip ws)).1 * 2 ^ (((8 : Int) - (packF (ns.zip ws)).2.fmod 8).fmod 8).toNat) uN)) := ⟨_, (N6 (LF + 1, qN) (by k_mem)).1, fN⟩
      k_steps
      exact StopAt.mk ⟨_, _, [], rfl, F6, N6, rfl, by rw [List.range_succ, List.map_append]; exact ints_snoc hys⟩
    case H =>
      intro D2 h6 tk6 ys news k j hlen hlt F6 N6
      obtain ⟨rfl, hys⟩ := j
      rw [← hpk] at hys
      replace N6 : News gF LF h6 ((D2, listOf ys.toArray k) :: (LF + 1 + 1, qM) :: (LF + 1, qN) :: rest) := N6
      walk_at "c steps"
      refine StopAt.mk (r_bytesL F6 N6 (.head _) hys hpr (by rw [hlen]; omega) rfl ?_)
      intro h7 t7 t8 F7 N7
      walk_at "c steps"
      (rename News h₀ _ _ _ => N9)
      (rename Fr h₀ _ _ _ => F9)
      exact hret _ _ _ _ F9 (News.sub N9 (by walk_at "my sub")) ⟨_, rfl, rfl⟩
theorem reg_PCodes : True := by
  (k_with "L my look" => first | assumption | exact if_pos rfl | (refine Eq.trans (if_neg (by decide)) ?_; k_extra "L my look") | exact rfl)
  (k_with "L eval Name" => (k_here; k_dflt (refine' r_nameL ?k1Z ?k2Z ?k5Z ?k6Z ?k7Z ?_; (case k5Z | k6Z => rfl); (case k7Z => decide); (case k1Z => k_asm); (case k2Z => k_extra "L my look"); k_whole)))
  (k_with "L binaryOp Add ref ref" => (refine' r_listAdd ?k1Z ?k2Z ?k3Z ?k4Z ?k5Z ?_; (case k1Z | k2Z => k_asm); (case k3Z | k4Z => k_mem); (case k5Z => simp only [List.length_cons, List.length_nil]; omega); intro _ _ _ _ l1; (try k_lt l1); (try (revert l1; intro _))))
  (k_with "L harm" => ((with_reducible show codeC _ _ (Code.whileLoop _ _ [] _) _ _); refine StopAt.go ?_))
  (k_with "L compareOp In bytes ref" => (refine' r_inB ?k2Z ?k3Z ?k4Z ?_; (case k2Z => k_asm); (case k3Z => k_mem); (case k4Z => assumption)))
  (k_with "L call builtin:list.index" => (refine' r_indexB ?k2Z ?k3Z ?k4Z ?k5Z ?k6Z ?_; (case k2Z => k_asm); (case k3Z => k_mem); (case k4Z | k5Z => assumption); (case k6Z => omega); intro _ _))
  (k_with "L my ev" => ((with_reducible show Ev _ _ _ _ _ _ _ (Expr.Name _ _) _ _ _); refine' ev_L ?FZ ?vZ ?aZ ?bZ ?dZ; (case aZ | bZ => rfl); (case dZ => decide); (case FZ => k_asm); (case vZ => k_extra "L my look")))
  trivial
noncomputable abbrev cutB (o : List UInt8) (a b : Nat) : List UInt8 := (o.drop a).take (b - a)
/-- how long the longest known piece is -/
noncomputable def munch (T : List (Option (List UInt8))) (o : List UInt8) (at' : Nat) : Nat → Nat → Nat
  | 0, many => many
  | f + 1, many => if at' + many < o.length ∧ some (cutB o at' (at' + many + 1)) ∈ T then munch T o at' f (many + 1) else many
noncomputable def codesL (o : List UInt8) : Nat → List (Option (List UInt8)) → List Int → Nat → List Int
  | 0, _, found, _ => found
  | f + 1, T, found, at' =>
    if at' < o.length then
      codesL o f (T ++ [some (cutB o at' (at' + munch T o at' o.length 1 + 1))]) (found ++ [((T.idxOf (some (cutB o at' (at' + munch T o at' o.length 1))) : Nat) : Int)]) (at' + munch T o at' o.length 1)
    else found
noncomputable def codesT : List (Option (List UInt8)) := ((List.range 256).map fun n => some [n.toUInt8]) ++ [none, none]
noncomputable def codesM (o : List UInt8) : List Int := codesL o o.length codesT [256] 0 ++ [257]
theorem cutB_eq {o : List UInt8} {a b : Nat} {e : Int} (h : e = b) : cut (some (a : Int)) (some e) o = cutB o a b := by subst h; exact cut_both a b o
theorem munch_stop {T : List (Option (List UInt8))} {o : List UInt8} {at' k many : Nat} (h : ¬(at' + many < o.length ∧ some (cutB o at' (at' + many + 1)) ∈ T)) : munch T o at' k many = many := by
  cases k with
  | zero => rfl
  | succ k => rw [munch, if_neg h]
theorem munch_go {T : List (Option (List UInt8))} {o : List UInt8} {at' k many : Nat} (h : at' + many < o.length ∧ some (cutB o at' (at' + many + 1)) ∈ T) : munch T o at' (k + 1) many = munch T o at' k (many + 1) := by
  rw [munch, if_pos h]
theorem codesL_go {o : List UInt8} {T : List (Option (List UInt8))} {F : List Int} {at' k many : Nat} (h : at' < o.length) (hm : munch T o at' o.length 1 = many) :
    codesL o (k + 1) T F at' = codesL o k (T ++ [some (cutB o at' (at' + many + 1))]) (F ++ [((T.idxOf (some (cutB o at' (at' + many))) : Nat) : Int)]) (at' + many) := by
  rw [codesL, if_pos h, hm]
theorem codesL_stop {o : List UInt8} {T : List (Option (List UInt8))} {F : List Int} {at' k : Nat} (h : ¬at' < o.length) : codesL o k T F at' = F := by
  cases k with
  | zero => rfl
  | succ k => rw [codesL, if_neg h]
theorem any_mem {T : List (Option (List UInt8))} {x : Option (List UInt8)} : (T.any fun y => y == x) = true ↔ x ∈ T := by
  rw [List.any_eq_true]
  exact ⟨fun ⟨y, hy, e⟩ => eq_of_beq e ▸ hy, fun h => ⟨x, h, beq_self_eq_true _⟩⟩
theorem ex_succ {n a k : Nat} (h : n ≤ a + k) (h2 : a < n) : ∃ j, k = j + 1 := by
  cases k with
  | zero => exact absurd h (Nat.not_le.mpr h2)
  | succ j => exact ⟨j, rfl⟩
inductive codesJ (octets : List UInt8) (tko : Tok) (tb fd : Addr) (rest : List (Addr × Obj)) (k : Nat) (m : Str → Option Value) (news : List (Addr × Obj)) : Prop
  | mk (T : List (Option (List UInt8))) (Fd : List Int) (at' : Nat) (ta : Tok) (vsT vsF : List Value) (kT kF : Nat) (h1 : m (Str.ofString "octets") = some (.bytes octets.toArray tko)) (h2 : m (Str.ofString "table") = some (.ref tb)) (h3 : m (Str.ofString "found") = some (.ref fd)) (h4 : m (Str.ofString "at") = some (.int (at' : Nat) ta)) (h5 : news = (fd, listOf vsF.toArray kF) :: (tb, listOf vsT.toArray kT) :: rest) (h6 : OptAre vsT T) (h7 : IntsAre vsF Fd) (h8 : codesL octets k T Fd at' = codesL octets octets.length codesT [256] 0) (h9 : (∀ b, some [b] ∈ T)) (h10 : octets.length ≤ at' + k) (h11 : T.length + k ≤ 258 + octets.length) (h12 : Fd.length + k ≤ 1 + octets.length)
inductive munchJ (octets : List UInt8) (tko ta : Tok) (tb fd : Addr) (at' : Nat) (T : List (Option (List UInt8))) (news₀ : List (Addr × Obj)) (k : Nat) (m : Str → Option Value) (news : List (Addr × Obj)) : Prop
  | mk (many : Nat) (tm : Tok) (h1 : m (Str.ofString "octets") = some (.bytes octets.toArray tko)) (h2 : m (Str.ofString "table") = some (.ref tb)) (h3 : m (Str.ofString "found") = some (.ref fd)) (h4 : m (Str.ofString "at") = some (.int (at' : Nat) ta)) (h5 : m (Str.ofString "many") = some (.int (many : Nat) tm)) (h6 : news = news₀) (h7 : munch T octets at' k many = munch T octets at' octets.length 1) (h8 : 1 ≤ many) (h9 : octets.length ≤ at' + many + k) (h10 : some (cutB octets at' (at' + many)) ∈ T)
theorem codes_ok (w : World) (loose : List Str) (mean : ExcName → Option Value) (mg mb : Str → Option Value)
    (octets : List UInt8) (tko : Tok) (rest : List (Addr × Obj)) (hk : octets.length ≤ 30) :
    CallC w loose mean mg mb 10 (.ref 227) [.bytes octets.toArray tko] rest
      (fun r news' => ∃ D vs k, IntsAre vs (codesM octets) ∧ r = .ref D ∧ news' = (D, listOf vs.toArray k) :: rest) (fun _ => False) := by
  unfold CallC
  intro dp un gd cn cs a ccd cl outer A₀ base h₀ L m s Q E
  k_fill
  obtain ⟨hp', gn, dr, tk0, os⟩ := s
  intro B F X N T hkk hd hu' hret hexc
  refine wpC_call ?_
  k_dflt (walk_at "c enter")
  rename_i gF LF hF0 tF FGF FF NF BF XF TF
  walk_at "c steps"
  walk_at "my comp"
  walk_at "c steps"
  refine StopAt.mk ?_
  rename IsRange _ _ _ _ _ _ _ _ => hR
  rename Fr gF LF _ _ => F4
  rename News gF LF _ _ => N4
  refine comp_rangeN (n := 256) rfl hR (by decide) rfl rfl rest [] F4 (News.sub N4 (by walk_at "my sub")) (fun i ys news => news = [] ∧ OptAre ys ((List.range i).map fun n => some [n.toUInt8])) (fun i ys news j => by rw [j.1]) ⟨rfl, .nil⟩ (by omega) ?turn ?H
  case turn =>
    intro i tv ys news I oI' C D' cO mc h6 tk6 k hi j hlen hIl hf hC hmc F6 N6
    obtain ⟨rfl, hys⟩ := j
    k_steps
    rename Fr gF LF _ _ => F8
    rename News gF LF _ _ => N8
    refine StopAt.mk (r_bytesL F8 N8 (.head _) (vs := [.int i tv]) (ns := [(i : Int)]) (.cons _ _ .nil) (by intro n hn; rw [List.mem_singleton] at hn; omega) (by simp) rfl ?_)
    intro h7 t7 t8 F7 N7
    refine StopAt.mk ⟨_, _, [], rfl, F7, fun p hp => N7 p (.tail _ hp), rfl, by rw [List.range_succ, List.map_append]; exact hys.snoc (b := [i.toUInt8])⟩
  case H =>
    intro D2 h6 tk6 ys news k j hlen hlt F6 N6
    obtain ⟨rfl, hys⟩ := j
    replace N6 : News gF LF h6 ((D2, listOf ys.toArray k) :: rest) := N6
    have hlt2 : ∀ p ∈ rest, @LT.lt Nat _ p.1 D2 := hlt
    have hlt3 : AllLt D2 rest := allLt_of hlt2
    have hlen' : ys.length = 256 := hlen
    walk_at "c steps"
    refine StopAt.mk ?_
    rename Fr gF LF _ _ => F9
    rename News gF LF _ _ => N9
    have hsing : ∀ b : UInt8, some [b] ∈ codesT := fun b => List.mem_append_left _ (List.mem_map.mpr ⟨b.toNat, List.mem_range.mpr b.toNat_lt, by simp⟩)
    obtain ⟨tb, fd, m9, news9, FJ, NJ, j9, lt1, lt2, lt3⟩ : ∃ tb fd m9 news9, Fr gF LF _ m9 ∧ News gF LF _ news9 ∧ codesJ octets tko tb fd rest octets.length m9 news9 ∧ @LT.lt Nat _ tb fd ∧ AllLt tb rest ∧ AllLt fd rest := by
      rename _ ∧ _ ∧ _ ∧ AllLt _ rest => q3
      rename _ ∧ _ ∧ AllLt _ rest => q2
      refine ⟨_, _, _, _, F9, News.sub (news' := (_, listOf [Value.int 256 _].toArray 0) :: (_, listOf (ys ++ [Value.none, Value.none]).toArray 0) :: rest) N9 (by walk_at "my sub"), ?_, q3.1, q2.2.2, q3.2.2.2⟩
      refine' ⟨codesT, [256], 0, _, _, _, 0, 0, ?_, ?_, ?_, ?_, rfl, hys.append (.non (.non .nil)), .cons _ _ .nil, rfl, hsing, by omega, ?_, ?_⟩
      all_goals first | (show (_ : Option Value) = some _; walk_at "my look") | skip
      · rw [show codesT.length = 258 by simp [codesT]]; omega
      · show 1 + octets.length ≤ 1 + octets.length; omega
    clear F9 N9
    refine codeC_while_led (codesJ octets tko tb fd rest) ?turn j9 FJ NJ
    clear FJ NJ j9
    intro k3 m3 _ h3 tk3 hP0 F3 N3
    refine hideGoal fun G hG => ?_
    obtain ⟨T, Fd, at', ta, vsT, vsF, kT, kF, eo, et, ef, ea, rfl, hT, hF, hL, hs, hk1, hk2, hk3⟩ := hP0
    refine hG ?_
    clear hG G
    have hTl := hT.length
    have hFl := IntsAre.length hF
    have hT288 : T.length ≤ 288 := by omega
    have hF31 : Fd.length ≤ 31 := by omega
    have hv288 : vsT.length ≤ 288 := by rw [hTl]; exact hT288
    have hw31 : vsF.length ≤ 31 := by rw [hFl]; exact hF31
    walk_at "c steps"
    · refine StopAt.mk ?_
      rename Fr gF LF _ _ => F5
      rename News gF LF _ _ => N5
      have h1m : some (cutB octets at' (at' + 1)) ∈ T := by
        rw [show cutB octets at' (at' + 1) = [octets[at']'(by simp at *; omega)] from by
          unfold cutB; rw [Nat.add_sub_cancel_left, List.drop_eq_getElem_cons (by simp at *; omega)]; rfl]
        exact hs _
      refine' codeC_while_led (munchJ octets tko ta tb fd at' T ((fd, listOf vsF.toArray kF) :: (tb, listOf vsT.toArray kT) :: rest)) (k := octets.length) ?turn2 ⟨1, _, ?_, ?_, ?_, ?_, ?_, rfl, rfl, by omega, by omega, h1m⟩ F5 N5
      case turn2 =>
        intro k4 m4 _ h4 tk4 hP0 F4 N4
        (try ((with_reducible refine foldC ?_); intro QT))
        refine hideGoal fun G hG => ?_
        obtain ⟨many, tm, eo, et, ef, ea, em, rfl, hmn, hm1, hm2, hm3⟩ := hP0
        refine hG ?_
        clear hG G
        clear F5 N5
        have ecut : cut (some (at' : Int)) (some ((at' : Int) + (many : Int))) octets = cutB octets at' (at' + many) := cutB_eq (by omega)
        have ecut1 : cut (some (at' : Int)) (some ((at' : Int) + (many : Int) + 1)) octets = cutB octets at' (at' + many + 1) := cutB_eq (by omega)
        have hm3c := hm3
        rw [← ecut] at hm3c
        have hlt : at' < octets.length := by simp at *; omega
        obtain ⟨k3', rfl⟩ := ex_succ hk1 hlt
        walk_at "c steps"
        · rename (T.any _ = true) => hany
          have hbig : at' + many < octets.length := by simp at *; omega
          rw [ecut1] at hany
          have hmem := any_mem.mp hany
          obtain ⟨k4', rfl⟩ := ex_succ hm2 hbig
          rename Fr gF LF _ _ => F6
          rename News gF LF _ _ => N6
          refine' ⟨k4', _, _, _, _, by omega, rfl, F6, N6, many + 1, _, ?_, ?_, ?_, ?_, ?_, rfl, (munch_go ⟨hbig, hmem⟩).symm.trans hmn, by omega, by omega, hmem⟩
          all_goals first | (show (_ : Option Value) = some _; walk_at "my look") | skip
        all_goals
          have hcond : ¬(at' + many < octets.length ∧ some (cutB octets at' (at' + many + 1)) ∈ T) := by
            first
            | (rename (T.any _ = false) => hany
               rw [ecut1] at hany
               exact fun q => by rw [any_mem.mpr q.2] at hany; cases hany)
            | (rename ¬ _ < _ => hno
               exact fun q => hno (by simp; omega))
          have hmany : munch T octets at' octets.length 1 = many := hmn.symm.trans (munch_stop hcond)
          rename Fr gF LF _ _ => F6
          rename News gF LF _ _ => N6
          rw [List.push_toArray, List.push_toArray, ecut, ecut1] at N6
          rw [codesL_go hlt hmany] at hL
          refine' ⟨k3', _, _, _, _, Nat.lt_succ_self _, rfl, F6, N6, _, _, at' + many, _, _, _, _, _, ?_, ?_, ?_, ?_, rfl, hT.snoc, ints_snoc hF, hL, fun b => List.mem_append_left _ (hs b), by omega, by rw [List.length_append]; simp only [List.length_cons, List.length_nil]; omega, by rw [List.length_append]; simp only [List.length_cons, List.length_nil]; omega⟩
          all_goals first | (show (_ : Option Value) = some _; walk_at "my look") | skip
      all_goals first | (show (_ : Option Value) = some _; walk_at "my look") | skip
    · (rename News h₀ _ _ _ => N9)
      (rename Fr h₀ _ _ _ => F9)
      rename ¬ _ < _ => hend
      have hend' : ¬ at' < octets.length := by simp at *; omega
      rw [codesL_stop hend'] at hL
      rename IntsAre _ (_ ++ _) => hIc
      rw [hL] at hIc
      have hFc := hIc
      refine hret _ _ _ _ F9 (News.sub N9 (by walk_at "my sub")) ⟨_, _, _, hFc, rfl, rfl⟩
-- free
/-! codes of nine bits, as one number -/
noncomputable def num (l : List Nat) : Nat := l.foldl (fun a c => a * 512 + c) 0
theorem num_snoc (l : List Nat) (c : Nat) : num (l ++ [c]) = num l * 512 + c := by unfold num; rw [List.foldl_append]; rfl
theorem snoc_ind {α : Type} {P : List α → Prop} (h0 : P []) (h1 : ∀ l x, P l → P (l ++ [x])) (l : List α) : P l := by
  have : ∀ l : List α, P l.reverse := by
    intro l
    induction l with
    | nil => exact h0
    | cons x r ih => rw [List.reverse_cons]; exact h1 _ _ ih
  have h := this l.reverse
  rwa [List.reverse_reverse] at h
theorem num_take (l : List Nat) : (∀ c ∈ l, c < 512) → ∀ i, i ≤ l.length → num (l.take i) = num l / 512 ^ (l.length - i) := by
  refine snoc_ind (P := fun l => (∀ c ∈ l, c < 512) → ∀ i, i ≤ l.length → num (l.take i) = num l / 512 ^ (l.length - i)) ?_ ?_ l
  · intro _ i hi
    simp at hi; subst hi; rfl
  · intro l x ih h i hi
    rw [List.length_append, List.length_singleton] at hi ⊢
    rcases Nat.lt_or_ge l.length i with hl | hl
    · obtain rfl : i = l.length + 1 := by (first | lia | omega)
      rw [List.take_of_length_le (by simp), Nat.sub_self, Nat.pow_zero, Nat.div_one]
    · rw [List.take_append_of_le_length hl, ih (fun c hc => h c (List.mem_append_left _ hc)) i hl, num_snoc, Nat.add_comm l.length 1, Nat.add_sub_assoc hl, Nat.pow_add, ← Nat.div_div_eq_div_mul]
      have hx := h x (List.mem_append_right _ (.head _))
      congr 1
      rw [Nat.pow_one]; (first | lia | omega)
theorem num_at (l : List Nat) (h : ∀ c ∈ l, c < 512) (i : Nat) (hi : i < l.length) : num l / 512 ^ (l.length - (i + 1)) % 512 = l[i] := by
  rw [← num_take l h (i + 1) hi, List.take_succ_eq_append_getElem hi, num_snoc]
  have := h l[i] (List.getElem_mem hi)
  (first | lia | omega)
/-- how many noughts fill the last octet -/
noncomputable def pad (n : Nat) : Nat := (8 - 9 * n % 8) % 8
noncomputable def octs (n : Nat) : Nat := (9 * n + pad n) / 8
theorem octs_pad (n : Nat) : 8 * octs n = 9 * n + pad n := by unfold octs pad; (first | lia | omega)
theorem pad_le (n : Nat) : pad n ≤ 7 := by unfold pad; (first | lia | omega)
noncomputable def total (l : List Nat) : Nat := num l * 2 ^ pad l.length
noncomputable def octN (l : List Nat) (k : Nat) : UInt8 := (total l / 256 ^ (octs l.length - 1 - k) % 256).toUInt8
noncomputable def octL (l : List Nat) : List UInt8 := (List.range (octs l.length)).map (octN l)
theorem octL_length (l : List Nat) : (octL l).length = octs l.length := by unfold octL; rw [List.length_map, List.length_range]
theorem p256 (k : Nat) : 256 ^ k = 2 ^ (8 * k) := by rw [Nat.pow_mul]
theorem p512 (k : Nat) : 512 ^ k = 2 ^ (9 * k) := by rw [Nat.pow_mul]
theorem low_bits (a m : Nat) (hm : m ≤ 7) : a % 268435456 / 2 ^ m % 512 = a / 2 ^ m % 512 := by
  rw [show 268435456 = 2 ^ m * 2 ^ (28 - m) by rw [← Nat.pow_add, show m + (28 - m) = 28 by (first | lia | omega)], Nat.mod_mul_right_div_self]
  exact Nat.mod_mod_of_dvd _ (by rw [show 512 = 2 ^ 9 from rfl]; exact Nat.pow_dvd_pow 2 (by (first | lia | omega)))
/-- the first j octets, as one number -/
noncomputable def pre (l : List Nat) (j : Nat) : Nat := total l / 256 ^ (octs l.length - j)
theorem pre_next (l : List Nat) (j : Nat) (hj : j < octs l.length) : pre l (j + 1) = pre l j * 256 + (octN l j).toNat := by
  unfold pre octN
  have e : (total l / 256 ^ (octs l.length - 1 - j) % 256).toUInt8.toNat = total l / 256 ^ (octs l.length - 1 - j) % 256 := by
    simp
  obtain ⟨a, ha⟩ := Nat.exists_eq_add_of_lt hj
  have e1 : octs l.length - 1 - j = a := by rw [ha, Nat.add_sub_cancel, Nat.add_sub_cancel_left]
  have e2 : octs l.length - j = a + 1 := by rw [ha, Nat.add_assoc, Nat.add_sub_cancel_left]
  have e3 : octs l.length - (j + 1) = a := by rw [ha, Nat.add_right_comm, Nat.add_sub_cancel_left]
  rw [e, e1, e2, e3, Nat.pow_succ, ← Nat.div_div_eq_div_mul]
  exact (Nat.div_add_mod' _ 256).symm
theorem pre_code (l : List Nat) (h : ∀ c ∈ l, c < 512) (j i : Nat) (hi : i < l.length) (hj : j ≤ octs l.length) (m : Nat) (hm : 9 * (i + 1) + m = 8 * j) (hm7 : m ≤ 7) : pre l j % 268435456 / 2 ^ m % 512 = l[i] := by
  rw [low_bits _ _ hm7, ← num_at l h i hi]
  congr 1
  unfold pre total
  have ho := octs_pad l.length
  obtain ⟨a, ha⟩ := Nat.exists_eq_add_of_le hj
  obtain ⟨b, hb⟩ := Nat.exists_eq_add_of_le (show i + 1 ≤ l.length from hi)
  have e1 : octs l.length - j = a := by rw [ha, Nat.add_sub_cancel_left]
  have e2 : l.length - (i + 1) = b := by rw [hb, Nat.add_sub_cancel_left]
  have e3 : 8 * a + m = pad l.length + 9 * b := by
    rw [ha, hb, Nat.mul_add, Nat.mul_add, ← hm] at ho
    rw [← hb] at ho
    (first | lia | omega)
  rw [Nat.div_div_eq_div_mul, p256, ← Nat.pow_add, p512, e1, e2, e3, Nat.pow_add, ← Nat.div_div_eq_div_mul, Nat.mul_div_cancel _ (Nat.two_pow_pos _)]
/-! decoding of packed codes -/
noncomputable def takeL (early : Int) : List Nat → DS → Option DS
  | [], s => some s
  | c :: r, s => (takeM early c s).bind (takeL early r)
/-- the end stands at the end alone, and the width stays -/
def endsRight (early : Int) : List Nat → DS → Prop
  | [], _ => True
  | c :: r, s => ∀ d, takeM early c s = some d → d.width = 9 ∧ (d.isd = true → r = []) ∧ endsRight early r d
theorem feed_codes (early : Int) (l : List Nat) (h : ∀ c ∈ l, c < 512) : ∀ (k j i m : Nat) (s : FS), octs l.length = j + k → i ≤ l.length → 9 * i + m = 8 * j → m ≤ 8 → s.ds.width = 9 → (s.ds.isd = true → i = l.length) → endsRight early (l.drop i) s.ds →
    s.bits = ((pre l j % 268435456 : Nat) : Int) → s.many = (m : Int) →
    match takeL early (l.drop i) s.ds with
    | none => feedM early s ((octL l).drop j) = none
    | some d => ∃ b m, feedM early s ((octL l).drop j) = some ⟨d, s.left, b, m⟩ ∧ 0 ≤ b ∧ b < 268435456 ∧ 0 ≤ m ∧ m ≤ 8 := by
  intro k
  have ho := octs_pad l.length
  have hp := pad_le l.length
  induction k with
  | zero =>
    intro j i m s hj hi h1 h2 hw hd he hb hm
    obtain rfl : i = l.length := by
      rw [hj, Nat.add_zero, ← h1] at ho
      clear hb hm he hd hw hj h1
      (first | lia | omega)
    rw [show (octL l).drop j = [] from List.drop_of_length_le (by rw [octL_length, hj]; exact Nat.le_refl _), List.drop_length]
    exact ⟨s.bits, s.many, rfl, by rw [hb]; exact Int.natCast_nonneg _, by rw [hb]; exact Int.ofNat_lt.mpr (Nat.mod_lt _ (by decide)), by rw [hm]; exact Int.natCast_nonneg _, by rw [hm]; exact Int.ofNat_le.mpr h2⟩
  | succ k ih =>
    intro j i m s hj hi h1 h2 hw hd he hb hm
    have hj1 : octs l.length = j + 1 + k := by rw [hj, Nat.add_assoc, Nat.add_comm k]
    have hj' : j < octs l.length := by rw [hj1, Nat.add_assoc]; exact Nat.lt_add_of_pos_right (Nat.add_pos_left (by decide) _)
    have hdrop : (octL l).drop j = octN l j :: (octL l).drop (j + 1) := by
      rw [List.drop_eq_getElem_cons (by rw [octL_length]; exact hj')]
      congr 1
      unfold octL; simp
    have hil : i < l.length := by
      rw [hj, Nat.mul_add, ← h1] at ho
      clear hb hm he hd hw hj hj1 hj' hdrop h1
      (first | lia | omega)
    have hnd : s.ds.isd = false := by
      cases q : s.ds.isd with
      | false => rfl
      | true => exact absurd (hd q) (Nat.ne_of_lt hil)
    have hb2 : (s.bits * 256 + ((octN l j).toNat : Int)) % 268435456 = ((pre l (j + 1) % 268435456 : Nat) : Int) := by
      have z : (pre l j % 268435456 * 256 + (octN l j).toNat) % 268435456 = (pre l j * 256 + (octN l j).toNat) % 268435456 := by
        rw [Nat.add_mod, Nat.mod_mul_mod, ← Nat.add_mod]
      rw [hb, pre_next l j hj', ← z]; rfl
    have hdl : l.drop i = l[i] :: l.drop (i + 1) := List.drop_eq_getElem_cons hil
    rw [hdrop, feedM, hnd, if_neg (by exact Bool.false_ne_true), hb2, hw]
    cases m with
    | zero =>
      have e8 : s.many + 8 = ((8 : Nat) : Int) := by rw [hm]; rfl
      rw [e8, if_neg (by decide)]
      exact ih (j + 1) i 8 ⟨s.ds, s.left, ((pre l (j + 1) % 268435456 : Nat) : Int), ((8 : Nat) : Int)⟩ hj1 hi (by rw [Nat.mul_succ, ← h1]) (by decide) hw hd he rfl rfl
    | succ q =>
      have h3 : 9 * (i + 1) + q = 8 * (j + 1) := by (first | lia | omega)
      have hq : s.many + 8 - 9 = (q : Int) := by rw [hm, Int.natCast_succ, Int.add_assoc]; exact Int.add_sub_cancel _ 9
      rw [if_pos (by rw [hm, Int.natCast_succ, Int.add_assoc]; exact Int.le_add_of_nonneg_left (Int.natCast_nonneg _)), hq]
      have hcode : codeM 9 ((pre l (j + 1) % 268435456 : Nat) : Int) (q : Int) = ((l[i] : Nat) : Int) := by
        unfold codeM
        rw [Int.toNat_natCast, Int.fdiv_eq_ediv_of_nonneg _ (Int.le_of_lt (kbt_pos _)), show (9 : Int).toNat = 9 from rfl]
        rw [show ((2 : Int) ^ q) = ((2 ^ q : Nat) : Int) by simp, show ((2 : Int) ^ 9) = ((512 : Nat) : Int) by rfl]
        rw [← Int.natCast_ediv, ← Int.natCast_emod, pre_code l h (j + 1) i hil (by rw [hj1]; exact Nat.le_add_right _ _) _ h3 (Nat.le_of_succ_le_succ h2)]
      rw [hcode, hdl, takeL]
      rw [hdl, endsRight] at he
      cases ht : takeM early (l[i] : Nat) s.ds with
      | none => simp
      | some d =>
        obtain ⟨hw', hd', he'⟩ := he d ht
        dsimp only [Option.bind]
        refine ih (j + 1) (i + 1) q ⟨d, s.left, ((pre l (j + 1) % 268435456 : Nat) : Int), (q : Int)⟩ hj1 hil h3 (Nat.le_of_succ_le h2) hw' (fun q => ?_) he' rfl rfl
        have := hd' q
        rw [List.drop_eq_nil_iff] at this
        exact Nat.le_antisymm hil this
theorem decode_codes (early : Int) (l : List Nat) (h : ∀ c ∈ l, c < 512) (he : endsRight early l initF.ds) :
    match takeL early l initF.ds with
    | none => feedM early initF (octL l) = none
    | some d => ∃ b m, feedM early initF (octL l) = some ⟨d, [], b, m⟩ ∧ 0 ≤ b ∧ b < 268435456 ∧ 0 ≤ m ∧ m ≤ 8 := by
  have := feed_codes early l h (octs l.length) 0 0 0 initF (Nat.zero_add _).symm (Nat.zero_le _) rfl (by decide) rfl (fun q => by cases q) he (by
    unfold pre
    have ht : total l < 256 ^ (octs l.length - 0) := by
      have hn : ∀ l : List Nat, (∀ c ∈ l, c < 512) → num l < 512 ^ l.length := by
        refine snoc_ind (by intro _; decide) ?_
        intro l x ih h
        have := ih fun c hc => h c (List.mem_append_left _ hc)
        have hx := h x (List.mem_append_right _ (.head _))
        rw [num_snoc, List.length_append, List.length_singleton, Nat.pow_succ]; (first | lia | omega)
      unfold total
      rw [Nat.sub_zero, p256, octs_pad, Nat.pow_add, ← p512]
      exact Nat.mul_lt_mul_of_pos_right (hn l h) (Nat.two_pow_pos _)
    rw [Nat.div_eq_of_lt ht]; rfl) rfl
  exact this
/-! what the law reads is what the decoder takes -/
theorem readStep_told (s : RS) (c : Int) (h : c ≠ 256) : readStep s c = (toldM s.table s.last c).bind fun part => some ⟨match s.last with | some l => s.table ++ [l ++ part.take 1] | none => s.table, some part, s.found ++ part⟩ := by
  unfold readStep toldM
  rw [if_neg h]
  split
  · rfl
  split
  · rfl
  split
  · cases s.last <;> rfl
  · rfl
theorem step_take {early : Int} (he : 0 ≤ early ∧ early ≤ 1) {c : Int} (hc : c ≠ 257) {r : RS} {d : DS} (h1 : d.tab = r.table) (h2 : d.last = r.last) (h3 : d.found = r.found) (h4 : d.isd = false) (h5 : d.width = 9) (h6 : d.tab.length ≤ 200) :
    match readStep r c with
    | none => takeM early c d = none
    | some r' => ∃ d', takeM early c d = some d' ∧ d'.tab = r'.table ∧ d'.last = r'.last ∧ d'.found = r'.found ∧ d'.isd = false ∧ d'.width = 9 ∧ d'.tab.length ≤ d.tab.length + 1 := by
  by_cases hz : c = 256
  · rw [show readStep r c = _ from if_pos hz, show takeM early c d = _ from if_pos hz]
    exact ⟨_, rfl, rfl, rfl, h3, h4, rfl, Nat.zero_le _⟩
  rw [readStep_told r c hz]
  unfold takeM
  rw [if_neg hz, if_neg hc, h1, h2]
  cases toldM r.table r.last c with
  | none => rfl
  | some p =>
    refine ⟨_, rfl, ?_, rfl, ?_, h4, ?_, ?_⟩
    · cases r.last <;> rfl
    · dsimp only; rw [h3]
    · dsimp only
      cases r.last with
      | none => exact h5
      | some l => dsimp only; rw [if_neg (by rw [h1] at h6; (first | lia | omega))]; exact h5
    · dsimp only
      cases r.last with
      | none => exact Nat.le_succ _
      | some l => simp
theorem take_done (early : Int) (d : DS) : takeM early ((257 : Nat) : Int) d = some { d with isd := true } := by
  unfold takeM; rw [if_neg (by decide), if_pos (by decide)]
theorem read_take (early : Int) (he : 0 ≤ early ∧ early ≤ 1) : ∀ (l : List Nat) (r : RS) (n : Nat) (d : DS), d.tab = r.table → d.last = r.last → d.found = r.found → d.isd = false → d.width = 9 → d.tab.length + l.length ≤ 200 →
    match readL (l.map fun (n : Nat) => (n : Int)) r n with
    | none => endsRight early l d ∧ (takeL early l d = none ∨ ∃ d', takeL early l d = some d' ∧ d'.isd = false)
    | some (out, m) => ∃ k, m = n + k ∧ k ≤ l.length ∧ endsRight early (l.take k) d ∧ ∃ d', takeL early (l.take k) d = some d' ∧ d'.isd = true ∧ d'.found = out
  | [], r, n, d, _, _, _, h4, _, _ => ⟨trivial, .inr ⟨d, rfl, h4⟩⟩
  | c :: l, r, n, d, h1, h2, h3, h4, h5, h6 => by
    rw [List.length_cons] at h6
    rw [List.map_cons, readL]
    by_cases hc : (c : Int) = 257
    · rw [if_pos hc]
      obtain rfl : c = 257 := by (first | lia | omega)
      refine ⟨1, rfl, by simp, ?_, ?_⟩
      · rw [List.take_succ_cons, List.take_zero, endsRight]
        intro d' hd'
        rw [take_done] at hd'
        injection hd' with hd'; subst hd'
        exact ⟨h5, fun _ => rfl, trivial⟩
      · rw [List.take_succ_cons, List.take_zero, takeL, take_done]
        exact ⟨_, rfl, rfl, h3⟩
    · rw [if_neg hc]
      have := step_take he hc h1 h2 h3 h4 h5 (by (first | lia | omega))
      cases hs : readStep r c with
      | none =>
        rw [hs] at this
        rw [Option.bind_none, takeL, endsRight, this]
        exact ⟨fun d hd => (by cases hd), .inl rfl⟩
      | some r' =>
        rw [hs] at this
        obtain ⟨d', ht, g1, g2, g3, g4, g5, g6⟩ := this
        have ih := read_take early he l r' (n + 1) d' g1 g2 g3 g4 g5 (by (first | lia | omega))
        rw [Option.bind_some]
        cases hr : readL (l.map fun (n : Nat) => (n : Int)) r' (n + 1) with
        | none =>
          rw [hr] at ih
          rw [takeL, endsRight, ht]
          refine ⟨fun d2 hd => ?_, ih.2⟩
          injection hd with hd; subst hd
          exact ⟨g5, fun q => (by rw [g4] at q; cases q), ih.1⟩
        | some x =>
          obtain ⟨out, m⟩ := x
          rw [hr] at ih
          obtain ⟨k, hm, hk, he', d2, ht2, hd2⟩ := ih
          refine ⟨k + 1, by (first | lia | omega), by rw [List.length_cons]; (first | lia | omega), ?_, d2, ?_, hd2⟩
          · rw [List.take_succ_cons, endsRight, ht]
            intro d3 hd
            injection hd with hd; subst hd
            exact ⟨g5, fun q => (by rw [g4] at q; cases q), he'⟩
          · rw [List.take_succ_cons, takeL, ht]; exact ht2
/-! packing, in numbers -/
theorem pack_num (l : List Nat) : packF ((l.map fun (n : Nat) => (n : Int)).zip (List.replicate l.length 9)) = (((num l : Nat) : Int), ((9 * l.length : Nat) : Int)) := by
  refine snoc_ind (P := fun l : List Nat => packF ((l.map fun (n : Nat) => (n : Int)).zip (List.replicate l.length 9)) = (((num l : Nat) : Int), ((9 * l.length : Nat) : Int))) rfl ?_ l
  intro l x ih
  rw [List.map_append, List.length_append, List.length_singleton, List.replicate_succ', List.zip_append (by simp), show (List.map (fun (n : Nat) => (n : Int)) [x]).zip [(9 : Int)] = [((x : Int), 9)] from rfl, packF_snoc, ih, num_snoc]
  dsimp only
  have e : (2 : Int) ^ (9 : Int).toNat = 512 := rfl
  rw [e]
  congr 1 <;> (first | lia | omega)
noncomputable abbrev octB (cs : List Int) : List UInt8 := (packB (cs.zip (List.replicate cs.length 9))).map fun n => n.toNat.toUInt8
theorem octB_eq (l : List Nat) : octB (l.map fun (n : Nat) => (n : Int)) = octL l := by
  unfold octB packB octL
  rw [List.length_map, pack_num]
  dsimp only
  have hp : ((8 : Int) - ((9 * l.length : Nat) : Int).fmod 8).fmod 8 = (pad l.length : Nat) := by
    unfold pad
    have z : ((9 * l.length : Nat) : Int) % 8 = ((9 * l.length % 8 : Nat) : Int) := rfl
    have z2 : (8 : Int) - ((9 * l.length % 8 : Nat) : Int) = ((8 - 9 * l.length % 8 : Nat) : Int) := (Int.ofNat_sub (Nat.le_of_lt (Nat.mod_lt _ (by decide)))).symm
    rw [Int.fmod_eq_emod_of_nonneg _ (by decide), Int.fmod_eq_emod_of_nonneg _ (by decide), z, z2]; rfl
  have ho : (((9 * l.length : Nat) : Int) + (pad l.length : Nat)).fdiv 8 = (octs l.length : Nat) := by
    unfold octs
    rw [Int.fdiv_eq_ediv_of_nonneg _ (by decide)]; rfl
  rw [hp, ho, List.map_map, Int.toNat_natCast]
  refine List.map_congr_left fun k hk => ?_
  rw [List.mem_range] at hk
  unfold octN total
  dsimp only [Function.comp]
  have e1 : ((octs l.length : Int) - 1 - (k : Int)).toNat = octs l.length - 1 - k := by
    obtain ⟨a, ha⟩ := Nat.exists_eq_add_of_lt (show k < octs l.length from hk)
    rw [ha, Nat.add_sub_cancel, Nat.add_sub_cancel_left, Int.natCast_add, Int.natCast_add]
    show ((k : Int) + (a : Int) + 1 - 1 - (k : Int)).toNat = a
    rw [Int.add_sub_cancel, Int.add_comm, Int.add_sub_cancel, Int.toNat_natCast]
  have e2 : ((num l : Nat) : Int) * 2 ^ pad l.length = ((num l * 2 ^ pad l.length : Nat) : Int) := by simp
  have e3 : (256 : Int) ^ (octs l.length - 1 - k) = ((256 ^ (octs l.length - 1 - k) : Nat) : Int) := by simp
  rw [e1, e2, e3, Int.fdiv_eq_ediv_of_nonneg _ (Int.natCast_nonneg _), Int.fmod_eq_emod_of_nonneg _ (by decide), ← Int.natCast_ediv, show (256 : Int) = ((256 : Nat) : Int) from rfl, ← Int.natCast_emod, Int.toNat_natCast]
/-- the law of the codes: what the decoder makes of them -/
theorem law_codes {early : Int} (he : 0 ≤ early ∧ early ≤ 1) (cs : List Int) (hc : ∀ c ∈ cs, 0 ≤ c ∧ c < 512) (hl : cs.length ≤ 100) :
    match readM cs with
    | none => decodeM early (octB cs) = none ∧ ∀ s, feedM early initF (octB cs) = some s → s.ds.isd = false
    | some (out, n) => n ≤ cs.length ∧ ∃ s, feedM early initF (octB (cs.take n)) = some s ∧ s.ds.isd = true ∧ s.ds.found = out ∧ s.left = [] := by
  obtain ⟨l, rfl⟩ : ∃ l : List Nat, cs = l.map fun (n : Nat) => (n : Int) := ⟨cs.map Int.toNat, by
    rw [List.map_map]
    conv => lhs; rw [← List.map_id cs]
    refine List.map_congr_left fun c hcc => ?_
    have := hc c hcc
    simp only [Function.comp, id]; (first | lia | omega)⟩
  have hl9 : ∀ c ∈ l, c < 512 := fun c hcc => by have := hc c (List.mem_map_of_mem hcc); (first | lia | omega)
  rw [List.length_map] at hl
  have h := read_take early he l ⟨[], none, []⟩ 0 initF.ds rfl rfl rfl rfl rfl (by simp [initF]; (first | lia | omega))
  unfold readM
  cases hr : readL (l.map fun (n : Nat) => (n : Int)) ⟨[], none, []⟩ 0 with
  | none =>
    rw [hr] at h
    obtain ⟨h1, h2⟩ := h
    have hd := decode_codes early l hl9 h1
    dsimp only
    rw [octB_eq]
    unfold decodeM
    rcases h2 with h2 | ⟨d', h2, h3⟩
    · rw [h2] at hd
      dsimp only at hd
      rw [hd]; exact ⟨rfl, fun s q => by cases q⟩
    · rw [h2] at hd
      obtain ⟨b, m, hf, _⟩ := hd
      rw [hf]
      dsimp only
      exact ⟨by rw [h3]; rfl, fun s q => by injection q with q; subst q; exact h3⟩
  | some x =>
    obtain ⟨out, n⟩ := x
    rw [hr] at h
    obtain ⟨k, hn, hk, h1, d', h2, h3, h4⟩ := h
    obtain rfl : n = k := by (first | lia | omega)
    have hd := decode_codes early (l.take n) (fun c hcc => hl9 c (List.mem_of_mem_take hcc)) h1
    rw [h2] at hd
    obtain ⟨b, m, hf, _⟩ := hd
    dsimp only
    refine ⟨by rw [List.length_map]; exact hk, ⟨d', [], b, m⟩, ?_, h3, h4, rfl⟩
    rw [← List.map_take, octB_eq]; exact hf
-- free
/-! what the encoder writes -/
noncomputable def wsOct (p : List Nat) (k : Nat) : UInt8 := (num p / 2 ^ (9 * p.length - 8 * (k + 1)) % 256).toUInt8
noncomputable def wsOf (p : List Nat) : WS := ⟨((num p % 2 ^ (9 * p.length % 8) : Nat) : Int), ((9 * p.length % 8 : Nat) : Int), (List.range (9 * p.length / 8)).map (wsOct p)⟩
theorem u8_div (a b k : Nat) : u8 ((((a : Nat) : Int) * 512 + ((b : Nat) : Int)).fdiv (2 ^ k) % 256) = ((a * 512 + b) / 2 ^ k % 256).toUInt8 := by
  have e : (((a : Nat) : Int) * 512 + ((b : Nat) : Int)) = ((a * 512 + b : Nat) : Int) := rfl
  rw [e, Int.fdiv_eq_ediv_of_nonneg _ (Int.le_of_lt (kbt_pos _)), show ((2 : Int) ^ k) = ((2 ^ k : Nat) : Int) by simp, ← Int.natCast_ediv, show (256 : Int) = ((256 : Nat) : Int) from rfl, ← Int.natCast_emod]
  show (Int.toNat _).toUInt8 = _
  rw [Int.toNat_natCast]
theorem wsOct_old (p : List Nat) (c : Nat) (hc : c < 512) (k : Nat) (hk : k < 9 * p.length / 8) : wsOct (p ++ [c]) k = wsOct p k := by
  unfold wsOct
  have h8 : 8 * (k + 1) ≤ 9 * p.length := Nat.le_trans (Nat.mul_le_mul_left 8 hk) (Nat.mul_div_le _ _)
  rw [num_snoc, List.length_append, List.length_singleton, Nat.mul_succ 9, Nat.add_comm (9 * p.length) 9, Nat.add_sub_assoc h8, Nat.pow_add, ← Nat.div_div_eq_div_mul, show (2 : Nat) ^ 9 = 512 from rfl, Nat.mul_comm, Nat.mul_add_div (by decide), Nat.div_eq_of_lt hc, Nat.add_zero]
theorem range_wsOct (p : List Nat) (c : Nat) (hc : c < 512) : (List.range (9 * p.length / 8)).map (wsOct (p ++ [c])) = (List.range (9 * p.length / 8)).map (wsOct p) :=
  List.map_congr_left fun k hk => wsOct_old p c hc k (List.mem_range.mp hk)
theorem low512 (N c m : Nat) : N * 512 + c = 2 ^ (m + 1) * (256 * (N / 2 ^ m)) + (N % 2 ^ m * 512 + c) := by
  have h := Nat.div_add_mod N (2 ^ m)
  conv => lhs; rw [← h]
  rw [Nat.pow_succ, Nat.add_mul, Nat.mul_assoc (2 ^ m) 2, Nat.mul_right_comm (2 ^ m) (N / 2 ^ m) 512, Nat.mul_assoc (2 ^ m) 512, ← Nat.mul_assoc 2 256, Nat.add_assoc]
theorem low_div (N c m : Nat) : (N * 512 + c) / 2 ^ (m + 1) % 256 = (N % 2 ^ m * 512 + c) / 2 ^ (m + 1) % 256 := by
  rw [low512 N c m, Nat.mul_add_div (Nat.two_pow_pos _), Nat.mul_add_mod]
theorem low_mod (N c m : Nat) : (N * 512 + c) % 2 ^ (m + 1) = (N % 2 ^ m * 512 + c) % 2 ^ (m + 1) := by
  rw [low512 N c m, Nat.mul_add_mod]
theorem low_fill (N m : Nat) (h : m ≤ 8) : N * 2 ^ (8 - m) % 256 = N % 2 ^ m * 2 ^ (8 - m) % 256 := by
  have h1 := Nat.div_add_mod N (2 ^ m)
  conv => lhs; rw [← h1]
  rw [Nat.add_mul, Nat.mul_right_comm, ← Nat.pow_add, Nat.add_sub_of_le h, show (2 : Nat) ^ 8 = 256 from rfl, Nat.mul_add_mod]
theorem write_ws (p : List Nat) (c : Nat) (hc : c < 512) : writeM (wsOf p) (c : Int) = wsOf (p ++ [c]) := by
  have hn := Nat.div_add_mod (9 * p.length) 8
  have hm8 := Nat.mod_lt (9 * p.length) (show 0 < 8 by decide)
  have hr := range_wsOct p c hc
  obtain ⟨q, hq⟩ : ∃ q, q = 9 * p.length / 8 := ⟨_, rfl⟩
  obtain ⟨m, hm⟩ : ∃ m, m = 9 * p.length % 8 := ⟨_, rfl⟩
  rw [← hq, ← hm] at hn
  rw [← hm] at hm8
  rw [← hq] at hr
  have hl : (p ++ [c]).length = p.length + 1 := by simp
  unfold writeM wsOf
  rw [hl, num_snoc, ← hq, ← hm]
  dsimp only
  by_cases h7 : m = 7
  · subst h7
    have e0 : 9 * (p.length + 1) = 8 * (q + 1 + 1) := by rw [Nat.mul_succ, ← hn]; rfl
    have e1 : 9 * (p.length + 1) / 8 = q + 1 + 1 := by rw [e0, Nat.mul_div_cancel_left _ (by decide)]
    have e2 : 9 * (p.length + 1) % 8 = 0 := by rw [e0, Nat.mul_mod_right]
    rw [if_pos (show ((7 : Nat) : Int) = 7 from rfl), e1, e2, List.range_succ, List.range_succ, List.map_append, List.map_append, hr]
    have o1 : wsOct (p ++ [c]) q = ((num p % 128 * 512 + c) / 2 ^ 8 % 256).toUInt8 := by
      unfold wsOct; rw [num_snoc, hl, e0, Nat.mul_succ 8 (q + 1), Nat.add_sub_cancel_left]
      exact congrArg Nat.toUInt8 (low_div _ _ 7)
    have o2 : wsOct (p ++ [c]) (q + 1) = ((num p % 128 * 512 + c) / 2 ^ 0 % 256).toUInt8 := by
      unfold wsOct; rw [num_snoc, hl, e0, Nat.sub_self]
      refine congrArg Nat.toUInt8 ?_
      rw [Nat.pow_zero, Nat.div_one, Nat.div_one, show 512 = 2 * 256 from rfl, ← Nat.mul_assoc, ← Nat.mul_assoc, Nat.mul_add_mod_self_right, Nat.mul_add_mod_self_right]
    have t1 : (((7 : Nat) : Int) + 9 - 8).toNat = 8 := rfl
    have t2 : (((7 : Nat) : Int) + 9 - 8 - 8).toNat = 0 := rfl
    rw [t1, t2, show (2 : Nat) ^ 7 = 128 from rfl, u8_div, u8_div, ← o1, ← o2]
    rw [WS.mk.injEq]
    refine ⟨?_, ?_, by rw [List.map_singleton, List.map_singleton]⟩
    · rw [Nat.pow_zero, Nat.mod_one, Int.pow_zero, Int.emod_one]; rfl
    · rfl
  · rw [if_neg (fun e : (m : Int) = 7 => h7 (Int.ofNat.inj e))]
    have hm7 : m + 1 < 8 := Nat.lt_of_le_of_ne hm8 (fun e => h7 (Nat.succ.inj e))
    have e0 : 9 * (p.length + 1) = 8 * (q + 1) + (m + 1) := by rw [Nat.mul_succ, ← hn, Nat.mul_succ, Nat.add_assoc, Nat.add_assoc, Nat.add_left_cancel_iff, Nat.add_left_comm, Nat.add_comm]
    have e1 : 9 * (p.length + 1) / 8 = q + 1 := by rw [e0, Nat.mul_add_div (by decide), Nat.div_eq_of_lt hm7, Nat.add_zero]
    have e2 : 9 * (p.length + 1) % 8 = m + 1 := by rw [e0, Nat.mul_add_mod, Nat.mod_eq_of_lt hm7]
    rw [e1, e2, List.range_succ, List.map_append, hr]
    have t1 : (((m : Nat) : Int) + 9 - 8).toNat = m + 1 := by rw [Int.add_sub_assoc]; rfl
    have o1 : wsOct (p ++ [c]) q = ((num p % 2 ^ m * 512 + c) / 2 ^ (m + 1) % 256).toUInt8 := by
      unfold wsOct; rw [num_snoc, hl, e0, Nat.add_sub_cancel_left]
      exact congrArg Nat.toUInt8 (low_div _ _ m)
    have o2 : (((num p % 2 ^ m : Nat) : Int) * 512 + (c : Int)) % 2 ^ (m + 1) = (((num p * 512 + c) % 2 ^ (m + 1) : Nat) : Int) := by
      have e : (((num p % 2 ^ m : Nat) : Int) * 512 + (c : Int)) = ((num p % 2 ^ m * 512 + c : Nat) : Int) := rfl
      rw [e, show ((2 : Int) ^ (m + 1)) = ((2 ^ (m + 1) : Nat) : Int) by simp, ← Int.natCast_emod, ← low_mod]
    rw [t1, u8_div, ← o1, o2]
    rw [WS.mk.injEq]
    exact ⟨rfl, by rw [Int.add_sub_assoc]; rfl, by rw [List.map_singleton]⟩
noncomputable def flushW (s : WS) : List UInt8 := if s.many > 0 then s.found ++ [u8 (s.bits * 2 ^ (8 - s.many).toNat % 256)] else s.found
theorem flush_ws (p : List Nat) : flushW (wsOf p) = octL p := by
  have ho := octs_pad p.length
  have hn := Nat.div_add_mod (9 * p.length) 8
  have hm8 := Nat.mod_lt (9 * p.length) (show 0 < 8 by decide)
  have old : ∀ k, k < 9 * p.length / 8 → octN p k = wsOct p k := by
    intro k hk
    unfold octN wsOct total
    have h8 : 8 * (k + 1) ≤ 9 * p.length := Nat.le_trans (Nat.mul_le_mul_left 8 hk) (Nat.mul_div_le _ _)
    rw [p256, Nat.sub_sub, Nat.add_comm 1 k, Nat.mul_sub, ho, Nat.add_comm (9 * p.length), Nat.add_sub_assoc h8, Nat.pow_add, ← Nat.div_div_eq_div_mul, Nat.mul_div_cancel _ (Nat.two_pow_pos _)]
  have hr : (List.range (9 * p.length / 8)).map (octN p) = (List.range (9 * p.length / 8)).map (wsOct p) := List.map_congr_left fun k hk => old k (List.mem_range.mp hk)
  unfold flushW wsOf octL
  dsimp only
  by_cases h0 : 9 * p.length % 8 = 0
  · have e1 : octs p.length = 9 * p.length / 8 := by
      unfold pad at ho
      rw [h0] at ho
      exact (Nat.div_eq_of_eq_mul_right (by decide) (Eq.symm ho)).symm
    rw [if_neg (by rw [h0]; decide), e1, hr]
  · have e2 : pad p.length = 8 - 9 * p.length % 8 := Nat.mod_eq_of_lt (Nat.sub_lt (by decide) (Nat.pos_of_ne_zero h0))
    have e1 : octs p.length = 9 * p.length / 8 + 1 := by
      refine Nat.eq_of_mul_eq_mul_left (show 0 < 8 by decide) (ho.trans ?_)
      rw [e2]
      exact (congrArg (· + (8 - 9 * p.length % 8)) hn.symm).trans ((Nat.add_assoc _ _ _).trans (congrArg (8 * (9 * p.length / 8) + ·) (Nat.add_sub_of_le (Nat.le_of_lt hm8))))
    rw [if_pos (Int.natCast_pos.mpr (Nat.pos_of_ne_zero h0)), e1, List.range_succ, List.map_append, hr]
    refine congrArg (_ ++ ·) ?_
    rw [List.map_singleton]
    refine congrArg (fun x => [x]) ?_
    unfold octN total
    rw [e1, Nat.add_sub_cancel, Nat.sub_self, Nat.pow_zero, Nat.div_one, e2]
    generalize hm : 9 * p.length % 8 = m at *
    have t1 : (8 - ((m : Nat) : Int)).toNat = 8 - m := Int.toNat_sub 8 m
    rw [t1]
    have o1 : ((num p % 2 ^ m : Nat) : Int) * 2 ^ (8 - m) % 256 = ((num p * 2 ^ (8 - m) % 256 : Nat) : Int) := by
      rw [low_fill _ _ (Nat.le_of_lt hm8), show ((2 : Int) ^ (8 - m)) = ((2 ^ (8 - m) : Nat) : Int) by simp, ← Int.natCast_mul]
      rfl
    rw [o1]
    show (Int.toNat _).toUInt8 = _
    rw [Int.toNat_natCast]
theorem writeM_pre (b m : Int) (f g : List UInt8) (c : Int) : writeM ⟨b, m, f ++ g⟩ c = ⟨(writeM ⟨b, m, g⟩ c).bits, (writeM ⟨b, m, g⟩ c).many, f ++ (writeM ⟨b, m, g⟩ c).found⟩ := by
  unfold writeM
  dsimp only
  split <;> simp [List.append_assoc]
/-! the longest pieces of the table, octet by octet -/
noncomputable abbrev Tb := List (Option (List UInt8))
noncomputable def scan : Tb → List UInt8 → List UInt8 → List Nat
  | T, w, [] => [T.idxOf (some w)]
  | T, w, o :: r => if some (w ++ [o]) ∈ T then scan T (w ++ [o]) r else T.idxOf (some w) :: scan (T ++ [some (w ++ [o])]) [o] r
noncomputable def codesN (o : List UInt8) : List Nat := 256 :: ((match o with | [] => [] | x :: r => scan codesT [x] r) ++ [257])
/-- each piece stands once, and its beginnings stand too -/
structure TbOk (T : Tb) : Prop where
  once : ∀ (i j : Nat) (u : List UInt8), T[i]? = some (some u) → T[j]? = some (some u) → i = j
  beg : ∀ (u : List UInt8) (b : UInt8), u ≠ [] → some (u ++ [b]) ∈ T → some u ∈ T
  one : ∀ b : UInt8, T[b.toNat]? = some (some [b])
  len : 258 ≤ T.length
theorem idx_get {T : Tb} {w : List UInt8} (h : some w ∈ T) : T[T.idxOf (some w)]? = some (some w) := by
  have := List.idxOf_lt_length_of_mem h
  rw [List.getElem?_eq_getElem this, List.getElem_idxOf]
theorem idx_lt {T : Tb} {w : List UInt8} (h : some w ∈ T) : T.idxOf (some w) < T.length := List.idxOf_lt_length_of_mem h
theorem snoc_inj {u w : List UInt8} {a b : UInt8} (h : u ++ [a] = w ++ [b]) : u = w ∧ a = b := by
  have := List.append_inj' h rfl
  exact ⟨this.1, by simpa using this.2⟩
theorem get_snoc {T : Tb} {x : Option (List UInt8)} {i : Nat} {u : List UInt8} (h : (T ++ [x])[i]? = some (some u)) : T[i]? = some (some u) ∧ i < T.length ∨ i = T.length ∧ x = some u := by
  rcases Nat.lt_trichotomy i T.length with hi | hi | hi
  · rw [List.getElem?_append_left hi] at h; exact .inl ⟨h, hi⟩
  · subst hi; rw [List.getElem?_concat_length] at h; exact .inr ⟨rfl, Option.some.inj h⟩
  · rw [List.getElem?_append_right (by (first | lia | omega)), List.getElem?_eq_none (by simp; (first | lia | omega))] at h; cases h
theorem TbOk.snoc {T : Tb} (h : TbOk T) {w : List UInt8} {o : UInt8} (hw : some w ∈ T) (hn : some (w ++ [o]) ∉ T) : TbOk (T ++ [some (w ++ [o])]) := by
  refine ⟨fun i j u hi hj => ?_, fun u b hu hm => ?_, fun b => ?_, by rw [List.length_append]; have := h.len; (first | lia | omega)⟩
  · rcases get_snoc hi with ⟨hi, _⟩ | ⟨hi, ei⟩ <;> rcases get_snoc hj with ⟨hj, _⟩ | ⟨hj, ej⟩
    · exact h.once i j u hi hj
    · rw [ej] at hn; exact absurd (List.mem_of_getElem? hi) hn
    · rw [ei] at hn; exact absurd (List.mem_of_getElem? hj) hn
    · rw [hi, hj]
  · rcases List.mem_append.mp hm with hm | hm
    · exact List.mem_append_left _ (h.beg u b hu hm)
    · have e := Option.some.inj (List.mem_singleton.mp hm)
      rw [(snoc_inj e).1]; exact List.mem_append_left _ hw
  · have hb := b.toNat_lt
    rw [List.getElem?_append_left (by have := h.len; (first | lia | omega))]; exact h.one b
theorem TbOk.mem1 {T : Tb} (h : TbOk T) (b : UInt8) : some [b] ∈ T := List.mem_of_getElem? (h.one b)
theorem codesT_get (i : Nat) (u : List UInt8) : codesT[i]? = some (some u) ↔ i < 256 ∧ u = [i.toUInt8] := by
  unfold codesT
  rcases Nat.lt_or_ge i 256 with hi | hi
  · rw [List.getElem?_append_left (by simpa using hi), List.getElem?_map, List.getElem?_range hi]
    simp only [Option.map_some, Option.some.injEq]
    exact ⟨fun e => ⟨hi, e.symm⟩, fun e => e.2.symm⟩
  · rw [List.getElem?_append_right (by simpa using hi)]
    constructor
    · intro h
      have := List.mem_of_getElem? h
      simp at this
    · intro h; (first | lia | omega)
theorem codesT_len : codesT.length = 258 := by simp [codesT]
theorem codesT_ok : TbOk codesT := by
  refine ⟨fun i j u hi hj => ?_, fun u b hu hm => ?_, fun b => ?_, by rw [codesT_len]; exact Nat.le_refl _⟩
  · obtain ⟨hi, rfl⟩ := (codesT_get _ _).mp hi
    obtain ⟨hj, e⟩ := (codesT_get _ _).mp hj
    have e2 : i.toUInt8 = j.toUInt8 := by simpa using e
    have e3 := congrArg UInt8.toNat e2
    simp at e3
    (first | lia | omega)
  · obtain ⟨i, hi⟩ := List.mem_iff_getElem?.mp hm
    obtain ⟨_, e⟩ := (codesT_get _ _).mp hi
    have := congrArg List.length e
    rw [List.length_append] at this
    simp at this
    exact absurd this hu
  · exact (codesT_get _ _).mpr ⟨b.toNat_lt, by simp⟩
/-! the law's own codes are these -/
theorem cutB_full {o : List UInt8} {a b : Nat} (h1 : a ≤ b) (h2 : b < o.length) : cutB o a (b + 1) = cutB o a b ++ [o[b]] := by
  unfold cutB
  rw [Nat.succ_sub h1, List.take_add_one]
  congr 1
  rw [List.getElem?_drop, Nat.add_sub_of_le h1, List.getElem?_eq_getElem h2]; rfl
theorem munch_scan (T : Tb) (o : List UInt8) (at' : Nat) : ∀ (f many : Nat), o.length ≤ at' + many + f → at' + many ≤ o.length →
    scan T (cutB o at' (at' + many)) (o.drop (at' + many)) = T.idxOf (some (cutB o at' (at' + munch T o at' f many))) ::
      (if at' + munch T o at' f many < o.length then scan (T ++ [some (cutB o at' (at' + munch T o at' f many + 1))]) (cutB o (at' + munch T o at' f many) (at' + munch T o at' f many + 1)) (o.drop (at' + munch T o at' f many + 1)) else []) ∧ many ≤ munch T o at' f many ∧ at' + munch T o at' f many ≤ o.length
  | 0, many, hf, hm => by
    rw [munch, List.drop_of_length_le (by (first | lia | omega)), if_neg (by (first | lia | omega)), scan]
    exact ⟨rfl, Nat.le_refl _, hm⟩
  | f + 1, many, hf, hm => by
    rw [munch]
    by_cases hlt : at' + many < o.length
    · rw [List.drop_eq_getElem_cons hlt, scan, ← cutB_full (by (first | lia | omega)) hlt]
      by_cases hin : some (cutB o at' (at' + many + 1)) ∈ T
      · rw [if_pos hin, if_pos ⟨hlt, hin⟩]
        have := munch_scan T o at' f (many + 1) (by (first | lia | omega)) (by (first | lia | omega))
        rw [← Nat.add_assoc] at this
        exact ⟨this.1, by (first | lia | omega), this.2.2⟩
      · rw [if_neg hin, if_neg (fun q => hin q.2), if_pos hlt]
        refine ⟨?_, Nat.le_refl _, by (first | lia | omega)⟩
        rw [show cutB o (at' + many) (at' + many + 1) = [o[at' + many]] from by rw [cutB_full (Nat.le_refl _) hlt]; unfold cutB; simp]
    · rw [if_neg (fun q => hlt q.1), if_neg hlt, List.drop_of_length_le (by (first | lia | omega)), scan]
      exact ⟨rfl, Nat.le_refl _, by (first | lia | omega)⟩
theorem codesL_scan (o : List UInt8) : ∀ (k : Nat) (T : Tb) (F : List Int) (at' : Nat), o.length ≤ at' + k → at' ≤ o.length →
    codesL o k T F at' = F ++ (if at' < o.length then scan T (cutB o at' (at' + 1)) (o.drop (at' + 1)) else []).map fun (n : Nat) => (n : Int)
  | 0, T, F, at', h, h2 => by rw [codesL, if_neg (by (first | lia | omega))]; simp
  | k + 1, T, F, at', h, h2 => by
    rw [codesL]
    by_cases hlt : at' < o.length
    · rw [if_pos hlt, if_pos hlt]
      obtain ⟨h3, h4, h5⟩ := munch_scan T o at' o.length 1 (by (first | lia | omega)) (by (first | lia | omega))
      rw [codesL_scan o k _ _ _ (by (first | lia | omega)) h5, h3, List.map_cons, List.append_assoc]; rfl
    · rw [if_neg hlt, if_neg hlt]; simp
theorem codesM_eq (o : List UInt8) : codesM o = (codesN o).map fun (n : Nat) => (n : Int) := by
  unfold codesM codesN
  rw [codesL_scan o o.length codesT [256] 0 (by (first | lia | omega)) (by (first | lia | omega)), List.map_cons, List.map_append]
  cases o with
  | nil => rfl
  | cons x r =>
    rw [if_pos (by simp)]
    show _ ++ _ = _
    rw [show cutB (x :: r) 0 (0 + 1) = [x] from rfl, show (x :: r).drop (0 + 1) = r from rfl]; rfl
theorem scan_lt : ∀ (r : List UInt8) (T : Tb) (w : List UInt8), TbOk T → some w ∈ T → ∀ c ∈ scan T w r, c < T.length + r.length ∧ c ≠ 257 ∧ c ≠ 256 ∨ ¬ (T[256]? = some none ∧ T[257]? = some none) := by
  intro r
  induction r with
  | nil =>
    intro T w h hw c hc
    rw [scan, List.mem_singleton] at hc
    subst hc
    by_cases h2 : T[256]? = some none ∧ T[257]? = some none
    · refine .inl ⟨by have := idx_lt hw; simpa using this, fun e => ?_, fun e => ?_⟩
      · have := idx_get hw; rw [e, h2.2] at this; cases this
      · have := idx_get hw; rw [e, h2.1] at this; cases this
    · exact .inr h2
  | cons o r ih =>
    intro T w h hw c hc
    by_cases h2 : T[256]? = some none ∧ T[257]? = some none
    · rw [scan] at hc
      split at hc
      · rename_i hin
        rcases ih T _ h hin c hc with h3 | h3
        · exact .inl ⟨by rw [List.length_cons]; (first | lia | omega), h3.2⟩
        · exact absurd h2 h3
      · rename_i hn
        rcases List.mem_cons.mp hc with rfl | hc
        · refine .inl ⟨by have := idx_lt hw; rw [List.length_cons]; (first | lia | omega), fun e => ?_, fun e => ?_⟩
          · have := idx_get hw; rw [e, h2.2] at this; cases this
          · have := idx_get hw; rw [e, h2.1] at this; cases this
        · have h' := h.snoc hw hn
          have hl := h.len
          rcases ih _ _ h' (h'.mem1 o) c hc with h3 | h3
          · refine .inl ⟨?_, h3.2⟩
            have := h3.1; rw [List.length_append, List.length_singleton] at this; rw [List.length_cons]; (first | lia | omega)
          · refine absurd ?_ h3
            rw [List.getElem?_append_left (by (first | lia | omega)), List.getElem?_append_left (by (first | lia | omega))]; exact h2
    · exact .inr h2
theorem codesT_none : codesT[256]? = some none ∧ codesT[257]? = some none := by
  unfold codesT
  rw [List.getElem?_append_right (by simp), List.getElem?_append_right (by simp)]
  simp
theorem codesN_lt (o : List UInt8) (h : o.length ≤ 100) : ∀ c ∈ codesN o, c < 512 := by
  intro c hc
  unfold codesN at hc
  rcases List.mem_cons.mp hc with rfl | hc
  · decide
  rcases List.mem_append.mp hc with hc | hc
  · cases o with
    | nil => cases hc
    | cons x r =>
      rcases scan_lt r codesT [x] codesT_ok (codesT_ok.mem1 x) c hc with h3 | h3
      · have := h3.1; rw [codesT_len] at this; rw [List.length_cons] at h; (first | lia | omega)
      · exact absurd codesT_none h3
  · rw [List.mem_singleton.mp hc]; decide
/-! the encoder writes these codes -/
structure EncI (s : ES) (T : Tb) (w : List UInt8) (p : List Nat) : Prop where
  ok : TbOk T
  mem : some w ∈ T
  ne : w ≠ []
  code : s.code = some ((T.idxOf (some w) : Nat) : Int)
  tab : ∀ (u : List UInt8) (b : UInt8) (i : Nat), u ≠ [] → T[i]? = some (some u) → s.table (i : Int) (b.toNat : Int) = if some (u ++ [b]) ∈ T then some ((T.idxOf (some (u ++ [b])) : Nat) : Int) else none
  tabHi : ∀ a b : Int, (T.length : Int) ≤ a → s.table a b = none
  fol : s.following = (T.length : Int)
  ws : s.ws = wsOf p
theorem u8_inj {a b : UInt8} (h : (a.toNat : Int) = (b.toNat : Int)) : a = b := UInt8.toNat_inj.mp (Int.ofNat.inj h)
theorem EncI.step {s : ES} {T : Tb} {w : List UInt8} {p : List Nat} (h : EncI s T w p) (hl : T.length ≤ 500) (o : UInt8) :
    if some (w ++ [o]) ∈ T then EncI (encStep s o) T (w ++ [o]) p else EncI (encStep s o) (T ++ [some (w ++ [o])]) [o] (p ++ [T.idxOf (some w)]) := by
  have hi := idx_lt h.mem
  have ht := h.tab w o _ h.ne (idx_get h.mem)
  by_cases hin : some (w ++ [o]) ∈ T
  · rw [if_pos hin] at ht ⊢
    unfold encStep
    rw [h.code]
    dsimp only
    rw [ht]
    exact ⟨h.ok, hin, by simp, rfl, h.tab, h.tabHi, h.fol, h.ws⟩
  · rw [if_neg hin] at ht ⊢
    unfold encStep
    rw [h.code]
    dsimp only
    rw [ht]
    dsimp only
    have hok := h.ok.snoc h.mem hin
    have hb := o.toNat_lt
    have hlen := h.ok.len
    have hidx : (T ++ [some (w ++ [o])]).idxOf (some (w ++ [o])) = T.length := by
      rw [List.idxOf_append, if_neg hin]; simp
    refine ⟨hok, List.mem_append_left _ (h.ok.mem1 o), by simp, ?_, ?_, ?_, ?_, ?_⟩
    · show some ((o.toNat : Nat) : Int) = some _
      rw [hok.once _ _ _ (hok.one o) (idx_get (List.mem_append_left _ (h.ok.mem1 o)))]
    · intro u b i hu hg
      show (if (i : Int) = ((T.idxOf (some w) : Nat) : Int) ∧ (b.toNat : Int) = (o.toNat : Int) then some s.following else s.table i b.toNat) = _
      rcases get_snoc hg with ⟨hg2, hlt⟩ | ⟨rfl, e⟩
      · by_cases hc : ((i : Int) = ((T.idxOf (some w) : Nat) : Int) ∧ (b.toNat : Int) = (o.toNat : Int))
        · rw [if_pos hc]
          obtain ⟨h1, h2⟩ := hc
          obtain rfl := u8_inj h2
          obtain rfl : i = T.idxOf (some w) := by (first | lia | omega)
          rw [idx_get h.mem] at hg2
          obtain rfl : w = u := by simpa using hg2
          rw [if_pos (List.mem_append_right _ (.head _)), hidx, h.fol]
        · rw [if_neg hc, h.tab u b i hu hg2]
          have hne : u ++ [b] ≠ w ++ [o] := fun e => by
            obtain ⟨rfl, rfl⟩ := snoc_inj e
            have e3 := h.ok.once _ _ _ hg2 (idx_get h.mem)
            exact hc ⟨by (first | lia | omega), rfl⟩
          have hiff : some (u ++ [b]) ∈ T ++ [some (w ++ [o])] ↔ some (u ++ [b]) ∈ T := by
            rw [List.mem_append, List.mem_singleton]
            exact ⟨fun q => q.elim id fun q => absurd (Option.some.inj q) hne, .inl⟩
          by_cases hm : some (u ++ [b]) ∈ T
          · rw [if_pos hm, if_pos (hiff.mpr hm), List.idxOf_append, if_pos hm]
          · rw [if_neg hm, if_neg (fun q => hm (hiff.mp q))]
      · obtain rfl := Option.some.inj e
        rw [if_neg (fun q => by have := q.1; (first | lia | omega)), h.tabHi _ _ (Int.le_refl _), if_neg]
        intro q
        rcases List.mem_append.mp q with q | q
        · exact hin (h.ok.beg _ b (by simp) q)
        · have := congrArg List.length (Option.some.inj (List.mem_singleton.mp q))
          simp at this
    · intro a b ha
      rw [List.length_append, List.length_singleton] at ha
      dsimp only
      rw [if_neg (fun q => by have := q.1; (first | lia | omega))]
      exact h.tabHi a b (by (first | lia | omega))
    · dsimp only
      rw [h.fol, List.length_append, List.length_singleton]; (first | lia | omega)
    · dsimp only
      rw [h.ws]
      exact write_ws p _ (by (first | lia | omega))
theorem enc_scan : ∀ (r : List UInt8) (s : ES) (T : Tb) (w : List UInt8) (p : List Nat), EncI s T w p → T.length + r.length ≤ 500 → lastW (encFeed s r) = wsOf (p ++ (scan T w r ++ [257])) := by
  intro r
  induction r with
  | nil =>
    intro s T w p h hl
    have hi := idx_lt h.mem
    unfold lastW
    show (match s.code with | none => _ | some c => _) = _
    rw [h.code]
    dsimp only
    show writeM (writeM s.ws _) 257 = _
    rw [h.ws, write_ws p _ (by simp at hl; (first | lia | omega)), show (257 : Int) = ((257 : Nat) : Int) from rfl, write_ws _ 257 (by decide), scan, List.append_assoc]
  | cons o r ih =>
    intro s T w p h hl
    rw [List.length_cons] at hl
    have hs := h.step (by (first | lia | omega)) o
    show lastW (encFeed (encStep s o) r) = _
    rw [scan]
    by_cases hin : some (w ++ [o]) ∈ T
    · rw [if_pos hin] at hs ⊢
      exact ih _ _ _ _ hs (by (first | lia | omega))
    · rw [if_neg hin] at hs ⊢
      rw [ih _ _ _ _ hs (by rw [List.length_append, List.length_singleton]; (first | lia | omega))]
      simp
theorem flushW_pre (b m : Int) (f g : List UInt8) : flushW ⟨b, m, f ++ g⟩ = f ++ flushW ⟨b, m, g⟩ := by
  unfold flushW
  dsimp only
  split
  · rw [List.append_assoc]
  · rfl
theorem lastW_pre (s : ES) : lastW s = ⟨(lastW { s with ws := { s.ws with found := [] } }).bits, (lastW { s with ws := { s.ws with found := [] } }).many, s.ws.found ++ (lastW { s with ws := { s.ws with found := [] } }).found⟩ := by
  have e : s.ws = ⟨s.ws.bits, s.ws.many, s.ws.found ++ []⟩ := by rw [List.append_nil]
  unfold lastW
  dsimp only
  cases s.code with
  | none => dsimp only; rw [← writeM_pre, ← e]
  | some c =>
    dsimp only
    rw [← writeM_pre, ← writeM_pre, ← e]
theorem encodeM_flush (o : List UInt8) : encodeM o = flushW (lastW (encFeed encInit o)) := by
  unfold encodeM
  generalize encFeed encInit o = s
  rw [lastW_pre s, flushW_pre]
  rfl
theorem encode_codes (o : List UInt8) (h : o.length ≤ 100) : encodeM o = octL (codesN o) := by
  have h0 : encInit.ws = wsOf [256] := write_ws [] 256 (by decide)
  rw [encodeM_flush, ← flush_ws]
  congr 1
  cases o with
  | nil =>
    show writeM encInit.ws 257 = _
    rw [h0]; exact write_ws [256] 257 (by decide)
  | cons x r =>
    rw [List.length_cons] at h
    have hI : EncI (encStep encInit x) codesT [x] [256] := by
      refine ⟨codesT_ok, codesT_ok.mem1 x, by simp, ?_, ?_, fun a b _ => rfl, ?_, h0⟩
      · show some _ = some _
        congr 2
        exact codesT_ok.once _ _ _ (codesT_ok.one x) (idx_get (codesT_ok.mem1 x))
      · intro u b i hu hg
        rw [if_neg]
        · rfl
        · intro q
          obtain ⟨j, hj⟩ := List.mem_iff_getElem?.mp q
          have := congrArg List.length ((codesT_get _ _).mp hj).2
          rw [List.length_append] at this
          simp at this
          exact hu this
      · rw [codesT_len]; rfl
    exact enc_scan r _ _ _ _ hI (by rw [codesT_len]; (first | lia | omega))
/-! the decoder reads them back -/
theorem take_piece {early : Int} (he : 0 ≤ early ∧ early ≤ 1) {E : List (List UInt8)} {w : List UInt8} {d : DS} (hT : TbOk (codesT ++ E.map some)) (hw : some w ∈ codesT ++ E.map some) (hn : w ≠ []) (hd : d.isd = false) (h9 : d.width = 9) (hl : E.length ≤ 200)
    (hlink : (d.last = none ∧ d.tab = [] ∧ E = []) ∨ (∃ l, l ≠ [] ∧ d.last = some l ∧ E = d.tab ++ [l ++ w.take 1])) :
    takeM early (((codesT ++ E.map some).idxOf (some w) : Nat) : Int) d = some ⟨E, some w, 9, false, d.found ++ w⟩ := by
  have hg := idx_get hw
  generalize (codesT ++ E.map some).idxOf (some w) = i at hg
  have ht : i ≠ 256 ∧ i ≠ 257 ∧ toldM d.tab d.last (i : Int) = some w := by
    rcases Nat.lt_or_ge i 258 with hi | hi
    · rw [List.getElem?_append_left (by rw [codesT_len]; exact hi)] at hg
      obtain ⟨h1, rfl⟩ := (codesT_get _ _).mp hg
      refine ⟨by (first | lia | omega), by (first | lia | omega), ?_⟩
      unfold toldM
      rw [if_pos (by (first | lia | omega))]
      show some [Nat.toUInt8 (Int.toNat _)] = _
      rw [Int.toNat_natCast]
    · refine ⟨by (first | lia | omega), by (first | lia | omega), ?_⟩
      rw [List.getElem?_append_right (by rw [codesT_len]; exact hi), codesT_len, List.getElem?_map] at hg
      have hE : E[i - 258]? = some w := by
        cases q : E[i - 258]? with
        | none => rw [q] at hg; cases hg
        | some x => rw [q] at hg; simpa using hg
      unfold toldM
      rw [if_neg (by (first | lia | omega))]
      rcases hlink with ⟨_, _, rfl⟩ | ⟨l, hln, hlast, hE2⟩
      · cases hE
      · rcases Nat.lt_or_ge (i - 258) d.tab.length with hlt | hge
        · rw [if_pos (by (first | lia | omega)), show ((i : Int) - 258).toNat = i - 258 by (first | lia | omega)]
          rw [hE2, List.getElem?_append_left hlt] at hE
          exact hE
        · have hlen := (List.getElem?_eq_some_iff.mp hE).1
          rw [hE2, List.length_append, List.length_singleton] at hlen
          have hieq : i - 258 = d.tab.length := by (first | lia | omega)
          rw [hE2, hieq, List.getElem?_concat_length] at hE
          have hE3 : l ++ w.take 1 = w := Option.some.inj hE
          rw [if_neg (by (first | lia | omega)), if_pos (by (first | lia | omega)), hlast]
          have e1 : l.take 1 = w.take 1 := by
            rw [← hE3]
            cases l with
            | nil => exact absurd rfl hln
            | cons x l => rfl
          show some (l ++ l.take 1) = some w
          rw [e1, hE3]
  obtain ⟨h1, h2, h3⟩ := ht
  unfold takeM
  rw [if_neg (by (first | lia | omega)), if_neg (by (first | lia | omega)), h3]
  dsimp only
  rcases hlink with ⟨e1, e2, e3⟩ | ⟨l, hln, hlast, hE2⟩
  · rw [e1, e2, e3, h9, hd]
  · rw [hlast]
    dsimp only
    rw [if_neg (by rw [hE2, List.length_append, List.length_singleton] at hl; (first | lia | omega)), h9, hd, ← hE2]
theorem take1_snoc {w : List UInt8} (h : w ≠ []) (x : List UInt8) : (w ++ x).take 1 = w.take 1 := by
  cases w with
  | nil => exact absurd rfl h
  | cons a w => rfl
theorem dec_scan {early : Int} (he : 0 ≤ early ∧ early ≤ 1) : ∀ (r : List UInt8) (E : List (List UInt8)) (w : List UInt8) (d : DS), TbOk (codesT ++ E.map some) → some w ∈ codesT ++ E.map some → w ≠ [] → d.isd = false → d.width = 9 → E.length + r.length ≤ 200 →
    ((d.last = none ∧ d.tab = [] ∧ E = []) ∨ (∃ l, l ≠ [] ∧ d.last = some l ∧ E = d.tab ++ [l ++ w.take 1])) →
    endsRight early (scan (codesT ++ E.map some) w r ++ [257]) d ∧ ∃ d', takeL early (scan (codesT ++ E.map some) w r ++ [257]) d = some d' ∧ d'.isd = true ∧ d'.found = d.found ++ w ++ r := by
  intro r
  induction r with
  | nil =>
    intro E w d hT hw hn hd h9 hl hlink
    have ht := take_piece he hT hw hn hd h9 (by simp at hl; (first | lia | omega)) hlink
    rw [scan]
    show endsRight early (_ :: [257]) d ∧ ∃ d', takeL early (_ :: [257]) d = some d' ∧ _
    rw [takeL, endsRight, ht]
    refine ⟨fun d2 h2 => ?_, ?_⟩
    · injection h2 with h2; subst h2
      refine ⟨rfl, fun q => (by cases q), fun d3 h3 => ?_⟩
      rw [take_done] at h3
      injection h3 with h3; subst h3
      exact ⟨rfl, fun _ => rfl, trivial⟩
    · rw [Option.bind_some, takeL, take_done]
      exact ⟨_, rfl, rfl, by simp⟩
  | cons o r ih =>
    intro E w d hT hw hn hd h9 hl hlink
    rw [List.length_cons] at hl
    rw [scan]
    by_cases hin : some (w ++ [o]) ∈ codesT ++ E.map some
    · rw [if_pos hin]
      have := ih E (w ++ [o]) d hT hin (by simp) hd h9 (by (first | lia | omega)) (by rw [take1_snoc hn]; exact hlink)
      rw [show d.found ++ w ++ o :: r = d.found ++ (w ++ [o]) ++ r by simp]
      exact this
    · rw [if_neg hin]
      have ht := take_piece he hT hw hn hd h9 (by (first | lia | omega)) hlink
      have hT' := hT.snoc hw hin
      have eT : codesT ++ E.map some ++ [some (w ++ [o])] = codesT ++ (E ++ [w ++ [o]]).map some := by simp
      rw [eT] at hT' ⊢
      have := ih (E ++ [w ++ [o]]) [o] ⟨E, some w, 9, false, d.found ++ w⟩ hT' (hT'.mem1 o) (by simp) rfl rfl (by rw [List.length_append, List.length_singleton]; (first | lia | omega)) (.inr ⟨w, hn, rfl, rfl⟩)
      rw [List.cons_append, takeL, endsRight, ht, Option.bind_some]
      refine ⟨fun d2 h2 => ?_, ?_⟩
      · injection h2 with h2; subst h2
        exact ⟨rfl, fun q => (by cases q), this.1⟩
      · obtain ⟨d', h1, h2, h3⟩ := this.2
        exact ⟨d', h1, h2, by rw [h3]; simp⟩
theorem take_clear0 (early : Int) : takeM early ((256 : Nat) : Int) initF.ds = some initF.ds := by
  unfold takeM; rw [if_pos (by decide)]; rfl
theorem codesN_dec {early : Int} (he : 0 ≤ early ∧ early ≤ 1) (o : List UInt8) (h : o.length ≤ 100) :
    endsRight early (codesN o) initF.ds ∧ ∃ d', takeL early (codesN o) initF.ds = some d' ∧ d'.isd = true ∧ d'.found = o := by
  unfold codesN
  rw [takeL, endsRight, take_clear0, Option.bind_some]
  have key : endsRight early ((match o with | [] => [] | x :: r => scan codesT [x] r) ++ [257]) initF.ds ∧ ∃ d', takeL early ((match o with | [] => [] | x :: r => scan codesT [x] r) ++ [257]) initF.ds = some d' ∧ d'.isd = true ∧ d'.found = o := by
    cases o with
    | nil =>
      show endsRight early [257] initF.ds ∧ ∃ d', takeL early [257] initF.ds = some d' ∧ _
      rw [takeL, endsRight, take_done]
      refine ⟨fun d2 h2 => ?_, _, rfl, rfl, rfl⟩
      injection h2 with h2; subst h2
      exact ⟨rfl, fun _ => rfl, trivial⟩
    | cons x r =>
      rw [List.length_cons] at h
      have e : codesT ++ ([] : List (List UInt8)).map some = codesT := by simp
      have := dec_scan he r [] [x] initF.ds (by rw [e]; exact codesT_ok) (by rw [e]; exact codesT_ok.mem1 x) (by simp) rfl rfl (by simp; (first | lia | omega)) (.inl ⟨rfl, rfl, rfl⟩)
      rw [e] at this
      exact this
  refine ⟨fun d2 h2 => ?_, key.2⟩
  injection h2 with h2; subst h2
  exact ⟨rfl, fun q => (by cases q), key.1⟩
/-- the law of the octets: what is written, and what is read back -/
theorem law_octets {early : Int} (he : 0 ≤ early ∧ early ≤ 1) (o : List UInt8) (h : o.length ≤ 100) :
    encodeM o = octB (codesM o) ∧ decodeM early (octB (codesM o)) = some o := by
  rw [codesM_eq, octB_eq]
  refine ⟨encode_codes o h, ?_⟩
  obtain ⟨h1, d', h2, h3, h4⟩ := codesN_dec he o h
  have hd := decode_codes early (codesN o) (codesN_lt o h) h1
  rw [h2] at hd
  obtain ⟨b, m, hf, _⟩ := hd
  unfold decodeM
  rw [hf]
  dsimp only
  rw [if_pos h3, h4]
/-- the end was read, and what is fed behind it is left -/
theorem behind_due {early : Int} {o b : List UInt8} {s : FS} (h : feedM early initF o = some s) (hi : s.ds.isd = true) (hl : s.left = []) :
    ∃ s', feedM early initF (o ++ b) = some s' ∧ s'.ds.isd = true ∧ s'.ds.found = s.ds.found ∧ s'.left = b := by
  rw [feedM_append, h, Option.bind_some]
  cases b with
  | nil => exact ⟨s, rfl, hi, rfl, hl⟩
  | cons x r =>
    rw [feedM, if_pos hi]
    exact ⟨_, rfl, hi, rfl, by rw [hl]; rfl⟩
theorem decode_some {early : Int} {o : List UInt8} {s : FS} (h : feedM early initF o = some s) (hi : s.ds.isd = true) : decodeM early o = some s.ds.found := by
  unfold decodeM; rw [h]; dsimp only; rw [if_pos hi]
theorem scan_len : ∀ (r : List UInt8) (T : Tb) (w : List UInt8), (scan T w r).length ≤ r.length + 1
  | [], T, w => by rw [scan]; simp
  | o :: r, T, w => by
    rw [scan]
    split
    · have := scan_len r T (w ++ [o]); rw [List.length_cons]; (first | lia | omega)
    · have := scan_len r (T ++ [some (w ++ [o])]) [o]; rw [List.length_cons, List.length_cons]; (first | lia | omega)
theorem codesM_len (o : List UInt8) : (codesM o).length ≤ o.length + 2 := by
  rw [codesM_eq, List.length_map]
  unfold codesN
  cases o with
  | nil => simp
  | cons x r =>
    have := scan_len r codesT [x]
    simp only [List.length_cons, List.length_append, List.length_nil]; (first | lia | omega)
theorem codesM_rng (o : List UInt8) (h : o.length ≤ 100) : ∀ c ∈ codesM o, 0 ≤ c ∧ c < 512 := by
  rw [codesM_eq]
  intro c hc
  obtain ⟨n, hn, rfl⟩ := List.mem_map.mp hc
  have := codesN_lt o h n hn
  (first | lia | omega)
theorem octB_len (cs : List Int) (hc : ∀ c ∈ cs, 0 ≤ c) : (octB cs).length ≤ 2 * cs.length := by
  obtain ⟨l, rfl⟩ : ∃ l : List Nat, cs = l.map fun (n : Nat) => (n : Int) := ⟨cs.map Int.toNat, by
    rw [List.map_map]
    conv => lhs; rw [← List.map_id cs]
    refine List.map_congr_left fun c hcc => ?_
    have := hc c hcc
    simp only [Function.comp, id]; (first | lia | omega)⟩
  rw [octB_eq, octL_length, List.length_map]
  have := octs_pad l.length
  have := pad_le l.length
  have : l.length = 0 → pad l.length = 0 := fun h => by rw [h]; rfl
  (first | lia | omega)
theorem reg_Long0 : True := by
  (k_with "L c call" => ((with_reducible show wpC _ _ (call (Value.ref _) _) _ _ _); refine goC ?_; intro _))
  (k_with "L call ref" => ((with_reducible show wpAny _ _ (call (Value.ref 217) _) _ _ _); refine goA ?_; intro _))
  trivial
inductive longJ (early : Int) (te : Tok) (many : Int) (wl : Addr) (dk : Addr) (i : Nat) (m : Str → Option Value) (news : List (Addr × Obj)) : Prop
  | mk (us : List Value) (kk : Nat) (tw tn tm : Tok) (h1 : m (Str.ofString "widths") = some (.ref wl)) (h2 : m (Str.ofString "many") = some (.int many tm)) (h3 : m (Str.ofString "early") = some (.int early te)) (h4 : m (Str.ofString "width") = some (.int (if 255 ≤ (i : Int) + early then 10 else 9) tw)) (h5 : m (Str.ofString "number") = some (.int (258 + ((i - 1 : Nat) : Int)) tn)) (h6 : news = [(wl, listOf us.toArray kk)]) (h7 : IntsAre us (longW early i))
theorem long_ok (w : World) (loose : List Str) (mean : ExcName → Option Value) (mg mb : Str → Option Value)
    (dk c : Addr) (dO : Obj) (k : Nat) (vs : List Value) (ns : List Int) (at' early : Int) (ta te : Tok) (rest : List (Addr × Obj))
    (hdO : dO.IsDictOf (strKind PySem.Challenge.rw_nt0490_01.row.prog w) [(Str.ofString "cells", .ref c), (Str.ofString "at", .int at' ta)])
    (hdc : @Ne Nat dk c) (hrd : ∀ p ∈ rest, p.1 ≠ dk) (hI : IntsAre vs ns) (hz : vs.length ≤ 60) (ha : 0 ≤ at' ∧ at' ≤ 900) (he : 0 ≤ early ∧ early ≤ 1) :
    CallC w loose mean mg mb 30 (.ref 253) [.ref dk, .int early te] ((dk, dO) :: (c, listOf vs.toArray k) :: rest)
      (fun r news' => r = .bool true) (fun _ => False) := by
  unfold CallC
  intro dp un gd cn cs a ccd cl outer A₀ base h₀ L m s Q E
  k_fill
  obtain ⟨hp', gn, dr, tk0, os⟩ := s
  intro B F X N T hkk hd hu hret hexc
  refine wpC_call ?_
  k_dflt (walk_at "c enter")
  rename_i gF LF hF0 tF FGF FF NF BF XF TF
  walk_at "c steps"
  refine StopAt.mk ?_
  refine CallOk.at (draw_ok w loose mean mg mb dk c dO k vs ns at' 4 ta _ rest hdO hdc hrd hI hz (by omega) (by omega)) BF (by assumption) XF (by assumption) TF rfl (by omega) (by omega) ?_
  intro r n' h' tk' F' N' hP0
  refine hideGoal fun G hG => ?_
  obtain ⟨⟨v, tv, hv0, hv4, rfl⟩, ta2, dO2, hdO2, rfl⟩ := hP0
  refine hG ?_
  clear hG G
  walk_at "c steps"
  rename IsRange _ _ _ _ _ _ _ _ => hR
  rename Fr gF LF _ _ => F4
  rename News gF LF _ _ => N4
  obtain ⟨nn, hnn⟩ : ∃ nn : Nat, 253 + v + 1 = (nn : Int) := ⟨_, (Int.toNat_of_nonneg (by omega)).symm⟩
  rw [hnn] at hR
  obtain ⟨wl, m9, N5, F5, hw1, hw2, hw3, hw4, j9⟩ : ∃ wl m9, News gF LF _ ([(wl, listOf ([] : List Value).toArray 0)] ++ (dk, dO2) :: (c, listOf vs.toArray k) :: rest) ∧ Fr gF LF _ m9 ∧ @LT.lt Nat _ dk wl ∧ @LT.lt Nat _ c wl ∧ AllLt wl rest ∧ True ∧ longJ early te (253 + v) wl dk 0 m9 [(wl, listOf ([] : List Value).toArray 0)] := by
    have e0 : (if 255 ≤ ((0 : Nat) : Int) + early then (10 : Int) else 9) = 9 := if_neg (by omega)
    rename _ ∧ _ ∧ AllLt _ rest => q2
    refine' ⟨_, _, News.sub (news' := [(_, listOf ([] : List Value).toArray 0)] ++ (dk, dO2) :: (c, listOf vs.toArray k) :: rest) N4 (by walk_at "my sub"), F4, q2.1, q2.2.1, q2.2.2, trivial, [], 0, _, _, _, ?_, ?_, ?_, ?_, ?_, rfl, .nil⟩
    all_goals first | (rw [e0]; walk_at "my look") | (show (_ : Option Value) = some _; walk_at "my look") | skip
  clear N4 F4
  refine for_range (n := nn) rfl hR rfl rfl (by omega) ((dk, dO2) :: (c, listOf vs.toArray k) :: rest) [(wl, listOf ([] : List Value).toArray 0)] (longJ early te (253 + v) wl dk) ?hJ ?turn ?done F5 N5 j9
  case hJ => rintro i m news ⟨_, _, _, _, _, _, _, _, _, _, rfl, _⟩; rfl
  case turn =>
    intro i tv m' _ I oI h3 tk3 hi hlt hP0 F6 N6
    (try ((with_reducible refine foldC ?_); intro QT))
    refine hideGoal fun G hG => ?_
    obtain ⟨us, kk, tw, tn, tm, f1, f2, f3, f4, f5, rfl, hus⟩ := hP0
    refine hG ?_
    clear hG G
    replace N6 : News gF LF h3 ((wl, listOf us.toArray kk) :: (I, oI) :: (dk, dO2) :: (c, listOf vs.toArray k) :: rest) := N6
    have hwI := hlt _ (.head _)
    have hul := IntsAre.length hus
    rw [show (longW early i).length = i by simp [longW]] at hul
    walk_at "c steps"
    all_goals
      have hnum : (258 + ((i - 1 : Nat) : Int) + if decide (0 < (i : Int)) = true then 1 else 0) = 258 + ((i + 1 - 1 : Nat) : Int) := num_up
      rename Fr gF LF _ _ => F7
      rename News gF LF _ _ => N7
      simp only [hnum] at F7
      rw [List.push_toArray] at N7
      have hus2 := ints_snoc (n := if 255 ≤ (i : Int) + early then 10 else 9) (t := tw) hus
      have ew : longW early i ++ [if 255 ≤ (i : Int) + early then 10 else 9] = longW early (i + 1) := by unfold longW; rw [List.range_succ, List.map_append]; rfl
      rw [ew] at hus2
    · rename 512 ≤ _ => ha5
      rw [hnum] at ha5
      have e1 : (if 255 ≤ ((i + 1 : Nat) : Int) + early then (10 : Int) else 9) = 10 := if_pos (wide_up ha5)
      refine' ⟨_, _, _, [(wl, _)], rfl, F7, N7, _, _, _, _, _, ?_, ?_, ?_, ?_, ?_, rfl, hus2⟩
      all_goals first | (rw [e1]; walk_at "my look") | (show (_ : Option Value) = some _; walk_at "my look") | skip
    · rename ¬ 512 ≤ _ => ha5
      rw [hnum] at ha5
      have e1 : (if 255 ≤ ((i + 1 : Nat) : Int) + early then (10 : Int) else 9) = (if 255 ≤ (i : Int) + early then (10 : Int) else 9) := by rw [if_neg (wide_no ha5), if_neg (wide_no' ha5)]
      refine' ⟨_, _, _, [(wl, _)], rfl, F7, N7, _, _, _, _, _, ?_, ?_, ?_, ?_, ?_, rfl, hus2⟩
      all_goals first | (rw [e1]; walk_at "my look") | (show (_ : Option Value) = some _; walk_at "my look") | skip
  case done =>
    intro m' _ h3 tk3 hP0 F6 N6
    refine hideGoal fun G hG => ?_
    obtain ⟨us, kk, tw, tn, tm, f1, f2, f3, f4, f5, rfl, hus⟩ := hP0
    refine hG ?_
    clear hG G
    replace N6 : News gF LF h3 ((wl, listOf us.toArray kk) :: (dk, dO2) :: (c, listOf vs.toArray k) :: rest) := N6
    walk_at "c steps"
    refine StopAt.mk ?_
    obtain ⟨nv, hnv⟩ : ∃ nv : Nat, 253 + v = (nv : Int) := ⟨_, (Int.toNat_of_nonneg (by omega)).symm⟩
    rename IntsAre _ (_ ++ _) => hIc
    rename Fr gF LF _ _ => F8
    rename News gF LF _ _ => N8
    obtain rfl : nn = nv + 1 := by omega
    have eL : (List.replicate (253 + v).toNat [(65 : Int)]).flatten = List.replicate nv 65 := by rw [hnv, Int.toNat_natCast]; simp
    rw [eL] at hIc
    refine' CallC.at (packed_ok w loose mean mg mb _ wl _ us (List.replicate nv 65 ++ [257]) (longW early (nv + 1)) _ kk _ hIc hus (by simp; omega) (by simp [longW]; omega) longW_le (by intro x hx; simp at hx; rcases hx with ⟨_, rfl⟩ | rfl <;> decide) ?m1 ?m2) BF F8 XF N8 TF rfl (by omega) (by omega) ?ret ?exc
    case m1 => exact .head _
    case m2 => k_mem
    case exc => exact fun _ _ _ _ _ _ _ _ f => f.elim
    case ret =>
      intro r n' h5 tk5 F5' N5' hP0
      refine hideGoal fun G hG => ?_
      obtain ⟨tk, rfl, rfl⟩ := hP0
      refine hG ?_
      clear hG G
      clear F8 N8
      walk_at "c steps"
      refine StopAt.mk ?_
      refine' CallC.at (ltoldS_ok w loose mean mg mb early (longB early nv) (List.replicate nv 65) _ te _ he (long_len he (by omega) (by omega)) (long_all he (by omega) (by omega))) BF F5' XF N5' TF rfl (by omega) (by omega) ?ret ?exc
      case exc => exact fun _ _ _ _ _ _ _ _ f => f.elim
      case ret =>
        intro r n' h6 tk6 F6' N6' hP0
        refine hideGoal fun G hG => ?_
        obtain ⟨tk2, rfl, rfl⟩ := hP0
        refine hG ?_
        clear hG G
        walk_at "c steps"
        (rename News h₀ _ _ _ => N9)
        (rename Fr h₀ _ _ _ => F9)
        have eB : (List.replicate (253 + v).toNat [(65 : UInt8)]).flatten = List.replicate nv 65 := by rw [hnv, Int.toNat_natCast]; simp
        rw [eB, beq_self_eq_true]
        exact hret _ _ _ _ F9 N9 rfl
theorem reg_PPieces : True := by
  k_with_none
  (k_with "L om" => first | with_reducible assumption | (with_reducible refine Ne.symm ?_; assumption) | ((with_reducible refine low1 (by assumption) ?_); exact rfl) | ((with_reducible refine low2 (by assumption) ?_); exact rfl) | ((with_reducible refine low7 (by assumption) ?_); exact rfl) | with_reducible exact low8 (by assumption) | ((with_reducible refine low3 (by assumption) ?_); exact rfl) | ((with_reducible refine low4 (by assumption) ?_); exact rfl) | with_reducible exact low5 (by assumption) | with_reducible exact low6 (by assumption) | with_reducible exact And.left (by assumption) | with_reducible exact And.right (by assumption) | with_reducible exact And.intro (by assumption) (by assumption) | ((with_reducible refine low9 (by assumption) ?_); exact rfl) | ((with_reducible refine low10 (by assumption) ?_); exact rfl) | ((with_reducible refine low12 (by assumption) ?_); exact rfl) | with_reducible exact Nat.le_succ_of_le (by assumption) | with_reducible exact Nat.add_le_add (by assumption) (Nat.min_le_left _ _) | ((with_reducible refine low16 (by assumption) (by assumption) ?_); exact rfl) | with_reducible exact low17 (by assumption) (by assumption) | with_reducible exact low18 (by assumption) | with_reducible exact low19 (by assumption) (by assumption) | with_reducible exact low20 (by assumption) | with_reducible exact And.intro (Int.emod_nonneg _ (by decide)) (Int.emod_lt_of_pos _ (by decide)) | ((with_reducible refine low21 (by assumption) ?_); exact rfl) | ((with_reducible refine low22 (by assumption) ?_); exact rfl) | with_reducible exact low6 (And.left (by assumption)) | with_reducible exact low6 (And.left (And.right (by assumption))) | with_reducible exact low6 (And.left (And.right (And.right (by assumption)))) | with_reducible exact low6 (And.left (And.right (And.right (And.right (by assumption))))) | with_reducible exact low6 (And.right (by assumption)) | lia | with_reducible contradiction)
  (k_with "L my putL" => first | with_reducible exact putL_d4 | with_reducible exact putL_d5 | with_reducible exact putL_d6 | with_reducible exact putL_d7 | with_reducible exact putL_d8 | with_reducible exact putL_d2 | with_reducible exact putL_d3 | (refine' putL_hd ?xZ; (case xZ => decide +kernel)) | (refine' putL_tl ?xZ ?yZ; (case xZ => decide +kernel); (case yZ => k_extra "L my putL")))
  (k_with "L my putN" => first | with_reducible exact putN_d4 | with_reducible exact putN_d5 | with_reducible exact putN_d6 | with_reducible exact putN_d7 | with_reducible exact putN_d8 | with_reducible exact putN_d2 | with_reducible exact putN_d3 | (refine' putN_hd ?xZ; (case xZ => decide +kernel)) | (refine' putN_tl ?xZ ?yZ; (case xZ => decide +kernel); (case yZ => k_extra "L my putN")))
  (k_with "L all" => first | assumption | exact allLt_ne (by assumption) | exact allLt_ne (And.right (by assumption)) | exact allLt_ne (And.right (And.right (by assumption))) | exact allLt_ne (And.right (And.right (And.right (by assumption)))))
  (k_with "L room" => ((try simp only [depth_under_make, depth_under_kw, depth_in1, depth_deeper, depth_caller]); (try dsimp only [ktrTop]); omega))
  (k_with "L execs cons" => (refine r_consL ?_; intro _))
  (k_with "L execs nil" => refine wpAny_execs_nil ?_)
  (k_with "L exec If" => refine wpAny_If ?_)
  (k_with "L eval Constant int" => refine r_int ?_)
  (k_with "L eval Constant bytes" => refine r_bytes ?_)
  (k_with "L eval Constant str" => refine r_str ?_)
  (k_with "L binaryOp Add int int" => refine r_add ?_)
  (k_with "L binaryOp Sub int int" => refine r_sub ?_)
  (k_with "L binaryOp BitAnd int int" => refine r_and ?_)
  (k_with "L binaryOp BitOr int int" => refine r_or ?_)
  (k_with "L binaryOp RShift int int" => (refine' r_shr ?aZ ?_; (case aZ => omega)))
  (k_with "L binaryOp Mod int int" => (refine' r_mod ?aZ ?_; (case aZ => omega)))
  (k_with "L binaryOp LShift int int" => first | with_reducible refine r_shl09 ?_ | with_reducible refine r_shl10 ?_ | with_reducible refine r_shl12 ?_ | with_reducible refine r_shl28 ?_ | (refine' r_shl ?aZ ?bZ ?cZ ?_; (case aZ | bZ | cZ => omega)))
  (k_with "L call builtin:len" => ( (with_reducible show wpAny _ _ (call (Value.builtin "len") [Value.ref _]) _ _ _); refine' r_len ?NZ ?mZ ?zZ ?_; (case NZ => k_asm); (case mZ => k_mem); (case zZ => first | omega | (simp only [List.size_toArray, Array.size_push] at *; omega))))
  (k_with "L getAttr ref" => (k_here; k_dflt ( refine' r_getattr ?k1Z ?k2Z ?k3Z ?k4Z ?k5Z ?k6Z ?k7Z ?k8Z ?k9Z ?_; (case k1Z | k2Z => k_asm); (case k3Z => k_inst); (case k4Z | k5Z | k6Z | k7Z => k_is); (case k8Z => k_get); (case k9Z => k_handed); k_whole)))
  (k_with "L setAttr ref" => (k_here; k_dflt (first | (refine' r_setattr ?k1Z ?k2Z ?k3Z ?k4Z ?k5Z ?k6Z ?k7Z ?k8Z ?k9Z ?k10Z ?k11Z ?k11bZ ?k12Z ?k13Z ?_; (case k1Z | k2Z | k3Z => k_asm); (case k4Z => k_inst); (case k5Z => exact rfl); (case k6Z | k7Z | k8Z | k9Z => k_is); (case k10Z => k_get); (case k11Z => (intro _; k_extra "L my putL")); (case k11bZ => k_extra "L my putN"); (case k12Z => k_upd); (case k13Z => exact Nat.le_of_ble_eq_true rfl); k_whole; intro _ _ _ _; (try k_sweep)) | (refine' r_newattr ?k1Z ?k2Z ?k3Z ?k4Z ?k5Z ?k6Z ?k7Z ?k8Z ?k9Z ?k10Z ?k11Z ?k12Z ?k13Z ?_; (case k1Z | k2Z | k3Z => k_asm); (case k4Z => k_inst); (case k5Z => exact rfl); (case k6Z | k7Z | k8Z | k9Z => k_is); (case k10Z => k_get); (case k11Z => exact rfl); (case k12Z => exact Nat.le_of_ble_eq_true rfl); (case k13Z => k_updF); k_whole; intro _ _ _ _ _ N'; (dsimp only [List.cons_append, List.nil_append] at N'); (try (revert N'; intro _)); (try k_sweep)))))
  (k_with "L storeName" => (k_here; k_dflt ( refine' r_store ?k1Z ?k2Z ?k3Z ?k4Z ?_; (case k1Z | k2Z => k_asm); (case k3Z | k4Z => rfl); k_whole; intro _ _ _ _; (try k_sweep))))
  (k_with "L newList" => (k_here; k_dflt (refine' r_newList ?k1Z ?k2Z ?k3Z ?_; (case k1Z | k2Z => k_asm); (case k3Z => exact Nat.le_of_ble_eq_true rfl); k_whole); intro _ _ _ _ l1; (try k_lt l1); (try (revert l1; intro _)); (try k_sweep)))
  (k_with "L call builtin:list.append" => (k_here; (with_reducible show wpAny _ _ (call (Value.builtin _) [Value.ref _, _]) _ _ _); k_dflt (refine' r_append ?k1Z ?k2Z ?k3Z ?zZ ?_; (case k1Z | k2Z => k_asm); (case k3Z => k_upd); (case zZ => first | omega | (simp only [List.size_toArray, Array.size_push] at *; omega)); k_whole); intro _ _ _; (try k_sweep)))
  (k_with "L my enter" => (refine' r_enter ?k1Z ?k2Z ?k3Z ?k4Z ?k5Z ?kAZ ?kFZ ?kKZ ?k6Z ?k7Z ?k8Z ?k9Z ?kBZ ?_ ?c2Z ?c3Z ?c4Z ?c5Z; (case kAZ | kFZ => exact rfl); (case kKZ => first | assumption | exact rfl); (case k1Z | k2Z | k3Z | k4Z | k5Z => k_asm); (case k6Z | k7Z => k_is); (case k8Z => k_room); (case k9Z => first | exact BindsTo.of_eq rfl | exact binds_K (by k_in) rfl (by k_is) rfl rfl rfl); (case c5Z => decide); (case kBZ => exact locs rfl); (case c2Z | c3Z | c4Z => exact rfl); k_whole; intro _ _ _ _ _ _ _ _ _ _; (try dsimp only); (try k_fold)))
  (k_with "L my class" => (refine' call_cls ?k1Z ?k2Z ?k3Z ?k4Z ?k5Z ?k6Z ?_; (case k1Z | k2Z | k3Z => k_asm); (case k4Z | k5Z | k6Z => k_is); k_whole; intro _ _ _ _ _ l1 l2; (try k_lt l1); (try (revert l1; intro _)); (try k_lt2 l2); (try (revert l2; intro _)); (try k_sweep); k_extra "L my enter"))
  (k_with "L call ref" => (k_here; k_dflt (first | k_extra "L my class" | (refine wpAny_call ?_; k_extra "L my enter"))))
  (k_with "L my sub" => first | exact mem_all | (refine List.forall_mem_cons.mpr ⟨?_, ?_⟩; (k_mem); k_extra "L my sub") | exact List.forall_mem_nil _ | (refine mem_step ?_; k_extra "L my sub"))
  (k_with "L my blen" => first | k_extra "L om" | exact Nat.zero_le _ | ((simp only [List.length_append, List.length_cons, List.length_nil, List.length_take, List.length_drop]); omega) | omega | exact Nat.le_trans (cut_length _ _ _) (by omega) | (simp only [List.length_append, List.length_cons, List.length_nil, List.length_take, List.length_drop]; omega))
  (k_with "L binaryOp Add bytes bytes" => (refine' r_badd ?zZ ?z2Z ?_; (case zZ | z2Z => k_extra "L my blen"); intro _ _))
  (k_with "L compareOp Eq bytes bytes" => refine r_beq ?_)
  (k_with "L subscriptTail" => (k_here; (with_reducible show wpAny _ _ (subscriptTail _ (Expr.Slice _ _ none _) (Value.bytes _ _) (Value.ref _)) _ _ _); k_dflt (refine' r_slice ?FZ ?NZ ?lZ ?uZ ?zZ ?_ ?sZ ?tZ; (case FZ | NZ => k_asm); (case lZ | uZ => constructor); (case zZ => omega); (case sZ => with_unfolding_all rfl); (case tZ => intro _; with_unfolding_all rfl)); intro _ _ _ _ _; (try k_sweep)))
  (k_with "L subscriptTail" => (k_here; (with_reducible show wpAny _ _ (subscriptTail _ _ (Value.ref _) (Value.int _ _)) _ _ _); k_dflt (refine' r_item ?NZ ?mZ ?aZ ?bZ ?xZ ?_ ?sZ ?tZ; (case NZ => k_asm); (case mZ => k_mem); (case aZ | bZ => omega); (case xZ => first | assumption | rfl); (case sZ => with_unfolding_all rfl); (case tZ => intro _; with_unfolding_all rfl))))
  (k_with "L my ev" => first | ((with_reducible show Ev _ _ _ _ _ _ _ (Expr.Constant _ _ _) _ _ _); first | exact ev_int | (intro _ _ Hx; walk1; with_reducible exact Hx)) | ((with_reducible show Ev _ _ _ _ _ _ _ (Expr.Name _ _) _ _ _); first | (refine' ev_L ?FZ ?vZ ?aZ ?bZ ?dZ; (case FZ => k_asm); (case aZ | bZ => rfl); (case dZ => decide); (case vZ => rfl)) | (intro _ _ Hx; walk1; with_reducible exact Hx)) | ((with_reducible show Ev _ _ _ _ _ _ _ (Expr.Attribute _ _ _) _ _ _); refine' ev_attr ?k1Z ?k2Z ?vZ ?k3Z ?k4Z ?k5Z ?k6Z ?k7Z ?k8Z ?k9Z ?aZ ?bZ ?dZ; (case k1Z | k2Z => k_asm); (case aZ | bZ => rfl); (case dZ => decide); (case vZ => rfl); (case k3Z => k_inst); (case k4Z | k5Z | k6Z | k7Z => k_is); (case k8Z => k_get); (case k9Z => k_handed)) | ((with_reducible show Ev _ _ _ _ _ _ _ (Expr.BinOp _ _ _ _) _ _ _); refine' ev_bin ?lZ ?rZ ?oZ; (case lZ | rZ => k_extra "L my ev"); (case oZ => (intro _ _ Hx; walk1; with_reducible exact Hx))) | ((with_reducible show Ev _ _ _ _ _ _ _ (Expr.Call (Expr.Name (Str.ofString "len") _) [_] [] _) _ _ _); intro _ _ Hx; (repeat walk1); with_reducible exact Hx))
  (k_with "L eval BinOp" => (k_here; k_dflt (refine' ev_use ?hZ ?_; (case hZ => k_extra "L my ev"); k_whole)))
  (k_with "L eval Attribute Name" => (k_here; k_dflt (refine' ev_use ?hZ ?_; (case hZ => k_extra "L my ev"); k_whole)))
  (k_with "L isTrue Compare" => (k_here; k_dflt (refine' ev_isTrue ?lZ ?rZ ?oZ ?mZ ?_; (case lZ | rZ => k_extra "L my ev"); (case oZ => (intro _ _ Hx; walk1; with_reducible exact Hx)); (case mZ => with_unfolding_all rfl); k_whole)))
  (k_with "L call ref" => (k_here; (with_reducible show wpAny _ _ (call (Value.ref 45) _) _ _ _); refine' r_excMake ?k1Z ?k2Z ?k3Z ?k4Z ?k5Z ?k6Z ?k7Z ?_; (case k1Z | k2Z | k3Z => k_asm); (case k4Z => exact Nat.le_of_ble_eq_true rfl); (case k5Z => kernel_rfl); (case k6Z | k7Z => k_is); k_whole; intro _ _ _ _ _ l1; (try k_lt l1); (try (revert l1; intro _)); (try k_sweep); k_extra "L my enter"))
  (k_with "L setAttr ref" => (k_here; (with_reducible show wpAny _ _ (setAttr _ "told" (Value.bytes _ _)) _ _ _); refine' r_excSet ?k1Z ?k2Z ?k3Z ?k4Z ?_; (case k1Z | k2Z | k3Z => k_asm); (case k4Z => k_updF); k_whole; intro _ _ _ _ _ _ _ l1; (try k_lt l1); (try (revert l1; intro _)); (try k_sweep)))
  (k_with "L Inst45" => (k_here; k_dflt (refine' ⟨_, _, _, rfl, ?aZ, ?cZ, ?dZ, ?eZ, ?bZ, ?_⟩; (case aZ => exact (News.get (by k_asm) (by k_mem))); (case cZ | dZ | eZ => exact rfl); (case bZ => exact Frag.In.keeps (by k_asm) (Fr.keep (by k_asm))); k_whole)))
  (k_with "L exec Raise some none" => (k_here; k_dflt (refine' r_raise ?aZ ?_; (case aZ => rfl); k_whole)))
  (k_with "L my nes" => first | exact List.forall_mem_nil _ | k_all | (refine List.forall_mem_cons.mpr ⟨?_, ?_⟩; (show @Ne Nat _ _; omega); k_extra "L my nes"))
  (k_with "L leaving ref" => (k_here; (rename Gone _ _ _ _ _ => gX); (rename Heap.UpToSlots _ _ => uX); k_dflt (refine' leave_more ?KZ ?FZ ?fZ ?RZ ?UZ ?_; (case KZ => assumption); (case RZ => exact gX); (case UZ => exact uX); (case FZ => assumption); (case fZ => exact rfl); k_whole); (try clear gX uX); intro _ _ _))
  (k_with "L leaving ref" => (k_here; k_dflt (refine' leave_first ?KZ ?FZ ?fZ ?kZ ?NZ ?aZ ?bZ ?_; (case KZ | FZ => assumption); (case fZ | kZ => exact rfl); (case NZ => assumption); (case aZ => k_extra "L my nes"); (case bZ => (show @Ne Nat _ _; omega)); k_whole); intro _ _ _))
  (k_with "L c enter" => (refine' c_enter ?k1Z ?k2Z ?k3Z ?k4Z ?k5Z ?kAZ ?kFZ ?kKZ ?k6Z ?k7Z ?k8Z ?k9Z ?kBZ ?_ ?c2Z ?c3Z ?c4Z ?c5Z; (case kAZ | kFZ => exact rfl); (case kKZ => first | assumption | exact rfl); (case k1Z | k2Z | k3Z | k4Z | k5Z => k_asm); (case k6Z | k7Z => k_is); (case k8Z => k_room); (case k9Z => first | exact BindsTo.of_eq rfl | exact binds_K (by k_in) rfl (by k_is) rfl rfl rfl); (case c5Z => decide); (case kBZ => exact locs rfl); (case c2Z | c3Z | c4Z => exact rfl); k_whole; intro _ _ _ _ _ _ _ _ _ _; (try dsimp only)))
  (k_with "L keep at" => first | ((with_reducible show KeepAt _ (Value.ref _) _); refine keep_ref (by k_in) (by k_is)) | exact keep_append | exact keep_extend | exact keep_bytearray | exact ⟨.machine, .inr (.inl rfl), Looks.of_pure (by kernel_rfl)⟩)
  (k_with "L c call" => ( (with_reducible show wpC _ _ (call (Value.builtin "bytearray.append") [Value.ref _, Value.int _ _]) _ _ _); k_dflt (refine' c_append ?k1Z ?k2Z ?k3Z ?k4Z ?k5Z ?zZ ?_; (case k1Z | k2Z => k_asm); (case k3Z => k_upd); (case k4Z | k5Z => omega); (case zZ => k_extra "L my blen"); k_whole); intro _ _ _; (try k_sweep)))
  (k_with "L c call" => ( (with_reducible show wpC _ _ (call (Value.builtin "bytearray.extend") [Value.ref _, Value.bytes _ _]) _ _ _); k_dflt (refine' c_extend ?k1Z ?k2Z ?k3Z ?zZ ?_; (case k1Z | k2Z => k_asm); (case k3Z => k_upd); (case zZ => k_extra "L my blen"); k_whole); intro _ _ _; (try k_sweep)))
  (k_with "L c call" => ( (with_reducible show wpC _ _ (call (Value.type "bytearray") []) _ _ _); k_dflt (refine' c_new ?k1Z ?k2Z ?_; (case k1Z | k2Z => k_asm); k_whole); intro _ _ _ _ l1; (try k_lt l1); (try (revert l1; intro _)); (try k_sweep)))
  (k_with "L getMethod ref" => (k_here; (with_reducible show wpAny _ _ (getMethod (Value.ref _) (PySem.Str.ofString "extend") _) _ _ _); k_dflt (refine' (meth_extend ?xZ).here ?_; (case xZ => exact (News.get (by k_asm) (by k_mem))); k_whole)))
  (k_with "L getMethod ref" => (k_here; (with_reducible show wpAny _ _ (getMethod (Value.ref _) (PySem.Str.ofString "append") _) _ _ _); k_dflt (refine' (meth_append ?xZ).here ?_; (case xZ => exact (News.get (by k_asm) (by k_mem))); k_whole)))
  (k_with "L harm" => fail "no harm")
  (k_with "L cw" => first | ((with_reducible refine c_consL ?_); intro _) | with_reducible refine c_nil ?_ | k_extra "L harm" | with_reducible refine c_If ?_ | ((with_reducible show wpC _ _ (isTrue (Expr.Compare (Expr.Call _ _ _ _) _ _ _) _ _) _ _ _); refine c_isTrue ?_) | with_reducible refine ofA_isTrue ?_ | ((with_reducible show wpC _ _ (exec (Stmt.Expr (Expr.Call _ _ _ _) _) _) _ _ _); refine c_Expr ?_) | with_reducible refine c_Assign ?_ | ((with_reducible show wpC _ _ (exec (Stmt.Assign [Expr.Attribute _ _ _] (Expr.Call _ _ _ _) _) _) _ _ _); refine c_AssignA ?_) | with_reducible refine c_Return ?_ | with_reducible refine ofA_exec ?_ | with_reducible refine c_Meth ?_ | with_reducible refine c_Call ?_ | ((with_reducible show wpC _ _ (eval (Expr.BinOp _ _ _ _) _) _ _ _); k_dflt (refine' ofA_eval (ev_use ?hZ ?_); (case hZ => k_extra "L my ev"); k_whole)) | with_reducible refine c_BinOp ?_ | with_reducible refine c_Compare ?_ | with_reducible refine c_And ?_ | with_reducible refine c_And1 ?_ | with_reducible refine ofA_eval ?_ | with_reducible refine c_args ?_ | with_reducible refine c_args0 ?_ | with_reducible refine c_with1 ?_ | ((with_reducible show wpC _ _ (callWith _ _ _ _ _) _ _ _); refine c_with0 (by k_extra "L keep at") ?_) | ((with_reducible show KeepAt _ _ _ ∧ _); refine ⟨by k_extra "L keep at", ?_⟩; (try dsimp only [List.cons_append, List.nil_append])) | k_extra "L c call" | with_reducible refine ofA_call ?_ | with_reducible refine c_ite1 (by assumption) ?_ | with_reducible refine c_ite0 (by assumption) ?_)
  (k_with "L c steps" => repeat' (first | ((with_reducible show wpAny _ _ _ _ _ _); walk1) | k_extra "L cw" | (k_unfold; (try dsimp only)) | ((show (_ : Flow → Shared → Prop) _ _); k_unfold; (try dsimp only)) | (k_end; wrow_close) | walk1 | (dsimp only; walk1) | (leave1; try dsimp only) | (dsimp only; k_extra "L cw") | fail "no step"))
  (k_with "L c call" => ( (with_reducible show wpC _ _ (call (Value.type "enumerate") [Value.bytes _ _]) _ _ _); k_dflt (refine' wpC_of_any (r_enumB ?k1Z ?k2Z ?_); (case k1Z | k2Z => k_asm); k_whole); intro _ _ _ _ _ l1 l2; (try k_lt l1); (try (revert l1; intro _)); (try k_lt2 l2); (try (revert l2; intro _)); (try k_sweep)))
  (k_with "L call type:bytes" => ((with_reducible show wpAny _ _ (call (Value.type "bytes") [Value.bytes _ _]) _ _ _); refine r_bytesB ?_))
  (k_with "L call type:bytes" => ((with_reducible show wpAny _ _ (call (Value.type "bytes") [Value.ref _]) _ _ _); k_dflt (refine' r_bytesBa ?aZ ?zZ ?_; (case aZ => exact (News.get (by k_asm) (by k_mem))); (case zZ => k_extra "L my blen"); k_whole); intro _ _))
  (k_with "L harm" => first | ((with_reducible show wpC _ _ (exec (Stmt.For _ _ _ [] _) _) _ _ _); refine c_For ?_) | ((with_reducible show wpC _ _ (pyIter _) _ _ _); refine wpC_of_any ?_))
  (k_with "L harm" => first | ((with_reducible show wpC _ _ (exec (Stmt.For _ _ _ [] _) _) _ _ _); refine c_For ?_) | ((with_reducible show wpC _ _ (exec (Stmt.While _ _ [] _) _) _ _ _); refine c_WhileR ?_) | ((with_reducible show codeC _ _ (Code.whileLoop _ _ [] _) _ _); refine codeC_while1 ?_) | ((with_reducible show LoopR _ _ _ _ _ _ _ _); dsimp only [LoopR]) | ((with_reducible show wpC _ _ (pyIter _) _ _ _); refine wpC_of_any ?_))
  (k_with "L harm" => ((with_reducible show wpC _ _ (exec (Stmt.Try _ (_ :: _) [] [] _) _) _ _ _); refine c_Try ?_))
  (k_with "L c enterC" => (refine' c_enterC ?k1Z ?k2Z ?k3Z ?k4Z ?k5Z ?kAZ ?kFZ ?kKZ ?k6Z ?k7Z ?k8Z ?k9Z ?kBZ ?_ ?c2Z ?c3Z ?c4Z ?c5Z; (case kAZ | kFZ => exact rfl); (case kKZ => first | assumption | exact rfl); (case k1Z | k2Z | k3Z | k4Z | k5Z => k_asm); (case k6Z | k7Z => k_is); (case k8Z => k_room); (case k9Z => first | exact BindsTo.of_eq rfl | exact binds_K (by k_in) rfl (by k_is) rfl rfl rfl); (case c5Z => decide); (case kBZ => exact locs rfl); (case c2Z | c3Z | c4Z => exact rfl); k_whole; intro _ _ _ _ _ _ _ _ _ _ _; (try dsimp only)))
  (k_with "L getAttr ref" => (k_here; (with_reducible show wpAny _ _ (getAttr (Value.ref _) (PySem.Str.ofString "told") _) _ _ _); refine' r_excGet ?k1Z ?k2Z ?k3Z ?k4Z ?k5Z ?k6Z ?k7Z ?_; (case k1Z | k2Z => k_asm); (case k3Z => exact (News.get (by k_asm) (by k_mem))); (case k4Z | k5Z | k6Z => assumption); (case k7Z => exact (News.get (by k_asm) (by k_mem))); k_whole; intro _))
  (k_with "L eval ListComp" => (refine StopAt.go ?_))
  (k_with "L my comp" => (refine StopAt.mk ?_; refine' r_compE (hs := ?hsZ) ?aZ ?bZ ?cZ ?_; (case hsZ => intro _; rfl); (case aZ | bZ => rfl); (case cZ => decide)))
  (k_with "L eval Name" => ((with_reducible show wpAny _ _ (eval (Expr.Name _ _) (compEnvC _ _ _ _)) _ _ _); first | (refine' r_cvar ?k1Z ?k2Z ?_; (case k1Z | k2Z => assumption)) | (refine' ldFreeK ?k1Z ?k2Z ?_; (case k1Z => rfl); (case k2Z => assumption)) | (refine' r_cG ?k1Z ?k2Z ?k3Z ?k4Z ?_; (case k1Z | k2Z | k3Z => k_asm); (case k4Z => k_is)) | (refine' r_cB ?k1Z ?k2Z ?k3Z ?k4Z ?k5Z ?k6Z ?_; (case k1Z | k2Z | k3Z => k_asm); (case k4Z => k_is); (case k5Z => boot_by_name); (case k6Z => decide))))
  (k_with "L call type:int" => ((with_reducible show wpAny _ _ (call (Value.type "int") [Value.int _ _]) _ _ _); refine call_int_int ?_))
  (k_with "L c enterX" => (refine' c_enterX ?k1Z ?k2Z ?k3Z ?k4Z ?k5Z ?kAZ ?kFZ ?kKZ ?k6Z ?k7Z ?k8Z ?k9Z ?kBZ ?kDZ ?_ ?c2Z ?c3Z ?c4Z; (case kAZ | kFZ => exact rfl); (case kKZ => first | assumption | exact rfl); (case k1Z | k2Z | k3Z | k4Z | k5Z => k_asm); (case k6Z | k7Z => k_is); (case k8Z => k_room); (case k9Z => first | exact BindsTo.of_eq rfl | exact binds_K (by k_in) rfl (by k_is) rfl rfl rfl); (case kBZ => exact rfl); (case kDZ => decide +kernel); (case c2Z | c3Z | c4Z => exact rfl); k_whole; intro _ _ _ _ _ _ _ N' Y' _ _ _ l1; (try k_lt l1); (try (revert l1; intro _)); k_cells Y'; (try simp only [List.cons_append, List.nil_append] at N'); (try (revert N'; intro _)); (try dsimp only)))
  (k_with "L c enterXC" => (refine' c_enterXC ?k1Z ?k2Z ?k3Z ?k4Z ?k5Z ?kAZ ?kFZ ?kKZ ?k6Z ?k7Z ?k8Z ?k9Z ?kBZ ?kDZ ?_ ?c2Z ?c3Z ?c4Z; (case kAZ | kFZ => exact rfl); (case kKZ => first | assumption | exact rfl); (case k1Z | k2Z | k3Z | k4Z | k5Z => k_asm); (case k6Z | k7Z => k_is); (case k8Z => k_room); (case k9Z => first | exact BindsTo.of_eq rfl | exact binds_K (by k_in) rfl (by k_is) rfl rfl rfl); (case kBZ => exact rfl); (case kDZ => decide +kernel); (case c2Z | c3Z | c4Z => exact rfl); k_whole; intro _ _ _ _ _ _ _ N' Y' _ _ _ l1 _; (try k_lt l1); (try (revert l1; intro _)); k_cells Y'; (try simp only [List.cons_append, List.nil_append] at N'); (try (revert N'; intro _)); (try dsimp only)))
  (k_with "L storeName" => (refine' r_storeC ?k1Z ?k2Z ?k3Z ?k4Z ?k5Z ?k6Z ?k7Z ?_; (case k6Z | k7Z => rfl); (case k1Z | k2Z => k_asm); (case k3Z => rfl); (case k4Z => k_updF); (case k5Z => assumption); intro _ _ _ N' _; (try dsimp only at N'); (try (revert N'; intro _))))
  (k_with "L eval Name" => (refine' r_nameC ?k1Z ?k2Z ?k3Z ?k4Z ?k5Z ?k6Z ?k7Z ?_; (case k5Z | k6Z => rfl); (case k7Z => decide); (case k1Z => k_asm); (case k2Z => rfl); (case k3Z => k_mem); (case k4Z => assumption)))
  (k_with "L binaryOp Pow int int" => (refine' r_powS ?aZ ?bZ ?cZ ?_; (case aZ | bZ => omega); (case cZ => decide)))
  (k_with "L binaryOp Mult int int" => (refine' r_mulR ?aZ ?_; (case aZ => first | assumption | decide | omega)))
  (k_with "L binaryOp FloorDiv int int" => (refine' r_fdivS ?aZ ?bZ ?_; (case aZ => first | assumption | exact pow256_ne _ | decide | omega); (case bZ => first | assumption | exact pow256_log (by omega) | decide)))
  (k_with "L call type:range" => ((with_reducible show wpAny _ _ (call (Value.type "range") [Value.int _ _]) _ _ _); refine' r_range ?k1Z ?k2Z ?_; (case k1Z | k2Z => k_asm); intro _ _ _ _ _ _ _ _ _ _ l1; (try k_lt l1); (try (revert l1; intro _))))
  (k_with "L call type:bytes" => ((with_reducible show wpAny _ _ (call (Value.type "bytes") [Value.ref _]) _ _ _); refine StopAt.go ?_))
  (k_with "L my look" => first | assumption | exact if_pos rfl | (refine Eq.trans (if_neg (by decide)) ?_; k_extra "L my look") | exact rfl)
  (k_with "L eval Name" => (k_here; k_dflt (refine' r_nameL ?k1Z ?k2Z ?k5Z ?k6Z ?k7Z ?_; (case k5Z | k6Z => rfl); (case k7Z => decide); (case k1Z => k_asm); (case k2Z => k_extra "L my look"); k_whole)))
  (k_with "L binaryOp Add ref ref" => (refine' r_listAdd ?k1Z ?k2Z ?k3Z ?k4Z ?k5Z ?_; (case k1Z | k2Z => k_asm); (case k3Z | k4Z => k_mem); (case k5Z => simp only [List.length_cons, List.length_nil]; omega); intro _ _ _ _ l1; (try k_lt l1); (try (revert l1; intro _))))
  (k_with "L harm" => ((with_reducible show codeC _ _ (Code.whileLoop _ _ [] _) _ _); refine StopAt.go ?_))
  (k_with "L compareOp In bytes ref" => (refine' r_inB ?k2Z ?k3Z ?k4Z ?_; (case k2Z => k_asm); (case k3Z => k_mem); (case k4Z => assumption)))
  (k_with "L call builtin:list.index" => (refine' r_indexB ?k2Z ?k3Z ?k4Z ?k5Z ?k6Z ?_; (case k2Z => k_asm); (case k3Z => k_mem); (case k4Z | k5Z => assumption); (case k6Z => omega); intro _ _))
  (k_with "L my ev" => ((with_reducible show Ev _ _ _ _ _ _ _ (Expr.Name _ _) _ _ _); refine' ev_L ?FZ ?vZ ?aZ ?bZ ?dZ; (case aZ | bZ => rfl); (case dZ => decide); (case FZ => k_asm); (case vZ => k_extra "L my look")))
  trivial
theorem reg_Pieces0 : True := by
  (k_with "L c call" => ((with_reducible show wpC _ _ (call (Value.ref _) _) _ _ _); refine goC ?_; intro _))
  (k_with "L call ref" => ((with_reducible show wpAny _ _ (call (Value.ref _) _) _ _ _); refine goA ?_; intro _))
  trivial
inductive drawJ (w : World) (dk c : Addr) (at' : Int) (below : Int) (i : Nat) (ys : List Value) (news : List (Addr × Obj)) : Prop
  | mk (dO ta) (h1 : news = [(dk, dO)]) (h2 : dO.IsDictOf (strKind PySem.Challenge.rw_nt0490_01.row.prog w) [(Str.ofString "cells", .ref c), (Str.ofString "at", .int (at' + (i : Nat)) ta)]) (zs) (h3 : IntsAre ys zs) (h4 : zs.length = i) (h5 : ∀ z ∈ zs, 0 ≤ z ∧ z < below)
noncomputable def pcs (a b c : List UInt8) : Nat → List UInt8 | 0 => [] | 1 => a | 2 => a ++ b | _ => a ++ b ++ c
noncomputable def pcAt (a b c : List UInt8) : Nat → List UInt8 | 0 => a | 1 => b | _ => c
theorem pcs_next {a b c : List UInt8} {i : Nat} (h : i < 3) : pcs a b c (i + 1) = pcs a b c i ++ pcAt a b c i := by
  obtain rfl | rfl | rfl : i = 0 ∨ i = 1 ∨ i = 2 := by omega
  · rfl
  · rfl
  · rfl
theorem pcs_full {a b c : List UInt8} {i : Nat} (h : i < 3) : ∃ r, pcs a b c i ++ pcAt a b c i ++ r = a ++ b ++ c := by
  obtain rfl | rfl | rfl : i = 0 ∨ i = 1 ∨ i = 2 := by omega
  · exact ⟨b ++ c, by simp [pcs, pcAt]⟩
  · exact ⟨c, by simp [pcs, pcAt]⟩
  · exact ⟨[], by simp [pcs, pcAt]⟩
theorem pcs_item {a b c : List UInt8} {i : Nat} {v : Value} {ta tb tc : Tok} (h : i < 3) (hv : (#[.bytes a.toArray ta, .bytes b.toArray tb, .bytes c.toArray tc] : Array Value)[i]? = some v) : ∃ t, v = .bytes (pcAt a b c i).toArray t := by
  obtain rfl | rfl | rfl : i = 0 ∨ i = 1 ∨ i = 2 := by omega
  · exact ⟨ta, (Option.some.inj hv).symm⟩
  · exact ⟨tb, (Option.some.inj hv).symm⟩
  · exact ⟨tc, (Option.some.inj hv).symm⟩
/-- what the pieces are to answer -/
def DueIs (early : Int) (octets behind : List UInt8) (due : Value) (rest : List (Addr × Obj)) : Prop :=
  (due = .none ∧ ∀ s, feedM early initF octets = some s → s.ds.isd = false) ∨
  (∃ D out s tk v, due = .ref D ∧ (D, ({ cls := .type "tuple", data := .seq #[.bytes out.toArray tk, v] } : Obj)) ∈ rest ∧ feedM early initF octets = some s ∧ s.ds.isd = true ∧ s.ds.found = out ∧ s.left = behind)
theorem cut_three (o : List UInt8) {a b : Int} (h0 : 0 ≤ a) (h1 : a ≤ b) : cut none (some a) o ++ cut (some a) (some b) o ++ cut (some b) none o = o := by
  obtain ⟨n, rfl⟩ : ∃ n : Nat, a = n := ⟨_, (Int.toNat_of_nonneg h0).symm⟩
  obtain ⟨k, rfl⟩ : ∃ n : Nat, b = n := ⟨_, (Int.toNat_of_nonneg (by omega)).symm⟩
  rw [cut_to, cut_both, cut_from]
  have e : o.drop k = (o.drop n).drop (k - n) := by rw [List.drop_drop]; congr 1; omega
  rw [e, List.append_assoc, List.take_append_drop, List.take_append_drop]
theorem pieces_ok (w : World) (loose : List Str) (mean : ExcName → Option Value) (mg mb : Str → Option Value)
    (dk c : Addr) (dO : Obj) (k : Nat) (vs : List Value) (ns : List Int) (at' early : Int) (ta te tko tb : Tok) (octets behind : List UInt8) (due : Value) (rest : List (Addr × Obj))
    (hdO : dO.IsDictOf (strKind PySem.Challenge.rw_nt0490_01.row.prog w) [(Str.ofString "cells", .ref c), (Str.ofString "at", .int at' ta)])
    (hdc : @Ne Nat dk c) (hrd : ∀ p ∈ rest, p.1 ≠ dk) (hI : IntsAre vs ns) (hz : vs.length ≤ 60) (ha : 0 ≤ at' ∧ at' ≤ 900) (he : 0 ≤ early ∧ early ≤ 1) (hk : octets.length ≤ 300) (hk2 : behind.length ≤ 300)
    (hdue : DueIs early octets behind due rest) :
    CallT w loose mean mg mb 30 (.ref 246) [.ref dk, .bytes octets.toArray tko, .int early te, due, .bytes behind.toArray tb] ((dk, dO) :: (c, listOf vs.toArray k) :: rest)
      (fun r news' => r = .bool true) := by
  unfold CallT
  intro dp un gd cn cs a ccd cl A₀ h₀ L m s Q E
  k_fill
  obtain ⟨hp', gn, dr, tk0, os⟩ := s
  intro B F X N T hkk hd hu hret
  refine wpC_call ?_
  k_dflt (walk_at "c enterXC")
  rename_i gF LF hF0 tF FGF FF BF XF TF SF lF oE oD dE dD NF
  have c3 : LF + 1 < LF + 1 + 1 := Nat.lt_succ_self _
  have d1 : oE.data = .cell (some (.bytes octets.toArray tko)) := dE
  have d2 : oD.data = .cell (some (.ref dk)) := dD
  clear dE dD
  walk_at "c steps"
  refine StopAt.mk ?_
  refine' CallOk.atX (mk1_ok w loose mean mg mb early te _) BF (by assumption) XF (by assumption) TF rfl (by omega) (by omega) ?_
  intro r n' h2 tk2 F2 N2 hP0
  refine hideGoal fun G hG => ?_
  obtain ⟨x, d, t, nd, kt, kh, tm, tl, tb2, tn, tw, rfl, l1, l2, l3, rfl⟩ := hP0
  refine hG ?_
  clear hG G
  obtain ⟨od, hod⟩ : ∃ od, od = dictOf (decEs kh (.int early te) (.int 12 tm) (.bool false) (.bytes #[] tl) (.int 0 tb2) (.int 0 tn) (.int 9 tw) (.ref t) .none) nd := ⟨_, rfl⟩
  rw [← hod] at N2
  walk_at "c steps"
  walk_at "my comp"
  walk_at "c steps"
  refine StopAt.mk ?_
  rename IsRange _ _ _ _ _ _ _ _ => hR
  rename Fr gF LF _ _ => F4
  rename News gF LF _ _ => N4
  have lN := l1 _ (.tail _ (.tail _ (.head _)))
  refine comp_rangeN (n := 2) rfl hR (by decide) rfl rfl ((x, instObj 121 d) :: (d, od) :: (t, listOf #[] kt) :: (LF + 1 + 1, oE) :: (LF + 1, oD) :: (c, listOf vs.toArray k) :: rest) [(dk, dO)] F4 (News.sub (news' := [(dk, dO)] ++ (x, instObj 121 d) :: (d, od) :: (t, listOf #[] kt) :: (LF + 1 + 1, oE) :: (LF + 1, oD) :: (c, listOf vs.toArray k) :: rest) N4 ?sub) (drawJ w dk c at' (octets.length + 1)) (fun i ys news j => by obtain ⟨_, _, rfl, _⟩ := j; rfl) ⟨dO, ta, rfl, by simpa using hdO, [], .nil, rfl, by simp⟩ (by omega) ?turn ?H
  case sub => exact sub_one (by walk_at "my sub")
  case turn =>
    intro i tv ys _ I oI' C D' cO mc h6 tk6 k6 hi hP0 hlen hIl hf hC hmc F6 N6
    (try ((with_reducible refine foldC ?_); intro QT))
    refine hideGoal fun G hG => ?_
    obtain ⟨dO2, ta2, rfl, hdO2, zs, hys, hzl, hzs⟩ := hP0
    refine hG ?_
    clear hG G
    replace N6 : News gF LF h6 ((dk, dO2) :: (I, oI') :: (D', listOf ys.toArray k6) :: (C, cO) :: (x, instObj 121 d) :: (d, od) :: (t, listOf #[] kt) :: (LF + 1 + 1, oE) :: (LF + 1, oD) :: (c, listOf vs.toArray k) :: rest) := N6
    have cD : h6.IsCell (LF + 1) (some (.ref dk)) := ⟨_, (N6 (LF + 1, oD) (by k_mem)).1, d2⟩
    have cE : h6.IsCell (LF + 1 + 1) (some (.bytes octets.toArray tko)) := ⟨_, (N6 (LF + 1 + 1, oE) (by k_mem)).1, d1⟩
    k_steps
    refine StopAt.mk ?_
    have hsz : (octets.toArray.size : Int) = octets.length := by simp
    have hk0 : (dk, dO).1 < LF := (by assumption : _ ∧ _).1
    refine CallOk.atX (draw_ok w loose mean mg mb dk c dO2 k vs ns (at' + (i : Nat)) (octets.toArray.size + 1) ta2 _ ((I, oI') :: (D', listOf ys.toArray k6) :: (C, cO) :: (x, instObj 121 d) :: (d, od) :: (t, listOf #[] kt) :: (LF + 1 + 1, oE) :: (LF + 1, oD) :: rest) hdO2 hdc ?hrd hI hz (by omega) (by omega)) BF F6 XF (News.sub N6 ?sub) TF rfl (by omega) (by omega) ?_
    case hrd =>
      refine all_cons (fun e => hIl (dk, dO) (.head _) e.symm) (all_cons (fun e => (hf (dk, dO) (.head _)).1 e.symm) (all_cons (fun e => (hf (dk, dO) (.head _)).2 e.symm) (all_cons ?_ (all_cons ?_ (all_cons ?_ (all_cons ?_ (all_cons ?_ hrd)))))))
      · exact Nat.ne_of_gt (Nat.lt_trans lN l2)
      · exact Nat.ne_of_gt lN
      · exact Nat.ne_of_gt (Nat.lt_trans (Nat.lt_trans lN l2) l3)
      · exact Nat.ne_of_gt (Nat.lt_succ_of_lt (Nat.lt_succ_of_lt hk0))
      · exact Nat.ne_of_gt (Nat.lt_succ_of_lt hk0)
    case sub => walk_at "my sub"
    intro r n' h7 tk7 F7 N7 hP0
    refine hideGoal fun G hG => ?_
    obtain ⟨⟨v, tv2, hv0, hv1, rfl⟩, ta3, dO3, hdO3, rfl⟩ := hP0
    refine hG ?_
    clear hG G
    refine StopAt.mk ⟨_, _, [(dk, dO3)], rfl, F7, News.sub N7 ?_, dO3, ta3, rfl, ?_, zs ++ [v], ints_snoc hys, by rw [List.length_append, hzl]; rfl, ?_⟩
    · exact sub_one (by walk_at "my sub")
    · rw [show at' + ((i + 1 : Nat) : Int) = at' + (i : Nat) + 1 by omega]; exact hdO3
    · intro z hz
      rcases List.mem_append.mp hz with hz | hz
      · exact hzs z hz
      · rw [List.mem_singleton.mp hz]; omega
  case H =>
    intro D2 h7 tk7 ys _ k7 hP0 hlen hlt F7 N7
    refine hideGoal fun G hG => ?_
    obtain ⟨dO2, ta2, rfl, hdO2, zs, hys, hzl, hzs⟩ := hP0
    refine hG ?_
    clear hG G
    replace N7 : News gF LF h7 ((D2, listOf ys.toArray k7) :: (dk, dO2) :: (x, instObj 121 d) :: (d, od) :: (t, listOf #[] kt) :: (LF + 1 + 1, oE) :: (LF + 1, oD) :: (c, listOf vs.toArray k) :: rest) := N7
    walk_at "c steps"
    rename Fr gF LF _ _ => F8
    rename News gF LF _ _ => N8
    rename List Int => cs9
    rename (List.getD cs9 (Int.toNat 0) 0 ≤ List.getD cs9 (Int.toNat 1) 0) => hc01
    rename (0 < zs.length → _ ∧ _) => hc0
    have hc00 : 0 ≤ cs9.getD (Int.toNat 0) 0 := (hzs _ (hc0 (by omega)).1).1
    have h3 := cut_three octets hc00 hc01
    generalize cs9.getD (Int.toNat 0) 0 = c0 at N8 hc00 hc01 h3
    generalize cs9.getD (Int.toNat 1) 0 = c1 at N8 hc01 h3
    clear hc0
    generalize cut none (some c0) octets = p0 at N8 h3
    generalize cut (some c0) (some c1) octets = p1 at N8 h3
    generalize cut (some c1) none octets = p2 at N8 h3
    rename x < _ ∧ d < _ ∧ t < _ ∧ _ => lts
    have hxd : @Ne Nat x d := Nat.ne_of_gt l2
    have hxt : @Ne Nat x t := Nat.ne_of_lt l3
    have hdt : @Ne Nat d t := Nat.ne_of_lt (Nat.lt_trans l2 l3)
    rename_i D3 _ lD3
    obtain ⟨u0, u1, u2, N9⟩ : ∃ u0 u1 u2, News gF LF _ ([(x, instObj 121 d), (d, od), (t, listOf #[] kt)] ++ ((D3, ({ cls := .type "tuple", data := .seq #[.bytes p0.toArray u0, .bytes p1.toArray u1, .bytes p2.toArray u2] } : Obj)) :: rest)) := ⟨_, _, _, News.sub N8 (by walk_at "my sub")⟩
    have hA0 : Ap3 x d t ((D3, ({ cls := .type "tuple", data := .seq #[.bytes p0.toArray u0, .bytes p1.toArray u1, .bytes p2.toArray u2] } : Obj)) :: rest) := by
      have hlr : ∀ p ∈ rest, @LT.lt Nat _ p.1 d := fun p hp => l1 p (.tail _ (.tail _ (.tail _ (.tail _ hp))))
      exact Ap3.cons ⟨hxd, hxt, hdt, fun p hp => Nat.ne_of_lt (Nat.lt_trans (hlr p hp) l2), fun p hp => Nat.ne_of_lt (hlr p hp), fun p hp => Nat.ne_of_lt (Nat.lt_trans (Nat.lt_trans (hlr p hp) l2) l3)⟩ ⟨Nat.ne_of_lt lD3.2.2.2.2.1, Nat.ne_of_lt lD3.2.2.2.2.2.1, Nat.ne_of_lt lD3.2.2.2.2.2.2.1⟩
    clear N8
    generalize hT3 : ({ cls := .type "tuple", data := .seq #[.bytes p0.toArray u0, .bytes p1.toArray u1, .bytes p2.toArray u2] } : Obj) = oT at N9 hA0
    refine for_tuple (items := #[.bytes p0.toArray u0, .bytes p1.toArray u1, .bytes p2.toArray u2]) rfl rfl rfl ((D3, oT) :: rest) [(x, instObj 121 d), (d, od), (t, listOf #[] kt)] (.head _) (by rw [← hT3]) (by rw [← hT3]) (pieceJ early x d due behind tb ((D3, oT) :: rest) (pcs p0 p1 p2)) ?hJ ?turn ?done F8 N9 ?start
    case hJ => rintro I i m news ⟨_, _, _, _, _, _, _, _, j⟩; exact j.keys
    case start =>
      intro I hI
      refine' ⟨initF, [], _, ?_, ?_, ?_, ?_, rfl, t, nd, kt, kh, te, tm, tw, 0, tl, tb2, tn, #[], BA.nil, hA0, ⟨Nat.ne_of_lt (hI _ (.head _)), Nat.ne_of_lt (hI _ (.tail _ (.head _))), Nat.ne_of_lt (hI _ (.tail _ (.tail _ (.head _))))⟩, by rw [hod]; rfl⟩
      all_goals first | (show (_ : Option Value) = some _; walk_at "my look") | skip
    case turn =>
      clear F8 N9 hA0
      intro i v m' _ I oI h5 tk5 hi hltI hv hP0 F5 N5
      (try ((with_reducible refine foldC ?_); intro QT))
      refine hideGoal fun G hG => ?_
      obtain ⟨⟨⟨tab, last, width, isd, found⟩, left, bits, many⟩, F, tF, f1, f2, f3, f4, hfe, t', n', k', kh', te', tm', tw', tl', tf', tb', tn', its', hba, hA, hI, rfl⟩ := hP0
      refine hG ?_
      clear hG G
      dsimp only at hfe hba
      have hi3 : i < 3 := hi
      obtain ⟨tv, rfl⟩ := pcs_item hi3 hv
      have hn := pcs_next (a := p0) (b := p1) (c := p2) hi3
      obtain ⟨pr, hpr⟩ := pcs_full (a := p0) (b := p1) (c := p2) hi3
      rw [h3] at hpr
      generalize pcAt p0 p1 p2 i = pc at F5 hn hpr
      have z := feedZ hfe
      have hlen3 : (pcs p0 p1 p2 i).length + pc.length ≤ octets.length := by rw [← hpr, List.length_append, List.length_append]; omega
      replace N5 : News gF LF h5 ((x, instObj 121 d) :: (d, dictOf (decEs kh' (.int early te') (.int 12 tm') (.bool isd) (.bytes left.toArray tf') (.int bits tb') (.int many tn') (.int width tw') (.ref t') (lastV last tl')) n') :: (t', listOf its' k') :: (I, oI) :: (D3, oT) :: rest) := N5
      have hFl : F.length ≤ 90300 := Nat.le_trans z.sz.found (by have : (pcs p0 p1 p2 i).length * ((pcs p0 p1 p2 i).length + 1) ≤ 300 * 301 := Nat.mul_le_mul (by omega) (by omega); omega)
      walk_at "c steps"
      refine StopAt.mk ?_
      refine' CallC.atX (feed_ok w loose mean mg mb early ⟨⟨tab, last, width, isd, found⟩, left, bits, many⟩ x d pc tv ((I, oI) :: (D3, oT) :: rest) _ ⟨t', n', k', kh', te', tm', tw', tl', tf', tb', tn', its', hba, hA.cons hI, rfl⟩ (pcs p0 p1 p2 i).length he (z.sz.less (f := []) (Nat.zero_le _)) (by omega) z.bits z.many (Nat.le_trans z.left (by omega))) BF (by assumption) XF N5 TF rfl (by omega) (by omega) ?ret ?exc
      case ret =>
        intro r n2 h6 tk6 F6 N6 hP0
        refine hideGoal fun G hG => ?_
        obtain ⟨s', tkr, hs', rfl, D2'⟩ := hP0
        refine hG ?_
        clear hG G
        obtain ⟨news2, rfl, D2''⟩ := D2'.toN
        have hnx := piece_next (s := ⟨⟨tab, last, width, isd, found⟩, left, bits, many⟩) hfe hs'
        have z2 := feedZ hnx
        rw [List.length_append] at z2
        have hFl2 : (F ++ s'.ds.found).length ≤ 90300 := Nat.le_trans z2.sz.found (by have : ((pcs p0 p1 p2 i).length + pc.length) * ((pcs p0 p1 p2 i).length + pc.length + 1) ≤ 300 * 301 := Nat.mul_le_mul (by omega) (by omega); omega)
        rw [List.length_append] at hFl2
        have hFl3 : s'.ds.found.length ≤ 90300 := by omega
        walk_at "c steps"
        (rename News gF LF _ _ => N9)
        (rename Fr gF LF _ _ => F9)
        rw [← hn] at hnx
        refine' ⟨_, _, _, _, rfl, F9, N9, ⟨s', F ++ s'.ds.found, _, ?_, ?_, ?_, ?_, hnx, D2''⟩⟩
        all_goals first | (show (_ : Option Value) = some _; walk_at "my look") | skip
      case exc =>
        intro e' g2 n2 h6 tk6 F6 U6 G6 hP0
        refine hideGoal fun G hG => ?_
        obtain ⟨hn2, rfl⟩ := hP0
        refine hG ?_
        clear hG G
        have hnone := piece_none (s := ⟨⟨tab, last, width, isd, found⟩, left, bits, many⟩) (r := pr) hfe hn2
        rw [hpr] at hnone
        have hdn : due = .none := by
          rcases hdue with ⟨rfl, _⟩ | ⟨_, _, s9, _, _, _, _, q, _⟩
          · rfl
          · rw [hnone] at q; cases q
        refine loop_raise (base := h₀) (L := LF) rfl rfl G6 fun h7 G7 U7 => ?_
        refine note_noted rfl G7 ?_
        refine caught_noted BF F6 (U6.trans U7) G7 X T (by kernel_rfl) (fun g h8 dx oe hs tk tv vs tk8 St Bg og Fg Ng hcls hdict hdata => ?_) rfl rfl rfl
        have nsg : g.Ns L m := ns_slots FGF.ns fun o q nf => og L (by simp) o q nf
        have Xg := X.keeps St
        have Tg := T.keeps St
        subst hdn
        clear hdue
        k_steps
        (try dsimp only)
        refine r_goes (by assumption) (by assumption) rfl rfl fun h15 m5 t5 F15 N15 => ?_
        exact ⟨g, LF, _, _, St, nsg, F15, News.sub (news' := []) N15 (fun p hp => nomatch hp), fun F9 N9 => hret _ _ _ _ F9 N9 rfl⟩
    case done =>
      clear F8 N9 hA0
      intro I m' _ h5 tk5 hltI hP0 F5 N5
      refine hideGoal fun G hG => ?_
      obtain ⟨⟨⟨tab, last, width, isd, found⟩, left, bits, many⟩, F, tF, f1, f2, f3, f4, hfe, t', n', k', kh', te', tm', tw', tl', tf', tb', tn', its', hba, hA, hI, rfl⟩ := hP0
      refine hG ?_
      clear hG G
      replace hfe : feedM early initF (p0 ++ p1 ++ p2) = _ := hfe
      rw [h3] at hfe
      dsimp only at hfe hba
      replace N5 : News gF LF h5 ((x, instObj 121 d) :: (d, dictOf (decEs kh' (.int early te') (.int 12 tm') (.bool isd) (.bytes left.toArray tf') (.int bits tb') (.int many tn') (.int width tw') (.ref t') (lastV last tl')) n') :: (t', listOf its' k') :: (D3, oT) :: rest) := N5
      have z := feedZ hfe
      have hFl : F.length ≤ 90300 := Nat.le_trans z.sz.found (by have : octets.length * (octets.length + 1) ≤ 300 * 301 := Nat.mul_le_mul (by omega) (by omega); omega)
      have hLl := z.left
      dsimp only at hLl
      rcases hdue with ⟨rfl, hno⟩ | ⟨Dd, out, s9, tk9, v9, rfl, hmem, hs9, hd9, ho9, hl9⟩
      · have hf := hno _ hfe
        dsimp only at hf
        subst hf
        walk_at "c steps"
        refine StopAt.mk (wpC_of_any ?_)
        refine' CallX.atX (fin_dec w loose mean mg mb early ⟨⟨tab, last, width, false, found⟩, left, bits, many⟩ x d ((D3, oT) :: rest) _ ⟨t', n', k', kh', te', tm', tw', tl', tf', tb', tn', its', hba, hA, rfl⟩) BF F5 XF N5 TF rfl (by omega) (by omega) ?ret ?exc
        case ret => rintro r n2 h6 tk6 F6 N6 ⟨q, _⟩; cases q
        case exc =>
          intro e' g2 n2 h6 tk6 F6 U6 G6 hP0
          refine hideGoal fun G hG => ?_
          obtain ⟨hn2, rfl⟩ := hP0
          refine hG ?_
          clear hG G
          refine note_gone rfl rfl G6 fun h7 G7 U7 => ?_
          refine caught_noted BF F6 (U6.trans U7) G7 X T (by kernel_rfl) (fun g h8 dx oe hs tk tv vs tk8 St Bg og Fg Ng hcls hdict hdata => ?_) rfl rfl rfl
          have nsg : g.Ns L m := ns_slots FGF.ns fun o q nf => og L (by simp) o q nf
          have Xg := X.keeps St
          have Tg := T.keeps St
          k_steps
          (try dsimp only)
          refine r_goes (by assumption) (by assumption) rfl rfl fun h15 m5 t5 F15 N15 => ?_
          exact ⟨g, LF, _, _, St, nsg, F15, News.sub (news' := []) N15 (fun p hp => nomatch hp), fun F9 N9 => hret _ _ _ _ F9 N9 rfl⟩
      · rw [hfe] at hs9
        obtain rfl := Option.some.inj hs9
        dsimp only at hd9 ho9 hl9
        subst hd9 ho9 hl9
        walk_at "c steps"
        refine StopAt.mk (wpC_of_any ?_)
        refine' CallX.atX (fin_dec w loose mean mg mb early ⟨⟨tab, last, width, true, found⟩, left, bits, many⟩ x d ((D3, oT) :: rest) _ ⟨t', n', k', kh', te', tm', tw', tl', tf', tb', tn', its', hba, hA, rfl⟩) BF F5 XF N5 TF rfl (by omega) (by omega) ?ret ?exc
        case exc => rintro e' g2 n2 h6 tk6 F6 U6 G6 ⟨q, _⟩; cases q
        case ret =>
          intro r n2 h6 tk6 F6 N6 hP0
          refine hideGoal fun G hG => ?_
          obtain ⟨_, ⟨tk2, rfl⟩, rfl⟩ := hP0
          refine hG ?_
          clear hG G
          clear F5 N5
          replace N6 : News gF LF h6 ((Dd, ({ cls := .type "tuple", data := .seq #[.bytes F.toArray tk9, v9] } : Obj)) :: (x, instObj 121 d) :: (d, dictOf (decEs kh' (.int early te') (.int 12 tm') (.bool true) (.bytes left.toArray tf') (.int bits tb') (.int many tn') (.int width tw') (.ref t') (lastV last tl')) n') :: (t', listOf its' k') :: (D3, oT) :: rest) := List.forall_mem_cons.mpr ⟨N6 _ (.tail _ (.tail _ (.tail _ (.tail _ hmem)))), N6⟩
          walk_at "c steps"
          · (rename Fr gF LF _ _ => F15)
            (rename News gF LF _ _ => N15)
            rw [beq_self_eq_true]
            exact ⟨gF, LF, _, _, SF, FGF.ns, F15, News.sub (news' := []) N15 (fun p hp => nomatch hp), fun F9 N9 => hret _ _ _ _ F9 N9 rfl⟩
          · rename (F ++ [] == F) = false => hbad
            rw [List.append_nil, beq_self_eq_true] at hbad
            cases hbad
section
open PySem.Calls
section
variable {w : World} {A A₀ : Around} {h : Heap} {gn : Array GenState} {dr : Drawn} {t : Nat} {os : OsState} {prog : Program} {K : Frag} {L : Addr} {h₀ base : Heap} {m mg mb : Str → Option Value} {news : List (Addr × Obj)} {p : Program} {loose : List Str} {mean : ExcName → Option Value}
  {env : Env} {outer : List Env} {R : Result → Shared → Prop} {name qual : Str} {params : Arguments} {body : List Stmt} {scope : Scope} {dV kV doc pm cdv ct oc : Value} {an od : Option Addr} {osl : Array (Option Value)} {f : Addr} {args : Args} {binds : List (Str × Value)}
/-- the function that the caller calls, with its cells -/
theorem codeC_call_top {o : Obj} {a : Addr} {cd : Value} {vals : List Value}
    (hlim : h₀.NoLimit) (ho : h₀.get? a = some o) (hd : o.data = .func (Calls.docDef name params body scope pm cd doc)) (hcd : h₀.CodeRec cd name)
    (hbind : bindArgs (Calls.docDef name params body scope pm cd doc) ⟨vals, []⟩ = pure binds) (hkind : (binds.all fun y => scope.names.lookup y.1 == some .local || scope.names.lookup y.1 == some .cell) = true)
    (hnd : ((cellsFrom 0 scope.names []).map (·.1)).Nodup)
    (H : ∀ L' h₁ t2 cells, Fr h₀ L' h₁ (bindL (envOfC name scope L' a cd).kindOf binds fun _ => none) → News h₀ L' h₁ cells →
      CellsAre (bindC (envOfC name scope L' a cd).kindOf binds fun _ => none) (cellsFrom (L' + 1) scope.names []) cells →
      wpC (model prog w) (callerA.deeper (envOfC name scope L' a cd)) (execs body (envOfC name scope L' a cd))
        (fun fl s' => R (.ok (.ret (match fl with | .ret v => v | _ => .none))) s')
        (fun e s' => wpAny (model prog w) (callerA.deeper (envOfC name scope L' a cd)) (leaving (envOfC name scope L' a cd) e) (fun _ s'' => R (.error e) s'') (fun e' s'' => R (.error e') s'') s')
        ⟨h₁, gn, dr, t2, os⟩)
    (hco : scope.isCoroutine = false) (hgen : scope.isGenerator = false) (hk : scope.kind = .function) : codeC (model prog w) callerA (.call (.ref a) ⟨vals, []⟩) R ⟨h₀, gn, dr, t, os⟩ := by
  refine codeC_of_tree rfl (wpC_of_any ?_)
  show wpAny _ callerA.in1 (callAny (.ref a) ⟨vals, []⟩) _ _ _
  simp only [callAny]
  refine wpAny_bind (wpAny_load ho ?_)
  refine hideGoal fun G hG => ?_
  obtain ⟨c, ob, vs, tq, hc, hoc, hdc, hq⟩ := hcd
  refine hG ?_
  clear hG G
  rw [hd]
  simp only [callFunction, Calls.docDef, hco, hgen, hc]
  refine wpAny_bind (m := field (.ref c) 1) (wpAny_field hoc hdc hq (wpAny_bind (wpAny_pure ?_)))
  rw [← hc]
  have hb := hbind
  simp only [Calls.docDef] at hb
  rw [hb]
  refine wpAny_bind (wpAny_pure (wpAny_bind ?_))
  refine wpAny_newFunctionEnv_cells hk (kindsX hkind _) fun env' he s' x => ?_
  subst he
  refine wpAny_bind (wpAny_enterFrame (hlim.keeps x.toInCall.keep) (by decide) (wpAny_pure (And.intro rfl (codeC_func ?_))))
  refine hideGoal fun G hG => ?_
  obtain ⟨h₁, tk, rfl, _⟩ := x.done
  refine hG ?_
  clear hG G
  have hk₁ := x.toInCall.keep
  obtain ⟨cells, NC, Y⟩ := Cl.news (h₀ := h₀) (Nat.le_refl _) fun n c hm => ⟨x.cell n c (lookup_of_mem_nodup (cellsFrom_names scope.names 0 (h₀.objs.size + 1) [] [] rfl ▸ hnd) hm), x.above n c hm⟩
  exact H h₀.objs.size h₁ tk cells ⟨x.toInCall.ns, fun b o e => hk₁ b o e, Nat.le_refl _⟩ NC Y
end
section
variable {w : World} {loose : List Str} {mean : ExcName → Option Value} {mg mb : Str → Option Value} {lvl : Nat} {f : Value} {args : List Value} {news : List (Addr × Obj)} {Post : Value → List (Addr × Obj) → Prop} {PostE : List (Addr × Obj) → Prop}
  {qual : Str} {scope : Scope} {L f' : Addr} {cdv : Value} {cl : List (Str × Addr)} {g : Heap} {m : Str → Option Value} {Q E : Value → Shared → Prop} {h : Heap} {gn : Array GenState} {dr : Drawn} {t : Nat} {os : OsState}
theorem CallOk.top (H : CallOk w loose mean mg mb lvl f args news Post) (F : Fr g L h m) (X : (Mine.hd.heap_39 w.params).In g) (N : News g L h news)
    (T : Top Mine.hd.view_39 loose mean mg mb g) (hk : scope.kind = .function) (hl : lvl ≤ 40)
    (hret : ∀ r news' h' tk', Fr g L h' m → News g L h' news' → Post r news' → Q r ⟨h', gn, dr, tk', os⟩) :
    wpAny (model PySem.Challenge.rw_nt0490_01.row.prog w) (callerA.deeper (envX qual scope L f' cdv cl)) (call f args) Q E ⟨h, gn, dr, t, os⟩ :=
  H (callerA.depth + 1) (callerA.units + 3) (some []) qual scope f' cdv cl [] callerA g g L m ⟨h, gn, dr, t, os⟩ Q E (below_caller g) F X N T hk (by simp only [callerA, recursionLimit, claimMargin]; omega) (by simp only [callerA, cLine]; omega) hret
theorem CallC.top (H : CallC w loose mean mg mb lvl f args news Post (fun _ => False)) (F : Fr g L h m) (X : (Mine.hd.heap_39 w.params).In g) (N : News g L h news)
    (T : Top Mine.hd.view_39 loose mean mg mb g) (hk : scope.kind = .function) (hl : lvl ≤ 40)
    (hret : ∀ r news' h' tk', Fr g L h' m → News g L h' news' → Post r news' → Q r ⟨h', gn, dr, tk', os⟩) :
    wpC (model PySem.Challenge.rw_nt0490_01.row.prog w) (callerA.deeper (envX qual scope L f' cdv cl)) (call f args) Q E ⟨h, gn, dr, t, os⟩ :=
  H (callerA.depth + 1) (callerA.units + 3) (some []) qual scope f' cdv cl [] callerA g g L m ⟨h, gn, dr, t, os⟩ Q E (below_caller g) F X N T hk (by simp only [callerA, recursionLimit, claimMargin]; omega) (by simp only [callerA, cLine]; omega) hret (fun _ _ _ _ _ _ _ _ f => f.elim)
theorem CallT.top (H : CallT w loose mean mg mb lvl f args news Post) (F : Fr g L h m) (X : (Mine.hd.heap_39 w.params).In g) (N : News g L h news)
    (T : Top Mine.hd.view_39 loose mean mg mb g) (hk : scope.kind = .function) (hl : lvl ≤ 40)
    (hret : ∀ r news' h' tk', Fr g L h' m → News g L h' news' → Post r news' → Q r ⟨h', gn, dr, tk', os⟩) :
    wpC (model PySem.Challenge.rw_nt0490_01.row.prog w) (callerA.deeper (envX qual scope L f' cdv cl)) (call f args) Q E ⟨h, gn, dr, t, os⟩ :=
  H (callerA.depth + 1) (callerA.units + 3) (some []) qual scope f' cdv cl callerA g L m ⟨h, gn, dr, t, os⟩ Q E (below_caller g) F X N T hk (by simp only [callerA, recursionLimit, claimMargin]; omega) (by simp only [callerA, cLine]; omega) hret
end
end
theorem law_good {cl : Str → Option Addr} {mean : ExcName → Option Value} {args : List WData} {h₀ h' : Heap} {L : Addr} {m : Str → Option Value} {gn : Array GenState} {dr : Drawn} {t t' : Nat} {os : OsState} (hg : gn = #[]) (F : Fr h₀ L h' m) :
    GoodWG PySem.Challenge.rw_nt0490_01.row.claim cl mean args ⟨h₀, gn, dr, t, os⟩ (.ok (.ret (.bool true))) ⟨h', gn, dr, t', os⟩ :=
  GoodW.toG (goodW_bool (s₁ := ⟨h₀, gn, dr, t, os⟩) (s' := ⟨h', gn, dr, t', os⟩) F hg (raisesW_false (by wrow_none_raised)) (postW_of (by wrow_shape) (by wtm_val) (by str_meet; exact beq_self_eq_true _)))
theorem deck_top {w : World} {loose : List Str} {mean : ExcName → Option Value} {mg mb : Str → Option Value} {l : Addr} {vs : List Value} {ns : List Int} {rest : List (Addr × Obj)} {qual : Str} {scope : Scope} {L f' : Addr} {cdv : Value} {cl : List (Str × Addr)} {g : Heap} {m : Str → Option Value} {Q E : Value → Shared → Prop} {h : Heap} {gn : Array GenState} {dr : Drawn} {t : Nat} {os : OsState}
    (hI : IntsAre vs ns) (hz : ns.length ≤ 63) (hl : g.IsList l vs.toArray) (F : Fr g L h m) (X : (Mine.hd.heap_39 w.params).In g) (N : News g L h rest)
    (T : Top Mine.hd.view_39 loose mean mg mb g) (hk : scope.kind = .function)
    (hret : ∀ h' tk' dk c dO k vs' ns' ta, Fr g L h' m → News g L h' ((dk, dO) :: (c, listOf vs'.toArray k) :: rest) → dO.IsDictOf (strKind PySem.Challenge.rw_nt0490_01.row.prog w) [(Str.ofString "cells", .ref c), (Str.ofString "at", .int 0 ta)] → @Ne Nat dk c → (∀ p ∈ rest, p.1 ≠ dk) → IntsAre vs' ns' → vs'.length ≤ 60 → Q (.ref dk) ⟨h', gn, dr, tk', os⟩) :
    wpC (model PySem.Challenge.rw_nt0490_01.row.prog w) (callerA.deeper (envX qual scope L f' cdv cl)) (call (.ref 210) [.ref l]) Q E ⟨h, gn, dr, t, os⟩ :=
  wpC_of_any (deck_ok w loose mean mg mb l vs ns rest hI hz (callerA.depth + 1) (callerA.units + 3) (some []) qual scope f' cdv cl [] callerA g g L m ⟨h, gn, dr, t, os⟩ Q E hl (below_caller g) F X N T hk (by simp only [callerA, recursionLimit, claimMargin]; omega) (by simp only [callerA, cLine]; omega)
    fun r news' h' tk' F' N' q => by
      refine hideGoal fun G hG => ?_
      obtain ⟨dk, c, dO, k, vs', ns', ta, h1, h2, h3, h4, h5, h6, h7⟩ := q
      subst h6 h7
      exact hG (hret h' tk' dk c dO k vs' ns' ta F' N' h1 h2 h3 h4 h5))
theorem draw_top {w : World} {loose : List Str} {mean : ExcName → Option Value} {mg mb : Str → Option Value} {dk c : Addr} {dO : Obj} {k : Nat} {vs : List Value} {ns : List Int} {at' below : Int} {ta tb : Tok} {news : List (Addr × Obj)} (rest : List (Addr × Obj)) {qual : Str} {scope : Scope} {L f' : Addr} {cdv : Value} {cl : List (Str × Addr)} {g : Heap} {m : Str → Option Value} {Q E : Value → Shared → Prop} {h : Heap} {gn : Array GenState} {dr : Drawn} {t : Nat} {os : OsState}
    (hdO : dO.IsDictOf (strKind PySem.Challenge.rw_nt0490_01.row.prog w) [(Str.ofString "cells", .ref c), (Str.ofString "at", .int at' ta)])
    (hdc : @Ne Nat dk c) (hI : IntsAre vs ns) (hz : vs.length ≤ 60) (hrd : ∀ p ∈ rest, p.1 ≠ dk) (ha : 0 ≤ at' ∧ at' ≤ 1000) (hb : 1 ≤ below ∧ below ≤ 1000)
    (F : Fr g L h m) (X : (Mine.hd.heap_39 w.params).In g) (N : News g L h news) (hs : ∀ p ∈ (dk, dO) :: (c, listOf vs.toArray k) :: rest, p ∈ news)
    (T : Top Mine.hd.view_39 loose mean mg mb g) (hk : scope.kind = .function)
    (hret : ∀ h' tk' v tv dO' ta', Fr g L h' m → News g L h' ((dk, dO') :: (c, listOf vs.toArray k) :: rest) → 0 ≤ v → v < below → dO'.IsDictOf (strKind PySem.Challenge.rw_nt0490_01.row.prog w) [(Str.ofString "cells", .ref c), (Str.ofString "at", .int (at' + 1) ta')] → Q (.int v tv) ⟨h', gn, dr, tk', os⟩) :
    wpAny (model PySem.Challenge.rw_nt0490_01.row.prog w) (callerA.deeper (envX qual scope L f' cdv cl)) (call (.ref 217) [.ref dk, .int below tb]) Q E ⟨h, gn, dr, t, os⟩ :=
  CallOk.top (draw_ok w loose mean mg mb dk c dO k vs ns at' below ta tb rest hdO hdc hrd hI hz ha hb) F X (News.sub N hs) T hk (by decide)
    fun r news' h' tk' F' N' q => by
      refine hideGoal fun G hG => ?_
      obtain ⟨⟨v, tv, h1, h2, h3⟩, ta', dO', h4, h5⟩ := q
      subst h3 h5
      exact hG (hret h' tk' v tv dO' ta' F' N' h1 h2 h4)
theorem news_ne {g h : Heap} {L a b : Addr} {oa ob : Obj} {news : List (Addr × Obj)} (N : News g L h news) (ha : (a, oa) ∈ news) (hb : (b, ob) ∈ news) (hd : oa.data ≠ ob.data) : @Ne Nat a b := fun e => by
  have h1 := (N _ ha).1
  have h2 := (N _ hb).1
  dsimp only at h1 h2
  rw [show a = b from e, h2] at h1
  injection h1 with h1
  exact hd (by rw [h1])
theorem two_ne {a b x : Addr} {o p : Obj} (h1 : @Ne Nat x a) (h2 : @Ne Nat x b) : ∀ q ∈ [(a, o), (b, p)], q.1 ≠ x := fun q hq => by
  rcases List.mem_cons.mp hq with rfl | hq
  · exact Ne.symm h1
  · rw [List.mem_singleton.mp hq]; exact Ne.symm h2
theorem menu_mem {g h : Heap} {L l : Addr} {news : List (Addr × Obj)} {vs : List Value} {ms : List Int} {k : Nat} {v : Int} (_ : News g L h news) (_ : (l, listOf vs.toArray k) ∈ news) (hI : IntsAre vs ms) (h0 : 0 ≤ v) (h1 : v < ms.length) :
    ∃ n t, vs.toArray[v.toNat]? = some (.int n t) ∧ n ∈ ms := by
  have hlt : v.toNat < ms.length := by omega
  obtain ⟨t, ht⟩ := hI.get v.toNat ms[v.toNat] (List.getElem?_eq_getElem hlt)
  exact ⟨_, t, by simpa using ht, List.getElem_mem hlt⟩
/-- between the turns of a comprehension that draws out of a menu -/
theorem at900 {n : Nat} (h : n ≤ 14) : 0 ≤ (0 : Int) + 1 + 1 + 1 + (n : Int) ∧ (0 : Int) + 1 + 1 + 1 + (n : Int) ≤ 900 := by omega
theorem at1000 {n : Nat} (h : n ≤ 14) : 0 ≤ (0 : Int) + 1 + 1 + 1 + (n : Int) ∧ (0 : Int) + 1 + 1 + 1 + (n : Int) ≤ 1000 := by omega
theorem at901 {n : Nat} (h : n ≤ 14) : 0 ≤ (0 : Int) + 1 + 1 + 1 + (n : Int) + 1 ∧ (0 : Int) + 1 + 1 + 1 + (n : Int) + 1 ≤ 900 := by omega
theorem at_next {i : Nat} : (0 : Int) + 1 + 1 + 1 + ((i + 1 : Nat) : Int) = 0 + 1 + 1 + 1 + (i : Nat) + 1 := by omega
theorem menu_rng : ∀ z ∈ ([65, 66, 256, 258, 259, 260, 257, 0, 511, 257] : List Int), 0 ≤ z ∧ z < 512 := by decide
theorem menu_rng3 : ∀ z ∈ ([65, 66, 255] : List Int), 0 ≤ z ∧ z < 256 := by decide
theorem early1 {e : Int} (h : e < 2) : e ≤ 1 := by omega
theorem lt10 {x : Int} (h : 0 ≤ x ∧ x < 512) : 0 ≤ x ∧ x < 2 ^ 10 := by omega
inductive menuJ (w : World) (dk c : Addr) (at' : Int) (menu : List Int) (i : Nat) (ys : List Value) (news : List (Addr × Obj)) : Prop
  | mk (dO ta) (h1 : news = [(dk, dO)]) (h2 : dO.IsDictOf (strKind PySem.Challenge.rw_nt0490_01.row.prog w) [(Str.ofString "cells", .ref c), (Str.ofString "at", .int (at' + (i : Nat)) ta)]) (zs) (h3 : IntsAre ys zs) (h4 : zs.length = i) (h5 : ∀ z ∈ zs, z ∈ menu)
theorem getD_in {l : List Int} {i : Nat} (h : i < l.length) : l.getD i 0 ∈ l := by
  rw [List.getD_eq_getElem?_getD, List.getElem?_eq_getElem h]; exact List.getElem_mem h
theorem nines (n : Nat) (k : Int) : (List.replicate ((n : Nat) : Int).toNat [k]).flatten = List.replicate n k := by rw [Int.toNat_natCast]; simp
theorem reg_PRead : True := by
  k_with_none
  (k_with "L om" => first | with_reducible assumption | (with_reducible refine Ne.symm ?_; assumption) | ((with_reducible refine low1 (by assumption) ?_); exact rfl) | ((with_reducible refine low2 (by assumption) ?_); exact rfl) | ((with_reducible refine low7 (by assumption) ?_); exact rfl) | with_reducible exact low8 (by assumption) | ((with_reducible refine low3 (by assumption) ?_); exact rfl) | ((with_reducible refine low4 (by assumption) ?_); exact rfl) | with_reducible exact low5 (by assumption) | with_reducible exact low6 (by assumption) | with_reducible exact And.left (by assumption) | with_reducible exact And.right (by assumption) | with_reducible exact And.intro (by assumption) (by assumption) | ((with_reducible refine low9 (by assumption) ?_); exact rfl) | ((with_reducible refine low10 (by assumption) ?_); exact rfl) | ((with_reducible refine low12 (by assumption) ?_); exact rfl) | with_reducible exact Nat.le_succ_of_le (by assumption) | with_reducible exact Nat.add_le_add (by assumption) (Nat.min_le_left _ _) | ((with_reducible refine low16 (by assumption) (by assumption) ?_); exact rfl) | with_reducible exact low17 (by assumption) (by assumption) | with_reducible exact low18 (by assumption) | with_reducible exact low19 (by assumption) (by assumption) | with_reducible exact low20 (by assumption) | with_reducible exact And.intro (Int.emod_nonneg _ (by decide)) (Int.emod_lt_of_pos _ (by decide)) | ((with_reducible refine low21 (by assumption) ?_); exact rfl) | ((with_reducible refine low22 (by assumption) ?_); exact rfl) | with_reducible exact low6 (And.left (by assumption)) | with_reducible exact low6 (And.left (And.right (by assumption))) | with_reducible exact low6 (And.left (And.right (And.right (by assumption)))) | with_reducible exact low6 (And.left (And.right (And.right (And.right (by assumption))))) | with_reducible exact low6 (And.right (by assumption)) | lia | with_reducible contradiction)
  (k_with "L my putL" => first | with_reducible exact putL_d4 | with_reducible exact putL_d5 | with_reducible exact putL_d6 | with_reducible exact putL_d7 | with_reducible exact putL_d8 | with_reducible exact putL_d2 | with_reducible exact putL_d3 | (refine' putL_hd ?xZ; (case xZ => decide +kernel)) | (refine' putL_tl ?xZ ?yZ; (case xZ => decide +kernel); (case yZ => k_extra "L my putL")))
  (k_with "L my putN" => first | with_reducible exact putN_d4 | with_reducible exact putN_d5 | with_reducible exact putN_d6 | with_reducible exact putN_d7 | with_reducible exact putN_d8 | with_reducible exact putN_d2 | with_reducible exact putN_d3 | (refine' putN_hd ?xZ; (case xZ => decide +kernel)) | (refine' putN_tl ?xZ ?yZ; (case xZ => decide +kernel); (case yZ => k_extra "L my putN")))
  (k_with "L all" => first | assumption | exact allLt_ne (by assumption) | exact allLt_ne (And.right (by assumption)) | exact allLt_ne (And.right (And.right (by assumption))) | exact allLt_ne (And.right (And.right (And.right (by assumption)))))
  (k_with "L room" => ((try simp only [depth_under_make, depth_under_kw, depth_in1, depth_deeper, depth_caller]); (try dsimp only [ktrTop]); omega))
  (k_with "L execs cons" => (refine r_consL ?_; intro _))
  (k_with "L execs nil" => refine wpAny_execs_nil ?_)
  (k_with "L exec If" => refine wpAny_If ?_)
  (k_with "L eval Constant int" => refine r_int ?_)
  (k_with "L eval Constant bytes" => refine r_bytes ?_)
  (k_with "L eval Constant str" => refine r_str ?_)
  (k_with "L binaryOp Add int int" => refine r_add ?_)
  (k_with "L binaryOp Sub int int" => refine r_sub ?_)
  (k_with "L binaryOp BitAnd int int" => refine r_and ?_)
  (k_with "L binaryOp BitOr int int" => refine r_or ?_)
  (k_with "L binaryOp RShift int int" => (refine' r_shr ?aZ ?_; (case aZ => omega)))
  (k_with "L binaryOp Mod int int" => (refine' r_mod ?aZ ?_; (case aZ => omega)))
  (k_with "L binaryOp LShift int int" => first | with_reducible refine r_shl09 ?_ | with_reducible refine r_shl10 ?_ | with_reducible refine r_shl12 ?_ | with_reducible refine r_shl28 ?_ | (refine' r_shl ?aZ ?bZ ?cZ ?_; (case aZ | bZ | cZ => omega)))
  (k_with "L call builtin:len" => ( (with_reducible show wpAny _ _ (call (Value.builtin "len") [Value.ref _]) _ _ _); refine' r_len ?NZ ?mZ ?zZ ?_; (case NZ => k_asm); (case mZ => k_mem); (case zZ => first | omega | (simp only [List.size_toArray, Array.size_push] at *; omega))))
  (k_with "L getAttr ref" => (k_here; k_dflt ( refine' r_getattr ?k1Z ?k2Z ?k3Z ?k4Z ?k5Z ?k6Z ?k7Z ?k8Z ?k9Z ?_; (case k1Z | k2Z => k_asm); (case k3Z => k_inst); (case k4Z | k5Z | k6Z | k7Z => k_is); (case k8Z => k_get); (case k9Z => k_handed); k_whole)))
  (k_with "L setAttr ref" => (k_here; k_dflt (first | (refine' r_setattr ?k1Z ?k2Z ?k3Z ?k4Z ?k5Z ?k6Z ?k7Z ?k8Z ?k9Z ?k10Z ?k11Z ?k11bZ ?k12Z ?k13Z ?_; (case k1Z | k2Z | k3Z => k_asm); (case k4Z => k_inst); (case k5Z => exact rfl); (case k6Z | k7Z | k8Z | k9Z => k_is); (case k10Z => k_get); (case k11Z => (intro _; k_extra "L my putL")); (case k11bZ => k_extra "L my putN"); (case k12Z => k_upd); (case k13Z => exact Nat.le_of_ble_eq_true rfl); k_whole; intro _ _ _ _; (try k_sweep)) | (refine' r_newattr ?k1Z ?k2Z ?k3Z ?k4Z ?k5Z ?k6Z ?k7Z ?k8Z ?k9Z ?k10Z ?k11Z ?k12Z ?k13Z ?_; (case k1Z | k2Z | k3Z => k_asm); (case k4Z => k_inst); (case k5Z => exact rfl); (case k6Z | k7Z | k8Z | k9Z => k_is); (case k10Z => k_get); (case k11Z => exact rfl); (case k12Z => exact Nat.le_of_ble_eq_true rfl); (case k13Z => k_updF); k_whole; intro _ _ _ _ _ N'; (dsimp only [List.cons_append, List.nil_append] at N'); (try (revert N'; intro _)); (try k_sweep)))))
  (k_with "L storeName" => (k_here; k_dflt ( refine' r_store ?k1Z ?k2Z ?k3Z ?k4Z ?_; (case k1Z | k2Z => k_asm); (case k3Z | k4Z => rfl); k_whole; intro _ _ _ _; (try k_sweep))))
  (k_with "L newList" => (k_here; k_dflt (refine' r_newList ?k1Z ?k2Z ?k3Z ?_; (case k1Z | k2Z => k_asm); (case k3Z => exact Nat.le_of_ble_eq_true rfl); k_whole); intro _ _ _ _ l1; (try k_lt l1); (try (revert l1; intro _)); (try k_sweep)))
  (k_with "L call builtin:list.append" => (k_here; (with_reducible show wpAny _ _ (call (Value.builtin _) [Value.ref _, _]) _ _ _); k_dflt (refine' r_append ?k1Z ?k2Z ?k3Z ?zZ ?_; (case k1Z | k2Z => k_asm); (case k3Z => k_upd); (case zZ => first | omega | (simp only [List.size_toArray, Array.size_push] at *; omega)); k_whole); intro _ _ _; (try k_sweep)))
  (k_with "L my enter" => (refine' r_enter ?k1Z ?k2Z ?k3Z ?k4Z ?k5Z ?kAZ ?kFZ ?kKZ ?k6Z ?k7Z ?k8Z ?k9Z ?kBZ ?_ ?c2Z ?c3Z ?c4Z ?c5Z; (case kAZ | kFZ => exact rfl); (case kKZ => first | assumption | exact rfl); (case k1Z | k2Z | k3Z | k4Z | k5Z => k_asm); (case k6Z | k7Z => k_is); (case k8Z => k_room); (case k9Z => first | exact BindsTo.of_eq rfl | exact binds_K (by k_in) rfl (by k_is) rfl rfl rfl); (case c5Z => decide); (case kBZ => exact locs rfl); (case c2Z | c3Z | c4Z => exact rfl); k_whole; intro _ _ _ _ _ _ _ _ _ _; (try dsimp only); (try k_fold)))
  (k_with "L my class" => (refine' call_cls ?k1Z ?k2Z ?k3Z ?k4Z ?k5Z ?k6Z ?_; (case k1Z | k2Z | k3Z => k_asm); (case k4Z | k5Z | k6Z => k_is); k_whole; intro _ _ _ _ _ l1 l2; (try k_lt l1); (try (revert l1; intro _)); (try k_lt2 l2); (try (revert l2; intro _)); (try k_sweep); k_extra "L my enter"))
  (k_with "L call ref" => (k_here; k_dflt (first | k_extra "L my class" | (refine wpAny_call ?_; k_extra "L my enter"))))
  (k_with "L my sub" => first | exact mem_all | (refine List.forall_mem_cons.mpr ⟨?_, ?_⟩; (k_mem); k_extra "L my sub") | exact List.forall_mem_nil _ | (refine mem_step ?_; k_extra "L my sub"))
  (k_with "L my blen" => first | k_extra "L om" | exact Nat.zero_le _ | ((simp only [List.length_append, List.length_cons, List.length_nil, List.length_take, List.length_drop]); omega) | omega | exact Nat.le_trans (cut_length _ _ _) (by omega) | (simp only [List.length_append, List.length_cons, List.length_nil, List.length_take, List.length_drop]; omega))
  (k_with "L binaryOp Add bytes bytes" => (refine' r_badd ?zZ ?z2Z ?_; (case zZ | z2Z => k_extra "L my blen"); intro _ _))
  (k_with "L compareOp Eq bytes bytes" => refine r_beq ?_)
  (k_with "L subscriptTail" => (k_here; (with_reducible show wpAny _ _ (subscriptTail _ (Expr.Slice _ _ none _) (Value.bytes _ _) (Value.ref _)) _ _ _); k_dflt (refine' r_slice ?FZ ?NZ ?lZ ?uZ ?zZ ?_ ?sZ ?tZ; (case FZ | NZ => k_asm); (case lZ | uZ => constructor); (case zZ => omega); (case sZ => with_unfolding_all rfl); (case tZ => intro _; with_unfolding_all rfl)); intro _ _ _ _ _; (try k_sweep)))
  (k_with "L subscriptTail" => (k_here; (with_reducible show wpAny _ _ (subscriptTail _ _ (Value.ref _) (Value.int _ _)) _ _ _); k_dflt (refine' r_item ?NZ ?mZ ?aZ ?bZ ?xZ ?_ ?sZ ?tZ; (case NZ => k_asm); (case mZ => k_mem); (case aZ | bZ => omega); (case xZ => first | assumption | rfl); (case sZ => with_unfolding_all rfl); (case tZ => intro _; with_unfolding_all rfl))))
  (k_with "L my ev" => first | ((with_reducible show Ev _ _ _ _ _ _ _ (Expr.Constant _ _ _) _ _ _); first | exact ev_int | (intro _ _ Hx; walk1; with_reducible exact Hx)) | ((with_reducible show Ev _ _ _ _ _ _ _ (Expr.Name _ _) _ _ _); first | (refine' ev_L ?FZ ?vZ ?aZ ?bZ ?dZ; (case FZ => k_asm); (case aZ | bZ => rfl); (case dZ => decide); (case vZ => rfl)) | (intro _ _ Hx; walk1; with_reducible exact Hx)) | ((with_reducible show Ev _ _ _ _ _ _ _ (Expr.Attribute _ _ _) _ _ _); refine' ev_attr ?k1Z ?k2Z ?vZ ?k3Z ?k4Z ?k5Z ?k6Z ?k7Z ?k8Z ?k9Z ?aZ ?bZ ?dZ; (case k1Z | k2Z => k_asm); (case aZ | bZ => rfl); (case dZ => decide); (case vZ => rfl); (case k3Z => k_inst); (case k4Z | k5Z | k6Z | k7Z => k_is); (case k8Z => k_get); (case k9Z => k_handed)) | ((with_reducible show Ev _ _ _ _ _ _ _ (Expr.BinOp _ _ _ _) _ _ _); refine' ev_bin ?lZ ?rZ ?oZ; (case lZ | rZ => k_extra "L my ev"); (case oZ => (intro _ _ Hx; walk1; with_reducible exact Hx))) | ((with_reducible show Ev _ _ _ _ _ _ _ (Expr.Call (Expr.Name (Str.ofString "len") _) [_] [] _) _ _ _); intro _ _ Hx; (repeat walk1); with_reducible exact Hx))
  (k_with "L eval BinOp" => (k_here; k_dflt (refine' ev_use ?hZ ?_; (case hZ => k_extra "L my ev"); k_whole)))
  (k_with "L eval Attribute Name" => (k_here; k_dflt (refine' ev_use ?hZ ?_; (case hZ => k_extra "L my ev"); k_whole)))
  (k_with "L isTrue Compare" => (k_here; k_dflt (refine' ev_isTrue ?lZ ?rZ ?oZ ?mZ ?_; (case lZ | rZ => k_extra "L my ev"); (case oZ => (intro _ _ Hx; walk1; with_reducible exact Hx)); (case mZ => with_unfolding_all rfl); k_whole)))
  (k_with "L call ref" => (k_here; (with_reducible show wpAny _ _ (call (Value.ref 45) _) _ _ _); refine' r_excMake ?k1Z ?k2Z ?k3Z ?k4Z ?k5Z ?k6Z ?k7Z ?_; (case k1Z | k2Z | k3Z => k_asm); (case k4Z => exact Nat.le_of_ble_eq_true rfl); (case k5Z => kernel_rfl); (case k6Z | k7Z => k_is); k_whole; intro _ _ _ _ _ l1; (try k_lt l1); (try (revert l1; intro _)); (try k_sweep); k_extra "L my enter"))
  (k_with "L setAttr ref" => (k_here; (with_reducible show wpAny _ _ (setAttr _ "told" (Value.bytes _ _)) _ _ _); refine' r_excSet ?k1Z ?k2Z ?k3Z ?k4Z ?_; (case k1Z | k2Z | k3Z => k_asm); (case k4Z => k_updF); k_whole; intro _ _ _ _ _ _ _ l1; (try k_lt l1); (try (revert l1; intro _)); (try k_sweep)))
  (k_with "L Inst45" => (k_here; k_dflt (refine' ⟨_, _, _, rfl, ?aZ, ?cZ, ?dZ, ?eZ, ?bZ, ?_⟩; (case aZ => exact (News.get (by k_asm) (by k_mem))); (case cZ | dZ | eZ => exact rfl); (case bZ => exact Frag.In.keeps (by k_asm) (Fr.keep (by k_asm))); k_whole)))
  (k_with "L exec Raise some none" => (k_here; k_dflt (refine' r_raise ?aZ ?_; (case aZ => rfl); k_whole)))
  (k_with "L my nes" => first | exact List.forall_mem_nil _ | k_all | (refine List.forall_mem_cons.mpr ⟨?_, ?_⟩; (show @Ne Nat _ _; omega); k_extra "L my nes"))
  (k_with "L leaving ref" => (k_here; (rename Gone _ _ _ _ _ => gX); (rename Heap.UpToSlots _ _ => uX); k_dflt (refine' leave_more ?KZ ?FZ ?fZ ?RZ ?UZ ?_; (case KZ => assumption); (case RZ => exact gX); (case UZ => exact uX); (case FZ => assumption); (case fZ => exact rfl); k_whole); (try clear gX uX); intro _ _ _))
  (k_with "L leaving ref" => (k_here; k_dflt (refine' leave_first ?KZ ?FZ ?fZ ?kZ ?NZ ?aZ ?bZ ?_; (case KZ | FZ => assumption); (case fZ | kZ => exact rfl); (case NZ => assumption); (case aZ => k_extra "L my nes"); (case bZ => (show @Ne Nat _ _; omega)); k_whole); intro _ _ _))
  (k_with "L c enter" => (refine' c_enter ?k1Z ?k2Z ?k3Z ?k4Z ?k5Z ?kAZ ?kFZ ?kKZ ?k6Z ?k7Z ?k8Z ?k9Z ?kBZ ?_ ?c2Z ?c3Z ?c4Z ?c5Z; (case kAZ | kFZ => exact rfl); (case kKZ => first | assumption | exact rfl); (case k1Z | k2Z | k3Z | k4Z | k5Z => k_asm); (case k6Z | k7Z => k_is); (case k8Z => k_room); (case k9Z => first | exact BindsTo.of_eq rfl | exact binds_K (by k_in) rfl (by k_is) rfl rfl rfl); (case c5Z => decide); (case kBZ => exact locs rfl); (case c2Z | c3Z | c4Z => exact rfl); k_whole; intro _ _ _ _ _ _ _ _ _ _; (try dsimp only)))
  (k_with "L keep at" => first | ((with_reducible show KeepAt _ (Value.ref _) _); refine keep_ref (by k_in) (by k_is)) | exact keep_append | exact keep_extend | exact keep_bytearray | exact ⟨.machine, .inr (.inl rfl), Looks.of_pure (by kernel_rfl)⟩)
  (k_with "L c call" => ( (with_reducible show wpC _ _ (call (Value.builtin "bytearray.append") [Value.ref _, Value.int _ _]) _ _ _); k_dflt (refine' c_append ?k1Z ?k2Z ?k3Z ?k4Z ?k5Z ?zZ ?_; (case k1Z | k2Z => k_asm); (case k3Z => k_upd); (case k4Z | k5Z => omega); (case zZ => k_extra "L my blen"); k_whole); intro _ _ _; (try k_sweep)))
  (k_with "L c call" => ( (with_reducible show wpC _ _ (call (Value.builtin "bytearray.extend") [Value.ref _, Value.bytes _ _]) _ _ _); k_dflt (refine' c_extend ?k1Z ?k2Z ?k3Z ?zZ ?_; (case k1Z | k2Z => k_asm); (case k3Z => k_upd); (case zZ => k_extra "L my blen"); k_whole); intro _ _ _; (try k_sweep)))
  (k_with "L c call" => ( (with_reducible show wpC _ _ (call (Value.type "bytearray") []) _ _ _); k_dflt (refine' c_new ?k1Z ?k2Z ?_; (case k1Z | k2Z => k_asm); k_whole); intro _ _ _ _ l1; (try k_lt l1); (try (revert l1; intro _)); (try k_sweep)))
  (k_with "L getMethod ref" => (k_here; (with_reducible show wpAny _ _ (getMethod (Value.ref _) (PySem.Str.ofString "extend") _) _ _ _); k_dflt (refine' (meth_extend ?xZ).here ?_; (case xZ => exact (News.get (by k_asm) (by k_mem))); k_whole)))
  (k_with "L getMethod ref" => (k_here; (with_reducible show wpAny _ _ (getMethod (Value.ref _) (PySem.Str.ofString "append") _) _ _ _); k_dflt (refine' (meth_append ?xZ).here ?_; (case xZ => exact (News.get (by k_asm) (by k_mem))); k_whole)))
  (k_with "L harm" => fail "no harm")
  (k_with "L cw" => first | ((with_reducible refine c_consL ?_); intro _) | with_reducible refine c_nil ?_ | k_extra "L harm" | with_reducible refine c_If ?_ | ((with_reducible show wpC _ _ (isTrue (Expr.Compare (Expr.Call _ _ _ _) _ _ _) _ _) _ _ _); refine c_isTrue ?_) | with_reducible refine ofA_isTrue ?_ | ((with_reducible show wpC _ _ (exec (Stmt.Expr (Expr.Call _ _ _ _) _) _) _ _ _); refine c_Expr ?_) | with_reducible refine c_Assign ?_ | ((with_reducible show wpC _ _ (exec (Stmt.Assign [Expr.Attribute _ _ _] (Expr.Call _ _ _ _) _) _) _ _ _); refine c_AssignA ?_) | with_reducible refine c_Return ?_ | with_reducible refine ofA_exec ?_ | with_reducible refine c_Meth ?_ | with_reducible refine c_Call ?_ | ((with_reducible show wpC _ _ (eval (Expr.BinOp _ _ _ _) _) _ _ _); k_dflt (refine' ofA_eval (ev_use ?hZ ?_); (case hZ => k_extra "L my ev"); k_whole)) | with_reducible refine c_BinOp ?_ | with_reducible refine c_Compare ?_ | with_reducible refine c_And ?_ | with_reducible refine c_And1 ?_ | with_reducible refine ofA_eval ?_ | with_reducible refine c_args ?_ | with_reducible refine c_args0 ?_ | with_reducible refine c_with1 ?_ | ((with_reducible show wpC _ _ (callWith _ _ _ _ _) _ _ _); refine c_with0 (by k_extra "L keep at") ?_) | ((with_reducible show KeepAt _ _ _ ∧ _); refine ⟨by k_extra "L keep at", ?_⟩; (try dsimp only [List.cons_append, List.nil_append])) | k_extra "L c call" | with_reducible refine ofA_call ?_ | with_reducible refine c_ite1 (by assumption) ?_ | with_reducible refine c_ite0 (by assumption) ?_)
  (k_with "L c steps" => repeat' (first | ((with_reducible show wpAny _ _ _ _ _ _); walk1) | k_extra "L cw" | (k_unfold; (try dsimp only)) | ((show (_ : Flow → Shared → Prop) _ _); k_unfold; (try dsimp only)) | (k_end; wrow_close) | walk1 | (dsimp only; walk1) | (leave1; try dsimp only) | (dsimp only; k_extra "L cw") | fail "no step"))
  (k_with "L c call" => ( (with_reducible show wpC _ _ (call (Value.type "enumerate") [Value.bytes _ _]) _ _ _); k_dflt (refine' wpC_of_any (r_enumB ?k1Z ?k2Z ?_); (case k1Z | k2Z => k_asm); k_whole); intro _ _ _ _ _ l1 l2; (try k_lt l1); (try (revert l1; intro _)); (try k_lt2 l2); (try (revert l2; intro _)); (try k_sweep)))
  (k_with "L call type:bytes" => ((with_reducible show wpAny _ _ (call (Value.type "bytes") [Value.bytes _ _]) _ _ _); refine r_bytesB ?_))
  (k_with "L call type:bytes" => ((with_reducible show wpAny _ _ (call (Value.type "bytes") [Value.ref _]) _ _ _); k_dflt (refine' r_bytesBa ?aZ ?zZ ?_; (case aZ => exact (News.get (by k_asm) (by k_mem))); (case zZ => k_extra "L my blen"); k_whole); intro _ _))
  (k_with "L harm" => first | ((with_reducible show wpC _ _ (exec (Stmt.For _ _ _ [] _) _) _ _ _); refine c_For ?_) | ((with_reducible show wpC _ _ (pyIter _) _ _ _); refine wpC_of_any ?_))
  (k_with "L harm" => first | ((with_reducible show wpC _ _ (exec (Stmt.For _ _ _ [] _) _) _ _ _); refine c_For ?_) | ((with_reducible show wpC _ _ (exec (Stmt.While _ _ [] _) _) _ _ _); refine c_WhileR ?_) | ((with_reducible show codeC _ _ (Code.whileLoop _ _ [] _) _ _); refine codeC_while1 ?_) | ((with_reducible show LoopR _ _ _ _ _ _ _ _); dsimp only [LoopR]) | ((with_reducible show wpC _ _ (pyIter _) _ _ _); refine wpC_of_any ?_))
  (k_with "L harm" => ((with_reducible show wpC _ _ (exec (Stmt.Try _ (_ :: _) [] [] _) _) _ _ _); refine c_Try ?_))
  (k_with "L c enterC" => (refine' c_enterC ?k1Z ?k2Z ?k3Z ?k4Z ?k5Z ?kAZ ?kFZ ?kKZ ?k6Z ?k7Z ?k8Z ?k9Z ?kBZ ?_ ?c2Z ?c3Z ?c4Z ?c5Z; (case kAZ | kFZ => exact rfl); (case kKZ => first | assumption | exact rfl); (case k1Z | k2Z | k3Z | k4Z | k5Z => k_asm); (case k6Z | k7Z => k_is); (case k8Z => k_room); (case k9Z => first | exact BindsTo.of_eq rfl | exact binds_K (by k_in) rfl (by k_is) rfl rfl rfl); (case c5Z => decide); (case kBZ => exact locs rfl); (case c2Z | c3Z | c4Z => exact rfl); k_whole; intro _ _ _ _ _ _ _ _ _ _ _; (try dsimp only)))
  (k_with "L getAttr ref" => (k_here; (with_reducible show wpAny _ _ (getAttr (Value.ref _) (PySem.Str.ofString "told") _) _ _ _); refine' r_excGet ?k1Z ?k2Z ?k3Z ?k4Z ?k5Z ?k6Z ?k7Z ?_; (case k1Z | k2Z => k_asm); (case k3Z => exact (News.get (by k_asm) (by k_mem))); (case k4Z | k5Z | k6Z => assumption); (case k7Z => exact (News.get (by k_asm) (by k_mem))); k_whole; intro _))
  (k_with "L eval ListComp" => (refine StopAt.go ?_))
  (k_with "L my comp" => (refine StopAt.mk ?_; refine' r_compE (hs := ?hsZ) ?aZ ?bZ ?cZ ?_; (case hsZ => intro _; rfl); (case aZ | bZ => rfl); (case cZ => decide)))
  (k_with "L eval Name" => ((with_reducible show wpAny _ _ (eval (Expr.Name _ _) (compEnvC _ _ _ _)) _ _ _); first | (refine' r_cvar ?k1Z ?k2Z ?_; (case k1Z | k2Z => assumption)) | (refine' ldFreeK ?k1Z ?k2Z ?_; (case k1Z => rfl); (case k2Z => assumption)) | (refine' r_cG ?k1Z ?k2Z ?k3Z ?k4Z ?_; (case k1Z | k2Z | k3Z => k_asm); (case k4Z => k_is)) | (refine' r_cB ?k1Z ?k2Z ?k3Z ?k4Z ?k5Z ?k6Z ?_; (case k1Z | k2Z | k3Z => k_asm); (case k4Z => k_is); (case k5Z => boot_by_name); (case k6Z => decide))))
  (k_with "L call type:int" => ((with_reducible show wpAny _ _ (call (Value.type "int") [Value.int _ _]) _ _ _); refine call_int_int ?_))
  (k_with "L c enterX" => (refine' c_enterX ?k1Z ?k2Z ?k3Z ?k4Z ?k5Z ?kAZ ?kFZ ?kKZ ?k6Z ?k7Z ?k8Z ?k9Z ?kBZ ?kDZ ?_ ?c2Z ?c3Z ?c4Z; (case kAZ | kFZ => exact rfl); (case kKZ => first | assumption | exact rfl); (case k1Z | k2Z | k3Z | k4Z | k5Z => k_asm); (case k6Z | k7Z => k_is); (case k8Z => k_room); (case k9Z => first | exact BindsTo.of_eq rfl | exact binds_K (by k_in) rfl (by k_is) rfl rfl rfl); (case kBZ => exact rfl); (case kDZ => decide +kernel); (case c2Z | c3Z | c4Z => exact rfl); k_whole; intro _ _ _ _ _ _ _ N' Y' _ _ _ l1; (try k_lt l1); (try (revert l1; intro _)); k_cells Y'; (try simp only [List.cons_append, List.nil_append] at N'); (try (revert N'; intro _)); (try dsimp only)))
  (k_with "L c enterXC" => (refine' c_enterXC ?k1Z ?k2Z ?k3Z ?k4Z ?k5Z ?kAZ ?kFZ ?kKZ ?k6Z ?k7Z ?k8Z ?k9Z ?kBZ ?kDZ ?_ ?c2Z ?c3Z ?c4Z; (case kAZ | kFZ => exact rfl); (case kKZ => first | assumption | exact rfl); (case k1Z | k2Z | k3Z | k4Z | k5Z => k_asm); (case k6Z | k7Z => k_is); (case k8Z => k_room); (case k9Z => first | exact BindsTo.of_eq rfl | exact binds_K (by k_in) rfl (by k_is) rfl rfl rfl); (case kBZ => exact rfl); (case kDZ => decide +kernel); (case c2Z | c3Z | c4Z => exact rfl); k_whole; intro _ _ _ _ _ _ _ N' Y' _ _ _ l1 _; (try k_lt l1); (try (revert l1; intro _)); k_cells Y'; (try simp only [List.cons_append, List.nil_append] at N'); (try (revert N'; intro _)); (try dsimp only)))
  (k_with "L storeName" => (refine' r_storeC ?k1Z ?k2Z ?k3Z ?k4Z ?k5Z ?k6Z ?k7Z ?_; (case k6Z | k7Z => rfl); (case k1Z | k2Z => k_asm); (case k3Z => rfl); (case k4Z => k_updF); (case k5Z => assumption); intro _ _ _ N' _; (try dsimp only at N'); (try (revert N'; intro _))))
  (k_with "L eval Name" => (refine' r_nameC ?k1Z ?k2Z ?k3Z ?k4Z ?k5Z ?k6Z ?k7Z ?_; (case k5Z | k6Z => rfl); (case k7Z => decide); (case k1Z => k_asm); (case k2Z => rfl); (case k3Z => k_mem); (case k4Z => assumption)))
  (k_with "L binaryOp Pow int int" => (refine' r_powS ?aZ ?bZ ?cZ ?_; (case aZ | bZ => omega); (case cZ => decide)))
  (k_with "L binaryOp Mult int int" => (refine' r_mulR ?aZ ?_; (case aZ => first | assumption | decide | omega)))
  (k_with "L binaryOp FloorDiv int int" => (refine' r_fdivS ?aZ ?bZ ?_; (case aZ => first | assumption | exact pow256_ne _ | decide | omega); (case bZ => first | assumption | exact pow256_log (by omega) | decide)))
  (k_with "L call type:range" => ((with_reducible show wpAny _ _ (call (Value.type "range") [Value.int _ _]) _ _ _); refine' r_range ?k1Z ?k2Z ?_; (case k1Z | k2Z => k_asm); intro _ _ _ _ _ _ _ _ _ _ l1; (try k_lt l1); (try (revert l1; intro _))))
  (k_with "L call type:bytes" => ((with_reducible show wpAny _ _ (call (Value.type "bytes") [Value.ref _]) _ _ _); refine StopAt.go ?_))
  (k_with "L my look" => first | assumption | exact if_pos rfl | (refine Eq.trans (if_neg (by decide)) ?_; k_extra "L my look") | exact rfl)
  (k_with "L eval Name" => (k_here; k_dflt (refine' r_nameL ?k1Z ?k2Z ?k5Z ?k6Z ?k7Z ?_; (case k5Z | k6Z => rfl); (case k7Z => decide); (case k1Z => k_asm); (case k2Z => k_extra "L my look"); k_whole)))
  (k_with "L binaryOp Add ref ref" => (refine' r_listAdd ?k1Z ?k2Z ?k3Z ?k4Z ?k5Z ?_; (case k1Z | k2Z => k_asm); (case k3Z | k4Z => k_mem); (case k5Z => simp only [List.length_cons, List.length_nil]; omega); intro _ _ _ _ l1; (try k_lt l1); (try (revert l1; intro _))))
  (k_with "L harm" => ((with_reducible show codeC _ _ (Code.whileLoop _ _ [] _) _ _); refine StopAt.go ?_))
  (k_with "L compareOp In bytes ref" => (refine' r_inB ?k2Z ?k3Z ?k4Z ?_; (case k2Z => k_asm); (case k3Z => k_mem); (case k4Z => assumption)))
  (k_with "L call builtin:list.index" => (refine' r_indexB ?k2Z ?k3Z ?k4Z ?k5Z ?k6Z ?_; (case k2Z => k_asm); (case k3Z => k_mem); (case k4Z | k5Z => assumption); (case k6Z => omega); intro _ _))
  (k_with "L my ev" => ((with_reducible show Ev _ _ _ _ _ _ _ (Expr.Name _ _) _ _ _); refine' ev_L ?FZ ?vZ ?aZ ?bZ ?dZ; (case aZ | bZ => rfl); (case dZ => decide); (case FZ => k_asm); (case vZ => k_extra "L my look")))
  (k_with "L call type:bytes" => ((with_reducible show wpAny _ _ (call (Value.type "bytes") [Value.ref _]) _ _ _); k_dflt (refine' r_bytes1 ?k1Z ?k2Z ?k3Z ?k4Z ?k5Z ?k6Z ?_; (case k1Z | k2Z => k_asm); (case k3Z => k_mem); (case k4Z | k5Z => omega); (case k6Z => exact rfl); intro _ _ _ _ _)))
  trivial
inductive readJ (e it : Addr) (rest : List (Addr × Obj)) (ns : List Int) (i : Nat) (m : Str → Option Value) (news : List (Addr × Obj)) : Prop
  | mk (S : RS) (tb : Addr) (vs : List Value) (k : Nat) (tf : Tok) (h1 : m (Str.ofString "table") = some (.ref tb)) (h2 : m (Str.ofString "found") = some (.bytes S.found.toArray tf)) (h3 : ((S.last = none ∧ m (Str.ofString "last") = some .none) ∨ ∃ l tl, S.last = some l ∧ l.length ≤ i ∧ m (Str.ofString "last") = some (.bytes l.toArray tl))) (h4 : news = [(tb, listOf vs.toArray k)]) (h5 : OptAre vs (S.table.map some)) (h6 : tb ≠ e) (h7 : tb ≠ it) (h8 : (∀ p ∈ rest, p.1 ≠ tb)) (h9 : S.table.length ≤ i) (h10 : (∀ b ∈ S.table, b.length ≤ i)) (h11 : S.found.length ≤ 20 * i) (h12 : readL (ns.drop i) S i = readL ns ⟨[], none, []⟩ 0)
theorem read_ok (w : World) (loose : List Str) (mean : ExcName → Option Value) (mg mb : Str → Option Value)
    (l : Addr) (vs : List Value) (ns : List Int) (kl : Nat) (rest : List (Addr × Obj)) (hI : IntsAre vs ns) (hk : ns.length ≤ 15) (hn : ∀ c ∈ ns, 0 ≤ c) (hm : (l, listOf vs.toArray kl) ∈ rest) :
    CallC w loose mean mg mb 10 (.ref 234) [.ref l] rest
      (fun r news' => (readM ns = none ∧ r = .none ∧ news' = rest) ∨ ∃ D out n t1 t2, readM ns = some (out, n) ∧ r = .ref D ∧ news' = (D, { cls := .type "tuple", data := .seq #[.bytes out.toArray t1, .int (n : Nat) t2] }) :: rest) (fun _ => False) := by
  unfold CallC
  intro dp un gd cn cs a ccd cl outer A₀ base h₀ L m s Q E
  k_fill
  obtain ⟨hp', gn, dr, tk0, os⟩ := s
  intro B F X N T hkk hd hu' hret hexc
  refine wpC_call ?_
  k_dflt (walk_at "c enter")
  rename_i gF LF hF0 tF FGF FF NF BF XF TF
  walk_at "c steps"
  rename (∀ p ∈ rest, p.1 < _) => lrest
  rename News gF LF _ _ => N1
  rename Fr gF LF _ _ => F1
  obtain ⟨tb, m9, tf9, lrest', N2, F2, e1, e2, e3⟩ : ∃ tb m9 tf9, (∀ p ∈ rest, @LT.lt Nat _ p.1 tb) ∧ News gF LF _ ((tb, listOf ([] : List Value).toArray 0) :: rest) ∧ Fr gF LF _ m9 ∧ m9 (Str.ofString "table") = some (.ref tb) ∧ m9 (Str.ofString "last") = some .none ∧ m9 (Str.ofString "found") = some (.bytes ([] : List UInt8).toArray tf9) :=
    ⟨_, _, _, lrest, News.sub N1 (by walk_at "my sub"), F1, if_pos rfl, by walk_at "my look", by walk_at "my look"⟩
  clear N1 F1
  refine r_enumL F2 N2 (.tail _ hm) ?_
  intro h2 e it oe oi F3 N3 St lt1 lt2
  have hlv : vs.toArray.size = ns.length := by rw [List.size_toArray]; exact IntsAre.length hI
  have hle := Ne.symm (Nat.ne_of_lt lt2)
  have hl1 : l ≠ e := Nat.ne_of_lt (Nat.lt_trans (lt1 _ (.tail _ hm)) lt2)
  have hl2 : l ≠ it := Nat.ne_of_lt (lt1 _ (.tail _ hm))
  have ltr : ∀ p ∈ rest, @LT.lt Nat _ p.1 it := fun p hp => lt1 p (.tail _ hp)
  have ltb := lt1 _ (.head _)
  dsimp only at ltb
  walk_at "c steps"
  refine (WalksT.enumerate rfl e it l hle hl1 hl2 vs.toArray).toU.self 0 _ _ _ St ?_
  walk_at "c steps"
  refine' codeC_for_walkU (n := vs.toArray.size) (rest := rest) rfl (WalksT.enumerate rfl e it l hle hl1 hl2 vs.toArray).toU (P := fun i x y => (∃ t, x = .int (i : Nat) t) ∧ vs[i]? = some y) ?h2 rfl rfl rfl ?fp ?wr ?some ?r
    (readJ e it rest ns) ?hJ ?turn ?done St F3 (news₀ := [(tb, listOf ([] : List Value).toArray 0)]) (News.sub N3 ?sub) ?start
  case h2 => rintro i vals ⟨t, x, hx, rfl⟩; exact ⟨_, x, rfl, ⟨t, rfl⟩, by simpa using hx⟩
  case fp =>
    intro b hb
    simp only [List.mem_cons, List.not_mem_nil, or_false] at hb
    rcases hb with rfl | rfl | rfl
    · exact .inl (by simp)
    · exact .inl (by simp)
    · exact .inr (.inl ⟨_, hm⟩)
  case wr =>
    intro b hb
    simp only [List.mem_cons, List.not_mem_nil, or_false] at hb
    rcases hb with rfl | rfl
    · exact (N3 _ (.head _)).2
    · exact (N3 _ (.tail _ (.head _))).2
  case some =>
    intro i h hP0 b hb
    refine hideGoal fun G hG => ?_
    obtain ⟨⟨old, a1⟩, ⟨o4, a4, _⟩, _⟩ := hP0
    refine hG ?_
    clear hG G
    simp only [List.mem_cons, List.not_mem_nil, or_false] at hb
    rcases hb with rfl | rfl
    · exact ⟨_, a1⟩
    · exact ⟨_, a4⟩
  case r =>
    intro p hp hm'
    simp only [List.mem_cons, List.not_mem_nil, or_false] at hm'
    rcases hm' with q | q
    · exact Nat.ne_of_lt (Nat.lt_trans (ltr p hp) lt2) q
    · exact Nat.ne_of_lt (ltr p hp) q
  case hJ =>
    intro i m news hP0 p hp hm'
    refine hideGoal fun G hG => ?_
    obtain ⟨S, tb, vs, k, tf, _, _, _, rfl, _, h1, h2, _⟩ := hP0
    refine hG ?_
    clear hG G
    simp only [List.mem_cons, List.not_mem_nil, or_false] at hp hm'
    subst hp
    rcases hm' with q | q
    · exact h1 q
    · exact h2 q
  case sub =>
    intro p hp
    rcases List.mem_append.mp hp with q | q
    · rw [List.mem_singleton] at q; subst q; exact .tail _ (.tail _ (.head _))
    · exact .tail _ (.tail _ (.tail _ q))
  case start =>
    exact ⟨⟨[], none, []⟩, tb, [], 0, _, e1, e3, .inl ⟨rfl, e2⟩, rfl, .nil, Nat.ne_of_lt (Nat.lt_trans ltb lt2), Nat.ne_of_lt ltb, fun p hp => Nat.ne_of_lt (lrest' p hp), Nat.le_refl _, (fun b hb => absurd hb (List.not_mem_nil)), Nat.le_refl _, rfl⟩
  case done =>
    intro m' news h3 tk3 hP0 F4 N4
    refine hideGoal fun G hG => ?_
    obtain ⟨S, tb, vs', k, tf, et, ef, el, rfl, hO, hb1, hb2, hb3, hz1, hz2, hz3, hr⟩ := hP0
    refine hG ?_
    clear hG G
    rw [show ns.drop vs.toArray.size = [] from List.drop_eq_nil_of_le (by omega)] at hr
    walk_at "c steps"
    (rename News h₀ _ _ _ => N9)
    (rename Fr h₀ _ _ _ => F9)
    refine hret _ _ _ _ F9 (News.sub N9 (by walk_at "my sub")) (.inl ⟨hr.symm, rfl, rfl⟩)
  case turn =>
    intro i v v1 m' news own h3 tk3 hi hP0 how hP1 F4 N4
    (try ((with_reducible refine foldC ?_); intro QT))
    refine hideGoal fun G hG => ?_
    obtain ⟨⟨t0, rfl⟩, hvi⟩ := hP0
    obtain ⟨S, tb, vs', k, tf, et, ef, el, rfl, hO, hb1, hb2, hb3, hz1, hz2, hz3, hr⟩ := hP1
    refine hG ?_
    clear hG G
    obtain ⟨c, tc, rfl, hci⟩ := IntsAre.at hI _ _ hvi
    obtain ⟨⟨b1, q1⟩, r1, rfl, ez1, how1⟩ := List.map_eq_cons_iff.mp how
    obtain ⟨⟨b2, q2⟩, r2, rfl, ez2, how2⟩ := List.map_eq_cons_iff.mp how1
    obtain rfl := List.map_eq_nil_iff.mp how2
    dsimp only at ez1 ez2
    subst ez1 ez2
    have hci0 := hn c (List.mem_of_getElem? hci)
    have hil : i < ns.length := by omega
    have hdr : ns.drop i = c :: ns.drop (i + 1) := by
      rw [List.drop_eq_getElem_cons hil]
      rw [List.getElem?_eq_getElem hil] at hci
      rw [Option.some.inj hci]
    rw [hdr, readL] at hr
    clear F2 N2 F3 N3
    have hOl := hO.length
    rw [List.length_map] at hOl
    replace N4 : News gF LF h3 ((tb, listOf vs'.toArray k) :: (b1, q1) :: (b2, q2) :: rest) := N4
    have hOs : vs'.toArray.size = S.table.length := by rw [List.size_toArray]; exact hOl
    have hi14 : i ≤ 14 := by omega
    have ht14 : S.table.length ≤ 14 := Nat.le_trans hz1 hi14
    have hf14 : S.found.length ≤ 280 := Nat.le_trans hz3 (Nat.mul_le_mul_left 20 hi14)
    have hv14 : vs'.length ≤ 14 := by rw [hOl]; exact ht14
    have hw14 : vs'.toArray.size ≤ 14 := by rw [hOs]; exact ht14
    have n1 : @Ne Nat b1 tb := Ne.symm hb1
    have n2 : @Ne Nat b2 tb := Ne.symm hb2
    have n1' : @Ne Nat tb b1 := hb1
    have n2' : @Ne Nat tb b2 := hb2
    have h1l : [c.toNat.toUInt8].length ≤ 1 := Nat.le_refl _
    rcases el with ⟨hl0, el⟩ | ⟨lb, tl, hl0, hlz, el⟩
    · by_cases hin : 258 ≤ c ∧ c - 258 < S.table.length
      · obtain ⟨b, tb', hx, hb, hbz⟩ : ∃ b tb', vs'.toArray[(c - 258).toNat]? = some (.bytes b.toArray tb') ∧ S.table[(c - 258).toNat]? = some b ∧ b.length ≤ i := by
          have hlt : (c - 258).toNat < vs'.length := by omega
          rcases hO.pick _ _ (List.getElem?_eq_getElem hlt) with ⟨b, t', e, e'⟩ | ⟨e, e'⟩
          · rw [List.getElem?_map, Option.map_eq_some_iff] at e'
            obtain ⟨b', hb', e'⟩ := e'
            injection e' with e'; subst e'
            exact ⟨_, _, by rw [List.getElem?_toArray, List.getElem?_eq_getElem hlt, e], hb', hz2 _ (List.mem_of_getElem? hb')⟩
          · rw [List.getElem?_map, Option.map_eq_some_iff] at e'
            obtain ⟨b', hb', e'⟩ := e'; cases e'
        have hcb := cut1_len b
        walk_at "c steps"
        all_goals try (exfalso; first | exact mid1 (by assumption) (by assumption) (by assumption) (by assumption) (by assumption) | exact mid2 (by assumption) (by assumption) | exact mid3 (by assumption) (by assumption) | exact mid4 (by assumption) (by assumption) | omega)
        rename Fr gF LF _ _ => F6
        rename News gF LF _ _ => N6
        have hst := step_in (by omega) hin.2 hb
        rw [hl0] at hst
        refine' ⟨_, _, _, _, rfl, F6, News.sub (news' := [(tb, listOf vs'.toArray k)] ++ (b1, q1) :: (b2, q2) :: rest) N6 (by walk_at "my sub"), (⟨S.table, some b, S.found ++ b⟩ : RS), tb, vs', k, _, ?_, ?_, .inr ⟨b, _, rfl, by omega, ?_⟩, rfl, hO, hb1, hb2, hb3, (Nat.le_succ_of_le hz1), fun x hx => Nat.le_succ_of_le (hz2 x hx), (by show (S.found ++ b).length ≤ _; rw [List.length_append]; exact found_up hz3 (Nat.le_succ_of_le hbz) hi14), read_next hst (by omega) hr⟩
        all_goals first | (show (_ : Option Value) = some _; walk_at "my look") | skip
      · walk_at "c steps"
        all_goals try (exfalso; first | exact mid1 (by assumption) (by assumption) (by assumption) (by assumption) (by assumption) | exact mid2 (by assumption) (by assumption) | exact mid3 (by assumption) (by assumption) | exact mid4 (by assumption) (by assumption) | omega)
        · (try dsimp only [TurnC])
          walk_at "c steps"
          (rename News h₀ _ _ _ => N9)
          (rename Fr h₀ _ _ _ => F9)
          rename (c = 257) => h257
          rw [if_pos h257] at hr
          refine hret _ _ _ _ F9 (News.sub N9 (by walk_at "my sub")) (.inr ⟨_, S.found, i + 1, _, _, hr.symm, rfl, rfl⟩)
        · rename Fr gF LF _ _ => F6
          rename News gF LF _ _ => N6
          rename (_ ∧ _ ∧ _ ∧ AllLt _ rest) => q3
          rename (c = 256) => h256
          refine' ⟨_, _, _, _, rfl, F6, News.sub (news' := [(_, listOf ([] : List Value).toArray 0)] ++ (b1, q1) :: (b2, q2) :: rest) N6 (by walk_at "my sub"), ({ S with table := [], last := none } : RS), _, [], 0, _, ?_, ?_, .inl ⟨rfl, ?_⟩, rfl, .nil, Ne.symm (Nat.ne_of_lt q3.2.1), Ne.symm (Nat.ne_of_lt q3.2.2.1), allLt_ne q3.2.2.2, Nat.zero_le _, (fun b hb => absurd hb (List.not_mem_nil)), (by show S.found.length ≤ _; omega), read_next (by rw [h256]; exact step_clear) (by omega) hr⟩
          all_goals first | (show (_ : Option Value) = some _; walk_at "my look") | skip
        · rename Fr gF LF _ _ => F6
          rename News gF LF _ _ => N6
          have hst := step_small (S := S) (c := c) (by omega)
          rw [hl0] at hst
          refine' ⟨_, _, _, _, rfl, F6, News.sub (news' := [(tb, listOf vs'.toArray k)] ++ (b1, q1) :: (b2, q2) :: rest) N6 (by walk_at "my sub"), (⟨S.table, some [c.toNat.toUInt8], S.found ++ [c.toNat.toUInt8]⟩ : RS), tb, vs', k, _, ?_, ?_, .inr ⟨[c.toNat.toUInt8], _, rfl, by show 1 ≤ i + 1; omega, ?_⟩, rfl, hO, hb1, hb2, hb3, (Nat.le_succ_of_le hz1), fun x hx => Nat.le_succ_of_le (hz2 x hx), (by show (S.found ++ [c.toNat.toUInt8]).length ≤ _; rw [List.length_append]; omega), read_next hst (by omega) hr⟩
          all_goals first | (show (_ : Option Value) = some _; walk_at "my look") | skip
        all_goals
          have hno := read_none (step_fall (S := S) (c := c) (by omega) (by omega) (fun _ => hl0)) (by omega) hr
          (try dsimp only)
          walk_at "c steps"
          (try dsimp only [TurnC])
          walk_at "c steps"
          (rename News h₀ _ _ _ => N9)
          (rename Fr h₀ _ _ _ => F9)
          refine hret _ _ _ _ F9 (News.sub N9 (by walk_at "my sub")) (.inl ⟨hno, rfl, rfl⟩)
    · have hz20 := hz2
      have hcl := cut1_len lb
      have hl14 : lb.length ≤ 14 := Nat.le_trans hlz hi14
      have hlc : (lb ++ cut none (some 1) lb).length ≤ i + 1 := by rw [List.length_append]; omega
      by_cases hin : 258 ≤ c ∧ c - 258 < S.table.length
      · obtain ⟨b, tb', hx, hb, hbz⟩ : ∃ b tb', vs'.toArray[(c - 258).toNat]? = some (.bytes b.toArray tb') ∧ S.table[(c - 258).toNat]? = some b ∧ b.length ≤ i := by
          have hlt : (c - 258).toNat < vs'.length := by omega
          rcases hO.pick _ _ (List.getElem?_eq_getElem hlt) with ⟨b, t', e, e'⟩ | ⟨e, e'⟩
          · rw [List.getElem?_map, Option.map_eq_some_iff] at e'
            obtain ⟨b', hb', e'⟩ := e'
            injection e' with e'; subst e'
            exact ⟨_, _, by rw [List.getElem?_toArray, List.getElem?_eq_getElem hlt, e], hb', hz2 _ (List.mem_of_getElem? hb')⟩
          · rw [List.getElem?_map, Option.map_eq_some_iff] at e'
            obtain ⟨b', hb', e'⟩ := e'; cases e'
        have hcb := cut1_len b
        walk_at "c steps"
        all_goals try (exfalso; first | exact mid1 (by assumption) (by assumption) (by assumption) (by assumption) (by assumption) | exact mid2 (by assumption) (by assumption) | exact mid3 (by assumption) (by assumption) | exact mid4 (by assumption) (by assumption) | omega)
        · rename Fr gF LF _ _ => F6
          rename News gF LF _ _ => N6
          have hst := step_in (by omega) hin.2 hb
          rw [hl0] at hst
          rw [List.push_toArray] at N6
          simp only [cut1] at N6
          try simp only [cut1] at F6
          refine' ⟨_, _, _, _, rfl, F6, News.sub (news' := [(tb, listOf (vs' ++ [Value.bytes (lb ++ List.take 1 (b)).toArray _]).toArray (k + 1))] ++ (b1, q1) :: (b2, q2) :: rest) N6 (by walk_at "my sub"), (⟨S.table ++ [lb ++ List.take 1 (b)], some (b), S.found ++ (b)⟩ : RS), tb, _, k + 1, _, ?_, ?_, .inr ⟨b, _, rfl, ?_, ?_⟩, rfl, (by rw [List.map_append]; exact hO.snoc), hb1, hb2, hb3, ?_, ?_, ?_, read_next hst (by omega) hr⟩
          all_goals first | (show (_ : Option Value) = some _; walk_at "my look") | skip
          · exact Nat.le_succ_of_le hbz
          · show (S.table ++ [lb ++ List.take 1 (b)]).length ≤ i + 1
            rw [List.length_append]; exact Nat.succ_le_succ hz1
          · intro x hx
            rcases List.mem_append.mp hx with hx | hx
            · exact Nat.le_succ_of_le (hz2 x hx)
            · rw [List.mem_singleton.mp hx, List.length_append, List.length_take]; exact Nat.add_le_add hlz (Nat.min_le_left _ _)
          · show (S.found ++ (b)).length ≤ 20 * (i + 1)
            have : (b).length ≤ i + 1 := by exact Nat.le_succ_of_le hbz
            rw [List.length_append]; exact found_up hz3 this hi14
      · walk_at "c steps"
        all_goals try (exfalso; first | exact mid1 (by assumption) (by assumption) (by assumption) (by assumption) (by assumption) | exact mid2 (by assumption) (by assumption) | exact mid3 (by assumption) (by assumption) | exact mid4 (by assumption) (by assumption) | omega)
        · (try dsimp only [TurnC])
          walk_at "c steps"
          (rename News h₀ _ _ _ => N9)
          (rename Fr h₀ _ _ _ => F9)
          rename (c = 257) => h257
          rw [if_pos h257] at hr
          refine hret _ _ _ _ F9 (News.sub N9 (by walk_at "my sub")) (.inr ⟨_, S.found, i + 1, _, _, hr.symm, rfl, rfl⟩)
        · rename Fr gF LF _ _ => F6
          rename News gF LF _ _ => N6
          rename (_ ∧ _ ∧ _ ∧ AllLt _ rest) => q3
          rename (c = 256) => h256
          refine' ⟨_, _, _, _, rfl, F6, News.sub (news' := [(_, listOf ([] : List Value).toArray 0)] ++ (b1, q1) :: (b2, q2) :: rest) N6 (by walk_at "my sub"), ({ S with table := [], last := none } : RS), _, [], 0, _, ?_, ?_, .inl ⟨rfl, ?_⟩, rfl, .nil, Ne.symm (Nat.ne_of_lt q3.2.1), Ne.symm (Nat.ne_of_lt q3.2.2.1), allLt_ne q3.2.2.2, Nat.zero_le _, (fun b hb => absurd hb (List.not_mem_nil)), (by show S.found.length ≤ _; omega), read_next (by rw [h256]; exact step_clear) (by omega) hr⟩
          all_goals first | (show (_ : Option Value) = some _; walk_at "my look") | skip
        · rename Fr gF LF _ _ => F6
          rename News gF LF _ _ => N6
          have hst := step_small (S := S) (c := c) (by omega)
          rw [hl0] at hst
          rw [List.push_toArray] at N6
          simp only [cut1] at N6
          try simp only [cut1] at F6
          refine' ⟨_, _, _, _, rfl, F6, News.sub (news' := [(tb, listOf (vs' ++ [Value.bytes (lb ++ List.take 1 ([c.toNat.toUInt8])).toArray _]).toArray (k + 1))] ++ (b1, q1) :: (b2, q2) :: rest) N6 (by walk_at "my sub"), (⟨S.table ++ [lb ++ List.take 1 ([c.toNat.toUInt8])], some ([c.toNat.toUInt8]), S.found ++ ([c.toNat.toUInt8])⟩ : RS), tb, _, k + 1, _, ?_, ?_, .inr ⟨[c.toNat.toUInt8], _, rfl, ?_, ?_⟩, rfl, (by rw [List.map_append]; exact hO.snoc), hb1, hb2, hb3, ?_, ?_, ?_, read_next hst (by omega) hr⟩
          all_goals first | (show (_ : Option Value) = some _; walk_at "my look") | skip
          · exact Nat.succ_le_succ (Nat.zero_le _)
          · show (S.table ++ [lb ++ List.take 1 ([c.toNat.toUInt8])]).length ≤ i + 1
            rw [List.length_append]; exact Nat.succ_le_succ hz1
          · intro x hx
            rcases List.mem_append.mp hx with hx | hx
            · exact Nat.le_succ_of_le (hz2 x hx)
            · rw [List.mem_singleton.mp hx, List.length_append, List.length_take]; exact Nat.add_le_add hlz (Nat.min_le_left _ _)
          · show (S.found ++ ([c.toNat.toUInt8])).length ≤ 20 * (i + 1)
            have : ([c.toNat.toUInt8]).length ≤ i + 1 := by exact Nat.succ_le_succ (Nat.zero_le _)
            rw [List.length_append]; exact found_up hz3 this hi14
        · rename Fr gF LF _ _ => F6
          rename News gF LF _ _ => N6
          have hst := step_new (S := S) (c := c) (by omega) (by omega) hl0
          skip
          rw [List.push_toArray] at N6
          simp only [cut1] at N6
          try simp only [cut1] at F6
          refine' ⟨_, _, _, _, rfl, F6, News.sub (news' := [(tb, listOf (vs' ++ [Value.bytes (lb ++ List.take 1 (lb ++ List.take 1 lb)).toArray _]).toArray (k + 1))] ++ (b1, q1) :: (b2, q2) :: rest) N6 (by walk_at "my sub"), (⟨S.table ++ [lb ++ List.take 1 (lb ++ List.take 1 lb)], some (lb ++ List.take 1 lb), S.found ++ (lb ++ List.take 1 lb)⟩ : RS), tb, _, k + 1, _, ?_, ?_, .inr ⟨lb ++ List.take 1 lb, _, rfl, ?_, ?_⟩, rfl, (by rw [List.map_append]; exact hO.snoc), hb1, hb2, hb3, ?_, ?_, ?_, read_next hst (by omega) hr⟩
          all_goals first | (show (_ : Option Value) = some _; walk_at "my look") | skip
          · rw [List.length_append, List.length_take]; exact Nat.add_le_add hlz (Nat.min_le_left _ _)
          · show (S.table ++ [lb ++ List.take 1 (lb ++ List.take 1 lb)]).length ≤ i + 1
            rw [List.length_append]; exact Nat.succ_le_succ hz1
          · intro x hx
            rcases List.mem_append.mp hx with hx | hx
            · exact Nat.le_succ_of_le (hz2 x hx)
            · rw [List.mem_singleton.mp hx, List.length_append, List.length_take]; exact Nat.add_le_add hlz (Nat.min_le_left _ _)
          · show (S.found ++ (lb ++ List.take 1 lb)).length ≤ 20 * (i + 1)
            have : (lb ++ List.take 1 lb).length ≤ i + 1 := by rw [List.length_append, List.length_take]; exact Nat.add_le_add hlz (Nat.min_le_left _ _)
            rw [List.length_append]; exact found_up hz3 this hi14
        · have hno := read_none (step_fall (S := S) (c := c) (by omega) (by omega) (fun q => by omega)) (by omega) hr
          (try dsimp only)
          walk_at "c steps"
          (try dsimp only [TurnC])
          walk_at "c steps"
          (rename News h₀ _ _ _ => N9)
          (rename Fr h₀ _ _ _ => F9)
          refine hret _ _ _ _ F9 (News.sub N9 (by walk_at "my sub")) (.inl ⟨hno, rfl, rfl⟩)
theorem reg_PLaw : True := by
  k_with_none
  (k_with "L om" => first | with_reducible assumption | (with_reducible refine Ne.symm ?_; assumption) | ((with_reducible refine low1 (by assumption) ?_); exact rfl) | ((with_reducible refine low2 (by assumption) ?_); exact rfl) | ((with_reducible refine low7 (by assumption) ?_); exact rfl) | with_reducible exact low8 (by assumption) | ((with_reducible refine low3 (by assumption) ?_); exact rfl) | ((with_reducible refine low4 (by assumption) ?_); exact rfl) | with_reducible exact low5 (by assumption) | with_reducible exact low6 (by assumption) | with_reducible exact And.left (by assumption) | with_reducible exact And.right (by assumption) | with_reducible exact And.intro (by assumption) (by assumption) | ((with_reducible refine low9 (by assumption) ?_); exact rfl) | ((with_reducible refine low10 (by assumption) ?_); exact rfl) | ((with_reducible refine low12 (by assumption) ?_); exact rfl) | with_reducible exact Nat.le_succ_of_le (by assumption) | with_reducible exact Nat.add_le_add (by assumption) (Nat.min_le_left _ _) | ((with_reducible refine low16 (by assumption) (by assumption) ?_); exact rfl) | with_reducible exact low17 (by assumption) (by assumption) | with_reducible exact low18 (by assumption) | with_reducible exact low19 (by assumption) (by assumption) | with_reducible exact low20 (by assumption) | with_reducible exact And.intro (Int.emod_nonneg _ (by decide)) (Int.emod_lt_of_pos _ (by decide)) | ((with_reducible refine low21 (by assumption) ?_); exact rfl) | ((with_reducible refine low22 (by assumption) ?_); exact rfl) | with_reducible exact low6 (And.left (by assumption)) | with_reducible exact low6 (And.left (And.right (by assumption))) | with_reducible exact low6 (And.left (And.right (And.right (by assumption)))) | with_reducible exact low6 (And.left (And.right (And.right (And.right (by assumption))))) | with_reducible exact low6 (And.right (by assumption)) | lia | with_reducible contradiction)
  (k_with "L my putL" => first | with_reducible exact putL_d4 | with_reducible exact putL_d5 | with_reducible exact putL_d6 | with_reducible exact putL_d7 | with_reducible exact putL_d8 | with_reducible exact putL_d2 | with_reducible exact putL_d3 | (refine' putL_hd ?xZ; (case xZ => decide +kernel)) | (refine' putL_tl ?xZ ?yZ; (case xZ => decide +kernel); (case yZ => k_extra "L my putL")))
  (k_with "L my putN" => first | with_reducible exact putN_d4 | with_reducible exact putN_d5 | with_reducible exact putN_d6 | with_reducible exact putN_d7 | with_reducible exact putN_d8 | with_reducible exact putN_d2 | with_reducible exact putN_d3 | (refine' putN_hd ?xZ; (case xZ => decide +kernel)) | (refine' putN_tl ?xZ ?yZ; (case xZ => decide +kernel); (case yZ => k_extra "L my putN")))
  (k_with "L all" => first | assumption | exact allLt_ne (by assumption) | exact allLt_ne (And.right (by assumption)) | exact allLt_ne (And.right (And.right (by assumption))) | exact allLt_ne (And.right (And.right (And.right (by assumption)))))
  (k_with "L room" => ((try simp only [depth_under_make, depth_under_kw, depth_in1, depth_deeper, depth_caller]); (try dsimp only [ktrTop]); omega))
  (k_with "L execs cons" => (refine r_consL ?_; intro _))
  (k_with "L execs nil" => refine wpAny_execs_nil ?_)
  (k_with "L exec If" => refine wpAny_If ?_)
  (k_with "L eval Constant int" => refine r_int ?_)
  (k_with "L eval Constant bytes" => refine r_bytes ?_)
  (k_with "L eval Constant str" => refine r_str ?_)
  (k_with "L binaryOp Add int int" => refine r_add ?_)
  (k_with "L binaryOp Sub int int" => refine r_sub ?_)
  (k_with "L binaryOp BitAnd int int" => refine r_and ?_)
  (k_with "L binaryOp BitOr int int" => refine r_or ?_)
  (k_with "L binaryOp RShift int int" => (refine' r_shr ?aZ ?_; (case aZ => omega)))
  (k_with "L binaryOp Mod int int" => (refine' r_mod ?aZ ?_; (case aZ => omega)))
  (k_with "L binaryOp LShift int int" => first | with_reducible refine r_shl09 ?_ | with_reducible refine r_shl10 ?_ | with_reducible refine r_shl12 ?_ | with_reducible refine r_shl28 ?_ | (refine' r_shl ?aZ ?bZ ?cZ ?_; (case aZ | bZ | cZ => omega)))
  (k_with "L call builtin:len" => ( (with_reducible show wpAny _ _ (call (Value.builtin "len") [Value.ref _]) _ _ _); refine' r_len ?NZ ?mZ ?zZ ?_; (case NZ => k_asm); (case mZ => k_mem); (case zZ => first | omega | (simp only [List.size_toArray, Array.size_push] at *; omega))))
  (k_with "L getAttr ref" => (k_here; k_dflt ( refine' r_getattr ?k1Z ?k2Z ?k3Z ?k4Z ?k5Z ?k6Z ?k7Z ?k8Z ?k9Z ?_; (case k1Z | k2Z => k_asm); (case k3Z => k_inst); (case k4Z | k5Z | k6Z | k7Z => k_is); (case k8Z => k_get); (case k9Z => k_handed); k_whole)))
  (k_with "L setAttr ref" => (k_here; k_dflt (first | (refine' r_setattr ?k1Z ?k2Z ?k3Z ?k4Z ?k5Z ?k6Z ?k7Z ?k8Z ?k9Z ?k10Z ?k11Z ?k11bZ ?k12Z ?k13Z ?_; (case k1Z | k2Z | k3Z => k_asm); (case k4Z => k_inst); (case k5Z => exact rfl); (case k6Z | k7Z | k8Z | k9Z => k_is); (case k10Z => k_get); (case k11Z => (intro _; k_extra "L my putL")); (case k11bZ => k_extra "L my putN"); (case k12Z => k_upd); (case k13Z => exact Nat.le_of_ble_eq_true rfl); k_whole; intro _ _ _ _; (try k_sweep)) | (refine' r_newattr ?k1Z ?k2Z ?k3Z ?k4Z ?k5Z ?k6Z ?k7Z ?k8Z ?k9Z ?k10Z ?k11Z ?k12Z ?k13Z ?_; (case k1Z | k2Z | k3Z => k_asm); (case k4Z => k_inst); (case k5Z => exact rfl); (case k6Z | k7Z | k8Z | k9Z => k_is); (case k10Z => k_get); (case k11Z => exact rfl); (case k12Z => exact Nat.le_of_ble_eq_true rfl); (case k13Z => k_updF); k_whole; intro _ _ _ _ _ N'; (dsimp only [List.cons_append, List.nil_append] at N'); (try (revert N'; intro _)); (try k_sweep)))))
  (k_with "L storeName" => (k_here; k_dflt ( refine' r_store ?k1Z ?k2Z ?k3Z ?k4Z ?_; (case k1Z | k2Z => k_asm); (case k3Z | k4Z => rfl); k_whole; intro _ _ _ _; (try k_sweep))))
  (k_with "L newList" => (k_here; k_dflt (refine' r_newList ?k1Z ?k2Z ?k3Z ?_; (case k1Z | k2Z => k_asm); (case k3Z => exact Nat.le_of_ble_eq_true rfl); k_whole); intro _ _ _ _ l1; (try k_lt l1); (try (revert l1; intro _)); (try k_sweep)))
  (k_with "L call builtin:list.append" => (k_here; (with_reducible show wpAny _ _ (call (Value.builtin _) [Value.ref _, _]) _ _ _); k_dflt (refine' r_append ?k1Z ?k2Z ?k3Z ?zZ ?_; (case k1Z | k2Z => k_asm); (case k3Z => k_upd); (case zZ => first | omega | (simp only [List.size_toArray, Array.size_push] at *; omega)); k_whole); intro _ _ _; (try k_sweep)))
  (k_with "L my enter" => (refine' r_enter ?k1Z ?k2Z ?k3Z ?k4Z ?k5Z ?kAZ ?kFZ ?kKZ ?k6Z ?k7Z ?k8Z ?k9Z ?kBZ ?_ ?c2Z ?c3Z ?c4Z ?c5Z; (case kAZ | kFZ => exact rfl); (case kKZ => first | assumption | exact rfl); (case k1Z | k2Z | k3Z | k4Z | k5Z => k_asm); (case k6Z | k7Z => k_is); (case k8Z => k_room); (case k9Z => first | exact BindsTo.of_eq rfl | exact binds_K (by k_in) rfl (by k_is) rfl rfl rfl); (case c5Z => decide); (case kBZ => exact locs rfl); (case c2Z | c3Z | c4Z => exact rfl); k_whole; intro _ _ _ _ _ _ _ _ _ _; (try dsimp only); (try k_fold)))
  (k_with "L my class" => (refine' call_cls ?k1Z ?k2Z ?k3Z ?k4Z ?k5Z ?k6Z ?_; (case k1Z | k2Z | k3Z => k_asm); (case k4Z | k5Z | k6Z => k_is); k_whole; intro _ _ _ _ _ l1 l2; (try k_lt l1); (try (revert l1; intro _)); (try k_lt2 l2); (try (revert l2; intro _)); (try k_sweep); k_extra "L my enter"))
  (k_with "L call ref" => (k_here; k_dflt (first | k_extra "L my class" | (refine wpAny_call ?_; k_extra "L my enter"))))
  (k_with "L my sub" => first | exact mem_all | (refine List.forall_mem_cons.mpr ⟨?_, ?_⟩; (k_mem); k_extra "L my sub") | exact List.forall_mem_nil _ | (refine mem_step ?_; k_extra "L my sub"))
  (k_with "L my blen" => first | k_extra "L om" | exact Nat.zero_le _ | ((simp only [List.length_append, List.length_cons, List.length_nil, List.length_take, List.length_drop]); omega) | omega | exact Nat.le_trans (cut_length _ _ _) (by omega) | (simp only [List.length_append, List.length_cons, List.length_nil, List.length_take, List.length_drop]; omega))
  (k_with "L binaryOp Add bytes bytes" => (refine' r_badd ?zZ ?z2Z ?_; (case zZ | z2Z => k_extra "L my blen"); intro _ _))
  (k_with "L compareOp Eq bytes bytes" => refine r_beq ?_)
  (k_with "L subscriptTail" => (k_here; (with_reducible show wpAny _ _ (subscriptTail _ (Expr.Slice _ _ none _) (Value.bytes _ _) (Value.ref _)) _ _ _); k_dflt (refine' r_slice ?FZ ?NZ ?lZ ?uZ ?zZ ?_ ?sZ ?tZ; (case FZ | NZ => k_asm); (case lZ | uZ => constructor); (case zZ => omega); (case sZ => with_unfolding_all rfl); (case tZ => intro _; with_unfolding_all rfl)); intro _ _ _ _ _; (try k_sweep)))
  (k_with "L subscriptTail" => (k_here; (with_reducible show wpAny _ _ (subscriptTail _ _ (Value.ref _) (Value.int _ _)) _ _ _); k_dflt (refine' r_item ?NZ ?mZ ?aZ ?bZ ?xZ ?_ ?sZ ?tZ; (case NZ => k_asm); (case mZ => k_mem); (case aZ | bZ => omega); (case xZ => first | assumption | rfl); (case sZ => with_unfolding_all rfl); (case tZ => intro _; with_unfolding_all rfl))))
  (k_with "L my ev" => first | ((with_reducible show Ev _ _ _ _ _ _ _ (Expr.Constant _ _ _) _ _ _); first | exact ev_int | (intro _ _ Hx; walk1; with_reducible exact Hx)) | ((with_reducible show Ev _ _ _ _ _ _ _ (Expr.Name _ _) _ _ _); first | (refine' ev_L ?FZ ?vZ ?aZ ?bZ ?dZ; (case FZ => k_asm); (case aZ | bZ => rfl); (case dZ => decide); (case vZ => rfl)) | (intro _ _ Hx; walk1; with_reducible exact Hx)) | ((with_reducible show Ev _ _ _ _ _ _ _ (Expr.Attribute _ _ _) _ _ _); refine' ev_attr ?k1Z ?k2Z ?vZ ?k3Z ?k4Z ?k5Z ?k6Z ?k7Z ?k8Z ?k9Z ?aZ ?bZ ?dZ; (case k1Z | k2Z => k_asm); (case aZ | bZ => rfl); (case dZ => decide); (case vZ => rfl); (case k3Z => k_inst); (case k4Z | k5Z | k6Z | k7Z => k_is); (case k8Z => k_get); (case k9Z => k_handed)) | ((with_reducible show Ev _ _ _ _ _ _ _ (Expr.BinOp _ _ _ _) _ _ _); refine' ev_bin ?lZ ?rZ ?oZ; (case lZ | rZ => k_extra "L my ev"); (case oZ => (intro _ _ Hx; walk1; with_reducible exact Hx))) | ((with_reducible show Ev _ _ _ _ _ _ _ (Expr.Call (Expr.Name (Str.ofString "len") _) [_] [] _) _ _ _); intro _ _ Hx; (repeat walk1); with_reducible exact Hx))
  (k_with "L eval BinOp" => (k_here; k_dflt (refine' ev_use ?hZ ?_; (case hZ => k_extra "L my ev"); k_whole)))
  (k_with "L eval Attribute Name" => (k_here; k_dflt (refine' ev_use ?hZ ?_; (case hZ => k_extra "L my ev"); k_whole)))
  (k_with "L isTrue Compare" => (k_here; k_dflt (refine' ev_isTrue ?lZ ?rZ ?oZ ?mZ ?_; (case lZ | rZ => k_extra "L my ev"); (case oZ => (intro _ _ Hx; walk1; with_reducible exact Hx)); (case mZ => with_unfolding_all rfl); k_whole)))
  (k_with "L call ref" => (k_here; (with_reducible show wpAny _ _ (call (Value.ref 45) _) _ _ _); refine' r_excMake ?k1Z ?k2Z ?k3Z ?k4Z ?k5Z ?k6Z ?k7Z ?_; (case k1Z | k2Z | k3Z => k_asm); (case k4Z => exact Nat.le_of_ble_eq_true rfl); (case k5Z => kernel_rfl); (case k6Z | k7Z => k_is); k_whole; intro _ _ _ _ _ l1; (try k_lt l1); (try (revert l1; intro _)); (try k_sweep); k_extra "L my enter"))
  (k_with "L setAttr ref" => (k_here; (with_reducible show wpAny _ _ (setAttr _ "told" (Value.bytes _ _)) _ _ _); refine' r_excSet ?k1Z ?k2Z ?k3Z ?k4Z ?_; (case k1Z | k2Z | k3Z => k_asm); (case k4Z => k_updF); k_whole; intro _ _ _ _ _ _ _ l1; (try k_lt l1); (try (revert l1; intro _)); (try k_sweep)))
  (k_with "L Inst45" => (k_here; k_dflt (refine' ⟨_, _, _, rfl, ?aZ, ?cZ, ?dZ, ?eZ, ?bZ, ?_⟩; (case aZ => exact (News.get (by k_asm) (by k_mem))); (case cZ | dZ | eZ => exact rfl); (case bZ => exact Frag.In.keeps (by k_asm) (Fr.keep (by k_asm))); k_whole)))
  (k_with "L exec Raise some none" => (k_here; k_dflt (refine' r_raise ?aZ ?_; (case aZ => rfl); k_whole)))
  (k_with "L my nes" => first | exact List.forall_mem_nil _ | k_all | (refine List.forall_mem_cons.mpr ⟨?_, ?_⟩; (show @Ne Nat _ _; omega); k_extra "L my nes"))
  (k_with "L leaving ref" => (k_here; (rename Gone _ _ _ _ _ => gX); (rename Heap.UpToSlots _ _ => uX); k_dflt (refine' leave_more ?KZ ?FZ ?fZ ?RZ ?UZ ?_; (case KZ => assumption); (case RZ => exact gX); (case UZ => exact uX); (case FZ => assumption); (case fZ => exact rfl); k_whole); (try clear gX uX); intro _ _ _))
  (k_with "L leaving ref" => (k_here; k_dflt (refine' leave_first ?KZ ?FZ ?fZ ?kZ ?NZ ?aZ ?bZ ?_; (case KZ | FZ => assumption); (case fZ | kZ => exact rfl); (case NZ => assumption); (case aZ => k_extra "L my nes"); (case bZ => (show @Ne Nat _ _; omega)); k_whole); intro _ _ _))
  (k_with "L c enter" => (refine' c_enter ?k1Z ?k2Z ?k3Z ?k4Z ?k5Z ?kAZ ?kFZ ?kKZ ?k6Z ?k7Z ?k8Z ?k9Z ?kBZ ?_ ?c2Z ?c3Z ?c4Z ?c5Z; (case kAZ | kFZ => exact rfl); (case kKZ => first | assumption | exact rfl); (case k1Z | k2Z | k3Z | k4Z | k5Z => k_asm); (case k6Z | k7Z => k_is); (case k8Z => k_room); (case k9Z => first | exact BindsTo.of_eq rfl | exact binds_K (by k_in) rfl (by k_is) rfl rfl rfl); (case c5Z => decide); (case kBZ => exact locs rfl); (case c2Z | c3Z | c4Z => exact rfl); k_whole; intro _ _ _ _ _ _ _ _ _ _; (try dsimp only)))
  (k_with "L keep at" => first | ((with_reducible show KeepAt _ (Value.ref _) _); refine keep_ref (by k_in) (by k_is)) | exact keep_append | exact keep_extend | exact keep_bytearray | exact ⟨.machine, .inr (.inl rfl), Looks.of_pure (by kernel_rfl)⟩)
  (k_with "L c call" => ( (with_reducible show wpC _ _ (call (Value.builtin "bytearray.append") [Value.ref _, Value.int _ _]) _ _ _); k_dflt (refine' c_append ?k1Z ?k2Z ?k3Z ?k4Z ?k5Z ?zZ ?_; (case k1Z | k2Z => k_asm); (case k3Z => k_upd); (case k4Z | k5Z => omega); (case zZ => k_extra "L my blen"); k_whole); intro _ _ _; (try k_sweep)))
  (k_with "L c call" => ( (with_reducible show wpC _ _ (call (Value.builtin "bytearray.extend") [Value.ref _, Value.bytes _ _]) _ _ _); k_dflt (refine' c_extend ?k1Z ?k2Z ?k3Z ?zZ ?_; (case k1Z | k2Z => k_asm); (case k3Z => k_upd); (case zZ => k_extra "L my blen"); k_whole); intro _ _ _; (try k_sweep)))
  (k_with "L c call" => ( (with_reducible show wpC _ _ (call (Value.type "bytearray") []) _ _ _); k_dflt (refine' c_new ?k1Z ?k2Z ?_; (case k1Z | k2Z => k_asm); k_whole); intro _ _ _ _ l1; (try k_lt l1); (try (revert l1; intro _)); (try k_sweep)))
  (k_with "L getMethod ref" => (k_here; (with_reducible show wpAny _ _ (getMethod (Value.ref _) (PySem.Str.ofString "extend") _) _ _ _); k_dflt (refine' (meth_extend ?xZ).here ?_; (case xZ => exact (News.get (by k_asm) (by k_mem))); k_whole)))
  (k_with "L getMethod ref" => (k_here; (with_reducible show wpAny _ _ (getMethod (Value.ref _) (PySem.Str.ofString "append") _) _ _ _); k_dflt (refine' (meth_append ?xZ).here ?_; (case xZ => exact (News.get (by k_asm) (by k_mem))); k_whole)))
  (k_with "L harm" => fail "no harm")
  (k_with "L cw" => first | ((with_reducible refine c_consL ?_); intro _) | with_reducible refine c_nil ?_ | k_extra "L harm" | with_reducible refine c_If ?_ | ((with_reducible show wpC _ _ (isTrue (Expr.Compare (Expr.Call _ _ _ _) _ _ _) _ _) _ _ _); refine c_isTrue ?_) | with_reducible refine ofA_isTrue ?_ | ((with_reducible show wpC _ _ (exec (Stmt.Expr (Expr.Call _ _ _ _) _) _) _ _ _); refine c_Expr ?_) | with_reducible refine c_Assign ?_ | ((with_reducible show wpC _ _ (exec (Stmt.Assign [Expr.Attribute _ _ _] (Expr.Call _ _ _ _) _) _) _ _ _); refine c_AssignA ?_) | with_reducible refine c_Return ?_ | with_reducible refine ofA_exec ?_ | with_reducible refine c_Meth ?_ | with_reducible refine c_Call ?_ | ((with_reducible show wpC _ _ (eval (Expr.BinOp _ _ _ _) _) _ _ _); k_dflt (refine' ofA_eval (ev_use ?hZ ?_); (case hZ => k_extra "L my ev"); k_whole)) | with_reducible refine c_BinOp ?_ | with_reducible refine c_Compare ?_ | with_reducible refine c_And ?_ | with_reducible refine c_And1 ?_ | with_reducible refine ofA_eval ?_ | with_reducible refine c_args ?_ | with_reducible refine c_args0 ?_ | with_reducible refine c_with1 ?_ | ((with_reducible show wpC _ _ (callWith _ _ _ _ _) _ _ _); refine c_with0 (by k_extra "L keep at") ?_) | ((with_reducible show KeepAt _ _ _ ∧ _); refine ⟨by k_extra "L keep at", ?_⟩; (try dsimp only [List.cons_append, List.nil_append])) | k_extra "L c call" | with_reducible refine ofA_call ?_ | with_reducible refine c_ite1 (by assumption) ?_ | with_reducible refine c_ite0 (by assumption) ?_)
  (k_with "L c steps" => repeat' (first | ((with_reducible show wpAny _ _ _ _ _ _); walk1) | k_extra "L cw" | (k_unfold; (try dsimp only)) | ((show (_ : Flow → Shared → Prop) _ _); k_unfold; (try dsimp only)) | (k_end; wrow_close) | walk1 | (dsimp only; walk1) | (leave1; try dsimp only) | (dsimp only; k_extra "L cw") | fail "no step"))
  (k_with "L c call" => ( (with_reducible show wpC _ _ (call (Value.type "enumerate") [Value.bytes _ _]) _ _ _); k_dflt (refine' wpC_of_any (r_enumB ?k1Z ?k2Z ?_); (case k1Z | k2Z => k_asm); k_whole); intro _ _ _ _ _ l1 l2; (try k_lt l1); (try (revert l1; intro _)); (try k_lt2 l2); (try (revert l2; intro _)); (try k_sweep)))
  (k_with "L call type:bytes" => ((with_reducible show wpAny _ _ (call (Value.type "bytes") [Value.bytes _ _]) _ _ _); refine r_bytesB ?_))
  (k_with "L call type:bytes" => ((with_reducible show wpAny _ _ (call (Value.type "bytes") [Value.ref _]) _ _ _); k_dflt (refine' r_bytesBa ?aZ ?zZ ?_; (case aZ => exact (News.get (by k_asm) (by k_mem))); (case zZ => k_extra "L my blen"); k_whole); intro _ _))
  (k_with "L harm" => first | ((with_reducible show wpC _ _ (exec (Stmt.For _ _ _ [] _) _) _ _ _); refine c_For ?_) | ((with_reducible show wpC _ _ (pyIter _) _ _ _); refine wpC_of_any ?_))
  (k_with "L harm" => first | ((with_reducible show wpC _ _ (exec (Stmt.For _ _ _ [] _) _) _ _ _); refine c_For ?_) | ((with_reducible show wpC _ _ (exec (Stmt.While _ _ [] _) _) _ _ _); refine c_WhileR ?_) | ((with_reducible show codeC _ _ (Code.whileLoop _ _ [] _) _ _); refine codeC_while1 ?_) | ((with_reducible show LoopR _ _ _ _ _ _ _ _); dsimp only [LoopR]) | ((with_reducible show wpC _ _ (pyIter _) _ _ _); refine wpC_of_any ?_))
  (k_with "L harm" => ((with_reducible show wpC _ _ (exec (Stmt.Try _ (_ :: _) [] [] _) _) _ _ _); refine c_Try ?_))
  (k_with "L c enterC" => (refine' c_enterC ?k1Z ?k2Z ?k3Z ?k4Z ?k5Z ?kAZ ?kFZ ?kKZ ?k6Z ?k7Z ?k8Z ?k9Z ?kBZ ?_ ?c2Z ?c3Z ?c4Z ?c5Z; (case kAZ | kFZ => exact rfl); (case kKZ => first | assumption | exact rfl); (case k1Z | k2Z | k3Z | k4Z | k5Z => k_asm); (case k6Z | k7Z => k_is); (case k8Z => k_room); (case k9Z => first | exact BindsTo.of_eq rfl | exact binds_K (by k_in) rfl (by k_is) rfl rfl rfl); (case c5Z => decide); (case kBZ => exact locs rfl); (case c2Z | c3Z | c4Z => exact rfl); k_whole; intro _ _ _ _ _ _ _ _ _ _ _; (try dsimp only)))
  (k_with "L getAttr ref" => (k_here; (with_reducible show wpAny _ _ (getAttr (Value.ref _) (PySem.Str.ofString "told") _) _ _ _); refine' r_excGet ?k1Z ?k2Z ?k3Z ?k4Z ?k5Z ?k6Z ?k7Z ?_; (case k1Z | k2Z => k_asm); (case k3Z => exact (News.get (by k_asm) (by k_mem))); (case k4Z | k5Z | k6Z => assumption); (case k7Z => exact (News.get (by k_asm) (by k_mem))); k_whole; intro _))
  (k_with "L eval ListComp" => (refine StopAt.go ?_))
  (k_with "L my comp" => (refine StopAt.mk ?_; refine' r_compE (hs := ?hsZ) ?aZ ?bZ ?cZ ?_; (case hsZ => intro _; rfl); (case aZ | bZ => rfl); (case cZ => decide)))
  (k_with "L eval Name" => ((with_reducible show wpAny _ _ (eval (Expr.Name _ _) (compEnvC _ _ _ _)) _ _ _); first | (refine' r_cvar ?k1Z ?k2Z ?_; (case k1Z | k2Z => assumption)) | (refine' ldFreeK ?k1Z ?k2Z ?_; (case k1Z => rfl); (case k2Z => assumption)) | (refine' r_cG ?k1Z ?k2Z ?k3Z ?k4Z ?_; (case k1Z | k2Z | k3Z => k_asm); (case k4Z => k_is)) | (refine' r_cB ?k1Z ?k2Z ?k3Z ?k4Z ?k5Z ?k6Z ?_; (case k1Z | k2Z | k3Z => k_asm); (case k4Z => k_is); (case k5Z => boot_by_name); (case k6Z => decide))))
  (k_with "L call type:int" => ((with_reducible show wpAny _ _ (call (Value.type "int") [Value.int _ _]) _ _ _); refine call_int_int ?_))
  (k_with "L c enterX" => (refine' c_enterX ?k1Z ?k2Z ?k3Z ?k4Z ?k5Z ?kAZ ?kFZ ?kKZ ?k6Z ?k7Z ?k8Z ?k9Z ?kBZ ?kDZ ?_ ?c2Z ?c3Z ?c4Z; (case kAZ | kFZ => exact rfl); (case kKZ => first | assumption | exact rfl); (case k1Z | k2Z | k3Z | k4Z | k5Z => k_asm); (case k6Z | k7Z => k_is); (case k8Z => k_room); (case k9Z => first | exact BindsTo.of_eq rfl | exact binds_K (by k_in) rfl (by k_is) rfl rfl rfl); (case kBZ => exact rfl); (case kDZ => decide +kernel); (case c2Z | c3Z | c4Z => exact rfl); k_whole; intro _ _ _ _ _ _ _ N' Y' _ _ _ l1; (try k_lt l1); (try (revert l1; intro _)); k_cells Y'; (try simp only [List.cons_append, List.nil_append] at N'); (try (revert N'; intro _)); (try dsimp only)))
  (k_with "L c enterXC" => (refine' c_enterXC ?k1Z ?k2Z ?k3Z ?k4Z ?k5Z ?kAZ ?kFZ ?kKZ ?k6Z ?k7Z ?k8Z ?k9Z ?kBZ ?kDZ ?_ ?c2Z ?c3Z ?c4Z; (case kAZ | kFZ => exact rfl); (case kKZ => first | assumption | exact rfl); (case k1Z | k2Z | k3Z | k4Z | k5Z => k_asm); (case k6Z | k7Z => k_is); (case k8Z => k_room); (case k9Z => first | exact BindsTo.of_eq rfl | exact binds_K (by k_in) rfl (by k_is) rfl rfl rfl); (case kBZ => exact rfl); (case kDZ => decide +kernel); (case c2Z | c3Z | c4Z => exact rfl); k_whole; intro _ _ _ _ _ _ _ N' Y' _ _ _ l1 _; (try k_lt l1); (try (revert l1; intro _)); k_cells Y'; (try simp only [List.cons_append, List.nil_append] at N'); (try (revert N'; intro _)); (try dsimp only)))
  (k_with "L storeName" => (refine' r_storeC ?k1Z ?k2Z ?k3Z ?k4Z ?k5Z ?k6Z ?k7Z ?_; (case k6Z | k7Z => rfl); (case k1Z | k2Z => k_asm); (case k3Z => rfl); (case k4Z => k_updF); (case k5Z => assumption); intro _ _ _ N' _; (try dsimp only at N'); (try (revert N'; intro _))))
  (k_with "L eval Name" => (refine' r_nameC ?k1Z ?k2Z ?k3Z ?k4Z ?k5Z ?k6Z ?k7Z ?_; (case k5Z | k6Z => rfl); (case k7Z => decide); (case k1Z => k_asm); (case k2Z => rfl); (case k3Z => k_mem); (case k4Z => assumption)))
  (k_with "L binaryOp Pow int int" => (refine' r_powS ?aZ ?bZ ?cZ ?_; (case aZ | bZ => omega); (case cZ => decide)))
  (k_with "L binaryOp Mult int int" => (refine' r_mulR ?aZ ?_; (case aZ => first | assumption | decide | omega)))
  (k_with "L binaryOp FloorDiv int int" => (refine' r_fdivS ?aZ ?bZ ?_; (case aZ => first | assumption | exact pow256_ne _ | decide | omega); (case bZ => first | assumption | exact pow256_log (by omega) | decide)))
  (k_with "L call type:range" => ((with_reducible show wpAny _ _ (call (Value.type "range") [Value.int _ _]) _ _ _); refine' r_range ?k1Z ?k2Z ?_; (case k1Z | k2Z => k_asm); intro _ _ _ _ _ _ _ _ _ _ l1; (try k_lt l1); (try (revert l1; intro _))))
  (k_with "L call type:bytes" => ((with_reducible show wpAny _ _ (call (Value.type "bytes") [Value.ref _]) _ _ _); refine StopAt.go ?_))
  trivial
theorem reg_Law0 : True := by
  (k_with "L c call" => ((with_reducible show wpC _ _ (call (Value.ref _) _) _ _ _); refine goC ?_; intro _))
  (k_with "L call ref" => ((with_reducible show wpAny _ _ (call (Value.ref _) _) _ _ _); refine goA ?_; intro _))
  (k_with "L exec Assign cons ListComp" => (refine StopAt.go ?_))
  (k_with "L subscriptTail" => (k_here; (with_reducible show wpAny _ _ (subscriptTail _ (Expr.Slice none _ none _) (Value.bytes _ _) (Value.ref _)) _ _ _); k_dflt (refine' r_slice ?FZ ?NZ ?lZ ?uZ ?zZ ?_ ?sZ ?tZ; (case FZ | NZ => k_asm); (case lZ | uZ => constructor); (case zZ => exact Nat.le_of_ble_eq_true rfl); (case sZ => with_unfolding_all rfl); (case tZ => intro _; with_unfolding_all rfl)); intro _ _ _ _ _; refine StopAt.go ?_))
  (k_with "L om" => first | with_reducible exact at900 (by assumption) | with_reducible exact at1000 (by assumption) | with_reducible exact at901 (by assumption) | with_reducible exact early1 (by assumption) | with_reducible exact lt10 (by assumption))
  trivial
theorem law_holds : PySem.Challenge.rw_nt0490_01.Holds := hd (by
  unfold HdWalk
  k_fill
  unfold WalkC
  intro w s₀ s₁ mg mb G Y fa o pm cd doc dV kV ho hdd hcd hD hmg hg args vals as hpre hlay hrd hwl hlo
  have X := kIn_of Y
  refine Ground.open G ?_
  intro T B D TE TW
  wrow_args hpre hlay hrd hwl hlo
  rename Heap.IsList _ _ _ => hL
  rename IntsAre _ _ => hI
  rename ¬ _ < _ => hc63
  rename List Int => ns
  have he := Dflts.none hD rfl
  subst he
  have he := Dflts.noKw hD
  subst he
  clear TE TW D B hD hmg G Y
  obtain ⟨h₀, gn, dr, tk0, os⟩ := s₁
  dsimp only at *
  have hns : ns.length ≤ 63 := by omega
  refine wpC_call ?_
  refine codeC_call_top (Top.nolimit T) ho (fd_plain hdd) hcd rfl rfl (by decide +kernel) ?_ rfl rfl rfl
  intro L' h' t' cells' F' N' Y'
  k_cells Y'
  (try simp only [List.cons_append, List.nil_append] at N')
  (try dsimp only)
  rename_i lA _ _ _ _ _ _ _ _ _ oS oD dS dD
  have cS : ∃ v₀, oS.data = .cell v₀ := ⟨_, dS⟩
  have cD : ∃ v₀, oD.data = .cell v₀ := ⟨_, dD⟩
  clear dS dD
  obtain ⟨vS, dS⟩ := cS
  obtain ⟨vD, dD⟩ := cD
  walk_at "c steps"
  refine StopAt.mk ?_
  refine deck_top hI hns hL F' X N' T rfl ?_
  intro h2 tk2 dk c dO k vs' ns' ta F2 N2 hdO hdc hrd hI' hz'
  clear F' N' hI hL hns
  have n1 : @Ne Nat dk (L' + 1 + 1) := Ne.symm (hrd _ (.head _))
  have n2 : @Ne Nat dk (L' + 1) := Ne.symm (hrd _ (.tail _ (.head _)))
  have n3 : @Ne Nat c (L' + 1 + 1) := news_ne N2 (.tail _ (.head _)) (.tail _ (.tail _ (.head _))) (by rw [dS]; intro q; cases q)
  have n4 : @Ne Nat c (L' + 1) := news_ne N2 (.tail _ (.head _)) (.tail _ (.tail _ (.tail _ (.head _)))) (by rw [dD]; intro q; cases q)
  have n5 : @Ne Nat (L' + 1 + 1) (L' + 1) := Nat.succ_ne_self _
  have n6 : @LT.lt Nat _ (L' + 1) (L' + 1 + 1) := Nat.lt_succ_self _
  walk_at "c steps"
  rename_i h3 oD3 F3 N3 dD3 _ _
  refine StopAt.mk ?_
  refine draw_top (k := k) [(L' + 1 + 1, oS), (L' + 1, oD3)] hdO hdc hI' hz' (two_ne n1 n2) (by omega) (by omega) F3 X N3 (by walk_at "my sub") T rfl ?_
  intro h4 tk4 early te dO4 ta4 F4 N4 he0 he1 hdO4
  clear F3 N3 hdO
  walk_at "c steps"
  refine StopAt.mk ?_
  refine draw_top (k := k) [(L' + 1 + 1, oS), (L' + 1, oD3)] hdO4 hdc hI' hz' (two_ne n1 n2) (by omega) (by omega) F4 X N4 (by walk_at "my sub") T rfl ?_
  intro h5 tk5 way tw dO5 ta5 F5 N5 hw0 hw1 hdO5
  clear F4 N4 hdO4
  walk_at "c steps"
  · (rename Fr h₀ L' _ _ => F6)
    (rename News h₀ L' _ _ => N6)
    refine StopAt.mk ?_
    refine CallC.top (long_ok w _ _ mg mb dk c dO5 k vs' ns' (0 + 1 + 1) early ta5 te [(L' + 1 + 1, oS), (L' + 1, oD3)] hdO5 hdc (two_ne n1 n2) hI' hz' (by omega) (by omega)) F6 X (News.sub N6 (by walk_at "my sub")) T rfl (by decide) ?_
    rintro r n' h7 tk7 F7 N7 rfl
    exact law_good hg F7
  · walk_at "my comp"
    walk_at "c steps"
    (rename Fr h₀ L' _ _ => F6)
    (rename News h₀ L' _ _ => N6)
    refine StopAt.mk ?_
    refine draw_top (k := k) [(L' + 1 + 1, oS), (L' + 1, oD3)] hdO5 hdc hI' hz' (two_ne n1 n2) ?ha ?hb F6 X N6 ?hs T rfl ?hret
    case ha => omega
    case hb => omega
    case hs => walk_at "my sub"
    intro h7 tk7 many tm dO7 ta7 F7 N7 hm0 hm1 hdO7
    clear F6 N6 hdO5
    walk_at "c steps"
    refine StopAt.mk ?_
    rename IsRange _ _ _ _ _ _ _ _ => hR
    rename Fr h₀ L' _ _ => F8
    rename News h₀ L' _ _ => N8
    obtain ⟨nn, hnn⟩ : ∃ nn : Nat, many = (nn : Int) := ⟨_, (Int.toNat_of_nonneg hm0).symm⟩
    subst hnn
    refine comp_rangeN (n := nn) rfl hR (by decide) rfl rfl [(c, listOf vs'.toArray k), (L' + 1 + 1, oS), (L' + 1, oD3)] [(dk, dO7)] F8 (News.sub N8 (by walk_at "my sub")) (menuJ w dk c (0 + 1 + 1 + 1) [65, 66, 255]) (fun i ys news j => by obtain ⟨_, _, rfl, _⟩ := j; rfl) ⟨dO7, ta7, rfl, by simpa using hdO7, [], .nil, rfl, by simp⟩ (by omega) ?turn ?H
    case turn =>
      intro i tv ys _ I oI' C D' cO mc h6 tk6 k6 hi hP0 hlen hIl hf hC hmc F9 N9
      (try ((with_reducible refine foldC ?_); intro QT))
      refine hideGoal fun G hG => ?_
      obtain ⟨dO2, ta2, rfl, hdO2, zs, hys, hzl, hzs⟩ := hP0
      refine hG ?_
      clear hG G
      have hi14 : i ≤ 14 := by omega
      have cD : h6.IsCell (L' + 1) (some (.ref dk)) := ⟨_, (N9 (L' + 1, oD3) (by k_mem)).1, dD3⟩
      k_steps
      rename_i lm h10 F10 N10 l10 _ _
      obtain ⟨u0, u1, u2, N11⟩ : ∃ u0 u1 u2, News h₀ L' h10 ((lm, listOf [.int 65 u0, .int 66 u1, .int 255 u2].toArray 0) :: (dk, dO2) :: (I, oI') :: (D', listOf ys.toArray k6) :: (C, cO) :: (c, listOf vs'.toArray k) :: (L' + 1 + 1, oS) :: (L' + 1, oD3) :: []) := ⟨_, _, _, N10⟩
      clear N10
      refine StopAt.mk ?_
      refine draw_top (k := k) ((lm, listOf [.int 65 u0, .int 66 u1, .int 255 u2].toArray 0) :: (I, oI') :: (D', listOf ys.toArray k6) :: (C, cO) :: (L' + 1 + 1, oS) :: (L' + 1, oD3) :: []) hdO2 hdc hI' hz' ?hrd (by omega) (by omega) F10 X N11 (by walk_at "my sub") T rfl ?_
      case hrd =>
        refine all_cons ?_ (all_cons ?_ (all_cons ?_ (all_cons ?_ (all_cons ?_ (all_cons ?_ all_nil)))))
        · exact Nat.ne_of_gt (l10 (dk, dO2) (.head _))
        · exact fun e => hIl (dk, dO7) (.head _) e.symm
        · exact fun e => (hf (dk, dO7) (.head _)).1 e.symm
        · exact fun e => (hf (dk, dO7) (.head _)).2 e.symm
        · exact Ne.symm n1
        · exact Ne.symm n2
      intro h12 tk12 v tv12 dO12 ta12 F12 N12 hv0 hv1 hdO12
      have hzm : [65, 66, 255].getD v.toNat 0 ∈ ([65, 66, 255] : List Int) := getD_in (by simp; omega)
      k_steps
      refine StopAt.mk ⟨_, _, [(dk, dO12)], rfl, F12, News.sub N12 ?_, dO12, ta12, rfl, ?_, zs ++ [_], ints_snoc hys, by rw [List.length_append, hzl]; rfl, ?_⟩
      · exact sub_one (by walk_at "my sub")
      · rw [at_next]; exact hdO12
      · intro y hy
        rcases List.mem_append.mp hy with hy | hy
        · exact hzs y hy
        · rw [List.mem_singleton.mp hy]; exact hzm
    case H =>
      intro D2 h9 tk9 ys _ k9 hP0 hlen hlt F9 N9
      refine hideGoal fun G hG => ?_
      obtain ⟨dO2, ta2, rfl, hdO2, zs, hys, hzl, hzs⟩ := hP0
      refine hG ?_
      clear hG G
      have hn14 : nn ≤ 14 := by omega
      have hz14 : zs.length ≤ 14 := by rw [hzl]; exact hn14
      have hy14 : ys.length ≤ 14 := by rw [hlen]; exact hn14
      replace N9 : News h₀ L' h9 ((D2, listOf ys.toArray k9) :: (dk, dO2) :: (c, listOf vs'.toArray k) :: (L' + 1 + 1, oS) :: (L' + 1, oD3) :: []) := N9
      clear F8 N8
      walk_at "c steps"
      refine StopAt.mk ?_
      refine r_bytesL F9 N9 (.head _) hys ?hr (by omega) rfl ?_
      case hr =>
        exact fun z hz => menu_rng3 z (hzs z hz)
      intro h10 t10 t11 F10 N10
      obtain ⟨os, hos, hol⟩ : ∃ os : List UInt8, byteArr zs = os.toArray ∧ os.length = nn := ⟨zs.map fun n => n.toNat.toUInt8, rfl, by rw [List.length_map]; exact hzl⟩
      have ho14 : os.length ≤ 14 := by rw [hol]; exact hn14
      rw [hos]
      clear F9 N9
      walk_at "c steps"
      (rename Fr h₀ L' _ _ => F11)
      (rename News h₀ L' _ _ => N11)
      refine StopAt.mk ?_
      refine CallC.top (codes_ok w _ _ mg mb os _ _ (by omega)) F11 X N11 T rfl (by decide) ?_
      intro r n' h12 tk12 F12 N12 hP0
      refine hideGoal fun G hG => ?_
      obtain ⟨Dc, cvs, kc, hcv, rfl, rfl⟩ := hP0
      refine hG ?_
      clear hG G
      clear F11 N11
      have hcl := IntsAre.length hcv
      have hcm := codesM_len os
      have hc16 : (codesM os).length ≤ 16 := Nat.le_trans hcm (Nat.add_le_add_right ho14 2)
      walk_at "c steps"
      (rename Fr h₀ L' _ _ => F13)
      (rename News h₀ L' _ _ => N13)
      rename IntsAre _ (List.flatten _) => hi9
      rw [nines] at hi9
      have hrng := codesM_rng os (by omega)
      have hbl := octB_len (codesM os) (fun c hc => (hrng c hc).1)
      have hb32 : (octB (codesM os)).length ≤ 32 := Nat.le_trans hbl (Nat.mul_le_mul_left 2 hc16)
      obtain ⟨lo1, lo2⟩ := law_octets (early := early) ⟨he0, by omega⟩ os (by omega)
      refine StopAt.mk ?_
      refine CallC.top (packed_ok w _ _ mg mb Dc _ cvs _ (codesM os) (List.replicate (codesM os).length 9) kc 0 _ hcv hi9 (by omega) (by rw [List.length_replicate]; omega) (fun x hx => by rw [List.eq_of_mem_replicate hx]; decide) (fun x hx => by have := hrng x hx; omega) ?m1 ?m2) F13 X N13 T rfl (by decide) ?_
      case m1 => k_mem
      case m2 => k_mem
      intro r n' h14 tk14 F14 N14 hP0
      refine hideGoal fun G hG => ?_
      obtain ⟨tk, rfl, rfl⟩ := hP0
      refine hG ?_
      clear hG G
      rw [show byteArr (packB ((codesM os).zip (List.replicate (codesM os).length 9))) = (octB (codesM os)).toArray from rfl]
      generalize octB (codesM os) = wr at lo1 lo2 hbl hb32
      clear F13 N13
      walk_at "c steps"
      (rename Fr h₀ L' _ _ => F15)
      (rename News h₀ L' _ _ => N15)
      refine StopAt.mk ?_
      refine CallC.top (enc_ok w _ _ mg mb early os _ te _ ⟨he0, by omega⟩ (by omega)) F15 X N15 T rfl (by decide) ?_
      intro r n' h16 tk16 F16 N16 hP0
      refine hideGoal fun G hG => ?_
      obtain ⟨tk2, rfl, rfl⟩ := hP0
      refine hG ?_
      clear hG G
      rw [lo1]
      clear F15 N15
      walk_at "c steps"
      · refine StopAt.mk ?_
        refine CallT.top (ltold_ok w _ _ mg mb early wr _ te _ ⟨he0, by omega⟩ (by omega)) F16 X N16 T rfl (by decide) ?_
        intro r n' h17 tk17 F17 N17 hP0
        refine hideGoal fun G hG => ?_
        obtain ⟨⟨out, tk3, hs', rfl⟩ | ⟨hs', rfl⟩, rfl⟩ := hP0 <;> refine hG ?_ <;> clear hG G
        · rw [lo2] at hs'
          obtain rfl := Option.some.inj hs'
          walk_at "c steps"
          rw [beq_self_eq_true]
          exact law_good hg F17
        · rw [lo2] at hs'; cases hs'
  · skip
    rename_i ls hS1 lls hS2 oS2 F6 N6 dS2 _
    obtain ⟨ms, hms, N7⟩ : ∃ ms : List Value, IntsAre ms [65, 66, 256, 258, 259, 260, 257, 0, 511, 257] ∧ News h₀ L' _ [(ls, listOf ms.toArray 0), (dk, dO5), (c, listOf vs'.toArray k), (L' + 1 + 1, oS2), (L' + 1, oD3)] :=
      ⟨[_, _, _, _, _, _, _, _, _, _], .cons _ _ (.cons _ _ (.cons _ _ (.cons _ _ (.cons _ _ (.cons _ _ (.cons _ _ (.cons _ _ (.cons _ _ (.cons _ _ .nil))))))))), News.sub N6 (by walk_at "my sub")⟩
    clear N6
    have n7 : @Ne Nat dk ls := Nat.ne_of_lt lls.2.1
    have hrd3 : ∀ p ∈ [(ls, listOf ms.toArray 0), (L' + 1 + 1, oS2), (L' + 1, oD3)], p.1 ≠ dk := fun p hp => by
      rcases List.mem_cons.mp hp with rfl | hp
      · exact Ne.symm n7
      · exact two_ne n1 n2 p hp
    refine StopAt.mk ?_
    refine' r_compU (hs := ?qs) ?qw ?qa ?qb ?qc ?_
    case qs => intro _; rfl
    case qw => with_unfolding_all rfl
    case qa => rfl
    case qb => rfl
    case qc => decide
    walk_at "c steps"
    refine StopAt.mk ?_
    refine draw_top (k := k) [(ls, listOf ms.toArray 0), (L' + 1 + 1, oS2), (L' + 1, oD3)] hdO5 hdc hI' hz' hrd3 (by omega) (by omega) F6 X N7 (by walk_at "my sub") T rfl ?_
    intro h7 tk7 many tm dO7 ta7 F7 N8 hm0 hm1 hdO7
    clear F6 N7 hdO5
    walk_at "c steps"
    refine StopAt.mk ?_
    rename IsRange _ _ _ _ _ _ _ _ => hR
    rename Fr h₀ L' _ _ => F8
    rename News h₀ L' _ _ => N9
    obtain ⟨nn, hnn⟩ : ∃ nn : Nat, many = (nn : Int) := ⟨_, (Int.toNat_of_nonneg hm0).symm⟩
    subst hnn
    refine comp_rangeS (n := nn) rfl hR (by decide) rfl rfl [(c, listOf vs'.toArray k), (ls, listOf ms.toArray 0), (L' + 1 + 1, oS2), (L' + 1, oD3)] [(dk, dO7)] F8 (News.sub N9 (by walk_at "my sub")) (menuJ w dk c (0 + 1 + 1 + 1) [65, 66, 256, 258, 259, 260, 257, 0, 511, 257]) (fun i ys news j => by obtain ⟨_, _, rfl, _⟩ := j; rfl) ⟨dO7, ta7, rfl, by simpa using hdO7, [], .nil, rfl, by simp⟩ (by omega) ?turn rfl rfl ?H
    case turn =>
      intro i tv ys _ I oI' C D' cO mc h6 tk6 k6 hi hP0 hlen hIl hf hC hmc F9 N10
      (try ((with_reducible refine foldC ?_); intro QT))
      refine hideGoal fun G hG => ?_
      obtain ⟨dO2, ta2, rfl, hdO2, zs, hys, hzl, hzs⟩ := hP0
      refine hG ?_
      clear hG G
      have hi14 : i ≤ 14 := by omega
      have cD : h6.IsCell (L' + 1) (some (.ref dk)) := ⟨_, (N10 (L' + 1, oD3) (by k_mem)).1, dD3⟩
      have cS : h6.IsCell (L' + 1 + 1) (some (.ref ls)) := ⟨_, (N10 (L' + 1 + 1, oS2) (by k_mem)).1, dS2⟩
      k_steps
      refine StopAt.mk ?_
      refine draw_top (k := k) ((ls, listOf ms.toArray 0) :: (I, oI') :: (D', listOf ys.toArray k6) :: (C, cO) :: (L' + 1 + 1, oS2) :: (L' + 1, oD3) :: []) hdO2 hdc hI' hz' ?hrd (by omega) (by omega) F9 X N10 (by walk_at "my sub") T rfl ?_
      case hrd =>
        refine all_cons ?_ (all_cons ?_ (all_cons ?_ (all_cons ?_ (all_cons ?_ (all_cons ?_ all_nil)))))
        · exact Ne.symm n7
        · exact fun e => hIl (dk, dO7) (.head _) e.symm
        · exact fun e => (hf (dk, dO7) (.head _)).1 e.symm
        · exact fun e => (hf (dk, dO7) (.head _)).2 e.symm
        · exact Ne.symm n1
        · exact Ne.symm n2
      intro h12 tk12 v tv12 dO12 ta12 F12 N12 hv0 hv1 hdO12
      have hzm : [65, 66, 256, 258, 259, 260, 257, 0, 511, 257].getD v.toNat 0 ∈ ([65, 66, 256, 258, 259, 260, 257, 0, 511, 257] : List Int) := getD_in (by simp; omega)
      k_steps
      refine StopAt.mk ⟨_, _, [(dk, dO12)], rfl, F12, News.sub N12 ?_, dO12, ta12, rfl, ?_, zs ++ [_], ints_snoc hys, by rw [List.length_append, hzl]; rfl, ?_⟩
      · exact sub_one (by walk_at "my sub")
      · rw [at_next]; exact hdO12
      · intro y hy
        rcases List.mem_append.mp hy with hy | hy
        · exact hzs y hy
        · rw [List.mem_singleton.mp hy]; exact hzm
    case H =>
      intro D2 h9 tk9 ys _ k9 hP0 hlen hlt F9 N10
      refine hideGoal fun G hG => ?_
      obtain ⟨dO2, ta2, rfl, hdO2, zs, hys, hzl, hzs⟩ := hP0
      refine hG ?_
      clear hG G
      have hn14 : nn ≤ 14 := by omega
      have hz14 : zs.length ≤ 14 := by rw [hzl]; exact hn14
      have hy14 : ys.length ≤ 14 := by rw [hlen]; exact hn14
      replace N10 : News h₀ L' h9 ((D2, listOf ys.toArray k9) :: (dk, dO2) :: (c, listOf vs'.toArray k) :: (ls, listOf ms.toArray 0) :: (L' + 1 + 1, oS2) :: (L' + 1, oD3) :: []) := N10
      clear F8 N9
      have hrng : ∀ c ∈ zs, 0 ≤ c ∧ c < 512 := fun z hz => menu_rng z (hzs z hz)
      have hlc := law_codes (early := early) ⟨he0, by omega⟩ zs hrng (by omega)
      walk_at "c steps"
      refine StopAt.mk ?_
      have hbl := octB_len zs (fun c hc => (hrng c hc).1)
      have hb28 : (octB zs).length ≤ 28 := Nat.le_trans hbl (Nat.mul_le_mul_left 2 hz14)
      refine CallC.top (read_ok w _ _ mg mb D2 ys zs k9 _ hys (by omega) (fun c hc => (hrng c hc).1) (.head _)) F9 X N10 T rfl (by decide) ?_
      intro r n' h11 tk11 F11 N11 hP0
      refine hideGoal fun G hG => ?_
      obtain ⟨hrm, rfl, rfl⟩ | ⟨Dd, out, n, t1, t2, hrm, rfl, rfl⟩ := hP0 <;> refine hG ?_ <;> clear hG G
      · rw [hrm] at hlc
        dsimp only at hlc
        walk_at "c steps"
        (rename Fr h₀ L' _ _ => F13)
        (rename News h₀ L' _ _ => N13)
        rename IntsAre _ (List.flatten _) => hi9
        rw [nines] at hi9
        refine StopAt.mk ?_
        refine CallC.top (packed_ok w _ _ mg mb D2 _ ys _ zs (List.replicate zs.length 9) k9 0 _ hys hi9 (by omega) (by rw [List.length_replicate]; omega) (fun x hx => by rw [List.eq_of_mem_replicate hx]; decide) (fun x hx => by have := hrng x hx; omega) ?m1 ?m2) F13 X N13 T rfl (by decide) ?_
        case m1 => k_mem
        case m2 => k_mem
        intro r n' h14 tk14 F14 N14 hP0
        refine hideGoal fun G hG => ?_
        obtain ⟨tk, rfl, rfl⟩ := hP0
        refine hG ?_
        clear hG G
        rw [show byteArr (packB (zs.zip (List.replicate zs.length 9))) = (octB zs).toArray from rfl]
        generalize octB zs = wr at hlc hbl hb28
        clear F13 N13
        walk_at "c steps"
        (rename Fr h₀ L' _ _ => F15)
        (rename News h₀ L' _ _ => N15)
        refine StopAt.mk ?_
        refine CallT.top (ltold_ok w _ _ mg mb early wr _ te _ ⟨he0, by omega⟩ (by omega)) F15 X N15 T rfl (by decide) ?_
        intro r n' h17 tk17 F17 N17 hP0
        refine hideGoal fun G hG => ?_
        obtain ⟨⟨out, tk3, hs', rfl⟩ | ⟨hs', rfl⟩, rfl⟩ := hP0 <;> refine hG ?_ <;> clear hG G
        · rw [hlc.1] at hs'; cases hs'
        · clear F15 N15
          walk_at "c steps"
          (rename Fr h₀ L' _ _ => F18)
          (rename News h₀ L' _ _ => N18)
          refine StopAt.mk ?_
          refine CallT.top (pieces_ok w _ _ mg mb dk c dO2 k vs' ns' _ early ta2 te _ _ (wr ++ []) [] .none [] hdO2 hdc (fun p hp => nomatch hp) hI' hz' (by omega) ⟨he0, by omega⟩ (by rw [List.append_nil]; omega) (by simp) (.inl ⟨rfl, by rw [List.append_nil]; exact hlc.2⟩)) F18 X (News.sub N18 (by walk_at "my sub")) T rfl (by decide) ?_
          rintro r n' h19 tk19 F19 N19 rfl
          exact law_good hg F19
      · rw [hrm] at hlc
        dsimp only at hlc
        obtain ⟨hnl, sF, hsF, hiF, rfl, hlF⟩ := hlc
        walk_at "c steps"
        (rename Fr h₀ L' _ _ => F13)
        (rename News h₀ L' _ _ => N13)
        rename IntsAre _ (List.flatten _) => hi9
        rename IntsAre _ (List.take _ _) => hys2
        rw [nines] at hi9
        rw [Int.toNat_natCast] at hi9 hys2
        have hzt : (zs.take n).length ≤ zs.length := by rw [List.length_take]; exact Nat.min_le_right _ _
        have ht14 : (zs.take n).length ≤ 14 := Nat.le_trans hzt hz14
        have hrng2 : ∀ c ∈ zs.take n, 0 ≤ c ∧ c < 512 := fun c hc => hrng c (List.mem_of_mem_take hc)
        have hbl2 := octB_len (zs.take n) (fun c hc => (hrng2 c hc).1)
        have hb29 : (octB (zs.take n)).length ≤ 28 := Nat.le_trans hbl2 (Nat.mul_le_mul_left 2 ht14)
        refine StopAt.mk ?_
        refine CallC.top (packed_ok w _ _ mg mb _ _ _ _ (zs.take n) (List.replicate (zs.take n).length 9) 0 0 _ hys2 hi9 (by omega) (by rw [List.length_replicate]; omega) (fun x hx => by rw [List.eq_of_mem_replicate hx]; decide) (fun x hx => by have := hrng2 x hx; omega) ?m1 ?m2) F13 X N13 T rfl (by decide) ?_
        case m1 => k_mem
        case m2 => k_mem
        intro r n' h14 tk14 F14 N14 hP0
        refine hideGoal fun G hG => ?_
        obtain ⟨tk, rfl, rfl⟩ := hP0
        refine hG ?_
        clear hG G
        rw [show byteArr (packB ((zs.take n).zip (List.replicate (zs.take n).length 9))) = (octB (zs.take n)).toArray from rfl]
        generalize octB (zs.take n) = wr at hsF hbl2 hb29
        clear F13 N13
        walk_at "c steps"
        (rename Fr h₀ L' _ _ => F15)
        (rename News h₀ L' _ _ => N15)
        have hdec := decode_some hsF hiF
        have hfz := (feedZ hsF).sz.found
        have hfz2 : sF.ds.found.length ≤ 90300 := Nat.le_trans hfz (by have : wr.length * (wr.length + 1) ≤ 300 * 301 := Nat.mul_le_mul (by omega) (by omega); omega)
        refine StopAt.mk ?_
        refine CallT.top (ltold_ok w _ _ mg mb early wr _ te _ ⟨he0, by omega⟩ (by omega)) F15 X N15 T rfl (by decide) ?_
        intro r n' h17 tk17 F17 N17 hP0
        refine hideGoal fun G hG => ?_
        obtain ⟨⟨out, tk3, hs', rfl⟩ | ⟨hs', rfl⟩, rfl⟩ := hP0 <;> refine hG ?_ <;> clear hG G
        · rw [hdec] at hs'
          obtain rfl := Option.some.inj hs'
          clear F15 N15
          walk_at "c steps"
          · refine StopAt.mk ?_
            have hdd2 : @Ne Nat dk Dd := news_ne (oa := dO2) N17 (by k_mem) (ob := { cls := .type "tuple", data := .seq #[.bytes sF.ds.found.toArray t1, .int (n : Nat) t2] }) (by k_mem) (by
              obtain ⟨es, ep, _, hdt, _⟩ := hdO2
              rw [hdt]; intro q; cases q)
            refine draw_top (k := k) [(Dd, { cls := .type "tuple", data := .seq #[.bytes sF.ds.found.toArray t1, .int (n : Nat) t2] }), (L' + 1, oD3)] hdO2 hdc hI' hz' (two_ne hdd2 n2) (by omega) (by omega) F17 X N17 (by walk_at "my sub") T rfl ?_
            intro h19 tk19 v tv dO7 ta7 F19 N19 hv0 hv1 hdO7
            clear F17 N17
            have hb9 : (cut none (some v) [120, 121, 122]).length ≤ 3 := cut_length _ _ _
            walk_at "c steps"
            refine StopAt.mk ?_
            obtain ⟨bh, hbh⟩ : ∃ bh, bh = cut none (some v) [120, 121, 122] := ⟨_, rfl⟩
            rw [← hbh] at hb9 ⊢
            clear hbh
            obtain ⟨s', g1, g2, g3, g4⟩ := behind_due (b := bh) hsF hiF hlF
            walk_at "c steps"
            (rename Fr h₀ L' _ _ => F21)
            (rename News h₀ L' _ _ => N21)
            refine StopAt.mk ?_
            refine CallT.top (pieces_ok w _ _ mg mb dk c dO7 k vs' ns' _ early ta7 te _ _ (wr ++ bh) bh (.ref Dd) [(Dd, { cls := .type "tuple", data := .seq #[.bytes sF.ds.found.toArray t1, .int (n : Nat) t2] })] hdO7 hdc (fun p hp => by rw [List.mem_singleton.mp hp]; exact Ne.symm hdd2) hI' hz' (by omega) ⟨he0, by omega⟩ (by rw [List.length_append]; omega) (by omega) (.inr ⟨Dd, _, s', t1, _, rfl, .head _, g1, g2, g3, g4⟩)) F21 X (News.sub N21 (by walk_at "my sub")) T rfl (by decide) ?_
            rintro r n' h22 tk22 F22 N22 rfl
            exact law_good hg F22
        · rw [hdec] at hs'; cases hs')
end Mine
theorem PySem.Challenge.cw_nt0490_01_holds : PySem.Challenge.rw_nt0490_01.Holds :=
  Mine.law_holds
