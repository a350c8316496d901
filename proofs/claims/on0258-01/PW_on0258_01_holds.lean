import PyProof.Rows.All
import Wide.All
import OpenK.AllK
import Wide.FinOn
import PySem.Challenge.RW_on0258_01
open PySem PySem.W PySem.Calls PyProof.Rows
set_option Elab.async false
set_option maxRecDepth 100000
set_option maxHeartbeats 8000000


/-! ## A1 -/
namespace Mine
open PySem.Calls

/-- the built-ins whose call on the stack can hold a bytearray that it reads -/
def holdersOfBytes : List String := ["bytearray.__contains__", "bytearray.__mod__", "bytearray.__rmod__", "_struct.pack_into.held", "bytearray.find.held"] ++ Builtin.Bytes.decodersThatHold
def cleanCode : Code → Bool
  | .builtin id _ => !holdersOfBytes.contains id
  | _ => true
def cleanSt (st : List (Code × Pos)) : Bool := st.all fun x => cleanCode x.1
def guardF (t : Sem Fin) : Sem Fin := stack >>= fun st => if cleanSt st then t else ret (.bool true)
def guardV (t : Sem Value) : Sem Value := stack >>= fun st => if cleanSt st then t else pure (.bool true)

theorem step_guard (prog : Program) (w : World) (s : Shared) (t : Sem Fin) :
    step (denote table) prog w s ⟨guardF t, .builtin "claim.caller" {}, default, []⟩ = .go s ⟨t, .builtin "claim.caller" {}, default, []⟩ := by
  obtain ⟨h, g, d, tk, os⟩ := s
  have e : cleanSt [((Code.builtin "claim.caller" {}), (default : Pos))] = true := by decide +kernel
  show Step.go _ _ = _
  have e' : (if cleanSt ((Code.builtin "claim.caller" {}, (default : Pos)) :: List.map Frame.where_ []) = true then t else ret (.bool true)) = t := if_pos e
  exact congrArg (fun x => Step.go _ ⟨x, _, _, _⟩) e'

theorem sched_guard {prog : Program} {w : World} {s : Shared} {t : Sem Fin} {n : Nat} {o : Outcome} {s' : Shared} (hz : s.asleep)
    (h : schedN (denote table) prog w n (.single s ⟨guardF t, .builtin "claim.caller" {}, default, []⟩) = .halted o s') :
    ∃ k, schedN (denote table) prog w k (.single s ⟨t, .builtin "claim.caller" {}, default, []⟩) = .halted o s' := by
  cases n with
  | zero => cases h
  | succ n =>
    refine ⟨n, ?_⟩
    have e := (sstep_single (denote table) prog w s ⟨guardF t, .builtin "claim.caller" {}, default, []⟩ rfl hz).resolve_right (by rw [step_guard]; intro q; cases q)
    rw [step_guard] at e
    simp only [schedN, e] at h
    exact h
end Mine


/-! ## A2 -/
namespace Mine
open PySem.Calls

theorem callFrom_guard {c : ClaimW} {tree : List Value → Sem Fin} {w : World} {s : Shared} {free : Addr → Prop} {gens : Prop} {kept : Heap → Prop} (hz : s.asleep)
    (H : c.CallFrom (fun vs => ⟨guardF (tree vs), .builtin "claim.caller" {}, default, []⟩) w free gens kept s) :
    c.CallFrom (fun vs => ⟨tree vs, .builtin "claim.caller" {}, default, []⟩) w free gens kept s := by
  intro args h1 h2 ord h3
  obtain ⟨vs, s₁, hl, n, o, s', hs, r⟩ := H args h1 h2 ord h3
  obtain ⟨k, hk⟩ := sched_guard (Shared.asleep_of_life (layAllW_rest _ _ _ hl).2.2.2 hz) hs
  exact ⟨vs, s₁, hl, k, o, s', hk, r⟩

theorem holdsOpenBy_guard {c : ClaimW} {tree : List Value → Sem Fin} {defs keeps : List Str} {writes : Bool}
    (H : c.HoldsOpenBy (fun vs => ⟨guardF (tree vs), .builtin "claim.caller" {}, default, []⟩) defs keeps writes) :
    c.HoldsOpenBy (fun vs => ⟨tree vs, .builtin "claim.caller" {}, default, []⟩) defs keeps writes := by
  obtain ⟨a, b, h⟩ := H
  refine ⟨a, b, fun w => ⟨(h w).1, fun s hs => ?_⟩⟩
  obtain ⟨s₀, f, g, s₁, T, p1, p2, p3, C⟩ := (h w).2 s hs
  have A : AfterImport (opening c.prog) w s := hs
  have z : s₀.asleep := Shared.asleep_of_life (fence_lifeW f) A.life
  exact ⟨s₀, f, g, s₁, T, p1, p2, p3, callFrom_guard (Shared.asleep_of_life T.2.1 z) C⟩
end Mine

open PySem.Calls Mine
namespace MineHead

theorem ht_guard {prog : Program} {name : Str} {vs : List Value} {w : World} {s : Shared} {mg : Str → Option Value} {f : Value} {Q : Fin → Shared → Prop} {E : Value → Shared → Prop}
    (hg : s.heap.Ns mainGlobals mg) (hf : mg name = some f) (h : wpAny (model prog w) callerA (guardV (PySem.call f vs)) (fun v s' => Q (.done (.ret v)) s') E s) :
    wpAny (model prog w) callerA (guardF (do match ← nsGet mainNs name with
      | some f => do ret (← PySem.call f vs)
      | none => unsupported "claim.caller:no-such-global")) Q E s := fun Γ p hΓ => by
  have h' := h Γ p hΓ
  have e : ∀ t : Sem Value, Sem.wp (model prog w) Γ (guardV t) (fun v _ s' => Q (.done (.ret v)) s') (fun e _ s' => E e s') p s =
      Sem.wp (model prog w) Γ (if cleanSt ((Γ.code, p) :: Γ.below) then t else pure (.bool true)) (fun v _ s' => Q (.done (.ret v)) s') (fun e _ s' => E e s') p s := fun _ => rfl
  have e2 : ∀ t : Sem Fin, Sem.wp (model prog w) Γ (guardF t) (fun v _ s' => Q v s') (fun e _ s' => E e s') p s =
      Sem.wp (model prog w) Γ (if cleanSt ((Γ.code, p) :: Γ.below) then t else ret (.bool true)) (fun v _ s' => Q v s') (fun e _ s' => E e s') p s := fun _ => rfl
  rw [e] at h'
  rw [e2]
  cases hc : cleanSt ((Γ.code, p) :: Γ.below) with
  | false =>
    rw [hc] at h'
    rw [if_neg Bool.false_ne_true] at h' ⊢
    exact h'
  | true =>
    rw [hc] at h'
    rw [if_pos rfl] at h' ⊢
    have hg' : s.heap.Ns mainNs mg := hg
    rw [Sem.wp_bind', Sem.wp_nsGet _ _ _ _ _ hg', hf]
    show Sem.wp _ _ (PySem.call f vs >>= fun v => ret v) _ _ _ _
    rw [Sem.wp_bind']
    exact h'

end MineHead

namespace MineHead.PySem.W
theorem holds_open {r : OpenRow} {q : Program} {loose : List Str} {Xt : Shared → Bool} {XP : (Str → Option Value) → Heap → Prop} {α : Type} {Yf : Shared → α} {Ya : World → α} {YP : World → Heap → Prop} {d : DefRec} {kwd : List (Str × PySem.Expr)} {N : Nat}
    (left : LeftO r.prog q loose Xt Yf Ya N) (hY : ∀ w s, Yf s = Ya w → YP w s.heap) (hYk : ∀ w h h', YP w h → (∀ b o, h.get? b = some o → h'.get? b = some o) → YP w h')
    (hX : ∀ s, Xt s = true → XP (s.heap.nsMap mainGlobals) s.heap) (hXk : ∀ mg h h', XP mg h → (∀ b o, h.get? b = some o → h'.get? b = some o) → XP mg h')
    (hdef : defOf q r.name = some (d, kwd)) (hp : r.prog.theDef r.name = some (d.params, d.body, d.scope)) (hk : kwWritten? d.params.kwonlyargs d.params.kw_defaults = some kwd) (hRf : ∀ s, Xt s = true → RecFacts r.records s.heap) (hwr : (!r.writes || r.records.isEmpty) = true)
    (k1 : r.wellSaid = true) (ok : (chainsOk q && opensWell r.prog && (frees r.toRowW && r.within.isEmpty)) = true) (hb : r.prog.bare) (hw : r.toRowW.promised)
    (call : WalkO q loose XP YP r.toRowW d kwd fun f vs => guardV (PySem.call f vs)) : r.Holds := by
  refine ⟨k1, hw, holdsOpenBy_guard (tree := fun vs => do match ← nsGet mainNs r.name with
      | some f => do ret (← PySem.call f vs)
      | none => unsupported "claim.caller:no-such-global") (open_anyG (r := r.toRowW) (run := fun f vs => guardV (PySem.call f vs)) left hY hYk hX hXk hRf hwr ok hb hw
    (fun vs w s mg f Q E hg hf h => ht_guard hg hf h)
    (fun w s hg G n hn => ?_) fun w s₀ s₁ mg mb G Y args vs as hpre hlay L low => ?_)⟩
  · obtain rfl : n = r.name := by split at hn <;> simp_all
    exact pinned_of_view hg G hdef hp hk
  · obtain ⟨a, o, pm, cd, doc, dV, kV, h1, h2, h3, h4, h5⟩ := G.fn hdef
    exact ⟨.ref a, h1, call w s₀ s₁ mg mb G Y a o pm cd doc dV kV h2 h3 h4 h5 (defOf_name hdef ▸ h1) L.gens args vs as hpre hlay L.reads L.well (L.low low)⟩

end MineHead.PySem.W

namespace MineHead
set_option maxRecDepth 100000 in
set_option maxHeartbeats 8000000 in
open_top hd for PySem.Challenge.rw_on0258_01
end MineHead


/-! ## A3 -/
namespace Mine
open PySem.Calls

/-! as wpAny, codeAny, but for clean stacks alone -/
theorem cleanSt_cons (c : Code) (p : Pos) (st : List (Code × Pos)) : cleanSt ((c, p) :: st) = (cleanCode c && cleanSt st) := rfl

def wpC {α : Type} (M : Model) (A : Around) (t : Sem α) (Q : α → Shared → Prop) (E : Value → Shared → Prop) (s : Shared) : Prop :=
  ∀ Γ p, Γ.In A → cleanCode Γ.code = true → cleanSt Γ.below = true → Sem.wp M Γ t (fun a _ s' => Q a s') (fun e _ s' => E e s') p s
def codeC (M : Model) (A : Around) (c : Code) (R : Result → Shared → Prop) (s : Shared) : Prop :=
  ∀ Γ p, Γ.code = c → Γ.Below A → cleanSt Γ.below = true → wpCode M Γ R p s

section
variable {α β : Type} {M : Model} {A : Around} {E : Value → Shared → Prop} {s : Shared}

theorem wpC_of {t : Sem α} {Q : α → Shared → Prop} (h : wpAny M A t Q E s) : wpC M A t Q E s := fun Γ p hΓ _ _ => h Γ p hΓ
theorem codeC_of {c : Code} {R : Result → Shared → Prop} (h : codeAny M A c R s) : codeC M A c R s := fun Γ p hc hΓ _ => h Γ p hc hΓ
theorem wpC_mono {t : Sem α} {Q Q' : α → Shared → Prop} {E' : Value → Shared → Prop} (h : wpC M A t Q E s)
    (hQ : ∀ a s, Q a s → Q' a s) (hE : ∀ e s, E e s → E' e s) : wpC M A t Q' E' s :=
  fun Γ p hΓ c1 c2 => Sem.wp_mono M Γ t (fun a _ s => hQ a s) (fun e _ s => hE e s) p s (h Γ p hΓ c1 c2)
theorem wpC_pure {a : α} {Q : α → Shared → Prop} (h : Q a s) : wpC M A (pure a) Q E s := fun _ _ _ _ _ => h
theorem wpC_bind {m : Sem α} {f : α → Sem β} {Q : β → Shared → Prop} (h : wpC M A m (fun a s' => wpC M A (f a) Q E s') E s) :
    wpC M A (m >>= f) Q E s := fun Γ p hΓ c1 c2 => by
  rw [Sem.wp_bind']
  exact Sem.wp_mono M Γ m (fun a p' s' h' => h' Γ p' hΓ c1 c2) (fun _ _ _ h' => h') p s (h Γ p hΓ c1 c2)
/-- a leaf, then the rest -/
theorem wpC_leaf {m : Sem α} {f : α → Sem β} {Q : β → Shared → Prop} (h : wpAny M A m (fun a s' => wpC M A (f a) Q E s') E s) :
    wpC M A (m >>= f) Q E s := wpC_bind (wpC_of h)
theorem wpC_onRaise {m : Sem α} {k : Value → Sem Unit} {Q : α → Shared → Prop}
    (h : wpC M A m Q (fun e s' => wpAny M A (k e) (fun _ s'' => E e s'') E s') s) : wpC M A (m.onRaise k) Q E s := fun Γ p hΓ c1 c2 => by
  rw [Sem.wp_onRaise]
  exact Sem.wp_mono M Γ m (fun _ _ _ h' => h') (fun e p' s' h' => h' Γ p' hΓ) p s (h Γ p hΓ c1 c2)
theorem wpC_attempt {m : Sem α} {Q : Except Value α → Shared → Prop} (h : wpC M A m (fun a => Q (.ok a)) (fun e => Q (.error e)) s) :
    wpC M A m.attempt Q E s := fun Γ p hΓ c1 c2 => by rw [Sem.wp_attempt]; exact h Γ p hΓ c1 c2
theorem wpC_holding {vs : List Value} {m : Sem α} {Q : α → Shared → Prop} (h : wpC M A m Q E s) : wpC M A (holding vs m) Q E s :=
  fun Γ p hΓ c1 c2 => by rw [Sem.wp_holding]; exact h Γ p hΓ c1 c2
theorem wpC_keep {vs : List Value} {m : Sem α} {Q : α → Shared → Prop} (h : wpC M A m Q E s) : wpC M A (m.keep vs) Q E s :=
  fun Γ p hΓ c1 c2 => by rw [Sem.wp_keep]; exact h Γ p hΓ c1 c2
theorem wpC_standAt {pos : Pos} {Q : Unit → Shared → Prop} (h : Q () s) : wpC M A (standAt pos) Q E s := fun _ _ _ _ _ => h

theorem wpC_run {c : Code} {h : Option Value} {Q : Flow → Shared → Prop}
    (hc : codeC M (A.mark h) c (fun r s' => match r with | .ok f => Q f s' | .error e => E e s') s) (hnb : h ≠ some byPass := by intro x; cases x) :
    wpC M A (run c h) Q E s :=
  fun Γ p hΓ c1 c2 => by
    rw [Sem.wp_run]
    refine hc _ p rfl (hΓ.enter c h p hnb) ?_
    show cleanSt ((Γ.code, p) :: Γ.below) = true
    rw [cleanSt_cons, c1, c2]; rfl
theorem wpC_runValue {c : Code} {Q : Value → Shared → Prop}
    (hc : codeC M A c (fun r s' => match r with | .ok (.ret v) => Q v s' | .ok _ => False | .error e => E e s') s) :
    wpC M A (runValue c) Q E s := fun Γ p hΓ c1 c2 => by
  rw [Sem.wp_runValue]
  refine hc _ p rfl (hΓ.enter c none p (by intro x; cases x)) ?_
  show cleanSt ((Γ.code, p) :: Γ.below) = true
  rw [cleanSt_cons, c1, c2]; rfl
theorem wpC_call {f : Value} {pos : List Value} {kw : List (Str × Value)} {Q : Value → Shared → Prop}
    (hc : codeC M A (.call f ⟨pos, kw⟩) (fun r s' => match r with | .ok (.ret v) => Q v s' | .ok _ => False | .error e => E e s') s) :
    wpC M A (call f pos kw) Q E s := wpC_runValue hc

theorem codeC_mono {c : Code} {R R' : Result → Shared → Prop} (h : codeC M A c R s) (hR : ∀ r s, R r s → R' r s) : codeC M A c R' s :=
  fun Γ p hc hΓ hk => wpCode_mono hR (h Γ p hc hΓ hk)

theorem codeC_of_tree {c : Code} {R : Result → Shared → Prop} (hcl : cleanCode c = true)
    (h : wpC M (A.under c) (M.den c) (fun fin s' => match fin with | .done f => R (.ok f) s' | .again c' => c'.quiet = true ∧ codeC M A c' R s')
      (fun e s' => R (.error e) s') s) : codeC M A c R s := fun Γ p hc hΓ hk => by
  rw [wpCode_iff_wp, hc]
  refine Sem.wp_mono M Γ _ (fun fin p' s' h' => ?_) (fun _ _ _ h' => h') p s (h Γ p (hc ▸ hΓ.in) (hc ▸ hcl) hk)
  cases fin with
  | done f => exact h'
  | again c' => exact ⟨h'.1, h'.2 (Γ.goto c') p' rfl (hΓ.goto c') hk⟩

theorem codeC_loop {c : Code} {R : Result → Shared → Prop} (hcl : cleanCode c = true) (hq : c.quiet = true) (I : Nat → Shared → Prop)
    (turn : ∀ n s, I n s → wpC M (A.under c) (M.den c)
      (fun fin s' => match fin with | .done f => R (.ok f) s' | .again c' => c' = c ∧ ∃ m, m < n ∧ I m s') (fun e s' => R (.error e) s') s)
    (n : Nat) (h : I n s) : codeC M A c R s := by
  induction n using Nat.strongRecOn generalizing s with
  | ind n ih =>
    refine codeC_of_tree hcl (wpC_mono (turn n s h) (fun fin s' hf => ?_) fun _ _ h' => h')
    cases fin with
    | done f => exact hf
    | again c' => obtain ⟨rfl, m, hm, hI⟩ := hf; exact ⟨hq, ih m hm hI⟩

variable {env : Env}
theorem wpC_execs_nil {Q : Flow → Shared → Prop} (h : Q .next s) : wpC M A (execs [] env) Q E s := wpC_pure h
theorem wpC_execs_cons {st : Stmt} {rest : List Stmt} {Q : Flow → Shared → Prop}
    (h : wpC M A (exec st env) (fun f s' => match f with | .next => wpC M A (execs rest env) Q E s' | f => Q f s') E s) :
    wpC M A (execs (st :: rest) env) Q E s := by
  rw [execs_cons]
  refine wpC_bind (wpC_mono h (fun f s' h' => ?_) fun _ _ e => e)
  cases f <;> first | exact h' | exact wpC_pure h'
theorem wpC_If {test : Expr} {body orelse : List Stmt} {pos : Pos} {Q : Flow → Shared → Prop}
    (h : wpC M A (isTrue test env (eval test env))
      (fun b s₂ => if b then wpC M A (execs body env) Q E s₂ else wpC M A (execs orelse env) Q E s₂) E s) :
    wpC M A (exec (.If test body orelse pos) env) Q E s := by
  rw [exec_If]
  refine wpC_bind (wpC_standAt (wpC_bind (wpC_mono h (fun b s₂ h₂ => ?_) fun _ _ e => e)))
  cases b <;> exact h₂
/-- an if whose test is a leaf -/
theorem wpC_If_leaf {test : Expr} {body orelse : List Stmt} {pos : Pos} {Q : Flow → Shared → Prop}
    (h : wpAny M A (isTrue test env (eval test env))
      (fun b s₂ => if b then wpC M A (execs body env) Q E s₂ else wpC M A (execs orelse env) Q E s₂) E s) :
    wpC M A (exec (.If test body orelse pos) env) Q E s := wpC_If (wpC_of h)
theorem wpC_Return_some {e : Expr} {pos : Pos} {Q : Flow → Shared → Prop} (h : wpC M A (eval e env) (fun v => Q (.ret v)) E s) :
    wpC M A (exec (.Return (some e) pos) env) Q E s := by
  rw [exec_Return_some]
  exact wpC_bind (wpC_standAt (wpC_bind (wpC_mono h (fun _ _ q => wpC_pure q) fun _ _ e => e)))
theorem wpC_runOwn {c : Code} {h : Option Value} {Q : Flow → Shared → Prop}
    (hc : codeC M (A.mark h) c (fun r s' => match r with | .ok f => Q f s' | .error e => cameBackBy M A env E e s') s) (hnb : h ≠ some byPass := by intro x; cases x) :
    wpC M A (runOwn c env h) Q E s := by
  unfold runOwn
  exact wpC_onRaise (wpC_run hc hnb)
theorem wpC_While {test : Expr} {body orelse : List Stmt} {pos : Pos} {Q : Flow → Shared → Prop}
    (h : codeC M A (.whileLoop test body orelse env) (fun r s' => match r with | .ok f => Q f s' | .error e => cameBackBy M A env E e s') s) :
    wpC M A (exec (.While test body orelse pos) env) Q E s := by
  rw [exec_While]; exact wpC_bind (wpC_standAt (wpC_runOwn h))
theorem wpC_Call_Name {x : Str} {p pos : Pos} {args : List Expr} {trees : List (Bool × Sem Value)} {Q : Value → Shared → Prop} (ht : backTo pos (starEach args env) = trees)
    (h : wpAny M A (eval (.Name x p) env) (fun f s₁ => wpC M A (callWith pos f [] trees []) Q E s₁) E s) :
    wpC M A (eval (.Call (.Name x p) args [] pos) env) Q E s := by
  subst ht
  rw [arm_eval_Call_Name']
  exact wpC_leaf h
theorem wpC_operate {vs : List Value} {m : Sem Value} {Q : Value → Shared → Prop} (h : wpC M A m Q E s) : wpC M A (operate vs m) Q E s := by
  intro Γ p hΓ c1 c2
  rw [Sem.wp_operate]
  exact h Γ p hΓ c1 c2
end

section
variable {prog : Program} {w : World} {A : Around} {E : Value → Shared → Prop} {R : Result → Shared → Prop} {s : Shared} {env : Env}

theorem wpC_Expr {e : Expr} {pos : Pos} {Q : Flow → Shared → Prop} (h : wpC (model prog w) A (eval e env) (fun _ => Q .next) E s)
    (hi : interactive env = false := by rfl) (hs : swapsWith e none pos.line env = pure false := by rfl) :
    wpC (model prog w) A (exec (.Expr e pos) env) Q E s := by
  rw [exec_Expr env e pos hi hs]
  exact wpC_bind (wpC_standAt (wpC_bind (wpC_mono h (fun v s' h' => wpC_of (wpAny_dropValue h')) fun _ _ x => x)))

theorem codeC_whileLoop {test : Expr} {body orelse : List Stmt} (I : Nat → Shared → Prop)
    (turn : ∀ n s, I n s →
      wpC (model prog w) A (isTrue test env (eval test env)) (fun b s₂ =>
        if b then wpC (model prog w) A (execs body env) (fun f s₃ => match f with
            | .next | .cont => ∃ m, m < n ∧ I m s₃
            | .brk => R (.ok .next) s₃
            | .ret v => R (.ok (.ret v)) s₃) (notedBy (model prog w) A env fun e s' => R (.error e) s') s₂
        else wpC (model prog w) A (execs orelse env) (fun f s₃ => R (.ok f) s₃) (notedBy (model prog w) A env fun e s' => R (.error e) s') s₂)
        (notedBy (model prog w) A env fun e s' => R (.error e) s') s)
    (n : Nat) (h : I n s) : codeC (model prog w) A (.whileLoop test body orelse env) R s := by
  refine codeC_loop rfl rfl I (fun n s hI => ?_) n h
  show wpC _ A ((whileTurn test body orelse env).onRaise (fun x => do noteFrame x env; theTreesLotGoes x)) _ _ s
  refine wpC_onRaise (wpC_mono (E := notedBy (model prog w) A env fun e s' => R (.error e) s') ?_ (fun _ _ q => q) fun _ _ hx => wpAny_bind (wpAny_mono hx (fun _ _ e => wpAny_theTreesLotGoes e) fun _ _ e => e))
  simp only [whileTurn]
  refine wpC_bind (wpC_mono (turn n s hI) (fun b s₂ h₂ => ?_) fun _ _ h' => h')
  cases b with
  | false =>
    simp only [Bool.false_eq_true, if_false] at h₂ ⊢
    exact wpC_bind (wpC_mono h₂ (fun f s₃ h₃ => wpC_pure h₃) fun _ _ h' => h')
  | true =>
    simp only [if_true] at h₂ ⊢
    refine wpC_bind (wpC_mono h₂ (fun f s₃ h₃ => ?_) fun _ _ h' => h')
    cases f with
    | next => exact wpC_pure ⟨rfl, h₃⟩
    | cont => exact wpC_pure ⟨rfl, h₃⟩
    | brk => exact wpC_pure h₃
    | ret v => exact wpC_pure h₃

theorem codeC_func {body : List Stmt}
    (h : wpC (model prog w) (A.deeper env) (execs body env) (fun f s' => R (.ok (.ret (match f with | .ret v => v | _ => .none))) s')
      (fun e s' => wpAny (model prog w) (A.deeper env) (leaving env e) (fun _ s'' => R (.error e) s'') (fun e' s'' => R (.error e') s'') s') s) :
    codeC (model prog w) A (.func body env) R s := by
  refine codeC_of_tree rfl ?_
  show wpC _ (A.deeper env) (do point; match ← (execs body env).onRaise (leaving env) with | .ret v => ret v | _ => ret .none) _ _ s
  refine wpC_leaf (wpAny_point (wpC_bind (wpC_onRaise (wpC_mono h (fun f s' h' => ?_) fun _ _ h' => h'))))
  cases f <;> exact wpC_pure h'

theorem codeC_call_function {a : Addr} {args : Args} {o : Obj} {fd : FuncData} {body : List Stmt} (hroom : A.depth < recursionLimit)
    (ho : s.heap.get? a = some o)
    (hd' : o.data = .func fd) (hco : fd.scope.isCoroutine = false) (hgen : fd.scope.isGenerator = false) (hbody : fd.body = .stmts body) (hcd : s.heap.CodeRec fd.code fd.qualname)
    (h : wpAny (model prog w) A.in1 (bindArgs fd args) (fun binds s₁ =>
      wpAny (model prog w) A.in1 (newFunctionEnv fd.scope fd.globals fd.closure binds (fd.qualname ++ ".<locals>.") (some a) fd.code none fd.builtins)
        (fun env s₂ => s₂.heap.NoLimit ∧ codeC (model prog w) A (.func body env) R s₂) (fun e s' => R (.error e) s') s₁) (fun e s' => R (.error e) s') s) :
    codeC (model prog w) A (.call (.ref a) args) R s := by
  refine codeC_of_tree rfl (wpC_of ?_)
  show wpAny _ A.in1 (callAny (.ref a) args) _ _ s
  simp only [callAny]
  refine wpAny_bind (wpAny_load ho ?_)
  obtain ⟨c, oc, vs, tq, hc, hoc, hdc, hq⟩ := hcd
  simp only [hd', callFunction, hco, hgen, hbody, hc]
  rw [hc] at h
  refine wpAny_bind (m := field (.ref c) 1) (wpAny_field hoc hdc hq (wpAny_bind (wpAny_pure ?_)))
  exact wpAny_bind (wpAny_mono h (fun binds s₁ h₁ => wpAny_bind (wpAny_mono h₁ (fun env s₂ h₂ => wpAny_bind (wpAny_enterFrame h₂.1 hroom
    (wpAny_pure (And.intro rfl h₂.2)))) fun _ _ h' => h')) fun _ _ h' => h')

theorem codeC_call_def {a : Addr} {o : Obj} {fd : FuncData} {body : List Stmt} {args : Args} {binds : List (Str × Value)}
    (hroom : A.depth < recursionLimit) (ho : s.heap.get? a = some o) (hdata : o.data = .func fd) (hlim : s.heap.NoLimit) (hcd : s.heap.CodeRec fd.code fd.qualname)
    (hbody : fd.body = .stmts body) (hbind : BindsTo s fd args binds)
    (hcell : ∀ x ∈ fd.scope.names, x.2 ≠ .cell) (hloc : ∀ x ∈ binds, fd.scope.names.lookup x.1 = some .local)
    (h : ∀ h₀, h₀.Ns s.heap.objs.size (fun x => binds.reverse.lookup x) → (∀ b o, s.heap.get? b = some o → h₀.get? b = some o) →
      wpC (model prog w) (A.deeper (callEnv fd s.heap.objs.size a)) (execs body (callEnv fd s.heap.objs.size a)) (fun f s' => R (.ok (.ret (match f with | .ret v => v | _ => .none))) s')
        (fun e s' => wpAny (model prog w) (A.deeper (callEnv fd s.heap.objs.size a)) (leaving (callEnv fd s.heap.objs.size a) e) (fun _ s'' => R (.error e) s'') (fun e' s'' => R (.error e') s'') s')
        { s with heap := h₀, toks := s.toks + binds.length })
    (hco : fd.scope.isCoroutine = false := by rfl) (hgen : fd.scope.isGenerator = false := by rfl) (hk : fd.scope.kind = .function := by rfl) :
    codeC (model prog w) A (.call (.ref a) args) R s := by
  refine codeC_call_function hroom ho hdata hco hgen hbody hcd (hbind _ _ _ _ ?_)
  refine wpAny_newFunctionEnv hcell hloc (fun h₀ hns₀ hsb₀ => ⟨hlim.fresh _ hsb₀, codeC_func (h h₀ hns₀ fun b o e => ?_)⟩) hk
  exact hsb₀.extBut b o (Nat.ne_of_lt (Heap.lt_size e)) (Heap.get?_push_of_some _ e)
end
theorem wpC_fold {α : Type} {M : Model} {A : Around} {t : Sem α} {Q : α → Shared → Prop} {E : Value → Shared → Prop} {s : Shared} (h : let qc := Q; let ec := E; wpC M A t qc ec s) : wpC M A t Q E s := h
end Mine


/-! ## A4 -/
namespace Mine
open PySem.Calls

section
variable {α β : Type} {M : Model} {A : Around} {E : Value → Shared → Prop} {s : Shared} {env : Env}

theorem wpC_spliced1 {x : Sem Value} {Q : List Value → Shared → Prop} (h : wpC M A x (fun v s₁ => Q [v] s₁) E s) : wpC M A (spliced [(false, x)]) Q E s := by
  rw [spliced]
  refine wpC_bind (wpC_mono h (fun v s₁ h₁ => ?_) fun _ _ x => x)
  simp only [Bool.false_eq_true, if_false]
  exact wpC_bind (wpC_pure (wpC_bind (wpC_holding (wpC_pure (wpC_pure h₁)))))
theorem wpC_evalArgs {f : Value} {x : Sem Value} {rest : List (Bool × Sem Value)} {Q : Args → Shared → Prop}
    (h : wpC M A (spliced ((false, x) :: rest)) (fun vs s' => Q ⟨vs, []⟩ s') E s) : wpC M A (evalArgs f true ((false, x) :: rest) []) Q E s := by
  unfold evalArgs
  show wpC M A (spliced ((false, x) :: rest) >>= _) Q E s
  refine wpC_bind (wpC_mono h (fun vs s' h' => ?_) fun _ _ x => x)
  refine wpC_holding ?_
  exact wpC_bind (wpC_pure (wpC_bind (wpC_pure (wpC_pure h'))))

/-- f(..) of a def of the text: arguments are leaves -/
theorem wpC_callWith_fn {pos : Pos} {a : Addr} {o : Obj} {fd : FuncData} {x : Sem Value} {rest : List (Bool × Sem Value)} {Q : Value → Shared → Prop} (hplain : rest.any (·.1) = false)
    (h : wpAny M A (spliced ((false, x) :: rest)) (fun vs s₁ => (s₁.heap.get? a = some o ∧ o.data = .func fd) ∧ wpC M A (call (.ref a) vs) Q E s₁) E s) :
    wpC M A (callWith pos (.ref a) [] ((false, x) :: rest) []) Q E s := by
  have h2 : wpAny M A (evalArgs (.ref a) true ((false, x) :: rest) []) (fun (y : Args) s₁ => (s₁.heap.get? a = some o ∧ o.data = .func fd) ∧ wpC M A (call (.ref a) ([] ++ y.pos) y.kw) Q E s₁) E s := evalArgs_plain h
  unfold callWith
  refine wpC_leaf (wpAny_holding (wpAny_mono h2 (fun ar s₁ h₁ => wpC_leaf (wpAny_standAt ?_)) fun _ _ q => q))
  have tail : ∀ {t : Sem Value}, wpC M A t Q E s₁ → wpC M A (t >>= fun r => holding [r] point >>= fun _ => pure r) Q E s₁ :=
    fun ht => wpC_bind (wpC_mono ht (fun r s₂ hr => wpC_leaf (wpAny_holding (wpAny_point (wpC_pure hr)))) fun _ _ x => x)
  have hs : (((false, x) :: rest).any (·.1) || ([] : List (Option Str × Sem Value)).any (·.1.isNone)) = false := by
    rw [List.any_cons, hplain]; rfl
  refine wpC_leaf (m := keeperOf (.ref a)) ?_
  unfold keeperOf
  refine wpAny_bind (wpAny_load h₁.1.1 ?_)
  rw [h₁.1.2]
  refine wpAny_pure ?_
  rw [hs]
  dsimp only
  split
  · exact tail h₁.2
  · exact tail (by unfold callMarked; exact wpC_keep h₁.2)

/-- a call of a built-in (a method's too): arguments are leaves -/
theorem wpC_callWith_builtin {pos : Pos} {id : String} {first : List Value} {x : Sem Value} {rest : List (Bool × Sem Value)} {Q : Value → Shared → Prop} (hplain : rest.any (·.1) = false)
    (h : wpAny M A (spliced ((false, x) :: rest)) (fun vs s₁ => wpC M A (call (.builtin id) (first ++ vs)) Q E s₁) E s) :
    wpC M A (callWith pos (.builtin id) first ((false, x) :: rest) []) Q E s := by
  have h2 : wpAny M A (evalArgs (.builtin id) true ((false, x) :: rest) []) (fun (y : Args) s₁ => wpC M A (call (.builtin id) (first ++ y.pos) y.kw) Q E s₁) E s := evalArgs_plain h
  unfold callWith
  refine wpC_leaf (wpAny_holding (wpAny_mono h2 (fun ar s₁ h₁ => wpC_leaf (wpAny_standAt ?_)) fun _ _ q => q))
  have hs : (((false, x) :: rest).any (·.1) || ([] : List (Option Str × Sem Value)).any (·.1.isNone)) = false := by
    rw [List.any_cons, hplain]; rfl
  rw [hs]
  refine wpC_leaf (m := keeperOf (.builtin id)) (wpAny_pure ?_)
  dsimp only
  exact wpC_bind (wpC_mono h₁ (fun r s₂ hr => wpC_leaf (wpAny_holding (wpAny_point (wpC_pure hr)))) fun _ _ x => x)

/-- T(x) with a spine in its one argument; what T does of it is a leaf -/
theorem wpC_callWith_type1 {pos : Pos} {T : String} {x : Sem Value} {Q : Value → Shared → Prop}
    (h : wpC M A x (fun v s₁ => wpAny M A (call (.type T) [v]) Q E s₁) E s) :
    wpC M A (callWith pos (.type T) [] [(false, x)] []) Q E s := by
  unfold callWith
  refine wpC_bind (wpC_holding (wpC_evalArgs (wpC_spliced1 (wpC_mono h (fun v s₁ h₁ => wpC_leaf (wpAny_standAt ?_)) fun _ _ x => x))))
  refine wpC_leaf (m := keeperOf (.type T)) (wpAny_pure ?_)
  dsimp only
  exact wpC_leaf (wpAny_mono h₁ (fun r s₂ hr => wpC_leaf (wpAny_holding (wpAny_point (wpC_pure hr)))) fun _ _ x => x)
/-- T() -/
theorem wpC_callWith_type0 {pos : Pos} {T : String} {Q : Value → Shared → Prop} (h : wpC M A (call (.type T) []) Q E s) :
    wpC M A (callWith pos (.type T) [] [] []) Q E s := by
  unfold callWith
  refine wpC_leaf (wpAny_holding (PyProof.Rows.evalArgs_none ?_))
  refine wpC_leaf (wpAny_standAt ?_)
  refine wpC_leaf (m := keeperOf (.type T)) (wpAny_pure ?_)
  dsimp only
  exact wpC_bind (wpC_mono h (fun r s₂ hr => wpC_leaf (wpAny_holding (wpAny_point (wpC_pure hr)))) fun _ _ x => x)

/-- a comparison, the spine in its left side -/
theorem wpC_isTrue_Compare1 {l r : Expr} {op : CmpOp} {pos : Pos} {whole : Sem Value} {Q : Bool → Shared → Prop}
    (h : wpC M A (eval l env) (fun a s₁ => wpAny M A (eval r env) (fun b s₂ => wpAny M A (compareOp op a b)
      (fun c s₃ => wpAny M A (truthy c) Q E s₃) E s₂) E s₁) E s)
    (hm : behindInMarks op r = false := by with_unfolding_all rfl) : wpC M A (isTrue (.Compare l [op] [r] pos) env whole) Q E s := fun Γ p hΓ c1 c2 => by
  simp only [isTrue_Compare1, markedBehindIn_of_false hm, Sem.wp_bind', Sem.wp_holding, Sem.wp_cmd_standAt, Sem.wp_operate]
  exact Sem.wp_mono M Γ _ (fun a p₁ s₁ h₁ => Sem.wp_mono M Γ _ (fun b _ s₂ h₂ => Sem.wp_mono M Γ _ (fun c p₃ s₃ h₃ => h₃ Γ p₃ hΓ)
    (fun _ _ _ h' => h') _ _ (h₂ Γ _ hΓ)) (fun _ _ _ h' => h') _ _ (h₁ Γ p₁ hΓ)) (fun _ _ _ h' => h') _ _ (h Γ p hΓ c1 c2)
/-- x or rest: the spine in x; the rest a leaf -/
theorem wpC_isTrue_or {x : Expr} {rest : List Expr} {pos : Pos} {whole : Sem Value} {Q : Bool → Shared → Prop}
    (h : wpC M A (isTrue x env (eval x env)) (fun c s' => if c then Q true s' else wpAny M A (isTrue (.BoolOp .Or rest pos) env whole) Q E s') E s) :
    wpC M A (isTrue (.BoolOp .Or (x :: rest) pos) env whole) Q E s := by
  show wpC M A (do
    match BoolOp.Or, ← isTrue x env (eval x env) with
    | .And, false => pure false
    | .Or, true => pure true
    | _, _ => allTrue .Or rest env) Q E s
  refine wpC_bind (wpC_mono h (fun c s' hc => ?_) fun _ _ e => e)
  cases c with
  | true => exact wpC_pure hc
  | false => exact wpC_of hc
end

section
variable {prog : Program} {w : World} {A : Around} {E : Value → Shared → Prop} {s : Shared} {env : Env}

/-- o.name(e): o and e leaves -/
theorem wpC_Call_method1 {o e : Expr} {name : Str} {apos pos : Pos} {T id : String} {Q : Value → Shared → Prop}
    (hbase : attributeBase o name env (eval o env) = eval o env) (hline : (apos.endLine == pos.line) = true)
    (htrees : backTo pos (starEach [e] env) = [(false, eval e env)])
    (pa : PlainAttrs T) (slot : Slot T name id) (hty : typeOf (.builtin id) = pure (.type "method_descriptor"))
    (h : wpAny (model prog w) A (eval o env) (fun ov s₁ => s₁.TypeIs ov T ∧ (∀ a, ov = .ref a → ∃ ob, s₁.heap.get? a = some ob ∧ ob.dict = none) ∧
      wpAny (model prog w) A (eval e env) (fun v s₂ => wpC (model prog w) A (call (.builtin id) [ov, v]) Q E s₂) E s₁) E s) :
    wpC (model prog w) A (eval (.Call (.Attribute o name apos) [e] [] pos) env) Q E s := by
  rw [arm_eval_Call, hbase]
  refine wpC_leaf (wpAny_mono h (fun ov s₁ h₁ => ?_) fun _ _ e => e)
  obtain ⟨hT, hd, hc⟩ := h₁
  refine wpC_leaf (wpAny_standAt ?_)
  have hform : methodCallForm ([e].length + ([] : List Keyword).length) (backTo pos (starEach [e] env)) (backToKw pos (keywordEach [] env)) = true := by rw [htrees]; rfl
  have hpos : methodCallPos true o env apos pos = pure pos := by unfold methodCallPos; simp [hline]
  unfold methodCall
  rw [hform]
  refine wpC_leaf (wpAny_holding (getMethod_builtin hT pa slot hty hd ?_))
  refine wpC_leaf (wpAny_of_eq hpos ?_)
  rw [htrees]
  exact wpC_callWith_builtin rfl (spliced_cons (wpAny_mono hc (fun v s₂ h₂ => spliced_nil h₂) fun _ _ e => e))

theorem wpC_Try_except {body orelse : List Stmt} {h₀ : ExceptHandler} {hs : List ExceptHandler} {pos : Pos} {Q : Flow → Shared → Prop}
    (h : wpC (model prog w) A (execs body env) (fun f s₁ => match f with | .next => wpAny (model prog w) A (execs orelse env) Q E s₁ | f => Q f s₁)
      (fun e s₁ => wpAny (model prog w) A (noteFrame e env) (fun _ s₂ => wpAny (model prog w) A (setFlight e none) (fun _ s₃ => wpAny (model prog w) A (handleBy e env (h₀ :: hs)) Q E s₃) E s₂) E s₁) s) :
    wpC (model prog w) A (exec (.Try body (h₀ :: hs) orelse [] pos) env) Q E s := by
  rw [arm_exec_Try]
  refine wpC_leaf (wpAny_standAt ?_)
  unfold tryStmt
  show wpC _ A ((execs body env).attempt >>= _) Q E s
  refine wpC_bind (wpC_attempt (wpC_mono h (fun f s₁ h₁ => ?_) fun e s₁ h₁ => ?_))
  · cases f with
    | next => exact wpC_of h₁
    | _ => exact wpC_pure h₁
  · exact wpC_leaf (wpAny_mono h₁ (fun _ s₂ h₂ => wpC_leaf (wpAny_mono h₂ (fun _ s₃ h₃ => wpC_of h₃) fun _ _ e => e)) fun _ _ e => e)
end
end Mine


/-! ## A5 -/
namespace Mine
open PySem.Calls PySem.Builtin

section
variable {α β : Type} {M : Model} {A : Around} {E : Value → Shared → Prop} {s : Shared} {env : Env}

theorem wpC_rule {tag : String} {Q : Unit → Shared → Prop} (h : Q () s) : wpC M A (rule tag) Q E s := wpC_of (wpAny_rule h)
theorem wpC_ite_false {c : Prop} [Decidable c] {a b : Sem α} {Q : α → Shared → Prop} (hc : ¬ c) (h : wpC M A b Q E s) : wpC M A (if c then a else b) Q E s := by rw [if_neg hc]; exact h
theorem wpC_ite_true {c : Prop} [Decidable c] {a b : Sem α} {Q : α → Shared → Prop} (hc : c) (h : wpC M A a Q E s) : wpC M A (if c then a else b) Q E s := by rw [if_pos hc]; exact h

theorem wpC_stackAny {f : Code × Pos → Bool} {Q : Bool → Shared → Prop} (hf : ∀ c p, cleanCode c = true → f (c, p) = false) (h : Q false s) :
    wpC M A (do return (← stack).any f) Q E s := fun Γ p _ c1 c2 => by
  have hany : ∀ l : List (Code × Pos), cleanSt l = true → l.any f = false := by
    intro l
    induction l with
    | nil => intro _; rfl
    | cons x l ih =>
      intro hl
      obtain ⟨c, q⟩ := x
      rw [cleanSt_cons, Bool.and_eq_true] at hl
      rw [List.any_cons, hf c q hl.1, ih hl.2]; rfl
  show Q (((Γ.code, p) :: Γ.below).any f) s
  rw [hany _ (by rw [cleanSt_cons, c1, c2]; rfl)]
  exact h

theorem not_in {id : String} {l : List String} (h : (!l.contains id) = true) : ∀ x ∈ l, ¬ (id = x) := fun x hx q => by
  rw [q, List.contains_iff_mem.mpr hx] at h; cases h
theorem wpC_exported {v : Value} {Q : Bool → Shared → Prop} (h : Q false s) : wpC M A (Bytes.exported v) Q E s := by
  unfold Bytes.exported
  refine wpC_stackAny (fun c p hc => ?_) h
  cases c with
  | builtin id args =>
    obtain ⟨pos, kw⟩ := args
    have n := not_in hc
    have hd : Bytes.decodersThatHold.contains id = false := by
      cases q : Bytes.decodersThatHold.contains id with
      | false => rfl
      | true => exact absurd rfl (n id (List.mem_append_right _ (List.contains_iff_mem.mp q)))
    have n1 := n "bytearray.__contains__" (.head _)
    have n2 := n "bytearray.__mod__" (.tail _ (.head _))
    have n3 := n "bytearray.__rmod__" (.tail _ (.tail _ (.head _)))
    have n4 := n "_struct.pack_into.held" (.tail _ (.tail _ (.tail _ (.head _))))
    have n5 := n "bytearray.find.held" (.tail _ (.tail _ (.tail _ (.tail _ (.head _)))))
    delta PySem.Builtin.Bytes.exported.match_1
    refine (dif_neg n1).trans ((dif_neg n2).trans ((dif_neg n3).trans ((dif_neg n4).trans ((dif_neg n5).trans ?_))))
    cases pos with
    | nil => rfl
    | cons x l =>
      show (Bytes.sameRef x v && Bytes.decodersThatHold.contains id) = false
      rw [hd, Bool.and_false]
  | _ => rfl
end

namespace Fb
theorem mro_ba : mroOf (.type "bytearray") = pure [.type "bytearray", .type "object"] := by rw [mroOf_type]; kernel_rfl
theorem lookup_new : typeLookup (.type "bytearray") "__new__" = pure (some (.builtin "bytearray.__new__")) := by rw [typeLookup_type, builtinLookup_eq_fast]; kernel_rfl
theorem lookup_buffer : typeLookup (.type "bytearray") "__buffer__" = pure (some (.builtin "bytearray.__buffer__")) := by rw [typeLookup_type, builtinLookup_eq_fast]; kernel_rfl
theorem lookup_release : typeLookup (.type "bytearray") "__release_buffer__" = pure (some (.builtin "bytearray.__release_buffer__")) := by rw [typeLookup_type, builtinLookup_eq_fast]; kernel_rfl
theorem lk_bytes : typeLookup (.type "bytearray") "__bytes__" = pure none := by rw [typeLookup_type, builtinLookup_eq_fast]; kernel_rfl
theorem lk_index : typeLookup (.type "bytearray") "__index__" = pure none := by rw [typeLookup_type, builtinLookup_eq_fast]; kernel_rfl
theorem slot_init : Slot "bytearray" "__init__" "bytearray.__init__" :=
  .of (owner := "bytearray") (n := "__init__") (by rw [typeLookup_type, builtinLookup_eq_fast]; kernel_rfl) (by decide +kernel) (by decide +kernel) (by decide +kernel)
    (by first | exact .inl (by decide +kernel) | exact .inr (by decide +kernel)) (by rw [isSubtype_type]; kernel_rfl)
theorem slot_append : Slot "bytearray" "append" "bytearray.append" :=
  .of (owner := "bytearray") (n := "append") (by rw [typeLookup_type, builtinLookup_eq_fast]; kernel_rfl) (by decide +kernel) (by decide +kernel) (by decide +kernel)
    (by first | exact .inl (by decide +kernel) | exact .inr (by decide +kernel)) (by rw [isSubtype_type]; kernel_rfl)
theorem called : TypeCalled "bytearray" "bytearray.__new__" "bytearray.__init__" :=
  ⟨by decide +kernel, by decide +kernel, ⟨_, _, mro_ba⟩, madeBy_type mro_ba lookup_new (by decide +kernel), by decide +kernel, by rw [isSubtype_type]; kernel_rfl, slot_init⟩
theorem typeCall : checkTypeCall "bytearray" ⟨[], []⟩ = pure () := by kernel_rfl
theorem newCall : checkBuiltinCall "bytearray.__new__" ⟨[.type "bytearray"], []⟩ = pure () := by kernel_rfl
theorem entry_new : entryFor table "bytearray.__new__" = some Builtin.«list.__new__» := entryFor_alias (id' := "list.__new__") (by rw [fastTable_eq_tree]; kernel_rfl) (by decide +kernel) (by decide +kernel) (by rw [fastTable_eq_tree]; kernel_rfl)
theorem entry_init : entryFor table "bytearray.__init__" = some Builtin.«bytearray.__init__» := by first | exact entryFor_of_tree (by kernel_rfl) | exact entryFor_of_fast (by kernel_rfl)
theorem entry_append : entryFor table "bytearray.append" = some Builtin.«bytearray.append» := by first | exact entryFor_of_tree (by kernel_rfl) | exact entryFor_of_fast (by kernel_rfl)
theorem plain_new : plainId "bytearray.__new__" = true := by decide +kernel
set_option maxRecDepth 1000000 in
set_option maxHeartbeats 4000000 in
theorem owner_new : ("bytearray.__new__".splitOn ".__new__").headD "" = "bytearray" := by simp +decide [String.splitOn, String.splitOnAux]
theorem sub_self : isSubtype (.type "bytearray") (.type "bytearray") = pure true := by rw [isSubtype_type]; kernel_rfl
theorem initArgs (o : Value) : argsOk "bytearray.__init__" ⟨[o], []⟩ := by unfold argsOk; kernel_rfl
theorem appendArgs (o a : Value) : argsOk "bytearray.append" ⟨[o, a], []⟩ := by unfold argsOk; kernel_rfl
theorem bind0 : Bytes.bindOptional "bytearray.__init__" "bytearray" ["source", "encoding", "errors"] [] [] = pure [none, none, none] := by kernel_rfl
theorem type_append : typeOf (.builtin "bytearray.append") = pure (.type "method_descriptor") := by
  first | kernel_rfl | rfl
end Fb
end Mine


/-! ## A6 -/
namespace Mine
open PySem.Calls PySem.Builtin

section
variable {prog : Program} {w : World} {A : Around} {E : Value → Shared → Prop} {R : Result → Shared → Prop} {s : Shared} {env : Env}

theorem codeC_builtin {id : String} {args : Args} {b : Builtin} (hcl : cleanCode (.builtin id args) = true) (hb : entryFor table id = some b)
    (h : wpC (model prog w) (A.under (.builtin id args)) (b args)
      (fun fin s' => match fin with | .done f => R (.ok f) s' | .again c' => c'.quiet = true ∧ codeC (model prog w) A c' R s') (fun e s' => R (.error e) s') s) :
    codeC (model prog w) A (.builtin id args) R s := by
  refine codeC_of_tree hcl ?_
  show wpC _ _ (match entryFor table id with | some b => b args | none => unsupported ((withoutEnding? id "#data").getD id)) _ _ s
  rw [hb]; exact h
theorem codeC_call_builtin {id : String} {args : Args} {b : Builtin} (hq : plainId id = true) (hcl : cleanCode (.builtin id args) = true) (hb : entryFor table id = some b)
    (h : wpAny (model prog w) A.in1 (checkBuiltinCall id args) (fun _ s₁ => wpC (model prog w) A.in1 (b args)
      (fun fin s' => match fin with | .done f => R (.ok f) s' | .again c' => c'.quiet = true ∧ codeC (model prog w) A c' R s') (fun e s' => R (.error e) s') s₁)
      (fun e s' => R (.error e) s') s) : codeC (model prog w) A (.call (.builtin id) args) R s := by
  refine codeC_of_tree rfl ?_
  show wpC _ A.in1 (do checkBuiltinCall id args; again (.builtin id args)) _ _ s
  refine wpC_leaf (wpAny_mono h (fun _ s₁ h₁ => wpC_pure (And.intro (plainId_quiet hq args) (codeC_builtin hcl hb ?_))) fun _ _ h' => h')
  rw [Around.under_plainId hq args]
  exact h₁
end

abbrev baObj (b : Array UInt8) : Obj := { cls := .type "bytearray", data := .bytearray b }

section
variable {M : Model} {A : Around} {E : Value → Shared → Prop} {s : Shared} {a : Addr} {b : Array UInt8}

theorem ba_type {n : Nat} (h : s.heap.get? a = some { cls := .type "bytearray", data := .bytearray b n }) : s.TypeIs (.ref a) "bytearray" := ⟨_, h, rfl⟩

theorem ba_slot_release {Q : Bool → Shared → Prop} (hT : s.TypeIs (.ref a) "bytearray") (h : Q true s) : wpAny M A (Bytes.slotIsOwn (.ref a) "__release_buffer__") Q E s := by
  unfold Bytes.slotIsOwn
  refine wpAny_bind (wpAny_specialOf hT Fb.lookup_release ?_)
  dsimp only
  have e : (!("bytearray.__release_buffer__".endsWith ("." ++ "__release_buffer__"))) = false := by decide +kernel
  rw [e]
  have e2 : "bytearray.__release_buffer__".dropRight ("__release_buffer__".length + 1) = "bytearray" := by decide +kernel
  rw [e2]
  exact wpAny_isInstance hT Fb.sub_self h
theorem ba_slot_buffer {Q : Bool → Shared → Prop} (hT : s.TypeIs (.ref a) "bytearray") (h : Q true s) : wpAny M A (Bytes.slotIsOwn (.ref a) "__buffer__") Q E s := by
  unfold Bytes.slotIsOwn
  refine wpAny_bind (wpAny_specialOf hT Fb.lookup_buffer ?_)
  dsimp only
  have e : (!("bytearray.__buffer__".endsWith ("." ++ "__buffer__"))) = false := by decide +kernel
  rw [e]
  have e2 : "bytearray.__buffer__".dropRight ("__buffer__".length + 1) = "bytearray" := by decide +kernel
  rw [e2]
  exact wpAny_isInstance hT Fb.sub_self h
theorem ba_ownRelease {Q : Bool → Shared → Prop} (hT : s.TypeIs (.ref a) "bytearray") (h : Q false s) : wpAny M A (Bytes.ownRelease (.ref a)) Q E s := by
  unfold Bytes.ownRelease
  exact wpAny_bind (ba_slot_release hT (wpAny_pure h))
theorem ba_payload {n : Nat} {Q : Array UInt8 → Shared → Prop} (ho : s.heap.get? a = some { cls := .type "bytearray", data := .bytearray b n }) (h : Q b s) : wpAny M A (Bytes.payload (.ref a)) Q E s := by
  unfold Bytes.payload Bytes.payload?
  exact wpAny_bind (wpAny_bind (wpAny_load ho (wpAny_pure (wpAny_pure h))))
theorem ba_exports {n : Nat} {Q : Nat → Shared → Prop} (ho : s.heap.get? a = some { cls := .type "bytearray", data := .bytearray b n }) (h : Q n s) : wpAny M A (Bytes.exportsOf (.ref a)) Q E s := by
  unfold Bytes.exportsOf
  exact wpAny_bind (wpAny_load ho (wpAny_pure h))
theorem ba_write {f : Array UInt8 → Array UInt8} {Q : Unit → Shared → Prop} (ho : s.heap.get? a = some (baObj b)) (hsz : (f b).size ≤ sizeLine)
    (h : Q () { s with heap := s.heap.update a (Obj.mapBytearray f) }) : wpAny M A (Bytes.write (.ref a) f) Q E s := by
  show wpAny M A (updateBytearray a f) Q E s
  unfold updateBytearray
  refine wpAny_bind (wpAny_load ho ?_)
  show wpAny M A (update a (Obj.mapBytearray f) >>= fun _ => lookBehind a) Q E s
  refine wpAny_bind (wpAny_update ho ?_)
  have h2 : (s.heap.update a (Obj.mapBytearray f)).get? a = some (baObj (f b)) := Heap.get?_update_self (Obj.mapBytearray f) ho rfl
  refine wpAny_lookBehind h2 ?_ h
  show (if (f b).size > sizeLine then some "bytearray:memory" else none) = none
  rw [if_neg (Nat.not_lt.mpr hsz)]
/-- the resize that nothing forbids -/
theorem ba_free {Q : Bool → Shared → Prop} (ho : s.heap.get? a = some (baObj b)) (h : Q false s) :
    wpC M A (Bytes.exported (.ref a) <||> (do return (← Bytes.exportsOf (.ref a)) > 0)) Q E s := by
  show wpC M A (Bytes.exported (.ref a) >>= fun r => _) Q E s
  refine wpC_bind (wpC_exported ?_)
  show wpC M A (Bytes.exportsOf (.ref a) >>= fun r => _) Q E s
  exact wpC_leaf (ba_exports ho (wpC_pure h))
theorem ba_checkResize {Q : Unit → Shared → Prop} (ho : s.heap.get? a = some (baObj b)) (h : Q () s) : wpC M A (Bytes.checkResize (.ref a)) Q E s := by
  unfold Bytes.checkResize
  exact wpC_bind (ba_free ho (wpC_ite_false (by decide) (wpC_pure h)))
end

section
variable {prog : Program} {w : World} {A : Around} {E : Value → Shared → Prop} {s : Shared} {a : Addr} {b : Array UInt8}

/-- found.append(v) of an int that fits -/
theorem ba_append {i : Int} {t : Tok} {Q : Value → Shared → Prop} (ho : s.heap.get? a = some (baObj b)) (h0 : 0 ≤ i) (h1 : i < 256) (hsz : b.size + 1 ≤ sizeLine)
    (h : Q .none { s with heap := s.heap.update a (Obj.mapBytearray (·.push i.toNat.toUInt8)) }) :
    wpC (model prog w) A (call (.builtin "bytearray.append") [.ref a, .int i t]) Q E s := by
  refine wpC_call (codeC_call_builtin Fb.slot_append.plain (show (!holdersOfBytes.contains "bytearray.append") = true by decide +kernel) Fb.entry_append (Fb.slot_append.check _ _ _ _ _ _ _ _ (ba_type ho) (Fb.appendArgs _ _) ?_))
  show wpC _ _ (selfAndOne "bytearray.append" ⟨[.ref a, .int i t], []⟩ >>= fun x => _) _ _ s
  refine wpC_leaf (wpAny_of_eq (a := (Value.ref a, Value.int i t)) rfl ?_)
  dsimp only
  refine wpC_leaf ?_
  unfold Bytes.byteValue
  refine wpAny_bind (wpAny_of_eq (rfl : asIndex (.int i t) = pure i) ?_)
  refine bm_if_false (by simp only [Bool.or_eq_false_iff, decide_eq_false_iff_not]; omega) (wpAny_pure ?_)
  refine wpC_bind (ba_checkResize ho (wpC_leaf (ba_write ho (by rw [Array.size_push]; exact hsz) (wpC_pure h))))

theorem ba_new {Q : Value → Shared → Prop} (h : Q (.ref s.heap.objs.size) { s with heap := s.heap.push (baObj #[]) }) :
    codeAny (model prog w) A (.call (.builtin "bytearray.__new__") ⟨[.type "bytearray"], []⟩) (wants Q E) s := by
  refine codeAny_of_tree ?_
  show wpAny _ A.in1 (do checkBuiltinCall "bytearray.__new__" ⟨[.type "bytearray"], []⟩; again (.builtin "bytearray.__new__" ⟨[.type "bytearray"], []⟩)) _ _ s
  refine wpAny_bind (wpAny_of_eq Fb.newCall (wpAny_pure ⟨plainId_quiet Fb.plain_new _, codeAny_builtin_stack Fb.entry_new rfl fun p st => ?_⟩))
  rw [Around.under_plainId Fb.plain_new _]
  have hsub := Fb.sub_self
  have hown := Fb.owner_new
  obtain ⟨hp, g, d, tk, os⟩ := s
  simp only [hown]
  wp_walk
  exact h

theorem ba_init {Q : Value → Shared → Prop} (ho : s.heap.get? a = some (baObj b)) (h : Q .none { s with heap := s.heap.update a (Obj.mapBytearray fun _ => #[]) }) :
    codeC (model prog w) A (.call (.builtin "bytearray.__init__") ⟨[.ref a], []⟩) (wants Q E) s := by
  refine codeC_call_builtin Fb.slot_init.plain (show (!holdersOfBytes.contains "bytearray.__init__") = true by decide +kernel) Fb.entry_init (Fb.slot_init.check _ _ _ _ _ _ _ _ (ba_type ho) (Fb.initArgs _) ?_)
  unfold Builtin.«bytearray.__init__»
  refine wpC_leaf (ba_ownRelease (ba_type ho) ?_)
  refine wpC_ite_false Bool.false_ne_true ?_
  refine wpC_leaf (wpAny_of_eq Fb.bind0 ?_)
  dsimp only
  refine wpC_leaf (wpAny_of_eq (a := ()) rfl ?_)
  refine wpC_leaf (wpAny_of_eq (a := ()) rfl ?_)
  refine wpC_bind (ba_free ho ?_)
  refine wpC_ite_false Bool.false_ne_true ?_
  refine wpC_leaf (ba_write ho (Nat.zero_le _) ?_)
  exact wpC_leaf (wpAny_of_eq (a := ()) rfl (wpC_pure h))

/-- bytearray() -/
theorem ba_call {Q : Value → Shared → Prop} (h : ∀ h', h'.get? s.heap.objs.size = some (baObj #[]) → (∀ c o, s.heap.get? c = some o → h'.get? c = some o) → Q (.ref s.heap.objs.size) { s with heap := h' }) :
    wpC (model prog w) A (call (.type "bytearray") []) Q E s := by
  obtain ⟨c, tl, hmro⟩ := Fb.called.mro
  have hmade := Fb.called.made
  have hsub := Fb.called.sub
  refine wpC_call (codeC_of_tree rfl ?_)
  show wpC _ _ (callAny (.type "bytearray") _) _ _ _
  refine wpC_pure ⟨Code.quiet_builtin _ (by decide +kernel), codeC_builtin (show (!holdersOfBytes.contains "type.__call__") = true by decide +kernel) F.entry_type_call ?_⟩
  rw [Around.under_plain (weight_type_call_type "bytearray" [] []) rfl]
  have h1 := Fb.called.notType
  have h2 := Fb.called.canCreate
  unfold Builtin.«type.__call__»
  dsimp only
  refine wpC_ite_false (by rw [h1]; exact Bool.false_ne_true) ?_
  refine wpC_ite_false (by rw [h2]; exact Bool.false_ne_true) ?_
  refine wpC_leaf (wpAny_of_eq Fb.typeCall ?_)
  refine wpC_leaf (wpAny_of_eq hmro ?_)
  refine wpC_ite_false (by simp) ?_
  refine wpC_leaf (wpAny_of_eq hmade ?_)
  dsimp only
  refine wpC_bind (wpC_pure ?_)
  refine wpC_leaf (wpAny_holding (wpAny_call (ba_new ?_)))
  have ho : (s.heap.push (baObj #[])).get? s.heap.objs.size = some (baObj #[]) := Heap.get?_push_size _ rfl
  have hT : ({ s with heap := s.heap.push (baObj #[]) } : Shared).TypeIs (.ref s.heap.objs.size) "bytearray" := ba_type ho
  refine wpC_leaf (wpAny_isInstance hT hsub ?_)
  refine wpC_ite_false Bool.false_ne_true ?_
  refine wpC_bind (wpC_holding ?_)
  unfold callSpecial?
  refine wpC_leaf (wpAny_specialOf hT Fb.slot_init.lookup ?_)
  dsimp only
  refine wpC_holding ?_
  refine wpC_leaf (wpAny_of_eq (Fb.slot_init.bind _) ?_)
  dsimp only
  refine wpC_bind (wpC_call (ba_init (s := { s with heap := s.heap.push (baObj #[]) }) ho ?_))
  refine wpC_pure ?_
  dsimp only
  refine wpC_ite_false (by decide) ?_
  refine wpC_pure ?_
  exact h _ (Heap.get?_update_self (Obj.mapBytearray fun _ => #[]) ho rfl) fun c o hc => (Heap.get?_update_other _ _ (Nat.ne_of_gt (Heap.lt_size hc))).trans (Heap.get?_push_of_some _ hc)
end
end Mine


/-! ## A7 -/
namespace Mine
open PySem.Calls PySem.Builtin

namespace Fb
theorem lookup_bytes_bytes : typeLookup (.type "bytes") "__bytes__" = pure (some (.builtin "bytes.__bytes__")) := by rw [typeLookup_type, builtinLookup_eq_fast]; kernel_rfl
end Fb
section
variable {prog : Program} {w : World} {A : Around} {E : Value → Shared → Prop} {s : Shared} {a : Addr} {b : Array UInt8}

theorem ba_buffer {id : String} {Q : Option (Array UInt8) → Shared → Prop} {full : Bool} (ho : s.heap.get? a = some (baObj b)) (h : Q (some b) s) :
    wpAny (model prog w) A (Bytes.buffer? id (.ref a) full) Q E s := by
  unfold Bytes.buffer?
  refine wpAny_bind (wpAny_specialOf (ba_type ho) Fb.lookup_buffer ?_)
  dsimp only
  refine wpAny_bind (ba_slot_buffer (ba_type ho) ?_)
  refine bm_if_false rfl ?_
  refine wpAny_bind (wpAny_specialOf (ba_type ho) Fb.lookup_buffer ?_)
  refine wpAny_bind (ba_ownRelease (ba_type ho) ?_)
  refine bm_if_false rfl ?_
  exact wpAny_bind (ba_payload ho (wpAny_pure h))

theorem ba_toBytes_new {Q : Value → Shared → Prop} (ho : s.heap.get? a = some (baObj b)) (hz : b.size ≤ sizeLine) (hQ : ∀ t, Q (.bytes b t) { s with toks := s.toks + 1 }) :
    codeAny (model prog w) A (.call (.builtin "bytes.__new__") ⟨[.type "bytes", .ref a], []⟩) (wants Q E) s := by
  refine codeAny_of_tree ?_
  show wpAny _ A.in1 (do checkBuiltinCall "bytes.__new__" ⟨[.type "bytes", .ref a], []⟩; again (.builtin "bytes.__new__" ⟨[.type "bytes", .ref a], []⟩)) _ _ s
  refine wpAny_bind (wpAny_of_eq (F.bm_newCall _) (wpAny_pure ⟨plainId_quiet F.bm_plain _, codeAny_builtin F.bm_entry ?_⟩))
  rw [Around.under_plainId F.bm_plain _]
  have hT := ba_type ho
  unfold Builtin.«bytes.__new__»
  refine wpAny_bind (wpAny_of_eq (a := true) rfl ?_)
  refine bm_if_false rfl ?_
  refine wpAny_bind (wpAny_of_eq F.bm_sub ?_)
  refine bm_if_false rfl ?_
  refine wpAny_bind (wpAny_of_eq (F.bm_bind _) ?_)
  refine wpAny_bind (wpAny_of_eq (a := ()) rfl ?_)
  refine wpAny_bind (wpAny_of_eq (a := ()) rfl ?_)
  refine bm_if_false rfl ?_
  refine wpAny_bind (wpAny_specialOf hT Fb.lk_bytes ?_)
  refine wpAny_bind (wpAny_bind ?_)
  show wpAny _ _ (load a >>= _) _ _ _
  refine wpAny_bind (wpAny_load ho ?_)
  refine wpAny_pure (wpAny_pure ?_)
  refine bm_if_false rfl ?_
  refine wpAny_bind (wpAny_specialOf hT Fb.lk_index ?_)
  refine bm_if_true rfl ?_
  first
    | show wpAny _ _ (Builtin.Bytes.buffer? "bytes.__new__" (.ref a) true >>= _) _ _ _
    | (refine wpAny_bind ?_; show wpAny _ _ (Builtin.Bytes.buffer? "bytes.__new__" (.ref a) true >>= _) _ _ _)
  refine wpAny_bind (ba_buffer ho ?_)
  dsimp only
  refine wpAny_bind (wpAny_rule ?_)
  refine wpAny_bind (wpAny_mkBytes ?_ hz)
  show wpAny _ _ (if (Value.type "bytes" == Value.type "bytes") = true then _ else _) _ _ _
  refine bm_if_true (by decide) ?_
  first
    | exact wpAny_pure (hQ _)
    | exact wpAny_bind (wpAny_pure (wpAny_pure (hQ _)))

/-- bytes(found) -/
theorem ba_toBytes {Q : Value → Shared → Prop} (ho : s.heap.get? a = some (baObj b)) (hz : b.size ≤ sizeLine) (hQ : ∀ t, Q (.bytes b t) { s with toks := s.toks + 1 }) :
    wpAny (model prog w) A (call (.type "bytes") [.ref a]) Q E s := by
  refine callType_codes (Q₁ := fun obj s₁ => s₁.TypeIs obj "bytes" ∧ Q obj s₁) F.bm_called (F.bm_typeCall _) F.entry_object_init
    (ba_toBytes_new ho hz fun t => ⟨PySem.W.typeIs_bytes _ _ _, hQ t⟩) fun obj s₁ h₁ => ?_
  exact ⟨h₁.1, F.args_object_init_2 obj _, object_init_meets F.bm_called.init.lookup F.bm_called.made (by decide) prog w A.in1 _ s₁ ⟨h₁.1, rfl, h₁.2⟩⟩

theorem by_toBytes_new {t : Tok} {Q : Value → Shared → Prop} (hQ : Q (.bytes b t) s) :
    codeAny (model prog w) A (.call (.builtin "bytes.__new__") ⟨[.type "bytes", .bytes b t], []⟩) (wants Q E) s := by
  refine codeAny_of_tree ?_
  show wpAny _ A.in1 (do checkBuiltinCall "bytes.__new__" ⟨[.type "bytes", .bytes b t], []⟩; again (.builtin "bytes.__new__" ⟨[.type "bytes", .bytes b t], []⟩)) _ _ s
  refine wpAny_bind (wpAny_of_eq (F.bm_newCall _) (wpAny_pure ⟨plainId_quiet F.bm_plain _, codeAny_builtin F.bm_entry ?_⟩))
  rw [Around.under_plainId F.bm_plain _]
  have hT : s.TypeIs (.bytes b t) "bytes" := PySem.W.typeIs_bytes _ _ _
  unfold Builtin.«bytes.__new__»
  refine wpAny_bind (wpAny_of_eq (a := true) rfl ?_)
  refine bm_if_false rfl ?_
  refine wpAny_bind (wpAny_of_eq F.bm_sub ?_)
  refine bm_if_false rfl ?_
  refine wpAny_bind (wpAny_of_eq (F.bm_bind _) ?_)
  refine wpAny_bind (wpAny_of_eq (a := ()) rfl ?_)
  refine wpAny_bind (wpAny_of_eq (a := ()) rfl ?_)
  refine bm_if_false rfl ?_
  refine wpAny_bind (wpAny_specialOf hT Fb.lookup_bytes_bytes ?_)
  dsimp only
  refine wpAny_bind (wpAny_rule ?_)
  refine wpAny_bind (wpAny_typeOf hT ?_)
  refine bm_if_true (by decide) ?_
  show wpAny _ _ (if (Value.type "bytes" == Value.type "bytes") = true then _ else _) _ _ _
  refine bm_if_true (by decide) ?_
  first
    | exact wpAny_pure hQ
    | exact wpAny_bind (wpAny_pure (wpAny_pure hQ))
/-- bytes(b) of bytes -/
theorem by_toBytes {t : Tok} {Q : Value → Shared → Prop} (hQ : Q (.bytes b t) s) :
    wpAny (model prog w) A (call (.type "bytes") [.bytes b t]) Q E s := by
  refine callType_codes (Q₁ := fun obj s₁ => s₁.TypeIs obj "bytes" ∧ Q obj s₁) F.bm_called (F.bm_typeCall _) F.entry_object_init
    (by_toBytes_new ⟨PySem.W.typeIs_bytes _ _ _, hQ⟩) fun obj s₁ h₁ => ?_
  exact ⟨h₁.1, F.args_object_init_2 obj _, object_init_meets F.bm_called.init.lookup F.bm_called.made (by decide) prog w A.in1 _ s₁ ⟨h₁.1, rfl, h₁.2⟩⟩
end
end Mine


/-! ## B1 -/
namespace Mine
open PySem.Calls
theorem fill1 : (PySem.Challenge.rw_on0258_01 = PySem.Challenge.rw_on0258_01) ∧ MineHead.hd.heap_39 = MineHead.hd.heap_39 := by w_top off; k_fill; exact ⟨rfl, rfl⟩

abbrev srcD (P : Params) (t1 t2 : Tok) (b : List UInt8) (tb : Tok) (i : Int) (ti : Tok) : Obj :=
  dictOf [⟨PyData.keyHash P "octets", .str "octets" t1, .bytes b.toArray tb⟩, ⟨PyData.keyHash P "at", .str "at" t2, .int i ti⟩] 2

section
variable {prog : Program} {w : World} {A : Around} {E : Value → Shared → Prop} {s : Shared}
theorem len_my {b : List UInt8} {t : Tok} {Q : Value → Shared → Prop} (hb : b.length ≤ 1000000) (h : ∀ u k, Q (.int (b.length : Int) u) { s with toks := k }) : wpAny (model prog w) A (call (.builtin "len") [.bytes b.toArray t]) Q E s := by
  refine len_bytes (by rw [List.size_toArray]; omega) ?_
  rw [List.size_toArray]
  exact h _ _
theorem item_my {value slice : PySem.Expr} {b : List UInt8} {t : Tok} {i : Int} {ui : Tok} {Q : Value → Shared → Prop} (hb : b.length ≤ 1000000) (h0 : 0 ≤ i) (h1 : i < (b.length : Int)) (h : ∀ c u k, b[i.toNat]? = some c → Q (.int (c.toNat : Int) u) { s with toks := k })
    (hs : subscripted slice false (.bytes b.toArray t) (.int i ui) = operate [.bytes b.toArray t, .int i ui] (getItem (.bytes b.toArray t) (.int i ui)) := by with_unfolding_all rfl)
    (ht : ∀ r, letTemporaryGo value (.bytes b.toArray t) r = pure () := by intro _; with_unfolding_all rfl) :
    wpAny (model prog w) A (subscriptTail value slice (.bytes b.toArray t) (.int i ui)) Q E s := by
  have hlt : i.toNat < b.length := by omega
  refine KBy.item_N (by omega) h0 h1 ?_ hs ht
  have e : b.getD i.toNat 0 = b[i.toNat] := by simp [List.getD, List.getElem?_eq_getElem hlt]
  rw [e]
  exact h _ _ _ (List.getElem?_eq_getElem hlt)
end
local macro_rules | `(tactic| walk_at "call builtin:len") => `(tactic| (k_here; (with_reducible show wpAny _ _ (call (Value.builtin "len") [Value.bytes (List.toArray _) _]) _ _ _); (refine len_my (by assumption) ?_); intro _ _))
local macro_rules | `(tactic| walk_at "subscriptTail") => `(tactic| (k_here; (with_reducible show wpAny _ _ (subscriptTail _ _ (Value.bytes (List.toArray _) _) (Value.int _ _)) _ _ _); (refine item_my (by assumption) (by omega) (by omega) ?_); intro _ _ _ hc'))
local macro_rules | `(tactic| k_all) => `(tactic| assumption)

section
variable {prog : Program} {w : World} {p : Program} {loose : List Str} {mean : ExcName → Option Value} {mg mb : Str → Option Value} {dp un : Nat} {gd : Option (List Code)} {cn : Str} {cs : Scope} {a : Addr} {ccd : Value} {cl : List (Str × Addr)} {outer : List Env}
  {A₀ : Around} {base h₀ : Heap} {L : Addr} {m : Str → Option Value} {rest : List (Addr × Obj)} {s : Shared} {Q E : Value → Shared → Prop}

theorem next_spec {x dx : Addr} {b : List UInt8} {tb t1 t2 ti : Tok} {i : Nat} (B : Below A₀ base outer h₀) (F : Fr h₀ L s.heap m) (X : (MineHead.hd.heap_39 w.params).In h₀)
    (N : News h₀ L s.heap ((x, instObj 94 dx) :: (dx, srcD w.params t1 t2 b tb i ti) :: rest)) (T : Top p loose mean mg mb h₀) (hk : cs.kind = .function)
    (hxd : @LT.lt Nat _ dx x) (hr : ∀ q ∈ rest, q.1 ≠ dx) (hb : b.length ≤ 1000000)
    (hd : dp + 4 < recursionLimit)
    (hnone : b.length ≤ i → ∀ h' tk', Fr h₀ L h' m → News h₀ L h' ((x, instObj 94 dx) :: (dx, srcD w.params t1 t2 b tb i ti) :: rest) → Q .none { s with heap := h', toks := tk' })
    (hsome : ∀ c, b[i]? = some c → ∀ h' tk' u ti', Fr h₀ L h' m → News h₀ L h' ((x, instObj 94 dx) :: (dx, srcD w.params t1 t2 b tb (i + 1 : Nat) ti') :: rest) → Q (.int (c.toNat : Int) u) { s with heap := h', toks := tk' }) :
    wpAny (model prog w) (ktrTop dp un gd cn cs L a ccd cl outer) (call (.ref 84) [.ref x]) Q E s := by
  refine wpAny_call ?_
  k_dflt ktr_enter
  k_steps
  · exact hnone (by omega) _ _ (by k_asm) (by k_asm)
  · rename b[_]? = some _ => hc
    rw [show ((i : Int) + 1 - 1).toNat = i from by omega] at hc
    exact hsome _ hc _ _ _ _ (by k_asm) (by k_asm)

theorem next_at {x dx : Addr} {b : List UInt8} {tb t1 t2 ti : Tok} {i : Nat} {c : UInt8} (B : Below A₀ base outer h₀) (F : Fr h₀ L s.heap m) (X : (MineHead.hd.heap_39 w.params).In h₀)
    (N : News h₀ L s.heap ((x, instObj 94 dx) :: (dx, srcD w.params t1 t2 b tb i ti) :: rest)) (T : Top p loose mean mg mb h₀) (hk : cs.kind = .function)
    (hxd : @LT.lt Nat _ dx x) (hr : ∀ q ∈ rest, q.1 ≠ dx) (hb : b.length ≤ 1000000)
    (hd : dp + 4 < recursionLimit) (hc : b[i]? = some c)
    (hsome : ∀ h' tk' u ti', Fr h₀ L h' m → News h₀ L h' ((x, instObj 94 dx) :: (dx, srcD w.params t1 t2 b tb (i + 1 : Nat) ti') :: rest) → Q (.int (c.toNat : Int) u) { s with heap := h', toks := tk' }) :
    wpAny (model prog w) (ktrTop dp un gd cn cs L a ccd cl outer) (call (.ref 84) [.ref x]) Q E s :=
  next_spec B F X N T hk hxd hr hb hd (fun hle => absurd (List.getElem?_eq_some_iff.mp hc).1 (Nat.not_lt.mpr hle)) (fun c' hc' => by
    rw [hc] at hc'
    cases hc'
    exact hsome)
theorem next_end {x dx : Addr} {b : List UInt8} {tb t1 t2 ti : Tok} {i : Nat} (B : Below A₀ base outer h₀) (F : Fr h₀ L s.heap m) (X : (MineHead.hd.heap_39 w.params).In h₀)
    (N : News h₀ L s.heap ((x, instObj 94 dx) :: (dx, srcD w.params t1 t2 b tb i ti) :: rest)) (T : Top p loose mean mg mb h₀) (hk : cs.kind = .function)
    (hxd : @LT.lt Nat _ dx x) (hr : ∀ q ∈ rest, q.1 ≠ dx) (hb : b.length ≤ 1000000)
    (hd : dp + 4 < recursionLimit) (hc : b[i]? = none)
    (hnone : ∀ h' tk', Fr h₀ L h' m → News h₀ L h' ((x, instObj 94 dx) :: (dx, srcD w.params t1 t2 b tb i ti) :: rest) → Q .none { s with heap := h', toks := tk' }) :
    wpAny (model prog w) (ktrTop dp un gd cn cs L a ccd cl outer) (call (.ref 84) [.ref x]) Q E s :=
  next_spec B F X N T hk hxd hr hb hd (fun _ => hnone) (fun c' hc' => by rw [hc] at hc'; cases hc')

theorem back_spec {x dx : Addr} {b : List UInt8} {tb t1 t2 ti : Tok} {i : Nat} (B : Below A₀ base outer h₀) (F : Fr h₀ L s.heap m) (X : (MineHead.hd.heap_39 w.params).In h₀)
    (N : News h₀ L s.heap ((x, instObj 94 dx) :: (dx, srcD w.params t1 t2 b tb (i + 1 : Nat) ti) :: rest)) (T : Top p loose mean mg mb h₀) (hk : cs.kind = .function)
    (hxd : @LT.lt Nat _ dx x) (hr : ∀ q ∈ rest, q.1 ≠ dx)
    (hd : dp + 4 < recursionLimit)
    (hret : ∀ h' tk' ti', Fr h₀ L h' m → News h₀ L h' ((x, instObj 94 dx) :: (dx, srcD w.params t1 t2 b tb i ti') :: rest) → Q .none { s with heap := h', toks := tk' }) :
    wpAny (model prog w) (ktrTop dp un gd cn cs L a ccd cl outer) (call (.ref 91) [.ref x]) Q E s := by
  refine wpAny_call ?_
  k_dflt ktr_enter
  k_steps
  rename News _ _ _ _ => N9
  rw [show (((i + 1 : Nat) : Int) - 1) = (i : Int) from by omega] at N9
  exact hret _ _ _ (by k_asm) N9
end
end Mine


/-! ## B2 -/
namespace Mine
open PySem.Calls
theorem fill2 : (PySem.Challenge.rw_on0258_01 = PySem.Challenge.rw_on0258_01) ∧ MineHead.hd.heap_39 = MineHead.hd.heap_39 := by k_fill; exact ⟨rfl, rfl⟩

def skipF (b : List UInt8) (i : Nat) : Nat := if b[i]? = some 10 then i + 1 else i
local macro_rules | `(tactic| k_all) => `(tactic| assumption)
local macro_rules | `(tactic| ktr_room) => `(tactic| ((try simp only [depth_under_make, depth_under_kw, depth_in1, depth_deeper, depth_caller]); (try dsimp only [ktrTop]); omega))
local macro_rules | `(tactic| walk_at "call ref") => `(tactic| (k_here; (try dsimp only [List.cons_append, List.nil_append, List.append_nil]); (with_reducible show wpAny _ _ (call (Value.ref 84) [Value.ref _]) _ _ _); k_dflt (refine' next_spec ?k1 ?k2 ?k3 ?k4 ?k5 ?k6 ?k7 ?k8 ?k9 ?k10 ?_ ?_; (case k1 => k_asm); (case k2 => k_asm); (case k3 => k_asm); (case k4 => k_asm); (case k5 => k_asm); (case k6 => first | exact rfl | assumption); (case k7 => assumption); (case k8 => assumption); (case k9 => assumption); (case k10 => ktr_room)); (all_goals (first | (intro c' hc' h' tk' u' ti' F' N'; (try k_sweep)) | (intro hle' h' tk' F' N'; (try k_sweep))))))
local macro_rules | `(tactic| walk_at "call ref") => `(tactic| (k_here; (try dsimp only [List.cons_append, List.nil_append, List.append_nil]); (with_reducible show wpAny _ _ (call (Value.ref 91) [Value.ref _]) _ _ _); k_dflt (refine' back_spec ?k1 ?k2 ?k3 ?k4 ?k5 ?k6 ?k7 ?k8 ?k10 ?_; (case k1 => k_asm); (case k2 => k_asm); (case k3 => k_asm); (case k4 => k_asm); (case k5 => k_asm); (case k6 => first | exact rfl | assumption); (case k7 => assumption); (case k8 => assumption); (case k10 => ktr_room)); intro h' tk' ti' F' N'; (try k_sweep)))

local macro_rules | `(tactic| walk_at "call ref") => `(tactic| (k_here; (try dsimp only [List.cons_append, List.nil_append, List.append_nil]); (with_reducible show wpAny _ _ (call (Value.ref 84) [Value.ref _]) _ _ _); k_dflt (refine' next_at ?k1 ?k2 ?k3 ?k4 ?k5 ?k6 ?k7 ?k8 ?k9 ?k10 ?k11 ?_; (case k11 => assumption); (case k1 => k_asm); (case k2 => k_asm); (case k3 => k_asm); (case k4 => k_asm); (case k5 => k_asm); (case k6 => first | exact rfl | assumption); (case k7 => assumption); (case k8 => assumption); (case k9 => assumption); (case k10 => ktr_room)); intro h' tk' u' ti' F' N'; (try k_sweep)))
local macro_rules | `(tactic| walk_at "call ref") => `(tactic| (k_here; (try dsimp only [List.cons_append, List.nil_append, List.append_nil]); (with_reducible show wpAny _ _ (call (Value.ref 84) [Value.ref _]) _ _ _); k_dflt (refine' next_end ?k1 ?k2 ?k3 ?k4 ?k5 ?k6 ?k7 ?k8 ?k9 ?k10 ?k11 ?_; (case k11 => assumption); (case k1 => k_asm); (case k2 => k_asm); (case k3 => k_asm); (case k4 => k_asm); (case k5 => k_asm); (case k6 => first | exact rfl | assumption); (case k7 => assumption); (case k8 => assumption); (case k9 => assumption); (case k10 => ktr_room)); intro h' tk' F' N'; (try k_sweep)))

section
variable {prog : Program} {w : World} {p : Program} {loose : List Str} {mean : ExcName → Option Value} {mg mb : Str → Option Value} {dp un : Nat} {gd : Option (List Code)} {cn : Str} {cs : Scope} {a : Addr} {ccd : Value} {cl : List (Str × Addr)} {outer : List Env}
  {A₀ : Around} {base h₀ : Heap} {L : Addr} {m : Str → Option Value} {rest : List (Addr × Obj)} {s : Shared} {Q E : Value → Shared → Prop}

theorem skip_spec {x dx : Addr} {b : List UInt8} {tb t1 t2 ti : Tok} {i : Nat} (B : Below A₀ base outer h₀) (F : Fr h₀ L s.heap m) (X : (MineHead.hd.heap_39 w.params).In h₀)
    (N : News h₀ L s.heap ((x, instObj 94 dx) :: (dx, srcD w.params t1 t2 b tb i ti) :: rest)) (T : Top p loose mean mg mb h₀) (hk : cs.kind = .function)
    (hxd : @LT.lt Nat _ dx x) (hr : ∀ q ∈ rest, q.1 ≠ dx) (hb : b.length ≤ 1000000)
    (hd : dp + 8 < recursionLimit)
    (hret : ∀ j : Nat, j = skipF b i → ∀ h' tk' ti', Fr h₀ L h' m → News h₀ L h' ((x, instObj 94 dx) :: (dx, srcD w.params t1 t2 b tb j ti') :: rest) → Q .none { s with heap := h', toks := tk' }) :
    wpAny (model prog w) (ktrTop dp un gd cn cs L a ccd cl outer) (call (.ref 105) [.ref x]) Q E s := by
  refine wpAny_call ?_
  k_dflt ktr_enter
  k_steps
  · exact hret i (if_neg (by rw [List.getElem?_eq_none (by assumption)]; intro h; cases h)).symm _ _ _ (by k_asm) (by k_asm)
  · rename b[_]? = some _ => hc
    exact hret i (if_neg (by rw [hc]; intro h; have := congrArg UInt8.toNat (Option.some.inj h); have h10 : (10 : UInt8).toNat = 10 := rfl; omega)).symm _ _ _ (by k_asm) (by k_asm)
  · rename b[_]? = some _ => hc
    exact hret (i + 1) (if_pos (by rw [hc]; exact congrArg some (UInt8.toNat_inj.mp (by show _ = 10; omega)))).symm _ _ _ (by k_asm) (by k_asm)

/-- scan_sure where an octet comes -/
theorem sure_spec {x dx : Addr} {b : List UInt8} {tb t1 t2 ti : Tok} {i : Nat} {c₀ : UInt8} (B : Below A₀ base outer h₀) (F : Fr h₀ L s.heap m) (X : (MineHead.hd.heap_39 w.params).In h₀)
    (N : News h₀ L s.heap ((x, instObj 94 dx) :: (dx, srcD w.params t1 t2 b tb i ti) :: rest)) (T : Top p loose mean mg mb h₀) (hk : cs.kind = .function)
    (hxd : @LT.lt Nat _ dx x) (hr : ∀ q ∈ rest, q.1 ≠ dx) (hb : b.length ≤ 1000000)
    (hd : dp + 8 < recursionLimit) (hc₀ : b[i]? = some c₀)
    (hret : ∀ h' tk' u ti', Fr h₀ L h' m → News h₀ L h' ((x, instObj 94 dx) :: (dx, srcD w.params t1 t2 b tb (i + 1 : Nat) ti') :: rest) → Q (.int (c₀.toNat : Int) u) { s with heap := h', toks := tk' }) :
    wpAny (model prog w) (ktrTop dp un gd cn cs L a ccd cl outer) (call (.ref 112) [.ref x]) Q E s := by
  have hlt : i < b.length := (List.getElem?_eq_some_iff.mp hc₀).1
  refine wpAny_call ?_
  k_dflt ktr_enter
  k_steps
  exact hret _ _ _ _ (by k_asm) (by k_asm)

end
end Mine


/-! ## B3 -/
namespace Mine
open PySem.Calls
theorem fill3 : (PySem.Challenge.rw_on0258_01 = PySem.Challenge.rw_on0258_01) ∧ MineHead.hd.heap_39 = MineHead.hd.heap_39 := by k_fill; exact ⟨rfl, rfl⟩

local macro_rules | `(tactic| k_all) => `(tactic| assumption)
local macro_rules | `(tactic| ktr_room) => `(tactic| ((try simp only [depth_under_make, depth_under_kw, depth_in1, depth_deeper, depth_caller]); (try dsimp only [ktrTop]); omega))

section
variable {prog : Program} {w : World} {p : Program} {loose : List Str} {mean : ExcName → Option Value} {mg mb : Str → Option Value} {dp un : Nat} {gd : Option (List Code)} {cn : Str} {cs : Scope} {a : Addr} {ccd : Value} {cl : List (Str × Addr)} {outer : List Env}
  {A₀ : Around} {base h₀ : Heap} {L : Addr} {m : Str → Option Value} {news rest : List (Addr × Obj)} {s : Shared} {Q E : Value → Shared → Prop}

theorem is_octal_spec {i : Int} {t : Tok} (B : Below A₀ base outer h₀) (F : Fr h₀ L s.heap m) (X : (MineHead.hd.heap_39 w.params).In h₀) (N : News h₀ L s.heap news) (T : Top p loose mean mg mb h₀) (hk : cs.kind = .function)
    (hd : dp + 4 < recursionLimit) (hyes : 48 ≤ i → i ≤ 55 → ∀ h' tk', Fr h₀ L h' m → News h₀ L h' news → Q (.bool true) { s with heap := h', toks := tk' })
    (hno : ¬ (48 ≤ i ∧ i ≤ 55) → ∀ h' tk', Fr h₀ L h' m → News h₀ L h' news → Q (.bool false) { s with heap := h', toks := tk' }) :
    wpAny (model prog w) (ktrTop dp un gd cn cs L a ccd cl outer) (call (.ref 54) [.int i t]) Q E s := by
  refine wpAny_call ?_
  k_dflt ktr_enter
  k_steps
  · by_cases h : i ≤ 55
    · rw [decide_eq_true h]
      exact hyes (by omega) h _ _ (by k_asm) (by k_asm)
    · rw [decide_eq_false h]
      exact hno (by omega) _ _ (by k_asm) (by k_asm)
  · rw [decide_eq_false (by omega)]
    exact hno (by omega) _ _ (by k_asm) (by k_asm)
end
local macro_rules | `(tactic| walk_at "call ref") => `(tactic| (k_here; (try dsimp only [List.cons_append, List.nil_append, List.append_nil]); (with_reducible show wpAny _ _ (call (Value.ref 54) [Value.int _ _]) _ _ _); k_dflt (refine' is_octal_spec ?k1 ?k2 ?k3 ?k4 ?k5 ?k6 ?k10 ?_ ?_; (case k1 => k_asm); (case k2 => k_asm); (case k3 => k_asm); (case k4 => k_asm); (case k5 => k_asm); (case k6 => first | exact rfl | assumption); (case k10 => ktr_room)); (all_goals (first | (intro hy' hz' h' tk' F' N'; (try k_sweep)) | (intro hn' h' tk' F' N'; (try k_sweep))))))
local macro_rules | `(tactic| walk_at "call ref") => `(tactic| (k_here; (try dsimp only [List.cons_append, List.nil_append, List.append_nil]); (with_reducible show wpAny _ _ (call (Value.ref 84) [Value.ref _]) _ _ _); k_dflt (refine' next_spec ?k1 ?k2 ?k3 ?k4 ?k5 ?k6 ?k7 ?k8 ?k9 ?k10 ?_ ?_; (case k1 => k_asm); (case k2 => k_asm); (case k3 => k_asm); (case k4 => k_asm); (case k5 => k_asm); (case k6 => first | exact rfl | assumption); (case k7 => assumption); (case k8 => assumption); (case k9 => assumption); (case k10 => ktr_room)); (all_goals (first | (intro c' hc' h' tk' u' ti' F' N'; (try k_sweep)) | (intro hle' h' tk' F' N'; (try k_sweep))))))
local macro_rules | `(tactic| walk_at "call ref") => `(tactic| (k_here; (try dsimp only [List.cons_append, List.nil_append, List.append_nil]); (with_reducible show wpAny _ _ (call (Value.ref 91) [Value.ref _]) _ _ _); k_dflt (refine' back_spec ?k1 ?k2 ?k3 ?k4 ?k5 ?k6 ?k7 ?k8 ?k10 ?_; (case k1 => k_asm); (case k2 => k_asm); (case k3 => k_asm); (case k4 => k_asm); (case k5 => k_asm); (case k6 => first | exact rfl | assumption); (case k7 => assumption); (case k8 => assumption); (case k10 => ktr_room)); intro h' tk' ti' F' N'; (try k_sweep)))

theorem news_rot {h₀ h : Heap} {L : Addr} {q1 q2 p : Addr × Obj} {r : List (Addr × Obj)} (N : News h₀ L h (p :: q1 :: q2 :: r)) : News h₀ L h (q1 :: q2 :: p :: r) := fun x hx => N x (by
  simp only [List.mem_cons] at hx ⊢
  rcases hx with h | h | h | h
  · exact .inr (.inl h)
  · exact .inr (.inr (.inl h))
  · exact .inl h
  · exact .inr (.inr (.inr h)))
theorem news_unrot {h₀ h : Heap} {L : Addr} {q1 q2 p : Addr × Obj} {r : List (Addr × Obj)} (N : News h₀ L h (q1 :: q2 :: p :: r)) : News h₀ L h (p :: q1 :: q2 :: r) := fun x hx => N x (by
  simp only [List.mem_cons] at hx ⊢
  rcases hx with h | h | h | h
  · exact .inr (.inr (.inl h))
  · exact .inl h
  · exact .inr (.inl h)
  · exact .inr (.inr (.inr h)))
local macro_rules | `(tactic| walk_at "call ref") => `(tactic| (k_here; (try dsimp only [List.cons_append, List.nil_append, List.append_nil]); (with_reducible show wpAny _ _ (call (Value.ref 84) [Value.ref _]) _ _ _); k_dflt (refine' next_spec ?k1 ?k2 ?k3 ?k4 ?k5 ?k6 ?k7 ?k8 ?k9 ?k10 ?_ ?_; (case k1 => k_asm); (case k2 => k_asm); (case k3 => k_asm); (case k4 => exact news_rot (by k_asm)); (case k5 => k_asm); (case k6 => first | exact rfl | assumption); (case k7 => assumption); (case k8 => k_all); (case k9 => assumption); (case k10 => ktr_room)); (all_goals (first | (intro c' hc' h' tk' u' ti' F' N'; (replace N' := news_unrot N'); (try k_sweep)) | (intro hle' h' tk' F' N'; (replace N' := news_unrot N'); (try k_sweep))))))
local macro_rules | `(tactic| walk_at "call ref") => `(tactic| (k_here; (try dsimp only [List.cons_append, List.nil_append, List.append_nil]); (with_reducible show wpAny _ _ (call (Value.ref 91) [Value.ref _]) _ _ _); k_dflt (refine' back_spec ?k1 ?k2 ?k3 ?k4 ?k5 ?k6 ?k7 ?k8 ?k10 ?_; (case k1 => k_asm); (case k2 => k_asm); (case k3 => k_asm); (case k4 => exact news_rot (by k_asm)); (case k5 => k_asm); (case k6 => first | exact rfl | assumption); (case k7 => assumption); (case k8 => k_all); (case k10 => ktr_room)); intro h' tk' ti' F' N'; (replace N' := news_unrot N'); (try k_sweep)))
theorem allLt_ne {d : Addr} : ∀ {l : List (Addr × Obj)}, AllLt d l → ∀ p ∈ l, p.1 ≠ d := by
  intro l
  induction l with
  | nil => intro _ p hp; exact absurd hp (List.not_mem_nil)
  | cons q r ih =>
    intro h p hp
    rcases List.mem_cons.mp hp with e | hp
    · subst e
      exact Nat.ne_of_lt h.1
    · exact ih h.2 p hp
theorem allLt_ne3 {A B : Prop} {l : List (Addr × Obj)} {d : Addr} (h : A ∧ B ∧ AllLt d l) : ∀ p ∈ l, p.1 ≠ d := allLt_ne h.2.2
local macro_rules | `(tactic| walk_at "UnrEnd") => `(tactic| (refine UnrEnd.intro (by assumption) (by assumption) _ (fun _ hp => hp) (List.forall_mem_cons.mpr ⟨by k_ne, List.forall_mem_cons.mpr ⟨by k_ne, allLt_ne3 (by with_reducible assumption)⟩⟩) ?_))
def isOct (c : UInt8) : Bool := decide (48 ≤ c.toNat) && decide (c.toNat ≤ 55)
def octF (b : List UInt8) (i : Nat) (c : UInt8) : Nat × Nat :=
  match b[i]? with
  | none => ((c.toNat - 48) % 256, i)
  | some d => if isOct d then (match b[i + 1]? with
      | none => ((8 * (c.toNat - 48) + (d.toNat - 48)) % 256, i + 1)
      | some e => if isOct e then ((8 * (8 * (c.toNat - 48) + (d.toNat - 48)) + (e.toNat - 48)) % 256, i + 1 + 1) else ((8 * (c.toNat - 48) + (d.toNat - 48)) % 256, i + 1))
    else ((c.toNat - 48) % 256, i)

theorem isOct_yes {c : UInt8} (h1 : 48 ≤ (c.toNat : Int)) (h2 : (c.toNat : Int) ≤ 55) : isOct c = true := by
  unfold isOct; rw [Bool.and_eq_true, decide_eq_true_eq, decide_eq_true_eq]; omega
theorem isOct_no {c : UInt8} (h : ¬ (48 ≤ (c.toNat : Int) ∧ (c.toNat : Int) ≤ 55)) : isOct c = false := by
  unfold isOct; rw [Bool.and_eq_false_iff, decide_eq_false_iff_not, decide_eq_false_iff_not]; omega
theorem octF_0 {b : List UInt8} {i : Nat} {c : UInt8} (h : b.length ≤ i) : octF b i c = ((c.toNat - 48) % 256, i) := by
  unfold octF; rw [List.getElem?_eq_none h]
theorem octF_n {b : List UInt8} {i : Nat} {c d : UInt8} (h : b[i]? = some d) (hd : isOct d = false) : octF b i c = ((c.toNat - 48) % 256, i) := by
  unfold octF; rw [h]; simp only [hd]; rfl
theorem octF_10 {b : List UInt8} {i : Nat} {c d : UInt8} (h : b[i]? = some d) (hd : isOct d = true) (h1 : b.length ≤ i + 1) : octF b i c = ((8 * (c.toNat - 48) + (d.toNat - 48)) % 256, i + 1) := by
  unfold octF; rw [h]; simp only [hd, if_true]; rw [List.getElem?_eq_none h1]
theorem octF_1n {b : List UInt8} {i : Nat} {c d e : UInt8} (h : b[i]? = some d) (hd : isOct d = true) (h1 : b[i + 1]? = some e) (he : isOct e = false) : octF b i c = ((8 * (c.toNat - 48) + (d.toNat - 48)) % 256, i + 1) := by
  unfold octF; rw [h]; simp only [hd, if_true]; rw [h1]; simp only [he]; rfl
theorem octF_2 {b : List UInt8} {i : Nat} {c d e : UInt8} (h : b[i]? = some d) (hd : isOct d = true) (h1 : b[i + 1]? = some e) (he : isOct e = true) : octF b i c = ((8 * (8 * (c.toNat - 48) + (d.toNat - 48)) + (e.toNat - 48)) % 256, i + 1 + 1) := by
  unfold octF; rw [h]; simp only [hd, if_true]; rw [h1]; simp only [he, if_true]

section
variable {prog : Program} {w : World} {p : Program} {loose : List Str} {mean : ExcName → Option Value} {mg mb : Str → Option Value} {dp un : Nat} {gd : Option (List Code)} {cn : Str} {cs : Scope} {a : Addr} {ccd : Value} {cl : List (Str × Addr)} {outer : List Env}
  {A₀ : Around} {base h₀ : Heap} {L : Addr} {m : Str → Option Value} {news rest : List (Addr × Obj)} {s : Shared} {Q E : Value → Shared → Prop}

theorem octal_spec {x dx : Addr} {b : List UInt8} {tb t1 t2 ti tc : Tok} {i : Nat} {c₀ : UInt8} (B : Below A₀ base outer h₀) (F : Fr h₀ L s.heap m) (X : (MineHead.hd.heap_39 w.params).In h₀)
    (N : News h₀ L s.heap ((x, instObj 94 dx) :: (dx, srcD w.params t1 t2 b tb i ti) :: rest)) (T : Top p loose mean mg mb h₀) (hk : cs.kind = .function)
    (hxd : @LT.lt Nat _ dx x) (hr : ∀ q ∈ rest, q.1 ≠ dx) (hb : b.length ≤ 1000000)
    (hd : dp + 8 < recursionLimit) (h48 : 48 ≤ c₀.toNat) (h55 : c₀.toNat ≤ 55)
    (hret : ∀ v j, octF b i c₀ = (v, j) → ∀ h' tk' u ti', Fr h₀ L h' m → News h₀ L h' ((x, instObj 94 dx) :: (dx, srcD w.params t1 t2 b tb (j : Nat) ti') :: rest) → Q (.int (v : Nat) u) { s with heap := h', toks := tk' }) :
    wpAny (model prog w) (ktrTop dp un gd cn cs L a ccd cl outer) (call (.ref 119) [.ref x, .int (c₀.toNat : Int) tc]) Q E s := by
  refine wpAny_call ?_
  k_dflt ktr_enter
  k_steps
  · rename News _ _ _ _ => N9
    rw [bitAnd_m8, show ((c₀.toNat : Int) - 48) % 256 = (((c₀.toNat - 48) % 256 : Nat) : Int) from by omega]
    exact hret _ _ (octF_0 (by assumption)) _ _ _ _ (by k_asm) fun q hq => N9 q (List.mem_cons_of_mem _ hq)
  · rename News _ _ _ _ => N9
    rename b[i]? = some _ => hc
    rename (48 : Int) ≤ _ => hy
    rename (_ : Int) ≤ 55 => hz
    rw [bitAnd_m8]
    refine Eq.mpr (congrArg (fun z => Q (Value.int z _) _) ?_) (hret _ _ (octF_10 hc (isOct_yes hy hz) (by assumption)) _ _ _ _ (by k_asm) fun q hq => N9 q (List.mem_cons_of_mem _ hq))
    omega
  · rename News _ _ _ _ => N9
    rename b[i + 1]? = some _ => hc1
    rename b[i]? = some _ => hc
    rw [bitAnd_m8]
    refine Eq.mpr (congrArg (fun z => Q (Value.int z _) _) ?_) (hret _ _ (octF_2 hc (isOct_yes (by assumption) (by assumption)) hc1 (isOct_yes (by assumption) (by assumption))) _ _ _ _ (by k_asm) N9)
    omega
  · rename News _ _ _ _ => N9
    rename b[i + 1]? = some _ => hc1
    rename b[i]? = some _ => hc
    rw [bitAnd_m8]
    refine Eq.mpr (congrArg (fun z => Q (Value.int z _) _) ?_) (hret _ _ (octF_1n hc (isOct_yes (by assumption) (by assumption)) hc1 (isOct_no (by assumption))) _ _ _ _ (by k_asm) fun q hq => N9 q (List.mem_cons_of_mem _ hq))
    omega
  · rename News _ _ _ _ => N9
    rename b[i]? = some _ => hc
    rw [bitAnd_m8]
    refine Eq.mpr (congrArg (fun z => Q (Value.int z _) _) ?_) (hret _ _ (octF_n hc (isOct_no (by assumption))) _ _ _ _ (by k_asm) fun q hq => N9 q (List.mem_cons_of_mem _ hq))
    omega
end
end Mine


/-! ## E1 -/
namespace Mine
open PySem.Calls

/-! the exception on its way: as the library's FlyingW, but its dict is kept -/
def FlyP (base : Heap) (l : List Env) (e d : Addr) (od : Obj) (fl : Value) (h : Heap) : Prop :=
  base.StaysIn h ∧ h.FunFrames base l ∧ base.get? e = none ∧ base.get? d = none ∧ d ∉ l.filterMap (·.frame) ∧ h.get? d = some od ∧ (∀ vs, od.data ≠ .fields vs) ∧
    ∃ oe vs T oT ts, h.get? e = some oe ∧ oe.cls = .ref 45 ∧ oe.dict = some d ∧ oe.data = .fields vs ∧ vs[1]? = some (.ref T) ∧ base.get? T = none ∧ T ≠ e ∧
      h.get? T = some oT ∧ oT.data = .fields ts ∧ ts[3]? = some fl

section
variable {M : Model} {A : Around} {E : Value → Shared → Prop} {s : Shared} {base : Heap} {env : Env} {outer l : List Env} {L e d : Addr} {od : Obj} {fl : Value}

theorem dict_mapFields (o : Obj) (f : Array Value → Array Value) : (Obj.mapFields f o).dict = o.dict := by
  obtain ⟨c, dd, dt, sl⟩ := o
  cases dt <;> rfl

theorem entryP {oe : Obj} {vs : Array Value} {head : Value} {hadNext : Bool} {Q : Unit → Shared → Prop}
    (hfr : A.frames = some (env :: outer)) (hl : s.heap.FunFrames base (env :: outer)) (hf : env.frame = some L)
    (hkb : base.StaysIn s.heap) (hen : base.get? e = none) (hdn : base.get? d = none) (hdl : d ∉ (env :: outer).filterMap (·.frame)) (hdo : s.heap.get? d = some od) (hdf : ∀ vs, od.data ≠ .fields vs)
    (he : s.heap.get? e = some oe) (hc : oe.cls = .ref 45) (hdi : oe.dict = some d) (hd : oe.data = .fields vs) (hsz : 1 < vs.size)
    (h : ∀ h', FlyP base (env :: outer) e d od (rawInt L) h' → s.heap.UpToSlots h' → Q () { s with heap := h' }) :
    wpAny M A (do let a ← frameOf env; let pl ← entryPlaceOf L hadNext; let b ← EntryCells.newEntry head a .none (rawInt L) .none pl; setField (.ref e) 1 b) Q E s := by
  have hene : e ∉ (env :: outer).filterMap (·.frame) := fun hm => by
    obtain ⟨_, o, ho, hnf⟩ := hl.mem hm
    rw [he] at ho; injection ho with ho; subst ho; exact hnf vs hd
  refine wpAny_bind (wpAny_frameOf_fun hfr hl hf fun h₁ hs₁ => ?_)
  refine wpAny_bind (wpAny_entryPlaceOf fun pl hpl => ?_)
  unfold EntryCells.newEntry newFields
  refine wpAny_bind (wpAny_newObj_type ?_ (hpl.sizeOk5 _ _ _ _ _))
  have he₁ : h₁.get? e = some oe := (hs₁.2.1 e hene).trans he
  have hd₁ : h₁.get? d = some od := (hs₁.2.1 d hdl).trans hdo
  have kb₁ : base.StaysIn h₁ := fun b o hbo => (hs₁.2.1 b fun hm => by rw [(hl.mem hm).1] at hbo; cases hbo).trans (hkb b o hbo)
  generalize hto : ({ cls := .type "traceback", dict := none, data := .fields ([head, .ref L, .none, rawInt L, .none] ++ (if pl.isEmpty then List.replicate 6 Value.none else pl)).toArray } : Obj) = to
  have htf : to.isFreed = false := by subst hto; rfl
  have he₂ := Heap.get?_push_of_some (h := h₁) to he₁
  have hTe : h₁.objs.size ≠ e := Nat.ne_of_gt (Heap.lt_size he₁)
  have hd₃ := Obj.data_mapFields hd (·.setIfInBounds 1 (Value.ref h₁.objs.size))
  have he₃ := Heap.get?_update_self (Obj.mapFields (·.setIfInBounds 1 (Value.ref h₁.objs.size))) he₂ (Obj.isFreed_of_fields hd₃)
  have hT₃ := (Heap.get?_update_other (h₁.push to) (Obj.mapFields (·.setIfInBounds 1 (Value.ref h₁.objs.size))) (Ne.symm hTe)).trans (Heap.get?_push_size h₁ htf)
  have keep : ∀ b o, b ≠ e → h₁.get? b = some o → ((h₁.push to).update e (Obj.mapFields (·.setIfInBounds 1 (Value.ref h₁.objs.size)))).get? b = some o := fun b o hbe hb => by
    rw [Heap.get?_update_other _ _ (Ne.symm hbe)]
    exact Heap.get?_push_of_some _ hb
  have noRecord : ∀ b o, s.heap.get? b = some o → (∀ vs, o.data ≠ .fields vs) → b ≠ e := fun b o hb hnf q => by
    rw [q, he] at hb; injection hb with hb; subst hb; exact hnf vs hd
  refine wpAny_setField he₂ hd hsz (h _ ?_ ?_)
  · refine ⟨fun b o hbo => keep b o (fun q => by rw [q, hen] at hbo; cases hbo) (kb₁ b o hbo), hl.of_keeps fun b o hb hnf => ?_, hen, hdn, hdl, keep d od (noRecord d od hdo hdf) hd₁, hdf, ?_⟩
    · obtain ⟨sl, hs⟩ := hs₁.2.2 b o hb
      exact ⟨_, keep b _ (noRecord b o hb hnf) hs, rfl⟩
    · refine ⟨_, _, h₁.objs.size, _, _, he₃, (Obj.cls_mapFields _ _).trans hc, (dict_mapFields _ _).trans hdi, hd₃, by simp [hsz], kb₁.fresh, hTe, hT₃, by subst hto; rfl, by first | (simp; done) | (rcases hpl with rfl | ⟨_, _, _, _, _, _, _, rfl⟩ <;> simp)⟩
  · intro b o hb hnf
    obtain ⟨sl, hs⟩ := hs₁.2.2 b o hb
    exact ⟨sl, keep b _ (noRecord b o hb hnf) hs⟩

/-- the first frame notes it -/
theorem note_first {oe : Obj} {vs : Array Value} {Q : Unit → Shared → Prop}
    (hfr : A.frames = some (env :: outer)) (hl : s.heap.FunFrames base (env :: outer)) (hf : env.frame = some L)
    (hkb : base.StaysIn s.heap) (hen : base.get? e = none) (hdn : base.get? d = none) (hdl : d ∉ (env :: outer).filterMap (·.frame)) (hdo : s.heap.get? d = some od) (hdf : ∀ vs, od.data ≠ .fields vs)
    (he : s.heap.get? e = some oe) (hc : oe.cls = .ref 45) (hdi : oe.dict = some d) (hd : oe.data = .fields vs) (h1 : vs[1]? = some .none)
    (h : ∀ h', FlyP base (env :: outer) e d od (rawInt L) h' → s.heap.UpToSlots h' → Q () { s with heap := h' }) : wpAny M A (noteFrame (.ref e) env) Q E s := by
  unfold noteFrame
  simp only [hf]
  refine wpAny_bind (wpAny_field he hd h1 ?_)
  rw [if_neg (by decide)]
  exact entryP hfr hl hf hkb hen hdn hdl hdo hdf he hc hdi hd (Array.getElem?_eq_some_iff.mp h1).1 h

/-- a further frame notes it -/
theorem note_next {Q : Unit → Shared → Prop} (hfr : A.frames = some (env :: outer)) (hf : env.frame = some L) (x : FlyP base (env :: outer) e d od .none s.heap)
    (h : ∀ h', FlyP base (env :: outer) e d od (rawInt L) h' → s.heap.UpToSlots h' → Q () { s with heap := h' }) : wpAny M A (noteFrame (.ref e) env) Q E s := by
  obtain ⟨hkb, hl, hen, hdn, hdl, hdo, hdf, oe, vs, T, oT, ts, he, hc, hdi, hd, h1, hnT, hTe, hT, hdT, h3⟩ := x
  unfold noteFrame
  simp only [hf]
  refine wpAny_bind (wpAny_field he hd h1 ?_)
  rw [if_pos (show (Value.ref T != Value.none) = true from by simp)]
  refine wpAny_bind (wpAny_field hT hdT h3 ?_)
  rw [if_neg (show ¬ ((Value.none == rawInt L) = true) from by simp [rawInt])]
  refine wpAny_bind (wpAny_setField hT hdT (Array.getElem?_eq_some_iff.mp h3).1 ?_)
  have other : ∀ b, b ≠ T → (s.heap.update T (Obj.mapFields (·.setIfInBounds 3 Value.none))).get? b = s.heap.get? b := fun b hb => Heap.get?_update_other _ _ (Ne.symm hb)
  have noRecord : ∀ b o, s.heap.get? b = some o → (∀ vs, o.data ≠ .fields vs) → b ≠ T := fun b o hb hnf q => by
    rw [q, hT] at hb; injection hb with hb; subst hb; exact hnf ts hdT
  refine entryP hfr (hl.of_keeps fun b o hb hnf => ⟨o, (other b (noRecord b o hb hnf)).trans hb, rfl⟩) hf
    (fun b o hbo => (other b fun q => by rw [q, hnT] at hbo; cases hbo).trans (hkb b o hbo)) hen hdn hdl ((other d (noRecord d od hdo hdf)).trans hdo) hdf ((other e (Ne.symm hTe)).trans he) hc hdi hd (Array.getElem?_eq_some_iff.mp h1).1
    fun h' x1 x2 => h h' x1 fun b o hb hnf => x2 b o ((other b (noRecord b o hb hnf)).trans hb) hnf

theorem note_again {Q : Unit → Shared → Prop} (hf : env.frame = some L) (x : FlyP base l e d od (rawInt L) s.heap) (h : Q () s) : wpAny M A (noteFrame (.ref e) env) Q E s := by
  obtain ⟨hkb, hl, hen, hdn, hdl, hdo, hdf, oe, vs, T, oT, ts, he, hc, hdi, hd, h1, hnT, hTe, hT, hdT, h3⟩ := x
  unfold noteFrame
  simp only [hf]
  refine wpAny_bind (wpAny_field he hd h1 ?_)
  rw [if_pos (show (Value.ref T != Value.none) = true from by simp)]
  refine wpAny_bind (wpAny_field hT hdT h3 ?_)
  rw [if_pos (show (rawInt L == rawInt L) = true from by simp)]
  exact wpAny_pure h

def flOf : Option Addr → Value
  | none => .none
  | some f => rawInt f
theorem flight_to {fr : Option Addr} {Q : Unit → Shared → Prop} (x : FlyP base l e d od fl s.heap)
    (h : ∀ h', FlyP base l e d od (flOf fr) h' → s.heap.UpToSlots h' → Q () { s with heap := h' }) : wpAny M A (setFlight (.ref e) fr) Q E s := by
  obtain ⟨hkb, hl, hen, hdn, hdl, hdo, hdf, oe, vs, T, oT, ts, he, hc, hdi, hd, h1, hnT, hTe, hT, hdT, h3⟩ := x
  have hsz3 : 3 < ts.size := (Array.getElem?_eq_some_iff.mp h3).1
  have other : ∀ b, b ≠ T → (s.heap.update T (Obj.mapFields (·.setIfInBounds 3 (fr.elim Value.none fun f => rawInt f)))).get? b = s.heap.get? b :=
    fun b hb => Heap.get?_update_other _ _ (Ne.symm hb)
  have noRecord : ∀ b o, s.heap.get? b = some o → (∀ vs, o.data ≠ .fields vs) → b ≠ T := fun b o hb hnf q => by
    rw [q, hT] at hb; injection hb with hb; subst hb; exact hnf ts hdT
  unfold setFlight
  refine wpAny_bind (wpAny_field he hd h1 ?_)
  rw [if_pos (show (Value.ref T != Value.none) = true from by simp)]
  refine wpAny_setField hT hdT hsz3 (h _ ⟨fun b o hbo => (other b fun q => by rw [q, hnT] at hbo; cases hbo).trans (hkb b o hbo),
    hl.of_keeps fun b o hb hnf => ⟨o, (other b (noRecord b o hb hnf)).trans hb, rfl⟩, hen, hdn, hdl, (other d (noRecord d od hdo hdf)).trans hdo, hdf, ?_⟩ fun b o hb hnf => ⟨o.slots, (other b (noRecord b o hb hnf)).trans hb⟩)
  refine ⟨oe, vs, T, _, _, (other e (Ne.symm hTe)).trans he, hc, hdi, hd, h1, hnT, hTe, Heap.get?_update_self _ hT (Obj.isFreed_of_fields (Obj.data_mapFields hdT _)), Obj.data_mapFields hdT _, ?_⟩
  cases fr <;> simp [hsz3, flOf]

theorem FlyP.tail (x : FlyP base (env :: outer) e d od fl s.heap) : FlyP base outer e d od fl s.heap := by
  obtain ⟨hkb, ⟨_, _, hl⟩, hen, hdn, hdl, r⟩ := x
  refine ⟨hkb, hl, hen, hdn, fun hm => hdl ?_, r⟩
  rw [List.filterMap_cons]
  split
  · exact hm
  · exact List.mem_cons_of_mem _ hm

theorem leave_first {oe : Obj} {vs : Array Value} {Q : Unit → Shared → Prop}
    (hfr : A.frames = some (env :: outer)) (hl : s.heap.FunFrames base (env :: outer)) (hf : env.frame = some L)
    (hkb : base.StaysIn s.heap) (hen : base.get? e = none) (hdn : base.get? d = none) (hdl : d ∉ (env :: outer).filterMap (·.frame)) (hdo : s.heap.get? d = some od) (hdf : ∀ vs, od.data ≠ .fields vs)
    (he : s.heap.get? e = some oe) (hc : oe.cls = .ref 45) (hdi : oe.dict = some d) (hd : oe.data = .fields vs) (h1 : vs[1]? = some .none)
    (h : ∀ h', FlyP base outer e d od .none h' → s.heap.UpToSlots h' → Q () { s with heap := h' }) : wpAny M A (leaving env (.ref e)) Q E s := by
  unfold leaving
  refine wpAny_bind (note_first hfr hl hf hkb hen hdn hdl hdo hdf he hc hdi hd h1 fun h' x y => ?_)
  exact flight_to (s := { s with heap := h' }) (fr := none) x fun h'' x' y' => h h'' (FlyP.tail (s := { s with heap := h'' }) x') (y.trans y')
theorem leave_next {Q : Unit → Shared → Prop} (hfr : A.frames = some (env :: outer)) (hf : env.frame = some L) (x : FlyP base (env :: outer) e d od .none s.heap)
    (h : ∀ h', FlyP base outer e d od .none h' → s.heap.UpToSlots h' → Q () { s with heap := h' }) : wpAny M A (leaving env (.ref e)) Q E s := by
  unfold leaving
  refine wpAny_bind (note_next hfr hf x fun h' x y => ?_)
  exact flight_to (s := { s with heap := h' }) (fr := none) x fun h'' x' y' => h h'' (FlyP.tail (s := { s with heap := h'' }) x') (y.trans y')
theorem leave_held {Q : Unit → Shared → Prop} (hf : env.frame = some L) (x : FlyP base (env :: outer) e d od (rawInt L) s.heap)
    (h : ∀ h', FlyP base outer e d od .none h' → s.heap.UpToSlots h' → Q () { s with heap := h' }) : wpAny M A (leaving env (.ref e)) Q E s := by
  unfold leaving
  refine wpAny_bind (note_again hf x ?_)
  exact flight_to (fr := none) x fun h'' x' y' => h h'' (FlyP.tail (s := { s with heap := h'' }) x') y'
theorem came_back (hf : env.frame = some L) (x : FlyP base l e d od fl s.heap) (h : ∀ h', FlyP base l e d od (rawInt L) h' → s.heap.UpToSlots h' → E (.ref e) { s with heap := h' }) : cameBackBy M A env E (.ref e) s := by
  unfold cameBackBy
  obtain ⟨hkb, hl, hen, hdn, hdl, hdo, hdf, oe, vs, T, oT, ts, he, hc, hdi, hd, h1, hnT, hTe, hT, hdT, h3⟩ := id x
  refine wpAny_bind (wpAny_field he hd h1 ?_)
  refine wpAny_ite ?_
  rw [if_neg (show ¬ ((Value.ref T == Value.none) = true) from by simp)]
  rw [hf]
  exact flight_to (fr := some L) x h
end
end Mine


/-! ## E2 -/
namespace Mine
open PySem.Calls

abbrev psBm : List Value := [.ref 32, .type "Exception", .type "BaseException", .type "object"]
abbrev psCls : Obj := excClassObj (Str.ofString "PsError") (Str.ofString "PsError") 45 44 [.ref 32] psBm true [] [] false none none (some (.ref 36)) none (some (.str (Str.ofString "PsError") 222)) (some (.str (Str.ofString "PsError") 230)) (some (.bool true)) "Exception.__new__"
theorem ps_at (P : Params) : (MineHead.hd.heap_39 P).lookup 45 = some psCls := rfl

abbrev tupO (vs : List Value) : Obj := { cls := .type "tuple", data := .seq vs.toArray }
abbrev excO (t : Addr) : Obj := { cls := .ref 45, data := .fields #[.ref t, .none, .none, .none, .bool false, .none] }

section
variable {prog : Program} {w : World} {A : Around} {E : Value → Shared → Prop} {h : Heap} {g : Array GenState} {d : Drawn} {t : Nat} {os : OsState}

theorem ps_check_new {M : Model} {rest : List Value} {Q : Unit → Shared → Prop} (hC : h.get? 45 = some psCls)
    (hq : Q () ⟨h, g, d, t, os⟩) : wpAny M A (checkBuiltinCall "Exception.__new__" ⟨.ref 45 :: rest, []⟩) Q E ⟨h, g, d, t, os⟩ := by
  have F := PySem.F.excBase_Exception
  have hcont : (Value.ref 45 :: psBm).contains (.type "Exception") = true := by decide
  have hstar := F.noStar
  simp only [checkBuiltinCall, F.newKind, F.newSplit, F.newRow]
  repeat (first | refine wpAny_loadPart_at hC ?_ | (refine wpAny_isSubtype_exc hC ?_; rw [hcont]) | refine wpAny_staticBase_exc hC ?_ | refine wpAny_madeBy_exc hC ?_ | simp only [bne_self_eq_false, Bool.false_eq_true, if_false] | wp_step)
  exact hq

theorem ps_new {R : Result → Shared → Prop} {v : Value} (hC : h.get? 45 = some psCls)
    (hq : R (.ok (.ret (.ref (h.objs.size + 1)))) ⟨(h.push (tupO [v])).push (excO h.objs.size), g, d, t, os⟩) :
    codeAny (model prog w) A (.builtin "Exception.__new__" ⟨[.ref 45, v], []⟩) R ⟨h, g, d, t, os⟩ := by
  have F := PySem.F.excBase_Exception
  have hends := F.ends
  have hcB : (Value.ref 45 :: psBm).contains (.type "Exception") = true := by decide
  have hcA : (Value.ref 45 :: psBm).contains (.type "AttributeError") = false := by decide
  have hcN : (Value.ref 45 :: psBm).contains (.type "NameError") = false := by decide
  refine codeAny_builtinAt F.entry ?_
  unfold Builtin.«BaseException.__new__»
  refine PySem.wpAt_bind ?_
  show PySem.wpAt _ _ _ (stack >>= _) _ _ _
  refine PySem.wpAt_bind (PySem.wpAt_stack fun p below => PySem.wpAt_of_wpAny ?_)
  wp_walk
  refine PySem.wpAt_of_wpAny ?_
  rw [F.owner]
  repeat (first | with_reducible refine wpAny_madeHere_exc F.canon hC ?_ | with_reducible refine wpAny_loadPart_at hC ?_ | (with_reducible refine wpAny_isSubtype_exc hC ?_; first | rw [hcB] | rw [hcA] | rw [hcN]) | wp_step)
  show R _ _
  rw [Heap.size_push]
  exact hq

theorem ps_type_call {v : Value} {Q : PySem.Fin → Shared → Prop} (X : (MineHead.hd.heap_39 w.params).In h)
    (hq : wpAny (model prog w) A (call (.ref 29) [.ref (h.objs.size + 1), v]) (fun r s₂ => r = .none ∧ Q (.done (.ret (.ref (h.objs.size + 1)))) s₂) E ⟨(h.push (tupO [v])).push (excO h.objs.size), g, d, t, os⟩) :
    wpAny (model prog w) A (Builtin.«type.__call__» ⟨[.ref 45, v], []⟩) Q E ⟨h, g, d, t, os⟩ := by
  have F := PySem.F.excBase_Exception
  have hC : h.get? 45 = some psCls := X 45 _ (ps_at _)
  repeat (first | with_reducible refine wpAny_loadPart_at hC ?_ | with_reducible refine wpAny_madeBy_exc hC ?_ | wp_step)
  refine codeAny_call_builtin_code (Code.quiet_builtin _ F.quiet) (ps_check_new hC ?_)
  refine ps_new hC ?_
  show wpAny _ _ _ _ _ _
  have kp : ∀ b o, h.get? b = some o → ((h.push (tupO [v])).push (excO h.objs.size)).get? b = some o := fun b o e => Heap.get?_push_of_some _ (Heap.get?_push_of_some _ e)
  have hC₁ := kp _ _ hC
  have hget : ((h.push (tupO [v])).push (excO h.objs.size)).get? (h.objs.size + 1) = some (excO h.objs.size) := by heap_get
  have hcC : (Value.ref 45 :: psBm).contains (.ref 45) = true := by decide
  unfold isInstance
  repeat (first | with_reducible refine wpAny_loadPart_at hget ?_ | (with_reducible refine wpAny_isSubtype_exc hC₁ ?_; rw [hcC]) | wp_step)
  have X₁ : (MineHead.hd.heap_39 w.params).In ((h.push (tupO [v])).push (excO h.objs.size)) := X.keeps kp
  refine Looks.here (s := ⟨(h.push (tupO [v])).push (excO h.objs.size), g, d, t, os⟩) (looks_findIn X₁ (t := .ref 45) (r := some (.ref 29)) rfl) ?_
  refine wpAny_holding (wpAny_bind ?_)
  unfold bindSpecial
  refine wpAny_bind (Looks.here (s := ⟨(h.push (tupO [v])).push (excO h.objs.size), g, d, t, os⟩) (looks_typeIn X₁ (t := .type "function") rfl) ?_)
  refine wpAny_ite ?_
  rw [if_pos (by decide)]
  refine wpAny_pure ?_
  refine wpAny_bind (wpAny_mono hq (fun r s₂ hr => ?_) fun _ _ x => x)
  obtain ⟨rfl, hr⟩ := hr
  refine wpAny_pure ?_
  dsimp only
  refine wpAny_ite ?_
  rw [if_neg (by decide)]
  exact wpAny_pure hr

theorem ps_call {v : Value} {Q : Value → Shared → Prop} (X : (MineHead.hd.heap_39 w.params).In h)
    (hq : wpAny (model prog w) (A.under (.builtin "type.__call__" ⟨[.ref 45, v], []⟩)) (call (.ref 29) [.ref (h.objs.size + 1), v]) (fun r s₂ => r = .none ∧ Q (.ref (h.objs.size + 1)) s₂) E ⟨(h.push (tupO [v])).push (excO h.objs.size), g, d, t, os⟩) :
    wpAny (model prog w) A (call (.ref 45) [v]) Q E ⟨h, g, d, t, os⟩ := by
  have hC : h.get? 45 = some psCls := X 45 _ (ps_at _)
  have f1 := tc_lookup
  have f2 := tc_bind (.ref 45)
  have hT : (⟨h, g, d, t, os⟩ : Shared).TypeIs (.ref 45) "type" := ⟨_, hC, rfl⟩
  refine wpAny_call (codeAny_of_tree ?_)
  show wpAny _ _ (callAny (.ref 45) _) _ _ _
  repeat (any_goals (first | assumption | with_reducible refine wpAny_loadPart_at hC ?_ | wp_step))
  refine ⟨rfl, ?_⟩
  exact codeAny_call_builtin_at (Code.quiet_builtin _ (by decide +kernel)) entry_typeCall (wpAny_check_type_call_sub hC (ps_type_call X hq))
end
end Mine


/-! ## E3 -/
namespace Mine
open PySem.Calls

abbrev toldO (t d : Addr) : Obj := { cls := .ref 45, dict := some d, data := .fields #[.ref t, .none, .none, .none, .bool false, .none] }
abbrev toldD (P : Params) (tk : Tok) (v : Value) : Obj := dictOf [⟨PyData.keyHash P "told", .str "told" tk, v⟩] 1

section
variable {prog : Program} {w : World} {A : Around} {E : Value → Shared → Prop} {s : Shared} {h₀ : Heap} {L : Addr} {m : Str → Option Value} {rest : List (Addr × Obj)}

theorem told_check {M : Model} {o : Obj} {x : Addr} {nameV v : Value} {h : Heap} {g : Array GenState} {d : Drawn} {t : Nat} {os : OsState} {Q : Unit → Shared → Prop}
    (hC : h.get? 45 = some psCls) (hx : h.get? x = some o) (hc : o.cls = .ref 45) (hq : Q () ⟨h, g, d, t, os⟩) :
    wpAny M A (checkBuiltinCall "object.__setattr__" ⟨[.ref x, nameV, v], []⟩) Q E ⟨h, g, d, t, os⟩ := by
  have SF := PySem.F.store_Exception
  have hcB : (Value.ref 45 :: psBm).contains (.type "object") = true := by decide
  have ha := SF.args (.ref x) nameV v
  simp only [checkBuiltinCall, SF.kind, SF.split]
  refine wpAny_bind ?_
  unfold isInstance
  repeat (first | (with_reducible refine wpAny_loadPart_at hx ?_; rw [hc]) | (with_reducible refine wpAny_isSubtype_exc hC ?_; rw [hcB]) | wp_step)
  exact hq

theorem told_entry {x tp : Addr} {v : Value} {tk : Tok} {Q : PySem.Fin → Shared → Prop} (F : Fr h₀ L s.heap m) (X₀ : (MineHead.hd.heap_39 w.params).In h₀)
    (N : News h₀ L s.heap ((x, excO tp) :: rest)) (hr : ∀ q ∈ rest, q.1 ≠ x)
    (hq : ∀ D h' tk' tk'', Fr h₀ L h' m → News h₀ L h' ((D, toldD w.params tk' v) :: (x, toldO tp D) :: rest) → Q (.done (.ret .none)) { s with heap := h', toks := tk'' }) :
    wpAny (model prog w) A (Builtin.«object.__setattr__» ⟨[.ref x, .str "told" tk, v], []⟩) Q E s := by
  obtain ⟨h, g, d, t, os⟩ := s
  have SF := PySem.F.store_Exception
  have X := X₀.keeps F.keep
  have hC : h.get? 45 = some psCls := X 45 _ (ps_at _)
  have hx : h.get? x = some (excO tp) := (N _ (.head _)).1
  have hpass := SF.passes (.ref x)
  have hm : Looks (model prog w) h (mroOf (.ref 45)) (.ref 45 :: psBm) := by
    have : clsIn (MineHead.hd.heap_39 w.params) 45 = some _ := rfl
    exact (looks_clsIn X this).andThen .now
  have hT : Looks (model prog w) h (typeOf (.ref x)) (.ref 45) := (Looks.ld hx).andThen .now
  have L2 : Looks (model prog w) h (typeLookup (.ref 45) "told") none := looks_findIn X rfl
  rw [osa_eq, refuse_eq]
  refine wpAny_bind (wpAny_bind (hT.here (s := ⟨h, g, d, t, os⟩) (wpAny_bind (hm.here (s := ⟨h, g, d, t, os⟩) ?_))))
  rw [show psBm = [.ref 32, .type "Exception", .type "BaseException", .type "object"] from rfl, refuseLoop_ref, refuseLoop_ref, hpass]
  refine wpAny_pure (wpAny_bind (hT.here (s := ⟨h, g, d, t, os⟩) (wpAny_bind (L2.here (s := ⟨h, g, d, t, os⟩) (wpAny_bind ?_)))))
  refine wpAny_pure ?_
  have hcl : clsIn (MineHead.hd.heap_39 w.params) 45 = some _ := rfl
  have L3 := looks_clsIn (M := model prog w) X hcl
  refine wpAny_bind (wpAny_pure (wpAny_bind (wpAny_bind (wpAny_loadPart hx (wpAny_bind (L3.here (s := ⟨h, g, d, t, os⟩) ?_))))))
  rw [if_neg (by decide)]
  refine wpAny_bind (wpAny_alloc (wpAny_bind (wpAny_update (o := excO tp) ?_ ?_)))
  · exact Heap.get?_push_of_some _ hx
  have F₁ : Fr h₀ L (h.push (dictOf [] 0)) m := F.push _
  have N₁ : News h₀ L (h.push (dictOf [] 0)) ((h.objs.size, dictOf [] 0) :: (x, excO tp) :: rest) := News.push F N _ rfl
  have hD : ∀ q ∈ (x, excO tp) :: rest, q.1 ≠ h.objs.size := fun q hq => Nat.ne_of_lt (Heap.lt_size (N q hq).1)
  obtain ⟨F₂, N₂⟩ := news_upd (pre := [(h.objs.size, dictOf [] 0)]) (f := fun o : Obj => { o with dict := some h.objs.size }) (o' := toldO tp h.objs.size) F₁ N₁
    (fun q hq => by rcases List.mem_singleton.mp hq with rfl; exact (hD _ (.head _)).symm) hr rfl rfl
  generalize hgen : (h.push (dictOf [] 0)).update x (fun o : Obj => { o with dict := some h.objs.size }) = h₂ at F₂ N₂
  show wpAny _ _ (dictMade _ _ _) _ _ (⟨h₂, g, d, t, os⟩ : Shared)
  refine wpAny_pure (wpAny_bind (wpAny_pure (wpAny_bind ?_)))
  unfold nsSet
  refine wpAny_bind (wpAny_bind (wpAny_askSetting (wpAny_pure (wpAny_bind (wpAny_mkText (wpAny_bind (wpAny_loadPart (N₂ _ (.head _)).1 ?_)))))))
  dsimp only
  rw [aRefKeyMayBeTheName_at, show (!(#[] : Array DictEntry).any (·.key.isStr "told") && (#[] : Array DictEntry).any (·.refKey)) = false from by simp]
  obtain ⟨F₃, N₃⟩ := news_upd (pre := []) (f := Obj.putName "told" (PyData.keyHash w.params "told") (.str "told" t) v) (o' := toldD w.params t v) F₂ N₂
    (fun q hq => (nomatch hq)) (fun q hq => by rcases List.mem_cons.mp hq with rfl | hq; exact hD (x, excO tp) (.head _); exact hD _ (.tail _ hq)) (by rw [putName_dict]; rfl) rfl
  refine wpAny_updatePart (N₂ _ (.head _)).1 ?_
  refine wpAny_bind (wpAny_lookBehind (N₃ _ (.head _)).1 (pastItsLine_dict (by rw [sizeLine_eq]; show 1 ≤ _; decide)) ?_)
  exact wpAny_pure (hq _ _ _ _ F₃ N₃)

theorem set_told {x tp : Addr} {v : Value} {Q : Unit → Shared → Prop} (F : Fr h₀ L s.heap m) (X₀ : (MineHead.hd.heap_39 w.params).In h₀)
    (N : News h₀ L s.heap ((x, excO tp) :: rest)) (hr : ∀ q ∈ rest, q.1 ≠ x)
    (hq : ∀ D h' tk' tk'', Fr h₀ L h' m → News h₀ L h' ((D, toldD w.params tk' v) :: (x, toldO tp D) :: rest) → Q () { s with heap := h', toks := tk'' }) :
    wpAny (model prog w) A (setAttr (.ref x) "told" v) Q E s := by
  have X := X₀.keeps F.keep
  have hC : s.heap.get? 45 = some psCls := X 45 _ (ps_at _)
  have hx : s.heap.get? x = some (excO tp) := (N _ (.head _)).1
  have hT : Looks (model prog w) s.heap (typeOf (.ref x)) (.ref 45) := (Looks.ld hx).andThen .now
  have hs : findIn (MineHead.hd.heap_39 w.params) (.ref 45) "__setattr__" = some (some (.builtin "object.__setattr__")) := rfl
  refine wpAny_bind (wpAny_mkText (wpAny_bind (wpAny_bind (wpAny_bind (hT _ _ _ _ (fun _ _ e => e) (looks_findIn X hs _ _ _ _ (fun _ _ e => e) (wpAny_holding ?_)))))))
  rw [PySem.F.store_object.slot.bind]
  refine wpAny_bind (wpAny_pure (wpAny_bind (wpAny_call (codeAny_mono (R := fun r s' => match r with | .ok (.ret _) => Q () s' | .ok _ => False | .error e => E e s')
    (codeAny_call_builtin (PySem.F.store_Exception.slot.plain) (PySem.F.store_Exception.entry) (told_check hC hx rfl ?_)) fun r s' z => ?_))))
  · refine told_entry (s := { s with toks := s.toks + 1 }) F X₀ N hr fun D h' tk' tk'' F' N' => ?_
    exact hq D h' tk' tk'' F' N'
  · rcases r with e | (v | _ | _ | _) <;> first | exact z | exact wpAny_pure (wpAny_pure z)
end
end Mine


/-! ## E4 -/
namespace Mine
open PySem.Calls
theorem fill4 : (PySem.Challenge.rw_on0258_01 = PySem.Challenge.rw_on0258_01) ∧ MineHead.hd.heap_39 = MineHead.hd.heap_39 := by k_fill; exact ⟨rfl, rfl⟩
local macro_rules | `(tactic| k_all) => `(tactic| assumption)
local macro_rules | `(tactic| ktr_room) => `(tactic| ((try simp only [depth_under_make, depth_under_kw, depth_in1, depth_deeper, depth_caller]); (try dsimp only [ktrTop]); omega))

local macro_rules | `(tactic| walk_at "my my_enterD") => `(tactic| (refine' code_def ?k1 ?k2 ?k3 ?k4 ?k5 ?kA ?kF ?kK ?k6 ?k7 ?k8 ?k9 ?kB ?_ ?c2 ?c3 ?c4 ?c5; (case kA => exact rfl); (case kF => exact rfl); (case kK => assumption); (case k1 => k_asm); (case k2 => k_asm); (case k3 => k_asm); (case k4 => k_asm); (case k5 => k_asm); (case k6 => k_is); (case k7 => k_is); (case k8 => ktr_room); (case k9 => exact binds_K (by k_in) rfl (by k_is) rfl rfl rfl); (case c5 => decide); (case kB => exact locs rfl); (case c2 => exact rfl); (case c3 => exact rfl); (case c4 => exact rfl); k_whole; intro g' L' h' FG' F' N' B' X' T'; (try dsimp only); (try k_fold)))
section
variable {prog : Program} {w : World} {p : Program} {loose : List Str} {mean : ExcName → Option Value} {mg mb : Str → Option Value} {dp un : Nat} {gd : Option (List Code)} {cn : Str} {cs : Scope} {a : Addr} {ccd : Value} {cl : List (Str × Addr)} {outer : List Env}
  {A₀ : Around} {base h₀ : Heap} {L : Addr} {m : Str → Option Value} {rest : List (Addr × Obj)} {s : Shared} {Q E : Value → Shared → Prop}

theorem init_told {e tp : Addr} {b : Array UInt8} {tb : Tok} (B : Below A₀ base outer h₀) (F : Fr h₀ L s.heap m) (X : (MineHead.hd.heap_39 w.params).In h₀)
    (N : News h₀ L s.heap ((e, excO tp) :: rest)) (T : Top p loose mean mg mb h₀) (hk : cs.kind = .function) (hr : ∀ q ∈ rest, q.1 ≠ e)
    (hd : dp + 4 < recursionLimit)
    (hret : ∀ D h' tk' tk'', Fr h₀ L h' m → News h₀ L h' ((D, toldD w.params tk' (.bytes b tb)) :: (e, toldO tp D) :: rest) → Q .none { s with heap := h', toks := tk'' }) :
    wpAny (model prog w) ((ktrTop dp un gd cn cs L a ccd cl outer).under (.builtin "type.__call__" ⟨[.ref 45, .bytes b tb], []⟩)) (call (.ref 29) [.ref e, .bytes b tb]) Q E s := by
  refine wpAny_call ?_
  walk_at "my my_enterD"
  k_steps
  refine set_told (by assumption) (by assumption) (by assumption) (by assumption) ?_
  intro D h' tk' tk'' F1 N1
  dsimp only
  k_steps
  exact hret _ _ _ _ (by k_asm) (by k_asm)
end
end Mine


/-! ## E5 -/
namespace Mine
open PySem.Calls

section
variable {M : Model} {A : Around} {E : Value → Shared → Prop} {s : Shared} {base g g₂ : Heap} {outer : List Env} {L a e D tp : Addr} {m : Str → Option Value} {name : Str} {scope : Scope} {cd : Value} {Q : Unit → Shared → Prop} {news : List (Addr × Obj)} {P : Params} {tk : Tok} {v : Value} {od : Obj}

theorem leave_told (K : Below A base outer g) (F : Fr g L s.heap m) (N : News g L s.heap ((D, toldD P tk v) :: (e, toldO tp D) :: news))
    (hQ : ∀ h', FlyP base outer e D (toldD P tk v) .none h' → g.UpToSlots h' → Q () { s with heap := h' }) (hk : scope.kind = .function := by rfl) :
    wpAny M (A.deeper (envOf name scope L a cd)) (leaving (envOf name scope L a cd) (.ref e)) Q E s := by
  have K' := K.push (name := name) (a := a) (cd := cd) F hk
  have ND := N _ (.head _)
  have Ne := N _ (.tail _ (.head _))
  refine leave_first (base := base) (outer := outer) (d := D) (od := toldD P tk v) K'.stack K'.frames rfl K'.stays (fresh_of_stays K.stays Ne.2.2) (fresh_of_stays K.stays ND.2.2) ?_ ND.1 (fun vs q => by cases q) Ne.1 rfl rfl rfl rfl
    fun h' x y => hQ h' x ((Heap.UpToSlots.of_keeps F.keep).trans y)
  intro hm
  obtain ⟨env, he, hf⟩ := List.mem_filterMap.mp hm
  rcases List.mem_cons.mp he with rfl | he
  · exact ND.2.1 (Option.some.inj hf).symm
  · obtain ⟨o, ho, _⟩ := (K.frames.mem (List.mem_filterMap.mpr ⟨env, he, hf⟩)).2
    rw [ND.2.2] at ho; cases ho

theorem leave_more (K : Below A base outer g) (F : Fr g L g₂ m) (x : FlyP base (envOf name scope L a cd :: outer) e D od .none s.heap) (hsm : g₂.UpToSlots s.heap)
    (hQ : ∀ h', FlyP base outer e D od .none h' → g.UpToSlots h' → Q () { s with heap := h' }) :
    wpAny M (A.deeper (envOf name scope L a cd)) (leaving (envOf name scope L a cd) (.ref e)) Q E s :=
  leave_next (Around.frames_deeper K.stack) rfl x fun h' x1 x2 => hQ h' x1 ((Heap.UpToSlots.of_keeps F.keep).trans (hsm.trans x2))
end

def RaisePs (E : Value → Shared → Prop) (v : Value) (s₁ : Shared) : Prop :=
  ∃ P a d t, v = .ref a ∧ s₁.heap.get? a = some (toldO t d) ∧ (MineHead.hd.heap_39 P).In s₁.heap ∧ E (.ref a) s₁

section
variable {prog : Program} {w : World} {A : Around} {E : Value → Shared → Prop} {s : Shared} {env : Env}
theorem Raise_ps {M : Model} {e : PySem.Expr} {pos : Pos} {Q : Flow → Shared → Prop} (hh : A.handled = none)
    (h : wpAny M A (eval e env) (RaisePs E) E s) : wpAny M A (exec (.Raise (some e) none pos) env) Q E s := by
  show wpAny M A (do standAt pos; raiseStmt env (some (do let v ← eval e env; standAt pos; pure v)) none) Q E s
  refine wpAny_bind (wpAny_standAt ?_)
  unfold raiseStmt
  dsimp only
  refine wpAny_bind (wpAny_bind (wpAny_mono h (fun v s₁ h₁ => wpAny_bind (wpAny_standAt (wpAny_pure ?_))) fun _ _ x => x))
  obtain ⟨P, x, d, t, rfl, hx, X, hE⟩ := h₁
  obtain ⟨h, g, dr, tk, os⟩ := s₁
  have hC : h.get? 45 = some psCls := X 45 _ (ps_at _)
  have hcB : (Value.ref 45 :: psBm).contains (.type "BaseException") = true := by decide
  have hnt : ∀ {Q' : Bool → Shared → Prop}, Q' false ⟨h, g, dr, tk, os⟩ → wpAny M A (isType (.ref x)) Q' E ⟨h, g, dr, tk, os⟩ := by
    intro Q' hq
    simp only [isType, loadHead]
    refine wpAny_bind (wpAny_loadPart hx ?_)
    exact wpAny_pure hq
  refine wpAny_bind (wpAny_pure ?_)
  dsimp only
  refine wpAny_bind (wpAny_holding ?_)
  unfold excFromValue isExcClass
  refine wpAny_bind (wpAny_bind (hnt ?_))
  simp only [Bool.false_eq_true, if_false]
  refine wpAny_pure ?_
  simp only [Bool.false_eq_true, if_false]
  refine wpAny_bind ?_
  unfold isInstance
  repeat (first | with_reducible refine wpAny_loadPart_at hx ?_ | (with_reducible refine wpAny_isSubtype_exc hC ?_; rw [hcB]) | wp_step)
  unfold raiseNew
  refine wpAny_bind (wpAny_handled ?_)
  rw [hh]
  first
    | exact wpAny_throw hE
    | exact wpAny_bind (wpAny_pure (wpAny_throw hE))
end

theorem fill5 : (PySem.Challenge.rw_on0258_01 = PySem.Challenge.rw_on0258_01) ∧ MineHead.hd.heap_39 = MineHead.hd.heap_39 := by k_fill; exact ⟨rfl, rfl⟩
local macro_rules | `(tactic| k_all) => `(tactic| assumption)
local macro_rules | `(tactic| ktr_room) => `(tactic| ((try simp only [depth_under_make, depth_under_kw, depth_in1, depth_deeper, depth_caller]); (try dsimp only [ktrTop]); omega))
local macro_rules | `(tactic| walk_at "call ref") => `(tactic| (k_here; (try dsimp only [List.cons_append, List.nil_append, List.append_nil]); (with_reducible show wpAny _ _ (call (Value.ref 84) [Value.ref _]) _ _ _); (refine next_end (by assumption) (by assumption) (by assumption) (by assumption) (by assumption) rfl (by assumption) (by assumption) (by assumption) (by ktr_room) (by assumption) ?_); intro _ _ _ _; (try dsimp only)))

local macro_rules | `(tactic| walk_at "exec Raise some none") => `(tactic| (k_here; refine Raise_ps rfl ?_))

section
variable {prog : Program} {w : World} {p : Program} {loose : List Str} {mean : ExcName → Option Value} {mg mb : Str → Option Value} {dp un : Nat} {gd : Option (List Code)} {cn : Str} {cs : Scope} {a : Addr} {ccd : Value} {cl : List (Str × Addr)} {outer : List Env}
  {A₀ : Around} {base h₀ : Heap} {L : Addr} {m : Str → Option Value} {rest : List (Addr × Obj)} {s : Shared} {Q E : Value → Shared → Prop}

theorem ps_made {bt : Array UInt8} {tb : Tok} (B : Below A₀ base outer h₀) (F : Fr h₀ L s.heap m) (X : (MineHead.hd.heap_39 w.params).In h₀)
    (N : News h₀ L s.heap rest) (T : Top p loose mean mg mb h₀) (hk : cs.kind = .function) (hd : dp + 4 < recursionLimit)
    (hret : ∀ D e tp h' tk' tk'', Fr h₀ L h' m → News h₀ L h' ((D, toldD w.params tk' (.bytes bt tb)) :: (e, toldO tp D) :: (tp, tupO [.bytes bt tb]) :: rest) → Q (.ref e) { s with heap := h', toks := tk'' }) :
    wpAny (model prog w) (ktrTop dp un gd cn cs L a ccd cl outer) (call (.ref 45) [.bytes bt tb]) Q E s := by
  refine ps_call (X.keeps F.keep) ?_
  have P1 := News.push F N (tupO [.bytes bt tb]) rfl
  have P2 := News.push (F.push (tupO [.bytes bt tb])) P1 (excO s.heap.objs.size) rfl
  have hsz : (s.heap.push (tupO [.bytes bt tb])).objs.size = s.heap.objs.size + 1 := by rw [Heap.size_push]
  rw [hsz] at P2
  refine init_told B ((F.push _).push _) X P2 T hk (fun q hq => ?_) hd fun D h' tk' tk'' F' N' => ⟨rfl, hret _ _ _ _ _ _ F' N'⟩
  have := Heap.lt_size (P1 q hq).1
  rw [hsz] at this
  exact Nat.ne_of_lt this

theorem sure_end {x dx : Addr} {b : List UInt8} {tb t1 t2 ti : Tok} {i : Nat} (B : Below A₀ base outer h₀) (F : Fr h₀ L s.heap m) (X : (MineHead.hd.heap_39 w.params).In h₀)
    (N : News h₀ L s.heap ((x, instObj 94 dx) :: (dx, srcD w.params t1 t2 b tb i ti) :: rest)) (T : Top p loose mean mg mb h₀) (hk : cs.kind = .function)
    (hxd : @LT.lt Nat _ dx x) (hr : ∀ q ∈ rest, q.1 ≠ dx) (hb : b.length ≤ 1000000)
    (hd : dp + 8 < recursionLimit) (hi : b[i]? = none)
    (hexc : ∀ e d tk₁ tk₂ tk' g h', Fr h₀ L g m → g.UpToSlots h' → FlyP base (envX cn cs L a ccd cl :: outer) e d (toldD w.params tk₁ (.bytes #[115, 121, 110, 116, 97, 120, 101, 114, 114, 111, 114] tk₂)) .none h' → E (.ref e) { s with heap := h', toks := tk' }) :
    wpAny (model prog w) (ktrTop dp un gd cn cs L a ccd cl outer) (call (.ref 112) [.ref x]) Q E s := by
  refine wpAny_call ?_
  k_dflt ktr_enter
  k_steps
  rename Below _ _ _ _ => B2
  rename Fr h₀ _ _ _ => FG
  rename (MineHead.hd.heap_39 w.params).In _ => X2
  rename Top _ _ _ _ _ _ => T2
  refine ps_made B2 (by assumption) X2 (by assumption) T2 rfl (by ktr_room) fun D e tp h' tk' tk'' F' N' => ?_
  refine ⟨_, e, D, tp, rfl, (N' _ (.tail _ (.head _))).1, X2.keeps F'.keep, ?_⟩
  exact leave_told B2 F' N' fun h'' x y => hexc e D _ _ _ _ _ FG y x
end
end Mine


/-! ## C1 -/
namespace Mine
open PySem.Calls

/-- entry of a def on a clean stack: as the library's code_def, the body in wpC -/
theorem codeC_def {prog : Program} {w : World} {A₀ A : Around} {s : Shared} {base h₀ : Heap} {outer : List Env} {L : Addr} {m : Str → Option Value} {env : Env} {news : List (Addr × Obj)} {K : Frag} {p : Program} {loose : List Str} {mean : ExcName → Option Value} {mg mb : Str → Option Value}
    {R : Result → Shared → Prop} {name qual : Str} {params : Arguments} {body : List Stmt} {scope : Scope} {dV kV doc pm cdv ct oc : Value} {an od : Option Addr} {osl : Array (Option Value)} {f : Addr} {args : Args} {binds : List (Str × Value)}
    (B : Below A₀ base outer h₀) (F : Fr h₀ L s.heap m) (X₀ : K.In h₀) (N : News h₀ L s.heap news) (T : Top p loose mean mg mb h₀) (hA : A.frames = some (env :: outer)) (hf : env.frame = some L) (hke : env.scope.kind = .function)
    (ho : K.lookup f = some ⟨oc, od, .func (fnOf name qual params body scope dV kV doc pm an cdv ct), osl⟩) (hcd : codeIn K cdv qual = true) (hroom : A.depth < recursionLimit)
    (hbind : BindsTo s (fnOf name qual params body scope dV kV doc pm an cdv ct) args binds) (hloc : ∀ y ∈ binds, scope.names.lookup y.1 = some .local)
    (h : ∀ g L' h₁, Fr h₀ L g m → Fr g L' h₁ (fun y => binds.reverse.lookup y) → News g L' h₁ news → Below A base (env :: outer) g → K.In g → Top p loose mean mg mb g →
      wpC (model prog w) (A.deeper (envOf qual scope L' f cdv)) (execs body (envOf qual scope L' f cdv))
        (fun fl s' => LeaveK h₀ L m g R (match fl with | .ret v => v | _ => .none) s')
        (fun e s' => wpAny (model prog w) (A.deeper (envOf qual scope L' f cdv)) (leaving (envOf qual scope L' f cdv) e) (fun _ s'' => R (.error e) s'') (fun e' s'' => R (.error e') s'') s')
        { s with heap := h₁, toks := s.toks + binds.length })
    (hco : scope.isCoroutine = false) (hgen : scope.isGenerator = false) (hk : scope.kind = .function)
    (hcell : ∀ x ∈ scope.names, x.2 ≠ .cell) : codeC (model prog w) A (.call (.ref f) args) R s := by
  have X := X₀.keeps F.keep
  refine codeC_call_def (fd := fnOf name qual params body scope dV kV doc pm an cdv ct) (body := body) (binds := binds) hroom (X _ _ ho) rfl (T.nolimit.keeps F.keep) (codeRec_of X hcd) rfl hbind hcell hloc (fun h₁ hns hk₁ => ?_) hco hgen hk
  have nm : ∀ b o, h₀.get? b = some o → b ∉ news.map (·.1) := fun b o e q => by
    obtain ⟨p, hp, rfl⟩ := List.mem_map.mp q
    rw [(N p hp).2.2] at e; cases e
  have st : h₀.StaysIn (hideAll s.heap (news.map (·.1))) := fun b o e => hideAll_get _ (F.keep b o e) (nm b o e)
  obtain ⟨oL, es, ep, hL, hLd, hLk, hLf⟩ := F.ns
  have nL : L ∉ news.map (·.1) := fun q => by
    obtain ⟨p, hp, e⟩ := List.mem_map.mp q
    exact (N p hp).2.1 e
  have hLg := hideAll_get (news.map (·.1)) hL nL
  have hnew : base.get? L = none := by
    cases hq : base.get? L with
    | none => rfl
    | some o => exact absurd (Nat.lt_of_lt_of_le (Heap.lt_size (B.stays L o hq)) F.above) (Nat.lt_irrefl _)
  have Bf : s.heap.FunFrames base (env :: outer) := by
    refine .cons (by rw [hke]; decide) hf F.ns hnew (B.frames.of_keeps fun b o e _ => ⟨o, F.keep b o e, rfl⟩)
  have B₂ : Below A base (env :: outer) (hideAll s.heap (news.map (·.1))) := ⟨hA, fun b o e => st b o (B.stays b o e), funFrames_hideAll Bf fun env' he b hb hf' => by
    rcases List.mem_cons.mp he with rfl | he
    · exact nL ((Option.some.inj (hf.symm.trans hf') : L = b) ▸ hb)
    · obtain ⟨L₁, o₁, hf₁, ho₁⟩ := funFrames_in B.frames env' he
      rw [hf₁] at hf'
      exact nm L₁ o₁ ho₁ ((Option.some.inj hf' : L₁ = b) ▸ hb)⟩
  refine wpC_mono (h _ s.heap.objs.size h₁ ⟨⟨oL, es, ep, hLg, hLd, hLk, hLf⟩, st, F.above⟩ ⟨hns, fun b o e => hk₁ b o (of_hideAll _ e), Nat.le_of_eq (hideAll_size _ _)⟩
    (fun p hp => ⟨hk₁ _ _ (N p hp).1, Nat.ne_of_lt (Heap.lt_size (N p hp).1), hideAll_none _ (List.mem_map_of_mem hp)⟩) B₂ (X₀.keeps st) (T.keeps st)) (fun fl s' hl => ?_) fun _ _ y => y
  obtain ⟨L', m', news', F', N', k⟩ := hl
  have stay : ∀ b o, h₀.get? b = some o → s'.heap.get? b = some o := fun b o e => F'.keep b o (st b o e)
  refine k ⟨⟨oL, es, ep, F'.keep L oL hLg, hLd, hLk, hLf⟩, stay, F.above⟩ fun p hp => ⟨(N' p hp).1, fun q => ?_, ?_⟩
  · have z := (N' p hp).2.2
    rw [q, hLg] at z; cases z
  · cases q : h₀.get? p.1 with
    | none => rfl
    | some o => have z := (N' p hp).2.2; rw [st _ _ q] at z; cases z
end Mine


/-! ## S1 -/
namespace Mine
open PySem.Calls
theorem fillS1 : (PySem.Challenge.rw_on0258_01 = PySem.Challenge.rw_on0258_01) ∧ MineHead.hd.heap_39 = MineHead.hd.heap_39 := by k_fill; exact ⟨rfl, rfl⟩

theorem plainAttrs_bytearray : PlainAttrs "bytearray" :=
  ⟨⟨"bytearray.__getattribute__", by rw [typeLookup_type, builtinLookup_eq_fast]; kernel_rfl, by decide +kernel⟩, by rw [typeLookup_type, builtinLookup_eq_fast]; kernel_rfl⟩

def IsBa (ba : Addr) (K : Shared → Prop) (ov : Value) (s₁ : Shared) : Prop := ov = .ref ba ∧ (∃ b, s₁.heap.get? ba = some (baObj b)) ∧ K s₁
def AppV (ba : Addr) (K : Shared → Prop) (v : Value) (s₂ : Shared) : Prop :=
  ∃ i t b', v = .int i t ∧ s₂.heap.get? ba = some (baObj b') ∧ 0 ≤ i ∧ i < 256 ∧ b'.size + 1 ≤ sizeLine ∧ K { s₂ with heap := s₂.heap.update ba (Obj.mapBytearray (·.push i.toNat.toUInt8)) }
theorem append_stmt {prog : Program} {w : World} {A : Around} {E : Value → Shared → Prop} {s : Shared} {env : Env} {o e : PySem.Expr} {apos pos pos' : Pos} {ba : Addr} {Q : Flow → Shared → Prop}
    (hbase : attributeBase o "append" env (eval o env) = eval o env) (hline : (apos.endLine == pos.line) = true)
    (htrees : backTo pos (starEach [e] env) = [(false, eval e env)]) (hi : interactive env = false)
    (hs : swapsWith (.Call (.Attribute o "append" apos) [e] [] pos) none pos'.line env = pure false)
    (h : wpAny (model prog w) A (eval o env) (IsBa ba fun s₁ => wpAny (model prog w) A (eval e env) (AppV ba fun s₃ => Q .next s₃) E s₁) E s) :
    wpC (model prog w) A (exec (.Expr (.Call (.Attribute o "append" apos) [e] [] pos) pos') env) Q E s := by
  refine wpC_Expr (wpC_Call_method1 hbase hline htrees plainAttrs_bytearray Fb.slot_append Fb.type_append (wpAny_mono h (fun ov s₁ h₁ => ?_) fun _ _ x => x)) hi hs
  obtain ⟨rfl, ⟨b, hb⟩, hk⟩ := h₁
  refine ⟨⟨_, hb, rfl⟩, fun a q => by cases q; exact ⟨_, hb, rfl⟩, wpAny_mono hk (fun v s₂ h₂ => ?_) fun _ _ x => x⟩
  obtain ⟨i, t, b', rfl, hb', h0, h1, hz, hK⟩ := h₂
  exact ba_append hb' h0 h1 hz hK

def meanF (c : UInt8) : UInt8 := if c = 110 then 10 else if c = 114 then 13 else if c = 116 then 9 else if c = 98 then 8 else if c = 102 then 12 else c
def escF (b : List UInt8) (i : Nat) : Option (Option UInt8 × Nat) :=
  match b[i]? with
  | none => none
  | some c => if isOct c then some (some (octF b (i + 1) c).1.toUInt8, (octF b (i + 1) c).2)
    else if c = 13 then some (none, skipF b (i + 1)) else if c = 10 then some (none, i + 1) else some (some (meanF c), i + 1)

theorem octF_lt (b : List UInt8) (i : Nat) (c : UInt8) : (octF b i c).1 < 256 := by
  unfold octF
  split
  · exact Nat.mod_lt _ (by decide)
  · split
    · split
      · exact Nat.mod_lt _ (by decide)
      · split <;> exact Nat.mod_lt _ (by decide)
    · exact Nat.mod_lt _ (by decide)

theorem appV_nat {ba : Addr} {K : Shared → Prop} {v : Nat} {u : Tok} {s₂ : Shared} {bb : Array UInt8} (hg : s₂.heap.get? ba = some (baObj bb)) (hv : v < 256) (hz : bb.size + 1 ≤ sizeLine)
    (hK : K { s₂ with heap := s₂.heap.update ba (Obj.mapBytearray (·.push v.toUInt8)) }) : AppV ba K (.int (v : Int) u) s₂ :=
  ⟨_, _, _, rfl, hg, by omega, by omega, hz, by rw [Int.toNat_natCast]; exact hK⟩
theorem appV_news {h₀ : Heap} {s₂ : Shared} {L ba : Addr} {m : Str → Option Value} {pre rest : List (Addr × Obj)} {acc : List UInt8} {K : Shared → Prop} {v : Nat} {u : Tok} (F : Fr h₀ L s₂.heap m) (N : News h₀ L s₂.heap (pre ++ (ba, baObj acc.toArray) :: rest))
    (n : ∀ q ∈ pre, q.1 ≠ ba) (hr : ∀ q ∈ rest, q.1 ≠ ba) (hv : v < 256) (hz : acc.length ≤ 1000000)
    (hK : ∀ h', Fr h₀ L h' m → News h₀ L h' (pre ++ (ba, baObj (acc ++ [v.toUInt8]).toArray) :: rest) → K { s₂ with heap := h' }) : AppV ba K (.int (v : Int) u) s₂ := by
  obtain ⟨F', N'⟩ := news_upd (f := Obj.mapBytearray (·.push v.toUInt8)) (o' := baObj (acc ++ [v.toUInt8]).toArray) F N n hr (by simp [Obj.mapBytearray]) rfl
  exact appV_nat (N _ (List.mem_append_right _ (.head _))).1 hv (by rw [List.size_toArray, sizeLine_eq]; omega) (hK _ F' N')
theorem appV_news3 {h₀ : Heap} {s₂ : Shared} {L ba : Addr} {m : Str → Option Value} {p1 p2 p3 : Addr × Obj} {rest : List (Addr × Obj)} {acc : List UInt8} {K : Shared → Prop} {v : Nat} {u : Tok} (F : Fr h₀ L s₂.heap m) (N : News h₀ L s₂.heap (p1 :: p2 :: p3 :: (ba, baObj acc.toArray) :: rest))
    (n1 : p1.1 ≠ ba) (n2 : p2.1 ≠ ba) (n3 : p3.1 ≠ ba) (hr : ∀ q ∈ rest, q.1 ≠ ba) (hv : v < 256) (hz : acc.length ≤ 1000000)
    (hK : ∀ h', Fr h₀ L h' m → News h₀ L h' (p1 :: p2 :: p3 :: (ba, baObj (acc ++ [v.toUInt8]).toArray) :: rest) → K { s₂ with heap := h' }) : AppV ba K (.int (v : Int) u) s₂ :=
  appV_news (pre := [p1, p2, p3]) F N (fun q hq => by
    simp only [List.mem_cons, List.not_mem_nil, or_false] at hq
    rcases hq with rfl | rfl | rfl <;> assumption) hr hv hz hK
theorem appV_news2 {h₀ : Heap} {s₂ : Shared} {L ba : Addr} {m : Str → Option Value} {p1 p2 : Addr × Obj} {rest : List (Addr × Obj)} {acc : List UInt8} {K : Shared → Prop} {v : Nat} {u : Tok} (F : Fr h₀ L s₂.heap m) (N : News h₀ L s₂.heap (p1 :: p2 :: (ba, baObj acc.toArray) :: rest))
    (n1 : p1.1 ≠ ba) (n2 : p2.1 ≠ ba) (hr : ∀ q ∈ rest, q.1 ≠ ba) (hv : v < 256) (hz : acc.length ≤ 1000000)
    (hK : ∀ h', Fr h₀ L h' m → News h₀ L h' (p1 :: p2 :: (ba, baObj (acc ++ [v.toUInt8]).toArray) :: rest) → K { s₂ with heap := h' }) : AppV ba K (.int (v : Int) u) s₂ :=
  appV_news (pre := [p1, p2]) F N (fun q hq => by
    simp only [List.mem_cons, List.not_mem_nil, or_false] at hq
    rcases hq with rfl | rfl <;> assumption) hr hv hz hK

theorem u8_eq (c : UInt8) (n : Nat) (hn : n < 256) : (c = n.toUInt8) ↔ c.toNat = n := by
  rw [← UInt8.toNat_inj]
  have : n.toUInt8.toNat = n := by simp; omega
  rw [this]
theorem meanF_int (c : UInt8) : ((meanF c).toNat : Int) = if c.toNat = 110 then 10 else if c.toNat = 114 then 13 else if c.toNat = 116 then 9 else if c.toNat = 98 then 8 else if c.toNat = 102 then 12 else (c.toNat : Int) := by
  have e := u8_eq c
  unfold meanF
  have e1 : (c = 110) ↔ c.toNat = 110 := e 110 (by decide)
  have e2 : (c = 114) ↔ c.toNat = 114 := e 114 (by decide)
  have e3 : (c = 116) ↔ c.toNat = 116 := e 116 (by decide)
  have e4 : (c = 98) ↔ c.toNat = 98 := e 98 (by decide)
  have e5 : (c = 102) ↔ c.toNat = 102 := e 102 (by decide)
  simp only [e1, e2, e3, e4, e5]
  split
  · rfl
  split
  · rfl
  split
  · rfl
  split
  · rfl
  split <;> rfl
theorem appV_mean {h₀ : Heap} {s₂ : Shared} {L ba : Addr} {m : Str → Option Value} {p1 p2 p3 : Addr × Obj} {rest : List (Addr × Obj)} {acc : List UInt8} {K : Shared → Prop} {v : UInt8} {k : Int} {u : Tok} (F : Fr h₀ L s₂.heap m) (N : News h₀ L s₂.heap (p1 :: p2 :: p3 :: (ba, baObj acc.toArray) :: rest))
    (n1 : p1.1 ≠ ba) (n2 : p2.1 ≠ ba) (n3 : p3.1 ≠ ba) (hr : ∀ q ∈ rest, q.1 ≠ ba) (hv : k = (v.toNat : Int)) (hz : acc.length ≤ 1000000)
    (hK : ∀ h', Fr h₀ L h' m → News h₀ L h' (p1 :: p2 :: p3 :: (ba, baObj (acc ++ [v]).toArray) :: rest) → K { s₂ with heap := h' }) : AppV ba K (.int k u) s₂ := by
  subst hv
  have e : v.toNat.toUInt8 = v := by simp
  exact appV_news3 F N n1 n2 n3 hr v.toNat_lt hz (by rw [e]; exact hK)

local macro_rules | `(tactic| k_all) => `(tactic| assumption)
local macro_rules | `(tactic| ktr_room) => `(tactic| ((try simp only [depth_under_make, depth_under_kw, depth_in1, depth_deeper, depth_caller]); (try dsimp only [ktrTop]); omega))
local macro_rules | `(tactic| walk_at "call ref") => `(tactic| (k_here; (try dsimp only [List.cons_append, List.nil_append, List.append_nil]); (with_reducible show wpAny _ _ (call (Value.ref 54) [Value.int _ _]) _ _ _); k_dflt (refine' is_octal_spec ?k1 ?k2 ?k3 ?k4 ?k5 ?k6 ?k10 ?_ ?_; (case k1 => k_asm); (case k2 => k_asm); (case k3 => k_asm); (case k4 => k_asm); (case k5 => k_asm); (case k6 => first | exact rfl | assumption); (case k10 => ktr_room)); (all_goals (first | (intro hy' hz' h' tk' F' N'; (try k_sweep)) | (intro hn' h' tk' F' N'; (try k_sweep))))))



local macro_rules | `(tactic| walk_at "my c_leaf") => `(tactic| ((with_reducible refine wpC_execs_cons ?_); (with_reducible refine wpC_of ?_)))
local macro_rules | `(tactic| walk_at "my c_end") => `(tactic| repeat ((try dsimp only); (with_reducible refine wpC_of ?_); k_steps))
local macro_rules | `(tactic| walk_at "my c_if") => `(tactic| ((with_reducible refine wpC_execs_cons ?_); (with_reducible refine wpC_If_leaf ?_)))
local macro_rules | `(tactic| walk_at "my my_enterC") => `(tactic| (refine' codeC_def ?k1 ?k2 ?k3 ?k4 ?k5 ?kA ?kF ?kK ?k6 ?k7 ?k8 ?k9 ?kB ?_ ?c2 ?c3 ?c4 ?c5; (case kA => exact rfl); (case kF => exact rfl); (case kK => assumption); (case k1 => k_asm); (case k2 => k_asm); (case k3 => k_asm); (case k4 => k_asm); (case k5 => k_asm); (case k6 => k_is); (case k7 => k_is); (case k8 => ktr_room); (case k9 => exact BindsTo.of_eq rfl); (case c5 => decide); (case kB => exact locs rfl); (case c2 => exact rfl); (case c3 => exact rfl); (case c4 => exact rfl); k_whole; intro g' L' h' FG' F' N' B' X' T'; (try dsimp only); (refine wpC_fold ?_; intro qc ec)))

local macro_rules | `(tactic| walk_at "call ref") => `(tactic| (k_here; (try dsimp only [List.cons_append, List.nil_append, List.append_nil]); (with_reducible show wpAny _ _ (call (Value.ref 112) [Value.ref _]) _ _ _); k_dflt (refine' sure_spec ?k1 ?k2 ?k3 ?k4 ?k5 ?k6 ?k7 ?k8 ?k9 ?k10 ?k11 ?_; (case k11 => assumption); (case k1 => k_asm); (case k2 => k_asm); (case k3 => k_asm); (case k4 => exact news_rot (by k_asm)); (case k5 => k_asm); (case k6 => first | exact rfl | assumption); (case k7 => assumption); (case k8 => k_all); (case k9 => assumption); (case k10 => ktr_room)); intro h' tk' u' ti' F' N'; (replace N' := news_unrot N'); (try k_sweep)))
local macro_rules | `(tactic| walk_at "call ref") => `(tactic| (k_here; (try dsimp only [List.cons_append, List.nil_append, List.append_nil]); (with_reducible show wpAny _ _ (call (Value.ref 119) [Value.ref _, Value.int _ _]) _ _ _); k_dflt (refine' octal_spec ?k1 ?k2 ?k3 ?k4 ?k5 ?k6 ?k7 ?k8 ?k9 ?k10 ?k11 ?k12 ?_; (case k1 => k_asm); (case k2 => k_asm); (case k3 => k_asm); (case k4 => exact news_rot (by k_asm)); (case k5 => k_asm); (case k6 => first | exact rfl | assumption); (case k7 => assumption); (case k8 => k_all); (case k9 => assumption); (case k10 => ktr_room); (case k11 => omega); (case k12 => omega)); intro v' j' ho' h' tk' u' ti' F' N'; (replace N' := news_unrot N'); (try k_sweep)))
local macro_rules | `(tactic| walk_at "call ref") => `(tactic| (k_here; (try dsimp only [List.cons_append, List.nil_append, List.append_nil]); (with_reducible show wpAny _ _ (call (Value.ref 105) [Value.ref _]) _ _ _); k_dflt (refine' skip_spec ?k1 ?k2 ?k3 ?k4 ?k5 ?k6 ?k7 ?k8 ?k9 ?k10 ?_; (case k1 => k_asm); (case k2 => k_asm); (case k3 => k_asm); (case k4 => exact news_rot (by k_asm)); (case k5 => k_asm); (case k6 => first | exact rfl | assumption); (case k7 => assumption); (case k8 => k_all); (case k9 => assumption); (case k10 => ktr_room)); intro j' hj' h' tk' ti' F' N'; (replace N' := news_unrot N'); (try k_sweep)))
local macro_rules | `(tactic| walk_at "call ref") => `(tactic| (k_here; (try dsimp only [List.cons_append, List.nil_append, List.append_nil]); (with_reducible show wpAny _ _ (call (Value.ref 112) [Value.ref _]) _ _ _); k_dflt (refine' sure_end ?k1 ?k2 ?k3 ?k4 ?k5 ?k6 ?k7 ?k8 ?k9 ?k10 ?k11 ?_; (case k11 => assumption); (case k1 => k_asm); (case k2 => k_asm); (case k3 => k_asm); (case k4 => exact news_rot (by k_asm)); (case k5 => k_asm); (case k6 => first | exact rfl | assumption); (case k7 => assumption); (case k8 => k_all); (case k9 => assumption); (case k10 => ktr_room)); intro e' d' tk₁' tk₂' tk' g' h' FG' U' Y'))

section
variable {prog : Program} {w : World} {p : Program} {loose : List Str} {mean : ExcName → Option Value} {mg mb : Str → Option Value} {dp un : Nat} {gd : Option (List Code)} {cn : Str} {cs : Scope} {a : Addr} {ccd : Value} {cl : List (Str × Addr)} {outer : List Env}
  {A₀ : Around} {base h₀ : Heap} {L : Addr} {m : Str → Option Value} {rest : List (Addr × Obj)} {s : Shared} {Q E : Value → Shared → Prop}

theorem escape_spec {x dx ba : Addr} {b acc : List UInt8} {tb t1 t2 ti : Tok} {i : Nat} (B : Below A₀ base outer h₀) (F : Fr h₀ L s.heap m) (X : (MineHead.hd.heap_39 w.params).In h₀)
    (N : News h₀ L s.heap ((x, instObj 94 dx) :: (dx, srcD w.params t1 t2 b tb i ti) :: (ba, baObj acc.toArray) :: rest)) (T : Top p loose mean mg mb h₀) (hk : cs.kind = .function)
    (hxd : @LT.lt Nat _ dx x) (hr : ∀ q ∈ (ba, baObj acc.toArray) :: rest, q.1 ≠ dx) (hxb : x ≠ ba) (hrb : ∀ q ∈ rest, q.1 ≠ ba) (hb : b.length ≤ 1000000) (hacc : acc.length ≤ i)
    (hd : dp + 12 < recursionLimit)
    (hret : ∀ o j, escF b i = some (o, j) → ∀ h' tk' ti', Fr h₀ L h' m → News h₀ L h' ((x, instObj 94 dx) :: (dx, srcD w.params t1 t2 b tb (j : Nat) ti') :: (ba, baObj (acc ++ o.toList).toArray) :: rest) → Q .none { s with heap := h', toks := tk' })
    (hexc : escF b i = none → ∀ e d tk₁ tk₂ tk' g h', Fr h₀ L g m → g.UpToSlots h' → FlyP base (envX cn cs L a ccd cl :: outer) e d (toldD w.params tk₁ (.bytes #[115, 121, 110, 116, 97, 120, 101, 114, 114, 111, 114] tk₂)) .none h' → E (.ref e) { s with heap := h', toks := tk' }) :
    wpC (model prog w) (ktrTop dp un gd cn cs L a ccd cl outer) (call (.ref 126) [.ref x, .ref ba]) Q E s := by
  refine wpC_call ?_
  k_dflt walk_at "my my_enterC"
  walk_at "my c_leaf"
  k_steps
  dsimp only
  walk_at "my c_leaf"
  cases hc : b[i]? with
  | none =>
    k_steps
    rename FlyP _ _ _ _ _ _ _ => Y1
    rename Heap.UpToSlots _ _ => U1
    rename Below _ _ (_ :: _) _ => B1
    rename Fr h₀ L _ m => FG1
    exact leave_more B1 (by assumption) Y1 U1 fun h'' x1 y1 => hexc (by unfold escF; rw [hc]) _ _ _ _ _ _ _ FG1 y1 x1
  | some c =>
    have hil := (List.getElem?_eq_some_iff.mp hc).1
    k_steps
    dsimp only
    walk_at "my c_if"
    k_steps
    · (with_reducible refine wpC_execs_cons ?_)
      (refine append_stmt (ba := ba) rfl rfl rfl rfl rfl ?_)
      k_steps
      rename News _ _ _ _ => N9
      refine ⟨rfl, ⟨_, (N9 _ (.tail _ (.tail _ (.tail _ (.head _))))).1⟩, ?_⟩
      dsimp only
      k_steps
      rename News _ _ _ _ => N9
      rename Fr _ _ _ _ => F9
      rename octF _ _ _ = _ => ho
      have hlt := octF_lt b (i + 1) c
      rw [ho] at hlt
      refine appV_news3 F9 N9 (by k_ne) hxb (hr _ (.head _)).symm hrb hlt (by omega) fun h' F10 N10 => ?_
      walk_at "my c_end"
      rename News h₀ L _ _ => N11
      rename (48 : Int) ≤ _ => hy
      rename _ ≤ (55 : Int) => hz
      exact hret (some _) _ (by unfold escF; rw [hc]; dsimp only; rw [if_pos (isOct_yes hy hz), ho]) _ _ _ (by k_asm) (fun q hq => N11 q (List.mem_cons_of_mem _ hq))
    · rename ¬ (48 ≤ _ ∧ _) => hn
      have hno : ¬ (isOct c = true) := by rw [isOct_no hn]; decide
      walk_at "my c_if"
      k_steps
      · rename (c.toNat : Int) = 13 => h13
        have h13' : c = 13 := UInt8.toNat_inj.mp (by show _ = 13; omega)
        walk_at "my c_leaf"
        k_steps
        walk_at "my c_end"
        rename News h₀ L _ _ => N11
        rename _ = skipF _ _ => hj
        subst hj
        exact hret none _ (by unfold escF; rw [hc]; dsimp only; rw [if_neg hno, if_pos h13']) _ _ _ (by k_asm) (fun q hq => by
          have := N11 q (List.mem_cons_of_mem _ (by simpa using hq)); exact this)
      · rename ¬ ((c.toNat : Int) = 13) => h13
        have h13' : ¬ (c = 13) := fun q => h13 (by rw [q]; rfl)
        walk_at "my c_if"
        k_steps
        · rename (c.toNat : Int) ≠ 10 => h10
          have h10' : ¬ (c = 10) := fun q => h10 (by rw [q]; rfl)
          (with_reducible refine wpC_execs_cons ?_)
          (refine append_stmt (ba := ba) rfl rfl rfl rfl rfl ?_)
          k_steps
          rename News _ _ _ _ => N9
          refine ⟨rfl, ⟨_, (N9 _ (.tail _ (.tail _ (.tail _ (.head _))))).1⟩, ?_⟩
          dsimp only
          k_steps
          all_goals (
            rename News _ _ _ _ => N10
            rename Fr _ _ _ _ => F10
            refine appV_mean (v := meanF c) F10 N10 (by k_ne) hxb (hr _ (.head _)).symm hrb (by rw [meanF_int]; (repeat' split) <;> omega) (by omega) fun h' F11 N11 => ?_
            walk_at "my c_end"
            rename News h₀ L _ _ => N12
            exact hret (some (meanF c)) _ (by unfold escF; rw [hc]; dsimp only; rw [if_neg hno, if_neg h13', if_neg h10']) _ _ _ (by k_asm) (fun q hq => N12 q (List.mem_cons_of_mem _ hq)))
        · rename (c.toNat : Int) = 10 => h10
          have h10' : c = 10 := UInt8.toNat_inj.mp (by show _ = 10; omega)
          walk_at "my c_end"
          rename News h₀ L _ _ => N11
          exact hret none _ (by unfold escF; rw [hc]; dsimp only; rw [if_neg hno, if_neg h13', if_pos h10']) _ _ _ (by k_asm) (fun q hq => by
            have := N11 q (List.mem_cons_of_mem _ (by simpa using hq)); exact this)
end
end Mine


/-! ## S2 -/
namespace Mine
open PySem.Calls
theorem fillS2 : (PySem.Challenge.rw_on0258_01 = PySem.Challenge.rw_on0258_01) ∧ MineHead.hd.heap_39 = MineHead.hd.heap_39 := by k_fill; exact ⟨rfl, rfl⟩

def scanF (b : List UInt8) : Nat → Nat → Nat → List UInt8 → Option (List UInt8 × Nat)
  | 0, _, _, _ => none
  | f + 1, i, depth, acc => if depth = 0 then some (acc, i) else match b[i]? with
    | none => none
    | some c => if c = 92 then (match escF b (i + 1) with | none => none | some (o, j) => scanF b f j depth (acc ++ o.toList))
      else if c = 13 then scanF b f (skipF b (i + 1)) depth (acc ++ [10])
      else if c = 40 then scanF b f (i + 1) (depth + 1) (acc ++ [40])
      else if c = 41 then scanF b f (i + 1) (depth - 1) (if depth - 1 = 0 then acc else acc ++ [41])
      else scanF b f (i + 1) depth (acc ++ [c])

theorem skipF_le {b : List UInt8} {i : Nat} (h : i ≤ b.length) : i ≤ skipF b i ∧ skipF b i ≤ b.length := by
  unfold skipF
  split
  · rename_i q
    have := (List.getElem?_eq_some_iff.mp q).1
    omega
  · omega
theorem octF_le {b : List UInt8} {i : Nat} {c : UInt8} (h : i ≤ b.length) : i ≤ (octF b i c).2 ∧ (octF b i c).2 ≤ b.length := by
  unfold octF
  split
  · exact ⟨Nat.le_refl _, h⟩
  · rename_i q
    have q1 := (List.getElem?_eq_some_iff.mp q).1
    split
    · split
      · dsimp only; omega
      · rename_i r
        have q2 := (List.getElem?_eq_some_iff.mp r).1
        split <;> dsimp only <;> omega
    · exact ⟨Nat.le_refl _, h⟩
theorem escF_le {b : List UInt8} {i : Nat} {o : Option UInt8} {j : Nat} (h : escF b i = some (o, j)) : i < j ∧ j ≤ b.length ∧ o.toList.length ≤ 1 := by
  have ho : o.toList.length ≤ 1 := by cases o <;> simp
  unfold escF at h
  split at h
  · cases h
  · rename_i c q
    have q1 := (List.getElem?_eq_some_iff.mp q).1
    split at h
    · injection h with h
      injection h with h1 h2
      have := octF_le (c := c) (show i + 1 ≤ b.length by omega)
      omega
    · split at h
      · injection h with h
        injection h with h1 h2
        have := skipF_le (show i + 1 ≤ b.length by omega)
        omega
      · split at h <;> (injection h with h; injection h with h1 h2; omega)

section
variable {α : Type} {M : Model} {A : Around} {E : Value → Shared → Prop} {s : Shared} {env : Env}
theorem wpC_spliced_cons {x : Sem Value} {rest : List (Bool × Sem Value)} {Q : List Value → Shared → Prop} (h : wpC M A x (fun v s₁ => wpAny M A (spliced rest) (fun vs s₂ => Q (v :: vs) s₂) E s₁) E s) : wpC M A (spliced ((false, x) :: rest)) Q E s := by
  rw [spliced]
  refine wpC_bind (wpC_mono h (fun v s₁ h₁ => ?_) fun _ _ x => x)
  simp only [Bool.false_eq_true, if_false]
  exact wpC_bind (wpC_pure (wpC_bind (wpC_holding (wpC_of (wpAny_mono h₁ (fun vs s₂ h₂ => wpC_pure h₂) fun _ _ x => x)))))

theorem wpC_Assign_Tuple {elts k tpos pos} {e₁ e₂ : PySem.Expr} {k' : Nat} {pos' : Pos} {names : List Str} {Q : Flow → Shared → Prop}
    (h : wpC M A (eval e₁ env) (fun v s₁ => wpAny M A (spliced (backTo pos' (starEach [e₂] env))) (fun vs s₂ => wpAny M A (newTuple (v :: vs)) (fun t s₃ => wpAny M A (unpackItems t names.length none) (fun items s₄ =>
      wpAny M A (assignInOrder (names.reverse.map fun n => bindName env n) items.reverse) (fun _ => Q .next) E s₄) E s₃) E s₂) E s₁) E s)
    (hs : swapsWithSole [.Tuple elts k tpos] (.Tuple [e₁, e₂] k' pos') pos.line env = pure false)
    (hw : swappedStores [.Tuple elts k tpos] (.Tuple [e₁, e₂] k' pos') env = pure (some names))
    (ht : backTo pos' (starEach [e₁, e₂] env) = [(false, eval e₁ env), (false, eval e₂ env)]) (ht2 : backTo pos' (starEach [e₂] env) = [(false, eval e₂ env)]) :
    wpC M A (exec (.Assign [.Tuple elts k tpos] (.Tuple [e₁, e₂] k' pos') pos) env) Q E s := by
  rw [ht2] at h
  rw [PyProof.Rows.exec_Assign]
  refine wpC_bind (wpC_standAt ?_)
  rw [hs]
  refine wpC_bind (wpC_pure ?_)
  rw [if_neg (by decide)]
  rw [arm_eval_Tuple, ht]
  refine wpC_bind (wpC_bind (wpC_standAt (wpC_bind (wpC_spliced_cons (wpC_mono h (fun v s₁ h₁ => wpAny_mono h₁ (fun vs s₂ h₂ => wpC_of (wpAny_mono h₂ (fun t s₃ h₃ => ?_) fun _ _ x => x)) fun _ _ x => x) fun _ _ x => x)))))
  rw [hw]
  refine wpC_bind (wpC_pure ?_)
  show wpC M A (do rule "assign.swapped-stores"; let items ← unpackItems t names.length none; assignInOrder (names.reverse.map fun n => bindName env n) items.reverse; pure .next) Q E s₃
  exact wpC_of (wpAny_bind (wpAny_rule (wpAny_bind (wpAny_mono h₃ (fun items s₂ h₂ => wpAny_bind (wpAny_mono h₂ (fun _ _ x => wpAny_pure x) fun _ _ x => x)) fun _ _ x => x))))

def BaK (Q : Value → Shared → Prop) (f : Value) (s₁ : Shared) : Prop :=
  f = .type "bytearray" ∧ ∀ h', h'.get? s₁.heap.objs.size = some (baObj #[]) → (∀ c o, s₁.heap.get? c = some o → h'.get? c = some o) → Q (.ref s₁.heap.objs.size) { s₁ with heap := h' }
theorem wpC_bytearray0 {x : Str} {p pos : Pos} {prog : Program} {w : World} {Q : Value → Shared → Prop}
    (h : wpAny (model prog w) A (eval (.Name x p) env) (BaK Q) E s) :
    wpC (model prog w) A (eval (.Call (.Name x p) [] [] pos) env) Q E s :=
  wpC_Call_Name (trees := []) rfl (wpAny_mono h (fun f s₁ h₁ => by obtain ⟨rfl, h₁⟩ := h₁; exact wpC_callWith_type0 (ba_call h₁)) fun _ _ x => x)
end

section
variable {M : Model} {A : Around} {E : Value → Shared → Prop} {s : Shared} {base g g₂ : Heap} {outer : List Env} {L a e D : Addr} {m : Str → Option Value} {name : Str} {scope : Scope} {cd : Value} {Q : Unit → Shared → Prop} {od : Obj}
theorem loop_err {K : Value → Shared → Prop} (B : Below A base outer g) (F : Fr g L g₂ m) (x : FlyP base (envOf name scope L a cd :: outer) e D od .none s.heap) (hsm : g₂.UpToSlots s.heap)
    (hQ : ∀ h', FlyP base outer e D od .none h' → g.UpToSlots h' → K (.ref e) { s with heap := h' }) :
    notedBy M (A.deeper (envOf name scope L a cd)) (envOf name scope L a cd) (fun e s' => cameBackBy M (A.deeper (envOf name scope L a cd)) (envOf name scope L a cd) (fun e s'' => wpAny M (A.deeper (envOf name scope L a cd)) (leaving (envOf name scope L a cd) e) (fun _ s₃ => K e s₃) (fun e' s₃ => K e' s₃) s'') e s') (.ref e) s := by
  refine note_next (Around.frames_deeper B.stack) rfl x fun h₁ x₁ u₁ => ?_
  refine came_back (s := { s with heap := h₁ }) rfl x₁ fun h₂ x₂ u₂ => ?_
  exact leave_held (s := { s with heap := h₂ }) rfl x₂ fun h₃ x₃ u₃ => hQ h₃ x₃ ((Heap.UpToSlots.of_keeps F.keep).trans (hsm.trans (u₁.trans (u₂.trans u₃))))
end

def ArgK (M : Model) (A : Around) (E : Value → Shared → Prop) (a : Addr) (Q : Value → Shared → Prop) (vs : List Value) (s₁ : Shared) : Prop :=
  (∃ o fd, s₁.heap.get? a = some o ∧ o.data = .func fd) ∧ wpC M A (call (.ref a) vs) Q E s₁
def FnK (M : Model) (A : Around) (E : Value → Shared → Prop) (env : Env) (pos : Pos) (args : List PySem.Expr) (a : Addr) (Q : Value → Shared → Prop) (f : Value) (s₁ : Shared) : Prop :=
  f = .ref a ∧ wpAny M A (spliced (backTo pos (starEach args env))) (ArgK M A E a Q) E s₁
theorem wpC_Call_fn {M : Model} {A : Around} {E : Value → Shared → Prop} {s : Shared} {env : Env} {x : Str} {p pos : Pos} {args : List PySem.Expr} {a : Addr} {y : Sem Value} {rest : List (Bool × Sem Value)} {Q : Value → Shared → Prop}
    (ht : backTo pos (starEach args env) = (false, y) :: rest) (hplain : rest.any (·.1) = false)
    (h : wpAny M A (eval (.Name x p) env) (FnK M A E env pos args a Q) E s) : wpC M A (eval (.Call (.Name x p) args [] pos) env) Q E s := by
  refine wpC_Call_Name ht (wpAny_mono h (fun f s₁ h₁ => ?_) fun _ _ x => x)
  obtain ⟨rfl, h₁⟩ := h₁
  rw [ht] at h₁
  have h2 : wpAny M A (evalArgs (.ref a) true ((false, y) :: rest) []) (fun (z : Args) s₁ => (∃ o fd, s₁.heap.get? a = some o ∧ o.data = .func fd) ∧ wpC M A (call (.ref a) ([] ++ z.pos) z.kw) Q E s₁) E s₁ := evalArgs_plain h₁
  unfold callWith
  refine wpC_leaf (wpAny_holding (wpAny_mono h2 (fun ar s₁ h₁ => wpC_leaf (wpAny_standAt ?_)) fun _ _ q => q))
  obtain ⟨⟨o, fd, ho, hd⟩, h₁⟩ := h₁
  have tail : ∀ {t : Sem Value}, wpC M A t Q E s₁ → wpC M A (t >>= fun r => holding [r] point >>= fun _ => pure r) Q E s₁ :=
    fun ht => wpC_bind (wpC_mono ht (fun r s₂ hr => wpC_leaf (wpAny_holding (wpAny_point (wpC_pure hr)))) fun _ _ x => x)
  have hs : (((false, y) :: rest).any (·.1) || ([] : List (Option Str × Sem Value)).any (·.1.isNone)) = false := by
    rw [List.any_cons, hplain]; rfl
  refine wpC_leaf (m := keeperOf (.ref a)) ?_
  unfold keeperOf
  refine wpAny_bind (wpAny_load ho ?_)
  rw [hd]
  refine wpAny_pure ?_
  rw [hs]
  dsimp only
  split
  · exact tail h₁
  · exact tail (by unfold callMarked; exact wpC_keep h₁)

def LoopQ (I : Nat → Shared → Prop) (n : Nat) (Q : Flow → Shared → Prop) (f : Flow) (s : Shared) : Prop :=
  match f with
  | .next | .cont => ∃ m, m < n ∧ I m s
  | .brk => Q .next s
  | .ret v => Q (.ret v) s

section
variable {prog : Program} {w : World} {A : Around} {E : Value → Shared → Prop} {s : Shared} {env : Env}
theorem wpC_loop {test : PySem.Expr} {body : List Stmt} {pos : Pos} {Q : Flow → Shared → Prop} (I : Nat → Shared → Prop) (Err : Env → Value → Shared → Prop)
    (turn : ∀ n s, I n s → wpC (model prog w) A (isTrue test env (eval test env)) (fun b s₂ => if b then wpC (model prog w) A (execs body env) (LoopQ I n Q) (Err env) s₂ else Q .next s₂) (Err env) s)
    (hErr : ∀ e s', Err env e s' → notedBy (model prog w) A env (fun e s' => cameBackBy (model prog w) A env E e s') e s') (n : Nat) (h : I n s) :
    wpC (model prog w) A (exec (.While test body [] pos) env) Q E s := by
  refine wpC_While (codeC_whileLoop I (fun n s hI => wpC_mono (turn n s hI) (fun b s₂ h₂ => ?_) hErr) n h)
  cases b with
  | false =>
    simp only [Bool.false_eq_true, if_false] at h₂ ⊢
    exact wpC_execs_nil h₂
  | true =>
    simp only [if_true] at h₂ ⊢
    refine wpC_mono h₂ (fun f s₃ h₃ => ?_) hErr
    cases f <;> exact h₃
end

def StrErr (w : World) (base : Heap) (l : List Env) (g : Heap) (L : Addr) (s₀ : Shared) (P : Prop) (e : Value) (s' : Shared) : Prop :=
  P ∧ ∃ e' d tk₁ tk₂ tk' g₂ m₂ h', e = .ref e' ∧ s' = { s₀ with heap := h', toks := tk' } ∧ Fr g L g₂ m₂ ∧ g₂.UpToSlots h' ∧ FlyP base l e' d (toldD w.params tk₁ (.bytes #[115, 121, 110, 116, 97, 120, 101, 114, 114, 111, 114] tk₂)) .none h'
end Mine


/-! ## S3 -/
namespace Mine
local macro_rules | `(tactic| walk_at "my blank 0") => `(tactic| skip)
open PySem.Calls
theorem fillS3 : (PySem.Challenge.rw_on0258_01 = PySem.Challenge.rw_on0258_01) ∧ MineHead.hd.heap_39 = MineHead.hd.heap_39 := by k_fill; exact ⟨rfl, rfl⟩
local macro_rules | `(tactic| k_all) => `(tactic| assumption)
local macro_rules | `(tactic| ktr_room) => `(tactic| ((try simp only [depth_under_make, depth_under_kw, depth_in1, depth_deeper, depth_caller]); (try dsimp only [ktrTop]); omega))
local macro_rules | `(tactic| walk_at "call ref") => `(tactic| (k_here; (try dsimp only [List.cons_append, List.nil_append, List.append_nil]); (with_reducible show wpAny _ _ (call (Value.ref 54) [Value.int _ _]) _ _ _); k_dflt (refine' is_octal_spec ?k1 ?k2 ?k3 ?k4 ?k5 ?k6 ?k10 ?_ ?_; (case k1 => k_asm); (case k2 => k_asm); (case k3 => k_asm); (case k4 => k_asm); (case k5 => k_asm); (case k6 => first | exact rfl | assumption); (case k10 => ktr_room)); (all_goals (first | (intro hy' hz' h' tk' F' N'; (try k_sweep)) | (intro hn' h' tk' F' N'; (try k_sweep))))))
local macro_rules | `(tactic| walk_at "my c_leaf") => `(tactic| ((with_reducible refine wpC_execs_cons ?_); (with_reducible refine wpC_of ?_)))
local macro_rules | `(tactic| walk_at "my c_end") => `(tactic| repeat ((try dsimp only); (with_reducible refine wpC_of ?_); k_steps))
local macro_rules | `(tactic| walk_at "my c_if") => `(tactic| ((with_reducible refine wpC_execs_cons ?_); (with_reducible refine wpC_If_leaf ?_)))
local macro_rules | `(tactic| walk_at "my my_enterD") => `(tactic| (refine' codeC_def ?k1 ?k2 ?k3 ?k4 ?k5 ?kA ?kF ?kK ?k6 ?k7 ?k8 ?k9 ?kB ?_ ?c2 ?c3 ?c4 ?c5; (case kA => exact rfl); (case kF => exact rfl); (case kK => assumption); (case k1 => k_asm); (case k2 => k_asm); (case k3 => k_asm); (case k4 => k_asm); (case k5 => k_asm); (case k6 => k_is); (case k7 => k_is); (case k8 => ktr_room); (case k9 => exact BindsTo.of_eq rfl); (case c5 => decide); (case kB => exact locs rfl); (case c2 => exact rfl); (case c3 => exact rfl); (case c4 => exact rfl); k_whole))

local macro_rules | `(tactic| walk_at "call ref") => `(tactic| (k_here; (try dsimp only [List.cons_append, List.nil_append, List.append_nil]); (with_reducible show wpAny _ _ (call (Value.ref 112) [Value.ref _]) _ _ _); k_dflt (refine' sure_spec ?k1 ?k2 ?k3 ?k4 ?k5 ?k6 ?k7 ?k8 ?k9 ?k10 ?k11 ?_; (case k11 => assumption); (case k1 => k_asm); (case k2 => k_asm); (case k3 => k_asm); (case k4 => k_asm); (case k5 => k_asm); (case k6 => first | exact rfl | assumption); (case k7 => assumption); (case k8 => k_all); (case k9 => assumption); (case k10 => ktr_room)); intro h' tk' u' ti' F' N'; (try k_sweep)))
local macro_rules | `(tactic| walk_at "call ref") => `(tactic| (k_here; (try dsimp only [List.cons_append, List.nil_append, List.append_nil]); (with_reducible show wpAny _ _ (call (Value.ref 119) [Value.ref _, Value.int _ _]) _ _ _); k_dflt (refine' octal_spec ?k1 ?k2 ?k3 ?k4 ?k5 ?k6 ?k7 ?k8 ?k9 ?k10 ?k11 ?k12 ?_; (case k1 => k_asm); (case k2 => k_asm); (case k3 => k_asm); (case k4 => k_asm); (case k5 => k_asm); (case k6 => first | exact rfl | assumption); (case k7 => assumption); (case k8 => k_all); (case k9 => assumption); (case k10 => ktr_room); (case k11 => omega); (case k12 => omega)); intro v' j' ho' h' tk' u' ti' F' N'; (try k_sweep)))
local macro_rules | `(tactic| walk_at "call ref") => `(tactic| (k_here; (try dsimp only [List.cons_append, List.nil_append, List.append_nil]); (with_reducible show wpAny _ _ (call (Value.ref 105) [Value.ref _]) _ _ _); k_dflt (refine' skip_spec ?k1 ?k2 ?k3 ?k4 ?k5 ?k6 ?k7 ?k8 ?k9 ?k10 ?_; (case k1 => k_asm); (case k2 => k_asm); (case k3 => k_asm); (case k4 => k_asm); (case k5 => k_asm); (case k6 => first | exact rfl | assumption); (case k7 => assumption); (case k8 => k_all); (case k9 => assumption); (case k10 => ktr_room)); intro j' hj' h' tk' ti' F' N'; (try k_sweep)))
local macro_rules | `(tactic| walk_at "call ref") => `(tactic| (k_here; (try dsimp only [List.cons_append, List.nil_append, List.append_nil]); (with_reducible show wpAny _ _ (call (Value.ref 112) [Value.ref _]) _ _ _); k_dflt (refine' sure_end ?k1 ?k2 ?k3 ?k4 ?k5 ?k6 ?k7 ?k8 ?k9 ?k10 ?k11 ?_; (case k11 => assumption); (case k1 => k_asm); (case k2 => k_asm); (case k3 => k_asm); (case k4 => k_asm); (case k5 => k_asm); (case k6 => first | exact rfl | assumption); (case k7 => assumption); (case k8 => k_all); (case k9 => assumption); (case k10 => ktr_room)); intro e' d' tk₁' tk₂' tk' g' h' FG' U' Y'))

theorem appV_u2 {h₀ : Heap} {s₂ : Shared} {L ba : Addr} {m : Str → Option Value} {p1 p2 : Addr × Obj} {rest : List (Addr × Obj)} {acc : List UInt8} {K : Shared → Prop} (v : UInt8) {k : Int} {u : Tok} (F : Fr h₀ L s₂.heap m) (N : News h₀ L s₂.heap (p1 :: p2 :: (ba, baObj acc.toArray) :: rest))
    (n1 : p1.1 ≠ ba) (n2 : p2.1 ≠ ba) (hr : ∀ q ∈ rest, q.1 ≠ ba) (hv : k = (v.toNat : Int)) (hz : acc.length ≤ 1000000)
    (hK : ∀ h', Fr h₀ L h' m → News h₀ L h' (p1 :: p2 :: (ba, baObj (acc ++ [v]).toArray) :: rest) → K { s₂ with heap := h' }) : AppV ba K (.int k u) s₂ := by
  subst hv
  have e : v.toNat.toUInt8 = v := by simp
  exact appV_news2 F N n1 n2 hr v.toNat_lt hz (by rw [e]; exact hK)

section
variable {prog : Program} {w : World} {p : Program} {loose : List Str} {mean : ExcName → Option Value} {mg mb : Str → Option Value} {dp un : Nat} {gd : Option (List Code)} {cn : Str} {cs : Scope} {a : Addr} {ccd : Value} {cl : List (Str × Addr)} {outer : List Env}
  {A₀ : Around} {base h₀ : Heap} {L : Addr} {m : Str → Option Value} {rest : List (Addr × Obj)} {s : Shared} {Q E : Value → Shared → Prop}

def StrInv (w : World) (g : Heap) (L' x dx ba : Addr) (b : List UInt8) (tb t1 t2 : Tok) (rest : List (Addr × Obj)) (res : Option (List UInt8 × Nat)) (s₀ : Shared) (f : Nat) (s₁ : Shared) : Prop :=
  ∃ (i depth : Nat) (D : Int) (acc : List UInt8) (h' : Heap) (tk' : Nat) (ti' u : Tok) (m' : Str → Option Value), s₁ = { s₀ with heap := h', toks := tk' } ∧ Fr g L' h' m' ∧ m' "source" = some (.ref x) ∧ m' "found" = some (.ref ba) ∧ m' "depth" = some (.int D u) ∧ D = (depth : Int) ∧
    News g L' h' ((x, instObj 94 dx) :: (dx, srcD w.params t1 t2 b tb i ti') :: (ba, baObj acc.toArray) :: rest) ∧ acc.length ≤ i ∧ i ≤ b.length ∧ b.length < i + f ∧ scanF b f i depth acc = res

theorem string_spec {x dx : Addr} {b : List UInt8} {tb t1 t2 ti : Tok} {i : Nat} (B : Below A₀ base outer h₀) (F : Fr h₀ L s.heap m) (X : (MineHead.hd.heap_39 w.params).In h₀)
    (N : News h₀ L s.heap ((x, instObj 94 dx) :: (dx, srcD w.params t1 t2 b tb i ti) :: rest)) (T : Top p loose mean mg mb h₀) (hk : cs.kind = .function)
    (hxd : @LT.lt Nat _ dx x) (hr : ∀ q ∈ rest, q.1 ≠ dx) (hb : b.length ≤ 1000000) (hi : i ≤ b.length)
    (hd : dp + 16 < recursionLimit)
    (hret : ∀ r j, scanF b (b.length + 1) i 1 [] = some (r, j) → ∀ h' tk' u ti', Fr h₀ L h' m → News h₀ L h' ((x, instObj 94 dx) :: (dx, srcD w.params t1 t2 b tb (j : Nat) ti') :: rest) → Q (.bytes r.toArray u) { s with heap := h', toks := tk' })
    (hexc : scanF b (b.length + 1) i 1 [] = none → ∀ e d tk₁ tk₂ tk' g h', Fr h₀ L g m → g.UpToSlots h' → FlyP base (envX cn cs L a ccd cl :: outer) e d (toldD w.params tk₁ (.bytes #[115, 121, 110, 116, 97, 120, 101, 114, 114, 111, 114] tk₂)) .none h' → E (.ref e) { s with heap := h', toks := tk' }) :
    wpC (model prog w) (ktrTop dp un gd cn cs L a ccd cl outer) (call (.ref 133) [.ref x]) Q E s := by
  refine wpC_call ?_
  k_dflt walk_at "my my_enterD"
  intro g L1 h1 FG1 F1 N1 B1 X1 T1
  (try dsimp only)
  (refine wpC_fold ?_; intro qc ec)
  with_reducible refine wpC_execs_cons ?_
  refine wpC_Assign_Tuple ?_ rfl rfl rfl rfl
  refine wpC_bytearray0 ?_
  k_steps
  rename Fr g L1 _ _ => F1
  rename News g L1 _ _ => N1
  refine ⟨rfl, fun h2 hD hkp => ?_⟩
  have N2 := news_pushed F1 N1 hkp hD rfl
  have F2 := F1.keeps hkp
  have hbn : ∀ q ∈ (x, instObj 94 dx) :: (dx, srcD w.params t1 t2 b tb i ti) :: rest, q.1 < _ := fun q hq => Heap.lt_size (N1 q hq).1
  dsimp only
  generalize hba : (Heap.objs _).size = ba at N2 hbn ⊢
  clear F1 N1 hD hkp hba
  have hxb : x ≠ ba := Nat.ne_of_lt (hbn _ (.head _))
  have hdb : dx ≠ ba := Nat.ne_of_lt (hbn _ (.tail _ (.head _)))
  have hrb : ∀ q ∈ rest, q.1 ≠ ba := fun q hq => Nat.ne_of_lt (hbn q (.tail _ (.tail _ hq)))
  have hr2 : ∀ (o : Obj), ∀ q ∈ (ba, o) :: rest, q.1 ≠ dx := fun o q hq => by
    rcases List.mem_cons.mp hq with rfl | hq
    · exact hdb.symm
    · exact hr q hq
  replace N2 : News _ _ _ ((x, instObj 94 dx) :: (dx, srcD w.params t1 t2 b tb i ti) :: (ba, baObj #[]) :: rest) := fun q hq => N2 q (by
    simp only [List.mem_cons] at hq ⊢
    rcases hq with h | h | h | h
    · exact .inr (.inl h)
    · exact .inr (.inr (.inl h))
    · exact .inl h
    · exact .inr (.inr (.inr h)))
  k_steps
  dsimp only
  rename Fr g L1 _ _ => F3
  rename News _ _ _ _ => N3
  replace N3 : News g L1 _ ((x, instObj 94 dx) :: (dx, srcD w.params t1 t2 b tb i ti) :: (ba, baObj #[]) :: rest) := fun q hq => N3 q (List.mem_cons_of_mem _ hq)
  with_reducible refine wpC_execs_cons ?_
  refine wpC_loop (StrInv w g L1 x dx ba b tb t1 t2 rest (scanF b (b.length + 1) i 1 []) s) (fun v => StrErr w base (v :: envX cn cs L a ccd cl :: outer) g L1 s (scanF b (b.length + 1) i 1 [] = none)) ?_ ?_ (b.length + 1) ?_
  · intro n s₁ hI
    obtain ⟨i', depth, D, acc, h', tk', ti', u, m', rfl, F4, hm1, hm2, hm3, hD, N4, ha, hi4, hf, hres⟩ := hI
    have F5 := Fr.known0 F4 hm1
    have F6 := Fr.known0 F5 (n := "found") (w := .ref ba) (by rw [if_neg (by decide)]; exact hm2)
    have F7 := Fr.known0 F6 (n := "depth") (w := .int D u) (by rw [if_neg (by decide), if_neg (by decide)]; exact hm3)
    clear F4 F5 F6 N3 F3
    obtain ⟨n, rfl⟩ : ∃ k, n = k + 1 := ⟨n - 1, by omega⟩
    have hr3 := hr2 (baObj acc.toArray)
    with_reducible refine wpC_of ?_
    k_steps
    · have hdz : ¬ (depth = 0) := by omega
      rw [scanF, if_neg hdz] at hres
      walk_at "my c_leaf"
      cases hc : b[i']? with
      | none =>
        rw [hc] at hres
        k_steps
        rename FlyP _ _ _ _ _ _ _ => Y1
        rename Heap.UpToSlots _ _ => U1
        exact ⟨hres.symm, _, _, _, _, _, _, _, _, rfl, rfl, by assumption, U1, Y1⟩
      | some c =>
        rw [hc] at hres
        dsimp only at hres
        have hil := (List.getElem?_eq_some_iff.mp hc).1
        k_steps
        dsimp only
        walk_at "my c_if"
        k_steps
        · rename (c.toNat : Int) = 92 => h92
          have h92' : c = 92 := UInt8.toNat_inj.mp (by show _ = 92; omega)
          rw [if_pos h92'] at hres
          with_reducible refine wpC_execs_cons ?_
          refine wpC_Expr (wpC_Call_fn (a := 126) rfl rfl ?_) rfl rfl
          k_steps
          refine ⟨rfl, ?_⟩
          k_steps
          refine ⟨⟨_, _, X1.keeps (Fr.keep (L := L1) (by assumption)) 126 _ rfl, rfl⟩, ?_⟩
          refine escape_spec B1 (by assumption) X1 (by assumption) T1 rfl hxd hr3 hxb hrb hb (by omega) (by ktr_room) ?_ ?_
          · intro o j ho h'' tk'' ti'' F8 N8
            rw [ho] at hres
            dsimp only at hres ⊢
            obtain ⟨e1, e2, e3⟩ := escF_le ho
            with_reducible refine wpC_of ?_
            k_steps
            exact ⟨n, Nat.lt_succ_self n, j, depth, D, acc ++ o.toList, _, _, _, _, _, rfl, F8, rfl, rfl, rfl, hD, N8, by rw [List.length_append]; omega, e2, by omega, hres⟩
          · intro ho e d tk₁ tk₂ tk'' g₂ h'' F8 U8 Y8
            rw [ho] at hres
            exact ⟨hres.symm, _, _, _, _, _, _, _, _, rfl, rfl, F8, U8, Y8⟩
        · rename ¬ ((c.toNat : Int) = 92) => h92
          have h92' : ¬ (c = 92) := fun q => h92 (by rw [q]; rfl)
          rw [if_neg h92'] at hres
          with_reducible refine wpC_execs_nil ?_
          dsimp only
          walk_at "my c_leaf"
          k_steps
          · rename (c.toNat : Int) = 13 => h13
            have h13' : c = 13 := UInt8.toNat_inj.mp (by show _ = 13; omega)
            rw [if_pos h13'] at hres
            rename _ = skipF _ _ => hj
            subst hj
            dsimp only
            walk_at "my c_leaf"
            k_steps
            dsimp only
            walk_at "my c_leaf"
            k_steps
            dsimp only
            walk_at "my c_if"
            k_steps
            (with_reducible refine wpC_execs_cons ?_)
            (refine append_stmt (ba := ba) rfl rfl rfl rfl rfl ?_)
            k_steps
            rename News _ _ _ _ => N9
            refine ⟨rfl, ⟨_, (N9 _ (.tail _ (.tail _ (.head _)))).1⟩, ?_⟩
            dsimp only
            k_steps
            rename News _ _ _ _ => N9
            rename Fr _ _ _ _ => F9
            refine appV_u2 10 F9 N9 hxb hdb hrb rfl (by omega) fun h' F11 N11 => ?_
            walk_at "my c_end"
            have sk := skipF_le (show i' + 1 ≤ b.length by omega)
            exact ⟨n, Nat.lt_succ_self n, skipF b (i' + 1), depth, D, acc ++ [10], _, _, _, _, _, rfl, F11, rfl, rfl, rfl, hD, N11, by rw [List.length_append]; simp only [List.length_cons, List.length_nil]; omega, sk.2, by omega, hres⟩
          · rename ¬ ((c.toNat : Int) = 13) => h13
            have h13' : ¬ (c = 13) := fun q => h13 (by rw [q]; rfl)
            rw [if_neg h13'] at hres
            dsimp only
            walk_at "my c_leaf"
            k_steps
            · rename (c.toNat : Int) = 40 => h40
              have h40' : c = 40 := UInt8.toNat_inj.mp (by show _ = 40; omega)
              rw [if_pos h40'] at hres
              dsimp only
              walk_at "my c_leaf"
              k_steps
              · rename (c.toNat : Int) = 41 => hq
                omega
              · dsimp only
                walk_at "my c_if"
                k_steps
                (with_reducible refine wpC_execs_cons ?_)
                (refine append_stmt (ba := ba) rfl rfl rfl rfl rfl ?_)
                k_steps
                rename News _ _ _ _ => N9
                refine ⟨rfl, ⟨_, (N9 _ (.tail _ (.tail _ (.head _)))).1⟩, ?_⟩
                dsimp only
                k_steps
                rename News _ _ _ _ => N9
                rename Fr _ _ _ _ => F9
                refine appV_u2 40 F9 N9 hxb hdb hrb h40 (by omega) fun h' F11 N11 => ?_
                walk_at "my c_end"
                exact ⟨n, Nat.lt_succ_self n, i' + 1, depth + 1, D + 1, acc ++ [40], _, _, _, _, _, rfl, F11, rfl, rfl, rfl, by omega, N11, by rw [List.length_append]; simp only [List.length_cons, List.length_nil]; omega, hil, by omega, hres⟩
            · rename ¬ ((c.toNat : Int) = 40) => h40
              have h40' : ¬ (c = 40) := fun q => h40 (by rw [q]; rfl)
              rw [if_neg h40'] at hres
              dsimp only
              walk_at "my c_leaf"
              k_steps
              · rename (c.toNat : Int) = 41 => h41
                have h41' : c = 41 := UInt8.toNat_inj.mp (by show _ = 41; omega)
                rw [if_pos h41'] at hres
                dsimp only
                walk_at "my c_if"
                k_steps
                · have hd1 : ¬ (depth - 1 = 0) := by omega
                  rw [if_neg hd1] at hres
                  (with_reducible refine wpC_execs_cons ?_)
                  (refine append_stmt (ba := ba) rfl rfl rfl rfl rfl ?_)
                  k_steps
                  rename News _ _ _ _ => N9
                  refine ⟨rfl, ⟨_, (N9 _ (.tail _ (.tail _ (.head _)))).1⟩, ?_⟩
                  dsimp only
                  k_steps
                  rename News _ _ _ _ => N9
                  rename Fr _ _ _ _ => F9
                  refine appV_u2 41 F9 N9 hxb hdb hrb h41 (by omega) fun h' F11 N11 => ?_
                  walk_at "my c_end"
                  exact ⟨n, Nat.lt_succ_self n, i' + 1, depth - 1, D - 1, acc ++ [41], _, _, _, _, _, rfl, F11, rfl, rfl, rfl, by omega, N11, by rw [List.length_append]; simp only [List.length_cons, List.length_nil]; omega, hil, by omega, hres⟩
                · have hd1 : depth - 1 = 0 := by omega
                  rw [if_pos hd1] at hres
                  walk_at "my c_end"
                  rename News g L1 _ _ => N11
                  rename Fr g L1 _ _ => F11
                  exact ⟨n, Nat.lt_succ_self n, i' + 1, depth - 1, D - 1, acc, _, _, _, _, _, rfl, F11, rfl, rfl, rfl, by omega, N11, by omega, hil, by omega, hres⟩
              · rename ¬ ((c.toNat : Int) = 41) => h41
                have h41' : ¬ (c = 41) := fun q => h41 (by rw [q]; rfl)
                rw [if_neg h41'] at hres
                dsimp only
                walk_at "my c_if"
                k_steps
                (with_reducible refine wpC_execs_cons ?_)
                (refine append_stmt (ba := ba) rfl rfl rfl rfl rfl ?_)
                k_steps
                rename News _ _ _ _ => N9
                refine ⟨rfl, ⟨_, (N9 _ (.tail _ (.tail _ (.head _)))).1⟩, ?_⟩
                dsimp only
                k_steps
                rename News _ _ _ _ => N9
                rename Fr _ _ _ _ => F9
                refine appV_u2 c F9 N9 hxb hdb hrb rfl (by omega) fun h' F11 N11 => ?_
                walk_at "my c_end"
                exact ⟨n, Nat.lt_succ_self n, i' + 1, depth, D, acc ++ [c], _, _, _, _, _, rfl, F11, rfl, rfl, rfl, hD, N11, by rw [List.length_append]; simp only [List.length_cons, List.length_nil]; omega, hil, by omega, hres⟩
    · have hdz : depth = 0 := by omega
      rw [scanF, if_pos hdz] at hres
      dsimp only
      with_reducible refine wpC_execs_cons ?_
      with_reducible refine wpC_of ?_
      k_steps
      rename Fr g L1 _ _ => F11
      refine ba_toBytes (N4 _ (.tail _ (.tail _ (.head _)))).1 (by rw [List.size_toArray, sizeLine_eq]; omega) fun t => ?_
      exact leaveK_ F11 N4 fun FL NL => hret acc i' hres.symm _ _ _ _ FL fun q hq => NL q (by
        simp only [List.mem_cons] at hq ⊢
        rcases hq with h | h | h
        · exact .inl h
        · exact .inr (.inl h)
        · exact .inr (.inr (.inr h)))
  · intro e s' he
    obtain ⟨hP, e', d, tk₁, tk₂, tk', g₂, m₂, h', rfl, rfl, F8, U8, Y8⟩ := he
    refine loop_err (s := { s with heap := h', toks := tk' }) (K := E) B1 F8 Y8 U8 ?_
    intro h'' x1 y1
    exact hexc hP _ _ _ _ _ _ _ FG1 y1 x1
  · refine ⟨i, 1, 1, [], _, _, _, _, _, rfl, F3, rfl, rfl, rfl, rfl, N3, Nat.zero_le _, hi, by omega, rfl⟩
end
end Mine


/-! ## P1 -/
namespace Mine

/-! the plain law: what the scanner makes of the grammar's texts -/
def Reach (b : List UInt8) (i d : Nat) (acc : List UInt8) (j d' : Nat) (acc' : List UInt8) : Prop :=
  ∀ f, b.length < i + f → ∃ f', b.length < j + f' ∧ scanF b f i d acc = scanF b f' j d' acc'

theorem Reach.refl {b : List UInt8} {i d : Nat} {acc : List UInt8} : Reach b i d acc i d acc := fun f hf => ⟨f, hf, rfl⟩
theorem Reach.trans {b : List UInt8} {i d j d' k d'' : Nat} {acc acc' acc'' : List UInt8} (h1 : Reach b i d acc j d' acc') (h2 : Reach b j d' acc' k d'' acc'') : Reach b i d acc k d'' acc'' := fun f hf => by
  obtain ⟨f', hf', e⟩ := h1 f hf
  obtain ⟨f'', hf'', e'⟩ := h2 f' hf'
  exact ⟨f'', hf'', e.trans e'⟩

section
variable {b : List UInt8} {i d : Nat} {acc : List UInt8} {c : UInt8}
theorem fuel_pos {f : Nat} (hc : b[i]? = some c) (hf : b.length < i + f) : ∃ k, f = k + 1 := by
  have := (List.getElem?_eq_some_iff.mp hc).1
  exact ⟨f - 1, by omega⟩
theorem reach_plain (hd : 0 < d) (hc : b[i]? = some c) (h1 : c ≠ 92) (h2 : c ≠ 13) (h3 : c ≠ 40) (h4 : c ≠ 41) : Reach b i d acc (i + 1) d (acc ++ [c]) := fun f hf => by
  obtain ⟨k, rfl⟩ := fuel_pos hc hf
  refine ⟨k, by omega, ?_⟩
  rw [scanF, if_neg (by omega), hc]
  dsimp only
  rw [if_neg h1, if_neg h2, if_neg h3, if_neg h4]
theorem reach_cr (hd : 0 < d) (hc : b[i]? = some 13) : Reach b i d acc (skipF b (i + 1)) d (acc ++ [10]) := fun f hf => by
  obtain ⟨k, rfl⟩ := fuel_pos hc hf
  have := (List.getElem?_eq_some_iff.mp hc).1
  have := (skipF_le (b := b) (i := i + 1) (by omega)).1
  refine ⟨k, by omega, ?_⟩
  rw [scanF, if_neg (by omega), hc]
  dsimp only
  rw [if_neg (by decide), if_pos rfl]
theorem reach_esc {o : Option UInt8} {j : Nat} (hd : 0 < d) (hc : b[i]? = some 92) (he : escF b (i + 1) = some (o, j)) : Reach b i d acc j d (acc ++ o.toList) := fun f hf => by
  obtain ⟨k, rfl⟩ := fuel_pos hc hf
  have := (escF_le he).1
  refine ⟨k, by omega, ?_⟩
  rw [scanF, if_neg (by omega), hc]
  dsimp only
  rw [if_pos rfl, he]
theorem reach_open (hd : 0 < d) (hc : b[i]? = some 40) : Reach b i d acc (i + 1) (d + 1) (acc ++ [40]) := fun f hf => by
  obtain ⟨k, rfl⟩ := fuel_pos hc hf
  refine ⟨k, by omega, ?_⟩
  rw [scanF, if_neg (by omega), hc]
  dsimp only
  rw [if_neg (by decide), if_neg (by decide), if_pos rfl]
theorem reach_close (hd : 0 < d) (hc : b[i]? = some 41) : Reach b i (d + 1) acc (i + 1) d (acc ++ [41]) := fun f hf => by
  obtain ⟨k, rfl⟩ := fuel_pos hc hf
  refine ⟨k, by omega, ?_⟩
  rw [scanF, if_neg (by omega), hc]
  dsimp only
  rw [if_neg (by decide), if_neg (by decide), if_neg (by decide), if_pos rfl, Nat.add_sub_cancel, if_neg (by omega)]
theorem scan_last {f : Nat} (hc : b[i]? = some 41) (hf : b.length < i + f) : scanF b (f + 1) i 1 acc = some (acc, i + 1) := by
  obtain ⟨k, rfl⟩ := fuel_pos hc hf
  rw [scanF, if_neg (by omega), hc]
  dsimp only
  rw [if_neg (by decide), if_neg (by decide), if_neg (by decide), if_pos rfl, Nat.sub_self, if_pos rfl, scanF, if_pos rfl]
end

/-- the pieces, as the program writes them -/
def pieces : List (List UInt8 × List UInt8) :=
  [([97, 56], [97, 56]), ([37, 32, 47, 60], [37, 32, 47, 60]), ([13], [10]), ([13, 10, 98], [10, 98]), ([92, 55, 55, 55], [255]), ([92, 52, 49, 50, 99], [10, 99]),
   ([92, 48], [0]), ([92, 49, 48, 49], [65]), ([92, 110], [10]), ([92, 114], [13]), ([92, 116], [9]), ([92, 98], [8]), ([92, 102], [12]), ([92, 92], [92]), ([92, 40], [40]), ([92, 41], [41]),
   ([92, 113], [113]), ([92, 57], [57]), ([92, 10, 100], [100]), ([92, 13, 10, 101], [101]), ([92, 13, 102], [102]), ([10], [10])]

/-- what may follow a text -/
def Good (told rest : List UInt8) : Prop := (∀ c, rest.head? = some c → isOct c = false) ∧ (told.getLast? = some 13 → rest.head? ≠ some 10)

section
variable {b rest : List UInt8} {i d : Nat} {acc : List UInt8}
theorem at_get {l : List UInt8} (h : b.drop i = l) (k : Nat) : b[i + k]? = l[k]? := by rw [← h, List.getElem?_drop]
theorem at_drop {l l' : List UInt8} (h : b.drop i = l ++ l') : b.drop (i + l.length) = l' := by rw [← List.drop_drop, h, List.drop_left]

theorem isOct_head (hg : ∀ c, rest.head? = some c → isOct c = false) {k : Nat} {c : UInt8} {p : List UInt8} (h : b.drop i = p ++ rest) (hk : k = p.length) (hc : b[i + k]? = some c) : isOct c = false := by
  subst hk
  rw [at_get h, List.getElem?_append_right (Nat.le_refl _), Nat.sub_self] at hc
  exact hg c (by rw [List.head?_eq_getElem?]; exact hc)

theorem piece_reach {p m : List UInt8} (hd : 0 < d) (hp : (p, m) ∈ pieces) (h : b.drop i = p ++ rest) (hg : Good p rest) : Reach b i d acc (i + p.length) d (acc ++ m) := by
  obtain ⟨g1, g2⟩ := hg
  have e := at_get h
  have e0 : b[i]? = (p ++ rest)[0]? := e 0
  have e1 := e 1
  have e2 := e 2
  have e3 := e 3
  have e4 := e 4
  simp only [pieces, List.mem_cons, List.not_mem_nil, or_false, Prod.mk.injEq] at hp
  rcases hp with ⟨rfl, rfl⟩ | ⟨rfl, rfl⟩ | ⟨rfl, rfl⟩ | ⟨rfl, rfl⟩ | ⟨rfl, rfl⟩ | ⟨rfl, rfl⟩ | ⟨rfl, rfl⟩ | ⟨rfl, rfl⟩ | ⟨rfl, rfl⟩ | ⟨rfl, rfl⟩ | ⟨rfl, rfl⟩ | ⟨rfl, rfl⟩ | ⟨rfl, rfl⟩ | ⟨rfl, rfl⟩ | ⟨rfl, rfl⟩ | ⟨rfl, rfl⟩ | ⟨rfl, rfl⟩ | ⟨rfl, rfl⟩ | ⟨rfl, rfl⟩ | ⟨rfl, rfl⟩ | ⟨rfl, rfl⟩ | ⟨rfl, rfl⟩
  · -- a8
    exact (reach_plain (c := 97) hd e0 (by decide) (by decide) (by decide) (by decide)).trans (by
      rw [show acc ++ [97, 56] = acc ++ [97] ++ [56] from by simp]
      exact reach_plain hd e1 (by decide) (by decide) (by decide) (by decide))
  · rw [show acc ++ [37, 32, 47, 60] = acc ++ [37] ++ [32] ++ [47] ++ [60] from by simp]
    exact (((reach_plain (c := 37) hd e0 (by decide) (by decide) (by decide) (by decide)).trans
      (reach_plain hd e1 (by decide) (by decide) (by decide) (by decide))).trans (reach_plain hd e2 (by decide) (by decide) (by decide) (by decide))).trans (reach_plain hd e3 (by decide) (by decide) (by decide) (by decide))
  · have hs : skipF b (i + 1) = i + 1 := by
      unfold skipF
      refine if_neg fun q => g2 rfl ?_
      rw [e1] at q
      rw [List.head?_eq_getElem?]; simpa using q
    have := reach_cr (acc := acc) hd e0
    rw [hs] at this
    exact this
  · have hs : skipF b (i + 1) = i + 1 + 1 := by unfold skipF; exact if_pos (by rw [e1]; rfl)
    have r := reach_cr (acc := acc) hd e0
    rw [hs] at r
    rw [show acc ++ [10, 98] = acc ++ [10] ++ [98] from by simp]
    exact r.trans (reach_plain hd e2 (by decide) (by decide) (by decide) (by decide))
  · have he : escF b (i + 1) = some (some 255, i + 1 + 1 + 1 + 1) := by
      unfold escF octF
      rw [e1]
      dsimp only [List.cons_append, List.getElem?_cons_succ, List.getElem?_cons_zero]
      rw [if_pos (by decide), show i + 1 + 1 = i + 2 from rfl, e2]
      dsimp only [List.cons_append, List.getElem?_cons_succ, List.getElem?_cons_zero]
      rw [if_pos (by decide), show i + 2 + 1 = i + 3 from rfl, e3]
      dsimp only [List.cons_append, List.getElem?_cons_succ, List.getElem?_cons_zero]
      rw [if_pos (by decide)]
      rfl
    exact reach_esc hd e0 he
  · have he : escF b (i + 1) = some (some 10, i + 1 + 1 + 1 + 1) := by
      unfold escF octF
      rw [e1]
      dsimp only [List.cons_append, List.getElem?_cons_succ, List.getElem?_cons_zero]
      rw [if_pos (by decide), show i + 1 + 1 = i + 2 from rfl, e2]
      dsimp only [List.cons_append, List.getElem?_cons_succ, List.getElem?_cons_zero]
      rw [if_pos (by decide), show i + 2 + 1 = i + 3 from rfl, e3]
      dsimp only [List.cons_append, List.getElem?_cons_succ, List.getElem?_cons_zero]
      rw [if_pos (by decide)]
      rfl
    rw [show acc ++ [10, 99] = acc ++ [10] ++ [99] from by simp]
    exact (reach_esc hd e0 he).trans (reach_plain hd e4 (by decide) (by decide) (by decide) (by decide))
  · have he : escF b (i + 1) = some (some 0, i + 1 + 1) := by
      unfold escF octF
      rw [e1]
      dsimp only [List.cons_append, List.getElem?_cons_succ, List.getElem?_cons_zero]
      rw [if_pos (by decide)]
      cases q : b[i + 1 + 1]? with
      | none => rfl
      | some c =>
        have := isOct_head g1 h (k := 2) rfl q
        dsimp only
        rw [if_neg (by rw [this]; decide)]
        rfl
    exact reach_esc hd e0 he
  · have he : escF b (i + 1) = some (some 65, i + 1 + 1 + 1 + 1) := by
      unfold escF octF
      rw [e1]
      dsimp only [List.cons_append, List.getElem?_cons_succ, List.getElem?_cons_zero]
      rw [if_pos (by decide), show i + 1 + 1 = i + 2 from rfl, e2]
      dsimp only [List.cons_append, List.getElem?_cons_succ, List.getElem?_cons_zero]
      rw [if_pos (by decide), show i + 2 + 1 = i + 3 from rfl, e3]
      dsimp only [List.cons_append, List.getElem?_cons_succ, List.getElem?_cons_zero]
      rw [if_pos (by decide)]
      rfl
    exact reach_esc hd e0 he
  all_goals try (
    refine reach_esc (o := some _) hd e0 ?_
    unfold escF
    rw [e1]
    rfl)
  · -- backslash, line feed
    have he : escF b (i + 1) = some (none, i + 1 + 1) := by unfold escF; rw [e1]; rfl
    have r := reach_esc (acc := acc) hd e0 he
    exact Reach.trans r (by
      have := reach_plain (acc := acc ++ Option.toList none) hd e2 (by decide) (by decide) (by decide) (by decide)
      simpa using this)
  · have he : escF b (i + 1) = some (none, i + 1 + 1 + 1) := by
      unfold escF; rw [e1]
      show some (none, skipF b (i + 2)) = _
      unfold skipF
      rw [if_pos (by rw [e2]; rfl)]
    have r := reach_esc (acc := acc) hd e0 he
    exact Reach.trans r (by
      have := reach_plain (acc := acc ++ Option.toList none) hd e3 (by decide) (by decide) (by decide) (by decide)
      simpa using this)
  · have he : escF b (i + 1) = some (none, i + 1 + 1) := by
      unfold escF; rw [e1]
      show some (none, skipF b (i + 2)) = _
      unfold skipF
      rw [if_neg (by rw [e2]; exact fun q => absurd (Option.some.inj (q : some (102 : UInt8) = some 10)) (by decide))]
    have r := reach_esc (acc := acc) hd e0 he
    exact Reach.trans r (by
      have := reach_plain (acc := acc ++ Option.toList none) hd e2 (by decide) (by decide) (by decide) (by decide)
      simpa using this)
  · exact reach_plain hd e0 (by decide) (by decide) (by decide) (by decide)
end

/-- the grammar: what _law_parts makes -/
inductive Parts : Nat → Nat → List UInt8 → List UInt8 → Prop
  | nil (d : Nat) : Parts d 0 [] []
  | piece {d n : Nat} {told meant p m : List UInt8} : Parts d n told meant → (p, m) ∈ pieces → ¬ (told.getLast? = some 13 ∧ p.head? = some 10) → Parts d (n + 1) (told ++ p) (meant ++ m)
  | g {d n : Nat} {told meant : List UInt8} : Parts d n told meant → Parts d (n + 1) (told ++ [103]) (meant ++ [103])
  | deep {d n k : Nat} {told meant ti mi : List UInt8} : Parts (d + 1) n told meant → k ≤ 3 → Parts d k ti mi → Parts (d + 1) (n + 1) (told ++ ([40] ++ ti ++ [41])) (meant ++ ([40] ++ mi ++ [41]))
  | flat {n : Nat} {told meant : List UInt8} : Parts 0 n told meant → Parts 0 (n + 1) (told ++ [40, 41]) (meant ++ [40, 41])

def partMax : Nat → Nat
  | 0 => 5
  | d + 1 => 2 + 3 * partMax d
theorem partMax_ge (d : Nat) : 5 ≤ partMax d := by
  induction d with
  | zero => exact Nat.le_refl _
  | succ d ih => unfold partMax; omega
theorem pieces_small : ∀ q ∈ pieces, q.1.length ≤ 5 ∧ q.2.length ≤ 5 := by decide
theorem Parts.small {d n : Nat} {told meant : List UInt8} (h : Parts d n told meant) : told.length ≤ n * partMax d ∧ meant.length ≤ n * partMax d := by
  induction h with
  | nil d => simp
  | @piece d n _ _ _ _ _ hp _ ih =>
    have := pieces_small _ hp
    have g := partMax_ge d
    simp only [List.length_append, Nat.succ_mul]
    dsimp only at this
    omega
  | @g d n _ _ _ ih =>
    have g := partMax_ge d
    simp only [List.length_append, List.length_cons, List.length_nil, Nat.succ_mul]
    omega
  | @deep d n k _ _ _ _ _ hk _ ih1 ih2 =>
    have : k * partMax d ≤ 3 * partMax d := Nat.mul_le_mul_right _ hk
    simp only [List.length_append, List.length_cons, List.length_nil, Nat.succ_mul]
    have e : partMax (d + 1) = 2 + 3 * partMax d := rfl
    omega
  | @flat n _ _ _ ih =>
    have e : partMax 0 = 5 := rfl
    simp only [List.length_append, List.length_cons, List.length_nil, Nat.succ_mul]
    omega

theorem pieces_head : ∀ q ∈ pieces, ∃ c l, q.1 = c :: l ∧ isOct c = false := by
  intro q hq
  simp only [pieces, List.mem_cons, List.not_mem_nil, or_false] at hq
  rcases hq with rfl | rfl | rfl | rfl | rfl | rfl | rfl | rfl | rfl | rfl | rfl | rfl | rfl | rfl | rfl | rfl | rfl | rfl | rfl | rfl | rfl | rfl <;> exact ⟨_, _, rfl, by decide⟩

theorem getLast_append_cons {a : List UInt8} {c : UInt8} {l : List UInt8} : (a ++ c :: l).getLast? = (c :: l).getLast? := by simp [List.getLast?_append, List.getLast?_cons]

theorem Parts.reach {dd n : Nat} {told meant : List UInt8} (h : Parts dd n told meant) : ∀ {b rest : List UInt8} {i d : Nat} {acc : List UInt8}, 0 < d → b.drop i = told ++ rest → Good told rest → Reach b i d acc (i + told.length) d (acc ++ meant) := by
  induction h with
  | nil d => intro b rest i d acc hd h hg; simpa using Reach.refl
  | @piece dd n told meant p m _ hp hn ih =>
    intro b rest i d acc hd h hg
    obtain ⟨c, l, hc, ho⟩ := pieces_head _ hp
    dsimp only at hc
    subst hc
    rw [List.append_assoc] at h
    have r1 := ih (b := b) (rest := c :: l ++ rest) (acc := acc) hd h ⟨fun c' hc' => by cases hc'; exact ho, fun h13 h10 => hn ⟨h13, h10⟩⟩
    have r2 := piece_reach (b := b) (rest := rest) (acc := acc ++ meant) hd hp (at_drop h) ⟨hg.1, fun q => hg.2 (by rw [getLast_append_cons]; exact q)⟩
    rw [List.length_append, ← Nat.add_assoc, ← List.append_assoc]
    exact r1.trans r2
  | @g dd n told meant _ ih =>
    intro b rest i d acc hd h hg
    rw [List.append_assoc] at h
    have r1 := ih (b := b) (rest := [103] ++ rest) (acc := acc) hd h ⟨fun c' hc' => by cases hc'; decide, fun _ h10 => by cases h10⟩
    have e0 : b[i + told.length]? = some 103 := at_get (at_drop h) 0
    rw [List.length_append, ← Nat.add_assoc, ← List.append_assoc]
    exact r1.trans (reach_plain hd e0 (by decide) (by decide) (by decide) (by decide))
  | @deep dd n k told meant ti mi _ _ _ ih1 ih2 =>
    intro b rest i d acc hd h hg
    rw [List.append_assoc] at h
    have r1 := ih1 (b := b) (rest := [40] ++ ti ++ [41] ++ rest) (acc := acc) hd h ⟨fun c' hc' => by cases hc'; decide, fun _ h10 => by cases h10⟩
    have h1 := at_drop h
    have e0 : b[i + told.length]? = some 40 := at_get h1 0
    rw [List.append_assoc, List.append_assoc] at h1
    have h2 := at_drop h1
    have r2 := reach_open (acc := acc ++ meant) hd e0
    have r3 := ih2 (b := b) (rest := [41] ++ rest) (acc := acc ++ meant ++ [40]) (d := d + 1) (by omega) h2 ⟨fun c' hc' => by cases hc'; decide, fun _ h10 => by cases h10⟩
    have h3 := at_drop h2
    have e3 : b[i + told.length + [40].length + ti.length]? = some 41 := at_get h3 0
    have r4 := reach_close (acc := acc ++ meant ++ [40] ++ mi) hd e3
    have r := ((r1.trans r2).trans r3).trans r4
    simp only [List.length_append, List.length_cons, List.length_nil, ← Nat.add_assoc, List.append_assoc] at r ⊢
    exact r
  | @flat n told meant _ ih =>
    intro b rest i d acc hd h hg
    rw [List.append_assoc] at h
    have r1 := ih (b := b) (rest := [40, 41] ++ rest) (acc := acc) hd h ⟨fun c' hc' => by cases hc'; decide, fun _ h10 => by cases h10⟩
    have h1 := at_drop h
    have e0 : b[i + told.length]? = some 40 := at_get h1 0
    have e1 : b[i + told.length + 1]? = some 41 := at_get h1 1
    have r := (r1.trans (reach_open (acc := acc ++ meant) hd e0)).trans (reach_close hd e1)
    simp only [List.length_append, List.length_cons, List.length_nil, ← Nat.add_assoc, List.append_assoc] at r ⊢
    exact r

/-- the whole text, whatever stands behind -/
theorem scan_whole {dd n : Nat} {told meant behind : List UInt8} (h : Parts dd n told meant) :
    scanF ([40] ++ told ++ [41] ++ behind) (([40] ++ told ++ [41] ++ behind).length + 1) 1 1 [] = some (meant, ([40] ++ told ++ [41]).length) := by
  generalize hb : [40] ++ told ++ [41] ++ behind = b
  have h1 : b.drop 1 = told ++ ([41] ++ behind) := by rw [← hb]; simp
  obtain ⟨f', hf', e⟩ := h.reach (b := b) (rest := [41] ++ behind) (i := 1) (d := 1) (acc := []) (by omega) h1 ⟨fun c' hc' => by cases hc'; decide, fun _ h10 => by cases h10⟩ b.length (by omega)
  obtain ⟨f2, hf2, e2⟩ := h.reach (b := b) (rest := [41] ++ behind) (i := 1) (d := 1) (acc := []) (by omega) h1 ⟨fun c' hc' => by cases hc'; decide, fun _ h10 => by cases h10⟩ (b.length + 1) (by omega)
  rw [e2]
  have hc : b[1 + told.length]? = some 41 := at_get (at_drop h1) 0
  have hlt := (List.getElem?_eq_some_iff.mp hc).1
  obtain ⟨k, rfl⟩ : ∃ k, f2 = k + 1 := ⟨f2 - 1, by omega⟩
  rcases Nat.lt_or_ge b.length (1 + told.length + k) with hk | hk
  · rw [scan_last hc hk]
    simp [Nat.add_comm, Nat.add_left_comm]
  · -- the fuel just suffices
    have hk1 : ∃ k', k = k' + 1 := ⟨k - 1, by omega⟩
    obtain ⟨k', rfl⟩ := hk1
    rw [scanF, if_neg (by omega), hc]
    dsimp only
    rw [if_neg (by decide), if_neg (by decide), if_neg (by decide), if_pos rfl, Nat.sub_self, if_pos rfl, scanF, if_pos rfl]
    simp [Nat.add_comm, Nat.add_left_comm]

/-! a text cut short -/
theorem scanF_le {b : List UInt8} : ∀ (f i d : Nat) (acc : List UInt8) {r : List UInt8} {j : Nat}, i ≤ b.length → scanF b f i d acc = some (r, j) → j ≤ b.length := by
  intro f
  induction f with
  | zero => intro i d acc r j _ h; cases h
  | succ f ih =>
    intro i d acc r j hi h
    rw [scanF] at h
    split at h
    · cases h; exact hi
    · cases hc : b[i]? with
      | none => rw [hc] at h; cases h
      | some c =>
        have hlt := (List.getElem?_eq_some_iff.mp hc).1
        rw [hc] at h
        dsimp only at h
        split at h
        · cases he : escF b (i + 1) with
          | none => rw [he] at h; cases h
          | some q =>
            obtain ⟨o, j'⟩ := q
            rw [he] at h
            exact ih _ _ _ (escF_le he).2.1 h
        · split at h
          · exact ih _ _ _ (skipF_le hlt).2 h
          · split at h
            · exact ih _ _ _ hlt h
            · split at h
              · exact ih _ _ _ hlt h
              · exact ih _ _ _ hlt h

theorem scanF_end {b : List UInt8} {f d : Nat} {acc : List UInt8} {r : List UInt8 × Nat} (hd : 0 < d) : scanF b f b.length d acc ≠ some r := by
  cases f with
  | zero => intro h; cases h
  | succ f => rw [scanF, if_neg (by omega), List.getElem?_eq_none (Nat.le_refl _)]; intro h; cases h

theorem take_get {b : List UInt8} {n i : Nat} {c : UInt8} (h : (b.take n)[i]? = some c) : b[i]? = some c := by
  rw [List.getElem?_take] at h
  split at h
  · exact h
  · cases h

theorem skip_cut {b : List UInt8} {n i : Nat} (hi : i ≤ (b.take n).length) : skipF (b.take n) i = skipF b i ∨ skipF (b.take n) i = (b.take n).length := by
  by_cases he : i = (b.take n).length
  · right
    unfold skipF
    rw [if_neg (by rw [List.getElem?_eq_none (by omega)]; intro q; cases q)]
    exact he
  · left
    have hlt : i < (b.take n).length := by omega
    obtain ⟨c, hc⟩ : ∃ c, (b.take n)[i]? = some c := ⟨_, List.getElem?_eq_getElem hlt⟩
    unfold skipF
    rw [hc, take_get hc]
theorem oct_cut {b : List UInt8} {n i : Nat} {c : UInt8} (hi : i ≤ (b.take n).length) : octF (b.take n) i c = octF b i c ∨ (octF (b.take n) i c).2 = (b.take n).length := by
  cases hd : (b.take n)[i]? with
  | none =>
    right
    rw [octF_0 (List.getElem?_eq_none_iff.mp hd)]
    have := List.getElem?_eq_none_iff.mp hd
    show i = _
    omega
  | some d =>
    have hd' := take_get hd
    cases ho : isOct d with
    | false => left; rw [octF_n hd ho, octF_n hd' ho]
    | true =>
      have hlt := (List.getElem?_eq_some_iff.mp hd).1
      cases he : (b.take n)[i + 1]? with
      | none =>
        right
        have := List.getElem?_eq_none_iff.mp he
        rw [octF_10 hd ho this]
        show i + 1 = _
        omega
      | some e =>
        have he' := take_get he
        left
        cases ho' : isOct e with
        | false => rw [octF_1n hd ho he ho', octF_1n hd' ho he' ho']
        | true => rw [octF_2 hd ho he ho', octF_2 hd' ho he' ho']
theorem esc_cut {b : List UInt8} {n i : Nat} {o : Option UInt8} {j : Nat} (h : escF (b.take n) i = some (o, j)) : escF b i = some (o, j) ∨ j = (b.take n).length := by
  unfold escF at h
  cases hc : (b.take n)[i]? with
  | none => rw [hc] at h; cases h
  | some c =>
    have hc' := take_get hc
    have hlt := (List.getElem?_eq_some_iff.mp hc).1
    rw [hc] at h
    dsimp only at h
    split at h
    · rename_i ho
      rcases oct_cut (b := b) (n := n) (i := i + 1) (c := c) hlt with q | q
      · left
        rw [q] at h
        unfold escF
        rw [hc']
        dsimp only
        rw [if_pos ho]
        exact h
      · right
        injection h with h
        injection h with h1 h2
        rw [← h2]; exact q
    · rename_i ho
      split at h
      · rename_i h13
        rcases skip_cut (b := b) (n := n) (i := i + 1) hlt with q | q
        · left
          rw [q] at h
          unfold escF
          rw [hc']
          dsimp only
          rw [if_neg ho, if_pos h13]
          exact h
        · right
          injection h with h
          injection h with h1 h2
          rw [← h2]; exact q
      · rename_i h13
        left
        unfold escF
        rw [hc']
        dsimp only
        rw [if_neg ho, if_neg h13]
        exact h

theorem scan_cut {b : List UInt8} {n : Nat} : ∀ (f i d : Nat) (acc : List UInt8) {r : List UInt8 × Nat}, i ≤ (b.take n).length → 0 < d → scanF (b.take n) f i d acc = some r → scanF b f i d acc = some r := by
  intro f
  induction f with
  | zero => intro i d acc r _ _ h; cases h
  | succ f ih =>
    intro i d acc r hi hd h
    rw [scanF, if_neg (by omega)] at h ⊢
    cases hc : (b.take n)[i]? with
    | none => rw [hc] at h; cases h
    | some c =>
      have hc' := take_get hc
      have hlt := (List.getElem?_eq_some_iff.mp hc).1
      rw [hc] at h
      rw [hc']
      dsimp only at h ⊢
      split at h
      · rename_i h92
        rw [if_pos h92]
        cases he : escF (b.take n) (i + 1) with
        | none => rw [he] at h; cases h
        | some q =>
          obtain ⟨o, j'⟩ := q
          rw [he] at h
          dsimp only at h
          rcases esc_cut he with q | q
          · rw [q]
            exact ih _ _ _ (escF_le he).2.1 hd h
          · rw [q] at h
            exact absurd h (scanF_end hd)
      · rename_i h92
        rw [if_neg h92]
        split at h
        · rename_i h13
          rw [if_pos h13]
          rcases skip_cut (b := b) (n := n) (i := i + 1) hlt with q | q
          · rw [q] at h
            exact ih _ _ _ (q ▸ (skipF_le hlt).2) hd h
          · rw [q] at h
            exact absurd h (scanF_end hd)
        · rename_i h13
          rw [if_neg h13]
          split at h
          · rename_i h40
            rw [if_pos h40]
            exact ih _ _ _ hlt (by omega) h
          · rename_i h40
            rw [if_neg h40]
            split at h
            · rename_i h41
              rw [if_pos h41]
              rcases Nat.eq_zero_or_pos (d - 1) with hz | hz
              · rw [if_pos hz] at h ⊢
                rw [hz] at h ⊢
                cases f with
                | zero => cases h
                | succ f =>
                  rw [scanF, if_pos rfl] at h ⊢
                  exact h
              · rw [if_neg (by omega)] at h ⊢
                exact ih _ _ _ hlt hz h
            · rename_i h41
              rw [if_neg h41]
              exact ih _ _ _ hlt hd h

theorem scanF_more {b : List UInt8} : ∀ (f i d : Nat) (acc : List UInt8) {r : List UInt8 × Nat} (k : Nat), scanF b f i d acc = some r → scanF b (f + k) i d acc = some r := by
  intro f
  induction f with
  | zero => intro i d acc r k h; cases h
  | succ f ih =>
    intro i d acc r k h
    rw [show f + 1 + k = f + k + 1 from by omega]
    rw [scanF] at h ⊢
    split at h
    · rename_i hd; rw [if_pos hd]; exact h
    · rename_i hd
      rw [if_neg hd]
      cases hc : b[i]? with
      | none => rw [hc] at h; cases h
      | some c =>
        rw [hc] at h
        dsimp only at h ⊢
        split at h
        · rename_i q
          rw [if_pos q]
          cases he : escF b (i + 1) with
          | none => rw [he] at h; cases h
          | some q =>
            rw [he] at h
            exact ih _ _ _ _ h
        · rename_i q
          rw [if_neg q]
          split at h
          · rename_i q; rw [if_pos q]; exact ih _ _ _ _ h
          · rename_i q
            rw [if_neg q]
            split at h
            · rename_i q; rw [if_pos q]; exact ih _ _ _ _ h
            · rename_i q
              rw [if_neg q]
              split at h
              · rename_i q; rw [if_pos q]; exact ih _ _ _ _ h
              · rename_i q; rw [if_neg q]; exact ih _ _ _ _ h

/-- the text cut short ends in nothing -/
theorem scan_short {dd n : Nat} {told meant : List UInt8} (h : Parts dd n told meant) {k : Nat} (h1 : 1 ≤ k) (h2 : k < ([40] ++ told ++ [41]).length) :
    scanF (([40] ++ told ++ [41]).take k) ((([40] ++ told ++ [41]).take k).length + 1) 1 1 [] = none := by
  cases hq : scanF (([40] ++ told ++ [41]).take k) ((([40] ++ told ++ [41]).take k).length + 1) 1 1 [] with
  | none => rfl
  | some r =>
    obtain ⟨r, j⟩ := r
    have hl : (([40] ++ told ++ [41]).take k).length = k := by rw [List.length_take]; omega
    have hj := scanF_le _ _ _ _ (by omega) hq
    have hw := scan_whole (behind := []) h
    rw [List.append_nil] at hw
    have hs := scan_cut _ _ _ _ (by omega) (by omega) hq
    rw [hl] at hs hj
    have := scanF_more _ _ _ _ (([40] ++ told ++ [41]).length - k) hs
    have e : k + 1 + (([40] ++ told ++ [41] : List UInt8).length - k) = ([40] ++ told ++ [41] : List UInt8).length + 1 := by omega
    rw [e, hw] at this
    injection this with this
    injection this with t1 t2
    omega
end Mine


/-! ## T0 -/
namespace Mine
open PySem.Calls
theorem fillT0 : (PySem.Challenge.rw_on0258_01 = PySem.Challenge.rw_on0258_01) ∧ MineHead.hd.heap_39 = MineHead.hd.heap_39 := by k_fill; exact ⟨rfl, rfl⟩
local macro_rules | `(tactic| k_all) => `(tactic| assumption)
local macro_rules | `(tactic| ktr_room) => `(tactic| ((try simp only [depth_under_make, depth_under_kw, depth_in1, depth_deeper, depth_caller]); (try dsimp only [ktrTop]); omega))
def Stop (P : Prop) : Prop := P
theorem stop_of {P : Prop} (h : Stop P) : P := h
local macro_rules | `(tactic| walk_at "eval List") => `(tactic| (k_here; refine stop_of ?_))

def PieceAt (h₀ : Heap) (L : Addr) (h' : Heap) (rest : List (Addr × Obj)) (items : List Value) : Prop :=
  ∀ k : Nat, k < 22 → ∃ T p m t1 t2, items[k]? = some (.ref T) ∧ (p, m) ∈ pieces ∧ News h₀ L h' ((T, tupO [.bytes (List.toArray p) t1, .bytes (List.toArray m) t2]) :: rest)
theorem news_one {h₀ h : Heap} {L : Addr} {q : Addr × Obj} {r : List (Addr × Obj)} (N : News h₀ L h r) (hq : h.get? q.1 = some q.2 ∧ q.1 ≠ L ∧ h₀.get? q.1 = none) : News h₀ L h (q :: r) := fun x hx => by
  rcases List.mem_cons.mp hx with rfl | hx
  · exact hq
  · exact N x hx

/-- a display of pairs of bytes -/
inductive PcAll : List PySem.Expr → List (List UInt8 × List UInt8) → Prop
  | nil : PcAll [] []
  | cons {p m : List UInt8} {es : List PySem.Expr} {ps : List (List UInt8 × List UInt8)} {k1 k2 k3 : Nat} {p1 p2 p3 : Pos} : PcAll es ps → PcAll (.Tuple [.Constant (.bytes p) k1 p1, .Constant (.bytes m) k2 p2] k3 p3 :: es) ((p, m) :: ps)
def PcMade (s s' : Shared) (ps : List (List UInt8 × List UInt8)) (vs : List Value) : Prop :=
  (∃ h tk, s' = { s with heap := h, toks := tk }) ∧ (∀ b o, s.heap.get? b = some o → s'.heap.get? b = some o) ∧ vs.length = ps.length ∧
    ∃ ts : List (Addr × Obj), (∀ p ∈ ts, s.heap.get? p.1 = none ∧ s'.heap.get? p.1 = some p.2) ∧
      ∀ (k : Nat) p m, ps[k]? = some (p, m) → ∃ T t1 t2, vs[k]? = some (.ref T) ∧ (T, tupO [.bytes (List.toArray p) t1, .bytes (List.toArray m) t2]) ∈ ts
theorem pcs_made {M : Model} {A : Around} {env : Env} {pos : Pos} {E : Value → Shared → Prop} {es : List PySem.Expr} {ps : List (List UInt8 × List UInt8)} (h : PcAll es ps) :
    ∀ {s : Shared} {Q : List Value → Shared → Prop}, (∀ vs s', PcMade s s' ps vs → Q vs s') → wpAny M A (spliced (backTo pos (starEach es env))) Q E s := by
  induction h with
  | nil =>
    intro s Q h
    exact spliced_nil (h [] s ⟨⟨_, _, rfl⟩, fun _ _ e => e, rfl, [], fun _ hp => (nomatch hp), fun k p m hk => by simp at hk⟩)
  | @cons p m es ps k1 k2 k3 p1 p2 p3 _ ih =>
    intro s Q h
    show wpAny M A (spliced ((false, eval (.Tuple [.Constant (.bytes p) k1 p1, .Constant (.bytes m) k2 p2] k3 p3) env) :: backTo pos (starEach es env))) Q E s
    refine spliced_cons ?_
    rw [arm_eval_Tuple]
    refine wpAny_bind (wpAny_standAt (wpAny_bind ?_))
    show wpAny M A (spliced [(false, eval (.Constant (.bytes p) k1 p1) env), (false, eval (.Constant (.bytes m) k2 p2) env)]) _ E s
    refine spliced_cons (Constant_bytes (spliced_cons (Constant_bytes (spliced_nil ?_))))
    refine wpAny_newTuple ?_ (by rw [sizeLine_eq]; exact (by decide : 2 ≤ 16777216))
    refine ih fun vs s' hm => h _ s' ?_
    obtain ⟨⟨h', tk, rfl⟩, keep, hl, ts, hts, hit⟩ := hm
    dsimp only at keep hts ⊢
    refine ⟨⟨_, _, rfl⟩, fun b o e => keep b o (Heap.get?_push_of_some _ e), by simp [hl], (s.heap.objs.size, tupO [.bytes p.toArray s.toks, .bytes m.toArray (s.toks + 1)]) :: ts, fun q hq => ?_, fun k p' m' hk => ?_⟩
    · rcases List.mem_cons.mp hq with rfl | hq
      · exact ⟨Heap.get?_none_of_le (Nat.le_refl _), keep _ _ (Heap.get?_push_size _ rfl)⟩
      · refine ⟨?_, (hts q hq).2⟩
        cases hc : s.heap.get? q.1 with
        | none => rfl
        | some o => have := (hts q hq).1; rw [Heap.get?_push_of_some _ hc] at this; cases this
    · cases k with
      | zero => cases hk; exact ⟨_, _, _, rfl, .head _⟩
      | succ k =>
        obtain ⟨T, t1, t2, h1, h2⟩ := hit k p' m' hk
        exact ⟨T, t1, t2, h1, .tail _ h2⟩

theorem none_of {α : Type} {x : Option α} (h : ∀ o, x = some o → False) : x = none := by
  cases x with
  | none => rfl
  | some o => exact (h o rfl).elim
theorem stop_out {P : Prop} (h : P) : Stop P := h
theorem pcs_list {M : Model} {A : Around} {env : Env} {pos : Pos} {E : Value → Shared → Prop} {es : List PySem.Expr} {ps : List (List UInt8 × List UInt8)} {s : Shared} {Q : Value → Shared → Prop} (h : PcAll es ps)
    (hQ : ∀ vs s', PcMade s s' ps vs → wpAny M A (newList vs) Q E s') : wpAny M A (eval (.List es pos) env) Q E s := by
  rw [arm_eval_List]
  exact wpAny_bind (wpAny_standAt (wpAny_bind (pcs_made h hQ)))

section
variable {prog : Program} {w : World} {p : Program} {loose : List Str} {mean : ExcName → Option Value} {mg mb : Str → Option Value} {dp un : Nat} {gd : Option (List Code)} {cn : Str} {cs : Scope} {a : Addr} {ccd : Value} {cl : List (Str × Addr)} {outer : List Env}
  {A₀ : Around} {base h₀ : Heap} {L : Addr} {m : Str → Option Value} {rest : List (Addr × Obj)} {s : Shared} {Q E : Value → Shared → Prop}

theorem pieces_spec (B : Below A₀ base outer h₀) (F : Fr h₀ L s.heap m) (X : (MineHead.hd.heap_39 w.params).In h₀)
    (N : News h₀ L s.heap rest) (T : Top p loose mean mg mb h₀) (hk : cs.kind = .function)
    (hd : dp + 4 < recursionLimit)
    (hret : ∀ h' tk' l items cap, Fr h₀ L h' m → News h₀ L h' ((l, listOf (List.toArray items) cap) :: rest) → PieceAt h₀ L h' rest items → Q (.ref l) { s with heap := h', toks := tk' }) :
    wpAny (model prog w) (ktrTop dp un gd cn cs L a ccd cl outer) (call (.ref 140) []) Q E s := by
  refine wpAny_call ?_
  k_dflt ktr_enter
  k_steps
  refine stop_out ?_
  rename News _ _ _ rest => N1
  rename Fr h₀ L _ m => FG1
  rename Fr _ _ _ _ => F1
  refine pcs_list (ps := pieces) ?_ ?_
  · unfold pieces
    repeat (first | exact PcAll.nil | refine PcAll.cons ?_)
  intro vs s' hm
  obtain ⟨⟨h', tk, rfl⟩, keep, hl, ts, hts, hit⟩ := hm
  refine wpAny_newList ?_ (by rw [hl, sizeLine_eq]; exact Nat.le_trans (Nat.le_refl 22) (by decide))
  dsimp only at keep hts ⊢
  obtain ⟨oL, _, _, hL, _⟩ := id F1.ns
  have hlst : (h'.push (listOf (List.toArray vs) 0)).get? h'.objs.size = some (listOf (List.toArray vs) 0) := Heap.get?_push_size _ rfl
  have N2 : News _ _ (h'.push (listOf (List.toArray vs) 0)) ((h'.objs.size, listOf (List.toArray vs) 0) :: (ts ++ rest)) := fun q hq => by
    rcases List.mem_cons.mp hq with rfl | hq
    · refine ⟨hlst, (Nat.ne_of_lt (Heap.lt_size (keep _ _ hL))).symm, ?_⟩
      exact none_of fun o e => absurd (Heap.lt_size (keep _ _ (F1.keep _ _ e))) (Nat.lt_irrefl _)
    · rcases List.mem_append.mp hq with hq | hq
      · refine ⟨Heap.get?_push_of_some _ (hts q hq).2, fun e => ?_, none_of fun o e => ?_⟩
        · have := (hts q hq).1
          rw [e, hL] at this
          cases this
        · have := (hts q hq).1
          rw [F1.keep _ _ e] at this
          cases this
      · exact ⟨Heap.get?_push_of_some _ (keep _ _ (N1 q hq).1), (N1 q hq).2⟩
  refine leaveK_ (F1.keeps fun b o e => Heap.get?_push_of_some _ (keep b o e)) N2 fun FL NL => ?_
  refine hret _ _ _ vs 0 FL (fun q hq => NL q ?_) fun k hk => ?_
  · rcases List.mem_cons.mp hq with rfl | hq
    · exact .head _
    · exact .tail _ (List.mem_append_right _ hq)
  · have hk' : k < pieces.length := hk
    obtain ⟨T, t1, t2, h1, h2⟩ := hit k (pieces[k]).1 (pieces[k]).2 (List.getElem?_eq_getElem hk')
    exact ⟨T, _, _, t1, t2, h1, List.getElem_mem hk', news_one (fun q hq => NL q (.tail _ (List.mem_append_right _ hq))) (NL _ (.tail _ (List.mem_append_left _ h2)))⟩
end
end Mine


/-! ## T1 -/
namespace Mine
open PySem.Calls
theorem fillT1 : (PySem.Challenge.rw_on0258_01 = PySem.Challenge.rw_on0258_01) ∧ MineHead.hd.heap_39 = MineHead.hd.heap_39 := by k_fill; exact ⟨rfl, rfl⟩
local macro_rules | `(tactic| k_all) => `(tactic| assumption)
local macro_rules | `(tactic| ktr_room) => `(tactic| ((try simp only [depth_under_make, depth_under_kw, depth_in1, depth_deeper, depth_caller]); (try dsimp only [ktrTop]); omega))

section
variable {prog : Program} {w : World} {p : Program} {loose : List Str} {mean : ExcName → Option Value} {mg mb : Str → Option Value} {dp un : Nat} {gd : Option (List Code)} {cn : Str} {cs : Scope} {a : Addr} {ccd : Value} {cl : List (Str × Addr)} {outer : List Env}
  {A₀ : Around} {base h₀ : Heap} {L : Addr} {m : Str → Option Value} {rest : List (Addr × Obj)} {s : Shared} {Q E : Value → Shared → Prop}

theorem tape_spec {x : Addr} {vs : List Value} {ns : List Int} (B : Below A₀ base outer h₀) (F : Fr h₀ L s.heap m) (X : (MineHead.hd.heap_39 w.params).In h₀)
    (N : News h₀ L s.heap []) (T : Top p loose mean mg mb h₀) (hk : cs.kind = .function) (hl : h₀.IsList x vs.toArray) (hi : IntsAre vs ns) (hlen : (ns.length : Int) ≤ 63)
    (hd : dp + 8 < recursionLimit) (hu : un + 200 < cLine)
    (hret : ∀ t c od items cap zs S tS h' tk', Fr h₀ L h' m → News h₀ L h' ((t, od) :: (c, listOf (List.toArray items) cap) :: []) →
      od.IsDictOf (PySem.strKind prog w) [(("cells" : Str), Value.ref c), (("seed" : Str), Value.int S tS)] → IntsAre items zs → @LT.lt Nat _ t c → items.length ≤ 40 → Q (.ref t) { s with heap := h', toks := tk' }) :
    wpAny (model prog w) (ktrTop dp un gd cn cs L a ccd cl outer) (call (.ref 145) [.ref x]) Q E s := by
  refine wpAny_call ?_
  k_dflt ktr_enter
  rename Fr h₀ L _ m => FG1
  have hl2 := hl.at fun o e => FG1.keep _ o e
  k_steps
  rename News h₀ L _ _ => N9
  rename Obj.IsDictOf _ _ [_, _] => hod9
  rename IntsAre _ (List.reverse _) => hI9
  rename _ ∧ _ ∧ _ ∧ _ => l9
  refine' hret _ _ _ _ _ _ _ _ _ _ ?f ?n hod9 hI9 l9.1 ?len
  case f => k_asm
  case n =>
    refine' news_one (news_one News.nil (N9 _ ?a)) (N9 _ ?b)
    case a => repeat (first | exact List.Mem.head _ | refine List.Mem.tail _ ?_)
    case b => repeat (first | exact List.Mem.head _ | refine List.Mem.tail _ ?_)
  case len =>
    rw [hI9.length, List.length_reverse, List.length_map, List.length_take]
    exact Nat.min_le_left _ _
end
end Mine


/-! ## T2 -/
namespace Mine
open PySem.Calls
theorem fillT2 : (PySem.Challenge.rw_on0258_01 = PySem.Challenge.rw_on0258_01) ∧ MineHead.hd.heap_39 = MineHead.hd.heap_39 := by k_fill; exact ⟨rfl, rfl⟩
local macro_rules | `(tactic| k_all) => `(tactic| assumption)
local macro_rules | `(tactic| ktr_room) => `(tactic| ((try simp only [depth_under_make, depth_under_kw, depth_in1, depth_deeper, depth_caller]); (try dsimp only [ktrTop]); omega))
local macro_rules | `(tactic| walk_at "compareOp NotEq ref ref") => `(tactic| (k_here; (with_reducible show wpAny _ _ (compareOp CmpOp.NotEq (Value.ref _) (Value.ref _)) _ _ _); k_dflt (refine ke_ne_ints (by is_list) (by is_list) (by l_ints) (by l_ints) (by ktr_units) ?_)))

section
variable {prog : Program} {w : World} {p : Program} {loose : List Str} {mean : ExcName → Option Value} {mg mb : Str → Option Value} {dp un : Nat} {gd : Option (List Code)} {cn : Str} {cs : Scope} {a : Addr} {ccd : Value} {cl : List (Str × Addr)} {outer : List Env}
  {A₀ : Around} {base h₀ : Heap} {L : Addr} {m : Str → Option Value} {rest : List (Addr × Obj)} {s : Shared} {Q E : Value → Shared → Prop}

theorem lnext_spec {t c : Addr} {od : Obj} {items : List Value} {cap : Nat} {zs : List Int} {S : Int} {tS ub : Tok} {below : Int} (B : Below A₀ base outer h₀) (F : Fr h₀ L s.heap m) (X : (MineHead.hd.heap_39 w.params).In h₀)
    (N : News h₀ L s.heap ((t, od) :: (c, listOf items.toArray cap) :: rest)) (T : Top p loose mean mg mb h₀) (hk : cs.kind = .function)
    (hod : od.IsDictOf (PySem.strKind prog w) [(("cells" : Str), Value.ref c), (("seed" : Str), Value.int S tS)]) (hz : IntsAre items zs) (hct : @LT.lt Nat _ t c) (hr : ∀ q ∈ rest, q.1 ≠ t) (hrc : ∀ q ∈ rest, q.1 ≠ c) (hsz : items.length ≤ 40)
    (hb : 0 < below) (hd : dp + 8 < recursionLimit) (hu : un + 200 < cLine)
    (hret : ∀ k u, 0 ≤ k → k < below → ∀ od' items' cap' zs' S' tS' h' tk', Fr h₀ L h' m → News h₀ L h' ((t, od') :: (c, listOf items'.toArray cap') :: rest) →
      od'.IsDictOf (PySem.strKind prog w) [(("cells" : Str), Value.ref c), (("seed" : Str), Value.int S' tS')] → IntsAre items' zs' → items'.length ≤ 40 → Q (.int k u) { s with heap := h', toks := tk' }) :
    wpAny (model prog w) (ktrTop dp un gd cn cs L a ccd cl outer) (call (.ref 152) [.ref t, .int below ub]) Q E s := by
  refine wpAny_call ?_
  k_dflt ktr_enter
  k_steps
  · rename News h₀ L _ _ => N9
    rename Obj.IsDictOf _ _ _ => hod'
    exact hret _ _ (Int.fmod_nonneg_of_pos _ hb) (Int.fmod_lt_of_pos _ hb) _ _ _ _ _ _ _ _ (by k_asm) (fun q hq => N9 q (List.mem_cons_of_mem _ hq)) hod' hz hsz
  · have hne : 0 < items.length := by
      rcases hz with _ | ⟨_, _, _⟩
      · rename decide _ = false => hq
        simp at hq
      · exact Nat.succ_pos _
    dsimp only
    refine kpa_pop (by k_asm) (by k_asm) (by k_upd) hz hne (by rw [sizeLine_eq]; omega) ?_
    intro h' t' F' N' hI'
    k_steps
    rename News h₀ L _ _ => N9
    exact hret _ _ (Int.fmod_nonneg_of_pos _ hb) (Int.fmod_lt_of_pos _ hb) _ _ _ _ _ _ _ _ (by k_asm) (fun q hq => N9 q (List.mem_cons_of_mem _ hq)) hod hI' (by rw [List.length_dropLast]; omega)
end
end Mine


/-! ## T3 -/
namespace Mine
open PySem.Calls
theorem fillT3 : (PySem.Challenge.rw_on0258_01 = PySem.Challenge.rw_on0258_01) ∧ MineHead.hd.heap_39 = MineHead.hd.heap_39 := by k_fill; exact ⟨rfl, rfl⟩
local macro_rules | `(tactic| k_all) => `(tactic| assumption)
local macro_rules | `(tactic| ktr_room) => `(tactic| ((try simp only [depth_under_make, depth_under_kw, depth_in1, depth_deeper, depth_caller]); (try dsimp only [ktrTop]); omega))

def TapeOk (prog : Program) (w : World) (c : Addr) (od : Obj) (items : List Value) : Prop :=
  ∃ zs S tS, od.IsDictOf (PySem.strKind prog w) [(("cells" : Str), Value.ref c), (("seed" : Str), Value.int S tS)] ∧ IntsAre items zs ∧ items.length ≤ 40

section
variable {prog : Program} {w : World} {A : Around} {E : Value → Shared → Prop} {s : Shared}
theorem add_my {x y : List UInt8} {t u : Tok} {Q : Value → Shared → Prop} (hsz : x.length + y.length ≤ 1000000) (h : ∀ t' k, Q (.bytes (x ++ y).toArray t') { s with toks := k }) : wpAny (model prog w) A (binaryOp .Add (.bytes x.toArray t) (.bytes y.toArray u)) Q E s := by
  refine KBy.add_bytes (by rw [List.size_toArray, List.size_toArray]; omega) fun t' k => ?_
  have := h t' k
  rw [List.append_toArray]
  exact this
variable {value slice : PySem.Expr} {x : List UInt8} {t : Tok} {h₀ : Heap} {L : Addr} {m : PySem.Str → Option Value} {news : List (Addr × Obj)} {Q : Value → Shared → Prop}
theorem clip_neg1 (n : Nat) : clipAt n (-1) = n - 1 := by unfold clipAt; rw [if_pos (by decide)]; omega
theorem clip_nn {n : Nat} {i : Int} (h : 0 ≤ i) : clipAt n i = min i.toNat n := by unfold clipAt; rw [if_neg (by omega)]; omega
theorem slice_last {ui : Tok} (hF : Fr h₀ L s.heap m) (hN : News h₀ L s.heap news) (hz : x.length ≤ 1000000)
    (h : ∀ h' t' k, Fr h₀ L h' m → News h₀ L h' news → Q (.bytes (x.drop (x.length - 1)).toArray t') { s with heap := h', toks := k })
    (hs : subscripted slice false (.bytes x.toArray t) (.ref s.heap.objs.size) = operate [.ref s.heap.objs.size, .bytes x.toArray t] (getItem (.bytes x.toArray t) (.ref s.heap.objs.size)) := by with_unfolding_all rfl)
    (ht : ∀ r, letTemporaryGo value (.bytes x.toArray t) r = pure () := by intro _; with_unfolding_all rfl) :
    wpAny (model prog w) A (subscriptTail value slice (.bytes x.toArray t) (.ref s.heap.objs.size)) Q E { s with heap := s.heap.push { cls := .type "slice", data := .fields #[.int (-1) ui, .none, .none] } } := by
  refine KBc.slice_K hF hN rfl (.int _ _) .none (by rw [KBw.ints_length, List.size_toArray]; omega) (fun h' t' k F N _ => ?_) hs ht
  have e : KBy.picked x.toArray (some (-1)) none = (x.drop (x.length - 1)).toArray := by
    rw [KBc.picked_eq]
    simp only [Option.elim, clip_neg1, List.size_toArray]
    rw [List.take_of_length_le (by rw [List.length_drop]; omega)]
  rw [e]
  exact h h' t' k F N
theorem slice_upto {ui : Tok} {i : Int} (hF : Fr h₀ L s.heap m) (hN : News h₀ L s.heap news) (hz : x.length ≤ 1000000) (hi : 0 ≤ i)
    (h : ∀ h' t' k, Fr h₀ L h' m → News h₀ L h' news → Q (.bytes (x.take i.toNat).toArray t') { s with heap := h', toks := k })
    (hs : subscripted slice false (.bytes x.toArray t) (.ref s.heap.objs.size) = operate [.ref s.heap.objs.size, .bytes x.toArray t] (getItem (.bytes x.toArray t) (.ref s.heap.objs.size)) := by with_unfolding_all rfl)
    (ht : ∀ r, letTemporaryGo value (.bytes x.toArray t) r = pure () := by intro _; with_unfolding_all rfl) :
    wpAny (model prog w) A (subscriptTail value slice (.bytes x.toArray t) (.ref s.heap.objs.size)) Q E { s with heap := s.heap.push { cls := .type "slice", data := .fields #[.none, .int i ui, .none] } } := by
  refine KBc.slice_K hF hN rfl .none (.int _ _) (by rw [KBw.ints_length, List.size_toArray]; omega) (fun h' t' k F N _ => ?_) hs ht
  have e : KBy.picked x.toArray none (some i) = (x.take i.toNat).toArray := by
    rw [KBc.picked_eq]
    simp only [Option.elim, clip_nn hi, List.size_toArray, List.drop_zero, Nat.sub_zero]
    rcases Nat.le_total i.toNat x.length with q | q
    · rw [Nat.min_eq_left q]
    · rw [Nat.min_eq_right q, List.take_of_length_le (Nat.le_refl _), List.take_of_length_le q]
  rw [e]
  exact h h' t' k F N
end
end Mine


/-! ## T4 -/
namespace Mine
open PySem.Calls
theorem fillT4 : (PySem.Challenge.rw_on0258_01 = PySem.Challenge.rw_on0258_01) ∧ MineHead.hd.heap_39 = MineHead.hd.heap_39 := by k_fill; exact ⟨rfl, rfl⟩
local macro_rules | `(tactic| k_all) => `(tactic| assumption)
local macro_rules | `(tactic| ktr_room) => `(tactic| ((try simp only [depth_under_make, depth_under_kw, depth_in1, depth_deeper, depth_caller]); (try dsimp only [ktrTop]); omega))
local macro_rules | `(tactic| walk_at "exec For Name Call cons nil") => `(tactic| (k_here; refine stop_of ?_))
local macro_rules | `(tactic| walk_at "pyIter ref") => `(tactic| (k_here; refine stop_of ?_))

local macro_rules | `(tactic| walk_at "binaryOp Add bytes bytes") => `(tactic| (k_here; (with_reducible show wpAny _ _ (binaryOp Operator.Add (Value.bytes (List.toArray _) _) (Value.bytes (List.toArray _) _)) _ _ _); (refine add_my (by (try simp only [List.length_append, List.length_cons, List.length_nil]); omega) ?_); intro _ _))
local macro_rules | `(tactic| walk_at "subscriptTail") => `(tactic| (k_here; (with_reducible show wpAny _ _ (subscriptTail _ (Expr.Slice (some _) none none _) (Value.bytes (List.toArray _) _) (Value.ref _)) _ _ _); (with_reducible rename Fr _ _ _ _ => F'); (with_reducible rename News _ _ _ _ => N'); (refine slice_last (s := ⟨_, _, _, _, _⟩) F' N' (by omega) ?_); intro _ _ _ _ _; (try k_sweep)))
local macro_rules | `(tactic| walk_at "subscriptTail") => `(tactic| (k_here; (with_reducible show wpAny _ _ (subscriptTail _ (Expr.Slice none (some _) none _) (Value.bytes (List.toArray _) _) (Value.ref _)) _ _ _); (with_reducible rename Fr _ _ _ _ => F'); (with_reducible rename News _ _ _ _ => N'); (refine slice_upto (s := ⟨_, _, _, _, _⟩) F' N' (by omega) (by omega) ?_); intro _ _ _ _ _; (try k_sweep)))
local macro_rules | `(tactic| walk_at "call ref") => `(tactic| (k_here; (try dsimp only [List.cons_append, List.nil_append, List.append_nil]); (with_reducible show wpAny _ _ (call (Value.ref 152) [Value.ref _, Value.int _ _]) _ _ _); k_dflt (refine' lnext_spec ?k1 ?k2 ?k3 ?k4 ?k5 ?k6 ?k7 ?k8 ?k9 ?k10 ?k11 ?k12 ?k13 ?k14 ?k15 ?_; (case k1 => k_asm); (case k2 => k_asm); (case k3 => k_asm); (case k4 => k_asm); (case k5 => k_asm); (case k6 => first | exact rfl | assumption); (case k7 => assumption); (case k8 => assumption); (case k9 => assumption); (case k10 => assumption); (case k11 => assumption); (case k12 => assumption); (case k13 => omega); (case k14 => ktr_room); (case k15 => ktr_units)); intro _ _ _ _ _ _ _ _ _ _ _ _ F' N' _ _ _; (try k_sweep)))
local macro_rules | `(tactic| walk_at "call ref") => `(tactic| (k_here; (try dsimp only [List.cons_append, List.nil_append, List.append_nil]); (with_reducible show wpAny _ _ (call (Value.ref 140) []) _ _ _); k_dflt (refine' pieces_spec ?k1 ?k2 ?k3 ?k4 ?k5 ?k6 ?k14 ?_; (case k1 => k_asm); (case k2 => k_asm); (case k3 => k_asm); (case k4 => k_asm); (case k5 => k_asm); (case k6 => first | exact rfl | assumption); (case k14 => ktr_room)); intro _ _ _ _ _ F' N' _; (try k_sweep)))

def PInv (prog : Program) (w : World) (d : Nat) (t c : Addr) (rest : List (Addr × Obj)) (D : Int) (uD : Tok) (i : Nat) (m' : Str → Option Value) (nx : List (Addr × Obj)) : Prop :=
  ∃ told meant tA tB od items cap, nx = (t, od) :: (c, listOf (List.toArray items) cap) :: rest ∧ TapeOk prog w c od items ∧ Parts d i told meant ∧ m' "told" = some (.bytes (List.toArray told) tA) ∧ m' "meant" = some (.bytes (List.toArray meant) tB) ∧
    m' "tape" = some (.ref t) ∧ m' "depth" = some (.int D uD)
def PartsC (prog : Program) (w : World) (p : Program) (loose : List Str) (mean : ExcName → Option Value) (mg mb : Str → Option Value) (d : Nat) : Prop :=
  ∀ {dp un : Nat} {gd : Option (List Code)} {cn : Str} {cs : Scope} {a : Addr} {ccd : Value} {cl : List (Str × Addr)} {outer : List Env} {A₀ : Around} {base h₀ : Heap} {L : Addr} {m : Str → Option Value} {rest : List (Addr × Obj)} {s : Shared} {Q E : Value → Shared → Prop}
    {t c : Addr} {od : Obj} {items : List Value} {cap n : Nat} {N D : Int} {uN uD : Tok},
    Below A₀ base outer h₀ → Fr h₀ L s.heap m → (MineHead.hd.heap_39 w.params).In h₀ → News h₀ L s.heap ((t, od) :: (c, listOf (List.toArray items) cap) :: rest) → Top p loose mean mg mb h₀ → cs.kind = .function →
    TapeOk prog w c od items → @LT.lt Nat _ t c → (∀ q ∈ rest, q.1 ≠ t) → (∀ q ∈ rest, q.1 ≠ c) → N = (n : Int) → D = (d : Int) → n ≤ 9 → d ≤ 3 → dp + (16 + 8 * d) < recursionLimit → un + 400 * (d + 1) < cLine →
    (∀ told meant T t1 t2 od' items' cap' h' tk', Parts d n told meant → Fr h₀ L h' m → News h₀ L h' ((T, tupO [.bytes (List.toArray told) t1, .bytes (List.toArray meant) t2]) :: (t, od') :: (c, listOf (List.toArray items') cap') :: rest) →
      TapeOk prog w c od' items' → Q (.ref T) { s with heap := h', toks := tk' }) →
    wpAny (model prog w) (ktrTop dp un gd cn cs L a ccd cl outer) (call (.ref 159) [.ref t, .int N uN, .int D uD]) Q E s

theorem piece_sub {prog : Program} {w : World} {A : Around} {E : Value → Shared → Prop} {s : Shared} {h₀ : Heap} {L l : Addr} {rest : List (Addr × Obj)} {items : List Value} {cap : Nat} {k : Int} {u : Tok} {value slice : PySem.Expr} {Q : Value → Shared → Prop}
    (N : News h₀ L s.heap ((l, listOf (List.toArray items) cap) :: rest)) (P : PieceAt h₀ L s.heap rest items) (h0 : 0 ≤ k) (h1 : k < 22)
    (h : ∀ T p m t1 t2, (p, m) ∈ pieces → p.length ≤ 5 → m.length ≤ 5 → News h₀ L s.heap ((T, tupO [.bytes (List.toArray p) t1, .bytes (List.toArray m) t2]) :: rest) → Q (.ref T) s)
    (hs : subscripted slice false (.ref l) (.int k u) = operate [.ref l, .int k u] (getItem (.ref l) (.int k u)) := by with_unfolding_all rfl) (hg : ∀ r, letTemporaryGo value (.ref l) r = pure () := by intro _; with_unfolding_all rfl) :
    wpAny (model prog w) A (subscriptTail value slice (.ref l) (.int k u)) Q E s := by
  obtain ⟨T, p, m, t1, t2, hx, hm, N'⟩ := P k.toNat (by omega)
  have := pieces_small _ hm
  exact kim_list N (.head _) rfl rfl h0 (by omega) hx (h T p m t1 t2 hm this.1 this.2 N') hs hg
local macro_rules | `(tactic| walk_at "subscriptTail") => `(tactic| (k_here; (with_reducible show wpAny _ _ (subscriptTail _ _ (Value.ref _) (Value.int _ _)) _ _ _); (with_reducible rename PieceAt _ _ _ _ _ => pa'); (with_reducible rename News _ _ _ _ => n9'); (refine piece_sub n9' pa' (by omega) (by omega) ?_); (clear pa' n9'); intro _ _ _ _ _ _ _ _ N'; (try dsimp only at N'); (try k_sweep)))

theorem last_no {told : List UInt8} (h : ((List.drop (told.length - 1) told).toArray.toList == [13]) = false) : told.getLast? ≠ some 13 := fun q => by
  obtain ⟨ys, rfl⟩ := List.getLast?_eq_some_iff.mp q
  simp at h
theorem head_no {p : List UInt8} (h : ((List.take (1 : Int).toNat p).toArray.toList == [10]) = false) : p.head? ≠ some 10 := fun q => by
  cases p with
  | nil => cases q
  | cons c l =>
    cases q
    simp at h
theorem part3 (d : Nat) (h : d ≤ 3) : partMax d ≤ 161 := by
  have : d = 0 ∨ d = 1 ∨ d = 2 ∨ d = 3 := by omega
  rcases this with rfl | rfl | rfl | rfl <;> decide
section
variable {prog : Program} {w : World} {p : Program} {loose : List Str} {mean : ExcName → Option Value} {mg mb : Str → Option Value}
theorem parts_use {d : Nat} (IH : ∀ d', d = d' + 1 → PartsC prog w p loose mean mg mb d') {dp un : Nat} {gd : Option (List Code)} {cn : Str} {cs : Scope} {a : Addr} {ccd : Value} {cl : List (Str × Addr)} {outer : List Env} {A₀ : Around} {base h₀ : Heap} {L : Addr} {m : Str → Option Value} {rest : List (Addr × Obj)} {s : Shared} {Q E : Value → Shared → Prop}
    {t c : Addr} {od : Obj} {items : List Value} {zs : List Int} {S : Int} {tS : Tok} {cap i : Nat} {N D : Int} {uN uD : Tok} {told meant : List UInt8}
    (B : Below A₀ base outer h₀) (F : Fr h₀ L s.heap m) (X : (MineHead.hd.heap_39 w.params).In h₀) (Nw : News h₀ L s.heap ((t, od) :: (c, listOf (List.toArray items) cap) :: rest)) (T : Top p loose mean mg mb h₀) (hk : cs.kind = .function)
    (hod : od.IsDictOf (PySem.strKind prog w) [(("cells" : Str), Value.ref c), (("seed" : Str), Value.int S tS)]) (hz : IntsAre items zs) (hsz : items.length ≤ 40) (htc : @LT.lt Nat _ t c) (hr : ∀ q ∈ rest, q.1 ≠ t) (hrc : ∀ q ∈ rest, q.1 ≠ c)
    (hD : D = (d : Int)) (h22 : ¬ N < 22) (h26 : N < 26) (hd0 : D > 0) (hd3 : d ≤ 3) (hdp : dp + (8 + 8 * d) < recursionLimit) (hun : un + 400 * d < cLine) (hP : Parts d i told meant)
    (hret : ∀ ti mi T t1 t2 od' items' cap' zs' S' tS' h' tk', ti.length ≤ 1000 → mi.length ≤ 1000 → Parts d (i + 1) (told ++ ([40] ++ ti ++ [41])) (meant ++ ([40] ++ mi ++ [41])) → Fr h₀ L h' m → News h₀ L h' ((T, tupO [.bytes (List.toArray ti) t1, .bytes (List.toArray mi) t2]) :: (t, od') :: (c, listOf (List.toArray items') cap') :: rest) →
      od'.IsDictOf (PySem.strKind prog w) [(("cells" : Str), Value.ref c), (("seed" : Str), Value.int S' tS')] → IntsAre items' zs' → items'.length ≤ 40 → Q (.ref T) { s with heap := h', toks := tk' }) :
    wpAny (model prog w) (ktrTop dp un gd cn cs L a ccd cl outer) (call (.ref 159) [.ref t, .int (N - 22) uN, .int (D - 1) uD]) Q E s := by
  obtain ⟨d', rfl⟩ : ∃ d', d = d' + 1 := ⟨d - 1, by omega⟩
  refine IH d' rfl B F X Nw T hk ⟨_, _, _, hod, hz, hsz⟩ htc hr hrc (n := (N - 22).toNat) (by omega) (by omega) (by omega) (by omega) (by omega) (by omega) fun ti mi T t1 t2 od' items' cap' h' tk' hPi F' N' hT' => ?_
  obtain ⟨zs', S', tS', h1, h2, h3⟩ := hT'
  have hs := hPi.small
  have hp := part3 d' (by omega)
  have hm : (N - 22).toNat * partMax d' ≤ 3 * 161 := Nat.mul_le_mul (by omega) hp
  exact hret ti mi T t1 t2 od' items' cap' zs' S' tS' h' tk' (by omega) (by omega) (.deep hP (by omega) hPi) F' N' h1 h2 h3

theorem parts_end {d i : Nat} {t c : Addr} {rest rest2 own news' : List (Addr × Obj)} {D : Int} {uD tA tB : Tok} {told meant : List UInt8} {g h' : Heap} {L : Addr} {m' : Str → Option Value} {od od1 : Obj} {items items1 : List Value} {zs : List Int} {S : Int} {tS : Tok} {cap cap1 tk' : Nat} {s₁ : Shared}
    (hrest : rest2 = rest ++ own) (hoff : TbOff own ((t, od1) :: (c, listOf (List.toArray items1) cap1) :: rest)) (hod : od.IsDictOf (PySem.strKind prog w) [(("cells" : Str), Value.ref c), (("seed" : Str), Value.int S tS)]) (hz : IntsAre items zs) (hsz : items.length ≤ 40)
    (F : Fr g L h' m') (N : News g L h' news') (hP : Parts d (i + 1) told meant)
    (hmem : ∀ q ∈ (t, od) :: (c, listOf (List.toArray items) cap) :: rest2, q ∈ news')
    (e1 : m' "told" = some (.bytes (List.toArray told) tA)) (e2 : m' "meant" = some (.bytes (List.toArray meant) tB)) (e3 : m' "tape" = some (.ref t)) (e4 : m' "depth" = some (.int D uD)) :
    TbEnd g L (PInv prog w d t c rest D uD (i + 1)) own s₁ { s₁ with heap := h', toks := tk' } := by
  subst hrest
  refine ⟨h', tk', m', news', (t, od) :: (c, listOf (List.toArray items) cap) :: rest, rfl, F, N, fun q hq => hmem q ?_, fun q hq => hmem q ?_, fun q hq r hr => ?_, ⟨told, meant, tA, tB, od, items, cap, rfl, ⟨_, _, _, hod, hz, hsz⟩, hP, e1, e2, e3, e4⟩⟩
  · simp only [List.mem_cons, List.mem_append] at hq ⊢
    rcases hq with h | h | h
    · exact .inl h
    · exact .inr (.inl h)
    · exact .inr (.inr (.inl h))
  · simp only [List.mem_cons, List.mem_append]
    exact .inr (.inr (.inr hq))
  · rcases List.mem_cons.mp hr with rfl | hr
    · exact hoff q hq (t, od1) (.head _)
    · rcases List.mem_cons.mp hr with rfl | hr
      · exact hoff q hq (c, listOf (List.toArray items1) cap1) (.tail _ (.head _))
      · exact hoff q hq _ (.tail _ (.tail _ hr))

local macro_rules | `(tactic| walk_at "call ref") => `(tactic| (k_here; (try dsimp only [List.cons_append, List.nil_append, List.append_nil]); (with_reducible show wpAny _ _ (call (Value.ref 159) [Value.ref _, Value.int _ _, Value.int _ _]) _ _ _); (with_reducible rename Parts _ _ _ _ => hp'); k_dflt (refine' parts_use ?ki ?k1 ?k2 ?k3 ?k4 ?k5 ?k6 ?k7 ?k8 ?k9 ?k10 ?k11 ?k12 ?k13 ?k14 ?k15 ?k16 ?k17 ?k18 ?k19 hp' ?_; (case ki => assumption); (case k1 => k_asm); (case k2 => k_asm); (case k3 => k_asm); (case k4 => k_asm); (case k5 => k_asm); (case k6 => first | exact rfl | assumption); (case k7 => assumption); (case k8 => assumption); (case k9 => assumption); (case k10 => assumption); (case k11 => assumption); (case k12 => assumption); (case k13 => assumption); (case k14 => omega); (case k15 => omega); (case k16 => omega); (case k17 => assumption); (case k18 => ktr_room); (case k19 => ktr_units)); intro _ _ _ _ _ _ _ _ _ _ _ _ _ _ _ _ F' N' _ _ _; (try k_sweep)))

theorem parts_step {d : Nat} (IH : ∀ d', d = d' + 1 → PartsC prog w p loose mean mg mb d') : PartsC prog w p loose mean mg mb d := by
  unfold PartsC
  intro dp un gd cn cs a ccd cl outer A₀ base h₀ L m rest s Q E t c od items cap n N D uN uD B F X Nw T hk hT htc hr hrc hN hD hn hd3 hdp hun hret
  subst hN
  refine wpAny_call ?_
  k_dflt ktr_enter
  k_steps
  unfold Stop
  rename Fr _ _ _ _ => lF'
  with_unfolding_all refine' For_invVF lF' ?k1 ?k2 ?_
  case k1 => exact rfl
  case k2 => exact rfl
  k_whole
  k_steps
  unfold Stop
  rename Fr _ _ _ _ => lF'
  rename News _ _ _ _ => lN'
  rename IsRange _ _ _ _ _ _ _ _ => rgX
  refine' tbr_invG (n := n) (PInv prog w d t c rest D uD) rfl rgX ?sm ?sz lF' (fun q hq => lN' q (List.mem_cons_of_mem _ hq)) ?j0 ?turn ?done
  case sm => exact small_one (by omega) (by omega) (by omega) (by omega)
  case sz => exact (rangeSize_nat _ _).trans (by omega)
  case j0 => exact ⟨[], [], _, _, od, items, cap, rfl, hT, .nil d, rfl, rfl, rfl, rfl⟩
  case turn =>
    intro i k tk0 m1 nx h tk own hki hoff hJ F1 N1
    obtain ⟨told, meant, tA, tB, od1, items1, cap1, rfl, hT1, hP, hm1, hm2, hm3, hm4⟩ := hJ
    obtain ⟨zs, S, tS, hod1, hI1, hs1⟩ := hT1
    have hin : i < n := by
      have := (List.getElem?_eq_some_iff.mp hki).1
      simpa [rangeKs] using this
    obtain ⟨rest2, hrest2⟩ : ∃ r, r = rest ++ own := ⟨_, rfl⟩
    have hr2 : ∀ q ∈ rest2, q.1 ≠ t := fun q hq => by
      rw [hrest2] at hq
      rcases List.mem_append.mp hq with hq | hq
      · exact hr q hq
      · exact hoff q hq _ (.head _)
    have hrc2 : ∀ q ∈ rest2, q.1 ≠ c := fun q hq => by
      rw [hrest2] at hq
      rcases List.mem_append.mp hq with hq | hq
      · exact hrc q hq
      · exact hoff q hq _ (.tail _ (.head _))
    simp only [List.cons_append] at N1
    rw [← hrest2] at N1
    have hsm := hP.small
    have hpm : i * partMax d ≤ 9 * 161 := Nat.mul_le_mul (by omega) (part3 d hd3)
    have hl1 : told.length ≤ 2000 := by omega
    have hl2 : meant.length ≤ 2000 := by omega
    clear hsm hpm hT
    have F2 := Fr.known0 F1 (n := "told") (w := .bytes (List.toArray told) tA) (by rw [if_neg (by decide)]; exact hm1)
    have F3 := Fr.known0 F2 (n := "meant") (w := .bytes (List.toArray meant) tB) (by rw [if_neg (by decide), if_neg (by decide)]; exact hm2)
    have F4 := Fr.known0 F3 (n := "tape") (w := .ref t) (by rw [if_neg (by decide), if_neg (by decide), if_neg (by decide)]; exact hm3)
    have F5 := Fr.known0 F4 (n := "depth") (w := .int D uD) (by rw [if_neg (by decide), if_neg (by decide), if_neg (by decide), if_neg (by decide)]; exact hm4)
    clear F1 F2 F3 F4
    k_steps
    all_goals (
      rename Fr _ _ _ _ => F9
      rename News _ _ _ _ => N9
      rename Obj.IsDictOf _ _ _ => hod9
      rename IntsAre _ _ => hI9
      rename List.length _ ≤ 40 => hs9
      refine parts_end hrest2 hoff hod9 hI9 hs9 F9 N9 ?_ (by intro q hq; repeat (first | exact hq | refine List.Mem.tail _ ?_)) rfl rfl rfl rfl)
    · exact .g hP
    · rename (_, _) ∈ pieces => hpm
      rename (_ == _) = false => hc
      exact .piece hP hpm fun h => head_no hc h.2
    · rename (_, _) ∈ pieces => hpm
      rename (_ == _) = false => hc
      exact .piece hP hpm fun h => last_no hc h.1
    · assumption
    · obtain rfl : d = 0 := by omega
      exact .flat hP
  case done =>
    intro m1 nx h tk hJ F1 N1
    obtain ⟨told, meant, tA, tB, od1, items1, cap1, rfl, hT1, hP, hm1, hm2, hm3, hm4⟩ := hJ
    have F2 := Fr.known0 F1 hm1
    have F3 := Fr.known0 F2 (n := "meant") (w := .bytes (List.toArray meant) tB) (by rw [if_neg (by decide)]; exact hm2)
    clear F1 F2
    k_steps
    rename News h₀ L _ _ => N9
    exact hret told meant _ _ _ _ _ _ _ _ hP (by k_asm) N9 hT1
theorem parts_all (d : Nat) : PartsC prog w p loose mean mg mb d := by
  induction d with
  | zero => exact parts_step fun d' h => absurd h (by omega)
  | succ d ih => exact parts_step fun d' h => by cases h; exact ih
end
end Mine


/-! ## C2 -/
namespace Mine
open PySem.Calls

section
variable {M : Model} {A : Around} {E : Value → Shared → Prop} {s : Shared}
theorem ps_matches {e : Addr} {oe : Obj} {Q : Bool → Shared → Prop} (hC : s.heap.get? 45 = some psCls) (he : s.heap.get? e = some oe) (hc : oe.cls = .ref 45) (h : Q true s) : wpAny M A (excMatches (.ref e) (.ref 45)) Q E s := by
  obtain ⟨hp, g, dr, tk, os⟩ := s
  have hB : (Value.ref 45 :: psBm).contains (.type "BaseException") = true := by decide
  have hS : (Value.ref 45 :: psBm).contains (.ref 45) = true := by decide
  unfold excMatches isExcClass isInstance
  repeat (first | (with_reducible refine wpAny_loadPart_at he ?_; rw [hc]) | with_reducible refine wpAny_loadPart_at hC ?_ | (with_reducible refine wpAny_isSubtype_exc hC ?_; first | rw [hB] | rw [hS]) | wp_step)
  have hT : isSubtype (.type "type") (.type "tuple") = pure false := by rw [isSubtype_type]; kernel_rfl
  show wpAny M A (isSubtype (.type "type") (.type "tuple")) _ _ _
  refine wpAny_of_eq hT ?_
  repeat (first | (with_reducible refine wpAny_loadPart_at he ?_; rw [hc]) | with_reducible refine wpAny_loadPart_at hC ?_ | (with_reducible refine wpAny_isSubtype_exc hC ?_; first | rw [hB] | rw [hS]) | wp_step)
  exact h
end

section
variable {prog : Program} {w : World} {A : Around} {s' : Shared} {base g g₂ : Heap} {outer : List Env} {L a e D : Addr} {m : Str → Option Value} {name : Str} {scope : Scope} {cd : Value} {od : Obj} {np pos : Pos} {n : Str} {b₀ : Stmt} {suite : List Stmt} {Q : Flow → Shared → Prop} {E : Value → Shared → Prop}
  {p : Program} {loose : List Str} {mean : ExcName → Option Value} {mg mb : Str → Option Value}
def CutEnd (base : Heap) (L : Addr) (s' : Shared) (Q : Flow → Shared → Prop) (f : Flow) (s₄ : Shared) : Prop :=
  ∃ h4 tk4 m4, s₄ = { s' with heap := h4, toks := tk4 } ∧ Fr base L h4 m4 ∧ ∀ h5 tk5, base.StaysIn h5 → Q f { s' with heap := h5, toks := tk5 }
theorem ps_caught (hst : A.frames = some outer) (x : FlyP base (envOf name scope L a cd :: outer) e D od .none s'.heap) (F : Fr g L g₂ m) (U : g₂.UpToSlots s'.heap) (hb : base.objs.size ≤ L) (XB : (MineHead.hd.heap_39 w.params).In base) (TB : Top p loose mean mg mb base)
    (body : ∀ h' tk' oe E', Fr base L h' (fun y => if y = n then some (.ref e) else m y) → h'.get? e = some oe → oe.cls = .ref 45 → oe.dict = some D → notCls oe = true → h'.get? D = some od →
      wpAny (model prog w) ((A.deeper (envOf name scope L a cd)).mark (some (.ref e))) (execs (b₀ :: suite) (envOf name scope L a cd))
        (CutEnd base L s' Q) E' { s' with heap := h', toks := tk' })
    (hk : scope.kind = .function := by rfl) (hlo : (envOf name scope L a cd).kindOf n = some .local := by rfl) (hx : (envOf name scope L a cd).kindOf "PsError" = some .globalImplicit := by rfl) :
    wpAny (model prog w) (A.deeper (envOf name scope L a cd)) (noteFrame (.ref e) (envOf name scope L a cd))
      (fun _ s₂ => wpAny (model prog w) (A.deeper (envOf name scope L a cd)) (setFlight (.ref e) none) (fun _ s₃ =>
        wpAny (model prog w) (A.deeper (envOf name scope L a cd)) (handleBy (.ref e) (envOf name scope L a cd) [.ExceptHandler (some (.Name "PsError" np)) (some n) (b₀ :: suite) pos]) Q E s₃) E s₂) E s' := by
  have hp : ((envOf name scope L a cd).scope.kind == .class || ((envOf name scope L a cd).scope.kind == .module && (envOf name scope L a cd).locals != (envOf name scope L a cd).globals)) = false := by
    show (scope.kind == .class || (scope.kind == .module && _)) = false
    rw [hk]; rfl
  refine note_next (Around.frames_deeper hst) rfl x fun h1 x1 u1 => ?_
  refine flight_to (fr := none) (s := { s' with heap := h1 }) x1 fun h2 x2 u2 => ?_
  have F2 : Fr base L h2 m := ⟨(U.trans (u1.trans u2)).ns F.ns, x2.1, hb⟩
  obtain ⟨_, _, _, _, _, _, _, oe, vs, T, oT, ts, he, hc, _, _⟩ := id x2
  refine wpAny_handleBy_cons (codeAny_handlers_test (name_K F2 XB (topRead_of TB) rfl ?_ hk hx (by decide))) (by intro q; cases q)
  refine ps_matches (XB.keeps F2.keep 45 _ (ps_at _)) he hc ?_
  dsimp only
  rw [if_pos rfl]
  dsimp only
  refine codeAny_handlers_suite_as ?_
  refine flight_to (fr := none) (s := { s' with heap := h2 }) x2 fun h3 x3 u3 => ?_
  have hn3 : h3.Ns L m := (U.trans (u1.trans (u2.trans u3))).ns F.ns
  refine wpAny_storeName_local (s := { s' with heap := h3 }) hlo hn3 (fun h4 hn4 hs4 => ?_) hp
  obtain ⟨hkb, hl, hen, hdn, hdl, hdo, hdf, oe, vs, T, oT, ts, he, hc, hdi, hd, _⟩ := id x3
  have hLf : ∃ oL, h3.get? L = some oL ∧ ∀ ws, oL.data ≠ .fields ws := by
    obtain ⟨oL, es, ep, hL, hLd, _⟩ := hn3
    exact ⟨oL, hL, fun ws q => by rw [hLd] at q; cases q⟩
  have heL : e ≠ L := fun q => by
    obtain ⟨oL, hL, hn⟩ := hLf
    rw [q, hL] at he
    cases he
    exact hn _ hd
  have hDL : D ≠ L := fun q => hdl (by rw [q]; exact List.mem_filterMap.mpr ⟨_, .head _, rfl⟩)
  have stay : ∀ {h h' : Heap}, Heap.SameBut L h h' → base.StaysIn h → base.StaysIn h' := fun hs k b o q => (hs.2 b (Nat.ne_of_lt (Nat.lt_of_lt_of_le (Heap.lt_size q) hb))).trans (k b o q)
  have F4 : Fr base L h4 (fun y => if y = n then some (.ref e) else m y) := ⟨hn4, stay hs4 hkb, hb⟩
  refine wpAny_mono (body h4 _ oe _ F4 ((hs4.2 e heL).trans he) hc hdi (by unfold notCls; rw [hd]) ((hs4.2 D hDL).trans hdo)) (fun f s₄ h₄ => ?_) fun _ _ q => q
  obtain ⟨h4', tk4, m4, rfl, F5, k⟩ := h₄
  dsimp only
  refine wpAny_nameGoes (s := { s' with heap := h4', toks := tk4 }) hlo F5.ns hp fun h6 m6 hn6 hs6 => ?_
  exact k h6 _ (stay hs6 F5.keep)
end
theorem fillC2 : (PySem.Challenge.rw_on0258_01 = PySem.Challenge.rw_on0258_01) ∧ MineHead.hd.heap_39 = MineHead.hd.heap_39 := by k_fill; exact ⟨rfl, rfl⟩
section
variable {prog : Program} {w : World} {A : Around} {E : Value → Shared → Prop} {s : Shared} {h₀ : Heap} {L : Addr} {m : Str → Option Value}
theorem find_told (P : Params) (tk : Tok) (v : Value) : findObj (MineHead.hd.heap_39 P) 45 (some (toldD P tk v)) "told" = some (.value v) := by rfl

theorem told_seen {x : Addr} {ox : Obj} {tk tn : Tok} {v : Value} {Q : PySem.Fin → Shared → Prop} (X : (MineHead.hd.heap_39 w.params).In s.heap) (I : InstAt s.heap x ox 45 (some (toldD w.params tk v))) (h : Q (.done (.ret v)) s) :
    wpAny (model prog w) A (Builtin.«object.__getattribute__» ⟨[.ref x, .str "told" tn], []⟩) Q E s := by
  obtain ⟨hp, g, d, t, os⟩ := s
  have L0 := I.type (M := model prog w)
  have L1 := looks_find (M := model prog w) X I (find_told w.params tk v)
  refine wpAny_bind (wpAny_pure (wpAny_bind (wpAny_pure ?_)))
  refine wpAny_bind (L0.at (wpAny_bind (L1.at ?_)))
  exact wpAny_pure h

theorem ga_check {M : Model} {nameV : Value} {x : Addr} {ox : Obj} {h : Heap} {g : Array GenState} {d : Drawn} {t : Nat} {os : OsState} {Q : Unit → Shared → Prop} (hC : h.get? 45 = some psCls) (hx : h.get? x = some ox) (hc : ox.cls = .ref 45) (hq : Q () ⟨h, g, d, t, os⟩) :
    wpAny M A (checkBuiltinCall "BaseException.__getattribute__" ⟨[.ref x, nameV], []⟩) Q E ⟨h, g, d, t, os⟩ := by
  have hk : builtinKind "BaseException.__getattribute__" = some .slot := by decide +kernel
  have hsplit : splitId "BaseException.__getattribute__" = some ("BaseException", "__getattribute__") := by decide +kernel
  have hcB : (Value.ref 45 :: psBm).contains (.type "BaseException") = true := by decide
  have ha := F.args_bexc_ga (.ref x) nameV
  simp only [checkBuiltinCall, hk, hsplit]
  refine wpAny_bind ?_
  unfold isInstance
  repeat (first | (with_reducible refine wpAny_loadPart_at hx ?_; rw [hc]) | (with_reducible refine wpAny_isSubtype_exc hC ?_; rw [hcB]) | wp_step)
  exact hq

theorem told_get {x : Addr} {ox : Obj} {tk : Tok} {v : Value} {expr : Bool} {Q : Value → Shared → Prop} (X : (MineHead.hd.heap_39 w.params).In s.heap) (I : InstAt s.heap x ox 45 (some (toldD w.params tk v))) (hv : handedIn v = true)
    (h : ∀ tk', Q v { s with toks := tk' }) : wpAny (model prog w) A (getAttr (.ref x) "told" expr) Q E s := by
  obtain ⟨hp, g, d, t, os⟩ := s
  have FB := PySem.F.attr_Exception
  have hC : hp.get? 45 = some psCls := X 45 _ (ps_at _)
  have hga : findIn (MineHead.hd.heap_39 w.params) (.ref 45) "__getattribute__" = some (some (.builtin "BaseException.__getattribute__")) := rfl
  have hgb : findIn (MineHead.hd.heap_39 w.params) (.ref 45) "__getattr__" = some none := rfl
  have f3 := FB.ga.bind (.ref x)
  have L0 := I.type (M := model prog w)
  have L1 := looks_findIn (M := model prog w) X hga
  have L2 := looks_findIn (M := model prog w) X hgb
  have hx0 : (expr && onTheHeap (Value.builtin "BaseException.__getattribute__")) = false := by cases expr <;> rfl
  have hx2 : (Value.builtin "BaseException.__getattribute__" == Value.builtin "object.__getattribute__") = false := by decide +kernel
  have hx1 : (onTheHeap (Value.ref 45) && Value.builtin "BaseException.__getattribute__" == Value.builtin "object.__getattribute__") = false := by rw [hx2]; rfl
  unfold getAttr
  refine wpAny_bind (wpAny_mkText ?_)
  unfold getAttrBy
  refine wpAny_holding (wpAny_bind (L0.here (s := ⟨hp, g, d, t + 1, os⟩) (wpAny_bind (L1.here (s := ⟨hp, g, d, t + 1, os⟩) ?_))))
  dsimp only
  rw [hx1, if_neg Bool.false_ne_true]
  unfold getAttrByItsOwn hookBefore
  rw [if_pos (show onTheHeap (Value.ref 45) = true from rfl)]
  refine wpAny_bind (L2.here (s := ⟨hp, g, d, t + 1, os⟩) ?_)
  unfold callGetattribute
  rw [hx0, if_neg Bool.false_ne_true]
  unfold boundAndCalled
  rw [f3]
  refine wpAny_bind (wpAny_attempt (wpAny_holding (wpAny_bind (wpAny_pure ?_))))
  dsimp only
  refine wpAny_call (codeAny_call_builtin FB.ga.plain F.entry_bexc_ga (ga_check hC I.at_ I.cls ?_))
  refine told_seen (s := ⟨hp, g, d, t + 1, os⟩) X I ?_
  dsimp only
  rw [handedOut_of hv]
  exact wpAny_pure (h _)
end
end Mine


/-! ## C3 -/
namespace Mine
open PySem.Calls

/-- entry of a def on a clean stack whose frame is not come back to -/
theorem codeC_last {prog : Program} {w : World} {A₀ A : Around} {s : Shared} {base h₀ : Heap} {outer : List Env} {L : Addr} {m : Str → Option Value} {env : Env} {news : List (Addr × Obj)} {K : Frag} {p : Program} {loose : List Str} {mean : ExcName → Option Value} {mg mb : Str → Option Value}
    {R : Result → Shared → Prop} {name qual : Str} {params : Arguments} {body : List Stmt} {scope : Scope} {dV kV doc pm cdv ct oc : Value} {an od : Option Addr} {osl : Array (Option Value)} {f : Addr} {args : Args} {binds : List (Str × Value)}
    (B : Below A₀ base outer h₀) (F : Fr h₀ L s.heap m) (X₀ : K.In h₀) (N : News h₀ L s.heap news) (T : Top p loose mean mg mb h₀) (hA : A.frames = some (env :: outer)) (hf : env.frame = some L) (hke : env.scope.kind = .function)
    (ho : K.lookup f = some ⟨oc, od, .func (fnOf name qual params body scope dV kV doc pm an cdv ct), osl⟩) (hcd : codeIn K cdv qual = true) (hroom : A.depth < recursionLimit)
    (hbind : BindsTo s (fnOf name qual params body scope dV kV doc pm an cdv ct) args binds) (hloc : ∀ y ∈ binds, scope.names.lookup y.1 = some .local)
    (h : ∀ g L' h₁, Fr h₀ L g m → Fr g L' h₁ (fun y => binds.reverse.lookup y) → News g L' h₁ news → Below A base (env :: outer) g → K.In g → Top p loose mean mg mb g → g.objs.size ≤ L' → h₀.objs.size ≤ g.objs.size →
      wpC (model prog w) (A.deeper (envOf qual scope L' f cdv)) (execs body (envOf qual scope L' f cdv))
        (fun fl s' => R (.ok (.ret (match fl with | .ret v => v | _ => .none))) s')
        (fun e s' => wpAny (model prog w) (A.deeper (envOf qual scope L' f cdv)) (leaving (envOf qual scope L' f cdv) e) (fun _ s'' => R (.error e) s'') (fun e' s'' => R (.error e') s'') s')
        { s with heap := h₁, toks := s.toks + binds.length })
    (hco : scope.isCoroutine = false) (hgen : scope.isGenerator = false) (hk : scope.kind = .function)
    (hcell : ∀ x ∈ scope.names, x.2 ≠ .cell) : codeC (model prog w) A (.call (.ref f) args) R s := by
  have X := X₀.keeps F.keep
  refine codeC_call_def (fd := fnOf name qual params body scope dV kV doc pm an cdv ct) (body := body) (binds := binds) hroom (X _ _ ho) rfl (T.nolimit.keeps F.keep) (codeRec_of X hcd) rfl hbind hcell hloc (fun h₁ hns hk₁ => ?_) hco hgen hk
  have nm : ∀ b o, h₀.get? b = some o → b ∉ news.map (·.1) := fun b o e q => by
    obtain ⟨p, hp, rfl⟩ := List.mem_map.mp q
    rw [(N p hp).2.2] at e; cases e
  have st : h₀.StaysIn (hideAll s.heap (news.map (·.1))) := fun b o e => hideAll_get _ (F.keep b o e) (nm b o e)
  obtain ⟨oL, es, ep, hL, hLd, hLk, hLf⟩ := F.ns
  have nL : L ∉ news.map (·.1) := fun q => by
    obtain ⟨p, hp, e⟩ := List.mem_map.mp q
    exact (N p hp).2.1 e
  have hLg := hideAll_get (news.map (·.1)) hL nL
  have hnew : base.get? L = none := by
    cases hq : base.get? L with
    | none => rfl
    | some o => exact absurd (Nat.lt_of_lt_of_le (Heap.lt_size (B.stays L o hq)) F.above) (Nat.lt_irrefl _)
  have Bf : s.heap.FunFrames base (env :: outer) := by
    refine .cons (by rw [hke]; decide) hf F.ns hnew (B.frames.of_keeps fun b o e _ => ⟨o, F.keep b o e, rfl⟩)
  have B₂ : Below A base (env :: outer) (hideAll s.heap (news.map (·.1))) := ⟨hA, fun b o e => st b o (B.stays b o e), funFrames_hideAll Bf fun env' he b hb hf' => by
    rcases List.mem_cons.mp he with rfl | he
    · exact nL ((Option.some.inj (hf.symm.trans hf') : L = b) ▸ hb)
    · obtain ⟨L₁, o₁, hf₁, ho₁⟩ := funFrames_in B.frames env' he
      rw [hf₁] at hf'
      exact nm L₁ o₁ ho₁ ((Option.some.inj hf' : L₁ = b) ▸ hb)⟩
  refine h _ s.heap.objs.size h₁ ⟨⟨oL, es, ep, hLg, hLd, hLk, hLf⟩, st, F.above⟩ ⟨hns, fun b o e => hk₁ b o (of_hideAll _ e), Nat.le_of_eq (hideAll_size _ _)⟩
    (fun p hp => ⟨hk₁ _ _ (N p hp).1, Nat.ne_of_lt (Heap.lt_size (N p hp).1), hideAll_none _ (List.mem_map_of_mem hp)⟩) B₂ (X₀.keeps st) (T.keeps st) (Nat.le_of_eq (hideAll_size _ _)) ?_
  rw [hideAll_size]
  exact Nat.le_of_lt (Nat.lt_of_le_of_lt F.above (Heap.lt_size hL))

theorem fillC3 : (PySem.Challenge.rw_on0258_01 = PySem.Challenge.rw_on0258_01) ∧ MineHead.hd.heap_39 = MineHead.hd.heap_39 := by k_fill; exact ⟨rfl, rfl⟩
local macro_rules | `(tactic| k_all) => `(tactic| assumption)
local macro_rules | `(tactic| ktr_room) => `(tactic| ((try simp only [depth_under_make, depth_under_kw, depth_in1, depth_deeper, depth_caller]); (try dsimp only [ktrTop]); omega))
local macro_rules | `(tactic| k_room) => `(tactic| ((try simp only [depth_under_make, depth_under_kw, depth_in1, depth_deeper, depth_caller]); (try dsimp only [ktrTop]); omega))
local macro_rules | `(tactic| walk_at "my enter") => `(tactic| (refine' codeC_last ?k1 ?k2 ?k3 ?k4 ?k5 ?kA ?kF ?kK ?k6 ?k7 ?k8 ?k9 ?kB ?_ ?c2 ?c3 ?c4 ?c5; (case kA => exact rfl); (case kF => exact rfl); (case kK => assumption); (case k1 => k_asm); (case k2 => k_asm); (case k3 => k_asm); (case k4 => k_asm); (case k5 => k_asm); (case k6 => k_is); (case k7 => k_is); (case k8 => ktr_room); (case k9 => exact BindsTo.of_eq rfl); (case c5 => decide); (case kB => exact locs rfl); (case c2 => exact rfl); (case c3 => exact rfl); (case c4 => exact rfl); k_whole))

section
variable {prog : Program} {w : World} {p : Program} {loose : List Str} {mean : ExcName → Option Value} {mg mb : Str → Option Value} {dp un : Nat} {gd : Option (List Code)} {cn : Str} {cs : Scope} {a : Addr} {ccd : Value} {cl : List (Str × Addr)} {outer : List Env}
  {A₀ : Around} {base h₀ : Heap} {L : Addr} {m : Str → Option Value} {rest : List (Addr × Obj)} {s : Shared} {Q E : Value → Shared → Prop}

theorem cut_spec {b : List UInt8} {tb : Tok} (B : Below A₀ base outer h₀) (F : Fr h₀ L s.heap m) (X : (MineHead.hd.heap_39 w.params).In h₀) (XB : (MineHead.hd.heap_39 w.params).In base) (TB : Top p loose mean mg mb base)
    (N : News h₀ L s.heap rest) (T : Top p loose mean mg mb h₀) (hk : cs.kind = .function) (hbs : base.objs.size ≤ h₀.objs.size)
    (hb : b.length ≤ 1000000) (hi : 1 ≤ b.length) (hsc : scanF b (b.length + 1) 1 1 [] = none) (hd : dp + 24 < recursionLimit)
    (hret : ∀ h' tk', base.StaysIn h' → Q (.bool true) { s with heap := h', toks := tk' }) :
    wpC (model prog w) (ktrTop dp un gd cn cs L a ccd cl outer) (call (.ref 166) [.bytes (List.toArray b) tb]) Q E s := by
  refine wpC_call ?_
  k_dflt walk_at "my enter"
  intro g L1 h1 FG1 F1 N1 B1 X1 T1 hs1 hs2
  (try dsimp only)
  refine wpC_fold ?_
  intro qc ec
  with_reducible refine wpC_execs_cons ?_
  refine wpC_Try_except ?_
  with_reducible refine wpC_execs_cons ?_
  refine wpC_Expr (wpC_Call_fn (a := 133) rfl rfl ?_) rfl rfl
  k_steps
  refine ⟨rfl, ?_⟩
  k_steps
  refine ⟨⟨_, _, X1.keeps (Fr.keep (L := L1) (by assumption)) 133 _ rfl, rfl⟩, ?_⟩
  rename Fr g L1 _ _ => F9
  rename News g L1 _ _ => N9
  rename ∀ q ∈ rest, _ => l1
  refine string_spec (i := 1) B1 F9 X1 N9 T1 rfl (by assumption) (fun q hq => Nat.ne_of_lt (l1 q hq)) hb hi (by ktr_room) ?_ ?_
  · intro r j hsc'
    rw [hsc] at hsc'
    cases hsc'
  · intro _ e d tk₁ tk₂ tk' g₂ h' F8 U8 Y8
    clear F9 N9 l1
    refine ps_caught (s' := { s with heap := h', toks := tk' }) B1.stack Y8 F8 U8 (Nat.le_trans hbs (Nat.le_trans hs2 hs1)) XB TB ?_
    intro h5 tk5 oe E' F5 he hc hdi hno hD
    have I : InstAt h5 e oe 45 (some (toldD w.params tk₁ (.bytes #[115, 121, 110, 116, 97, 120, 101, 114, 114, 111, 114] tk₂))) := ⟨he, hc, hno, by rw [hdi]; exact hD⟩
    have N5 : News base L1 h5 [] := News.nil
    k_steps
    refine told_get (XB.keeps F5.keep) I rfl fun tk6 => ?_
    k_steps
    exact ⟨h5, _, _, rfl, F5, fun h6 tk6 st => hret h6 tk6 st⟩
end
end Mine


/-! ## Z2 -/
namespace Mine

theorem guard_of {M : Model} {A : Around} {t : Sem Value} {Q : Value → Shared → Prop} {E : Value → Shared → Prop} {s : Shared} (h : wpC M A t Q E s) (hu : Q (.bool true) s) : wpAny M A (guardV t) Q E s := fun Γ p hΓ => by
  have e : Sem.wp M Γ (guardV t) (fun v _ s' => Q v s') (fun e _ s' => E e s') p s =
      Sem.wp M Γ (if cleanSt ((Γ.code, p) :: Γ.below) then t else pure (.bool true)) (fun v _ s' => Q v s') (fun e _ s' => E e s') p s := rfl
  rw [e]
  cases hc : cleanSt ((Γ.code, p) :: Γ.below) with
  | false =>
    rw [if_neg Bool.false_ne_true]
    exact hu
  | true =>
    rw [if_pos rfl]
    rw [cleanSt_cons, Bool.and_eq_true] at hc
    exact h Γ p hΓ hc.1 hc.2

theorem codeC_fullW {prog : Program} {w : World} {A : Around} {R : Result → Shared → Prop} {s : Shared} {name : Str} {params : Arguments} {body : List Stmt} {scope : Scope}
    {dV kV pm cd doc : Value} {a : Addr} {o : Obj} {args : Args} {binds : List (Str × Value)}
    (hroom : A.depth < recursionLimit) (ho : s.heap.get? a = some o) (hdata : o.data = .func { docDef name params body scope pm cd doc with defaults := dV, kwdefaults := kV }) (hlim : s.heap.NoLimit) (hcd : s.heap.CodeRec cd name)
    (hbind : BindsTo s { docDef name params body scope pm cd doc with defaults := dV, kwdefaults := kV } args binds)
    (hloc : ∀ x ∈ binds, scope.names.lookup x.1 = some .local)
    (h : ∀ h₁, Fr s.heap s.heap.objs.size h₁ (fun x => binds.reverse.lookup x) →
      wpC (model prog w) (A.deeper (envOf name scope s.heap.objs.size a cd)) (execs body (envOf name scope s.heap.objs.size a cd))
        (fun f s' => R (.ok (.ret (match f with | .ret v => v | _ => .none))) s')
        (fun e s' => wpAny (model prog w) (A.deeper (envOf name scope s.heap.objs.size a cd)) (leaving (envOf name scope s.heap.objs.size a cd) e)
          (fun _ s'' => R (.error e) s'') (fun e' s'' => R (.error e') s'') s')
        { s with heap := h₁, toks := s.toks + binds.length })
    (hco : scope.isCoroutine = false := by rfl) (hgen : scope.isGenerator = false := by rfl) (hk : scope.kind = .function := by rfl)
    (hcell : ∀ x ∈ scope.names, x.2 ≠ .cell := by decide) :
    codeC (model prog w) A (.call (.ref a) args) R s :=
  codeC_call_def hroom ho hdata hlim hcd rfl hbind hcell hloc (fun h₁ hns hkeep => h h₁ ⟨hns, hkeep, Nat.le_refl _⟩) hco hgen hk

theorem good_true {c : ClaimW} {cl : Str → Option Addr} {mean : ExcName → Option Value} {args : List WData} {s₁ : Shared} {h : Heap} {tk : Nat} (hr : ∀ cls, c.raises args cls = false) (hp : c.post args (.bool true) args = true) (hg : s₁.gens = #[]) (st : s₁.heap.StaysIn h) :
    GoodWG c cl mean args s₁ (.ok (.ret (.bool true))) { s₁ with heap := h, toks := tk } :=
  ⟨.inl ⟨_, _, [], rfl, hr, ReadsW.bool true, hp, fun _ => ⟨List.nodup_nil, fun _ hm => (nomatch hm)⟩⟩, .of_keep st, rfl, .of_eq hg⟩

local macro_rules | `(tactic| k_all) => `(tactic| assumption)
local macro_rules | `(tactic| ktr_room) => `(tactic| ((try simp only [depth_under_make, depth_under_kw, depth_in1, depth_deeper, depth_caller]); (try dsimp only [ktrTop]); first | omega | decide))
local macro_rules | `(tactic| walk_at "my leaf") => `(tactic| ((with_reducible refine wpC_execs_cons ?_); (with_reducible refine wpC_of ?_)))
local macro_rules | `(tactic| walk_at "call ref") => `(tactic| (k_here; (with_reducible show wpAny _ _ (call (Value.ref 145) _) _ _ _); refine stop_of ?_))
local macro_rules | `(tactic| walk_at "call ref") => `(tactic| (k_here; (with_reducible show wpAny _ _ (call (Value.ref 152) _) _ _ _); refine stop_of ?_))
local macro_rules | `(tactic| walk_at "call ref") => `(tactic| (k_here; (with_reducible show wpAny _ _ (call (Value.ref 159) _) _ _ _); refine stop_of ?_))
local macro_rules | `(tactic| walk_at "call ref") => `(tactic| (k_here; (with_reducible show wpAny _ _ (call (Value.ref 84) _) _ _ _); refine stop_of ?_))
local macro_rules | `(tactic| walk_at "binaryOp Add bytes bytes") => `(tactic| (k_here; (with_reducible show wpAny _ _ (binaryOp Operator.Add (Value.bytes (List.toArray _) _) (Value.bytes (List.toArray _) _)) _ _ _); (refine add_my (by (try simp only [List.length_append, List.length_cons, List.length_nil]); omega) ?_); intro _ _))
local macro_rules | `(tactic| walk_at "subscriptTail") => `(tactic| (k_here; (with_reducible show wpAny _ _ (subscriptTail _ _ (Value.ref _) (Value.int _ _)) _ _ _); refine stop_of ?_))
local macro_rules | `(tactic| walk_at "subscriptTail") => `(tactic| (k_here; (with_reducible show wpAny _ _ (subscriptTail _ (PySem.Expr.Slice none (some _) none _) (Value.bytes (List.toArray _) _) (Value.ref _)) _ _ _); (with_reducible rename Fr _ _ _ _ => F'); (with_reducible rename News _ _ _ _ => N'); (refine slice_upto (s := ⟨_, _, _, _, _⟩) F' N' (by omega) (by omega) ?_); intro _ _ _ _ _; (try k_sweep)))
local macro_rules | `(tactic| walk_at "call builtin:len") => `(tactic| (k_here; (with_reducible show wpAny _ _ (call (Value.builtin "len") [Value.bytes (List.toArray _) _]) _ _ _); (refine len_my (by (try simp only [List.length_append, List.length_cons, List.length_nil]); omega) ?_); intro _ _))
local macro_rules | `(tactic| walk_at "subscriptTail") => `(tactic| (k_here; (with_reducible show wpAny _ _ (subscriptTail _ _ (Value.bytes (List.toArray _) _) (Value.int _ _)) _ _ _); refine stop_of ?_))
def Mid (base : Heap) (L : Addr) (m : Str → Option Value) (news : List (Addr × Obj)) (s₀ : Shared) (f : Flow) (s' : Shared) : Prop :=
  f = .next ∧ ∃ h' tk', s' = { s₀ with heap := h', toks := tk' } ∧ Fr base L h' m ∧ News base L h' news
theorem wpC_mid {M : Model} {A : Around} {E : Value → Shared → Prop} {s s₀ : Shared} {env : Env} {base h : Heap} {L : Addr} {m : Str → Option Value} {news : List (Addr × Obj)} {st : Stmt} {rest : List Stmt} {Q : Flow → Shared → Prop}
    (_ : Fr base L h m) (_ : News base L h news) (h1 : wpC M A (exec st env) (Mid base L m news s₀) E s)
    (h2 : ∀ h' tk', Fr base L h' m → News base L h' news → wpC M A (execs rest env) Q E { s₀ with heap := h', toks := tk' }) : wpC M A (execs (st :: rest) env) Q E s :=
  wpC_execs_cons (wpC_mono h1 (fun f s' hf => by
    obtain ⟨rfl, h', tk', rfl, F, N⟩ := hf
    exact h2 h' tk' F N) fun _ _ e => e)
theorem beh_sub {prog : Program} {w : World} {A : Around} {E : Value → Shared → Prop} {s : Shared} {h₀ : Heap} {L l : Addr} {news : List (Addr × Obj)} {t0 t1 t2 t3 t4 : Tok} {cap : Nat} {k : Int} {u : Tok} {value slice : PySem.Expr} {Q : Value → Shared → Prop}
    (N : News h₀ L s.heap news) (hm : (l, listOf #[.bytes #[] t0, .bytes #[32, 120] t1, .bytes #[41] t2, .bytes #[40, 121, 41] t3, .bytes #[10] t4] cap) ∈ news) (h0 : 0 ≤ k) (h1 : k < 5)
    (h : ∀ beh t, beh.length ≤ 3 → Q (.bytes (List.toArray beh) t) s)
    (hs : subscripted slice false (.ref l) (.int k u) = operate [.ref l, .int k u] (getItem (.ref l) (.int k u)) := by with_unfolding_all rfl) (hg : ∀ r, letTemporaryGo value (.ref l) r = pure () := by intro _; with_unfolding_all rfl) :
    wpAny (model prog w) A (subscriptTail value slice (.ref l) (.int k u)) Q E s := by
  have hc : k.toNat = 0 ∨ k.toNat = 1 ∨ k.toNat = 2 ∨ k.toNat = 3 ∨ k.toNat = 4 := by omega
  rcases hc with e | e | e | e | e
  · exact kim_list N hm rfl rfl h0 (by omega) (by rw [e]; rfl) (h [] t0 (by decide)) hs hg
  · exact kim_list N hm rfl rfl h0 (by omega) (by rw [e]; rfl) (h [32, 120] t1 (by decide)) hs hg
  · exact kim_list N hm rfl rfl h0 (by omega) (by rw [e]; rfl) (h [41] t2 (by decide)) hs hg
  · exact kim_list N hm rfl rfl h0 (by omega) (by rw [e]; rfl) (h [40, 121, 41] t3 (by decide)) hs hg
  · exact kim_list N hm rfl rfl h0 (by omega) (by rw [e]; rfl) (h [10] t4 (by decide)) hs hg
def BtK (M : Model) (A : Around) (E : Value → Shared → Prop) (env : Env) (e : PySem.Expr) (Q : Value → Shared → Prop) (f : Value) (s₁ : Shared) : Prop :=
  f = .type "bytes" ∧ wpC M A (eval e env) (fun v s₂ => wpAny M A (call (.type "bytes") [v]) Q E s₂) E s₁
theorem wpC_bytes1 {M : Model} {A : Around} {E : Value → Shared → Prop} {s : Shared} {env : Env} {x : Str} {p pos : Pos} {e : PySem.Expr} {Q : Value → Shared → Prop} (ht : backTo pos (starEach [e] env) = [(false, eval e env)])
    (h : wpAny M A (eval (.Name x p) env) (BtK M A E env e Q) E s) : wpC M A (eval (.Call (.Name x p) [e] [] pos) env) Q E s :=
  wpC_Call_Name ht (wpAny_mono h (fun f s₁ h₁ => by obtain ⟨rfl, h₁⟩ := h₁; exact wpC_callWith_type1 h₁) fun _ _ x => x)
theorem law_holds : PySem.Challenge.rw_on0258_01.Holds := by
  refine MineHead.hd ?_
  k_fill
  intro w s₀ s₁ mg mb G Y fa o pm cd doc dV kV ho hd hcd hD hmg hg args vals as hpre hlay hrd hwl hlo
  have KX := kIn_of Y
  have X := (Ground.X G).1
  have V := (Ground.X G).2
  try w_nolog (first | (have GL := glob_more (Ground.glob G (by first | k_qdec | decide +kernel)) V) | (have GL := glob_more (Ground.glob G (by decide +kernel)) V))
  refine Ground.open G ?_
  intro T B D TE TW
  try (refine guard_noD D (by decide +kernel) ?_; clear D)
  obtain ⟨_, _, M⟩ := bmod_of_top T
  have TA := at_of_top T
  try (obtain ⟨_, _, he, B0⟩ := based_of_top T rfl hmg ho hd; have he' : cd = _ := he; subst he'; clear he)
  clear hmg
  wrow_args hpre hlay hrd hwl hlo
  have he := Dflts.none hD rfl
  subst he
  refine guard_of (wpC_call (codeC_mono ?_ fun r s' (g : GoodWG _ _ _ _ s₁ r s') => by rcases g.1 with ⟨v, _, _, rfl, _⟩ | ⟨e, _, _, rfl, _⟩ <;> exact g)) (good_true (fun _ => rfl) (by wrow_post) hg fun _ _ e => e)
  refine codeC_fullW (by decide) ho hd (Top.nolimit T) hcd (BindsTo.of_eq rfl) (locs rfl) fun h₁ F => ?_
  w_binds F
  have B1 := below_caller s₁.heap
  have N0 : News s₁.heap s₁.heap.objs.size h₁ [] := News.nil
  refine wpC_fold ?_
  intro qc ec
  walk_at "my leaf"
  k_steps
  unfold Stop
  refine tape_spec B1 (by assumption) KX (by assumption) T rfl (by assumption) (by assumption) (by omega) (by ktr_room) (by ktr_units) ?_
  intro t c od items cap zs S tS h2 tk2 F2 N2 hod hz htc hlen
  clear F N0
  k_steps
  dsimp only
  walk_at "my leaf"
  k_steps
  unfold Stop
  refine lnext_spec B1 (by assumption) KX (by assumption) T rfl hod hz htc (by intro q h; cases h) (by intro q h; cases h) hlen (by decide) (by ktr_room) (by ktr_units) ?_
  clear hod hz hlen
  intro k u hk0 hk1 od items cap zs S tS h2 tk2 F2 N2 hod hz hlen
  k_steps
  unfold Stop
  refine parts_all 3 B1 (by assumption) KX (by assumption) T rfl ⟨_, _, _, hod, hz, hlen⟩ htc (by intro q h; cases h) (by intro q h; cases h) (n := k.toNat) (by omega) rfl (by omega) (by decide) (by ktr_room) (by ktr_units) ?_
  clear hod hz hlen
  intro told meant tt t1 t2 od items cap h2 tk2 hP F2 N2 hT
  obtain ⟨zs, S, tS, hod, hz, hlen⟩ := hT
  k_steps
  dsimp only
  rename News _ _ _ _ => N2
  have N3 := fun q hq => N2 q (List.mem_cons_of_mem _ hq)
  clear N2
  have hsm : told.length ≤ 2000 ∧ meant.length ≤ 2000 := by
    have := hP.small
    have e : partMax 3 = 161 := rfl
    rw [e] at this
    omega
  obtain ⟨hl1, hl2⟩ := hsm
  walk_at "my leaf"
  k_steps
  unfold Stop
  rename News _ _ _ _ => N2
  refine lnext_spec B1 (by assumption) KX (news_rot N2) T rfl hod hz htc (by intro q hq; rcases List.mem_singleton.mp hq with rfl; k_ne) (by intro q hq; rcases List.mem_singleton.mp hq with rfl; k_ne) hlen (by decide) (by ktr_room) (by ktr_units) ?_
  clear hod hz hlen N2
  intro k2 u2 hj0 hj1 od items cap zs S tS h2 tk2 F2 N2 hod hz hlen
  k_steps
  unfold Stop
  refine kba_turn (value' := PySem.Expr.Name (PySem.Str.ofString "_") ⟨0, 0, 0, 0⟩) (fun _ => rfl) ?_
  refine beh_sub N2 (.tail _ (.tail _ (.head _))) (by omega) (by omega) ?_
  intro beh tb hbeh
  k_steps
  dsimp only
  rename News _ _ _ _ => N3
  have N4 : News s₁.heap s₁.heap.objs.size _ [(t, od), (c, listOf (List.toArray items) cap)] := fun q hq => N3 q (by
    rcases List.mem_cons.mp hq with rfl | hq
    · exact .head _
    · rcases List.mem_cons.mp hq with rfl | hq
      · exact .tail _ (.head _)
      · cases hq)
  clear N3
  walk_at "my leaf"
  k_steps
  dsimp only
  rename Fr s₁.heap _ _ _ => F4
  rename News s₁.heap _ _ _ => N4
  have hw : scanF ([40] ++ told ++ [41] ++ beh) (([40] ++ told ++ [41] ++ beh).length + 1) 1 1 [] = some (meant, ([40] ++ told ++ [41]).length) := scan_whole hP
  have hcut : ∀ k, 1 ≤ k → k < ([40] ++ told ++ [41]).length → scanF (([40] ++ told ++ [41]).take k) ((([40] ++ told ++ [41]).take k).length + 1) 1 1 [] = none := fun k => scan_short hP
  have hwl : ([40] ++ told ++ [41]).length = told.length + 2 := by simp
  generalize [40] ++ told ++ [41] = wh at hw hcut hwl F4
  walk_at "my leaf"
  k_steps
  dsimp only
  with_reducible refine wpC_execs_cons ?_
  refine wpC_If (wpC_isTrue_or (wpC_isTrue_Compare1 (wpC_bytes1 rfl ?_)))
  k_steps
  refine ⟨rfl, ?_⟩
  refine wpC_Call_fn (a := 133) rfl rfl ?_
  k_steps
  refine ⟨rfl, ?_⟩
  k_steps
  refine ⟨⟨_, _, KX.keeps (Fr.keep (by assumption)) 133 _ rfl, rfl⟩, ?_⟩
  rename News s₁.heap _ _ _ => N3
  refine string_spec (b := wh ++ beh) (i := 1) B1 (by assumption) KX N3 T rfl (by assumption) (by intro q hq; simp only [List.mem_cons, List.not_mem_nil, or_false] at hq; rcases hq with rfl | rfl <;> k_ne) (by rw [List.length_append]; omega) (by rw [List.length_append]; omega) (by ktr_room) ?_ ?_
  rotate_left
  · intro hsc
    exact absurd (hw.symm.trans hsc) (by intro q; cases q)
  intro r j hsc h3 tk3 u3 ti3 F3 N4
  have e := hw.symm.trans hsc
  cases e
  refine by_toBytes ?_
  k_steps
  · rename (_ != _) = true => hne
    simp at hne
  · rename ((_ : Int) ≠ _) => hne
    exact absurd rfl hne
  with_reducible refine wpC_execs_nil ?_
  dsimp only
  rename Fr s₁.heap _ _ _ => F5
  rename News s₁.heap _ _ _ => N5
  refine wpC_mid (s₀ := s₁) (news := [(t, od), (c, listOf (List.toArray items) cap)]) F5 (fun q hq => N5 q (.tail _ (.tail _ hq))) ?_ ?_
  · with_reducible refine wpC_of ?_
    k_steps
    unfold Stop
    rename News s₁.heap _ _ _ => N6
    refine next_spec (b := wh ++ beh) (i := wh.length) B1 (by assumption) KX N6 T rfl (by assumption) (by intro q hq; simp only [List.mem_cons, List.not_mem_nil, or_false] at hq; rcases hq with rfl | rfl <;> k_ne) (by rw [List.length_append]; omega) (by ktr_room) ?_ ?_
    · intro hle h' tk' F7 N7
      obtain rfl : beh = [] := by
        rw [List.length_append] at hle
        exact List.eq_nil_of_length_eq_zero (by omega)
      k_steps
      exact ⟨rfl, _, _, rfl, by assumption, fun q hq => N7 q (.tail _ (.tail _ hq))⟩
    · intro c' hc' h' tk' u' ti' F7 N7
      obtain ⟨tl, rfl⟩ : ∃ tl, beh = c' :: tl := by
        rw [List.getElem?_append_right (Nat.le_refl _), Nat.sub_self] at hc'
        cases beh with
        | nil => cases hc'
        | cons x y => cases hc'; exact ⟨y, rfl⟩
      have hbl : tl.length + 1 ≤ 3 := hbeh
      k_steps
      · unfold Stop
        refine item_my (by rw [List.length_cons]; omega) (by decide) (by rw [List.length_cons]; omega) ?_
        intro c2 u2 k2 hc2
        obtain rfl : c' = c2 := by simpa using hc2
        k_steps
        · rename ((_ : Int) ≠ _) => hne
          exact absurd rfl hne
        · exact ⟨rfl, _, _, rfl, by assumption, fun q hq => N7 q (.tail _ (.tail _ hq))⟩
      · rename (_ != _) = false => hne
        simp at hne
  intro h6 tk6 F6 N6
  with_reducible refine wpC_execs_cons ?_
  refine wpC_Return_some (wpC_Call_fn (a := 166) rfl rfl ?_)
  k_steps
  refine ⟨rfl, ?_⟩
  k_steps
  unfold Stop
  refine lnext_spec B1 (by assumption) KX (by assumption) T rfl hod hz htc (by intro q h; cases h) (by intro q h; cases h) hlen (by omega) (by ktr_room) (by ktr_units) ?_
  clear hod hz hlen
  intro k3 u3 hj0 hj1 od items cap zs S tS h2 tk2 F2 N2 hod hz hlen
  k_steps
  refine ⟨⟨_, _, KX.keeps (Fr.keep (by assumption)) 166 _ rfl, rfl⟩, ?_⟩
  refine cut_spec B1 (by assumption) KX KX T (by assumption) T rfl (Nat.le_refl _) (by rw [List.length_take]; omega) (by rw [List.length_take]; omega) (hcut _ (by omega) (by omega)) (by ktr_room) ?_
  intro h' tk' st
  exact good_true (fun _ => rfl) (by wrow_post) hg st
end Mine

theorem PySem.Challenge.cw_on0258_01_holds : PySem.Challenge.rw_on0258_01.Holds := by
  exact Mine.law_holds
