import PyProof.Rows.All
import Wide.All
import OpenK.AllK
import Wide.FinOn
import PyProof.ExcBaseAll.Exception
import Lean
import PySem.Challenge.RW_pq1181_01
set_option Elab.async false
set_option maxRecDepth 100000
set_option rowWalk.seconds 0
set_option compiler.extract_closed false
local macro_rules | `(tactic| walk_at $s:str) => `(tactic| k_extra $s)
section
open PySem PySem.W PyProof.Rows PySem.Spec PySem.Calls
namespace Mine
set_option maxRecDepth 100000

/-! ## The logic over clean contexts: no built-in stands on the stack that holds a bytearray -/
def heldIds : List String := ["bytearray.__contains__", "bytearray.__mod__", "bytearray.__rmod__", "_struct.pack_into.held", "bytearray.find.held"] ++ Builtin.Bytes.decodersThatHold
def okCode : Code → Bool
  | .builtin id _ => !(heldIds.contains id)
  | _ => true
def CleanL (l : List (Code × Pos)) : Prop := ∀ x ∈ l, okCode x.1 = true

def wpC {α : Type} (M : Model) (A : Around) (t : Sem α) (Q : α → Shared → Prop) (E : Value → Shared → Prop) (s : Shared) : Prop :=
  ∀ Γ p, Γ.In A → okCode Γ.code = true → CleanL Γ.below → Sem.wp M Γ t (fun a _ s' => Q a s') (fun e _ s' => E e s') p s
def codeC (M : Model) (A : Around) (c : Code) (R : Result → Shared → Prop) (s : Shared) : Prop :=
  ∀ Γ p, Γ.code = c → Γ.Below A → CleanL Γ.below → wpCode M Γ R p s

section
variable {α β : Type} {M : Model} {A : Around} {E : Value → Shared → Prop} {s : Shared}
theorem wpC.of {t : Sem α} {Q : α → Shared → Prop} (h : wpAny M A t Q E s) : wpC M A t Q E s := fun Γ p hΓ _ _ => h Γ p hΓ
theorem codeC.of {c : Code} {R : Result → Shared → Prop} (h : codeAny M A c R s) : codeC M A c R s := fun Γ p hc hΓ _ => h Γ p hc hΓ
theorem wpC_pure {a : α} {Q : α → Shared → Prop} (h : Q a s) : wpC M A (pure a) Q E s := .of (wpAny_pure h)
theorem wpC_mono {t : Sem α} {Q Q' : α → Shared → Prop} {E' : Value → Shared → Prop} (h : wpC M A t Q E s)
    (hQ : ∀ a s, Q a s → Q' a s) (hE : ∀ e s, E e s → E' e s) : wpC M A t Q' E' s :=
  fun Γ p hΓ ho hb => Sem.wp_mono M Γ t (fun a _ s => hQ a s) (fun e _ s => hE e s) p s (h Γ p hΓ ho hb)
theorem wpC_bind {m : Sem α} {f : α → Sem β} {Q : β → Shared → Prop} (h : wpC M A m (fun a s' => wpC M A (f a) Q E s') E s) :
    wpC M A (m >>= f) Q E s := fun Γ p hΓ ho hb => by
  rw [Sem.wp_bind']
  exact Sem.wp_mono M Γ m (fun a p' s' h' => h' Γ p' hΓ ho hb) (fun _ _ _ h' => h') p s (h Γ p hΓ ho hb)
theorem wpC_onRaise {m : Sem α} {k : Value → Sem Unit} {Q : α → Shared → Prop}
    (h : wpC M A m Q (fun e s' => wpC M A (k e) (fun _ s'' => E e s'') E s') s) : wpC M A (m.onRaise k) Q E s := fun Γ p hΓ ho hb => by
  rw [Sem.wp_onRaise]
  exact Sem.wp_mono M Γ m (fun _ _ _ h' => h') (fun e p' s' h' => h' Γ p' hΓ ho hb) p s (h Γ p hΓ ho hb)
theorem wpC_tryCatch {m : Sem α} {k : Value → Sem α} {Q : α → Shared → Prop} (h : wpC M A m Q (fun e s' => wpC M A (k e) Q E s') s) :
    wpC M A (tryCatch m k) Q E s := fun Γ p hΓ ho hb => by
  rw [Sem.wp_tryCatch']
  exact Sem.wp_mono M Γ m (fun _ _ _ h' => h') (fun e p' s' h' => h' Γ p' hΓ ho hb) p s (h Γ p hΓ ho hb)
theorem wpC_holding {vs : List Value} {m : Sem α} {Q : α → Shared → Prop} (h : wpC M A m Q E s) : wpC M A (holding vs m) Q E s :=
  fun Γ p hΓ ho hb => by rw [Sem.wp_holding]; exact h Γ p hΓ ho hb
theorem wpC_ite {c : Prop} [Decidable c] {a b : Sem α} {Q : α → Shared → Prop} (h : if c then wpC M A a Q E s else wpC M A b Q E s) :
    wpC M A (if c then a else b) Q E s := by split <;> simp_all

theorem clean_enter {Γ : PySem.Ctx} {c : Code} {h : Option Value} {p : Pos} (ho : okCode Γ.code = true) (hb : CleanL Γ.below) : CleanL (Γ.enter c h p).below := by
  intro x hx
  rcases List.mem_cons.mp (show x ∈ (Γ.code, p) :: Γ.below from hx) with rfl | hx
  · exact ho
  · exact hb x hx
theorem wpC_run {c : Code} {h : Option Value} {Q : Flow → Shared → Prop}
    (hc : codeC M (A.mark h) c (fun r s' => match r with | .ok f => Q f s' | .error e => E e s') s) (hnb : h ≠ some byPass := by intro x; cases x) :
    wpC M A (run c h) Q E s :=
  fun Γ p hΓ ho hb => by rw [Sem.wp_run]; exact hc _ p rfl (hΓ.enter c h p hnb) (clean_enter ho hb)
theorem wpC_runValue {c : Code} {Q : Value → Shared → Prop}
    (hc : codeC M A c (fun r s' => match r with | .ok (.ret v) => Q v s' | .ok _ => False | .error e => E e s') s) :
    wpC M A (runValue c) Q E s := fun Γ p hΓ ho hb => by rw [Sem.wp_runValue]; exact hc _ p rfl (hΓ.enter c none p (by intro x; cases x)) (clean_enter ho hb)
theorem wpC_call {f : Value} {pos : List Value} {kw : List (Str × Value)} {Q : Value → Shared → Prop}
    (hc : codeC M A (.call f ⟨pos, kw⟩) (fun r s' => match r with | .ok (.ret v) => Q v s' | .ok _ => False | .error e => E e s') s) :
    wpC M A (call f pos kw) Q E s := wpC_runValue hc
theorem codeC_of_tree {c : Code} {R : Result → Shared → Prop} (ho : okCode c = true)
    (h : wpC M (A.under c) (M.den c) (fun fin s' => match fin with | .done f => R (.ok f) s' | .again c' => c'.quiet = true ∧ codeC M A c' R s')
      (fun e s' => R (.error e) s') s) : codeC M A c R s := fun Γ p hc hΓ hb => by
  rw [wpCode_iff_wp, hc]
  refine Sem.wp_mono M Γ _ (fun fin p' s' h' => ?_) (fun _ _ _ h' => h') p s (h Γ p (hc ▸ hΓ.in) (hc ▸ ho) hb)
  cases fin with
  | done f => exact h'
  | again c' => exact ⟨h'.1, h'.2 (Γ.goto c') p' rfl (hΓ.goto c') hb⟩
theorem codeC_mono {c : Code} {R R' : Result → Shared → Prop} (h : codeC M A c R s) (hR : ∀ r s, R r s → R' r s) : codeC M A c R' s :=
  fun Γ p hc hΓ hb => wpCode_mono hR (h Γ p hc hΓ hb)
theorem codeC_loop {c : Code} {R : Result → Shared → Prop} (hq : c.quiet = true) (ho : okCode c = true) (I : Nat → Shared → Prop)
    (turn : ∀ n s, I n s → wpC M (A.under c) (M.den c)
      (fun fin s' => match fin with | .done f => R (.ok f) s' | .again c' => c' = c ∧ ∃ m, m < n ∧ I m s') (fun e s' => R (.error e) s') s)
    (n : Nat) (h : I n s) : codeC M A c R s := by
  induction n using Nat.strongRecOn generalizing s with
  | ind n ih =>
    refine codeC_of_tree ho (wpC_mono (turn n s h) (fun fin s' hf => ?_) fun _ _ h' => h')
    cases fin with
    | done f => exact hf
    | again c' => obtain ⟨rfl, m, hm, hI⟩ := hf; exact ⟨hq, ih m hm hI⟩
end

section
variable {M : Model} {A : Around} {E : Value → Shared → Prop} {s : Shared} {env : Env}
theorem wpC_execs_nil {Q : Flow → Shared → Prop} (h : Q .next s) : wpC M A (execs [] env) Q E s := wpC_pure h
theorem wpC_execs_cons {st : Stmt} {rest : List Stmt} {Q : Flow → Shared → Prop}
    (h : wpC M A (exec st env) (fun f s' => match f with | .next => wpC M A (execs rest env) Q E s' | f => Q f s') E s) :
    wpC M A (execs (st :: rest) env) Q E s := by
  rw [execs_cons]
  refine wpC_bind (wpC_mono h (fun f s' h' => ?_) fun _ _ x => x)
  cases f <;> first | exact h' | exact wpC_pure h'
theorem wpC_standAt {pos : Pos} {β : Type} {k : Sem β} {Q : β → Shared → Prop} (h : wpC M A k Q E s) : wpC M A (standAt pos >>= fun _ => k) Q E s :=
  wpC_bind (.of (wpAny_standAt h))
theorem wpC_If {test : Expr} {body orelse : List Stmt} {pos : Pos} {Q : Flow → Shared → Prop}
    (h : wpAny M A (isTrue test env (eval test env))
      (fun b s₂ => if b = true then wpC M A (execs body env) Q E s₂ else wpC M A (execs orelse env) Q E s₂) E s) :
    wpC M A (exec (.If test body orelse pos) env) Q E s := by
  rw [exec_If]
  refine wpC_standAt (wpC_bind (.of (wpAny_mono h (fun b s₂ h₂ => ?_) fun _ _ x => x)))
  cases b
  · simpa using h₂
  · simpa using h₂
theorem wpC_Expr {e : Expr} {pos : Pos} {Q : Flow → Shared → Prop} (h : wpC M A (eval e env) (fun v s' => match v with | .ref _ => False | _ => Q .next s') E s)
    (hi : interactive env = false := by rfl) (hs : swapsWith e none pos.line env = pure false := by rfl) :
    wpC M A (exec (.Expr e pos) env) Q E s := by
  rw [exec_Expr env e pos hi hs]
  refine wpC_standAt (wpC_bind (wpC_mono h (fun v s' h' => ?_) fun _ _ x => x))
  have hv : ∀ a, v ≠ .ref a := fun a hva => by subst hva; exact h'
  rw [dropValue_plain hv]
  refine wpC_pure ?_
  cases v <;> first | exact h' | exact (hv _ rfl).elim
theorem wpC_Return {e : Expr} {pos : Pos} {Q : Flow → Shared → Prop} (h : wpC M A (eval e env) (fun v s' => Q (.ret v) s') E s) : wpC M A (exec (.Return (some e) pos) env) Q E s := by
  rw [exec_Return_some]
  exact wpC_standAt (wpC_bind (wpC_mono h (fun v s' h' => wpC_pure h') fun _ _ x => x))
theorem wpC_runOwn {c : Code} {Q : Flow → Shared → Prop}
    (hc : codeC M A c (fun r s' => match r with | .ok f => Q f s' | .error e => cameBackBy M A env E e s') s) :
    wpC M A (runOwn c env none) Q E s := by
  unfold runOwn
  refine wpC_onRaise (wpC_run (codeC_mono hc fun r s' h' => ?_))
  cases r with
  | ok f => exact h'
  | error e => exact .of h'
theorem wpC_noted {α : Type} {m : Sem α} {Q : α → Shared → Prop} (h : wpC M A m Q (notedBy M A env E) s) : wpC M A (m.onRaise fun x => do noteFrame x env; theTreesLotGoes x) Q E s :=
  wpC_onRaise (wpC_mono h (fun _ _ q => q) fun _ _ hx => .of (wpAny_bind (wpAny_mono hx (fun _ _ e => wpAny_theTreesLotGoes e) fun _ _ e => e)))
end

section
variable {prog : Program} {w : World} {A : Around} {E : Value → Shared → Prop} {Q : Flow → Shared → Prop} {s : Shared} {env : Env} {h₀ : Heap} {L : Addr}
/-- a while whose test is a leaf and whose body is not -/
theorem While_C {test : Expr} {body : List Stmt} {pos : Pos} {m : Str → Option Value} {news : List (Addr × Obj)} (J : Nat → (Str → Option Value) → List (Addr × Obj) → Prop) {n₀ : Nat}
    (F : Fr h₀ L s.heap m) (N : News h₀ L s.heap news) (hJ : J n₀ m news)
    (turn : ∀ n m₁ news₁ h₁ tk₁, Fr h₀ L h₁ m₁ → News h₀ L h₁ news₁ → J n m₁ news₁ →
      wpAny (model prog w) A (isTrue test env (eval test env)) (fun b s₂ =>
        if b = true then wpC (model prog w) A (execs body env) (WhileStep2 h₀ L s J Q n) E s₂ else Q .next s₂) E { s with heap := h₁, toks := tk₁ })
    (hE : PassesOwn (model prog w) A env E := by passes_own) :
    wpC (model prog w) A (exec (.While test body [] pos) env) Q E s := by
  rw [exec_While]
  refine wpC_standAt (wpC_runOwn ?_)
  refine codeC_loop rfl rfl (fun n s' => ∃ h₁ tk₁ m₁ news₁, s' = { s with heap := h₁, toks := tk₁ } ∧ Fr h₀ L h₁ m₁ ∧ News h₀ L h₁ news₁ ∧ J n m₁ news₁) ?_ n₀ ⟨s.heap, s.toks, m, news, rfl, F, N, hJ⟩
  rintro n s' ⟨h₁, tk₁, m₁, news₁, rfl, F₁, N₁, J₁⟩
  show wpC _ A ((whileTurn test body [] env).onRaise (fun x => do noteFrame x env; theTreesLotGoes x)) _ _ _
  refine wpC_noted ?_
  simp only [whileTurn]
  refine wpC_bind (.of (wpAny_mono (turn n m₁ news₁ h₁ tk₁ F₁ N₁ J₁) (fun b s₂ h₂ => ?_) hE))
  cases b with
  | false =>
    simp only [Bool.false_eq_true, if_false] at h₂ ⊢
    exact wpC_bind (wpC_execs_nil (wpC_pure h₂))
  | true =>
    simp only [if_true] at h₂ ⊢
    refine wpC_bind (wpC_mono h₂ (fun f s₃ h₃ => ?_) hE)
    cases f with
    | next =>
      obtain ⟨h', tk, m₂, news₂, n', rfl, F₂, N₂, hn, J₂⟩ := h₃
      exact wpC_pure ⟨rfl, n', hn, h', tk, m₂, news₂, rfl, F₂, N₂, J₂⟩
    | cont =>
      obtain ⟨h', tk, m₂, news₂, n', rfl, F₂, N₂, hn, J₂⟩ := h₃
      exact wpC_pure ⟨rfl, n', hn, h', tk, m₂, news₂, rfl, F₂, N₂, J₂⟩
    | brk => exact wpC_pure h₃
    | ret v => exact wpC_pure h₃
end

section
variable {prog : Program} {w : World} {A : Around} {R : Result → Shared → Prop} {s : Shared}
theorem codeC_func {body : List Stmt} {env : Env}
    (h : wpC (model prog w) (A.deeper env) (execs body env) (fun f s' => R (.ok (.ret (match f with | .ret v => v | _ => .none))) s')
      (fun e s' => wpAny (model prog w) (A.deeper env) (leaving env e) (fun _ s'' => R (.error e) s'') (fun e' s'' => R (.error e') s'') s') s) :
    codeC (model prog w) A (.func body env) R s := by
  refine codeC_of_tree rfl ?_
  show wpC _ (A.deeper env) (do point; match ← (execs body env).onRaise (leaving env) with | .ret v => ret v | _ => ret .none) _ _ s
  refine wpC_bind (.of (wpAny_point (wpC_bind (wpC_onRaise (wpC_mono h (fun f s' h' => ?_) fun _ _ h' => .of h')))))
  cases f <;> exact wpC_pure h'
theorem codeC_call_function {a : Addr} {args : Args} {o : Obj} {fd : FuncData} {body : List Stmt} (hroom : A.depth < recursionLimit)
    (ho : s.heap.get? a = some o) (hd' : o.data = .func fd) (hco : fd.scope.isCoroutine = false) (hgen : fd.scope.isGenerator = false) (hbody : fd.body = .stmts body) (hcd : s.heap.CodeRec fd.code fd.qualname)
    (h : wpAny (model prog w) A.in1 (bindArgs fd args) (fun binds s₁ =>
      wpAny (model prog w) A.in1 (newFunctionEnv fd.scope fd.globals fd.closure binds (fd.qualname ++ ".<locals>.") (some a) fd.code none fd.builtins)
        (fun env s₂ => s₂.heap.NoLimit ∧ codeC (model prog w) A (.func body env) R s₂) (fun e s' => R (.error e) s') s₁) (fun e s' => R (.error e) s') s) :
    codeC (model prog w) A (.call (.ref a) args) R s := by
  refine codeC_of_tree rfl (.of ?_)
  show wpAny _ A.in1 (callAny (.ref a) args) _ _ s
  simp only [callAny]
  refine wpAny_bind (wpAny_load ho ?_)
  obtain ⟨c, oc, vs, tq, hc, hoc, hdc, hq⟩ := hcd
  simp only [hd', callFunction, hco, hgen, hbody, hc]
  rw [hc] at h
  refine wpAny_bind (m := field (.ref c) 1) (wpAny_field hoc hdc hq (wpAny_bind (wpAny_pure ?_)))
  exact wpAny_bind (wpAny_mono h (fun binds s₁ h₁ => wpAny_bind (wpAny_mono h₁ (fun env s₂ h₂ => wpAny_bind (wpAny_enterFrame h₂.1 hroom
    (wpAny_pure (And.intro rfl h₂.2)))) fun _ _ h' => h')) fun _ _ h' => h')
end

section
variable {prog : Program} {w : World} {A A₀ : Around} {R : Result → Shared → Prop} {E : Value → Shared → Prop} {s : Shared} {env : Env} {outer : List Env} {base h₀ : Heap} {L : Addr} {m mg mb : Str → Option Value} {news : List (Addr × Obj)} {K : Frag} {p : Program} {loose : List Str} {mean : ExcName → Option Value}
/-- a def of the text's own is entered: the shape of code_def, over clean contexts -/
theorem defC {name qual : Str} {params : Arguments} {body : List Stmt} {scope : Scope} {dV kV doc pm cdv ct oc : Value} {an od : Option Addr} {osl : Array (Option Value)} {f : Addr} {args : Args} {binds : List (Str × Value)}
    (B : Below A₀ base outer h₀) (F : Fr h₀ L s.heap m) (X₀ : K.In h₀) (N : News h₀ L s.heap news) (T : Top p loose mean mg mb h₀) (hA : A.frames = some (env :: outer)) (hf : env.frame = some L) (hke : env.scope.kind = .function)
    (ho : K.lookup f = some ⟨oc, od, .func (fnOf name qual params body scope dV kV doc pm an cdv ct), osl⟩) (hcd : codeIn K cdv qual = true) (hroom : A.depth < recursionLimit)
    (hbind : BindsTo s (fnOf name qual params body scope dV kV doc pm an cdv ct) args binds) (hloc : ∀ y ∈ binds, scope.names.lookup y.1 = some .local)
    (h : ∀ g L' h₁, Fr h₀ L g m → Fr g L' h₁ (fun y => binds.reverse.lookup y) → News g L' h₁ news → Below A base (env :: outer) g → K.In g → Top p loose mean mg mb g →
      wpC (model prog w) (A.deeper (envOf qual scope L' f cdv)) (execs body (envOf qual scope L' f cdv))
        (fun fl s' => LeaveK h₀ L m g R (match fl with | .ret v => v | _ => .none) s')
        (fun e s' => wpAny (model prog w) (A.deeper (envOf qual scope L' f cdv)) (leaving (envOf qual scope L' f cdv) e) (fun _ s'' => R (.error e) s'') (fun e' s'' => R (.error e') s'') s')
        { s with heap := h₁, toks := s.toks + binds.length })
    (hco : scope.isCoroutine = false) (hgen : scope.isGenerator = false) (hk : scope.kind = .function)
    (hcell : ∀ x ∈ scope.names, x.2 ≠ .cell) : codeC (model prog w) A (.call (.ref f) args) R s := by
  obtain ⟨FG, BG, st, lv⟩ := groundX (R := R) B F N hA hf hke
  have hfo := (X₀.keeps F.keep) _ _ ho
  refine codeC_call_function hroom hfo rfl hco hgen rfl (codeRec_of (X₀.keeps F.keep) hcd) (hbind _ _ _ _ ?_)
  refine wpAny_newFunctionEnv hcell hloc (fun h₁ hns hsb => ⟨(T.nolimit.keeps F.keep).fresh _ hsb, codeC_func ?_⟩) hk
  have hk₁ : ∀ b o, s.heap.get? b = some o → h₁.get? b = some o := fun b o e => hsb.extBut b o (Nat.ne_of_lt (Heap.lt_size e)) (Heap.get?_push_of_some _ e)
  exact wpC_mono (h _ s.heap.objs.size h₁ FG ⟨hns, fun b o e => hk₁ b o (of_hideAll _ e), Nat.le_of_eq (hideAll_size _ _)⟩
    (fun p hp => ⟨hk₁ _ _ (N p hp).1, Nat.ne_of_lt (Heap.lt_size (N p hp).1), hideAll_none _ (List.mem_map_of_mem hp)⟩) BG (X₀.keeps st) (T.keeps st)) (fun fl s' hl => lv _ _ hl) fun _ _ y => y
end
end Mine
end
section
open PySem PySem.W PyProof.Rows PySem.Spec PySem.Calls
namespace Mine
set_option maxRecDepth 100000
/-! ## The head: the claim's own caller is a clean context -/
theorem clean_caller : okCode (Code.builtin "claim.caller" {}) = true := by decide +kernel
theorem thread_endsC {prog : Program} {w : World} {t : Sem Fin} {s : Shared} {R : Result → Shared → Prop} (hreg : s.asleep)
    (h : wpC (model prog w) callerA t (fun fin s' => ∃ f, fin = .done f ∧ (R (.ok f) s' ∧ leftWithCleanup s'.gens = false)) (fun e s' => R (.error e) s' ∧ leftWithCleanup s'.gens = false) s) :
    ∃ n r s' s'', runN (denote table) prog w n s ⟨t, .builtin "claim.caller" {}, default, []⟩ = .halted (outcomeOf r) s' ∧
      schedN (denote table) prog w n (.single s ⟨t, .builtin "claim.caller" {}, default, []⟩) = .halted (outcomeOf r) s' ∧ s'.forget = s''.forget ∧ R r s'' := by
  have hw : Sem.wp (model prog w) ⟨.builtin "claim.caller" {}, none, none, [], none⟩ t (Sem.finPost (model prog w) ⟨.builtin "claim.caller" {}, none, none, [], none⟩ fun r s' => R r s' ∧ leftWithCleanup s'.gens = false)
      (fun e _ s' => R (.error e) s' ∧ leftWithCleanup s'.gens = false) default s := by
    refine Sem.wp_mono _ _ t (fun fin p' s' h' => ?_) (fun _ _ _ h' => h') default s (h _ default caller_in clean_caller (fun _ hx => nomatch hx))
    obtain ⟨f, rfl, hf⟩ := h'
    exact hf
  obtain ⟨n, r, s₁, s₂, hs, hn, hfo, hR⟩ := wp_halts_full (M := model prog w) (R := R) hreg hw
  exact ⟨n, r, s₂, s₁, hn, hs, hfo, hR⟩

theorem callFrom_C {c : ClaimW} {tree : List Value → Sem Fin} {w : World} {s : Shared} {free : Addr → Prop} {gens : Prop} {kept : Heap → Prop} (hz : s.asleep) (hgens : s.gens = #[])
    (hspec : ∀ args, c.pre args = true → WData.layableAll args = true →
      ∀ ord : List DictEntry → List DictEntry, (∀ l, (ord l).Perm l) →
      ∃ vs s₁, layAllW c.records (classAt s.heap) w.params ord args s = some (vs, s₁) ∧
        wpC (model c.prog w) callerA (tree vs) (fun fin s' => ∃ f, fin = .done f ∧ (c.Ends s args vs s₁ (.ok f) s' ∧ s'.os = s.os ∧ AllBare s'.gens ∧ kept s'.heap))
          (fun e s' => c.Ends s args vs s₁ (.error e) s' ∧ s'.os = s.os ∧ AllBare s'.gens ∧ kept s'.heap) s₁) :
    c.CallFrom (fun vs => ⟨tree vs, .builtin "claim.caller" {}, default, []⟩) w free gens kept s := by
  intro args hpre hlay ord hord
  obtain ⟨vs, s₁, hlaid, hcode⟩ := hspec args hpre hlay ord hord
  have hal := layAllW_rest _ _ _ hlaid
  obtain ⟨k, r, s', s'', hrun, hsched, hfo, hcase, hos, hkp⟩ := thread_endsC (prog := c.prog) (w := w) (t := tree vs) (s := s₁)
    (R := fun r s' => c.Ends s args vs s₁ r s' ∧ s'.os = s.os ∧ kept s'.heap)
    (Shared.asleep_of_life hal.2.2.2 hz)
    (wpC_mono hcode (fun _ _ ⟨f, e, h1, h2, h3, h4⟩ => ⟨f, e, ⟨h1, h2, h4⟩, leftWithCleanup_false_of_bare h3⟩)
      fun _ _ ⟨h1, h2, h3, h4⟩ => ⟨⟨h1, h2, h4⟩, leftWithCleanup_false_of_bare h3⟩)
  obtain ⟨eh, _, _, eo, _⟩ := Shared.forget_eq hfo
  have hcase := hcase.congr eh
  have hkp : kept s'.heap := eh ▸ hkp
  rw [← eo] at hos
  have hlife : s'.heap.life = s.heap.life := (runN_life _ _ _ hrun).trans hal.2.2.2
  refine ⟨vs, s₁, hlaid, k, _, s', hsched, ?_, (fun _ i x hx => by rw [hgens] at hx; simp at hx), hkp, by rw [hlife], Shared.rest_eq hos⟩
  rcases hcase with ⟨v, rfl, d1, d2, d3, d4, d5⟩ | ⟨e, ob, cls, rfl, d1, d2, d3, d4, d5⟩
  · exact .inl ⟨v, rfl, d1, d2, d3, fun b o y _ => d4 b o y, d5⟩
  · exact .inr ⟨e, ob, cls, rfl, d1, d2, d3, d4, fun b o y _ => d5 b o y⟩

abbrev WalkC (q : Program) (loose : List Str) (XP : (Str → Option Value) → Heap → Prop) (YP : World → Heap → Prop) (r : RowW) (d : DefRec) (kwd : List (Str × Expr)) : Prop :=
  ∀ (w : World) (s₀ s₁ : Shared) (mg mb : Str → Option Value), Ground q loose r.records XP w s₀ mg mb s₁.heap → YP w s₁.heap → ∀ (a : Addr) (o : Obj) (pm cd doc dV kV : Value), s₁.heap.get? a = some o →
    o.data = .func { docDef d.name d.params d.body d.scope pm cd doc with defaults := dV, kwdefaults := kV } → s₁.heap.CodeRec cd d.name → Dflts mg s₁.heap d.params kwd dV kV → mg d.name = some (.ref a) → s₁.gens = #[] →
    ∀ (args : List WData) (vals : List Value) (as : List Addr), r.claim.pre args = true → WData.layableAll args = true → ReadsAllW r.records (classAt s₀.heap) s₁.heap vals args as → WellAll w.params s₁.heap vals args → (∀ a ∈ as, (a == sysModules) = false) →
      wpC (model r.prog w) callerA (PySem.call (.ref a) vals) (fun v s' => GoodWG r.claim (classAt s₀.heap) (ExcName.means s₀.heap) args s₁ (.ok (.ret v)) s')
        (fun e s' => GoodWG r.claim (classAt s₀.heap) (ExcName.means s₀.heap) args s₁ (.error e) s') s₁
end Mine

namespace Mine.Tops
open Mine
theorem left_of_boot {p q : Program} {loose : List Str} {Xt : Shared → Bool} {α : Type} {Yf : Shared → α} {Ya : World → α} {N : Nat} (he : opening p = plainProg p.main.scope.names) (hN : Nat.ble 600 N = true) (hf : ∀ s, fenceModules? p s = some s)
    (left : ∀ w : World, (fun os : OsState => (topFrom treeTable p w N ⟨boot_heap w.params, Array.mk [], boot_drawn, boot_toks, os⟩).map (fun s => (openSeen q loose (importedModules p.main.body) Xt true s, Yf s))) = fun _ => some (openGood q loose, Ya w)) :
    LeftO p q loose Xt Yf Ya N := fun w => by
  obtain ⟨s, hs, hv⟩ := Option.map_eq_some_iff.mp (boot_open he hN hf w)
  unfold openEnds
  rw [hs]
  obtain ⟨h, g, d, t, os⟩ := s
  injection hv with h1 hv
  injection hv with h2 hv
  injection hv with h3 h4
  subst h1 h2 h3 h4
  exact congrFun (left w) os
set_option maxRecDepth 100000
/-- the open head over clean contexts (the head's tactic asks for a lemma of this name) -/
theorem PySem.W.holds_open {r : OpenRow} {q : Program} {loose : List Str} {Xt : Shared → Bool} {XP : (Str → Option Value) → Heap → Prop} {α : Type} {Yf : Shared → α} {Ya : World → α} {YP : World → Heap → Prop} {d : DefRec} {kwd : List (Str × Expr)} {N : Nat}
    (left : ∀ w : World, (fun os : OsState => (topFrom treeTable r.prog w N ⟨boot_heap w.params, Array.mk [], boot_drawn, boot_toks, os⟩).map (fun s => (openSeen q loose (importedModules r.prog.main.body) Xt true s, Yf s))) = fun _ => some (openGood q loose, Ya w)) (hY : ∀ w s, Yf s = Ya w → YP w s.heap) (hYk : ∀ w h h', YP w h → (∀ b o, h.get? b = some o → h'.get? b = some o) → YP w h')
    (hX : ∀ s, Xt s = true → XP (s.heap.nsMap mainGlobals) s.heap) (hXk : ∀ mg h h', XP mg h → (∀ b o, h.get? b = some o → h'.get? b = some o) → XP mg h')
    (hdef : defOf q r.name = some (d, kwd)) (hp : r.prog.theDef r.name = some (d.params, d.body, d.scope)) (hk : kwWritten? d.params.kwonlyargs d.params.kw_defaults = some kwd) (hRf : ∀ s, Xt s = true → RecFacts r.records s.heap) (hwr : (!r.writes || r.records.isEmpty) = true)
    (k1 : r.wellSaid = true) (ok : (chainsOk q && opensWell r.prog && (frees r.toRowW && r.within.isEmpty)) = true) (hb : r.prog.bare) (hw : r.toRowW.promised)
    (call : WalkC q loose XP YP r.toRowW d kwd) (he : opening r.prog = plainProg r.prog.main.scope.names := by rfl) (hN : Nat.ble 600 N = true := by rfl) (hf : ∀ s, fenceModules? r.prog s = some s := by intro s; rfl) : r.Holds := by
  have left : LeftO r.prog q loose Xt Yf Ya N := left_of_boot he hN hf left
  refine ⟨k1, hw, ?_⟩
  obtain ⟨ok, k5⟩ := Bool.and_eq_true_iff.mp ok
  obtain ⟨hch, o1⟩ := Bool.and_eq_true_iff.mp ok
  obtain ⟨k5, k6⟩ := Bool.and_eq_true_iff.mp k5
  obtain ⟨hsame, hu, ha, hap, hm⟩ := frees_parts k5
  refine ⟨⟨hb, o1, by show r.toRowW.makers.map _ = []; rw [hm]; rfl⟩, hw.witness, fun w => ⟨(left.behind hX hch w).1, fun s' hs' => ?_⟩⟩
  obtain ⟨s₀, hf, hg0, s, hT, hz, hgens, hg, G00, y⟩ := (left.behind (XP := fun mg h => XP mg h ∧ RecFacts r.records h) (fun s hs => ⟨hX s hs, hRf s hs⟩) hch w).2 s' hs'
  have G0 : Ground q loose [] XP w s (s.heap.nsMap mainGlobals) (s.heap.nsMap builtinsNs) s.heap := ⟨G00.T, G00.B, G00.D, G00.TE, G00.TD, G00.W, G00.X.1, G00.cls, G00.has, G00.apart, G00.once, G00.K⟩
  have RF := G00.X.2
  refine ⟨s₀, hf, hg0, s, hT, fun n hn => ?_, RF.1, RF.2.1, ?_⟩
  · obtain rfl : n = r.name := by split at hn <;> simp_all
    exact pinned_of_view hg G0 hdef hp hk
  have hgens : s.gens = #[] := Array.eq_empty_of_size_eq_zero (beq_iff_eq.mp hgens)
  have G : Ground q loose r.records XP w s _ _ s.heap := RF.ground G0
  refine callFrom_C (c := r.toRowW.claim) hz hgens fun args hpre hlay ord hord => ?_
  obtain ⟨⟨vs, s₁⟩, hlaid⟩ := Option.isSome_iff_exists.mp (layAllW_isSome (P := w.params) (ord := ord) G.has args r.args s (pre_splitW hpre).1)
  have keeps := layAllW_keeps _ _ _ hlaid
  have hal := layAllW_rest _ _ _ hlaid
  obtain ⟨as, hrd, hin, hold⟩ := reads_layAllW hord _ _ _ hlaid hlay s₁.heap (fun _ _ e => e)
  have LL : Laid r.records w s s₁ args vs as := ⟨⟨ord, hord, hlaid⟩, hrd, hin, hold, keeps, hal.1.trans hgens, hal.2.2.1⟩
  have G₁ := G.keeps hXk keeps
  obtain ⟨a, o, pm, cd, doc, dV, kV, h1, h2, h3, h4, h5⟩ := G₁.fn hdef
  have hcall := call w s s₁ _ _ G₁ (hYk _ _ _ (hY w s y) keeps) a o pm cd doc dV kV h2 h3 h4 h5 (defOf_name hdef ▸ h1) LL.gens args vs as hpre hlay LL.reads LL.well (LL.low G.low)
  have hi := ident_freeW hu ha hap
  have hwi : r.toRowW.claim.within = [] := List.isEmpty_iff.mp k6
  refine ⟨vs, s₁, hlaid, ?_⟩
  show wpC _ callerA (do match ← nsGet mainNs r.name with
      | some f => do ret (← PySem.call f vs)
      | none => unsupported "claim.caller:no-such-global") _ _ s₁
  refine wpC_bind (.of (wpAny_nsGet G₁.T.g ?_))
  rw [h1]
  refine wpC_bind (wpC_mono hcall (fun v s' g => wpC_pure ⟨_, rfl, ?_⟩) fun e s' g => ?_)
  · have z := g.laid (c := r.toRowW.claim) hsame hwi hi LL
    exact ⟨z.1, z.2.1, z.2.2, fun q => ⟨namesKept_of hT hg _ keeps g.2.1.old, noTable hwr q⟩⟩
  · have z := g.laid (c := r.toRowW.claim) hsame hwi hi LL
    exact ⟨z.1, z.2.1, z.2.2, fun q => ⟨namesKept_of hT hg _ keeps g.2.1.old, noTable hwr q⟩⟩
end Mine.Tops
end
section
open PySem PySem.W PyProof.Rows
namespace Mine.Tops
set_option maxRecDepth 100000
set_option maxHeartbeats 8000000
open_top hd for PySem.Challenge.rw_pq1181_01
end Mine.Tops
namespace Mine
def Dummy (_ : OpenLaw) (_ : Params → Frag) : Prop := True
end Mine
end
section
open PySem PySem.W PyProof.Rows PySem.Spec PySem.Calls
namespace Mine
set_option maxRecDepth 100000
/-! ## bytearrays over clean contexts -/
theorem held_split {id : String} (h : heldIds.contains id = false) : Builtin.Bytes.decodersThatHold.contains id = false := by
  unfold heldIds at h
  rw [List.contains_eq_any_beq, List.any_append, Bool.or_eq_false_iff] at h
  rw [List.contains_eq_any_beq]
  exact h.2
section
variable {M : Model} {A : Around} {E : Value → Shared → Prop} {s : Shared}
theorem exported_C {self : Value} {Q : Bool → Shared → Prop} (h : Q false s) : wpC M A (Builtin.Bytes.exported self) Q E s := by
  intro Γ p hΓ ho hb
  unfold Builtin.Bytes.exported
  show Q (List.any ((Γ.code, p) :: Γ.below) _) s
  have key : ∀ x ∈ (Γ.code, p) :: Γ.below, okCode x.1 = true := fun x hx => by
    rcases List.mem_cons.mp hx with rfl | hx
    · exact ho
    · exact hb x hx
  rw [List.any_eq_false.mpr ?_]
  · exact h
  · intro x hx
    have hk := key x hx
    obtain ⟨c, q⟩ := x
    dsimp only at hk ⊢
    split <;> first
      | (rename_i heq; cases heq; dsimp only [okCode] at hk; exact absurd hk (by decide +kernel))
      | (rename_i heq; cases heq; simp only [okCode, Bool.not_eq_true'] at hk; rw [held_split hk, Bool.and_false]; exact Bool.false_ne_true)
      | exact Bool.false_ne_true
      | skip
end

theorem f_append_slot : Slot "bytearray" "append" "bytearray.append" :=
  .of (owner := "bytearray") (n := "append") (by rw [typeLookup_type, builtinLookup_eq_fast]; kernel_rfl) (by decide +kernel) (by decide +kernel) (by decide +kernel)
    (by first | exact .inl (by decide +kernel) | exact .inr (by decide +kernel)) (by rw [isSubtype_type]; kernel_rfl)
theorem f_append_type : typeOf (.builtin "bytearray.append") = pure (.type "method_descriptor") := by show builtinType _ = _; rw [builtinType_eq_fast]; kernel_rfl
theorem f_append_entry : entryFor table "bytearray.append" = some Builtin.«bytearray.append» := entryFor_of_tree (by kernel_rfl)
theorem f_append_args (a b : Value) : argsOk "bytearray.append" ⟨[a, b], []⟩ := by unfold argsOk; kernel_rfl
theorem f_extend_slot : Slot "bytearray" "extend" "bytearray.extend" :=
  .of (owner := "bytearray") (n := "extend") (by rw [typeLookup_type, builtinLookup_eq_fast]; kernel_rfl) (by decide +kernel) (by decide +kernel) (by decide +kernel)
    (by first | exact .inl (by decide +kernel) | exact .inr (by decide +kernel)) (by rw [isSubtype_type]; kernel_rfl)
theorem f_extend_type : typeOf (.builtin "bytearray.extend") = pure (.type "method_descriptor") := by show builtinType _ = _; rw [builtinType_eq_fast]; kernel_rfl
theorem f_extend_entry : entryFor table "bytearray.extend" = some Builtin.«bytearray.extend» := entryFor_of_tree (by kernel_rfl)
theorem f_extend_args (a b : Value) : argsOk "bytearray.extend" ⟨[a, b], []⟩ := by unfold argsOk; kernel_rfl
theorem f_ba_plain : PlainAttrs "bytearray" :=
  ⟨⟨"bytearray.__getattribute__", by rw [typeLookup_type, builtinLookup_eq_fast]; kernel_rfl, by decide +kernel⟩, by rw [typeLookup_type, builtinLookup_eq_fast]; kernel_rfl⟩

abbrev baObj (c : Array UInt8) : Obj := { cls := .type "bytearray", data := .bytearray c }
section
variable {prog : Program} {w : World} {A : Around} {E : Value → Shared → Prop} {s : Shared} {h₀ : Heap} {L fb : Addr} {m : Str → Option Value} {news news' : List (Addr × Obj)} {c : Array UInt8}
theorem codeC_builtin {id : String} {args : Args} {b : Builtin} {R : Result → Shared → Prop} (hok : okCode (.builtin id args) = true) (hb : entryFor table id = some b)
    (h : wpC (model prog w) (A.under (.builtin id args)) (b args)
      (fun fin s' => match fin with | .done f => R (.ok f) s' | .again c' => c'.quiet = true ∧ codeC (model prog w) A c' R s') (fun e s' => R (.error e) s') s) :
    codeC (model prog w) A (.builtin id args) R s := by
  refine codeC_of_tree hok ?_
  show wpC _ _ (match entryFor table id with | some b => b args | none => unsupported ((withoutEnding? id "#data").getD id)) _ _ s
  rw [hb]; exact h
theorem callC_slot {T : String} {name : Str} {id : String} {b : Builtin} {self : Value} {rest : List Value} {Q : Value → Shared → Prop} (S : Slot T name id) (hok : heldIds.contains id = false) (hb : entryFor table id = some b) (hT : s.TypeIs self T) (ha : argsOk id ⟨self :: rest, []⟩)
    (h : wpC (model prog w) A.in1 (b ⟨self :: rest, []⟩) (fun fin s' => match fin with | .done (.ret v) => Q v s' | _ => False) E s) : wpC (model prog w) A (call (.builtin id) (self :: rest)) Q E s := by
  refine wpC_call (codeC_of_tree rfl ?_)
  show wpC _ A.in1 (do checkBuiltinCall id ⟨self :: rest, []⟩; again (.builtin id ⟨self :: rest, []⟩)) _ _ s
  refine wpC_bind (.of (S.check _ _ _ _ _ _ _ _ hT ha (wpC_pure ⟨plainId_quiet S.plain _, ?_⟩)))
  refine codeC_of_tree (by show (!(heldIds.contains id)) = true; rw [hok]; rfl) ?_
  rw [Around.under_plainId S.plain _]
  show wpC _ _ (match entryFor table id with | some b => b _ | none => unsupported ((withoutEnding? id "#data").getD id)) _ _ s
  rw [hb]
  refine wpC_mono h (fun fin s' z => ?_) fun _ _ z => z
  rcases fin with (_ | _ | _ | v) | _ <;> first | exact z | exact z.elim

theorem method_ba {name : Str} {id : String} {pl : Sem Bool} {Q : Value × List Value → Shared → Prop} (N : News h₀ L s.heap news) (hm : (fb, baObj c) ∈ news) (slot : Slot "bytearray" name id) (hty : typeOf (.builtin id) = pure (.type "method_descriptor"))
    (h : Q (.builtin id, [.ref fb]) s) : wpAny (model prog w) A (getMethod (.ref fb) name pl) Q E s :=
  getMethod_builtin ⟨_, (N _ hm).1, rfl⟩ f_ba_plain slot hty (fun a e => by cases e; exact ⟨_, (N _ hm).1, rfl⟩) h

theorem write_ba {f : Array UInt8 → Array UInt8} {c' : Array UInt8} {Q : Unit → Shared → Prop} (F : Fr h₀ L s.heap m) (N : News h₀ L s.heap news) (U : Upd fb (baObj c) (baObj c') news news') (e : f c = c') (hz : c'.size ≤ 16777216)
    (h : ∀ h', Fr h₀ L h' m → News h₀ L h' news' → Q () { s with heap := h' }) : wpAny (model prog w) A (Builtin.Bytes.write (.ref fb) f) Q E s := by
  obtain ⟨pre, post, rfl, rfl, a, b⟩ := U.split
  have z := N (fb, baObj c) (List.mem_append.mpr (.inr (.head _)))
  obtain ⟨U1, U2⟩ := news_upd (f := Obj.mapBytearray f) F N a b (o' := baObj c') (by subst e; rfl) rfl
  show wpAny _ _ (updateBytearray fb f) _ _ s
  unfold updateBytearray
  refine wpAny_bind (wpAny_load z.1 ?_)
  show wpAny _ _ (update fb (Obj.mapBytearray f) >>= fun _ => lookBehind fb) _ _ s
  refine wpAny_bind (wpAny_update z.1 ?_)
  refine wpAny_lookBehind (U2 (fb, baObj c') (List.mem_append.mpr (.inr (.head _)))).1 ?_ (h _ U1 U2)
  show (if c'.size > sizeLine then some "bytearray:memory" else none) = none
  rw [if_neg]
  rw [sizeLine_eq]
  omega
theorem exportsOf_ba {Q : Nat → Shared → Prop} (N : News h₀ L s.heap news) (hm : (fb, baObj c) ∈ news) (h : Q 0 s) : wpAny (model prog w) A (Builtin.Bytes.exportsOf (.ref fb)) Q E s := by
  unfold Builtin.Bytes.exportsOf
  exact wpAny_bind (wpAny_load (N _ hm).1 (wpAny_pure h))
theorem checkResize_C {Q : Unit → Shared → Prop} (N : News h₀ L s.heap news) (hm : (fb, baObj c) ∈ news) (h : Q () s) : wpC (model prog w) A (Builtin.Bytes.checkResize (.ref fb)) Q E s := by
  unfold Builtin.Bytes.checkResize
  refine wpC_bind (wpC_bind (exported_C ?_))
  exact wpC_bind (.of (exportsOf_ba N hm (wpC_pure (wpC_pure h))))
theorem append_C {v : Int} {t : Tok} {Q : Value → Shared → Prop} (F : Fr h₀ L s.heap m) (N : News h₀ L s.heap news) (h0 : 0 ≤ v) (h1 : v < 256) (hz : c.size < 16777216) (U : Upd fb (baObj c) (baObj (c.push v.toNat.toUInt8)) news news')
    (h : ∀ h', Fr h₀ L h' m → News h₀ L h' news' → Q .none { s with heap := h' }) : wpC (model prog w) A (call (.builtin "bytearray.append") [.ref fb, .int v t]) Q E s := by
  have hm : (fb, baObj c) ∈ news := by obtain ⟨pre, post, rfl, rfl, a, b⟩ := U.split; exact List.mem_append.mpr (.inr (.head _))
  refine callC_slot f_append_slot (by decide +kernel) f_append_entry ⟨_, (N _ hm).1, rfl⟩ (f_append_args _ _) ?_
  show wpC _ _ (Builtin.Bytes.byteValue (.int v t) >>= fun x => Builtin.Bytes.checkResize (.ref fb) >>= fun _ => Builtin.Bytes.write (.ref fb) (·.push x) >>= fun _ => ret .none) _ _ s
  refine wpC_bind ?_
  have hb : Builtin.Bytes.byteValue (.int v t) = pure v.toNat.toUInt8 := by
    show (if (decide (v < 0) || decide (v ≥ 256)) = true then _ else _ : Sem UInt8) = _
    rw [if_neg (by simp only [Bool.or_eq_true, decide_eq_true_eq]; omega)]
  rw [hb]
  refine wpC_pure (wpC_bind (checkResize_C N hm (wpC_bind (.of (write_ba F N U rfl ?_ fun h' F' N' => ?_)))))
  · rw [Array.size_push]; omega
  · exact wpC_pure (h h' F' N')

theorem takeQuiet_bytes {b : Array UInt8} {t : Tok} : Builtin.Bytes.takeBufferQuiet? "bytearray.extend" (.bytes b t) 0 = pure (some (b, none)) := by
  have e : Builtin.Bytes.takeBuffer? "bytearray.extend" (.bytes b t) 0 = pure (some (b, none)) := by
    unfold Builtin.Bytes.takeBuffer?
    rw [KBy.special_eq KBy.look_buffer, KBy.own_buffer]
    show (Builtin.Bytes.buffer? "bytearray.extend" (.bytes b t) false >>= fun r => pure (r.map (·, none))) = _
    rw [KBy.buffer_eq]
    rfl
  unfold Builtin.Bytes.takeBufferQuiet?
  rw [e]
  rfl
theorem payload_ba {Q : Array UInt8 → Shared → Prop} (N : News h₀ L s.heap news) (hm : (fb, baObj c) ∈ news) (h : Q c s) : wpAny (model prog w) A (Builtin.Bytes.payload (.ref fb)) Q E s := by
  unfold Builtin.Bytes.payload Builtin.Bytes.payload?
  exact wpAny_bind (wpAny_bind (wpAny_load (N _ hm).1 (wpAny_pure (wpAny_pure h))))
theorem extend_C {b : Array UInt8} {t : Tok} {Q : Value → Shared → Prop} (F : Fr h₀ L s.heap m) (N : News h₀ L s.heap news) (hz : c.size + b.size ≤ 16777216) (U : Upd fb (baObj c) (baObj (c ++ b)) news news')
    (h : ∀ h', Fr h₀ L h' m → News h₀ L h' news' → Q .none { s with heap := h' }) : wpC (model prog w) A (call (.builtin "bytearray.extend") [.ref fb, .bytes b t]) Q E s := by
  have hm : (fb, baObj c) ∈ news := by obtain ⟨pre, post, rfl, rfl, a, b⟩ := U.split; exact List.mem_append.mpr (.inr (.head _))
  refine callC_slot f_extend_slot (by decide +kernel) f_extend_entry ⟨_, (N _ hm).1, rfl⟩ (f_extend_args _ _) ?_
  unfold Builtin.«bytearray.extend»
  refine wpC_bind (.of (wpAny_of_eq (rfl : selfAndOne "bytearray.extend" ⟨[.ref fb, .bytes b t], []⟩ = pure (.ref fb, .bytes b t)) ?_))
  dsimp only
  refine wpC_bind (.of (wpAny_of_eq (KBy.special_eq KBy.look_buffer) ?_))
  dsimp only [Option.isSome]
  rw [if_pos rfl]
  refine wpC_bind (.of (wpAny_rule ?_))
  refine wpC_bind (.of (payload_ba N hm ?_))
  refine wpC_bind (.of (wpAny_of_eq takeQuiet_bytes ?_))
  dsimp only [Option.isNone]
  rw [if_pos rfl]
  obtain ⟨l⟩ := b
  have fin : wpC (model prog w) A.in1 (Builtin.Bytes.write (.ref fb) (· ++ (⟨l⟩ : Array UInt8)) >>= fun _ => ret .none) (fun fin s' => match fin with | .done (.ret v) => Q v s' | _ => False) E s := by
    refine wpC_bind (.of (write_ba F N U rfl ?_ fun h' F' N' => ?_))
    · rw [Array.size_append]; omega
    · exact wpC_pure (h h' F' N')
  cases l with
  | nil => exact fin
  | cons x l => exact wpC_bind (checkResize_C N hm fin)
end

theorem f_ba_mro : mroOf (.type "bytearray") = pure [.type "bytearray", .type "object"] := by rw [mroOf_type]; kernel_rfl
theorem f_ba_lookup_new : typeLookup (.type "bytearray") "__new__" = pure (some (.builtin "bytearray.__new__")) := by rw [typeLookup_type, builtinLookup_eq_fast]; kernel_rfl
theorem f_ba_made : Bind.madeBy (.type "bytearray") = pure (some "bytearray.__new__") := madeBy_type f_ba_mro f_ba_lookup_new (by decide +kernel)
theorem f_ba_sub : isSubtype (.type "bytearray") (.type "bytearray") = pure true := by rw [isSubtype_type]; kernel_rfl
theorem f_ba_typeCall : checkTypeCall "bytearray" ⟨[], []⟩ = pure () := by kernel_rfl
theorem f_ba_newCall : checkBuiltinCall "bytearray.__new__" ⟨[.type "bytearray"], []⟩ = pure () := by kernel_rfl
theorem f_ba_entry_new : entryFor table "bytearray.__new__" = some Builtin.«list.__new__» := entryFor_alias (id' := "list.__new__") (by kernel_rfl) (by first | rfl | decide +kernel) (by decide +kernel) (by kernel_rfl)
theorem f_ba_plain_new : plainId "bytearray.__new__" = true := by decide +kernel
theorem f_ba_slot_init : Slot "bytearray" "__init__" "bytearray.__init__" :=
  .of (owner := "bytearray") (n := "__init__") (by rw [typeLookup_type, builtinLookup_eq_fast]; kernel_rfl) (by decide +kernel) (by decide +kernel) (by decide +kernel)
    (by first | exact .inl (by decide +kernel) | exact .inr (by decide +kernel)) (by rw [isSubtype_type]; kernel_rfl)
theorem f_ba_entry_init : entryFor table "bytearray.__init__" = some Builtin.«bytearray.__init__» := entryFor_of_tree (by kernel_rfl)
theorem f_ba_args_init (a : Value) : argsOk "bytearray.__init__" ⟨[a], []⟩ := by unfold argsOk; kernel_rfl
theorem f_ba_release : typeLookup (.type "bytearray") "__release_buffer__" = pure (some (.builtin "bytearray.__release_buffer__")) := by rw [typeLookup_type, builtinLookup_eq_fast]; kernel_rfl
theorem f_ba_bindOpt : Builtin.Bytes.bindOptional "bytearray.__init__" "bytearray" ["source", "encoding", "errors"] [] [] = pure [none, none, none] := by kernel_rfl
set_option maxRecDepth 1000000 in
set_option maxHeartbeats 4000000 in
theorem f_ba_owner : ("bytearray.__new__".splitOn ".__new__").headD "" = "bytearray" := by simp +decide [String.splitOn, String.splitOnAux]

section
variable {prog : Program} {w : World} {A : Around} {E : Value → Shared → Prop} {s : Shared} {h₀ : Heap} {L fb : Addr} {m : Str → Option Value} {news news' : List (Addr × Obj)} {c : Array UInt8}
theorem ba_typeIs (N : News h₀ L s.heap news) (hm : (fb, baObj c) ∈ news) : s.TypeIs (.ref fb) "bytearray" := ⟨_, (N _ hm).1, rfl⟩
theorem ownRelease_ba {Q : Bool → Shared → Prop} (hT : s.TypeIs (.ref fb) "bytearray") (h : Q false s) : wpAny (model prog w) A (Builtin.Bytes.ownRelease (.ref fb)) Q E s := by
  have key : ∀ x : String, x = "bytearray" → ∀ Q : Bool → Shared → Prop, Q true s → wpAny (model prog w) A (isInstance (.ref fb) (.type x)) Q E s := fun x hx Q hq => by
    rw [hx]; exact wpAny_isInstance hT f_ba_sub hq
  unfold Builtin.Bytes.ownRelease
  refine wpAny_bind ?_
  unfold Builtin.Bytes.slotIsOwn
  refine wpAny_bind (wpAny_specialOf hT f_ba_release ?_)
  dsimp only
  rw [if_neg (by decide +kernel)]
  exact key _ (by decide +kernel) _ (wpAny_pure h)
theorem new_ba {Q₁ : Value → Shared → Prop} (h : Q₁ (.ref s.heap.objs.size) { s with heap := s.heap.push (baObj #[]) }) :
    codeAny (model prog w) A (.call (.builtin "bytearray.__new__") ⟨[.type "bytearray"], []⟩) (wants Q₁ E) s := by
  refine codeAny_of_tree ?_
  show wpAny _ A.in1 (do checkBuiltinCall "bytearray.__new__" ⟨[.type "bytearray"], []⟩; again (.builtin "bytearray.__new__" ⟨[.type "bytearray"], []⟩)) _ _ s
  refine wpAny_bind (wpAny_of_eq f_ba_newCall (wpAny_pure ⟨plainId_quiet f_ba_plain_new _, codeAny_builtin_stack f_ba_entry_new rfl fun p st => ?_⟩))
  rw [Around.under_plainId f_ba_plain_new _]
  have hsub := f_ba_sub
  have hown := f_ba_owner
  obtain ⟨hp, g, d, tk, os⟩ := s
  simp only [hown]
  wp_walk
  exact h
theorem init_ba {Q : Value → Shared → Prop} (F : Fr h₀ L s.heap m) (N : News h₀ L s.heap ((fb, baObj #[]) :: news)) (hne : ∀ p ∈ news, p.1 ≠ fb)
    (h : ∀ h', Fr h₀ L h' m → News h₀ L h' ((fb, baObj #[]) :: news) → Q .none { s with heap := h' }) : wpC (model prog w) A (call (.builtin "bytearray.__init__") [.ref fb]) Q E s := by
  have hm : (fb, baObj #[]) ∈ (fb, baObj #[]) :: news := .head _
  have hT := ba_typeIs N hm
  refine callC_slot f_ba_slot_init (by decide +kernel) f_ba_entry_init hT (f_ba_args_init _) ?_
  unfold Builtin.«bytearray.__init__»
  dsimp only
  refine wpC_bind (.of (ownRelease_ba hT ?_))
  rw [if_neg Bool.false_ne_true]
  refine wpC_bind (.of (wpAny_of_eq f_ba_bindOpt ?_))
  dsimp only
  refine wpC_bind (.of (wpAny_of_eq (a := ()) rfl ?_))
  refine wpC_bind (.of (wpAny_of_eq (a := ()) rfl ?_))
  refine wpC_bind (wpC_bind (exported_C ?_))
  refine wpC_bind (.of (exportsOf_ba N hm (wpC_pure ?_)))
  show wpC _ _ (Builtin.Bytes.write (.ref fb) (fun _ => #[]) >>= fun _ => _) _ _ _
  refine wpC_bind (.of (write_ba F N (.head hne) rfl (by decide) fun h' F' N' => ?_))
  exact wpC_bind (wpC_pure (wpC_pure (h h' F' N')))
end
end Mine
end
section
open PySem PySem.W PyProof.Rows PySem.Spec PySem.Calls
namespace Mine
set_option maxRecDepth 100000
section
variable {prog : Program} {w : World} {A : Around} {E : Value → Shared → Prop} {s : Shared} {h₀ : Heap} {L fb : Addr} {m : Str → Option Value} {news news' : List (Addr × Obj)} {c : Array UInt8}
theorem newBA_C {Q : Value → Shared → Prop} (F : Fr h₀ L s.heap m) (N : News h₀ L s.heap news)
    (h : ∀ fb h', Fr h₀ L h' m → News h₀ L h' ((fb, baObj #[]) :: news) → (∀ p ∈ news, p.1 < fb) → Q (.ref fb) { s with heap := h' }) : wpC (model prog w) A (call (.type "bytearray") []) Q E s := by
  refine wpC_call (codeC_of_tree rfl ?_)
  show wpC _ _ (callAny (.type "bytearray") _) _ _ _
  refine wpC_pure ⟨Code.quiet_builtin _ (by decide +kernel), codeC_builtin (by show (!(heldIds.contains "type.__call__")) = true; decide +kernel) _root_.PySem.F.entry_type_call ?_⟩
  rw [Around.under_plain (weight_type_call_type "bytearray" [] []) rfl]
  unfold Builtin.«type.__call__»
  dsimp only
  refine wpC_bind ?_
  refine .of (wpAny_of_eq f_ba_typeCall ?_)
  refine wpC_bind (.of (wpAny_of_eq f_ba_mro ?_))
  rw [if_neg (by decide)]
  refine wpC_bind (.of (wpAny_of_eq f_ba_made ?_))
  dsimp only
  refine wpC_bind (wpC_pure (wpC_bind (.of (wpAny_holding (wpAny_call (codeAny_mono (new_ba (E := E)
    (Q₁ := fun obj s₁ => obj = .ref s.heap.objs.size ∧ s₁ = { s with heap := s.heap.push (baObj #[]) }) ⟨rfl, rfl⟩) fun r s₁ hr => ?_))))))
  rcases r with e | (_ | _ | _ | obj)
  · exact hr
  · exact hr.elim
  · exact hr.elim
  · exact hr.elim
  obtain ⟨rfl, rfl⟩ := hr
  have F1 := F.push (baObj #[])
  have N1 := N.push F (baObj #[])
  have hT : (⟨s.heap.push (baObj #[]), s.gens, s.drawn, s.toks, s.os⟩ : Shared).TypeIs (.ref s.heap.objs.size) "bytearray" := ba_typeIs N1 (.head _)
  refine wpC_bind (.of (wpAny_isInstance hT f_ba_sub ?_))
  rw [if_neg (by decide)]
  refine wpC_bind (wpC_holding ?_)
  unfold callSpecial?
  refine wpC_bind (.of (wpAny_specialOf hT f_ba_slot_init.lookup ?_))
  dsimp only
  refine wpC_holding ?_
  rw [f_ba_slot_init.bind]
  refine wpC_bind (wpC_pure (wpC_bind ?_))
  have hlt : ∀ p ∈ news, p.1 < s.heap.objs.size := fun p hp => Heap.lt_size (N p hp).1
  refine init_ba F1 N1 (fun p hp => Nat.ne_of_lt (hlt p hp)) fun h' F' N' => ?_
  exact wpC_pure (wpC_pure (h _ h' F' N' hlt))
end
end Mine
end
section
open PySem PySem.W PyProof.Rows PySem.Spec PySem.Calls
namespace Mine
set_option maxRecDepth 100000
/-! ## Trees that keep every object's __dict__ -/
def KD {α : Type} : Sem α → Prop
  | .pure _ => True
  | .raise _ => True
  | .unsupported _ => True
  | .finish _ => True
  | .rule _ k => KD (k ())
  | .at _ k => KD (k ())
  | .load _ _ k => ∀ o, KD (k o)
  | .update _ _ f k => (∀ o, (f o).dict = o.dict) ∧ KD (k ())
  | .alloc _ k => ∀ a, KD (k a)
  | .loadIfAlive _ k => ∀ o, KD (k o)
  | .point _ k => KD (k ())
  | .fresh k => ∀ t, KD (k t)
  | .ask k => ∀ x, KD (k x)
  | .handled _ k => ∀ x, KD (k x)
  | .stack k => ∀ l, KD (k l)
  | .thread k => ∀ n, KD (k n)
  | _ => False
theorem KD_bind {α β : Type} {m : Sem α} {f : α → Sem β} (hm : KD m) (hf : ∀ a, KD (f a)) : KD (m >>= f) := by
  show KD (m.bind f)
  induction m with
  | pure a => exact hf a
  | raise _ => trivial
  | unsupported _ => trivial
  | finish _ => trivial
  | rule _ k ih => exact ih () hm
  | «at» _ k ih => exact ih () hm
  | load _ _ k ih => exact fun o => ih o (hm o)
  | update _ _ f k ih => exact ⟨hm.1, ih () hm.2⟩
  | alloc _ k ih => exact fun a => ih a (hm a)
  | loadIfAlive _ k ih => exact fun a => ih a (hm a)
  | point _ k ih => exact ih () hm
  | fresh k ih => exact fun a => ih a (hm a)
  | ask k ih => exact fun a => ih a (hm a)
  | handled _ k ih => exact fun a => ih a (hm a)
  | stack k ih => exact fun a => ih a (hm a)
  | thread k ih => exact fun a => ih a (hm a)
  | _ => exact hm.elim
def DK (h h' : Heap) : Prop := ∀ (b : Nat) (o : Obj), h.objs[b]? = some o → ∃ o' : Obj, h'.objs[b]? = some o' ∧ o'.dict = o.dict
theorem DK.refl (h : Heap) : DK h h := fun _ o e => ⟨o, e, rfl⟩
theorem DK.trans {h₁ h₂ h₃ : Heap} (x : DK h₁ h₂) (y : DK h₂ h₃) : DK h₁ h₃ := fun b o e => by
  obtain ⟨o', e', d'⟩ := x b o e
  obtain ⟨o'', e'', d''⟩ := y b o' e'
  exact ⟨o'', e'', d''.trans d'⟩
theorem DK.push (h : Heap) (o : Obj) : DK h (h.push o) := fun b x e => by
  refine ⟨x, ?_, rfl⟩
  obtain ⟨objs, l⟩ := h
  show (objs.push o)[b]? = some x
  have hlt := (Array.getElem?_eq_some_iff.mp e).1
  rw [Array.getElem?_push_lt hlt]
  exact (Array.getElem?_eq_getElem hlt).symm.trans e |> fun z => by simpa using z
theorem DK.update (h : Heap) (a : Addr) {f : Obj → Obj} (hf : ∀ o, (f o).dict = o.dict) : DK h (h.update a f) := fun b x e => by
  obtain ⟨objs, l⟩ := h
  show ∃ o', (objs.modify a f)[b]? = some o' ∧ _
  rw [Array.getElem?_modify]
  have e' : objs[b]? = some x := e
  split
  · exact ⟨f x, by rw [e']; rfl, hf x⟩
  · exact ⟨x, e', rfl⟩
theorem DK.get {h h' : Heap} (d : DK h h') {b : Addr} {o o' : Obj} (e : h.get? b = some o) (e' : h'.get? b = some o') : o'.dict = o.dict := by
  obtain ⟨x, hx, hd⟩ := d b o (Heap.get?_some_iff.mp e).1
  have := (Heap.get?_some_iff.mp e').1
  rw [hx] at this
  cases this
  exact hd
theorem wp_KD {α : Type} {M : Model} {Γ : PySem.Ctx} {Q : α → Pos → Shared → Prop} {E : Value → Pos → Shared → Prop} : ∀ (t : Sem α) (p : Pos) (s : Shared), KD t → Sem.wp M Γ t Q E p s →
    Sem.wp M Γ t (fun a p' s' => Q a p' s' ∧ DK s.heap s'.heap) (fun e p' s' => E e p' s' ∧ DK s.heap s'.heap) p s := by
  intro t
  induction t with
  | pure a => exact fun p s _ h => ⟨h, DK.refl _⟩
  | raise e => exact fun p s _ h => ⟨h, DK.refl _⟩
  | unsupported _ => exact fun p s _ h => h
  | finish _ => exact fun p s _ h => h
  | rule _ k ih => exact fun p s hk h => ih () p s hk h
  | «at» q k ih => exact fun p s hk h => ih () q s hk h
  | load _ _ k ih => exact fun p s hk ⟨o, ho, h⟩ => ⟨o, ho, ih o p s (hk o) h⟩
  | update a _ f k ih =>
    exact fun p s hk ⟨ha, h⟩ => ⟨ha, Sem.wp_mono M Γ _ (fun _ _ _ x => ⟨x.1, (DK.update s.heap a hk.1).trans x.2⟩) (fun _ _ _ x => ⟨x.1, (DK.update s.heap a hk.1).trans x.2⟩) p _ (ih () p _ hk.2 h)⟩
  | alloc o k ih =>
    exact fun p s hk h => Sem.wp_mono M Γ _ (fun _ _ _ x => ⟨x.1, (DK.push s.heap o).trans x.2⟩) (fun _ _ _ x => ⟨x.1, (DK.push s.heap o).trans x.2⟩) p _ (ih _ p _ (hk _) h)
  | loadIfAlive a k ih => exact fun p s hk h => ih _ p s (hk _) h
  | point _ k ih => exact fun p s hk h => ih () p s hk h
  | fresh k ih => exact fun p s hk h => ih _ p _ (hk _) h
  | ask k ih => exact fun p s hk h => ih _ p s (hk _) h
  | handled _ k ih => exact fun p s hk h => ih _ p s (hk _) h
  | stack k ih => exact fun p s hk h => ih _ p s (hk _) h
  | thread k ih => exact fun p s hk h => ih _ p s (hk _) h
  | _ => exact fun p s hk _ => hk.elim
theorem wpAny_KD {α : Type} {M : Model} {A : Around} {t : Sem α} {Q : α → Shared → Prop} {E : Value → Shared → Prop} {s : Shared} (hk : KD t) (h : wpAny M A t Q E s) :
    wpAny M A t (fun a s' => Q a s' ∧ DK s.heap s'.heap) (fun e s' => E e s' ∧ DK s.heap s'.heap) s := fun Γ p hΓ => wp_KD t p s hk (h Γ p hΓ)

theorem KD_fieldsOf (v : Value) : KD (fieldsOf v) := by
  unfold fieldsOf
  split
  · refine KD_bind (fun _ => trivial) fun o => ?_
    split <;> trivial
  · trivial
theorem KD_field (v : Value) (i : Nat) : KD (field v i) := by
  unfold field
  refine KD_bind (KD_fieldsOf v) fun vs => ?_
  split <;> trivial
theorem KD_setField (v : Value) (i : Nat) (x : Value) : KD (setField v i x) := by
  unfold setField
  split
  · unfold updateField
    refine KD_bind (fun _ => trivial) fun o => ?_
    split
    · split
      · exact ⟨fun o => by obtain ⟨_, _, d, _⟩ := o; cases d <;> rfl, trivial⟩
      · trivial
    · trivial
  · trivial
theorem KD_frameEnvs : KD frameEnvs := fun _ => trivial
theorem KD_readyFrames : ∀ l : List Env, KD (readyFrames l)
  | [] => trivial
  | env :: outer => by
    unfold readyFrames
    split
    · refine KD_bind (fun _ => trivial) fun o => ?_
      split
      · trivial
      · refine KD_bind ?_ fun im => ?_
        · unfold behindIsImport
          split
          · trivial
          · split
            · trivial
            · exact KD_bind (KD_field _ _) fun _ => trivial
        · refine KD_bind ?_ fun back => ?_
          · unfold keptBack
            split
            · split
              · trivial
              · refine KD_bind ?_ fun b => ?_
                · exact fun _ => trivial
                · trivial
            · trivial
          · exact ⟨fun o => rfl, KD_readyFrames outer⟩
    · trivial
theorem KD_frameObject : ∀ l : List Env, KD (frameObject l)
  | [] => trivial
  | env :: outer => by
    unfold frameObject
    exact KD_bind (KD_readyFrames _) fun _ => trivial
theorem KD_frameOf (env : Env) : KD (PySem.frameOf env) := by
  unfold PySem.frameOf
  refine KD_bind KD_frameEnvs fun l => KD_bind (KD_frameObject _) fun r => ?_
  split <;> trivial
theorem KD_entryPlaceOf (f : Addr) (b : Bool) : KD (entryPlaceOf f b) := by
  unfold entryPlaceOf
  refine KD_bind (fun _ => trivial) fun l => ?_
  split <;> trivial
theorem KD_newObjAsIs (n : String) (d : Data) : KD (newObjAsIs (.type n) d) := fun _ => trivial
theorem KD_newEntry (a b c d e : Value) (l : List Value) : KD (EntryCells.newEntry a b c d e l) := by
  have key : ∀ vs : List Value, KD (newFields "traceback" vs) := fun vs => by
    unfold newFields newObj
    dsimp only
    by_cases hz : vs.toArray.size > sizeLine + 2
    · rw [if_pos hz]; trivial
    · rw [if_neg hz]; exact KD_newObjAsIs _ _
  exact key _
theorem KD_setFlight (e : Value) (f : Option Addr) : KD (setFlight e f) := by
  unfold setFlight
  refine KD_bind (KD_field _ _) fun tb => ?_
  split
  · exact KD_setField _ _ _
  · trivial
theorem KD_noteFrame (e : Value) (env : Env) : KD (noteFrame e env) := by
  unfold noteFrame
  split
  · refine KD_bind (KD_field _ _) fun head => ?_
    have fin : ∀ b : Bool, KD (do setField e 1 (← EntryCells.newEntry head (← PySem.frameOf env) .none (rawInt ‹Addr›) .none (← entryPlaceOf ‹Addr› b)) : Sem Unit) := fun b =>
      KD_bind (KD_frameOf _) fun _ => KD_bind (KD_entryPlaceOf _ _) fun _ => KD_bind (KD_newEntry _ _ _ _ _ _) fun _ => KD_setField _ _ _
    split
    · refine KD_bind (KD_field _ _) fun x => ?_
      split
      · trivial
      · exact KD_bind (KD_setField _ _ _) fun _ => fin _
    · exact fin _
  · trivial
theorem KD_leaving (env : Env) (e : Value) : KD (leaving env e) := by
  unfold leaving
  exact KD_bind (KD_noteFrame _ _) fun _ => KD_setFlight _ _
end Mine
end
section
open PySem PySem.W PyProof.Rows PySem.Spec PySem.Calls
namespace Mine
set_option maxRecDepth 100000
/-! ## An own exception whose class has an __init__ that stores: made, its attribute set -/
abbrev excO (C : Addr) (d : Option Addr) (t : Addr) : Obj := { cls := .ref C, dict := d, data := .fields #[.ref t, .none, .none, .none, .bool false, .none] }
def excBase : List Value := [.type "Exception", .type "BaseException", .type "object"]
/-- the class C over C₁ over Exception, with instance dicts -/
def excTwo (K : Frag) (C C₁ : Addr) : Bool := match clsIn K C with
  | some cd => cd.hasDict && cd.mro == [.ref C, .ref C₁, .type "Exception", .type "BaseException", .type "object"]
  | none => false
theorem excTwo_of {K : Frag} {C C₁ : Addr} (e : excTwo K C C₁ = true) : ∃ cd, clsIn K C = some cd ∧ cd.hasDict = true ∧ cd.mro = [.ref C, .ref C₁, .type "Exception", .type "BaseException", .type "object"] := by
  unfold excTwo at e
  split at e
  · rename_i cd hc
    simp only [Bool.and_eq_true, beq_iff_eq] at e
    exact ⟨cd, hc, e.1, e.2⟩
  · cases e
section
variable {prog : Program} {w : World} {A : Around} {K : Frag} {C C₁ x : Addr} {s : Shared} {h₀ : Heap} {L : Addr} {m : Str → Option Value} {news pre post : List (Addr × Obj)} {R : Result → Shared → Prop} {E : Value → Shared → Prop}
theorem osa_exc {ox : Obj} {od : Option Obj} {name : Str} {tk : Tok} {v : Value} (X : K.In s.heap) (I : InstAt s.heap x ox C od) (hp : excTwo K C C₁ = true) (ht : takerIn K C name = some none)
    (h : ∀ b, wpAny (model prog w) A.in1 (Builtin.ObjectAttr.storeInOwnDict (.ref x) (.ref C) (.str name tk) name v b)
      (fun fin s' => match fin with | .done f => R (.ok f) s' | .again c' => c'.quiet = true ∧ codeAny (model prog w) A c' R s') (fun e s' => R (.error e) s') s) :
    codeAny (model prog w) A (.call (.builtin "object.__setattr__") ⟨[.ref x, .str name tk, v], []⟩) R s := by
  have SF := _root_.PySem.F.store_object
  obtain ⟨cd, hc, _, hmro⟩ := excTwo_of hp
  have hmroIn : mroIn K C (.type "object") = some true := by
    unfold mroIn
    rw [hc, Option.bind_some, hmro]
    rfl
  have sub : Looks (model prog w) s.heap (isInstance (.ref x) (.type "object")) true := I.type.andThen (looks_mroIn X hmroIn)
  refine codeAny_call_builtin SF.slot.plain SF.entry (@check_slot (model prog w) _ _ s "object.__setattr__" "object" "__setattr__" (.ref x) [.str name tk, v] [] _ SF.kind SF.split sub (SF.args (.ref x) (.str name tk) v) ?_)
  obtain ⟨attr, ha, hr⟩ := Option.bind_eq_some_iff.mp ht
  have hm : Looks (model prog w) s.heap (mroOf (.ref C)) cd.mro := (looks_clsIn X hc).andThen .now
  have L3 : Looks (model prog w) s.heap (Builtin.ObjectAttr.storeTaker? attr) none := by
    cases attr with
    | none => cases hr; exact .now
    | some a =>
      obtain ⟨b, hb, hr⟩ := Option.map_eq_some_iff.mp hr
      refine (looks_takesIn X hb).andThen ?_
      cases b
      · exact .now
      · cases hr
  have href : refuseLoop (.ref x) "__setattr__" cd.mro = pure () := by
    rw [hmro, refuseLoop_ref, refuseLoop_ref]
    exact _root_.PySem.F.store_Exception.passes _
  rw [osa_eq, refuse_eq]
  refine wpAny_bind (wpAny_bind (I.type.here (wpAny_bind (hm.here ?_))))
  rw [href]
  refine wpAny_pure (wpAny_bind (I.type.here (wpAny_bind ((looks_findIn X ha).here (wpAny_bind (L3.here ?_))))))
  exact h _
theorem told_set {t : Addr} {name : Str} {v : Value} {Q : Unit → Shared → Prop} (F : Fr h₀ L s.heap m) (X : K.In s.heap) (N : News h₀ L s.heap (pre ++ (x, excO C none t) :: post)) (h1 : ∀ p ∈ pre, p.1 ≠ x) (h2 : ∀ p ∈ post, p.1 ≠ x)
    (hp : excTwo K C C₁ = true) (ht : takerIn K C name = some none) (hs : findIn K (.ref C) "__setattr__" = some (some (.builtin "object.__setattr__")))
    (h : ∀ D h' tk tk', Fr h₀ L h' m → News h₀ L h' ((D, dictOf [⟨PyData.keyHash w.params name, .str name tk, v⟩] 1) :: (pre ++ (x, excO C (some D) t) :: post)) → (∀ p ∈ pre ++ (x, excO C none t) :: post, p.1 < D) → Q () { s with heap := h', toks := tk' }) :
    wpAny (model prog w) A (setAttr (.ref x) name v) Q E s := by
  obtain ⟨cd, hc, hhd, _⟩ := excTwo_of hp
  have hx := (N (x, excO C none t) (by simp)).1
  have I : InstAt s.heap x (excO C none t) C none := ⟨hx, rfl, rfl, trivial⟩
  refine set_plain X I hs (osa_exc (s := { s with toks := s.toks + 1 }) X I hp ht fun b => ?_)
  have F1 := F.push emptyDict
  have N1 := N.push F emptyDict
  have hlt : ∀ p ∈ pre ++ (x, excO C none t) :: post, p.1 < s.heap.objs.size := fun p hp => Heap.lt_size (N p hp).1
  have hxD : x ≠ s.heap.objs.size := Nat.ne_of_lt (hlt (x, excO C none t) (by simp))
  obtain ⟨F2, N2⟩ := news_upd (f := fun o => { o with dict := some s.heap.objs.size }) (pre := (s.heap.objs.size, emptyDict) :: pre) (o' := excO C (some s.heap.objs.size) t) F1 N1
    (fun p hp => by
      rcases List.mem_cons.mp hp with rfl | hp
      · exact Ne.symm hxD
      · exact h1 p hp) h2 rfl rfl
  obtain ⟨F3, N3⟩ := news_upd (f := Obj.putName name (PyData.keyHash w.params name) (.str name (s.toks + 1)) v) (pre := []) (o' := dictOf [⟨PyData.keyHash w.params name, .str name (s.toks + 1), v⟩] 1) F2 N2 (fun _ hp => nomatch hp)
    (fun p hp => by
      have := hlt p
      rcases List.mem_append.mp hp with hp | hp
      · exact Nat.ne_of_lt (hlt p (List.mem_append.mpr (.inl hp)))
      · rcases List.mem_cons.mp hp with rfl | hp
        · exact hxD
        · exact Nat.ne_of_lt (hlt p (List.mem_append.mpr (.inr (.tail _ hp))))) (putName_dict name _ _ v [] 0) rfl
  have D2 := (N2 (s.heap.objs.size, emptyDict) (.head _)).1
  have D3 := (N3 (s.heap.objs.size, dictOf [⟨PyData.keyHash w.params name, .str name (s.toks + 1), v⟩] 1) (.head _)).1
  refine wpAny_bind (wpAny_pure (wpAny_bind (wpAny_bind (wpAny_loadPart hx (wpAny_bind ((looks_clsIn X hc : Looks (model prog w) s.heap _ _) _ _ _ _ (fun _ _ e => e) ?_))))))
  rw [hhd]
  refine wpAny_bind (wpAny_alloc ?_)
  refine wpAny_bind (wpAny_update (Heap.get?_push_of_some _ hx) ?_)
  refine wpAny_pure (a := some s.heap.objs.size) ?_
  refine wpAny_bind (wpAny_pure (wpAny_bind ?_))
  unfold nsSet
  refine wpAny_bind (wpAny_bind (wpAny_askSetting (wpAny_pure (wpAny_bind (wpAny_mkText (wpAny_bind (wpAny_loadPart D2 ?_)))))))
  dsimp only
  rw [aRefKeyMayBeTheName_at, if_neg (by simp)]
  refine wpAny_updatePart D2 ?_
  refine wpAny_bind (wpAny_lookBehind D3 (pastItsLine_dict (by rw [sizeLine_eq]; show 1 ≤ _; omega)) ?_)
  exact wpAny_pure (h _ _ _ _ F3 N3 hlt)
end
end Mine
end
section
open PySem PySem.W PyProof.Rows PySem.Spec PySem.Calls
namespace Mine
set_option maxRecDepth 100000
section
variable {M : Model} {A : Around} {E : Value → Shared → Prop} {h : Heap} {g : Array GenState} {d : Drawn} {t : Nat} {os : OsState}
variable {nm q : Str} {C C₁ N : Addr} {bs : List Value} {hdct : Bool} {sn : List Str} {sub : List Value} {ab : Bool} {col : Option Bool} {dd : Option Addr} {k0 k1 k2 k3 k5 : Option Value}
abbrev tl2 (C₁ : Addr) : List Value := [.ref C₁, .type "Exception", .type "BaseException", .type "object"]
theorem tl2_exc (C C₁ : Addr) : (Value.ref C :: tl2 C₁).contains (.type "Exception") = true := by
  simp [tl2]
theorem tl2_base (C C₁ : Addr) : (Value.ref C :: tl2 C₁).contains (.type "BaseException") = true := by
  simp [tl2]
theorem tl2_attr (C C₁ : Addr) : (Value.ref C :: tl2 C₁).contains (.type "AttributeError") = false := by
  simp [tl2]
theorem tl2_name (C C₁ : Addr) : (Value.ref C :: tl2 C₁).contains (.type "NameError") = false := by
  simp [tl2]
theorem tl2_self (C C₁ : Addr) : (Value.ref C :: tl2 C₁).contains (.ref C) = true := by simp
theorem check_newM {rest : List Value} {Q : Unit → Shared → Prop} (hC : h.get? C = some (excClassObj nm q C N bs (tl2 C₁) hdct sn sub ab col dd k0 k1 k2 k3 k5 "Exception.__new__"))
    (hq : Q () ⟨h, g, d, t, os⟩) : wpAny M A (checkBuiltinCall "Exception.__new__" ⟨.ref C :: rest, []⟩) Q E ⟨h, g, d, t, os⟩ := by
  have Fn := _root_.PySem.F.excBase_Exception
  have hcont := tl2_exc C C₁
  have hstar := Fn.noStar
  simp only [checkBuiltinCall, Fn.newKind, Fn.newSplit, Fn.newRow]
  repeat (first | refine wpAny_loadPart_at hC ?_ | (refine wpAny_isSubtype_exc hC ?_; rw [hcont]) | refine wpAny_staticBase_exc hC ?_ | refine wpAny_madeBy_exc hC ?_ | simp only [bne_self_eq_false, Bool.false_eq_true, if_false] | wp_step)
  exact hq
end
section
variable {prog : Program} {w : World} {A : Around} {R : Result → Shared → Prop} {E : Value → Shared → Prop} {h : Heap} {g : Array GenState} {d : Drawn} {t : Nat} {os : OsState}
variable {nm q : Str} {C C₁ N : Addr} {bs : List Value} {hdct : Bool} {sn : List Str} {sub : List Value} {ab : Bool} {col : Option Bool} {dd : Option Addr} {k0 k1 k2 k3 k5 : Option Value}
theorem newM {rest : List Value} (hC : h.get? C = some (excClassObj nm q C N bs (tl2 C₁) hdct sn sub ab col dd k0 k1 k2 k3 k5 "Exception.__new__"))
    (hq : R (.ok (.ret (.ref (h.objs.size + 1)))) ⟨(h.push { cls := .type "tuple", data := .seq rest.toArray }).push (excO C none h.objs.size), g, d, t, os⟩) (hrest : rest.length ≤ sizeLine := by size_fits) :
    codeAny (model prog w) A (.builtin "Exception.__new__" ⟨.ref C :: rest, []⟩) R ⟨h, g, d, t, os⟩ := by
  have Fn := _root_.PySem.F.excBase_Exception
  have hends := Fn.ends
  have hcB := tl2_exc C C₁
  have hcA := tl2_attr C C₁
  have hcN := tl2_name C C₁
  refine codeAny_builtinAt Fn.entry ?_
  unfold Builtin.«BaseException.__new__»
  refine _root_.PySem.wpAt_bind ?_
  show _root_.PySem.wpAt _ _ _ (stack >>= _) _ _ _
  refine _root_.PySem.wpAt_bind (_root_.PySem.wpAt_stack fun p below => _root_.PySem.wpAt_of_wpAny ?_)
  wp_walk
  refine _root_.PySem.wpAt_of_wpAny ?_
  rw [Fn.owner]
  repeat (first | with_reducible refine wpAny_madeHere_exc Fn.canon hC ?_ | with_reducible refine wpAny_loadPart_at hC ?_ | (with_reducible refine wpAny_isSubtype_exc hC ?_; first | rw [hcB] | rw [hcA] | rw [hcN]) | wp_step)
  show R _ _
  rw [Heap.size_push]
  exact hq
/-- the class is called; its __init__, a def of the text's, is what is left -/
theorem make_excM {K : Frag} {v : Value} {init : Addr} {o₁ : Obj} (X : K.In h) (hC : h.get? C = some (excClassObj nm q C N bs (tl2 C₁) hdct sn sub ab col dd k0 k1 k2 k3 k5 "Exception.__new__"))
    (hi : findIn K (.ref C) "__init__" = some (some (.ref init))) (hf : typeIn K (.ref init) = some (.type "function"))
    (hq : codeAny (model prog w) (A.under (.builtin "type.__call__" ⟨[.ref C, v], []⟩)) (.call (.ref init) ⟨[.ref (h.objs.size + 1), v], []⟩) (InitBack (h.objs.size + 1) R)
      ⟨(h.push { cls := .type "tuple", data := .seq #[v] }).push (excO C none h.objs.size), g, d, t, os⟩) :
    codeAny (model prog w) A (.call (.ref C) ⟨[v], []⟩) R ⟨h, g, d, t, os⟩ := by
  have f1 := tc_lookup
  have f2 := tc_bind (.ref C)
  have hT : (⟨h, g, d, t, os⟩ : Shared).TypeIs (.ref C) "type" := ⟨_, hC, rfl⟩
  have Fn := _root_.PySem.F.excBase_Exception
  refine codeAny_of_tree ?_
  show wpAny _ _ (callAny (.ref C) _) _ _ _
  repeat (any_goals (first | assumption | with_reducible refine wpAny_loadPart_at hC ?_ | wp_step))
  refine ⟨rfl, ?_⟩
  refine codeAny_call_builtin_at (Code.quiet_builtin _ (by decide +kernel)) entry_typeCall (wpAny_check_type_call_sub hC ?_)
  repeat (first | with_reducible refine wpAny_loadPart_at hC ?_ | with_reducible refine wpAny_madeBy_exc hC ?_ | wp_step)
  refine codeAny_call_builtin_code (Code.quiet_builtin _ Fn.quiet) (check_newM hC ?_)
  refine newM hC ?_ (Nat.le_of_ble_eq_true rfl)
  show wpAny _ _ _ _ _ _
  have k : ∀ b o, h.get? b = some o → ((h.push { cls := .type "tuple", data := .seq #[v] }).push (excO C none h.objs.size)).get? b = some o := fun b o e => Heap.get?_push_of_some _ (Heap.get?_push_of_some _ e)
  have hC₁ := k _ _ hC
  have hget : ((h.push { cls := .type "tuple", data := .seq #[v] }).push (excO C none h.objs.size)).get? (h.objs.size + 1) = some (excO C none h.objs.size) := by heap_get
  have hcC := tl2_self C C₁
  have li := (looks_findIn (M := model prog w) X hi).keeps k
  have lb := (bind_fn (M := model prog w) X (.ref (h.objs.size + 1)) hf).keeps k
  unfold isInstance
  repeat (first | with_reducible refine wpAny_loadPart_at hget ?_ | (with_reducible refine wpAny_isSubtype_exc hC₁ ?_; rw [hcC]) | wp_step)
  refine wpAny_isSubtype_exc hC₁ ?_
  rw [hcC]
  rw [if_neg (by decide)]
  refine wpAny_bind (wpAny_holding ?_)
  unfold callSpecial? specialOf
  refine wpAny_bind (wpAny_bind ?_)
  unfold typeOf
  refine wpAny_bind (wpAny_loadPart_at hget (wpAny_pure ?_))
  refine li _ _ _ _ (fun _ _ e => e) ?_
  refine wpAny_holding (wpAny_bind (lb _ _ _ _ (fun _ _ e => e) ?_))
  refine wpAny_bind (wpAny_call (codeAny_mono hq fun r s' z => ?_))
  rcases r with e | (_ | _ | _ | v') <;> first | exact z | exact z.elim | skip
  obtain ⟨rfl, z⟩ := z
  exact wpAny_pure (wpAny_pure z)
end
end Mine
end
section
open PySem PySem.W PyProof.Rows PySem.Spec PySem.Calls
namespace Mine
set_option maxRecDepth 100000
abbrev tupO (vs : List Value) : Obj := { cls := .type "tuple", data := .seq vs.toArray }
/-- an own exception in flight, its instance dict at D -/
def RaisedX (base G : Heap) (l : List Env) (e C t : Addr) (vs : List Value) (D : Addr) (news : List (Addr × Obj)) (h : Heap) : Prop :=
  RaisedS base G l e (.ref C) t vs news h ∧ ∃ oe, h.get? e = some oe ∧ oe.dict = some D
section
variable {M : Model} {A : Around} {E : Value → Shared → Prop} {s' : Shared} {base g g₂ h : Heap} {outer : List Env} {L a e t C D : Addr} {m : Str → Option Value} {name : Str} {scope : Scope} {cd : Value} {Q : Unit → Shared → Prop} {news : List (Addr × Obj)} {vs : List Value}
theorem leave_raiseX (K : Below A base outer g) (F : Fr g L s'.heap m) (N : News g L s'.heap ((e, excO C (some D) t) :: (t, tupO vs) :: news)) (het : e ≠ t) (hne : ∀ p ∈ news, p.1 ≠ e ∧ p.1 ≠ t)
    (hQ : ∀ h', RaisedX base g outer e C t vs D news h' → g.UpToSlots h' → Q () { s' with heap := h' }) (hk : scope.kind = .function := by rfl) :
    wpAny M (A.deeper (envOf name scope L a cd)) (leaving (envOf name scope L a cd) (.ref e)) Q E s' := by
  have K' := K.push (name := name) (a := a) (cd := cd) F hk
  have hfr : ∀ env ∈ (envOf name scope L a cd :: outer), ∀ b, env.frame = some b → b ∈ (envOf name scope L a cd :: outer).filterMap (·.frame) := fun env he b hb => List.mem_filterMap.mpr ⟨env, he, hb⟩
  have hin : ∀ env ∈ (envOf name scope L a cd :: outer), ∀ b, env.frame = some b → b ∈ (envOf name scope L a cd :: outer).filterMap (·.frame) ++ [e, t] := fun env he b hb => List.mem_append_left _ (hfr env he b hb)
  have Ne := N _ (.head _)
  have Nt := N _ (.tail _ (.head _))
  dsimp only at Ne Nt
  have ge := Ne.2.2
  have gt := Nt.2.2
  have bse := fresh_of_stays K.stays ge
  have bst := fresh_of_stays K.stays gt
  have nin : ∀ b o, g.get? b = some o → b ≠ e ∧ b ≠ t := fun b o q => by
    constructor
    · intro z
      rw [z, ge] at q
      cases q
    · intro z
      rw [z, gt] at q
      cases q
  have st : base.StaysIn (hideAll s'.heap ((envOf name scope L a cd :: outer).filterMap (·.frame) ++ [e, t])) := fun b o q => hideAll_get _ (K'.stays b o q) fun hm => by
    rcases List.mem_append.mp hm with hm | hm
    · rw [(K'.frames.mem hm).1] at q; cases q
    · rcases List.mem_cons.mp hm with rfl | hm
      · rw [bse] at q; cases q
      · rw [List.mem_singleton.mp hm, bst] at q; cases q
  have sg : ∀ b o, g.get? b = some o → b ∉ outer.filterMap (·.frame) → (hideAll s'.heap ((envOf name scope L a cd :: outer).filterMap (·.frame) ++ [e, t])).get? b = some o := fun b o q nm => hideAll_get _ (F.keep b o q) fun hm => by
    rcases List.mem_append.mp hm with hm | hm
    · rcases kts_mem hm with z | z
      · rw [z, kts_self F] at q
        cases q
      · exact nm z
    · rcases List.mem_cons.mp hm with z | hm
      · exact (nin b o q).1 z
      · exact (nin b o q).2 (List.mem_singleton.mp hm)
  have hl : ∀ q ∈ news, (hideAll s'.heap ((envOf name scope L a cd :: outer).filterMap (·.frame) ++ [e, t])).get? q.1 = some q.2 ∧ g.get? q.1 = none ∧ base.get? q.1 = none := fun q hq => by
    have Nq := N q (.tail _ (.tail _ hq))
    refine ⟨hideAll_get _ Nq.1 fun hm => ?_, Nq.2.2, fresh_of_stays K.stays Nq.2.2⟩
    rcases List.mem_append.mp hm with hm | hm
    · obtain ⟨env, he, hf⟩ := List.mem_filterMap.mp hm
      rcases List.mem_cons.mp he with rfl | he
      · exact Nq.2.1 (Option.some.inj hf).symm
      · obtain ⟨o, ho, _⟩ := (K.frames.mem (List.mem_filterMap.mpr ⟨env, he, hf⟩)).2
        rw [Nq.2.2] at ho; cases ho
    · rcases List.mem_cons.mp hm with z | hm
      · exact (hne q hq).1 z
      · exact (hne q hq).2 (List.mem_singleton.mp hm)
  have hle : (hideAll s'.heap ((envOf name scope L a cd :: outer).filterMap (·.frame) ++ [e, t])).get? e = none := hideAll_none _ (List.mem_append_right _ (.head _))
  have hlt : (hideAll s'.heap ((envOf name scope L a cd :: outer).filterMap (·.frame) ++ [e, t])).get? t = none := hideAll_none _ (List.mem_append_right _ (.tail _ (.head _)))
  refine wpAny_mono (wpAny_KD (KD_leaving _ _) (wpAny_leaving_firstW (a0 := .ref t) (Q := fun _ s'' => Heap.LeftW (hideAll s'.heap ((envOf name scope L a cd :: outer).filterMap (·.frame) ++ [e, t])) (envOf name scope L a cd :: outer) e (.ref C) (.ref t) s'.heap s''.heap ∧ s'' = { s' with heap := s''.heap })
    (E := fun _ _ => False) K'.stack (funFrames_hide K'.frames hin) rfl Ne.1 (fun b o q => of_hideAll _ q) hle rfl rfl rfl fun h' hL => ⟨hL, rfl⟩)) (fun _ s'' hs => ?_) fun _ _ x => x.1.elim
  obtain ⟨⟨hL, hs⟩, hdk⟩ := hs
  obtain ⟨h'', _, _, _, _⟩ := s''
  cases hs
  obtain ⟨k1, ⟨_, _, k2⟩, k3, k4⟩ := hL
  refine hQ h'' ⟨⟨⟨_, st, sg, hl, ⟨k1, hle, k2, k3⟩, hlt⟩, ?_⟩, ?_⟩ ((Heap.UpToSlots.of_keeps F.keep).trans k4)
  · have T : s'.heap.TupAt t vs := ⟨_, 0, Nt.1, rfl, rfl⟩
    exact T.of_slots k4
  · obtain ⟨oe, _, _, _, _, he, _⟩ := k3
    exact ⟨oe, he, hdk.get Ne.1 he⟩
theorem leave_onX (K : Below A base outer g) (F : Fr g L g₂ m) (R : RaisedX base g₂ (envOf name scope L a cd :: outer) e C t vs D news s'.heap) (hsm : g₂.UpToSlots s'.heap)
    (hQ : ∀ h', RaisedX base g outer e C t vs D news h' → g.UpToSlots h' → Q () { s' with heap := h' }) :
    wpAny M (A.deeper (envOf name scope L a cd)) (leaving (envOf name scope L a cd) (.ref e)) Q E s' := by
  obtain ⟨R, oe, hoe, hod⟩ := R
  refine wpAny_mono (wpAny_KD (KD_leaving _ _) (leave_onS (Q := fun _ s'' => (RaisedS base g outer e (.ref C) t vs news s''.heap ∧ g.UpToSlots s''.heap) ∧ s'' = { s' with heap := s''.heap }) (E := fun _ _ => False) K F R hsm fun h' r1 _ r3 => ⟨⟨r1, r3⟩, rfl⟩)) (fun _ s'' hs => ?_) fun _ _ x => x.1.elim
  obtain ⟨⟨⟨r1, r3⟩, hs⟩, hdk⟩ := hs
  obtain ⟨h'', _, _, _, _⟩ := s''
  cases hs
  refine hQ h'' ⟨r1, ?_⟩ r3
  obtain ⟨⟨_, _, _, _, hfl, _⟩, _⟩ := r1
  obtain ⟨oe', he', _⟩ := hfl.there
  exact ⟨oe', he', (hdk.get hoe he').trans hod⟩
end
end Mine
end
section
open PySem PySem.W PyProof.Rows PySem.Spec PySem.Calls
namespace Mine
set_option maxRecDepth 100000
/-- a step that keeps dicts: what it ends in keeps them too -/
theorem withKD {M : Model} {A : Around} {E : Value → Shared → Prop} {s : Shared} {t : Sem Unit} {P : Heap → Prop} {Q : Unit → Shared → Prop} (hk : KD t)
    (step : ∀ {Q' : Unit → Shared → Prop} {E' : Value → Shared → Prop}, (∀ h', P h' → Q' () { s with heap := h' }) → wpAny M A t Q' E' s)
    (hQ : ∀ h', P h' → DK s.heap h' → Q () { s with heap := h' }) : wpAny M A t Q E s := by
  refine wpAny_mono (wpAny_KD hk (step (Q' := fun _ s'' => P s''.heap ∧ s'' = { s with heap := s''.heap }) (E' := fun _ _ => False) fun h' hp => ⟨hp, rfl⟩)) (fun _ s'' hs => ?_) fun _ _ x => x.1.elim
  obtain ⟨⟨hp, hs⟩, hdk⟩ := hs
  obtain ⟨h'', _, _, _, _⟩ := s''
  cases hs
  exact hQ h'' hp hdk
section
variable {prog : Program} {w : World} {A₀ : Around} {E : Value → Shared → Prop} {s' : Shared} {base g G : Heap} {outer : List Env} {L a e t C D : Addr} {m : Str → Option Value} {name : Str} {scope : Scope} {cd : Value}
  {vs : List Value} {n : Str} {b₀ : Stmt} {suite : List Stmt} {pos np : Pos} {rest : List ExceptHandler} {Q : Flow → Shared → Prop} {news : List (Addr × Obj)} {KF : Frag}
  {p : Program} {loose : List Str} {mean : ExcName → Option Value} {mg mb : Str → Option Value} {x : Str}
/-- an own exception with an instance dict is caught by its class, and named -/
theorem caughtX (R : RaisedX base G (envOf name scope L a cd :: outer) e C t vs D news s'.heap) (F : Fr g L G m) (K : Below A₀ base outer g) (hsm : G.UpToSlots s'.heap) (XB : KF.In base) (TB : Top p loose mean mg mb base)
    (ex : nsIn KF mainGlobals x = some (some (.ref C))) (q : ktsIn KF C "BaseException" = true)
    (k : ∀ h' g' tk oe, KtsTurn (outer.filterMap (·.frame)) g g' → Fr g' L h' (fun y => if y = n then some (.ref e) else m y) → News g' L h' ((e, oe) :: news) → oe.cls = .ref C → oe.dict = some D → (∀ q ∈ news, q.1 ≠ e) → Below A₀ base outer g' → KF.In g' → Top p loose mean mg mb g' →
      wpAny (model prog w) ((A₀.deeper (envOf name scope L a cd)).mark (some (.ref e))) (execs (b₀ :: suite) (envOf name scope L a cd))
        (fun f s₄ => wpAny (model prog w) (A₀.deeper (envOf name scope L a cd)) (do bindName (envOf name scope L a cd) n .none; unbindBehindTheSuite (envOf name scope L a cd) n pos) (fun _ s₅ => Q f s₅) E s₄)
        (AsSuiteRaised (model prog w) ((A₀.deeper (envOf name scope L a cd)).mark (some (.ref e))) (envOf name scope L a cd) n pos (notedBy (model prog w) ((A₀.deeper (envOf name scope L a cd)).mark (some (.ref e))) (envOf name scope L a cd) (cameBackBy (model prog w) (A₀.deeper (envOf name scope L a cd)) (envOf name scope L a cd) E)))
        { s' with heap := h', toks := tk })
    (hk : scope.kind = .function := by rfl) (hlo : (envOf name scope L a cd).kindOf n = some .local := by rfl) (hx : (envOf name scope L a cd).kindOf x = some .globalImplicit := by rfl) (hd : (x == ("__debug__" : Str)) = false := by decide) :
    wpAny (model prog w) (A₀.deeper (envOf name scope L a cd)) (noteFrame (.ref e) (envOf name scope L a cd))
      (fun _ s₂ => wpAny (model prog w) (A₀.deeper (envOf name scope L a cd)) (setFlight (.ref e) none) (fun _ s₃ =>
        wpAny (model prog w) (A₀.deeper (envOf name scope L a cd)) (handleBy (.ref e) (envOf name scope L a cd) (.ExceptHandler (some (.Name x np)) (some n) (b₀ :: suite) pos :: rest)) Q E s₃) E s₂) E s' := by
  obtain ⟨⟨⟨B, hB, hBG, hl, hfl, hnew⟩, htup⟩, oe₀, hoe₀, hod₀⟩ := R
  have hL : B.get? L = none := by
    obtain ⟨_, ⟨L', _, hf, hn', _⟩, _⟩ := hfl.2.2.1
    obtain rfl : L = L' := Option.some.inj hf
    exact hn'
  refine withKD (P := fun h' => Heap.HeldW B (envOf name scope L a cd :: outer) e (.ref C) (.ref t) L h' ∧ s'.heap.UpToSlots h') (KD_noteFrame _ _) (fun hQ => wpAny_looks_onW (Around.frames_deeper K.stack) rfl hfl fun h' y z => hQ h' ⟨y, z⟩) fun h₄ ⟨hheld₄, hsm₄⟩ d₄ => ?_
  refine withKD (P := fun h' => Heap.FlyingW B (envOf name scope L a cd :: outer) e (.ref C) (.ref t) h' ∧ h₄.UpToSlots h') (KD_setFlight _ _) (fun hQ => wpAny_landsW hheld₄ fun h' y z => hQ h' ⟨y, z⟩) fun h₅ ⟨hheld, hsm₅'⟩ d₅ => ?_
  have hsm₅ := hsm₄.trans hsm₅'
  have d₅ := d₄.trans d₅
  obtain ⟨g₅, T₅, F₅, K₅⟩ := kts_ground K F hBG hheld.1 (hsm.trans hsm₅)
  have X₅ : KF.In g₅ := XB.keeps K₅.stays
  have P₅ : TopRead p loose mg mb g₅ := topRead_of (TB.keeps K₅.stays)
  obtain ⟨ob, hob, hobc⟩ := hheld.there
  obtain ⟨nm, q', N, bs, bm, hdct, sn, sub, ab, col, dd, k0, k1, k2, k3, k5, newId, hC, hbase, hbT⟩ := kts_cls X₅ q
  have hC₅ := F₅.keep _ _ hC
  refine wpAny_handleBy_cons (codeAny_handlers_test (name_K F₅ X₅ P₅ ex ?_ hk hx hd)) (by intro q; cases q)
  refine wpAny_excMatches_sub_self hC₅ hob hobc hbase (codeAny_handlers_suite_as ?_)
  refine withKD (s := { s' with heap := h₅ }) (P := fun h' => Heap.FlyingW B (envOf name scope L a cd :: outer) e (.ref C) (.ref t) h' ∧ h₅.UpToSlots h') (KD_setFlight _ _) (fun hQ => lands_againW hheld fun h' y z => hQ h' ⟨y, z⟩) fun h₆ ⟨hfl₆, hsm₆⟩ d₆ => ?_
  have d₆ := d₅.trans d₆
  obtain ⟨g₆, T₆, F₆, K₆⟩ := kts_ground K F hBG hfl₆.1 ((hsm.trans hsm₅).trans hsm₆)
  obtain ⟨oe, ws, hoe, hoec, hoed, hoe0⟩ := hfl₆.first
  have ne₆ : g₆.get? e = none := T₆.none_ _ (kts_fresh F hBG hfl₆.2.1 fun o ho m => by
    obtain ⟨_, o', ho', hd⟩ := K.frames.mem m
    rw [ho] at ho'
    cases ho'
    obtain ⟨sl, hs⟩ := ((hsm.trans hsm₅).trans hsm₆) _ _ (F.keep _ _ ho) hd
    rw [hoe] at hs
    cases hs
    exact hd _ hoed)
  have N₆ := News.more F₆ News.nil hoe (fun es n q => by rw [hoed] at q; cases q) ne₆
  have Nl : News g₆ L h₆ news := fun q hq => ⟨hfl₆.1 _ _ (hl q hq).1, (fun z => by have := (hl q hq).1; rw [z, hL] at this; cases this), T₆.none_ _ (kts_none F.keep (hl q hq).2.1)⟩
  refine stN F₆ (news := _ ++ news) (fun q hq => (List.mem_append.mp hq).elim (N₆ q) (Nl q)) (fun h₇ F₇ N₇ => ?_) hk hlo
  exact k h₇ g₆ _ oe T₆ F₇ N₇ hoec ((d₆.get hoe₀ hoe).trans hod₀) (fun q hq z => by
    have := (hl q hq).1
    rw [z, hfl.2.1] at this
    cases this) K₆ (XB.keeps K₆.stays) (TB.keeps K₆.stays)
end
section
variable {M : Model} {prog : Program} {w : World} {A : Around} {E : Value → Shared → Prop} {s : Shared} {env : Env}
theorem wpC_attempt {m : Sem Flow} {Q : Except Value Flow → Shared → Prop} (h : wpC M A m (fun f s' => Q (.ok f) s') (fun e s' => Q (.error e) s') s) : wpC M A m.attempt Q E s := fun Γ p hΓ ho hb => by
  rw [Sem.wp_attempt]
  exact h Γ p hΓ ho hb
theorem wpC_Try {body orelse : List Stmt} {h₀ : ExceptHandler} {hs : List ExceptHandler} {pos : Pos} {Q : Flow → Shared → Prop}
    (h : wpC (model prog w) A (execs body env) (fun f s₁ => match f with | .next => wpC (model prog w) A (execs orelse env) Q E s₁ | f => Q f s₁)
      (fun e s₁ => wpAny (model prog w) A (noteFrame e env) (fun _ s₂ => wpAny (model prog w) A (setFlight e none) (fun _ s₃ => wpAny (model prog w) A (handleBy e env (h₀ :: hs)) Q E s₃) E s₂) E s₁) s) :
    wpC (model prog w) A (exec (.Try body (h₀ :: hs) orelse [] pos) env) Q E s := by
  rw [arm_exec_Try]
  refine wpC_standAt ?_
  unfold tryStmt
  simp only [List.isEmpty_nil, if_true, List.isEmpty_cons, Bool.false_and, Bool.false_eq_true, if_false]
  refine wpC_bind (wpC_attempt (wpC_mono h (fun f s₁ h₁ => ?_) fun e s₁ h₁ => ?_))
  · cases f <;> first | exact h₁ | exact wpC_pure h₁
  · exact .of (wpAny_bind (wpAny_mono h₁ (fun _ _ h₂ => wpAny_bind h₂) fun _ _ x => x))
end
/-- a def left on a ground whose frames took slots -/
def LeaveT (fs : List Addr) (A₀ : Around) (base : Heap) (outer : List Env) (h₀ : Heap) (L : Addr) (m : Str → Option Value) (g : Heap) (R : Result → Shared → Prop) (v : Value) (s' : Shared) : Prop :=
  ∃ g' L' m' news', KtsTurn fs g g' ∧ Fr g' L' s'.heap m' ∧ News g' L' s'.heap news' ∧ ∀ h₀', KtsTurn (outer.filterMap (·.frame)) h₀ h₀' → Fr h₀' L s'.heap m → News h₀' L s'.heap news' → Below A₀ base outer h₀' → R (.ok (.ret v)) s'
section
variable {prog : Program} {w : World} {A A₀ : Around} {R : Result → Shared → Prop} {E : Value → Shared → Prop} {s : Shared} {cn : Str} {cs : Scope} {a : Addr} {ccd : Value} {outer : List Env} {base h₀ : Heap} {L : Addr} {m mg mb : Str → Option Value} {news : List (Addr × Obj)} {K : Frag} {p : Program} {loose : List Str} {mean : ExcName → Option Value}
theorem defCT {name qual : Str} {params : Arguments} {body : List Stmt} {scope : Scope} {dV kV doc pm cdv ct oc : Value} {an od : Option Addr} {osl : Array (Option Value)} {f : Addr} {args : Args} {binds : List (Str × Value)}
    (B : Below A₀ base outer h₀) (F : Fr h₀ L s.heap m) (X₀ : K.In h₀) (N : News h₀ L s.heap news) (T : Top p loose mean mg mb h₀) (hA : A.frames = some (envOf cn cs L a ccd :: outer)) (hck : cs.kind = .function)
    (ho : K.lookup f = some ⟨oc, od, .func (fnOf name qual params body scope dV kV doc pm an cdv ct), osl⟩) (hcd : codeIn K cdv qual = true) (hroom : A.depth < recursionLimit)
    (hbind : BindsTo s (fnOf name qual params body scope dV kV doc pm an cdv ct) args binds) (hloc : ∀ y ∈ binds, scope.names.lookup y.1 = some .local)
    (h : ∀ g L' h₁, Fr h₀ L g m → Fr g L' h₁ (fun y => binds.reverse.lookup y) → News g L' h₁ news → Below A base (envOf cn cs L a ccd :: outer) g → K.In g → Top p loose mean mg mb g →
      wpC (model prog w) (A.deeper (envOf qual scope L' f cdv)) (execs body (envOf qual scope L' f cdv))
        (fun fl s' => LeaveT ((envOf cn cs L a ccd :: outer).filterMap (·.frame)) A₀ base outer h₀ L m g R (match fl with | .ret v => v | _ => .none) s')
        (fun e s' => wpAny (model prog w) (A.deeper (envOf qual scope L' f cdv)) (leaving (envOf qual scope L' f cdv) e) (fun _ s'' => R (.error e) s'') (fun e' s'' => R (.error e') s'') s')
        { s with heap := h₁, toks := s.toks + binds.length })
    (hco : scope.isCoroutine = false) (hgen : scope.isGenerator = false) (hk : scope.kind = .function)
    (hcell : ∀ x ∈ scope.names, x.2 ≠ .cell) : codeC (model prog w) A (.call (.ref f) args) R s := by
  have X := X₀.keeps F.keep
  refine codeC_call_function hroom (X _ _ ho) rfl hco hgen rfl (codeRec_of X hcd) (hbind _ _ _ _ ?_)
  refine wpAny_newFunctionEnv hcell hloc (fun h₁ hns hsb => ⟨(T.nolimit.keeps F.keep).fresh _ hsb, codeC_func ?_⟩) hk
  have hk₁ : ∀ b o, s.heap.get? b = some o → h₁.get? b = some o := fun b o e => hsb.extBut b o (Nat.ne_of_lt (Heap.lt_size e)) (Heap.get?_push_of_some _ e)
  obtain ⟨oL, es, ep, hLg, hLd, hN, hNs, st, B₂⟩ := kts_enter B F N hA hck
  refine wpC_mono (h _ s.heap.objs.size h₁ ⟨hN _ hLg, st, F.above⟩ ⟨hns, fun b o e => hk₁ b o (of_hideAll _ e), Nat.le_of_eq (hideAll_size _ _)⟩
    (fun p hp => ⟨hk₁ _ _ (N p hp).1, Nat.ne_of_lt (Heap.lt_size (N p hp).1), hideAll_none _ (List.mem_map_of_mem hp)⟩) B₂ (X₀.keeps st) (T.keeps st)) (fun fl s' hl => ?_) fun _ _ y => y
  have nL₀ : h₀.get? L = none := kts_self F
  obtain ⟨g', L', m', news', T', F', N', k⟩ := hl
  obtain ⟨sl, hs⟩ := T'.up hLg
  obtain ⟨T₁, S₁⟩ := kts_turn_at (h := s'.heap) (fs := outer.filterMap (·.frame)) (g := h₀)
    (fun b hb => by
      obtain ⟨_, o, ho', _⟩ := B.frames.mem hb
      exact ⟨o, ho'⟩)
    (fun b o e nmem => F'.keep b o (T'.other b o (st b o e) (fun q => by
      rcases kts_mem q with z | z
      · rw [z, nL₀] at e
        cases e
      · exact nmem z)))
    (fun b o e hm => by
      obtain ⟨sl', hs'⟩ := T'.up (st b o e)
      exact ⟨sl', F'.keep _ _ hs'⟩)
  have B₃ : Below A₀ base outer (ktsHeap s'.heap (outer.filterMap (·.frame)) h₀) := ⟨B.stack, fun b o e => T₁.other b o (B.stays b o e) (fun hm => by
    rw [(B.frames.mem hm).1] at e
    cases e), B.frames.of_keeps fun b o e _ => by
    obtain ⟨sl', hs'⟩ := T₁.up e
    exact ⟨_, hs', rfl⟩⟩
  refine k _ T₁ ⟨hNs sl _ (F'.keep _ _ hs), S₁, by rw [T₁.size]; exact F.above⟩ (fun p hp => ⟨(N' p hp).1, fun q => ?_, ?_⟩) B₃
  · have := (N' p hp).2.2; rw [q, hs] at this; cases this
  · refine T₁.none_ _ ?_
    cases q : h₀.get? p.1 with
    | none => rfl
    | some o =>
      obtain ⟨sl', hs'⟩ := T'.up (st _ _ q)
      have := (N' p hp).2.2
      rw [hs'] at this
      cases this
end
end Mine
end
section
open PySem PySem.W PyProof.Rows PySem.Spec PySem.Calls
namespace Mine
set_option maxRecDepth 100000
section
variable {prog : Program} {w : World} {A : Around} {E : Value → Shared → Prop} {s : Shared} {K : Frag} {x C : Addr} {ox : Obj} {od : Option Obj} {name : Str} {expr : Bool} {Q : Value → Shared → Prop}
theorem get_excv {v : Value} (X : K.In s.heap) (I : InstAt s.heap x ox C od) (hga : findIn K (.ref C) "__getattribute__" = some (some (.builtin "BaseException.__getattribute__")))
    (hg2 : findIn K (.ref C) "__getattr__" = some none) (hm : mroIn K C (.type "BaseException") = some true) (hf : findObj K C od name = some (.value v)) (hh : handedIn v = true)
    (h : Q v { s with toks := s.toks + 1 }) : wpAny (model prog w) A (getAttr (.ref x) name expr) Q E s := by
  obtain ⟨hp, g, d, t, os⟩ := s
  have L0 := I.type (M := model prog w)
  have L1 := looks_findIn (M := model prog w) X hga
  have L2 := looks_findIn (M := model prog w) X hg2
  have L3 := looks_find (M := model prog w) X I hf
  have L4 : Looks (model prog w) hp (isInstance (.ref x) (.type "BaseException")) true := I.type.andThen (looks_mroIn X hm)
  unfold getAttr getAttrBy
  refine wpAny_bind (wpAny_mkText (wpAny_holding (wpAny_bind (L0.at (wpAny_bind (L1.at ?_))))))
  have hx0 : (expr && onTheHeap (Value.builtin "BaseException.__getattribute__")) = false := by cases expr <;> rfl
  have hx2 : (Value.builtin "BaseException.__getattribute__" == Value.builtin "object.__getattribute__") = false := by decide +kernel
  dsimp only
  rw [hx2, Bool.and_false, if_neg Bool.false_ne_true]
  unfold getAttrByItsOwn hookBefore
  refine wpAny_bind (wpAny_ite ?_)
  rw [if_pos (show onTheHeap (Value.ref C) = true from rfl)]
  refine L2.at ?_
  refine wpAny_bind (wpAny_attempt ?_)
  refine wpAny_holding ?_
  unfold callGetattribute
  rw [hx0, if_neg Bool.false_ne_true]
  unfold boundAndCalled
  rw [_root_.PySem.F.excAttr_ValueError.ga.bind (.ref x)]
  refine wpAny_bind (wpAny_pure ?_)
  refine wpAny_call ?_
  have hk : builtinKind "BaseException.__getattribute__" = some .slot := by decide +kernel
  have hsplit : splitId "BaseException.__getattribute__" = some ("BaseException", "__getattribute__") := by decide +kernel
  refine codeAny_call_builtin _root_.PySem.F.excAttr_ValueError.ga.plain _root_.PySem.F.entry_bexc_ga (@check_slot (model prog w) _ _ _ "BaseException.__getattribute__" "BaseException" "__getattribute__" (.ref x) [Value.str name t] [] _ hk hsplit L4 (_root_.PySem.F.args_bexc_ga _ _) ?_)
  unfold Builtin.«object.__getattribute__»
  have hsa : slotArgs "__getattribute__" 1 ⟨[.ref x, .str name t], []⟩ = pure (Value.ref x, [Value.str name t]) := rfl
  show wpAny _ _ (slotArgs "__getattribute__" 1 ⟨[Value.ref x, Value.str name t], []⟩ >>= _) _ _ _
  rw [hsa]
  refine wpAny_bind (wpAny_pure ?_)
  dsimp only
  have hat : Builtin.ObjectAttr.attrName (Value.str name t) = pure name := rfl
  rw [hat]
  refine wpAny_bind (wpAny_pure (wpAny_bind (L0.at (wpAny_bind (L3.at ?_)))))
  refine wpAny_pure ?_
  dsimp only
  rw [handedOut_of hh]; exact wpAny_pure h
end
end Mine
end
section
open PySem PySem.W PyProof.Rows PySem.Spec PySem.Calls
namespace Mine
theorem ite_T {P R : Prop} (h : P) : if true = true then P else R := by rw [if_pos rfl]; exact h
theorem ite_F {P R : Prop} (h : R) : if false = true then P else R := by rw [if_neg Bool.false_ne_true]; exact h
theorem ite_nT {P R : Prop} (h : R) : if (!true) = true then P else R := h
theorem ite_nF {P R : Prop} (h : P) : if (!false) = true then P else R := h
theorem ite_D {c : Prop} [Decidable c] {P R : Prop} (h1 : c → P) (h2 : ¬ c → R) : if decide c = true then P else R := by
  by_cases hc : c
  · rw [decide_eq_true hc]; exact h1 hc
  · rw [decide_eq_false hc]; exact h2 hc
theorem ite_nD {c : Prop} [Decidable c] {P R : Prop} (h1 : ¬ c → P) (h2 : c → R) : if (!decide c) = true then P else R := by
  by_cases hc : c
  · rw [decide_eq_true hc]; exact h2 hc
  · rw [decide_eq_false hc]; exact h1 hc
theorem ite_B {b : Bool} {P R : Prop} (h1 : b = true → P) (h2 : b = false → R) : if b = true then P else R := by
  cases b
  · exact h2 rfl
  · exact h1 rfl
theorem ite_nB {b : Bool} {P R : Prop} (h1 : b = false → P) (h2 : b = true → R) : if (!b) = true then P else R := by
  cases b
  · exact h1 rfl
  · exact h2 rfl
theorem news_tl {h₀ h : Heap} {L : Addr} {x : Addr × Obj} {news : List (Addr × Obj)} (N : News h₀ L h (x :: news)) : News h₀ L h news := fun q hq => N q (.tail _ hq)
theorem news_tl2 {h₀ h : Heap} {L : Addr} {x y : Addr × Obj} {news : List (Addr × Obj)} (N : News h₀ L h (x :: y :: news)) : News h₀ L h news := fun q hq => N q (.tail _ (.tail _ hq))
theorem news_tl3 {h₀ h : Heap} {L : Addr} {x y z : Addr × Obj} {news : List (Addr × Obj)} (N : News h₀ L h (x :: y :: z :: news)) : News h₀ L h news := fun q hq => N q (.tail _ (.tail _ (.tail _ hq)))
end Mine
end
section
open PySem PySem.W PyProof.Rows PySem.Spec PySem.Calls
namespace Mine
set_option maxRecDepth 100000
set_option maxHeartbeats 8000000
theorem fillK_EX7 : Dummy PySem.Challenge.rw_pq1181_01 Tops.hd.heap_39 := by w_top off; k_with_none; k_fill; trivial
section
variable {w : World} {p : Program} {loose : List Str} {mean : ExcName → Option Value} {mg mb : Str → Option Value}
  {dp un : Nat} {gd : Option (List Code)} {cn : Str} {cs : Scope} {a : Addr} {ccd : Value} {cl : List (Str × Addr)} {outer : List Env} {A₀ : Around} {base h₀ : Heap} {L : Addr} {m : Str → Option Value} {news : List (Addr × Obj)} {s : Shared} {Q E : Value → Shared → Prop}

theorem words_EX7_1 : True := by
  k_with "go" =>
    repeat' (first | (k_unfold; (try dsimp only)) | (k_end; fail) | walk1 | (dsimp only; walk1) | fail "no step")
  k_with "execs cons" =>
    refine wpAny_execs_cons ?_
  k_with "execs nil" =>
    refine wpAny_execs_nil ?_
  k_with "my intro" =>
    (intro hc; try (exfalso; omega))
  k_with "ite" =>
    first
      | with_reducible refine ite_T ?_ | with_reducible refine ite_F ?_ | with_reducible refine ite_nT ?_ | with_reducible refine ite_nF ?_
      | (with_reducible refine ite_D ?_ ?_ <;> walk_at "my intro") | (with_reducible refine ite_nD ?_ ?_ <;> walk_at "my intro") | (with_reducible refine ite_B ?_ ?_ <;> intro hc) | (with_reducible refine ite_nB ?_ ?_ <;> intro hc)
  trivial
theorem wpAny_Raise_made {A : Around} {env : Env} {Q : Flow → Shared → Prop} {ex : Expr} {pos : Pos} {C : Addr} {nm q : Str} {N : Addr} {bs bm : List Value} {hdct : Bool} {sn : List Str} {sub : List Value} {ab : Bool} {col : Option Bool} {dd : Option Addr} {k0 k1 k2 k3 k5 : Option Value} {newId : String}
    (hbase : bm.contains (.type "BaseException") = true) (hh : A.handled = none)
    (h : wpAny (model p w) A (eval ex env) (fun v s₁ => ∃ e d t, v = .ref e ∧ s₁.heap.get? C = some (excClassObj nm q C N bs bm hdct sn sub ab col dd k0 k1 k2 k3 k5 newId) ∧ s₁.heap.get? e = some (excO C d t) ∧ E (.ref e) s₁) E s) :
    wpAny (model p w) A (exec (.Raise (some ex) none pos) env) Q E s := by
  have hcB : (Value.ref C :: bm).contains (.type "BaseException") = true := by rw [List.contains_cons, hbase, Bool.or_true]
  rw [arm_exec_Raise]
  refine wpAny_bind (wpAny_standAt ?_)
  simp only [evalOpt, Option.map]
  unfold raiseStmt
  refine wpAny_bind (wpAny_bind (wpAny_mono h (fun v s₁ h₁ => ?_) fun _ _ x => x))
  obtain ⟨e, d, t, rfl, hC, he, hE⟩ := h₁
  refine wpAny_bind (wpAny_standAt (wpAny_pure ?_))
  obtain ⟨hp, g, d, tk, os⟩ := s₁
  repeat (first | with_reducible refine wpAny_loadPart_at he ?_ | with_reducible refine wpAny_loadPart_at hC ?_ | (with_reducible refine wpAny_isSubtype_exc hC ?_; rw [hcB]) | wp_step)
  exact wpAny_raiseNew_none hh hE

end
end Mine
end
section
open PySem PySem.W PyProof.Rows PySem.Spec PySem.Calls
namespace Mine
set_option maxRecDepth 100000
set_option maxHeartbeats 8000000
theorem fillK_EX8 : Dummy PySem.Challenge.rw_pq1181_01 Tops.hd.heap_39 := by w_top off; k_with_none; k_fill; trivial
section
variable {w : World} {p : Program} {loose : List Str} {mean : ExcName → Option Value} {mg mb : Str → Option Value}
  {dp un : Nat} {gd : Option (List Code)} {cn : Str} {cs : Scope} {a : Addr} {ccd : Value} {cl : List (Str × Addr)} {outer : List Env} {A₀ : Around} {base h₀ : Heap} {L : Addr} {m : Str → Option Value} {news : List (Addr × Obj)} {s : Shared} {Q E : Value → Shared → Prop}

theorem words_EX8_1 : True := by
  k_with "go" =>
    repeat' (first | (k_unfold; (try dsimp only)) | (k_end; fail) | walk1 | (dsimp only; walk1) | fail "no step")
  k_with "execs cons" =>
    refine wpAny_execs_cons ?_
  k_with "execs nil" =>
    refine wpAny_execs_nil ?_
  k_with "my intro" =>
    (intro hc; try (exfalso; omega))
  k_with "ite" =>
    first
      | with_reducible refine ite_T ?_ | with_reducible refine ite_F ?_ | with_reducible refine ite_nT ?_ | with_reducible refine ite_nF ?_
      | (with_reducible refine ite_D ?_ ?_ <;> walk_at "my intro") | (with_reducible refine ite_nD ?_ ?_ <;> walk_at "my intro") | (with_reducible refine ite_B ?_ ?_ <;> intro hc) | (with_reducible refine ite_nB ?_ ?_ <;> intro hc)
  trivial
theorem c_badcmd {i : Int} {ti : Tok} (B : Below A₀ base outer h₀) (F : Fr h₀ L s.heap m) (X : (Tops.hd.heap_39 w.params).In h₀) (N : News h₀ L s.heap news) (T : Top p loose mean mg mb h₀) (hk : cs.kind = .function)
  (hd : dp + 2 < recursionLimit) (hu : un + 16 < cLine)
  (ret : ∀ e t D h' tk' tkk, Fr h₀ L h' m → News h₀ L h' ((D, dictOf [⟨PyData.keyHash w.params "told", .str "told" tkk, .int i ti⟩] 1) :: (e, excO 45 (some D) t) :: (t, tupO [.int i ti]) :: news) → e ≠ t → (∀ p ∈ news, p.1 ≠ e ∧ p.1 ≠ t ∧ p.1 ≠ D) →
    Q (.ref e) { s with heap := h', toks := tk' }) :
  wpAny (model PySem.Challenge.rw_pq1181_01.row.prog w) (ktrTop dp un gd cn cs L a ccd cl outer) (call (.ref 45) [.int i ti]) Q E s := by
  refine wpAny_call ?_
  obtain ⟨hp, g, d, tk, os⟩ := s
  have hC : hp.get? 45 = some (excClassObj _ _ 45 _ _ (tl2 32) _ _ _ _ _ _ _ _ _ _ _ "Exception.__new__") := X.keeps F.keep _ _ (by k_is)
  refine make_excM (o₁ := emptyDict) (X.keeps F.keep) hC (init := 29) (by k_is) (by k_is) ?_
  have hlt : ∀ p ∈ news, p.1 < hp.objs.size := fun p hp => Heap.lt_size (N p hp).1
  have F1 := F.push { cls := .type "tuple", data := .seq #[.int i ti] }
  have N1 := N.push F { cls := .type "tuple", data := .seq #[.int i ti] }
  have F2 := F1.push (excO 45 none hp.objs.size)
  have N2 := N1.push F1 (excO 45 none hp.objs.size)
  have hsz : (hp.push { cls := .type "tuple", data := .seq #[.int i ti] }).objs.size = hp.objs.size + 1 := by simp [Heap.push]
  rw [hsz] at N2
  generalize hp.objs.size = t at *
  clear N1 F1 N F hC
  have XX := X.keeps F2.keep
  k_dflt (refine' code_def ?k1 ?k2 ?k3 ?k4 ?k5 ?kA ?kF ?kK ?k6 ?k7 ?k8 ?k9 ?kB ?_ ?c2 ?c3 ?c4 ?c5; (case kA => exact rfl); (case kF => exact rfl); (case kK => assumption); (case k1 => k_asm); (case k2 => k_asm); (case k3 => k_asm); (case k4 => k_asm); (case k5 => k_asm); (case k6 => k_is); (case k7 => k_is); (case k8 => ktr_room); (case k9 => exact kp_binds XX (fun _ => rfl)); (case c5 => decide); (case kB => exact locs rfl); (case c2 => exact rfl); (case c3 => exact rfl); (case c4 => exact rfl); k_whole; clear XX; intro g' L' h' FG' F' N' B' X' T'; (try dsimp only); (try k_lift B'); (try k_fold))
  walk_at "go"
  have hn : ∀ p ∈ news, p.1 ≠ t := fun p hp => Nat.ne_of_lt (hlt p hp)
  have hn1 : ∀ p ∈ news, p.1 ≠ t + 1 := fun p hp => Nat.ne_of_lt (Nat.lt_succ_of_lt (hlt p hp))
  refine told_set (pre := []) (C₁ := 32) F' (X'.keeps F'.keep) N' (fun _ hp => nomatch hp) (fun p hp => ?_) (by kernel_rfl) (by k_is) (by k_is) fun D h'' tkk tk' F'' N'' hD => ?_
  · rcases List.mem_cons.mp hp with rfl | hp
    · exact Nat.ne_of_lt (Nat.lt_succ_self t)
    · exact hn1 p hp
  walk_at "go"
  rename News h₀ L h'' _ => kN
  rename Fr h₀ L h'' _ => kF
  refine ret (t + 1) t D h'' _ tkk kF kN (Nat.succ_ne_self t) fun p hp => ⟨hn1 p hp, hn p hp, ?_⟩
  exact Nat.ne_of_lt (hD p (.tail _ (.tail _ hp)))

end
end Mine
end
section
open PySem PySem.W PyProof.Rows PySem.Spec PySem.Calls
namespace Mine
/-! ## The plain law: what both readers compute -/
abbrev itm (ks : List Int) (i : Int) : Int := ks.getD i.toNat 0
def signS (k : Int) (f : Bool) : Bool := decide ((65 ≤ k ∧ k ≤ 90) ∨ (97 ≤ k ∧ k ≤ 122) ∨ k = 95 ∨ (f = false ∧ 48 ≤ k ∧ k ≤ 57))
def escS (k : Int) : Int := if k = 97 then 7 else if k = 98 then 8 else if k = 101 then 27 else if k = 102 then 12 else if k = 110 then 10 else if k = 114 then 13 else if k = 115 then 32 else if k = 116 then 9 else if k = 118 then 11 else k
def octS (a b c : Int) : Option Int := if (48 ≤ a ∧ a ≤ 51) ∧ (48 ≤ b ∧ b ≤ 55) ∧ (48 ≤ c ∧ c ≤ 55) then some ((a - 48) * 64 + (b - 48) * 8 + c - 48) else none
/-- the three octets from i on -/
def octA (ks : List Int) (i : Int) : Option Int := if i + 2 < ks.length then octS (itm ks i) (itm ks (i + 1)) (itm ks (i + 2)) else none
def byt (v : Int) : Array UInt8 := #[v.toNat.toUInt8]
def escT (ks : List Int) (i : Int) : Option (Array UInt8 × Int) :=
  if i + 1 < ks.length then (match octA ks (i + 1) with
    | some v => some (byt v, i + 4)
    | none => if itm ks (i + 1) = 10 then some (#[], i + 2) else some (byt (escS (itm ks (i + 1))), i + 2))
  else none
def nmE (ks : List Int) (first : Int) : Nat → Int → Int
  | 0, i => i
  | n + 1, i => if i < ks.length ∧ signS (itm ks i) (decide (i = first)) = true then nmE ks first n (i + 1) else i
abbrev Env8 := List UInt8 → Option (Array UInt8)
def cut (b : Array UInt8) (i j : Int) : Array UInt8 := KBy.picked b (some i) (some j)
def varT (b : Array UInt8) (ks : List Int) (env : Env8) (i : Int) : Option (Array UInt8 × Int) :=
  if i + 1 < ks.length ∧ itm ks (i + 1) = 123 then
    (if nmE ks (i + 2) ks.length (i + 2) = i + 2 ∨ ¬ (nmE ks (i + 2) ks.length (i + 2) < ks.length ∧ itm ks (nmE ks (i + 2) ks.length (i + 2)) = 125) then none
    else some ((env (cut b (i + 2) (nmE ks (i + 2) ks.length (i + 2))).toList).getD #[], nmE ks (i + 2) ks.length (i + 2) + 1))
  else if nmE ks (i + 1) ks.length (i + 1) = i + 1 then some (#[36], i + 1)
  else some ((env (cut b (i + 1) (nmE ks (i + 1) ks.length (i + 1))).toList).getD #[], nmE ks (i + 1) ks.length (i + 1))
def turnT (b : Array UInt8) (ks : List Int) (env : Env8) (i : Int) : Option (Array UInt8 × Int) := if itm ks i = 92 then escT ks i else varT b ks env i
def dblS (b : Array UInt8) (ks : List Int) (env : Env8) (begin : Int) : Nat → Array UInt8 → Int → Except Int (Array UInt8 × Int)
  | 0, _, _ => .error begin
  | n + 1, acc, i => if i < ks.length then
      (if itm ks i = 34 then .ok (acc, i + 1)
      else if itm ks i = 92 ∨ itm ks i = 36 then (match turnT b ks env i with
        | none => .error i
        | some (x, j) => dblS b ks env begin n (acc ++ x) j)
      else dblS b ks env begin n (acc.push (itm ks i).toNat.toUInt8) (i + 1))
    else .error begin
def dblT (b : Array UInt8) (ks : List Int) (env : Env8) (i : Int) : Except Int (Array UInt8 × Int) := dblS b ks env i (ks.length + 1) #[] (i + 1)
def endS (k : Int) : Bool := decide (k = 32 ∨ k = 9 ∨ k = 13 ∨ k = 10 ∨ k = 59 ∨ k = 125)
/-- the first single quote from i on -/
def findQ (b : Array UInt8) (i : Int) : Int := if (b.size : Int) - i < 1 then -1 else (Builtin.Bytes.find? b #[39] i.toNat b.size).elim (-1) fun j => (j : Int)
def stepW (b : Array UInt8) (ks : List Int) (env : Env8) (i : Int) : Except Int (Array UInt8 × Int × Bool) :=
  if itm ks i = 39 then (if 0 ≤ findQ b (i + 1) then .ok (cut b (i + 1) (findQ b (i + 1)), findQ b (i + 1) + 1, true) else .error i)
  else if itm ks i = 34 then (dblT b ks env i).map fun r => (r.1, r.2, true)
  else if itm ks i = 92 ∨ itm ks i = 36 then (match turnT b ks env i with
    | none => .error i
    | some (x, j) => .ok (x, j, true))
  else if itm ks i = 126 ∧ i = 0 then .ok ((env [72, 79, 77, 69]).getD #[], 1, true)
  else .ok (byt (itm ks i), i + 1, false)
def wrdS (b : Array UInt8) (ks : List Int) (env : Env8) : Nat → Array UInt8 → Bool → Int → Except Int (Array UInt8 × Bool × Int)
  | 0, acc, bare, i => .ok (acc, bare, i)
  | n + 1, acc, bare, i => if i < ks.length ∧ endS (itm ks i) = false then (match stepW b ks env i with
      | .error e => .error e
      | .ok (x, j, q) => wrdS b ks env n (acc ++ x) (bare && !q) j)
    else .ok (acc, bare, i)
def wrdT (b : Array UInt8) (ks : List Int) (env : Env8) : Except Int (Array UInt8 × Bool × Int) := wrdS b ks env (ks.length + 1) #[] true 0
end Mine
end
section
open PySem PySem.W PyProof.Rows PySem.Spec PySem.Calls
set_option maxHeartbeats 2000000
namespace Mine
open LCt LCg
theorem clip_in {n : Nat} {i : Int} (h0 : 0 ≤ i) : clipAt n i = min i.toNat n := by
  unfold clipAt
  rw [if_neg (by omega)]
  omega
theorem ints_from {b : Array UInt8} {ks : List Int} {i : Int} (hb : KBw.bInts b = ks) (h0 : 0 ≤ i) : KBw.bInts (KBy.picked b (some i) none) = ks.drop i.toNat := by
  rw [KBc.ints_picked hb]
  simp only [Option.elim, clip_in h0]
  by_cases h : i.toNat ≤ ks.length
  · rw [Nat.min_eq_left h, List.take_of_length_le (by simp)]
  · rw [Nat.min_eq_right (by omega), List.drop_of_length_le (by omega : ks.length ≤ i.toNat)]
    simp
theorem ints_to {b : Array UInt8} {ks : List Int} {i : Int} (hb : KBw.bInts b = ks) (h0 : 0 ≤ i) : KBw.bInts (KBy.picked b none (some i)) = ks.take i.toNat := by
  rw [KBc.ints_picked hb]
  simp only [Option.elim, clip_in h0]
  by_cases h : i.toNat ≤ ks.length
  · rw [Nat.min_eq_left h]; simp
  · rw [Nat.min_eq_right (by omega), List.take_of_length_le (by omega : ks.length ≤ i.toNat)]
    simp
theorem ints_cut {b : Array UInt8} {ks : List Int} {i j : Int} (hb : KBw.bInts b = ks) (h0 : 0 ≤ i) (h1 : 0 ≤ j) : KBw.bInts (KBy.picked b (some i) (some j)) = (ks.drop i.toNat).take (j.toNat - i.toNat) := by
  rw [KBc.ints_picked hb]
  simp only [Option.elim, clip_in h0, clip_in h1]
  by_cases h : i.toNat ≤ ks.length
  · rw [Nat.min_eq_left h]
    by_cases h2 : j.toNat ≤ ks.length
    · rw [Nat.min_eq_left h2]
    · rw [Nat.min_eq_right (by omega), List.take_of_length_le (by simp), List.take_of_length_le (by simp; omega)]
  · rw [Nat.min_eq_right (by omega : ks.length ≤ i.toNat), List.drop_of_length_le (by omega : ks.length ≤ i.toNat)]
    simp
theorem drop_one {ks : List Int} {i : Int} (h0 : 0 ≤ i) (h1 : i < ks.length) : (ks.drop i.toNat).take 1 = [itm ks i] := by
  have h : i.toNat < ks.length := by omega
  rw [List.drop_eq_getElem_cons h, List.take_succ_cons, List.take_zero, itm, List.getD_eq_getElem?_getD, List.getElem?_eq_getElem h]
  rfl
theorem ints_inj {b c : Array UInt8} (h : KBw.bInts b = KBw.bInts c) : b = c := by
  have key : ∀ l l' : List UInt8, l.map (fun c => ((c.toNat : Nat) : Int)) = l'.map (fun c => ((c.toNat : Nat) : Int)) → l = l' := fun l => by
    induction l with
    | nil => intro l' h; cases l' with | nil => rfl | cons _ _ => simp at h
    | cons x l ih =>
      intro l' h
      cases l' with
      | nil => simp at h
      | cons y l' =>
        simp only [List.map_cons, List.cons.injEq, Int.natCast_inj] at h
        rw [UInt8.toNat_inj.mp h.1, ih l' h.2]
  have := key b.toList c.toList h
  exact Array.toList_inj.mp this
section
variable {prog : Program} {w : World} {A : Around} {E : Value → Shared → Prop} {s : Shared} {h₀ : Heap} {L : Addr} {m : Str → Option Value} {env : Env}
/-- what the source of a comprehension over octets owes -/
def SrcB (prog : Program) (w : World) (A : Around) (h₀ : Heap) (L : Addr) (m : Str → Option Value) (env : Env) (ct elt : Expr) (x : Str) (scope : Scope) (cl : List (Str × Addr)) (Fin : Shared → List Value → List (Addr × Obj) → Prop) (xv : Value) (s₁ : Shared) : Prop :=
  ∃ b t ks news, KBw.bInts b = ks ∧ xv = .bytes b t ∧ A.handled = none ∧ Fr h₀ L s₁.heap m ∧ News h₀ L s₁.heap news ∧ ks.length ≤ sizeLine ∧
    ∀ g, CompRestT prog w A h₀ L m env ct elt x scope cl { s₁ with heap := g } (fun _ => True) (fun i v => ∃ u, v = .int (ks.getD i 0) u) (Fin { s₁ with heap := g }) ks.length 0 [] news
theorem walks_ints (hh : A.handled = none) (I : Addr) (b : Array UInt8) (t : Tok) :
    Walks prog w A I [I] [I] (KBw.bInts b).length (fun i v => ∃ u, v = .int ((KBw.bInts b).getD i 0) u) (fun i h => KBw.IsBytesIter h I b t i) where
  sub := fun _ hb => hb
  frame := fun _ _ _ st hk => let ⟨o, ho, r⟩ := st; ⟨o, hk I (by simp) o ho, r⟩
  item := fun i s Q E hi st hQ => (KBw.walks hh I b t).item i s Q E (by rw [KBw.ints_length] at hi; exact hi) st fun v h' tk hp => hQ v h' tk (by
    obtain ⟨c, u, hc, rfl⟩ := hp
    exact ⟨u, by rw [List.getD_eq_getElem?_getD, KBw.ints_get hc]; rfl⟩)
  done := fun s Q E st hQ => (KBw.walks hh I b t).done s Q E (by rw [KBw.ints_length] at st; exact st) hQ
  self := (KBw.walks hh I b t).self
theorem Assign_ListComp_B {ct elt iter : Expr} {x y : Str} {px py : Pos} {scope : Scope} {cl : List (Str × Addr)} {pos spos : Pos} {Q : Flow → Shared → Prop} (F₀ : Fr h₀ L s.heap m) (hLe : env.locals = L)
    (hsw : swapsWith (.ListComp elt [⟨.Name x px, iter, [ct], 0⟩] scope pos) (some (.Name y py)) spos.line env = pure true)
    (hclos : closureFor scope env = pure cl) (hcell : ∀ z ∈ scope.names, z.2 ≠ .cell) (hkind : scope.kind = .function)
    (hnames : ∀ z ∈ scope.names, z.2 = .local → scope.names.lookup z.1 = some .local) (hx : scope.names.lookup x = some .local)
    (hy : env.kindOf y = some .local) (hp : (env.scope.kind == .class || (env.scope.kind == .module && env.locals != env.globals)) = false)
    (h : wpAny (model prog w) A (eval iter env) (SrcB prog w A h₀ L m env ct elt x scope cl (fun s₂ => FinA h₀ L m s₂ y Q)) E s)
    (hs : ∀ x, foldedSetIterable iter env x = pure x := by intro _; rfl) :
    wpAny (model prog w) A (exec (.Assign [.Name y py] (.ListComp elt [⟨.Name x px, iter, [ct], 0⟩] scope pos) spos) env) Q E s := by
  subst hLe
  rw [exec_Assign_Name_used _ _ _ _ hsw]
  refine wpAny_bind (wpAny_standAt (wpAny_bind ?_))
  show wpAny _ A (do let _ ← comprehension (.ListComp elt [⟨.Name x px, iter, [ct], 0⟩] scope pos) scope env _ (newList []) false (eval iter env) (some (assign (.Name y py) env))) _ _ s
  refine wpAny_bind (wpAny_mono (wpAny_comprehension_free (use := some (assign (.Name y py) env)) (Q := fun _ s' => Q .next s') rfl hs hclos hkind hnames
    (wpAny_mono h (fun xv s₁ h₁ => ?_) fun _ _ e => e)) (fun _ s' hq => wpAny_pure (wpAny_pure hq)) fun _ _ e => e)
  obtain ⟨b, t, _, news, rfl, rfl, hh, F, N, hsm, R⟩ := h₁
  refine KBw.pyIter_bytes ?_
  have up : ∀ b' o, s₁.heap.get? b' = some o → (s₁.heap.push { cls := .type "bytes_iterator", data := .fields #[.bytes b t, .int 0 0] }).get? b' = some o := fun b' o e => Heap.get?_push_of_some _ e
  refine block_T (walks_ints hh s₁.heap.objs.size b t) hsm (fun i h st => ⟨_, st.choose_spec.1⟩) (fun i h h' o nw st e e' _ _ _ => ?_) hcell hkind hx ⟨_, Heap.get?_push_size _ rfl, rfl, rfl⟩ (fun b' hb => ?_)
    (F.keeps up) (N.grown up) (Nat.ne_of_lt F.ns.lt) (next_is_new F) (fun p hp => Nat.ne_of_lt (Heap.lt_size (N p hp).1)) trivial (R _) ?_
  · obtain ⟨o', ho', r⟩ := st
    rw [e] at ho'
    cases ho'
    exact ⟨_, e', r⟩
  · rw [List.mem_singleton.mp hb]
    show s₁.heap.objs.size < (s₁.heap.push _).objs.size
    rw [Heap.size_push]; exact Nat.lt_succ_self _
  · intro D C h' tk m' ys news' F' N' o1 hn hC₀ hD₀ hCL hDL hCD offC fin
    show wpAny _ A (assign (.Name y py) env (.ref D)) _ _ _
    refine wpAny_assign_Name (wpAny_storeName_local hy F'.ns (fun h₂ hn₂ hs₂ => ?_) hp)
    have hL₀ : h₀.get? env.locals = none := Heap.get?_none_of_le F'.above
    have F₂ : Fr h₀ env.locals h₂ (fun z => if z = y then some (.ref D) else m z) := ⟨hn₂, fun b o e => hs₂.extBut b o (fun q => by rw [q, hL₀] at e; cases e) (F'.keep b o e), F'.above⟩
    refine ⟨m', hn.sameBut hs₂ hCL, fun h'' hs'' => fin D h'' _ (F₂.change hs'' hCL hC₀) (fun p hp => ?_) o1⟩
    have z : h₂.get? p.1 = some p.2 := hs₂.extBut _ _ (N' p hp).2.1 (N' p hp).1
    refine ⟨hs''.extBut _ _ ?_ z, (N' p hp).2⟩
    rcases List.mem_cons.mp hp with rfl | hp
    · exact Ne.symm hCD
    · exact offC p hp
end
end Mine
end
section
open PySem PySem.W PyProof.Rows PySem.Spec PySem.Calls
set_option maxHeartbeats 2000000
namespace Mine
theorem bc_10 : KBw.bInts [(10 : UInt8)].toArray = [10] := rfl
theorem bc_34 : KBw.bInts [(34 : UInt8)].toArray = [34] := rfl
theorem bc_36 : KBw.bInts [(36 : UInt8)].toArray = [36] := rfl
theorem bc_39 : KBw.bInts [(39 : UInt8)].toArray = [39] := rfl
theorem bc_92 : KBw.bInts [(92 : UInt8)].toArray = [92] := rfl
theorem bc_123 : KBw.bInts [(123 : UInt8)].toArray = [123] := rfl
theorem bc_125 : KBw.bInts [(125 : UInt8)].toArray = [125] := rfl
theorem bc_126 : KBw.bInts [(126 : UInt8)].toArray = [126] := rfl
theorem bc_ : KBw.bInts ([] : List UInt8).toArray = [] := rfl
section
variable {prog : Program} {w : World} {A : Around} {E : Value → Shared → Prop} {s : Shared} {b c : Array UInt8} {ks ls : List Int} {t u : Tok} {Q : Value → Shared → Prop}
theorem toList_beq (hb : KBw.bInts b = ks) (hc : KBw.bInts c = ls) : (b.toList == c.toList) = decide (ks = ls) := by
  subst hb hc
  rw [Bool.eq_iff_iff, beq_iff_eq, decide_eq_true_iff]
  exact ⟨fun h => by rw [Array.toList_inj.mp h], fun h => by rw [ints_inj h]⟩
theorem eq_K (hb : KBw.bInts b = ks) (hc : KBw.bInts c = ls) (h : Q (.bool (decide (ks = ls))) s) : wpAny (model prog w) A (compareOp .Eq (.bytes b t) (.bytes c u)) Q E s :=
  eq_bytes (by rw [toList_beq hb hc]; exact h)
theorem ne_K (hb : KBw.bInts b = ks) (hc : KBw.bInts c = ls) (h : Q (.bool (!decide (ks = ls))) s) : wpAny (model prog w) A (compareOp .NotEq (.bytes b t) (.bytes c u)) Q E s :=
  ne_bytes (by have := toList_beq hb hc; simp only [bne, this]; exact h)
theorem eq_Kt (hb : KBw.bInts b = ks) (hc : KBw.bInts c = ls) (e : ks = ls) (h : Q (.bool true) s) : wpAny (model prog w) A (compareOp .Eq (.bytes b t) (.bytes c u)) Q E s :=
  eq_K hb hc (by rw [decide_eq_true e]; exact h)
theorem eq_Kf (hb : KBw.bInts b = ks) (hc : KBw.bInts c = ls) (e : ¬ ks = ls) (h : Q (.bool false) s) : wpAny (model prog w) A (compareOp .Eq (.bytes b t) (.bytes c u)) Q E s :=
  eq_K hb hc (by rw [decide_eq_false e]; exact h)
theorem eq_K1 {x k : Int} (hb : KBw.bInts b = [x]) (hc : KBw.bInts c = [k]) (h : Q (.bool (decide (x = k))) s) : wpAny (model prog w) A (compareOp .Eq (.bytes b t) (.bytes c u)) Q E s :=
  eq_K hb hc (by rw [show decide ([x] = [k]) = decide (x = k) from by simp]; exact h)
theorem ints_one {i j : Int} (hb : KBw.bInts b = ks) (h0 : 0 ≤ i) (hj : j = i + 1) : KBw.bInts (KBy.picked b (some i) (some j)) = if i < ks.length then [itm ks i] else [] := by
  rw [ints_cut hb h0 (by omega), hj, show (i + 1).toNat - i.toNat = 1 from by omega]
  by_cases h : i < ks.length
  · rw [if_pos h, drop_one h0 h]
  · rw [if_neg h, List.drop_of_length_le (by omega)]; rfl
theorem one_is {i j : Int} {k : Int} (hb : KBw.bInts b = ks) (h0 : 0 ≤ i) (hj : j = i + 1) (hc : KBw.bInts c = [k]) : decide (KBw.bInts (KBy.picked b (some i) (some j)) = KBw.bInts c) = decide (i < ks.length ∧ itm ks i = k) := by
  rw [ints_one hb h0 hj, hc]
  by_cases h : i < ks.length
  · rw [if_pos h]; simp [h]
  · rw [if_neg h]; simp [h]
/-- the octet at i, as a slice, is this one -/
theorem eq_one {i j : Int} {k : Int} (hb : KBw.bInts b = ks) (h0 : 0 ≤ i) (hj : j = i + 1) (hc : KBw.bInts c = [k]) (h : Q (.bool (decide (i < ks.length ∧ itm ks i = k))) s) :
    wpAny (model prog w) A (compareOp .Eq (.bytes (KBy.picked b (some i) (some j)) t) (.bytes c u)) Q E s :=
  eq_K rfl rfl (by rw [one_is hb h0 hj hc]; exact h)
theorem ne_one {i j : Int} {k : Int} (hb : KBw.bInts b = ks) (h0 : 0 ≤ i) (hj : j = i + 1) (hc : KBw.bInts c = [k]) (h : Q (.bool (!decide (i < ks.length ∧ itm ks i = k))) s) :
    wpAny (model prog w) A (compareOp .NotEq (.bytes (KBy.picked b (some i) (some j)) t) (.bytes c u)) Q E s :=
  ne_K rfl rfl (by rw [one_is hb h0 hj hc]; exact h)

variable {h₀ : Heap} {L D : Addr} {m : Str → Option Value} {news : List (Addr × Obj)}
/-- bytes([v]) -/
theorem bytes1 {v : Int} {tv : Tok} (F : Fr h₀ L s.heap m) (N : News h₀ L s.heap news) (hh : A.handled = none) (hl : s.heap.IsList D #[.int v tv]) (h0 : 0 ≤ v) (h1 : v < 256)
    (h : ∀ h' t' k, Fr h₀ L h' m → News h₀ L h' news → Q (.bytes (byt v) t') { s with heap := h', toks := k }) : wpAny (model prog w) A (call (.type "bytes") [.ref D]) Q E s :=
  KBa.make_K (vs := [.int v tv]) (ns := [v]) F N hh hl (by repeat constructor) (fun n hn => by rw [List.mem_singleton.mp hn]; exact ⟨h0, h1⟩) (by simp) fun h' t' k F' N' _ => h h' t' k F' N'
theorem item_0 {x : Int} {r : List Int} {ui : Tok} {value slice : Expr} (hk : KBw.bInts b = x :: r) (hfit : (x :: r).length ≤ 1099511627776) (h : ∀ t' k, Q (.int x t') { s with toks := k })
    (hs : subscripted slice false (.bytes b t) (.int 0 ui) = operate [.bytes b t, .int 0 ui] (getItem (.bytes b t) (.int 0 ui)) := by with_unfolding_all rfl)
    (ht : ∀ r, letTemporaryGo value (.bytes b t) r = pure () := by intro _; with_unfolding_all rfl) : wpAny (model prog w) A (subscriptTail value slice (.bytes b t) (.int 0 ui)) Q E s :=
  KBw.item_K hk hfit (by decide) (by simp only [List.length_cons]; omega) (fun t' k _ _ => h t' k) hs ht
theorem get_turned {x : Int} {tx : Tok} {o : Obj} {kvs : List (Int × Value)} (N : News h₀ L s.heap news) (hp : (D, o) ∈ news) (hd : o.IsDictOf (intKind prog w) kvs) (lo : (D == sysModules) = false)
    (ht : ∀ x t, ∃ t', (valueAt kvs x).getD (.int x t) = .int (escS x) t') (h : ∀ t', Q (.int (escS x) t') { s with toks := s.toks + 1 }) :
    wpAny (model prog w) A (call (.builtin "dict.get") [.ref D, .int x t, .int x tx]) Q E s := by
  obtain ⟨t', e⟩ := ht x tx
  exact kdg_get2 (knd := intKind prog w) (k := x) N hp hd lo (by simp [intKind, Value.isInt]) _ rfl (by rw [e]; exact h t')
theorem escS_in {x : Int} (h : 0 ≤ x ∧ x < 256) : 0 ≤ escS x ∧ escS x < 256 := by
  unfold escS
  repeat' split
  all_goals omega
end
end Mine
end
section
open PySem PySem.W PyProof.Rows PySem.Spec PySem.Calls
set_option maxHeartbeats 2000000
namespace Mine
open LCt LCg
theorem comp_ind {prog : Program} {w : World} {A : Around} {h₀ : Heap} {L : Addr} {m : Str → Option Value} {env : Env} {ct elt : Expr} {x : Str} {scope : Scope} {cl : List (Str × Addr)} {s : Shared} {S : List (Addr × Obj) → Prop} {P : Nat → Value → Prop} {Fin : List Value → List (Addr × Obj) → Prop} {news : List (Addr × Obj)}
    (J : Nat → List Value → Prop) {n : Nat} (h0 : J 0 [])
    (turn : ∀ k i ys, i < n → J i ys → (∀ y, J (i + 1) (ys ++ [y]) → CompRestT prog w A h₀ L m env ct elt x scope cl s S P Fin k (i + 1) (ys ++ [y]) news) →
      (J (i + 1) ys → CompRestT prog w A h₀ L m env ct elt x scope cl s S P Fin k (i + 1) ys news) → CompRestT prog w A h₀ L m env ct elt x scope cl s S P Fin (k + 1) i ys news)
    (fin : ∀ ys, J n ys → Fin ys news) : CompRestT prog w A h₀ L m env ct elt x scope cl s S P Fin n 0 [] news := by
  have key : ∀ k i ys, i + k = n → J i ys → CompRestT prog w A h₀ L m env ct elt x scope cl s S P Fin k i ys news := fun k => by
    induction k with
    | zero => intro i ys e hJ; obtain rfl : i = n := by omega
              exact CompRestT.zero (fin ys hJ)
    | succ k ih => intro i ys e hJ; exact turn k i ys (by omega) hJ (fun y h => ih (i + 1) _ (by omega) h) (fun h => ih (i + 1) _ (by omega) h)
  exact key n 0 [] (by omega) h0
def inOct (k : Int) : Bool := decide (48 ≤ k ∧ k ≤ 55)
def octJ (q : List Int) (i : Nat) (ys : List Value) : Prop := ∃ l : List (Int × Tok), ys = l.map (fun p => Value.int p.1 p.2) ∧ l.map (·.1) = ((q.take i).filter inOct).map (· - 48)
theorem octJ_0 (q : List Int) : octJ q 0 [] := ⟨[], rfl, by simp⟩
theorem take_get {q : List Int} {i : Nat} (h : i < q.length) : q.take (i + 1) = q.take i ++ [q.getD i 0] := by
  rw [List.take_add_one, List.getElem?_eq_getElem h, List.getD_eq_getElem?_getD, List.getElem?_eq_getElem h]; rfl
theorem octJ_no {q : List Int} {i : Nat} {ys : List Value} (J : octJ q i ys) (h : i < q.length) (hn : inOct (q.getD i 0) = false) : octJ q (i + 1) ys := by
  obtain ⟨l, e, el⟩ := J
  exact ⟨l, e, by rw [take_get h, List.filter_append, el, List.filter_cons, hn]; simp⟩
theorem octJ_yes {q : List Int} {i : Nat} {ys : List Value} {t : Tok} (J : octJ q i ys) (h : i < q.length) (hn : inOct (q.getD i 0) = true) : octJ q (i + 1) (ys ++ [.int (q.getD i 0 - 48) t]) := by
  obtain ⟨l, e, el⟩ := J
  exact ⟨l ++ [(q.getD i 0 - 48, t)], by rw [e]; simp, by rw [take_get h, List.filter_append, List.map_append, List.map_append, el, List.filter_cons, hn]; simp⟩
theorem octJ_len {rs : List Int} {ys : List Value} (J : octJ (rs.take 3) (rs.take 3).length ys) : ys.length = ((rs.take 3).filter inOct).length := by
  obtain ⟨l, e, el⟩ := J
  have := congrArg List.length el
  rw [List.take_length] at this
  simp only [List.length_map] at this
  rw [e, List.length_map, this]
theorem octJ_3 {rs : List Int} {ys : List Value} (J : octJ (rs.take 3) (rs.take 3).length ys) (h : ys.length = 3) :
    ∃ x y z r tx ty tz, rs = x :: y :: z :: r ∧ (48 ≤ x ∧ x ≤ 55) ∧ (48 ≤ y ∧ y ≤ 55) ∧ (48 ≤ z ∧ z ≤ 55) ∧ ys = [.int (x - 48) tx, .int (y - 48) ty, .int (z - 48) tz] := by
  have hl := octJ_len J
  obtain ⟨l, e, el⟩ := J
  rw [List.take_length] at el
  have hf : ((rs.take 3).filter inOct).length = 3 := by omega
  have hle := List.length_filter_le inOct (rs.take 3)
  rcases rs with _ | ⟨x, _ | ⟨y, _ | ⟨z, r⟩⟩⟩
  · simp at hf
  · simp only [List.take_succ_cons, List.take_nil, List.length_cons, List.length_nil] at hle; simp only [List.take_succ_cons, List.take_nil] at hf; omega
  · simp only [List.take_succ_cons, List.take_nil, List.length_cons, List.length_nil] at hle; simp only [List.take_succ_cons, List.take_nil] at hf; omega
  · simp only [List.take_succ_cons, List.take_zero] at hf el
    have hall := List.length_filter_eq_length_iff.mp (show ([x, y, z].filter inOct).length = [x, y, z].length from hf)
    have hx := hall x (by simp)
    have hy := hall y (by simp)
    have hz := hall z (by simp)
    simp only [inOct, decide_eq_true_eq] at hx hy hz
    have he : [x, y, z].filter inOct = [x, y, z] := List.filter_eq_self.mpr hall
    rw [he] at el
    rcases l with _ | ⟨⟨a, ta⟩, _ | ⟨⟨b, tb⟩, _ | ⟨⟨c, tc⟩, _ | ⟨d, l⟩⟩⟩⟩ <;> simp at el
    obtain ⟨rfl, rfl, rfl⟩ := el
    exact ⟨x, y, z, r, ta, tb, tc, rfl, hx, hy, hz, e⟩
theorem octJ_n {ys : List Value} {x y z : Int} {r : List Int} (J : octJ ((x :: y :: z :: r).take 3) ((x :: y :: z :: r).take 3).length ys) (h : ys.length ≠ 3) : ¬ ((48 ≤ x ∧ x ≤ 55) ∧ (48 ≤ y ∧ y ≤ 55) ∧ (48 ≤ z ∧ z ≤ 55)) := by
  rintro ⟨hx, hy, hz⟩
  have hl := octJ_len J
  apply h
  rw [hl]
  simp only [List.take_succ_cons, List.take_zero]
  simp [inOct, hx, hy, hz]
theorem len_lst {prog : Program} {w : World} {A : Around} {E : Value → Shared → Prop} {s : Shared} {h₀ : Heap} {L D : Addr} {news : List (Addr × Obj)} {ys : List Value} {Q : Value → Shared → Prop} (N : News h₀ L s.heap ((D, lst ys) :: news)) (hz : ys.length ≤ 1000)
    (h : Q (.int (ys.length : Nat) (s.toks + 1)) { s with toks := s.toks + 1 + 1 }) : wpAny (model prog w) A (call (.builtin "len") [.ref D]) Q E s := by
  have hl : s.heap.IsList D ys.toArray := News.isList N (List.Mem.head _)
  have e : (List.toArray ys).size = ys.length := List.size_toArray
  exact call_len_list hl (by rw [e]; omega) (by rw [e]; exact h)
/-- the walk stands still here -/
def Stop (P : Prop) : Prop := P
theorem stop_in {P : Prop} (h : Stop P) : P := h
/-- what an environment's rows say -/
def EnvIs (kvs : List (List UInt8 × Value)) (env : Env8) : Prop := ∀ k, match valueAt kvs k with
  | none => env k = none
  | some v => ∃ x t, v = .bytes x t ∧ env k = some x
theorem get_env {prog : Program} {w : World} {A : Around} {E : Value → Shared → Prop} {s : Shared} {h₀ : Heap} {L D : Addr} {news : List (Addr × Obj)} {o : Obj} {kvs : List (List UInt8 × Value)} {env : Env8} {k d : Array UInt8} {tk td : Tok} {Q : Value → Shared → Prop}
    (N : News h₀ L s.heap news) (hp : (D, o) ∈ news) (hd : o.IsDictOf (bytesKind prog w) kvs) (lo : (D == sysModules) = false) (he : EnvIs kvs env) (h : ∀ t, Q (.bytes ((env k.toList).getD d) t) { s with toks := s.toks + 1 }) :
    wpAny (model prog w) A (call (.builtin "dict.get") [.ref D, .bytes k tk, .bytes d td]) Q E s := by
  refine kdg_get2 (knd := bytesKind prog w) (k := k.toList) N hp hd lo (by simp [bytesKind, isBytes]) _ rfl ?_
  have := he k.toList
  cases hv : valueAt kvs k.toList with
  | none => rw [hv] at this; rw [show env k.toList = none from this] at h; exact h td
  | some v => rw [hv] at this; obtain ⟨x, t, rfl, e⟩ := this; rw [e] at h; exact h t
theorem nm_step {ks : List Int} {f e : Int} {n : Nat} (h : (ks.length : Int) - e ≤ n) (h1 : e < ks.length) (h2 : signS (itm ks e) (decide (e = f)) = true) : ∃ n', n = n' + 1 ∧ nmE ks f n e = nmE ks f n' (e + 1) := by
  obtain ⟨n', rfl⟩ : ∃ n', n = n' + 1 := ⟨n - 1, by omega⟩
  exact ⟨n', rfl, by rw [nmE, if_pos ⟨h1, h2⟩]⟩
theorem nm_stop {ks : List Int} {f e : Int} {n : Nat} (h : ¬ (e < ks.length ∧ signS (itm ks e) (decide (e = f)) = true)) : nmE ks f n e = e := by
  cases n with
  | zero => rfl
  | succ n => rw [nmE, if_neg h]
theorem fn_over {y : Str} {v v' : Option Value} {m : Str → Option Value} : (fun z => if z = y then v else (fun z => if z = y then v' else m z) z) = fun z => if z = y then v else m z := by
  funext z; dsimp only; split <;> rfl
/-- a while that turns one name -/
theorem While_1 {prog : Program} {w : World} {A : Around} {E : Value → Shared → Prop} {Q : Flow → Shared → Prop} {s : Shared} {env : Env} {h₀ : Heap} {L : Addr} {test : Expr} {body : List Stmt} {pos : Pos} {m : Str → Option Value} {news : List (Addr × Obj)}
    (y : Str) (J : Nat → Value → Prop) {n₀ : Nat} {v₀ : Value} (F : Fr h₀ L s.heap m) (N : News h₀ L s.heap news) (hm : m y = some v₀) (hJ : J n₀ v₀)
    (turn : ∀ n v h₁ tk₁, Fr h₀ L h₁ (fun z => if z = y then some v else m z) → News h₀ L h₁ news → J n v →
      wpAny (model prog w) A (isTrue test env (eval test env)) (fun b s₂ =>
        if b = true then wpAny (model prog w) A (execs body env) (WhileStep2 h₀ L s (fun n m₁ news₁ => news₁ = news ∧ ∃ v, m₁ = (fun z => if z = y then some v else m z) ∧ J n v) Q n) E s₂ else Q .next s₂) E { s with heap := h₁, toks := tk₁ })
    (hE : PassesOwn (model prog w) A env E := by passes_own) :
    wpAny (model prog w) A (exec (.While test body [] pos) env) Q E s := by
  refine While_inv2 (J := fun n m₁ news₁ => news₁ = news ∧ ∃ v, m₁ = (fun z => if z = y then some v else m z) ∧ J n v) F N ⟨rfl, v₀, ?_, hJ⟩ ?_ hE
  · funext z
    split
    · rename_i e; rw [e]; exact hm
    · rfl
  · rintro n m₁ news₁ h₁ tk₁ F₁ N₁ ⟨rfl, v, rfl, hJ⟩
    exact turn n v h₁ tk₁ F₁ N₁ hJ
theorem step_1 {Q : Flow → Shared → Prop} {s : Shared} {h₀ h' : Heap} {L : Addr} {m m₂ : Str → Option Value} {news : List (Addr × Obj)} {y : Str} {J : Nat → Value → Prop} {n n' tk : Nat} {v : Value} (F : Fr h₀ L h' m₂) (N : News h₀ L h' news) (hn : n' < n)
    (hy : m₂ y = some v) (hm : ∀ z, z ≠ y → m₂ z = m z) (hJ : J n' v) :
    WhileStep2 h₀ L s (fun n m₁ news₁ => news₁ = news ∧ ∃ v, m₁ = (fun z => if z = y then some v else m z) ∧ J n v) Q n .next { s with heap := h', toks := tk } :=
  ⟨h', tk, m₂, news, n', rfl, F, N, hn, rfl, v, funext fun z => by
    split
    · rename_i e; rw [e]; exact hy
    · rename_i e; exact hm z e, hJ⟩
def eqB (b : Array UInt8) : Value → Bool
  | .bytes c _ => decide (c.toList = b.toList)
  | _ => false
theorem in_two {prog : Program} {w : World} {A : Around} {E : Value → Shared → Prop} {s : Shared} {h₀ : Heap} {L D : Addr} {news : List (Addr × Obj)} {b c c' : Array UInt8} {ks : List Int} {i j k k' : Int} {t u u' : Tok} {Q : Value → Shared → Prop}
    (N : News h₀ L s.heap ((D, tupO [.bytes c u, .bytes c' u']) :: news)) (hb : KBw.bInts b = ks) (h0 : 0 ≤ i) (hj : j = i + 1) (hc : KBw.bInts c = [k]) (hc' : KBw.bInts c' = [k'])
    (h : Q (.bool (decide (i < ks.length ∧ (itm ks i = k ∨ itm ks i = k')))) s) : wpAny (model prog w) A (compareOp .In (.bytes (KBy.picked b (some i) (some j)) t) (.ref D)) Q E s := by
  have hl : s.heap.IsTuple D #[.bytes c u, .bytes c' u'] := News.isTup N (List.Mem.head _)
  refine SeqAt.in_tupleAt (eqB (KBy.picked b (some i) (some j))) hl (fun y hy => ?_) ?_
  · have : ∃ z t, y = .bytes z t := by
      simp at hy
      rcases hy with rfl | rfl <;> exact ⟨_, _, rfl⟩
    obtain ⟨z, t, rfl⟩ := this
    exact fun prog w E Q hq => eqBool_bytes hq
  · have e1 := one_is hb h0 hj hc
    have e2 := one_is hb h0 hj hc'
    have k1 : eqB (KBy.picked b (some i) (some j)) (.bytes c u) = decide (i < ks.length ∧ itm ks i = k) := by
      rw [← e1]; show decide _ = decide _
      rw [decide_eq_decide]
      exact ⟨fun z => by rw [Array.toList_inj.mp z], fun z => by rw [ints_inj z]⟩
    have k2 : eqB (KBy.picked b (some i) (some j)) (.bytes c' u') = decide (i < ks.length ∧ itm ks i = k') := by
      rw [← e2]; show decide _ = decide _
      rw [decide_eq_decide]
      exact ⟨fun z => by rw [Array.toList_inj.mp z], fun z => by rw [ints_inj z]⟩
    have : (#[Value.bytes c u, .bytes c' u'].any (eqB (KBy.picked b (some i) (some j)))) = decide (i < ks.length ∧ (itm ks i = k ∨ itm ks i = k')) := by
      simp only [List.any_toArray, List.any_cons, List.any_nil, Bool.or_false, k1, k2]
      rw [Bool.eq_iff_iff]
      simp only [Bool.or_eq_true, decide_eq_true_eq]
      constructor
      · rintro (h | h)
        · exact ⟨h.1, .inl h.2⟩
        · exact ⟨h.1, .inr h.2⟩
      · rintro ⟨h, h' | h'⟩
        · exact .inl ⟨h, h'⟩
        · exact .inr ⟨h, h'⟩
    rw [this]; exact h
/-- a while that turns two names and may bind a third -/
theorem While_3 {prog : Program} {w : World} {A : Around} {E : Value → Shared → Prop} {Q : Flow → Shared → Prop} {s : Shared} {env : Env} {h₀ : Heap} {L : Addr} {test : Expr} {body : List Stmt} {pos : Pos} {m : Str → Option Value} {news : List (Addr × Obj)}
    (y y' y'' : Str) (J : Nat → Value → Value → Prop) {n₀ : Nat} {v₀ v₀' : Value} (F : Fr h₀ L s.heap m) (N : News h₀ L s.heap news) (hm : m y = some v₀) (hm' : m y' = some v₀') (hJ : J n₀ v₀ v₀')
    (turn : ∀ n v v' o h₁ tk₁, Fr h₀ L h₁ (fun z => if z = y then some v else if z = y' then some v' else if z = y'' then o else m z) → News h₀ L h₁ news → J n v v' →
      wpAny (model prog w) A (isTrue test env (eval test env)) (fun b s₂ =>
        if b = true then wpAny (model prog w) A (execs body env) (WhileStep2 h₀ L s (fun n m₁ news₁ => news₁ = news ∧ ∃ v v' o, m₁ = (fun z => if z = y then some v else if z = y' then some v' else if z = y'' then o else m z) ∧ J n v v') Q n) E s₂ else Q .next s₂) E { s with heap := h₁, toks := tk₁ })
    (hE : PassesOwn (model prog w) A env E := by passes_own) :
    wpAny (model prog w) A (exec (.While test body [] pos) env) Q E s := by
  refine While_inv2 (J := fun n m₁ news₁ => news₁ = news ∧ ∃ v v' o, m₁ = (fun z => if z = y then some v else if z = y' then some v' else if z = y'' then o else m z) ∧ J n v v') F N ⟨rfl, v₀, v₀', m y'', ?_, hJ⟩ ?_ hE
  · funext z
    split
    · rename_i e; rw [e]; exact hm
    · split
      · rename_i e; rw [e]; exact hm'
      · split
        · rename_i e; rw [e]
        · rfl
  · rintro n m₁ news₁ h₁ tk₁ F₁ N₁ ⟨rfl, v, v', o, rfl, hJ⟩
    exact turn n v v' o h₁ tk₁ F₁ N₁ hJ
theorem step_3 {Q : Flow → Shared → Prop} {s : Shared} {h₀ h' : Heap} {L : Addr} {m m₂ : Str → Option Value} {news : List (Addr × Obj)} {y y' y'' : Str} {J : Nat → Value → Value → Prop} {n n' tk : Nat} {v v' : Value} (F : Fr h₀ L h' m₂) (N : News h₀ L h' news) (hn : n' < n)
    (hy : m₂ y = some v) (hy' : m₂ y' = some v') (hm : ∀ z, z ≠ y → z ≠ y' → z ≠ y'' → m₂ z = m z) (hJ : J n' v v') :
    WhileStep2 h₀ L s (fun n m₁ news₁ => news₁ = news ∧ ∃ v v' o, m₁ = (fun z => if z = y then some v else if z = y' then some v' else if z = y'' then o else m z) ∧ J n v v') Q n .next { s with heap := h', toks := tk } :=
  ⟨h', tk, m₂, news, n', rfl, F, N, hn, rfl, v, v', m₂ y'', funext fun z => by
    split
    · rename_i e; rw [e]; exact hy
    · split
      · rename_i e; rw [e]; exact hy'
      · split
        · rename_i e; rw [e]
        · rename_i e1 e2 e3; exact hm z e1 e2 e3, hJ⟩
end Mine
end
section
open PySem PySem.W PyProof.Rows PySem.Spec PySem.Calls
namespace Mine
section
variable {b : Array UInt8} {ks : List Int} {env : Env8} {begin i e j : Int} {n : Nat} {acc x : Array UInt8}
theorem nm_le {f : Int} : ∀ (n : Nat) (e : Int), e ≤ ks.length → e ≤ nmE ks f n e ∧ nmE ks f n e ≤ ks.length
  | 0, e, h => ⟨Int.le_refl _, h⟩
  | n + 1, e, h => by
    unfold nmE
    split
    · rename_i h1
      have := nm_le (f := f) n (e + 1) (by omega)
      exact ⟨by omega, this.2⟩
    · exact ⟨Int.le_refl _, h⟩
theorem turn_size (h : turnT b ks env i = some (x, j)) (hsz : ∀ k x, env k = some x → x.size ≤ 4) (h0 : 0 ≤ i) (h1 : i < ks.length) : (x.size : Int) ≤ 4 * (j - i) ∧ i < j ∧ j ≤ ks.length := by
  have hd : ∀ k, (((env k).getD #[]).size : Int) ≤ 4 := fun k => by
    cases he : env k with
    | none => simp
    | some y => have := hsz k y he; simp only [Option.getD_some]; omega
  unfold turnT at h
  split at h
  · unfold escT octA at h
    split at h
    · split at h
      · rename_i v hv
        split at hv
        · cases h; simp [byt]; omega
        · cases hv
      · split at h <;> (cases h; simp [byt]; omega)
    · cases h
  · unfold varT at h
    split at h
    · rename_i hb
      have := nm_le (ks := ks) (f := i + 2) ks.length (i + 2) (by omega)
      split at h
      · cases h
      · rename_i hn
        cases h
        have := hd (cut b (i + 2) (nmE ks (i + 2) ks.length (i + 2))).toList
        have hlt : nmE ks (i + 2) ks.length (i + 2) < ks.length := Decidable.byContradiction fun q => hn (.inr fun z => q z.1)
        omega
    · have := nm_le (ks := ks) (f := i + 1) ks.length (i + 1) (by omega)
      split at h
      · cases h; simp; omega
      · cases h
        have := hd (cut b (i + 1) (nmE ks (i + 1) ks.length (i + 1))).toList
        omega
theorem byt_ints {v : Int} (h : 0 ≤ v ∧ v < 256) : KBw.bInts (byt v) = [v] := by
  have := KBa.ints_make (ns := [v]) (fun n hn => by rw [List.mem_singleton.mp hn]; exact h)
  exact this
theorem itm_in (hb : KBw.bInts b = ks) (h0 : 0 ≤ i) (h1 : i < ks.length) : 0 ≤ itm ks i ∧ itm ks i < 256 := by
  have h : i.toNat < ks.length := by omega
  refine KBw.ints_in (b := b) ?_
  rw [hb, itm, List.getD_eq_getElem?_getD, List.getElem?_eq_getElem h]
  exact List.getElem_mem h
theorem pick_one (hb : KBw.bInts b = ks) (h0 : 0 ≤ i) (h1 : i < ks.length) (hj : j = i + 1) : KBy.picked b (some i) (some j) = byt (itm ks i) := by
  apply ints_inj
  rw [ints_one hb h0 hj, if_pos h1, byt_ints (itm_in hb h0 h1)]
theorem app_byt {v : Int} : acc ++ byt v = acc.push v.toNat.toUInt8 := rfl
theorem pick_size (hb : KBw.bInts b = ks) (lo hi : Option Int) : (KBy.picked b lo hi).size ≤ ks.length := by
  have := KBc.size_picked_le b lo hi
  rw [← hb, KBw.ints_length]; exact this
theorem dbl_end (h : e < ks.length ∧ itm ks e = 34) : dblS b ks env begin (n + 1) acc e = .ok (acc, e + 1) := by
  rw [dblS, if_pos h.1, if_pos h.2]
theorem dbl_out (h : ¬ e < ks.length) : dblS b ks env begin n acc e = .error begin := by
  cases n with
  | zero => rfl
  | succ n => rw [dblS, if_neg h]
theorem dbl_none (h1 : e < ks.length) (h3 : itm ks e = 92 ∨ itm ks e = 36) (h4 : turnT b ks env e = none) : dblS b ks env begin (n + 1) acc e = .error e := by
  rw [dblS, if_pos h1, if_neg (by omega), if_pos h3, h4]
theorem dbl_some (h1 : e < ks.length) (h3 : itm ks e = 92 ∨ itm ks e = 36) (h4 : turnT b ks env e = some (x, j)) : dblS b ks env begin (n + 1) acc e = dblS b ks env begin n (acc ++ x) j := by
  rw [dblS, if_pos h1, if_neg (by omega), if_pos h3, h4]
theorem dbl_push (h1 : e < ks.length) (h2 : itm ks e ≠ 34) (h3 : ¬ (itm ks e = 92 ∨ itm ks e = 36)) : dblS b ks env begin (n + 1) acc e = dblS b ks env begin n (acc ++ byt (itm ks e)) (e + 1) := by
  rw [dblS, if_pos h1, if_neg h2, if_neg h3, app_byt]
end
end Mine
end
section
open PySem PySem.W PyProof.Rows PySem.Spec PySem.Calls
namespace Mine
theorem f_find_slot : Slot "bytes" "find" "bytes.find" :=
  .of (owner := "bytes") (n := "find") (by rw [typeLookup_type, builtinLookup_eq_fast]; kernel_rfl) (by decide +kernel) (by decide +kernel) (by decide +kernel)
    (by first | exact .inl (by decide +kernel) | exact .inr (by decide +kernel)) (by rw [isSubtype_type]; kernel_rfl)
theorem f_find_type : typeOf (.builtin "bytes.find") = pure (.type "method_descriptor") := by show builtinType _ = _; rw [builtinType_eq_fast]; kernel_rfl
theorem f_find_entry : entryFor table "bytes.find" = some Builtin.«bytes.find» := entryFor_of_tree (by kernel_rfl)
theorem f_find_args (a b c : Value) : argsOk "bytes.find" ⟨[a, b, c], []⟩ := by unfold argsOk; kernel_rfl
section
variable {prog : Program} {w : World} {A : Around} {E : Value → Shared → Prop} {s : Shared} {b : Array UInt8} {i : Int} {t t' u : Tok} {Q : Value → Shared → Prop}
theorem find_at (hb : findQ b i = r) (h0 : 0 ≤ i) (hr : 0 ≤ r) : i ≤ r ∧ r < b.size := by
  unfold findQ at hb
  split at hb
  · omega
  · cases hf : Builtin.Bytes.find? b #[39] i.toNat b.size with
    | none => rw [hf] at hb; simp at hb; omega
    | some j =>
      rw [hf] at hb
      simp at hb
      have hm := List.mem_of_find?_eq_some hf
      obtain ⟨k, hk, e⟩ := List.mem_map.mp hm
      rw [List.mem_range] at hk
      simp at hk
      omega
theorem find_K (h0 : 0 ≤ i) (h : Q (.int (findQ b i) s.toks) { s with toks := s.toks + 1 }) : wpAny (model prog w) A (call (.builtin "bytes.find") [.bytes b t, .bytes #[39] t', .int i u]) Q E s := by
  refine wpAny_call_entry f_find_slot (typeIs_bytes s b t) f_find_entry ?_ (f_find_args _ _ _)
  unfold Builtin.«bytes.find» Builtin.Bytes.searchM Builtin.Bytes.searchArgs
  show wpAny _ _ (((pure (Value.bytes b t, [Value.bytes #[39] t', Value.int i u]) : Sem (Value × List Value)) >>= _) >>= _) _ _ _
  refine wpAny_bind (wpAny_bind (wpAny_pure ?_))
  dsimp only
  have hbound : ∀ {α : Type} {k : Option Int → Sem α} {Q' : α → Shared → Prop} {E' : Value → Shared → Prop} {A' : Around}, wpAny (model prog w) A' (k (some i)) Q' E' s → wpAny (model prog w) A' (Builtin.Bytes.bound? (some (.int i u)) >>= k) Q' E' s := fun h => by
    refine wpAny_bind ?_
    show wpAny _ _ (do if (← specialOf (.int i u) "__index__").isNone then _ else _) _ _ _
    refine wpAny_bind (wpAny_specialOf (name := Str.ofString "__index__") (typeIs_int s i u) F.slot_int_index.lookup ?_)
    exact wpAny_pure h
  refine hbound ?_
  refine wpAny_bind (m := Builtin.Bytes.bound? none) (wpAny_pure ?_)
  refine wpAny_bind (wpAny_of_eq KBy.buffer_eq ?_)
  dsimp only
  have hpay : Builtin.Bytes.payload (.bytes b t) = pure b := rfl
  refine wpAny_bind (wpAny_pure (wpAny_bind (wpAny_of_eq hpay (wpAny_pure ?_))))
  have hw : Builtin.Bytes.window b.size (some i) none = (i, (b.size : Int)) := by
    unfold Builtin.Bytes.window
    simp only [Option.getD_some, Option.getD_none]
    rw [if_neg (by omega), if_neg (by omega), Int.min_self]
  rw [hw]
  dsimp only
  unfold findQ at h
  simp only [show (#[39] : Array UInt8).size = 1 from rfl, Int.toNat_natCast] at h ⊢
  by_cases hlt : (b.size : Int) - i < 1
  · rw [if_pos hlt] at h
    rw [if_pos (show (b.size : Int) - i < ((1 : Nat) : Int) from hlt)]
    refine wpAny_bind (wpAny_rule ?_)
    rw [if_neg Bool.false_ne_true]
    exact wpAny_bind (wpAny_mkInt (wpAny_pure ⟨_, rfl, h⟩))
  · rw [if_neg hlt] at h
    rw [if_neg (show ¬ (b.size : Int) - i < ((1 : Nat) : Int) from hlt)]
    simp only [Option.bind_some, Bool.false_eq_true, if_false]
    cases hf : Builtin.Bytes.find? b #[39] i.toNat b.size with
    | none =>
      rw [hf] at h
      refine wpAny_bind (wpAny_rule ?_)
      exact wpAny_bind (wpAny_mkInt (wpAny_pure ⟨_, rfl, h⟩))
    | some j =>
      rw [hf] at h
      exact wpAny_bind (wpAny_mkInt (wpAny_pure ⟨_, rfl, h⟩))

theorem meets_in {c : Array UInt8} {x : Int} (h0 : 0 ≤ x) (h1 : x < 256) : Meets (Builtin.«bytes.__contains__» ⟨[.bytes c t, .int x u], []⟩) (fun _ R s => R (.ok (.ret (.bool (c.contains x.toNat.toUInt8)))) s) := by
  refine .of_wp fun prog w A R s h => ?_
  unfold Builtin.«bytes.__contains__» Builtin.Bytes.containsIn
  show wpAny _ _ (((pure (Value.bytes c t, [Value.int x u]) : Sem (Value × List Value)) >>= _)) _ _ _
  refine wpAny_bind (wpAny_pure ?_)
  dsimp only
  have hai : asIndex (.int x u) = pure x := rfl
  rw [hai]
  refine wpAny_bind (wpAny_bind (wpAny_attempt (wpAny_pure ?_)))
  dsimp only
  refine wpAny_bind (wpAny_of_eq KBy.buffer_eq ?_)
  dsimp only
  rw [if_neg (by simp only [Bool.or_eq_true, decide_eq_true_eq]; omega)]
  exact wpAny_pure (wpAny_pure ⟨_, rfl, h⟩)
theorem notin_K {c : Array UInt8} {x : Int} (h0 : 0 ≤ x) (h1 : x < 256) (r : Bool) (hr : c.contains x.toNat.toUInt8 = r) (h : Q (.bool (!r)) s) : wpAny (model prog w) A (compareOp .NotIn (.int x u) (.bytes c t)) Q E s :=
  SeqRoads2.notIn_meets (typeIs_bytes s c t) FB.slot_bytes_contains FB.entry_bytes_contains (FB.args_bytes_contains_2 _ _) (meets_in h0 h1) ⟨_, rfl, by rw [hr]; exact h⟩
theorem ends_has {x : Int} (h0 : 0 ≤ x) (h1 : x < 256) : ([32, 9, 13, 10, 59, 125] : List UInt8).toArray.contains x.toNat.toUInt8 = endS x := by
  obtain ⟨n, rfl⟩ := Int.eq_ofNat_of_zero_le h0
  have hn : n < 256 := by omega
  have key : ∀ k : Fin 256, ([32, 9, 13, 10, 59, 125] : List UInt8).toArray.contains ((k.val : Int).toNat.toUInt8) = endS (k.val : Int) := by decide +kernel
  exact key ⟨n, hn⟩
theorem notin_ends {x : Int} (h0 : 0 ≤ x) (h1 : x < 256) (h : Q (.bool (!endS x)) s) : wpAny (model prog w) A (compareOp .NotIn (.int x u) (.bytes ([32, 9, 13, 10, 59, 125] : List UInt8).toArray t)) Q E s :=
  notin_K h0 h1 _ (ends_has h0 h1) h
end
end Mine
end
section
open PySem PySem.W PyProof.Rows PySem.Spec PySem.Calls
set_option maxHeartbeats 2000000
namespace Mine
abbrev m6 (y1 y2 y3 y4 y5 y6 : Str) (v1 v2 v3 : Value) (o4 o5 o6 : Option Value) (m : Str → Option Value) : Str → Option Value :=
  fun z => if z = y1 then some v1 else if z = y2 then some v2 else if z = y3 then some v3 else if z = y4 then o4 else if z = y5 then o5 else if z = y6 then o6 else m z
theorem m6_of {y1 y2 y3 y4 y5 y6 : Str} {v1 v2 v3 : Value} {m m₂ : Str → Option Value} (h1 : m₂ y1 = some v1) (h2 : m₂ y2 = some v2) (h3 : m₂ y3 = some v3)
    (hm : ∀ z, z ≠ y1 → z ≠ y2 → z ≠ y3 → z ≠ y4 → z ≠ y5 → z ≠ y6 → m₂ z = m z) : m₂ = m6 y1 y2 y3 y4 y5 y6 v1 v2 v3 (m₂ y4) (m₂ y5) (m₂ y6) m := by
  funext z
  by_cases e1 : z = y1
  · simp [m6, e1, h1]
  · by_cases e2 : z = y2
    · subst e2; simp [m6, e1, h2]
    · by_cases e3 : z = y3
      · subst e3; simp [m6, e1, e2, h3]
      · by_cases e4 : z = y4
        · subst e4; simp [m6, e1, e2, e3]
        · by_cases e5 : z = y5
          · subst e5; simp [m6, e1, e2, e3, e4]
          · by_cases e6 : z = y6
            · subst e6; simp [m6, e1, e2, e3, e4, e5]
            · simp [m6, e1, e2, e3, e4, e5, e6, hm z e1 e2 e3 e4 e5 e6]
/-- a while that turns three names and may bind three more -/
theorem While_6 {prog : Program} {w : World} {A : Around} {E : Value → Shared → Prop} {Q : Flow → Shared → Prop} {s : Shared} {env : Env} {h₀ : Heap} {L : Addr} {test : Expr} {body : List Stmt} {pos : Pos} {m : Str → Option Value} {news : List (Addr × Obj)}
    (y1 y2 y3 y4 y5 y6 : Str) (J : Nat → Value → Value → Value → Prop) {n₀ : Nat} {v1 v2 v3 : Value} (F : Fr h₀ L s.heap m) (N : News h₀ L s.heap news) (hm1 : m y1 = some v1) (hm2 : m y2 = some v2) (hm3 : m y3 = some v3) (hJ : J n₀ v1 v2 v3)
    (turn : ∀ n v1 v2 v3 o4 o5 o6 h₁ tk₁, Fr h₀ L h₁ (m6 y1 y2 y3 y4 y5 y6 v1 v2 v3 o4 o5 o6 m) → News h₀ L h₁ news → J n v1 v2 v3 →
      wpAny (model prog w) A (isTrue test env (eval test env)) (fun b s₂ =>
        if b = true then wpAny (model prog w) A (execs body env) (WhileStep2 h₀ L s (fun n m₁ news₁ => news₁ = news ∧ ∃ v1 v2 v3 o4 o5 o6, m₁ = m6 y1 y2 y3 y4 y5 y6 v1 v2 v3 o4 o5 o6 m ∧ J n v1 v2 v3) Q n) E s₂ else Q .next s₂) E { s with heap := h₁, toks := tk₁ })
    (hE : PassesOwn (model prog w) A env E := by passes_own) :
    wpAny (model prog w) A (exec (.While test body [] pos) env) Q E s := by
  refine While_inv2 (J := fun n m₁ news₁ => news₁ = news ∧ ∃ v1 v2 v3 o4 o5 o6, m₁ = m6 y1 y2 y3 y4 y5 y6 v1 v2 v3 o4 o5 o6 m ∧ J n v1 v2 v3) F N ⟨rfl, v1, v2, v3, _, _, _, m6_of hm1 hm2 hm3 (fun _ _ _ _ _ _ _ => rfl), hJ⟩ ?_ hE
  rintro n m₁ news₁ h₁ tk₁ F₁ N₁ ⟨rfl, v1, v2, v3, o4, o5, o6, rfl, hJ⟩
  exact turn n v1 v2 v3 o4 o5 o6 h₁ tk₁ F₁ N₁ hJ
theorem step_6 {Q : Flow → Shared → Prop} {s : Shared} {h₀ h' : Heap} {L : Addr} {m m₂ : Str → Option Value} {news : List (Addr × Obj)} {y1 y2 y3 y4 y5 y6 : Str} {J : Nat → Value → Value → Value → Prop} {n n' tk : Nat} {v1 v2 v3 : Value} (F : Fr h₀ L h' m₂) (N : News h₀ L h' news) (hn : n' < n)
    (h1 : m₂ y1 = some v1) (h2 : m₂ y2 = some v2) (h3 : m₂ y3 = some v3) (hm : ∀ z, z ≠ y1 → z ≠ y2 → z ≠ y3 → z ≠ y4 → z ≠ y5 → z ≠ y6 → m₂ z = m z) (hJ : J n' v1 v2 v3) :
    WhileStep2 h₀ L s (fun n m₁ news₁ => news₁ = news ∧ ∃ v1 v2 v3 o4 o5 o6, m₁ = m6 y1 y2 y3 y4 y5 y6 v1 v2 v3 o4 o5 o6 m ∧ J n v1 v2 v3) Q n .next { s with heap := h', toks := tk } :=
  ⟨h', tk, m₂, news, n', rfl, F, N, hn, rfl, v1, v2, v3, _, _, _, m6_of h1 h2 h3 hm, hJ⟩
end Mine
end
section
open PySem PySem.W PyProof.Rows PySem.Spec PySem.Calls
namespace Mine
/-- a test's, a value's end: one state, one worth -/
def TestTo (h₀ : Heap) (L : Addr) (s : Shared) (m : Str → Option Value) (news : List (Addr × Obj)) (p b : Bool) (s₂ : Shared) : Prop := ∃ h' tk', s₂ = { s with heap := h', toks := tk' } ∧ Fr h₀ L h' m ∧ News h₀ L h' news ∧ b = p
def EvalTo (h₀ : Heap) (L : Addr) (s : Shared) (m : Str → Option Value) (news : List (Addr × Obj)) (v0 : Tok → Value) (v : Value) (s₂ : Shared) : Prop := ∃ h' tk' t, s₂ = { s with heap := h', toks := tk' } ∧ v = v0 t ∧ Fr h₀ L h' m ∧ News h₀ L h' news
theorem TestTo.mk {h₀ h' : Heap} {L : Addr} {s : Shared} {m : Str → Option Value} {news : List (Addr × Obj)} {p b : Bool} {tk' : Nat} (hb : b = p) (F : Fr h₀ L h' m) (N : News h₀ L h' news) : TestTo h₀ L s m news p b { s with heap := h', toks := tk' } := ⟨h', tk', rfl, F, N, hb⟩
theorem EvalTo.mk {h₀ h' : Heap} {L : Addr} {s : Shared} {m : Str → Option Value} {news : List (Addr × Obj)} {v0 : Tok → Value} {v : Value} {t : Tok} {tk' : Nat} (hv : v = v0 t) (F : Fr h₀ L h' m) (N : News h₀ L h' news) : EvalTo h₀ L s m news v0 v { s with heap := h', toks := tk' } := ⟨h', tk', t, rfl, hv, F, N⟩
section
variable {prog : Program} {w : World} {A : Around} {E : Value → Shared → Prop} {Q : Flow → Shared → Prop} {s : Shared} {env : Env} {h₀ : Heap} {L : Addr} {test : Expr} {body : List Stmt} {pos : Pos} {m : Str → Option Value} {news : List (Addr × Obj)}
/-- the three whiles, their turn's end a predicate without a text -/
theorem While_1P (y : Str) (J : Nat → Value → Prop) {n₀ : Nat} {v₀ : Value} (F : Fr h₀ L s.heap m) (N : News h₀ L s.heap news) (hm : m y = some v₀) (hJ : J n₀ v₀)
    (turn : ∀ n v h₁ tk₁ (P : Flow → Shared → Prop), Fr h₀ L h₁ (fun z => if z = y then some v else m z) → News h₀ L h₁ news → J n v →
      (∀ h' m₂ n' v tk, Fr h₀ L h' m₂ → News h₀ L h' news → n' < n → m₂ y = some v → (∀ z, z ≠ y → m₂ z = m z) → J n' v → P .next { s with heap := h', toks := tk }) → (∀ v s', Q (.ret v) s' → P (.ret v) s') →
      wpAny (model prog w) A (isTrue test env (eval test env)) (fun b s₂ => if b = true then wpAny (model prog w) A (execs body env) P E s₂ else Q .next s₂) E { s with heap := h₁, toks := tk₁ })
    (hE : PassesOwn (model prog w) A env E := by passes_own) : wpAny (model prog w) A (exec (.While test body [] pos) env) Q E s :=
  While_1 y J F N hm hJ (fun n v h₁ tk₁ F₁ N₁ j => turn n v h₁ tk₁ _ F₁ N₁ j (fun _ _ _ _ _ F N hn h1 hm hJ => step_1 F N hn h1 hm hJ) fun _ _ h => h) hE
/-- the test's ways are joined: it tells t v -/
theorem While_1T (y : Str) (J : Nat → Value → Prop) (t : Value → Bool) {n₀ : Nat} {v₀ : Value} (F : Fr h₀ L s.heap m) (N : News h₀ L s.heap news) (hm : m y = some v₀) (hJ : J n₀ v₀)
    (hT : ∀ n v h₁ tk₁, Fr h₀ L h₁ (fun z => if z = y then some v else m z) → News h₀ L h₁ news → J n v →
      wpAny (model prog w) A (isTrue test env (eval test env)) (TestTo h₀ L s (fun z => if z = y then some v else m z) news (t v)) E { s with heap := h₁, toks := tk₁ })
    (turn : ∀ n v h₁ tk₁ (P : Flow → Shared → Prop), Fr h₀ L h₁ (fun z => if z = y then some v else m z) → News h₀ L h₁ news → J n v → t v = true →
      (∀ h' m₂ n' v tk, Fr h₀ L h' m₂ → News h₀ L h' news → n' < n → m₂ y = some v → (∀ z, z ≠ y → m₂ z = m z) → J n' v → P .next { s with heap := h', toks := tk }) → (∀ v s', Q (.ret v) s' → P (.ret v) s') →
      wpAny (model prog w) A (execs body env) P E { s with heap := h₁, toks := tk₁ })
    (done : ∀ n v h₁ tk₁, Fr h₀ L h₁ (fun z => if z = y then some v else m z) → News h₀ L h₁ news → J n v → t v = false → Q .next { s with heap := h₁, toks := tk₁ })
    (hE : PassesOwn (model prog w) A env E := by passes_own) : wpAny (model prog w) A (exec (.While test body [] pos) env) Q E s :=
  While_1P y J F N hm hJ (fun n v h₁ tk₁ P F₁ N₁ j hst hrt => wpAny_mono (hT n v h₁ tk₁ F₁ N₁ j) (fun b s₂ hs => by
    obtain ⟨h', tk', rfl, F', N', rfl⟩ := hs
    cases hv : t v with
    | true => rw [if_pos rfl]; exact turn n v h' tk' P F' N' j hv hst hrt
    | false => rw [if_neg Bool.false_ne_true]; exact done n v h' tk' F' N' j hv) fun _ _ x => x) hE
theorem eval_cut {e : PySem.Expr} {Q : Value → Shared → Prop} (_ : Fr h₀ L s.heap m) (_ : News h₀ L s.heap news) (v0 : Tok → Value) (h1 : wpAny (model prog w) A (eval e env) (EvalTo h₀ L s m news v0) E s)
    (h2 : ∀ h' tk' t, Fr h₀ L h' m → News h₀ L h' news → Q (v0 t) { s with heap := h', toks := tk' }) : wpAny (model prog w) A (eval e env) Q E s :=
  wpAny_mono h1 (fun v s₂ hs => by obtain ⟨h', tk', t, rfl, rfl, F', N'⟩ := hs; exact h2 h' tk' t F' N') fun _ _ x => x
theorem test_cut {e : PySem.Expr} {Q : Bool → Shared → Prop} (_ : Fr h₀ L s.heap m) (_ : News h₀ L s.heap news) (p : Bool) (h1 : wpAny (model prog w) A (isTrue e env (eval e env)) (TestTo h₀ L s m news p) E s)
    (h2 : ∀ h' tk', Fr h₀ L h' m → News h₀ L h' news → Q p { s with heap := h', toks := tk' }) : wpAny (model prog w) A (isTrue e env (eval e env)) Q E s :=
  wpAny_mono h1 (fun v s₂ hs => by obtain ⟨h', tk', rfl, F', N', rfl⟩ := hs; exact h2 h' tk' F' N') fun _ _ x => x
theorem While_3P (y y' y'' : Str) (J : Nat → Value → Value → Prop) {n₀ : Nat} {v₀ v₀' : Value} (F : Fr h₀ L s.heap m) (N : News h₀ L s.heap news) (hm : m y = some v₀) (hm' : m y' = some v₀') (hJ : J n₀ v₀ v₀')
    (turn : ∀ n v v' o h₁ tk₁ (P : Flow → Shared → Prop), Fr h₀ L h₁ (fun z => if z = y then some v else if z = y' then some v' else if z = y'' then o else m z) → News h₀ L h₁ news → J n v v' →
      (∀ h' m₂ n' v v' tk, Fr h₀ L h' m₂ → News h₀ L h' news → n' < n → m₂ y = some v → m₂ y' = some v' → (∀ z, z ≠ y → z ≠ y' → z ≠ y'' → m₂ z = m z) → J n' v v' → P .next { s with heap := h', toks := tk }) → (∀ v s', Q (.ret v) s' → P (.ret v) s') →
      wpAny (model prog w) A (isTrue test env (eval test env)) (fun b s₂ => if b = true then wpAny (model prog w) A (execs body env) P E s₂ else Q .next s₂) E { s with heap := h₁, toks := tk₁ })
    (hE : PassesOwn (model prog w) A env E := by passes_own) : wpAny (model prog w) A (exec (.While test body [] pos) env) Q E s :=
  While_3 y y' y'' J F N hm hm' hJ (fun n v v' o h₁ tk₁ F₁ N₁ j => turn n v v' o h₁ tk₁ _ F₁ N₁ j (fun _ _ _ _ _ _ F N hn h1 h2 hm hJ => step_3 F N hn h1 h2 hm hJ) fun _ _ h => h) hE
theorem While_6P (y1 y2 y3 y4 y5 y6 : Str) (J : Nat → Value → Value → Value → Prop) {n₀ : Nat} {v1 v2 v3 : Value} (F : Fr h₀ L s.heap m) (N : News h₀ L s.heap news) (hm1 : m y1 = some v1) (hm2 : m y2 = some v2) (hm3 : m y3 = some v3) (hJ : J n₀ v1 v2 v3)
    (turn : ∀ n v1 v2 v3 o4 o5 o6 h₁ tk₁ (P : Flow → Shared → Prop), Fr h₀ L h₁ (m6 y1 y2 y3 y4 y5 y6 v1 v2 v3 o4 o5 o6 m) → News h₀ L h₁ news → J n v1 v2 v3 →
      (∀ h' m₂ n' v1 v2 v3 tk, Fr h₀ L h' m₂ → News h₀ L h' news → n' < n → m₂ y1 = some v1 → m₂ y2 = some v2 → m₂ y3 = some v3 → (∀ z, z ≠ y1 → z ≠ y2 → z ≠ y3 → z ≠ y4 → z ≠ y5 → z ≠ y6 → m₂ z = m z) → J n' v1 v2 v3 → P .next { s with heap := h', toks := tk }) → (∀ v s', Q (.ret v) s' → P (.ret v) s') →
      wpAny (model prog w) A (isTrue test env (eval test env)) (fun b s₂ => if b = true then wpAny (model prog w) A (execs body env) P E s₂ else Q .next s₂) E { s with heap := h₁, toks := tk₁ })
    (hE : PassesOwn (model prog w) A env E := by passes_own) : wpAny (model prog w) A (exec (.While test body [] pos) env) Q E s :=
  While_6 y1 y2 y3 y4 y5 y6 J F N hm1 hm2 hm3 hJ (fun n v1 v2 v3 o4 o5 o6 h₁ tk₁ F₁ N₁ j => turn n v1 v2 v3 o4 o5 o6 h₁ tk₁ _ F₁ N₁ j (fun _ _ _ _ _ _ _ F N hn h1 h2 h3 hm hJ => step_6 F N hn h1 h2 h3 hm hJ) fun _ _ h => h) hE
end
section
variable {M : Model} {A : Around} {E : Value → Shared → Prop} {s : Shared} {h₀ : Heap} {L a : Addr} {m : Str → Option Value} {cn : Str} {cs : Scope} {ccd : Value} {cl : List (Str × Addr)} {x y : Str} {b : Bool} {v : Value} {p1 p2 p3 p4 p5 : Pos} {k : Nat} {Q : Value → Shared → Prop}
/-- x and y is None, both names of the frame, x a bool -/
theorem and_is (c : Bool) (F : Fr h₀ L s.heap m) (hx : m x = some (.bool b)) (hy : m y = some v) (hp : plainIs v .none = true) (hc : (v == .none) = c) (h : Q (.bool (b && c)) s)
    (hk : cs.kind = .function := by rfl) (kx : (envX cn cs L a ccd cl).kindOf x = some .local := by rfl) (ky : (envX cn cs L a ccd cl).kindOf y = some .local := by rfl) (dx : (x == ("__debug__" : Str)) = false := by decide) (dy : (y == ("__debug__" : Str)) = false := by decide) :
    wpAny M A (eval (.BoolOp .And [.Name x p1, .Compare (.Name y p2) [.Is] [.Constant .none k p3] p4] p5) (envX cn cs L a ccd cl)) Q E s := by
  subst hc
  refine BoolOp_and (nameX_L F hx (wpAny_truthy_bool ?_) hk kx dx)
  cases b with
  | false => exact h
  | true => exact BoolOp_one (wpAny_Compare1 (nameX_L F hy (wpAny_Constant_none (wpAny_is_plain hp (by simpa using h))) hk ky dy))
end
theorem wpAny_tk {M : Model} {A : Around} {α : Type} {tr : Sem α} {Q : α → Shared → Prop} {E : Value → Shared → Prop} {h : Heap} {g : _} {d : _} {t : Nat} {o : _} (x : ∀ tk, wpAny M A tr Q E (Shared.mk h g d tk o)) : wpAny M A tr Q E (Shared.mk h g d t o) := x t
theorem If_one {M : Model} {A : Around} {env : Env} {E : Value → Shared → Prop} {s : Shared} {test : PySem.Expr} {body orelse : List Stmt} {pos : Pos} {Q : Flow → Shared → Prop} (h : wpAny M A (isTrue test env (eval test env)) (fun b s₂ => if b = true then wpAny M A (execs body env) Q E s₂ else wpAny M A (execs orelse env) Q E s₂) E s) : wpAny M A (exec (.If test body orelse pos) env) Q E s := by
  rw [exec_If]
  refine wpAny_bind (wpAny_standAt (wpAny_bind (wpAny_mono h (fun b s₂ h₂ => ?_) fun _ _ x => x)))
  cases b <;> simpa using h₂
theorem mem_sub2 {news : List (Addr × Obj)} {a b : Addr × Obj} : ∀ q ∈ news, q ∈ a :: b :: news := fun _ h => .tail _ (.tail _ h)
theorem news_t2 {h₀ h : Heap} {L : Addr} {a b : Addr × Obj} {news : List (Addr × Obj)} (N : News h₀ L h (a :: b :: news)) : News h₀ L h news := fun _ hq => N _ (.tail _ (.tail _ hq))
end Mine
end
section
open PySem PySem.W PyProof.Rows PySem.Spec PySem.Calls
namespace Mine
/-! ## Expressions that change nothing but the token count: their value as a term -/
section
variable (prog : Program) (w : World) (A : Around) (h : Heap) (g : Array GenState) (d : Drawn) (o : OsState) (env : Env)
def PI (e : PySem.Expr) (i : Int) : Prop := ∀ tk (Q E : Value → Shared → Prop), (∀ t tk', Q (.int i t) ⟨h, g, d, tk', o⟩) → wpAny (model prog w) A (eval e env) Q E ⟨h, g, d, tk, o⟩
def PB (e : PySem.Expr) (b : Bool) : Prop := ∀ tk (Q E : Value → Shared → Prop), (∀ tk', Q (.bool b) ⟨h, g, d, tk', o⟩) → wpAny (model prog w) A (eval e env) Q E ⟨h, g, d, tk, o⟩
def PT (e : PySem.Expr) (b : Bool) : Prop := ∀ tk (Q : Bool → Shared → Prop) (E : Value → Shared → Prop), (∀ tk', Q b ⟨h, g, d, tk', o⟩) → wpAny (model prog w) A (isTrue e env (eval e env)) Q E ⟨h, g, d, tk, o⟩
end
section
variable {prog : Program} {w : World} {A : Around} {h : Heap} {g : Array GenState} {d : Drawn} {o : OsState} {env : Env} {e e1 e2 e3 : PySem.Expr} {r : List PySem.Expr} {a b c : Int} {p q k : Bool} {pos : Pos}
theorem PI.const {kk} : PI prog w A h g d o env (.Constant (.int a) kk pos) a := fun _ _ _ hq => wpAny_Constant_int (hq _ _)
theorem PB.chain (h1 : PI prog w A h g d o env e1 a) (h2 : PI prog w A h g d o env e2 b) (h3 : PI prog w A h g d o env e3 c) (hm : lastMarks [.LtE, .LtE] [e2, e3] = false := by with_unfolding_all rfl) :
    PB prog w A h g d o env (.Compare e1 [.LtE, .LtE] [e2, e3] pos) (decide (a ≤ b) && decide (b ≤ c)) := fun tk Q E hq => by
  refine Compare_chain (h1 _ _ _ fun t1 k1 => ?_) hm
  refine chain_link (h2 _ _ _ fun t2 k2 => ?_)
  refine le_int (wpAny_truthy_bool ?_)
  by_cases hab : a ≤ b
  · rw [decide_eq_true hab, Bool.true_and] at hq
    rw [if_pos (decide_eq_true hab)]
    exact chain_last (h3 _ _ _ fun t3 k3 => le_int (hq _))
  · rw [decide_eq_false hab, Bool.false_and] at hq
    rw [if_neg (by rw [decide_eq_false hab]; decide), decide_eq_false hab]
    exact hq _
theorem PB.eq (h1 : PI prog w A h g d o env e1 a) (h2 : PI prog w A h g d o env e2 b) (hm : behindInMarks .Eq e2 = false := by with_unfolding_all rfl) : PB prog w A h g d o env (.Compare e1 [.Eq] [e2] pos) (a == b) := fun _ _ _ hq =>
  wpAny_Compare1 (h1 _ _ _ fun _ _ => h2 _ _ _ fun _ _ => eq_int (hq _)) hm
theorem PB.lt (h1 : PI prog w A h g d o env e1 a) (h2 : PI prog w A h g d o env e2 b) (hm : behindInMarks .Lt e2 = false := by with_unfolding_all rfl) : PB prog w A h g d o env (.Compare e1 [.Lt] [e2] pos) (decide (a < b)) := fun _ _ _ hq =>
  wpAny_Compare1 (h1 _ _ _ fun _ _ => h2 _ _ _ fun _ _ => lt_int (hq _)) hm
theorem PB.one {op : BoolOp} (h1 : PB prog w A h g d o env e1 p) : PB prog w A h g d o env (.BoolOp op [e1] pos) p := fun _ _ _ hq => BoolOp_one (h1 _ _ _ hq)
theorem PB.and (h1 : PB prog w A h g d o env e1 p) (h2 : p = true → PB prog w A h g d o env (.BoolOp .And (e2 :: r) pos) q) : PB prog w A h g d o env (.BoolOp .And (e1 :: e2 :: r) pos) (p && q) := fun _ _ _ hq => by
  refine BoolOp_and (h1 _ _ _ fun _ => wpAny_truthy_bool ?_)
  cases p with
  | false => exact hq _
  | true => exact h2 rfl _ _ _ hq
theorem PB.or (h1 : PB prog w A h g d o env e1 p) (h2 : p = false → PB prog w A h g d o env (.BoolOp .Or (e2 :: r) pos) q) : PB prog w A h g d o env (.BoolOp .Or (e1 :: e2 :: r) pos) (p || q) := fun _ _ _ hq => by
  refine BoolOp_or (h1 _ _ _ fun _ => wpAny_truthy_bool ?_)
  cases p with
  | true => exact hq _
  | false => exact h2 rfl _ _ _ hq
theorem PT.of (h1 : PB prog w A h g d o env e p) (he : isTrue e env (eval e env) = (do let v ← eval e env; standAt e.pos; holding [v] (truthy v)) := by rfl) : PT prog w A h g d o env e p := fun _ _ _ hq =>
  isTrue_plain (h1 _ _ _ fun _ => wpAny_truthy_bool (hq _)) he
theorem PT.chain (h1 : PI prog w A h g d o env e1 a) (h2 : PI prog w A h g d o env e2 b) (h3 : PI prog w A h g d o env e3 c) (hm : lastMarks [.LtE, .LtE] [e2, e3] = false := by with_unfolding_all rfl) :
    PT prog w A h g d o env (.Compare e1 [.LtE, .LtE] [e2, e3] pos) (decide (a ≤ b) && decide (b ≤ c)) := fun tk Q E hq => by
  refine isTrue_chain (h1 _ _ _ fun t1 k1 => ?_) hm
  refine test_link (h2 _ _ _ fun t2 k2 => ?_)
  refine le_int (wpAny_truthy_bool ?_)
  by_cases hab : a ≤ b
  · rw [decide_eq_true hab, Bool.true_and] at hq
    rw [if_pos (decide_eq_true hab)]
    exact test_last (h3 _ _ _ fun t3 k3 => le_int (wpAny_truthy_bool (hq _)))
  · rw [decide_eq_false hab, Bool.false_and] at hq
    rw [if_neg (by rw [decide_eq_false hab]; decide)]
    exact hq _
theorem PT.eq (h1 : PI prog w A h g d o env e1 a) (h2 : PI prog w A h g d o env e2 b) (hm : behindInMarks .Eq e2 = false := by with_unfolding_all rfl) : PT prog w A h g d o env (.Compare e1 [.Eq] [e2] pos) (a == b) := fun _ _ _ hq =>
  wpAny_isTrue_Compare1 (h1 _ _ _ fun _ _ => h2 _ _ _ fun _ _ => eq_int (wpAny_truthy_bool (hq _))) hm
theorem PT.lt (h1 : PI prog w A h g d o env e1 a) (h2 : PI prog w A h g d o env e2 b) (hm : behindInMarks .Lt e2 = false := by with_unfolding_all rfl) : PT prog w A h g d o env (.Compare e1 [.Lt] [e2] pos) (decide (a < b)) := fun _ _ _ hq =>
  wpAny_isTrue_Compare1 (h1 _ _ _ fun _ _ => h2 _ _ _ fun _ _ => lt_int (wpAny_truthy_bool (hq _))) hm
theorem PT.not (h1 : PT prog w A h g d o env e p) : PT prog w A h g d o env (.UnaryOp .Not e pos) (!p) := fun _ _ _ hq => isTrue_not (h1 _ _ _ fun _ => hq _)
theorem PT.or_nil : PT prog w A h g d o env (.BoolOp .Or [] pos) false := fun _ _ _ hq => isTrue_or_nil (hq _)
theorem PT.and_nil : PT prog w A h g d o env (.BoolOp .And [] pos) true := fun _ _ _ hq => isTrue_and_nil (hq _)
theorem PT.or (h1 : PT prog w A h g d o env e1 p) (h2 : p = false → PT prog w A h g d o env (.BoolOp .Or r pos) q) : PT prog w A h g d o env (.BoolOp .Or (e1 :: r) pos) (p || q) := fun _ _ _ hq => by
  refine isTrue_or (h1 _ _ _ fun _ => ?_)
  cases p with
  | true => exact hq _
  | false => exact h2 rfl _ _ _ hq
theorem PT.and (h1 : PT prog w A h g d o env e1 p) (h2 : p = true → PT prog w A h g d o env (.BoolOp .And r pos) q) : PT prog w A h g d o env (.BoolOp .And (e1 :: r) pos) (p && q) := fun _ _ _ hq => by
  refine isTrue_and (h1 _ _ _ fun _ => ?_)
  cases p with
  | false => exact hq _
  | true => exact h2 rfl _ _ _ hq
theorem PB.not (h1 : PB prog w A h g d o env e p) : PB prog w A h g d o env (.UnaryOp .Not e pos) (!p) := fun _ _ _ hq =>
  wpAny_UnaryOp (h1 _ _ _ fun _ => not_of (wpAny_truthy_bool (hq _)))
variable {Q : Flow → Shared → Prop} {E : Value → Shared → Prop} {tk : Nat} {body orelse : List Stmt}
theorem If_PT (h1 : PT prog w A h g d o env e p) (ht : p = true → ∀ tk, wpAny (model prog w) A (execs body env) Q E ⟨h, g, d, tk, o⟩) (hf : p = false → ∀ tk, wpAny (model prog w) A (execs orelse env) Q E ⟨h, g, d, tk, o⟩) :
    wpAny (model prog w) A (exec (.If e body orelse pos) env) Q E ⟨h, g, d, tk, o⟩ := by
  rw [exec_If]
  refine wpAny_bind (wpAny_standAt (wpAny_bind (h1 _ _ _ fun tk' => ?_)))
  cases p with
  | true => simpa using ht rfl tk'
  | false => simpa using hf rfl tk'
theorem Ret_PB (h1 : PB prog w A h g d o env e p) (hq : ∀ tk, Q (.ret (.bool p)) ⟨h, g, d, tk, o⟩) : wpAny (model prog w) A (exec (.Return (some e) pos) env) Q E ⟨h, g, d, tk, o⟩ := wpAny_Return_some (h1 _ _ _ hq)
end
section
variable {prog : Program} {w : World} {A : Around} {h h₀ : Heap} {g : Array GenState} {d : Drawn} {o : OsState} {L a : Addr} {m : Str → Option Value} {cn : Str} {cs : Scope} {ccd : Value} {cl : List (Str × Addr)} {x : Str} {i : Int} {t : Tok} {b : Bool} {pos : Pos}
theorem PI.name (F : Fr h₀ L h m) (hx : m x = some (.int i t)) (hk : cs.kind = .function := by rfl) (kx : (envX cn cs L a ccd cl).kindOf x = some .local := by rfl) (dx : (x == ("__debug__" : Str)) = false := by decide) :
    PI prog w A h g d o (envX cn cs L a ccd cl) (.Name x pos) i := fun _ _ _ hq => nameX_L (s := ⟨h, g, d, _, o⟩) F hx (hq _ _) hk kx dx
theorem PB.name (F : Fr h₀ L h m) (hx : m x = some (.bool b)) (hk : cs.kind = .function := by rfl) (kx : (envX cn cs L a ccd cl).kindOf x = some .local := by rfl) (dx : (x == ("__debug__" : Str)) = false := by decide) :
    PB prog w A h g d o (envX cn cs L a ccd cl) (.Name x pos) b := fun _ _ _ hq => nameX_L (s := ⟨h, g, d, _, o⟩) F hx (hq _) hk kx dx
theorem PI.item {by_ : Array UInt8} {ks : List Int} {tb : Tok} {e : PySem.Expr} {p1 : Pos} (F : Fr h₀ L h m) (hx : m x = some (.bytes by_ tb)) (hb : KBw.bInts by_ = ks) (hfit : ks.length ≤ 1099511627776) (he : PI prog w A h g d o (envX cn cs L a ccd cl) e i) (h0 : 0 ≤ i) (h1 : i < (ks.length : Int))
    (hs : ∀ ui : Tok, subscripted e false (.bytes by_ tb) (.int i ui) = operate [.bytes by_ tb, .int i ui] (getItem (.bytes by_ tb) (.int i ui)) := by intro _; with_unfolding_all rfl)
    (hk : cs.kind = .function := by rfl) (kx : (envX cn cs L a ccd cl).kindOf x = some .local := by rfl) (dx : (x == ("__debug__" : Str)) = false := by decide) :
    PI prog w A h g d o (envX cn cs L a ccd cl) (.Subscript (.Name x p1) e pos) (ks.getD i.toNat 0) := fun _ _ _ hq =>
  Subscript_ (nameX_L (s := ⟨h, g, d, _, o⟩) F hx (he _ _ _ fun ui _ => KBw.item_K hb hfit h0 h1 (fun _ _ _ _ => hq _ _) (hs ui) (by intro _; with_unfolding_all rfl)) hk kx dx)
end
end Mine
end
section
open PySem PySem.W PyProof.Rows PySem.Spec PySem.Calls
namespace Mine
set_option maxRecDepth 100000
set_option maxHeartbeats 8000000
theorem fillK_C1 : Dummy PySem.Challenge.rw_pq1181_01 Tops.hd.heap_39 := by w_top off; k_with_none; k_fill; trivial
section
variable {w : World} {p : Program} {loose : List Str} {mean : ExcName → Option Value} {mg mb : Str → Option Value}
  {dp un : Nat} {gd : Option (List Code)} {cn : Str} {cs : Scope} {a : Addr} {ccd : Value} {cl : List (Str × Addr)} {outer : List Env} {A₀ : Around} {base h₀ : Heap} {L : Addr} {m : Str → Option Value} {news : List (Addr × Obj)} {s : Shared} {Q E : Value → Shared → Prop}

theorem words_C1_1 : True := by
  k_with "go" =>
    repeat' (first | (k_unfold; (try dsimp only)) | (k_end; fail) | walk1 | (dsimp only; walk1) | fail "no step")
  k_with "execs cons" =>
    refine wpAny_execs_cons ?_
  k_with "execs nil" =>
    refine wpAny_execs_nil ?_
  k_with "my intro" =>
    (intro hc; try (exfalso; omega))
  k_with "ite" =>
    first
      | with_reducible refine ite_T ?_ | with_reducible refine ite_F ?_ | with_reducible refine ite_nT ?_ | with_reducible refine ite_nF ?_
      | (with_reducible refine ite_D ?_ ?_ <;> walk_at "my intro") | (with_reducible refine ite_nD ?_ ?_ <;> walk_at "my intro") | (with_reducible refine ite_B ?_ ?_ <;> walk_at "my intro") | (with_reducible refine ite_nB ?_ ?_ <;> walk_at "my intro")
  trivial
theorem sign_1 {i : Int} {f : Bool} (h : (decide (65 ≤ i) && decide (i ≤ 90) || (decide (97 ≤ i) && decide (i ≤ 122) || (i == 95 || false))) = true) : true = signS i f := by
  unfold signS
  simp only [Bool.or_eq_true, Bool.and_eq_true, decide_eq_true_eq, beq_iff_eq, Bool.false_eq_true, or_false] at h
  exact (decide_eq_true (by rcases h with h | h | h <;> simp [h])).symm
theorem sign_2 {i : Int} {f : Bool} (h : (decide (65 ≤ i) && decide (i ≤ 90) || (decide (97 ≤ i) && decide (i ≤ 122) || (i == 95 || false))) = false) : (!f && (decide (48 ≤ i) && decide (i ≤ 57))) = signS i f := by
  unfold signS
  simp only [Bool.or_eq_false_iff, Bool.and_eq_false_iff, decide_eq_false_iff_not, beq_eq_false_iff_ne] at h
  rw [Bool.eq_iff_iff]
  simp only [Bool.and_eq_true, decide_eq_true_eq, Bool.not_eq_true']
  constructor
  · rintro ⟨h1, h2⟩; exact .inr (.inr (.inr ⟨h1, h2⟩))
  · rintro (h1 | h1 | h1 | h1)
    · omega
    · omega
    · omega
    · exact h1
theorem sign_3 {i : Int} {f : Bool} : (i == 95 || (decide (65 ≤ i) && decide (i ≤ 90) || (decide (97 ≤ i) && decide (i ≤ 122) || (decide (48 ≤ i) && decide (i ≤ 57) && !f)))) = signS i f := by
  unfold signS
  rw [Bool.eq_iff_iff]
  simp only [Bool.or_eq_true, Bool.and_eq_true, decide_eq_true_eq, beq_iff_eq, Bool.not_eq_true']
  constructor
  · rintro (h | h | h | h)
    · exact .inr (.inr (.inl h))
    · exact .inl h
    · exact .inr (.inl h)
    · exact .inr (.inr (.inr ⟨h.2, h.1⟩))
  · rintro (h | h | h | h)
    · exact .inr (.inl h)
    · exact .inr (.inr (.inl h))
    · exact .inl h
    · exact .inr (.inr (.inr ⟨h.2, h.1⟩))
theorem c_sign {i : Int} {t : Tok} {f : Bool} (B : Below A₀ base outer h₀) (F : Fr h₀ L s.heap m) (X : (Tops.hd.heap_39 w.params).In h₀) (N : News h₀ L s.heap news) (T : Top p loose mean mg mb h₀) (hk : cs.kind = .function)
  (hd : dp + 1 < recursionLimit) (hu : un + 8 < cLine)
  (ret : ∀ v h' tk', v = signS i f → Fr h₀ L h' m → News h₀ L h' news → Q (.bool v) { s with heap := h', toks := tk' }) :
  wpAny (model PySem.Challenge.rw_pq1181_01.row.prog w) (ktrTop dp un gd cn cs L a ccd cl outer) (call (.ref 54) [.int i t, .bool f]) Q E s := by
  refine wpAny_call ?_
  k_dflt cell_enter
  rename Fr _ _ _ (fun y => List.lookup y _) => F1
  refine wpAny_execs_cons ?_
  refine If_PT (PT.or (PT.chain PI.const (PI.name F1 rfl) PI.const) fun _ => PT.or (PT.chain PI.const (PI.name F1 rfl) PI.const) fun _ => PT.or (PT.eq (PI.name F1 rfl) PI.const) fun _ => PT.or_nil) ?_ ?_
  · intro hb tk
    walk_at "go"
    exact ret _ _ _ (sign_1 hb) (by assumption) (by assumption)
  · intro hb tk
    refine wpAny_execs_nil ?_
    refine wpAny_execs_cons ?_
    refine Ret_PB (PB.and (PB.not (PB.name F1 rfl)) fun _ => PB.one (PB.chain PI.const (PI.name F1 rfl) PI.const)) ?_
    intro tk
    walk_at "go"
    exact ret _ _ _ (sign_2 hb) (by assumption) (by assumption)
theorem c_isname {i : Int} {t : Tok} {f : Bool} (B : Below A₀ base outer h₀) (F : Fr h₀ L s.heap m) (X : (Tops.hd.heap_39 w.params).In h₀) (N : News h₀ L s.heap news) (T : Top p loose mean mg mb h₀) (hk : cs.kind = .function)
  (hd : dp + 1 < recursionLimit) (hu : un + 8 < cLine)
  (ret : ∀ v h' tk', v = signS i f → Fr h₀ L h' m → News h₀ L h' news → Q (.bool v) { s with heap := h', toks := tk' }) :
  wpAny (model PySem.Challenge.rw_pq1181_01.row.prog w) (ktrTop dp un gd cn cs L a ccd cl outer) (call (.ref 158) [.int i t, .bool f]) Q E s := by
  refine wpAny_call ?_
  k_dflt cell_enter
  rename Fr _ _ _ (fun y => List.lookup y _) => F1
  refine wpAny_execs_cons ?_
  refine Ret_PB (PB.or (PB.eq (PI.name F1 rfl) PI.const) fun _ => PB.or (PB.chain PI.const (PI.name F1 rfl) PI.const) fun _ => PB.or (PB.chain PI.const (PI.name F1 rfl) PI.const) fun _ => PB.one (PB.and (PB.chain PI.const (PI.name F1 rfl) PI.const) fun _ => PB.one (PB.not (PB.name F1 rfl)))) ?_
  intro tk
  walk_at "go"
  exact ret _ _ _ sign_3 (by assumption) (by assumption)
theorem turned_at (t1 t2 t3 t4 t5 t6 t7 t8 t9 : Tok) (x : Int) (t : Tok) :
    ∃ t', (valueAt [((97 : Int), Value.int 7 t1), (98, .int 8 t2), (101, .int 27 t3), (102, .int 12 t4), (110, .int 10 t5), (114, .int 13 t6), (115, .int 32 t7), (116, .int 9 t8), (118, .int 11 t9)] x).getD (.int x t) = .int (escS x) t' := by
  unfold escS valueAt
  simp only [List.find?_cons, List.find?_nil]
  repeat' (first | (exact ⟨_, rfl⟩) | (rename_i e; first | (rw [decide_eq_true_iff] at e; subst e; exact ⟨_, rfl⟩) | (rw [decide_eq_false_iff_not] at e; rw [if_neg (fun z => e z.symm)])) | split)
theorem words_C1_2 : True := by
  k_with "getMethod ref" =>
    (k_here; (with_reducible show wpAny _ _ (getMethod (Value.ref _) (Str.ofString "get") _) _ _ _); refine kdg_method (knd := PySem.intKind _ _) (by assumption) (List.Mem.head _) (by assumption) ?_)
  k_with "call builtin:dict.get" =>
    (k_here; k_dflt (refine get_turned (by assumption) (List.Mem.head _) (by assumption) (by assumption) (fun x t => turned_at _ _ _ _ _ _ _ _ _ x t) ?_); intro t')
  trivial
theorem c_escaped {i : Int} {t : Tok} (B : Below A₀ base outer h₀) (F : Fr h₀ L s.heap m) (X : (Tops.hd.heap_39 w.params).In h₀) (N : News h₀ L s.heap news) (T : Top p loose mean mg mb h₀) (hk : cs.kind = .function)
  (hd : dp + 1 < recursionLimit) (hu : un + 8 < cLine)
  (ret : ∀ v t h' tk', v = escS i → Fr h₀ L h' m → News h₀ L h' news → Q (.int v t) { s with heap := h', toks := tk' }) :
  wpAny (model PySem.Challenge.rw_pq1181_01.row.prog w) (ktrTop dp un gd cn cs L a ccd cl outer) (call (.ref 61) [.int i t]) Q E s := by
  refine wpAny_call ?_
  k_dflt cell_enter
  walk_at "go"
  exact ret _ _ _ _ rfl (by assumption) (news_tl (by assumption))
theorem octA_0 {ks : List Int} : octA ks 0 = if 3 ≤ ks.length ∧ 48 ≤ ks.getD (Int.toNat 0) 0 ∧ ks.getD (Int.toNat 0) 0 ≤ 51 ∧ 48 ≤ ks.getD (Int.toNat 1) 0 ∧ ks.getD (Int.toNat 1) 0 ≤ 55 ∧ 48 ≤ ks.getD (Int.toNat 2) 0 ∧ ks.getD (Int.toNat 2) 0 ≤ 55 then some ((ks.getD (Int.toNat 0) 0 - 48) * 64 + (ks.getD (Int.toNat 1) 0 - 48) * 8 + ks.getD (Int.toNat 2) 0 - 48) else none := by
  unfold octA octS itm
  simp only [Int.reduceAdd, Int.zero_add]
  by_cases h : 3 ≤ ks.length ∧ 48 ≤ ks.getD (Int.toNat 0) 0 ∧ ks.getD (Int.toNat 0) 0 ≤ 51 ∧ 48 ≤ ks.getD (Int.toNat 1) 0 ∧ ks.getD (Int.toNat 1) 0 ≤ 55 ∧ 48 ≤ ks.getD (Int.toNat 2) 0 ∧ ks.getD (Int.toNat 2) 0 ≤ 55
  · rw [if_pos h, if_pos (by omega), if_pos (by omega)]
  · rw [if_neg h]
    by_cases h3 : 3 ≤ ks.length
    · rw [if_pos (by omega), if_neg (by omega)]
    · rw [if_neg (by omega)]
def octC (ks : List Int) : Bool := decide ((ks.length : Int) < 3) || (!(decide (48 ≤ ks.getD (Int.toNat 0) 0) && decide (ks.getD (Int.toNat 0) 0 ≤ 51)) || (!(decide (48 ≤ ks.getD (Int.toNat 1) 0) && decide (ks.getD (Int.toNat 1) 0 ≤ 55)) || (!(decide (48 ≤ ks.getD (Int.toNat 2) 0) && decide (ks.getD (Int.toNat 2) 0 ≤ 55)) || false)))
theorem octC_f {ks : List Int} (h : octC ks = false) : 3 ≤ ks.length ∧ 48 ≤ ks.getD (Int.toNat 0) 0 ∧ ks.getD (Int.toNat 0) 0 ≤ 51 ∧ 48 ≤ ks.getD (Int.toNat 1) 0 ∧ ks.getD (Int.toNat 1) 0 ≤ 55 ∧ 48 ≤ ks.getD (Int.toNat 2) 0 ∧ ks.getD (Int.toNat 2) 0 ≤ 55 := by
  unfold octC at h
  simp only [Bool.or_eq_false_iff, Bool.not_eq_false', Bool.and_eq_true, decide_eq_false_iff_not, decide_eq_true_eq] at h
  omega
theorem octC_t {ks : List Int} (h : octC ks = true) : ¬ (3 ≤ ks.length ∧ 48 ≤ ks.getD (Int.toNat 0) 0 ∧ ks.getD (Int.toNat 0) 0 ≤ 51 ∧ 48 ≤ ks.getD (Int.toNat 1) 0 ∧ ks.getD (Int.toNat 1) 0 ≤ 55 ∧ 48 ≤ ks.getD (Int.toNat 2) 0 ∧ ks.getD (Int.toNat 2) 0 ≤ 55) := fun hn => by
  have : octC ks = false := by
    obtain ⟨h0, h1, h2, h3, h4, h5, h6⟩ := hn
    unfold octC
    rw [decide_eq_false (show ¬ ((ks.length : Int) < 3) by omega), decide_eq_true h1, decide_eq_true h2, decide_eq_true h3, decide_eq_true h4, decide_eq_true h5, decide_eq_true h6]
    rfl
  rw [h] at this; cases this
theorem oct_no {ks : List Int} (h : octC ks = true) : match octA ks 0 with | none => Value.none = .none | some i => ∃ t, Value.none = .int i t := by
  rw [octA_0, if_neg (octC_t h)]
theorem oct_yes {ks : List Int} {t : Tok} (h : octC ks = false) : match octA ks 0 with | none => Value.int ((ks.getD (Int.toNat 0) 0 - 48) * 64 + (ks.getD (Int.toNat 1) 0 - 48) * 8 + ks.getD (Int.toNat 2) 0 - 48) t = .none | some i => ∃ u, Value.int ((ks.getD (Int.toNat 0) 0 - 48) * 64 + (ks.getD (Int.toNat 1) 0 - 48) * 8 + ks.getD (Int.toNat 2) 0 - 48) t = .int i u := by
  rw [octA_0, if_pos (octC_f h)]; exact ⟨_, rfl⟩
theorem len_lt {n : Nat} {k : Int} (h : decide ((n : Int) < k) = false) : k ≤ n := by have := of_decide_eq_false h; omega
theorem c_octal {b : Array UInt8} {ks : List Int} {t : Tok} (hb : KBw.bInts b = ks) (hz : ks.length ≤ 3) (B : Below A₀ base outer h₀) (F : Fr h₀ L s.heap m) (X : (Tops.hd.heap_39 w.params).In h₀) (N : News h₀ L s.heap news) (T : Top p loose mean mg mb h₀) (hk : cs.kind = .function)
  (hd : dp + 1 < recursionLimit) (hu : un + 8 < cLine)
  (ret : ∀ v h' tk', (match octA ks 0 with | none => v = .none | some i => ∃ t, v = .int i t) → Fr h₀ L h' m → News h₀ L h' news → Q v { s with heap := h', toks := tk' }) :
  wpAny (model PySem.Challenge.rw_pq1181_01.row.prog w) (ktrTop dp un gd cn cs L a ccd cl outer) (call (.ref 68) [.bytes b t]) Q E s := by
  refine wpAny_call ?_
  k_dflt cell_enter
  rename Fr _ _ _ (fun y => List.lookup y _) => F1
  refine wpAny_execs_cons ?_
  refine If_PT (p := octC ks) (PT.or (PT.lt (fun tk Q E hq => ?_) PI.const) fun h3 => PT.or (PT.not (PT.chain PI.const (PI.item F1 rfl hb (by omega) PI.const (by decide) (by have := len_lt h3; omega)) PI.const)) fun _ => PT.or (PT.not (PT.chain PI.const (PI.item F1 rfl hb (by omega) PI.const (by decide) (by have := len_lt h3; omega)) PI.const)) fun _ => PT.or (PT.not (PT.chain PI.const (PI.item F1 rfl hb (by omega) PI.const (by decide) (by have := len_lt h3; omega)) PI.const)) fun _ => PT.or_nil) ?_ ?_
  · walk_at "go"
    exact hq _ _
  · intro hc tk
    walk_at "go"
    exact ret _ _ _ (oct_no hc) (by assumption) (by assumption)
  · intro hc tk
    have h3 := octC_f hc
    walk_at "go"
    exact ret _ _ _ (oct_yes hc) (by assumption) (by assumption)

end
end Mine
end
section
open PySem PySem.W PyProof.Rows PySem.Spec PySem.Calls
namespace Mine
set_option maxRecDepth 100000
set_option maxHeartbeats 8000000
theorem fillK_C3 : Dummy PySem.Challenge.rw_pq1181_01 Tops.hd.heap_39 := by w_top off; k_with_none; k_fill; trivial
section
variable {w : World} {p : Program} {loose : List Str} {mean : ExcName → Option Value} {mg mb : Str → Option Value}
  {dp un : Nat} {gd : Option (List Code)} {cn : Str} {cs : Scope} {a : Addr} {ccd : Value} {cl : List (Str × Addr)} {outer : List Env} {A₀ : Around} {base h₀ : Heap} {L : Addr} {m : Str → Option Value} {news : List (Addr × Obj)} {s : Shared} {Q E : Value → Shared → Prop}

theorem words_C3_1 : True := by
  k_with "go" =>
    repeat' (first | (k_unfold; (try dsimp only)) | (k_end; fail) | walk1 | (dsimp only; walk1) | fail "no step")
  k_with "execs cons" =>
    refine wpAny_execs_cons ?_
  k_with "execs nil" =>
    refine wpAny_execs_nil ?_
  k_with "my intro" =>
    (intro hc; try (exfalso; omega))
  k_with "ite" =>
    first
      | with_reducible refine ite_T ?_ | with_reducible refine ite_F ?_ | with_reducible refine ite_nT ?_ | with_reducible refine ite_nF ?_
      | (with_reducible refine ite_D ?_ ?_ <;> walk_at "my intro") | (with_reducible refine ite_nD ?_ ?_ <;> walk_at "my intro") | (with_reducible refine ite_B ?_ ?_ <;> walk_at "my intro") | (with_reducible refine ite_nB ?_ ?_ <;> walk_at "my intro")
  k_with "my len" =>
    first | omega | (simp only [List.length_cons, List.length_nil]; omega)
  k_with "bc" =>
    first | exact bc_ | exact bc_10 | exact bc_34 | exact bc_36 | exact bc_39 | exact bc_92 | exact bc_123 | exact bc_125 | exact bc_126
  k_with "ba" =>
    first | assumption | walk_at "bc"
  k_with "compareOp Eq bytes bytes" =>
    first | with_reducible refine eq_one (by assumption) (by omega) (by first | rfl | omega) (by walk_at "bc") ?_ | with_reducible refine eq_K1 (by walk_at "ba") (by walk_at "bc") ?_ | with_reducible refine eq_Kt (by walk_at "ba") (by walk_at "bc") rfl ?_ | refine eq_Kf (by walk_at "ba") (by walk_at "bc") (by simp; done) ?_
  k_with "compareOp NotEq bytes bytes" =>
    first | with_reducible refine ne_one (by assumption) (by omega) (by first | rfl | omega) (by walk_at "bc") ?_ | refine ne_K (by first | assumption | walk_at "bc") (by first | assumption | walk_at "bc") ?_
  k_with "my intro" =>
    (intro hc; try (first | (exfalso; omega) | (exfalso; simp at hc; done) | (exfalso; rw [beq_iff_eq] at hc; omega) | (exfalso; rw [beq_eq_false_iff_ne] at hc; omega)))
  k_with "subscriptTail" =>
    (k_here; (with_reducible show wpAny _ _ (subscriptTail _ (Expr.Slice _ _ none _) (Value.bytes _ _) (Value.ref _)) _ _ _); (with_reducible rename Fr _ _ _ _ => F'); (with_reducible rename News _ _ _ _ => N'); (refine KBc.slice_K (s := ⟨_, _, _, _, _⟩) F' N' (by first | assumption | kba_ints) (by constructor) (by constructor) (by first | walk_at "my len" | kba_size) ?_); intro _ _ _ _ _ kbcK; clear kbcK)
  k_with "subscriptTail" =>
    (k_here; (with_reducible show wpAny _ _ (subscriptTail _ _ (Value.bytes _ _) (Value.int _ _)) _ _ _); (refine KBw.item_K (by assumption) (by walk_at "my len") (by walk_at "my len") (by walk_at "my len") ?_); intro _ _ kbaLo kbaHi)
  trivial
theorem c_turned (B : Below A₀ base outer h₀) (F : Fr h₀ L s.heap m) (X : (Tops.hd.heap_39 w.params).In h₀) (N : News h₀ L s.heap news) (T : Top p loose mean mg mb h₀) (hk : cs.kind = .function)
  (hd : dp + 1 < recursionLimit) (hu : un + 8 < cLine)
  (ret : ∀ D o kvs h' tk', Fr h₀ L h' m → News h₀ L h' ((D, o) :: news) → (D == sysModules) = false → o.IsDictOf (intKind PySem.Challenge.rw_pq1181_01.row.prog w) kvs → (∀ x t, ∃ t', (valueAt kvs x).getD (.int x t) = .int (escS x) t') →
    Q (.ref D) { s with heap := h', toks := tk' }) :
  wpAny (model PySem.Challenge.rw_pq1181_01.row.prog w) (ktrTop dp un gd cn cs L a ccd cl outer) (call (.ref 151) []) Q E s := by
  refine wpAny_call ?_
  k_dflt cell_enter
  walk_at "go"
  all_goals (refine ret _ _ _ _ _ (by assumption) (by assumption) (by assumption) (by assumption) (fun x t => turned_at _ _ _ _ _ _ _ _ _ x t))

end
end Mine
end
section
open PySem PySem.W PyProof.Rows PySem.Spec PySem.Calls
namespace Mine
set_option maxRecDepth 100000
set_option maxHeartbeats 8000000
theorem fillK_C4 : Dummy PySem.Challenge.rw_pq1181_01 Tops.hd.heap_39 := by w_top off; k_with_none; k_fill; trivial
section
variable {w : World} {p : Program} {loose : List Str} {mean : ExcName → Option Value} {mg mb : Str → Option Value}
  {dp un : Nat} {gd : Option (List Code)} {cn : Str} {cs : Scope} {a : Addr} {ccd : Value} {cl : List (Str × Addr)} {outer : List Env} {A₀ : Around} {base h₀ : Heap} {L : Addr} {m : Str → Option Value} {news : List (Addr × Obj)} {s : Shared} {Q E : Value → Shared → Prop}

theorem words_C4_1 : True := by
  k_with "go" =>
    repeat' (first | (k_unfold; (try dsimp only)) | (k_end; fail) | walk1 | (dsimp only; walk1) | fail "no step")
  k_with "execs cons" =>
    refine wpAny_execs_cons ?_
  k_with "execs nil" =>
    refine wpAny_execs_nil ?_
  k_with "my intro" =>
    (intro hc; try (exfalso; omega))
  k_with "ite" =>
    first
      | with_reducible refine ite_T ?_ | with_reducible refine ite_F ?_ | with_reducible refine ite_nT ?_ | with_reducible refine ite_nF ?_
      | (with_reducible refine ite_D ?_ ?_ <;> walk_at "my intro") | (with_reducible refine ite_nD ?_ ?_ <;> walk_at "my intro") | (with_reducible refine ite_B ?_ ?_ <;> walk_at "my intro") | (with_reducible refine ite_nB ?_ ?_ <;> walk_at "my intro")
  k_with "my len" =>
    first | omega | (simp only [List.length_cons, List.length_nil]; omega)
  k_with "bc" =>
    first | exact bc_ | exact bc_10 | exact bc_34 | exact bc_36 | exact bc_39 | exact bc_92 | exact bc_123 | exact bc_125 | exact bc_126
  k_with "ba" =>
    first | assumption | walk_at "bc"
  k_with "compareOp Eq bytes bytes" =>
    first | with_reducible refine eq_one (by assumption) (by omega) (by first | rfl | omega) (by walk_at "bc") ?_ | with_reducible refine eq_K1 (by walk_at "ba") (by walk_at "bc") ?_ | with_reducible refine eq_Kt (by walk_at "ba") (by walk_at "bc") rfl ?_ | refine eq_Kf (by walk_at "ba") (by walk_at "bc") (by simp; done) ?_
  k_with "compareOp NotEq bytes bytes" =>
    first | with_reducible refine ne_one (by assumption) (by omega) (by first | rfl | omega) (by walk_at "bc") ?_ | refine ne_K (by first | assumption | walk_at "bc") (by first | assumption | walk_at "bc") ?_
  k_with "my intro" =>
    (intro hc; try (first | (exfalso; omega) | (exfalso; simp at hc; done) | (exfalso; rw [beq_iff_eq] at hc; omega) | (exfalso; rw [beq_eq_false_iff_ne] at hc; omega)))
  k_with "subscriptTail" =>
    (k_here; (with_reducible show wpAny _ _ (subscriptTail _ (Expr.Slice _ _ none _) (Value.bytes _ _) (Value.ref _)) _ _ _); (with_reducible rename Fr _ _ _ _ => F'); (with_reducible rename News _ _ _ _ => N'); (refine KBc.slice_K (s := ⟨_, _, _, _, _⟩) F' N' (by first | assumption | kba_ints) (by constructor) (by constructor) (by first | walk_at "my len" | kba_size) ?_); intro _ _ _ _ _ kbcK; clear kbcK)
  k_with "subscriptTail" =>
    (k_here; (with_reducible show wpAny _ _ (subscriptTail _ _ (Value.bytes _ _) (Value.int _ _)) _ _ _); (refine KBw.item_K (by assumption) (by walk_at "my len") (by walk_at "my len") (by walk_at "my len") ?_); intro _ _ kbaLo kbaHi)
  k_with "exec Assign cons ListComp" =>
    (k_here; k_dflt (refine Assign_ListComp_B (F₀ := by k_asm) (by rfl) (by with_unfolding_all rfl) (by with_unfolding_all rfl) (by decide) (by rfl) (by decide) (by rfl) (by rfl) (by rfl) ?_))
  k_with "CompEnd" =>
    (refine LCg.CompEnd.intro (by assumption) (by assumption) _ (fun _ hp => hp) (by first | assumption | (simp only [LCg.Off3]; assumption)) trivial ?_)
  k_with "call builtin:len" =>
    (k_here; refine len_lst (by assumption) (by assumption) ?_)
  k_with "my nth all" =>
    simp only [show Int.toNat 0 = 0 from rfl, show Int.toNat 1 = 1 from rfl, show Int.toNat 2 = 2 from rfl, List.getD_cons_zero, List.getD_cons_succ] at *
  k_with "my nth" =>
    simp only [show Int.toNat 0 = 0 from rfl, show Int.toNat 1 = 1 from rfl, show Int.toNat 2 = 2 from rfl, List.getD_cons_zero, List.getD_cons_succ]
  k_with "call ref" =>
    ((with_reducible show wpAny _ _ (call (Value.ref 151) _) _ _ _); k_dflt (refine' c_turned ?B ?F ?X ?N ?T ?hk ?hd ?hu ?_; (case B => k_asm); (case F => k_asm); (case X => k_asm); (case N => k_asm); (case T => k_asm); (case hk => exact rfl); (case hd => ktr_room); (case hu => ktr_units)); intro D' o' kvs' h' tk' F' N' lo' hd' ht')
  k_with "getMethod ref" =>
    (k_here; (with_reducible show wpAny _ _ (getMethod (Value.ref _) (Str.ofString "get") _) _ _ _); refine kdg_method (knd := PySem.intKind _ _) (by assumption) (List.Mem.head _) (by assumption) ?_)
  k_with "call builtin:dict.get" =>
    (k_here; refine get_turned (by assumption) (List.Mem.head _) (by assumption) (by assumption) (by assumption) ?_; intro t')
  k_with "subscriptTail" =>
    (k_here; (with_reducible show wpAny _ _ (subscriptTail _ _ (Value.bytes _ _) (Value.int 0 _)) _ _ _); (refine item_0 (by assumption) (by walk_at "my len") ?_); intro _ _)
  k_with "call type:bytes" =>
    (k_here; refine bytes1 (by assumption) (by assumption) rfl (News.isList (by assumption) (List.Mem.head _)) (by first | omega | exact (escS_in (by assumption)).1 | (walk_at "my nth all"; omega)) (by first | omega | exact (escS_in (by assumption)).2 | (walk_at "my nth all"; omega)) ?_; intro _ _ _ F' N')
  k_with "newList" =>
    (k_here; refine newList_K (by assumption) (by assumption) ?_ (by first | (simp only [List.length_cons, List.length_nil, sizeLine_eq]; decide) | size_fits); intro l' h' F' N' l1)
  trivial
theorem itm_drop {ks : List Int} {i : Int} (h0 : 0 ≤ i) (j : Nat) : itm ks (i + j) = (ks.drop i.toNat).getD j 0 := by
  rw [itm, show (i + (j : Int)).toNat = i.toNat + j from by omega]
  simp only [List.getD_eq_getElem?_getD, List.getElem?_drop]
def resT (h₀ : Heap) (L : Addr) (r : Option (Array UInt8 × Int)) (news : List (Addr × Obj)) (v : Value) (h' : Heap) : Prop := match r with
  | none => v = .none ∧ News h₀ L h' news
  | some (x, j) => ∃ T x' j' tx tj, x' = x ∧ j' = j ∧ v = .ref T ∧ News h₀ L h' ((T, tupO [.bytes x' tx, .int j' tj]) :: news)
theorem esc_0 {ks : List Int} {i : Int} (h : ks.length ≤ i + 1) : escT ks i = none := by unfold escT; rw [if_neg (by omega)]
theorem esc_1 {ks : List Int} {i : Int} (h1 : i + 1 < ks.length) (h : ks.length ≤ i + 3) : escT ks i = if itm ks (i + 1) = 10 then some (#[], i + 2) else some (byt (escS (itm ks (i + 1))), i + 2) := by
  unfold escT octA; rw [if_pos h1, if_neg (by omega)]
theorem esc_3 {ks : List Int} {i : Int} (h : i + 3 < ks.length) : escT ks i = match octS (itm ks (i + 1)) (itm ks (i + 1 + 1)) (itm ks (i + 1 + 2)) with
    | some v => some (byt v, i + 4)
    | none => if itm ks (i + 1) = 10 then some (#[], i + 2) else some (byt (escS (itm ks (i + 1))), i + 2) := by
  unfold escT octA; rw [if_pos (by omega), if_pos (by omega)]; first | done | rfl
theorem resT_some {h₀ h' : Heap} {L T : Addr} {x x' : Array UInt8} {j j' : Int} {tx tj : Tok} {news all : List (Addr × Obj)} (N : News h₀ L h' ((T, tupO [.bytes x' tx, .int j' tj]) :: all)) (sub : ∀ q ∈ news, q ∈ all) (hx : x' = x) (hj : j' = j) :
    resT h₀ L (some (x, j)) news (.ref T) h' := ⟨T, x', j', tx, tj, hx, hj, rfl, fun q hq => N q (by
      rcases List.mem_cons.mp hq with e | e
      · rw [e]; exact .head _
      · exact .tail _ (sub q e))⟩
theorem resT_elim {h₀ : Heap} {L : Addr} {r : Option (Array UInt8 × Int)} {news : List (Addr × Obj)} {m : Str → Option Value} {P : Value → Heap → Nat → Prop} (hn : r = none → ∀ h' tk', Fr h₀ L h' m → News h₀ L h' news → P .none h' tk')
    (hs : ∀ x j, r = some (x, j) → ∀ T tx tj h' tk', Fr h₀ L h' m → News h₀ L h' ((T, tupO [.bytes x tx, .int j tj]) :: news) → P (.ref T) h' tk') : ∀ v h' tk', resT h₀ L r news v h' → Fr h₀ L h' m → P v h' tk' := by
  intro v h' tk' hr F
  cases r with
  | none => obtain ⟨rfl, N⟩ := hr; exact hn rfl h' tk' F N
  | some p =>
    obtain ⟨x, j⟩ := p
    obtain ⟨T, x', j', tx, tj, rfl, rfl, rfl, N⟩ := hr
    exact hs _ _ rfl T tx tj h' tk' F N
theorem c_lescape {b : Array UInt8} {ks : List Int} {tb ti : Tok} {i : Int} (hb : KBw.bInts b = ks) (hz : ks.length ≤ 1000) (h0 : 0 ≤ i) (h1 : i < ks.length)
  (B : Below A₀ base outer h₀) (F : Fr h₀ L s.heap m) (X : (Tops.hd.heap_39 w.params).In h₀) (N : News h₀ L s.heap news) (T : Top p loose mean mg mb h₀) (hk : cs.kind = .function)
  (hd : dp + 2 < recursionLimit) (hu : un + 16 < cLine)
  (ret : ∀ v h' tk', resT h₀ L (escT ks i) news v h' → Fr h₀ L h' m → Q v { s with heap := h', toks := tk' }) :
  wpAny (model PySem.Challenge.rw_pq1181_01.row.prog w) (ktrTop dp un gd cn cs L a ccd cl outer) (call (.ref 163) [.bytes b tb, .int i ti]) Q E s := by
  refine wpAny_call ?_
  have hr := ints_from hb (show 0 ≤ i + 1 by omega)
  have hr3 := ints_to hr (show (0 : Int) ≤ 3 by decide)
  have hr1 := ints_to hr (show (0 : Int) ≤ 1 by decide)
  have hlen : ((ks.drop (i + 1).toNat).length : Int) = ks.length - (i + 1) := by rw [List.length_drop]; omega
  have hin : ∀ k ∈ ks.drop (i + 1).toNat, 0 ≤ k ∧ k < 256 := fun k hk => KBw.ints_in (b := b) (by rw [hb]; exact List.mem_of_mem_drop hk)
  have hi0 := itm_drop (ks := ks) (show 0 ≤ i + 1 by omega) 0
  have hi1 := itm_drop (ks := ks) (show 0 ≤ i + 1 by omega) 1
  have hi2 := itm_drop (ks := ks) (show 0 ≤ i + 1 by omega) 2
  rw [show i + 1 + ((0 : Nat) : Int) = i + 1 from by omega] at hi0
  rw [show i + 1 + ((1 : Nat) : Int) = i + 1 + 1 from by omega] at hi1
  rw [show i + 1 + ((2 : Nat) : Int) = i + 1 + 2 from by omega] at hi2
  generalize hR : ks.drop (i + 1).toNat = rs at *
  rcases rs with _ | ⟨x, rs⟩
  all_goals simp only [show Int.toNat 3 = 3 from rfl, show Int.toNat 1 = 1 from rfl, List.take_succ_cons, List.take_zero, List.take_nil] at hr hr1
  all_goals simp only [List.length_cons, List.length_nil, List.getD_cons_zero, List.getD_nil] at hlen hi0
  · rw [esc_0 (by omega)] at ret
    k_dflt cell_enter
    walk_at "go"
    all_goals exact ret _ _ _ ⟨rfl, by assumption⟩ (by assumption)
  · have hx := hin x (by simp)
    have h3 : ((x :: rs).take 3).length ≤ 3 := by rw [List.length_take]; omega
    simp only [show Int.toNat 3 = 3 from rfl] at hr3
    obtain ⟨q, hq⟩ : ∃ q, (x :: rs).take 3 = q := ⟨_, rfl⟩
    rw [hq] at hr3 h3
    k_dflt cell_enter
    walk_at "go"
    refine ⟨_, _, _, _, hr3, rfl, rfl, (by assumption), (by assumption), (by rw [sizeLine_eq]; omega), fun g' => ?_⟩
    refine comp_ind (J := octJ q) (octJ_0 _) (fun k i ys hi hJ yes no => ?_) (fun ys hJ => ?_)
    · refine LCt.CompRestT.succ ?_
      intro v' I' oI' C' oC' D' m' h' tk' E' hv' hC' hx' F' N' off' ne'
      obtain ⟨u, rfl⟩ := hv'
      clear hq
      walk_at "go"
      all_goals first
        | exact yes _ (octJ_yes hJ hi (by unfold inOct; exact decide_eq_true ⟨by assumption, by assumption⟩))
        | exact no (octJ_no hJ hi (by unfold inOct; exact decide_eq_false (by omega)))
    · subst hq
      have hl3 := octJ_len hJ
      have hl4 := List.length_filter_le inOct ((x :: rs).take 3)
      have hl5 : ys.length ≤ 1000 := by omega
      by_cases h33 : ys.length = 3
      · obtain ⟨x', y, z, r, tx, ty, tz, e, hx1, hy1, hz1, rfl⟩ := octJ_3 hJ h33
        cases e
        simp only [List.length_cons, List.getD_cons_zero, List.getD_cons_succ] at hlen hi1 hi2
        rw [esc_3 (by omega), hi0, hi1, hi2] at ret
        walk_at "go"

        · rw [show octS x y z = some ((x - 48) * 64 + (y - 48) * 8 + z - 48) from by unfold octS; rw [if_pos ⟨⟨by omega, by walk_at "my nth all"; omega⟩, by omega, by omega⟩]] at ret
          exact ret _ _ _ (resT_some (by assumption) (fun q hq => by simp [hq]) (congrArg byt (by walk_at "my nth"; omega)) rfl) (by assumption)
        all_goals rw [show octS x y z = none from by unfold octS; rw [if_neg (by walk_at "my nth all"; omega)]] at ret
        all_goals dsimp only at ret
        all_goals (first | rw [if_pos (by assumption)] at ret | rw [if_neg (by assumption)] at ret)
        all_goals exact ret _ _ _ (resT_some (by assumption) (fun q hq => by simp [hq]) rfl rfl) (by assumption)
      · have e : escT ks i = if x = 10 then some (#[], i + 2) else some (byt (escS x), i + 2) := by
          by_cases hl : i + 3 < ks.length
          · rcases rs with _ | ⟨y, _ | ⟨z, r⟩⟩ <;> simp only [List.length_cons, List.length_nil] at hlen <;> try omega
            simp only [List.getD_cons_zero, List.getD_cons_succ] at hi1 hi2
            rw [esc_3 hl, hi0, hi1, hi2, show octS x y z = none from by unfold octS; rw [if_neg]; intro hq; exact octJ_n hJ h33 (by omega)]
          · rw [esc_1 (by omega) (by omega), hi0]
        rw [e] at ret
        walk_at "go"

        all_goals (first | rw [if_pos (by assumption)] at ret | rw [if_neg (by assumption)] at ret)
        all_goals exact ret _ _ _ (resT_some (by assumption) (fun q hq => by simp [hq]) rfl rfl) (by assumption)

end
end Mine
end
section
open PySem PySem.W PyProof.Rows PySem.Spec PySem.Calls
namespace Mine
set_option maxRecDepth 100000
set_option maxHeartbeats 8000000
theorem fillK_C5 : Dummy PySem.Challenge.rw_pq1181_01 Tops.hd.heap_39 := by w_top off; k_with_none; k_fill; trivial
section
variable {w : World} {p : Program} {loose : List Str} {mean : ExcName → Option Value} {mg mb : Str → Option Value}
  {dp un : Nat} {gd : Option (List Code)} {cn : Str} {cs : Scope} {a : Addr} {ccd : Value} {cl : List (Str × Addr)} {outer : List Env} {A₀ : Around} {base h₀ : Heap} {L : Addr} {m : Str → Option Value} {news : List (Addr × Obj)} {s : Shared} {Q E : Value → Shared → Prop}

theorem words_C5_1 : True := by
  k_with "go" =>
    repeat' (first | (k_unfold; (try dsimp only)) | (k_end; fail) | walk1 | (dsimp only; walk1) | fail "no step")
  k_with "execs cons" =>
    refine wpAny_execs_cons ?_
  k_with "execs nil" =>
    refine wpAny_execs_nil ?_
  k_with "my intro" =>
    (intro hc; try (exfalso; omega))
  k_with "ite" =>
    first
      | with_reducible refine ite_T ?_ | with_reducible refine ite_F ?_ | with_reducible refine ite_nT ?_ | with_reducible refine ite_nF ?_
      | (with_reducible refine ite_D ?_ ?_ <;> walk_at "my intro") | (with_reducible refine ite_nD ?_ ?_ <;> walk_at "my intro") | (with_reducible refine ite_B ?_ ?_ <;> walk_at "my intro") | (with_reducible refine ite_nB ?_ ?_ <;> walk_at "my intro")
  k_with "my len" =>
    first | omega | (simp only [List.length_cons, List.length_nil]; omega)
  k_with "bc" =>
    first | exact bc_ | exact bc_10 | exact bc_34 | exact bc_36 | exact bc_39 | exact bc_92 | exact bc_123 | exact bc_125 | exact bc_126
  k_with "ba" =>
    first | assumption | walk_at "bc"
  k_with "compareOp Eq bytes bytes" =>
    first | with_reducible refine eq_one (by assumption) (by omega) (by first | rfl | omega) (by walk_at "bc") ?_ | with_reducible refine eq_K1 (by walk_at "ba") (by walk_at "bc") ?_ | with_reducible refine eq_Kt (by walk_at "ba") (by walk_at "bc") rfl ?_ | refine eq_Kf (by walk_at "ba") (by walk_at "bc") (by simp; done) ?_
  k_with "compareOp NotEq bytes bytes" =>
    first | with_reducible refine ne_one (by assumption) (by omega) (by first | rfl | omega) (by walk_at "bc") ?_ | refine ne_K (by first | assumption | walk_at "bc") (by first | assumption | walk_at "bc") ?_
  k_with "my intro" =>
    (intro hc; try (first | (exfalso; omega) | (exfalso; simp at hc; done) | (exfalso; rw [beq_iff_eq] at hc; omega) | (exfalso; rw [beq_eq_false_iff_ne] at hc; omega)))
  k_with "subscriptTail" =>
    (k_here; (with_reducible show wpAny _ _ (subscriptTail _ (Expr.Slice _ _ none _) (Value.bytes _ _) (Value.ref _)) _ _ _); (with_reducible rename Fr _ _ _ _ => F'); (with_reducible rename News _ _ _ _ => N'); (refine KBc.slice_K (s := ⟨_, _, _, _, _⟩) F' N' (by first | assumption | kba_ints) (by constructor) (by constructor) (by first | walk_at "my len" | kba_size) ?_); intro _ _ _ _ _ kbcK; clear kbcK)
  k_with "subscriptTail" =>
    (k_here; (with_reducible show wpAny _ _ (subscriptTail _ _ (Value.bytes _ _) (Value.int _ _)) _ _ _); (refine KBw.item_K (by assumption) (by walk_at "my len") (by walk_at "my len") (by walk_at "my len") ?_); intro _ _ kbaLo kbaHi)
  k_with "exec While" =>
    refine stop_in ?_
  k_with "my mem" =>
    first | assumption | exact List.Mem.tail _ (by assumption) | exact List.Mem.tail _ (List.Mem.tail _ (by assumption)) | exact List.Mem.tail _ (List.Mem.tail _ (List.Mem.tail _ (by assumption)))
  k_with "getMethod ref" =>
    (k_here; (with_reducible show wpAny _ _ (getMethod (Value.ref _) (Str.ofString "get") _) _ _ _); refine kdg_method (knd := bytesKind _ _) (by assumption) (by walk_at "my mem") (by assumption) ?_)
  k_with "call builtin:dict.get" =>
    (k_here; refine get_env (by assumption) (by walk_at "my mem") (by assumption) (by assumption) (by assumption) ?_; intro t')
  k_with "call ref" =>
    ((with_reducible show wpAny _ _ (call (Value.ref 158) _) _ _ _); k_dflt (refine' c_isname ?B ?F ?X ?N ?T ?hk ?hd ?hu ?_; (case B => k_asm); (case F => k_asm); (case X => k_asm); (case N => k_asm); (case T => k_asm); (case hk => exact rfl); (case hd => ktr_room); (case hu => ktr_units)); intro v' h' tk' ev' F' N'; subst ev')
  k_with "eval Call" =>
    k_dflt (refine Call_ ?_)
  trivial
theorem var_br {b : Array UInt8} {ks : List Int} {env : Env8} {i e : Int} (h : i + 1 < ks.length ∧ itm ks (i + 1) = 123) (he : nmE ks (i + 2) ks.length (i + 2) = e) :
    varT b ks env i = if e = i + 2 ∨ ¬ (e < ks.length ∧ itm ks e = 125) then none else some ((env (cut b (i + 2) e).toList).getD #[], e + 1) := by
  unfold varT; rw [if_pos h, he]
theorem var_no {b : Array UInt8} {ks : List Int} {env : Env8} {i e : Int} (h : ¬ (i + 1 < ks.length ∧ itm ks (i + 1) = 123)) (he : nmE ks (i + 1) ks.length (i + 1) = e) :
    varT b ks env i = if e = i + 1 then some (#[36], i + 1) else some ((env (cut b (i + 1) e).toList).getD #[], e) := by
  unfold varT; rw [if_neg h, he]
theorem var_f {b : Array UInt8} {ks : List Int} {env : Env8} {i e f : Int} (hf : (if i + 1 < (ks.length : Int) ∧ itm ks (i + 1) = 123 then i + 2 else i + 1) = f) (he : nmE ks f ks.length f = e) :
    varT b ks env i = if f = i + 2 then (if e = f ∨ ¬ (e < ks.length ∧ itm ks e = 125) then none else some ((env (cut b f e).toList).getD #[], e + 1)) else (if e = f then some (#[36], i + 1) else some ((env (cut b f e).toList).getD #[], e)) := by
  by_cases h : i + 1 < (ks.length : Int) ∧ itm ks (i + 1) = 123
  · rw [if_pos h] at hf
    subst hf
    rw [var_br h he, if_pos rfl]
  · rw [if_neg h] at hf
    subst hf
    rw [var_no h he]
    rw [if_neg (show ¬ (i + 1 = i + 2) by omega)]
theorem and_t {p q : Bool} {c : Prop} [Decidable c] (h : c) (hq : q = p) : p = (decide c && q) := by rw [decide_eq_true h, Bool.true_and, hq]
theorem and_f {q : Bool} {c : Prop} [Decidable c] (h : ¬ c) : false = (decide c && q) := by rw [decide_eq_false h, Bool.false_and]
theorem of_and {q : Bool} {c : Prop} [Decidable c] (h : (decide c && q) = true) : c ∧ q = true := by simpa using h
theorem of_nand {q : Bool} {c : Prop} [Decidable c] (h : (decide c && q) = false) : ¬ (c ∧ q = true) := by
  rintro ⟨h1, h2⟩
  rw [decide_eq_true h1, h2] at h; cases h
theorem words_C5_2 : True := by
  k_with "eval IfExp" =>
    (k_here; (with_reducible show wpAny _ _ (eval (Expr.IfExp (Expr.Compare (Expr.Subscript _ _ _) _ _ _) _ _ _) _) _ _ _); refine stop_in ?_)
  k_with "skip" =>
    (intros; (repeat (first | (with_reducible exact rfl) | refine (if_neg (by assumption)).trans ?_)))
  trivial
theorem c_lvar {b : Array UInt8} {ks : List Int} {tb ti : Tok} {i : Int} {kd : Addr} {ko : Obj} {kvs : List (List UInt8 × Value)} {env : Env8} (hb : KBw.bInts b = ks) (hz : ks.length ≤ 1000) (h0 : 0 ≤ i) (h1 : i < ks.length)
  (hkm : (kd, ko) ∈ news) (hkd : ko.IsDictOf (bytesKind PySem.Challenge.rw_pq1181_01.row.prog w) kvs) (klo : (kd == sysModules) = false) (henv : EnvIs kvs env)
  (B : Below A₀ base outer h₀) (F : Fr h₀ L s.heap m) (X : (Tops.hd.heap_39 w.params).In h₀) (N : News h₀ L s.heap news) (T : Top p loose mean mg mb h₀) (hk : cs.kind = .function)
  (hd : dp + 2 < recursionLimit) (hu : un + 16 < cLine)
  (ret : ∀ v h' tk', resT h₀ L (varT b ks env i) news v h' → Fr h₀ L h' m → Q v { s with heap := h', toks := tk' }) :
  wpAny (model PySem.Challenge.rw_pq1181_01.row.prog w) (ktrTop dp un gd cn cs L a ccd cl outer) (call (.ref 170) [.bytes b tb, .int i ti, .ref kd]) Q E s := by
  refine wpAny_call ?_
  k_dflt cell_enter
  rename Fr _ _ _ (fun y => List.lookup y _) => F1
  have F0 : Fr _ _ _ (fun y => List.lookup y [(Str.ofString "known", Value.ref kd), (Str.ofString "at", Value.int i ti), (Str.ofString "octets", Value.bytes b tb)]) := F1
  clear F1
  refine wpAny_tk (fun tk0 => ?_)
  walk_at "go"
  unfold Stop
  rename Fr _ _ _ _ => F1
  rename News _ _ _ _ => N1
  refine eval_cut F1 N1 (fun t => .int (if i + 1 < (ks.length : Int) ∧ itm ks (i + 1) = 123 then i + 2 else i + 1) t) ?_ ?_
  · refine IfExp_ ?_
    walk_at "go"
    all_goals first
      | exact EvalTo.mk (congrArg (Value.int · _) (if_pos (by assumption)).symm) (by assumption) (by assumption)
      | exact EvalTo.mk (congrArg (Value.int · _) (if_neg (by assumption)).symm) (by assumption) (by assumption)
  clear F1 N1
  generalize hf : (if i + 1 < (ks.length : Int) ∧ itm ks (i + 1) = 123 then i + 2 else i + 1) = f
  have hf1 : i + 1 ≤ f ∧ f ≤ ks.length := by split at hf <;> omega
  intro h2 tk2 t2 F2 N2
  walk_at "go"
  unfold Stop
  rename Fr _ _ _ _ => F1
  rename News _ _ _ _ => N1
  refine While_1T (Str.ofString "end") (fun n v => ∃ e t, v = .int e t ∧ f ≤ e ∧ e ≤ ks.length ∧ (ks.length : Int) - e ≤ n ∧ nmE ks f n e = nmE ks f ks.length f) (fun v => match v with | .int e _ => decide (e < (ks.length : Int)) && signS (itm ks e) (decide (e = f)) | _ => false) (n₀ := ks.length) F1 N1 rfl ⟨f, _, rfl, by omega, by omega, by omega, rfl⟩ ?_ ?_ ?_
  all_goals clear F1 N1
  · rintro n _ h₁ tk₁ F1 N1 ⟨e, t, rfl, he0, he1, he2, he3⟩
    walk_at "go"
    all_goals first
      | exact TestTo.mk (and_t (by assumption) (by assumption)) (by assumption) (by assumption)
      | exact TestTo.mk (and_f (by assumption)) (by assumption) (by assumption)
  · rintro n _ h₁ tk₁ P F1 N1 ⟨e, t, rfl, he0, he1, he2, he3⟩ ht hst hrt
    obtain ⟨ht1, ht2⟩ := of_and ht
    obtain ⟨n', rfl, hn⟩ := nm_step (f := f) he2 ht1 ht2
    walk_at "go"
    exact hst _ _ _ _ _ (by assumption) (by assumption) (Nat.lt_succ_self n') rfl (by walk_at "skip") ⟨e + 1, _, rfl, by omega, by omega, by omega, hn.symm.trans he3⟩
  · rintro n _ h₁ tk₁ F1 N1 ⟨e, t, rfl, he0, he1, he2, he3⟩ ht
    have he : nmE ks f ks.length f = e := by rw [← he3]; exact nm_stop (of_nand ht)
    rw [var_f hf he] at ret
    walk_at "go"
    all_goals first | rw [if_pos (beq_iff_eq.mp (by with_reducible assumption : (f == i + 2) = true))] at ret | rw [if_neg (beq_eq_false_iff_ne.mp (by with_reducible assumption : (f == i + 2) = false))] at ret
    all_goals first
      | (rw [if_pos (.inl (beq_iff_eq.mp (by with_reducible assumption : (e == f) = true)))] at ret; exact ret _ _ _ ⟨rfl, by assumption⟩ (by assumption))
      | (rw [if_pos (.inr (by with_reducible assumption))] at ret; exact ret _ _ _ ⟨rfl, by assumption⟩ (by assumption))
      | (rw [if_neg (by omega)] at ret; exact ret _ _ _ (resT_some (by assumption) (fun _ hq => hq) rfl rfl) (by assumption))
      | (rw [if_pos (by omega)] at ret; exact ret _ _ _ (resT_some (by assumption) (fun _ hq => hq) rfl rfl) (by assumption))
      | (rw [if_neg (fun h => Or.elim h (fun h => (beq_eq_false_iff_ne.mp (by with_reducible assumption : (e == f) = false)) h) (fun h => h (by with_reducible assumption)))] at ret
         exact ret _ _ _ (resT_some (by assumption) (fun _ hq => hq) rfl rfl) (by assumption))

end
end Mine
end
section
open PySem PySem.W PyProof.Rows PySem.Spec PySem.Calls
namespace Mine
set_option maxRecDepth 100000
set_option maxHeartbeats 8000000
theorem fillK_C6 : Dummy PySem.Challenge.rw_pq1181_01 Tops.hd.heap_39 := by w_top off; k_with_none; k_fill; trivial
section
variable {w : World} {p : Program} {loose : List Str} {mean : ExcName → Option Value} {mg mb : Str → Option Value}
  {dp un : Nat} {gd : Option (List Code)} {cn : Str} {cs : Scope} {a : Addr} {ccd : Value} {cl : List (Str × Addr)} {outer : List Env} {A₀ : Around} {base h₀ : Heap} {L : Addr} {m : Str → Option Value} {news : List (Addr × Obj)} {s : Shared} {Q E : Value → Shared → Prop}

theorem words_C6_1 : True := by
  k_with "go" =>
    repeat' (first | (k_unfold; (try dsimp only)) | (k_end; fail) | walk1 | (dsimp only; walk1) | fail "no step")
  k_with "execs cons" =>
    refine wpAny_execs_cons ?_
  k_with "execs nil" =>
    refine wpAny_execs_nil ?_
  k_with "my intro" =>
    (intro hc; try (exfalso; omega))
  k_with "ite" =>
    first
      | with_reducible refine ite_T ?_ | with_reducible refine ite_F ?_ | with_reducible refine ite_nT ?_ | with_reducible refine ite_nF ?_
      | (with_reducible refine ite_D ?_ ?_ <;> walk_at "my intro") | (with_reducible refine ite_nD ?_ ?_ <;> walk_at "my intro") | (with_reducible refine ite_B ?_ ?_ <;> walk_at "my intro") | (with_reducible refine ite_nB ?_ ?_ <;> walk_at "my intro")
  k_with "my len" =>
    first | omega | (simp only [List.length_cons, List.length_nil]; omega)
  k_with "bc" =>
    first | exact bc_ | exact bc_10 | exact bc_34 | exact bc_36 | exact bc_39 | exact bc_92 | exact bc_123 | exact bc_125 | exact bc_126
  k_with "ba" =>
    first | assumption | walk_at "bc"
  k_with "compareOp Eq bytes bytes" =>
    first | with_reducible refine eq_one (by assumption) (by omega) (by first | rfl | omega) (by walk_at "bc") ?_ | with_reducible refine eq_K1 (by walk_at "ba") (by walk_at "bc") ?_ | with_reducible refine eq_Kt (by walk_at "ba") (by walk_at "bc") rfl ?_ | refine eq_Kf (by walk_at "ba") (by walk_at "bc") (by simp; done) ?_
  k_with "compareOp NotEq bytes bytes" =>
    first | with_reducible refine ne_one (by assumption) (by omega) (by first | rfl | omega) (by walk_at "bc") ?_ | refine ne_K (by first | assumption | walk_at "bc") (by first | assumption | walk_at "bc") ?_
  k_with "my intro" =>
    (intro hc; try (first | (exfalso; omega) | (exfalso; simp at hc; done) | (exfalso; rw [beq_iff_eq] at hc; omega) | (exfalso; rw [beq_eq_false_iff_ne] at hc; omega)))
  k_with "subscriptTail" =>
    (k_here; (with_reducible show wpAny _ _ (subscriptTail _ (Expr.Slice _ _ none _) (Value.bytes _ _) (Value.ref _)) _ _ _); (with_reducible rename Fr _ _ _ _ => F'); (with_reducible rename News _ _ _ _ => N'); (refine KBc.slice_K (s := ⟨_, _, _, _, _⟩) F' N' (by first | assumption | kba_ints) (by constructor) (by constructor) (by first | walk_at "my len" | kba_size) ?_); intro _ _ _ _ _ kbcK; clear kbcK)
  k_with "subscriptTail" =>
    (k_here; (with_reducible show wpAny _ _ (subscriptTail _ _ (Value.bytes _ _) (Value.int _ _)) _ _ _); (refine KBw.item_K (by assumption) (by walk_at "my len") (by walk_at "my len") (by walk_at "my len") ?_); intro _ _ kbaLo kbaHi)
  k_with "eval Call" =>
    k_dflt (refine Call_ ?_)
  k_with "my mem" =>
    first | assumption | exact List.Mem.tail _ (by assumption) | exact List.Mem.tail _ (List.Mem.tail _ (by assumption)) | exact List.Mem.tail _ (List.Mem.tail _ (List.Mem.tail _ (by assumption)))
  k_with "call ref" =>
    ((with_reducible show wpAny _ _ (call (Value.ref 163) _) _ _ _); k_dflt (refine' c_lescape ?hb ?hz ?h0 ?h1 ?B ?F ?X ?N ?T ?hk ?hd ?hu ?_; (case hb => assumption); (case hz => omega); (case h0 => omega); (case h1 => omega); (case B => k_asm); (case F => k_asm); (case X => k_asm); (case N => k_asm); (case T => k_asm); (case hk => exact rfl); (case hd => ktr_room); (case hu => ktr_units)); (refine resT_elim ?_ ?_ <;> intros))
  k_with "call ref" =>
    ((with_reducible show wpAny _ _ (call (Value.ref 170) _) _ _ _); k_dflt (refine' c_lvar ?hb ?hz ?h0 ?h1 ?km ?kd ?kl ?ke ?B ?F ?X ?N ?T ?hk ?hd ?hu ?_; (case hb => assumption); (case hz => omega); (case h0 => omega); (case h1 => omega); (case km => walk_at "my mem"); (case kd => assumption); (case kl => assumption); (case ke => assumption); (case B => k_asm); (case F => k_asm); (case X => k_asm); (case N => k_asm); (case T => k_asm); (case hk => exact rfl); (case hd => ktr_room); (case hu => ktr_units)); (refine resT_elim ?_ ?_ <;> intros))
  trivial
theorem c_lturn {b : Array UInt8} {ks : List Int} {tb ti : Tok} {i : Int} {kd : Addr} {ko : Obj} {kvs : List (List UInt8 × Value)} {env : Env8} (hb : KBw.bInts b = ks) (hz : ks.length ≤ 1000) (h0 : 0 ≤ i) (h1 : i < ks.length)
  (hkm : (kd, ko) ∈ news) (hkd : ko.IsDictOf (bytesKind PySem.Challenge.rw_pq1181_01.row.prog w) kvs) (klo : (kd == sysModules) = false) (henv : EnvIs kvs env)
  (B : Below A₀ base outer h₀) (F : Fr h₀ L s.heap m) (X : (Tops.hd.heap_39 w.params).In h₀) (N : News h₀ L s.heap news) (T : Top p loose mean mg mb h₀) (hk : cs.kind = .function)
  (hd : dp + 3 < recursionLimit) (hu : un + 24 < cLine)
  (ret : ∀ v h' tk', resT h₀ L (turnT b ks env i) news v h' → Fr h₀ L h' m → Q v { s with heap := h', toks := tk' }) :
  wpAny (model PySem.Challenge.rw_pq1181_01.row.prog w) (ktrTop dp un gd cn cs L a ccd cl outer) (call (.ref 177) [.bytes b tb, .int i ti, .ref kd]) Q E s := by
  refine wpAny_call ?_
  unfold turnT at ret
  k_dflt cell_enter
  walk_at "go"
  all_goals (first | rw [if_pos (by omega)] at ret | rw [if_neg (by omega)] at ret)
  all_goals (first | rw [show escT ks i = _ from by assumption] at ret | rw [show varT b ks env i = _ from by assumption] at ret)
  all_goals first
    | exact ret _ _ _ ⟨rfl, by assumption⟩ (by assumption)
    | exact ret _ _ _ (resT_some (by assumption) (fun q hq => by simp [hq]) rfl rfl) (by assumption)

end
end Mine
end
section
open PySem PySem.W PyProof.Rows PySem.Spec PySem.Calls
namespace Mine
set_option maxRecDepth 100000
set_option maxHeartbeats 8000000
theorem fillK_C7 : Dummy PySem.Challenge.rw_pq1181_01 Tops.hd.heap_39 := by w_top off; k_with_none; k_fill; trivial
section
variable {w : World} {p : Program} {loose : List Str} {mean : ExcName → Option Value} {mg mb : Str → Option Value}
  {dp un : Nat} {gd : Option (List Code)} {cn : Str} {cs : Scope} {a : Addr} {ccd : Value} {cl : List (Str × Addr)} {outer : List Env} {A₀ : Around} {base h₀ : Heap} {L : Addr} {m : Str → Option Value} {news : List (Addr × Obj)} {s : Shared} {Q E : Value → Shared → Prop}

def resE (h₀ : Heap) (L : Addr) (r : Except Int (Array UInt8 × Int)) (news : List (Addr × Obj)) (v : Value) (h' : Heap) : Prop := match r with
  | .error e => (∃ e' t, e' = e ∧ v = .int e' t) ∧ News h₀ L h' news
  | .ok (x, j) => ∃ T x' j' tx tj, x' = x ∧ j' = j ∧ v = .ref T ∧ News h₀ L h' ((T, tupO [.bytes x' tx, .int j' tj]) :: news)
theorem words_C7_1 : True := by
  k_with "go" =>
    repeat' (first | (k_unfold; (try dsimp only)) | (k_end; fail) | walk1 | (dsimp only; walk1) | fail "no step")
  k_with "execs cons" =>
    refine wpAny_execs_cons ?_
  k_with "execs nil" =>
    refine wpAny_execs_nil ?_
  k_with "my intro" =>
    (intro hc; try (exfalso; omega))
  k_with "ite" =>
    first
      | with_reducible refine ite_T ?_ | with_reducible refine ite_F ?_ | with_reducible refine ite_nT ?_ | with_reducible refine ite_nF ?_
      | (with_reducible refine ite_D ?_ ?_ <;> walk_at "my intro") | (with_reducible refine ite_nD ?_ ?_ <;> walk_at "my intro") | (with_reducible refine ite_B ?_ ?_ <;> walk_at "my intro") | (with_reducible refine ite_nB ?_ ?_ <;> walk_at "my intro")
  k_with "my len" =>
    first | omega | (simp only [List.length_cons, List.length_nil]; omega)
  k_with "bc" =>
    first | exact bc_ | exact bc_10 | exact bc_34 | exact bc_36 | exact bc_39 | exact bc_92 | exact bc_123 | exact bc_125 | exact bc_126
  k_with "ba" =>
    first | assumption | walk_at "bc"
  k_with "compareOp Eq bytes bytes" =>
    first | with_reducible refine eq_one (by assumption) (by omega) (by first | rfl | omega) (by walk_at "bc") ?_ | with_reducible refine eq_K1 (by walk_at "ba") (by walk_at "bc") ?_ | with_reducible refine eq_Kt (by walk_at "ba") (by walk_at "bc") rfl ?_ | refine eq_Kf (by walk_at "ba") (by walk_at "bc") (by simp; done) ?_
  k_with "compareOp NotEq bytes bytes" =>
    first | with_reducible refine ne_one (by assumption) (by omega) (by first | rfl | omega) (by walk_at "bc") ?_ | refine ne_K (by first | assumption | walk_at "bc") (by first | assumption | walk_at "bc") ?_
  k_with "my intro" =>
    (intro hc; try (first | (exfalso; omega) | (exfalso; simp at hc; done) | (exfalso; rw [beq_iff_eq] at hc; omega) | (exfalso; rw [beq_eq_false_iff_ne] at hc; omega)))
  k_with "subscriptTail" =>
    (k_here; (with_reducible show wpAny _ _ (subscriptTail _ (Expr.Slice _ _ none _) (Value.bytes _ _) (Value.ref _)) _ _ _); (with_reducible rename Fr _ _ _ _ => F'); (with_reducible rename News _ _ _ _ => N'); (refine KBc.slice_K (s := ⟨_, _, _, _, _⟩) F' N' (by first | assumption | kba_ints) (by constructor) (by constructor) (by first | walk_at "my len" | kba_size) ?_); intro _ _ _ _ _ kbcK; clear kbcK)
  k_with "subscriptTail" =>
    (k_here; (with_reducible show wpAny _ _ (subscriptTail _ _ (Value.bytes _ _) (Value.int _ _)) _ _ _); (refine KBw.item_K (by assumption) (by walk_at "my len") (by walk_at "my len") (by walk_at "my len") ?_); intro _ _ kbaLo kbaHi)
  k_with "eval Call" =>
    k_dflt (refine Call_ ?_)
  k_with "my mem" =>
    first | assumption | (refine List.Mem.tail _ ?_; walk_at "my mem")
  k_with "call ref" =>
    ((with_reducible show wpAny _ _ (call (Value.ref 163) _) _ _ _); k_dflt (refine' c_lescape ?hb ?hz ?h0 ?h1 ?B ?F ?X ?N ?T ?hk ?hd ?hu ?_; (case hb => assumption); (case hz => omega); (case h0 => omega); (case h1 => omega); (case B => k_asm); (case F => k_asm); (case X => k_asm); (case N => k_asm); (case T => k_asm); (case hk => exact rfl); (case hd => ktr_room); (case hu => ktr_units)); (refine resT_elim ?_ ?_ <;> intros))
  k_with "call ref" =>
    ((with_reducible show wpAny _ _ (call (Value.ref 170) _) _ _ _); k_dflt (refine' c_lvar ?hb ?hz ?h0 ?h1 ?km ?kd ?kl ?ke ?B ?F ?X ?N ?T ?hk ?hd ?hu ?_; (case hb => assumption); (case hz => omega); (case h0 => omega); (case h1 => omega); (case km => walk_at "my mem"); (case kd => assumption); (case kl => assumption); (case ke => assumption); (case B => k_asm); (case F => k_asm); (case X => k_asm); (case N => k_asm); (case T => k_asm); (case hk => exact rfl); (case hd => ktr_room); (case hu => ktr_units)); (refine resT_elim ?_ ?_ <;> intros))
  k_with "exec While" =>
    refine stop_in ?_
  k_with "compareOp In bytes ref" =>
    (k_here; refine in_two (by assumption) (by assumption) (by omega) (by first | rfl | omega) (by walk_at "bc") (by walk_at "bc") ?_)
  k_with "call ref" =>
    ((with_reducible show wpAny _ _ (call (Value.ref 177) _) _ _ _); k_dflt (refine' c_lturn ?hb ?hz ?h0 ?h1 ?km ?kd ?kl ?ke ?B ?F ?X ?N ?T ?hk ?hd ?hu ?_; (case hb => assumption); (case hz => omega); (case h0 => omega); (case h1 => omega); (case N => k_asm); (case km => walk_at "my mem"); (case kd => assumption); (case kl => assumption); (case ke => assumption); (case B => k_asm); (case F => k_asm); (case X => k_asm); (case T => k_asm); (case hk => exact rfl); (case hd => ktr_room); (case hu => ktr_units)); (refine resT_elim ?_ ?_ <;> intros))
  trivial
theorem resE_ok {h₀ h' : Heap} {L T : Addr} {x x' : Array UInt8} {j j' : Int} {tx tj : Tok} {news all : List (Addr × Obj)} (N : News h₀ L h' ((T, tupO [.bytes x' tx, .int j' tj]) :: all)) (sub : ∀ q ∈ news, q ∈ all) (hx : x' = x) (hj : j' = j) :
    resE h₀ L (.ok (x, j)) news (.ref T) h' := ⟨T, x', j', tx, tj, hx, hj, rfl, fun q hq => N q (by
      rcases List.mem_cons.mp hq with e | e
      · rw [e]; exact .head _
      · exact .tail _ (sub q e))⟩
theorem words_C7_2 : True := by
  k_with "binaryOp Add bytes bytes" =>
    (k_here; refine KBy.add_bytes (by first | exact Nat.le_trans (Nat.add_le_add_left (pick_size (by assumption) _ _) _) (by omega) | (have h9 := turn_size (by assumption) (by assumption) (by omega) (by omega); omega)) ?_; intro _ _)
  k_with "tl" =>
    (refine (fun q hq => (by assumption : News _ _ _ (_ :: _)) q ?_); repeat (first | exact hq | refine List.Mem.tail _ ?_))
  k_with "skip" =>
    (intros; (repeat (first | (with_reducible exact rfl) | refine (if_neg (by assumption)).trans ?_)))
  k_with "exec If" =>
    refine If_one ?_
  k_with "exec If Compare cons nil" =>
    refine If_one ?_
  k_with "exec If Compare cons cons" =>
    refine If_one ?_
  trivial
theorem c_ldouble {b : Array UInt8} {ks : List Int} {tb ti : Tok} {i : Int} {kd : Addr} {ko : Obj} {kvs : List (List UInt8 × Value)} {env : Env8} (hb : KBw.bInts b = ks) (hz : ks.length ≤ 1000) (h0 : 0 ≤ i) (h1 : i < ks.length)
  (hkm : (kd, ko) ∈ news) (hkd : ko.IsDictOf (bytesKind PySem.Challenge.rw_pq1181_01.row.prog w) kvs) (klo : (kd == sysModules) = false) (henv : EnvIs kvs env) (hsz : ∀ k x, env k = some x → x.size ≤ 4)
  (B : Below A₀ base outer h₀) (F : Fr h₀ L s.heap m) (X : (Tops.hd.heap_39 w.params).In h₀) (N : News h₀ L s.heap news) (T : Top p loose mean mg mb h₀) (hk : cs.kind = .function)
  (hd : dp + 4 < recursionLimit) (hu : un + 32 < cLine)
  (ret : ∀ v h' tk', resE h₀ L (dblT b ks env i) news v h' → Fr h₀ L h' m → Q v { s with heap := h', toks := tk' }) :
  wpAny (model PySem.Challenge.rw_pq1181_01.row.prog w) (ktrTop dp un gd cn cs L a ccd cl outer) (call (.ref 184) [.bytes b tb, .int i ti, .ref kd]) Q E s := by
  refine wpAny_call ?_
  k_dflt cell_enter
  rename Fr _ _ _ (fun y => List.lookup y _) => F1
  have F0 : Fr _ _ _ (fun y => List.lookup y [(Str.ofString "known", Value.ref kd), (Str.ofString "at", Value.int i ti), (Str.ofString "octets", Value.bytes b tb)]) := F1
  clear F1
  refine wpAny_tk (fun tk0 => ?_)
  walk_at "go"
  unfold Stop
  rename Fr _ _ _ _ => F1
  rename News _ _ _ _ => N1
  refine While_3P (Str.ofString "found") (Str.ofString "here") (Str.ofString "told") (fun n v v' => ∃ acc e t t', v = .bytes acc t ∧ v' = .int e t' ∧ i + 1 ≤ e ∧ e ≤ ks.length ∧ (ks.length : Int) - e < n ∧ acc.size ≤ 4 * e ∧ dblS b ks env i n acc e = dblT b ks env i) (n₀ := ks.length + 1) F1 N1 rfl rfl ⟨#[], i + 1, _, _, rfl, rfl, by omega, by omega, by omega, by simp; omega, rfl⟩ ?_
  clear F1 N1
  rintro n _ _ o h₁ tk₁ P F1 N1 ⟨acc, e, t, t', rfl, rfl, he0, he1, he2, hs, he3⟩ hst hrt
  walk_at "go"
  · refine hrt _ _ ?_
    walk_at "go"
    refine ret _ _ _ ?_ (by assumption)
    rw [← he3, dbl_out (by omega)]
    exact ⟨⟨_, _, rfl, rfl⟩, fun q hq => (by assumption : News _ _ _ (_ :: news)) q (.tail _ hq)⟩
  all_goals obtain ⟨n', rfl⟩ : ∃ n', n = n' + 1 := ⟨n - 1, by omega⟩
  · refine hrt _ _ ?_
    walk_at "go"
    refine ret _ _ _ ?_ (by assumption)
    rw [← he3, dbl_none (by omega) (by omega) (by assumption)]
    exact ⟨⟨_, _, rfl, rfl⟩, fun q hq => (by assumption : News _ _ _ (_ :: _)) q (by simp [hq])⟩
  · have h9 := turn_size (by assumption) hsz (by omega) (by omega)
    refine hst _ _ n' _ _ _ (by assumption) (by walk_at "tl") (Nat.lt_succ_self n') rfl rfl (by walk_at "skip") ⟨_, _, _, _, rfl, rfl, by omega, by omega, by omega, by rw [Array.size_append]; omega, ?_⟩
    rw [← he3, dbl_some (by omega) (by omega) (by assumption)]
  · have h9 := pick_one hb (show 0 ≤ e by omega) (by omega) rfl
    have h8 : (KBy.picked b (some e) (some (e + 1))).size = 1 := by rw [h9]; rfl
    refine hst _ _ n' _ _ _ (by assumption) (by walk_at "tl") (Nat.lt_succ_self n') rfl rfl (by walk_at "skip") ⟨_, _, _, _, rfl, rfl, by omega, by omega, by omega, by rw [Array.size_append]; omega, ?_⟩
    rw [← he3, dbl_push (by omega) (by omega) (by omega), h9]
  · rw [← he3, dbl_end (by assumption)] at ret
    exact ret _ _ _ (resE_ok (by assumption) (fun q hq => by simp [hq]) rfl rfl) (by assumption)

end
end Mine
end
section
open PySem PySem.W PyProof.Rows PySem.Spec PySem.Calls
namespace Mine
section
variable {b : Array UInt8} {ks : List Int} {env : Env8} {begin i e j : Int} {n : Nat} {acc x : Array UInt8} {bare : Bool}
theorem dblS_size (hsz : ∀ k x, env k = some x → x.size ≤ 4) : ∀ (n : Nat) (acc : Array UInt8) (e : Int), 0 ≤ e → dblS b ks env begin n acc e = .ok (x, j) → (x.size : Int) ≤ acc.size + 4 * (j - 1 - e) ∧ e < j ∧ j ≤ ks.length
  | 0, _, _, _, h => by cases h
  | n + 1, acc, e, h0, h => by
    unfold dblS at h
    split at h
    · split at h
      · cases h; omega
      · split at h
        · split at h
          · cases h
          · rename_i y k hy
            have t := turn_size hy hsz h0 (by omega)
            have := dblS_size hsz n _ k (by omega) h
            rw [Array.size_append] at this
            omega
        · have := dblS_size hsz n _ (e + 1) (by omega) h
          rw [Array.size_push] at this
          omega
    · cases h
theorem dbl_size (h : dblT b ks env i = .ok (x, j)) (hsz : ∀ k x, env k = some x → x.size ≤ 4) (h0 : 0 ≤ i) : (x.size : Int) ≤ 4 * (j - i) ∧ i < j ∧ j ≤ ks.length := by
  have := dblS_size (b := b) (begin := i) hsz _ _ _ (by omega) h
  simp at this
  omega
theorem stp_q (h : itm ks i = 39) (hf : findQ b (i + 1) = e) (h0 : 0 ≤ e) : stepW b ks env i = .ok (cut b (i + 1) e, e + 1, true) := by
  unfold stepW; rw [if_pos h, hf, if_pos h0]
theorem stp_q0 (h : itm ks i = 39) (h0 : ¬ 0 ≤ findQ b (i + 1)) : stepW b ks env i = .error i := by
  unfold stepW; rw [if_pos h, if_neg h0]
theorem stp_d (h : itm ks i = 34) (hd : dblT b ks env i = .ok (x, j)) : stepW b ks env i = .ok (x, j, true) := by
  unfold stepW; rw [if_neg (by omega), if_pos h, hd]; rfl
theorem stp_d0 (h : itm ks i = 34) (hd : dblT b ks env i = .error e) : stepW b ks env i = .error e := by
  unfold stepW; rw [if_neg (by omega), if_pos h, hd]; rfl
theorem stp_t (h : itm ks i = 92 ∨ itm ks i = 36) (ht : turnT b ks env i = some (x, j)) : stepW b ks env i = .ok (x, j, true) := by
  unfold stepW; rw [if_neg (by omega), if_neg (by omega), if_pos h, ht]
theorem stp_t0 (h : itm ks i = 92 ∨ itm ks i = 36) (ht : turnT b ks env i = none) : stepW b ks env i = .error i := by
  unfold stepW; rw [if_neg (by omega), if_neg (by omega), if_pos h, ht]
theorem stp_h (h : itm ks i = 126) (h0 : i = 0) : stepW b ks env i = .ok ((env [72, 79, 77, 69]).getD #[], 1, true) := by
  unfold stepW; rw [if_neg (by omega), if_neg (by omega), if_neg (by omega), if_pos ⟨h, h0⟩]
theorem stp_p (h1 : itm ks i ≠ 39) (h2 : itm ks i ≠ 34) (h3 : ¬ (itm ks i = 92 ∨ itm ks i = 36)) (h4 : ¬ (itm ks i = 126 ∧ i = 0)) : stepW b ks env i = .ok (byt (itm ks i), i + 1, false) := by
  unfold stepW; rw [if_neg h1, if_neg h2, if_neg h3, if_neg h4]
theorem wrd_end (h : ¬ (e < ks.length ∧ endS (itm ks e) = false)) : wrdS b ks env n acc bare e = .ok (acc, bare, e) := by
  cases n with
  | zero => rfl
  | succ n => rw [wrdS, if_neg h]
theorem wrd_err (h : e < ks.length ∧ endS (itm ks e) = false) (hs : stepW b ks env e = .error j) : wrdS b ks env (n + 1) acc bare e = .error j := by
  rw [wrdS, if_pos h, hs]
theorem wrd_ok {q : Bool} (h : e < ks.length ∧ endS (itm ks e) = false) (hs : stepW b ks env e = .ok (x, j, q)) : wrdS b ks env (n + 1) acc bare e = wrdS b ks env n (acc ++ x) (bare && !q) j := by
  rw [wrdS, if_pos h, hs]
theorem env_size (hsz : ∀ k x, env k = some x → x.size ≤ 4) (k : List UInt8) : (((env k).getD #[]).size : Int) ≤ 4 := by
  cases he : env k with
  | none => simp
  | some y => have := hsz k y he; simp only [Option.getD_some]; omega
theorem cut_size (hb : KBw.bInts b = ks) (h0 : 0 ≤ i) (h : i ≤ j) : ((cut b i j).size : Int) ≤ j - i := by
  have h1 := congrArg List.length (ints_cut hb h0 (show 0 ≤ j by omega))
  rw [KBw.ints_length] at h1
  unfold cut
  rw [h1, List.length_take]
  omega
end
end Mine
end
section
open PySem PySem.W PyProof.Rows PySem.Spec PySem.Calls
namespace Mine
set_option maxRecDepth 100000
set_option maxHeartbeats 8000000
theorem fillK_C8 : Dummy PySem.Challenge.rw_pq1181_01 Tops.hd.heap_39 := by w_top off; k_with_none; k_fill; trivial
section
variable {w : World} {p : Program} {loose : List Str} {mean : ExcName → Option Value} {mg mb : Str → Option Value}
  {dp un : Nat} {gd : Option (List Code)} {cn : Str} {cs : Scope} {a : Addr} {ccd : Value} {cl : List (Str × Addr)} {outer : List Env} {A₀ : Around} {base h₀ : Heap} {L : Addr} {m : Str → Option Value} {news : List (Addr × Obj)} {s : Shared} {Q E : Value → Shared → Prop}

theorem words_C8_1 : True := by
  k_with "go" =>
    repeat' (first | (k_unfold; (try dsimp only)) | (k_end; fail) | walk1 | (dsimp only; walk1) | fail "no step")
  k_with "execs cons" =>
    refine wpAny_execs_cons ?_
  k_with "execs nil" =>
    refine wpAny_execs_nil ?_
  k_with "my intro" =>
    (intro hc; try (exfalso; omega))
  k_with "ite" =>
    first
      | with_reducible refine ite_T ?_ | with_reducible refine ite_F ?_ | with_reducible refine ite_nT ?_ | with_reducible refine ite_nF ?_
      | (with_reducible refine ite_D ?_ ?_ <;> walk_at "my intro") | (with_reducible refine ite_nD ?_ ?_ <;> walk_at "my intro") | (with_reducible refine ite_B ?_ ?_ <;> walk_at "my intro") | (with_reducible refine ite_nB ?_ ?_ <;> walk_at "my intro")
  k_with "my len" =>
    first | omega | (simp only [List.length_cons, List.length_nil]; omega)
  k_with "bc" =>
    first | exact bc_ | exact bc_10 | exact bc_34 | exact bc_36 | exact bc_39 | exact bc_92 | exact bc_123 | exact bc_125 | exact bc_126
  k_with "ba" =>
    first | assumption | walk_at "bc"
  k_with "compareOp Eq bytes bytes" =>
    first | with_reducible refine eq_one (by assumption) (by omega) (by first | rfl | omega) (by walk_at "bc") ?_ | with_reducible refine eq_K1 (by walk_at "ba") (by walk_at "bc") ?_ | with_reducible refine eq_Kt (by walk_at "ba") (by walk_at "bc") rfl ?_ | refine eq_Kf (by walk_at "ba") (by walk_at "bc") (by simp; done) ?_
  k_with "compareOp NotEq bytes bytes" =>
    first | with_reducible refine ne_one (by assumption) (by omega) (by first | rfl | omega) (by walk_at "bc") ?_ | refine ne_K (by first | assumption | walk_at "bc") (by first | assumption | walk_at "bc") ?_
  k_with "my intro" =>
    (intro hc; try (first | (exfalso; omega) | (exfalso; simp at hc; done) | (exfalso; rw [beq_iff_eq] at hc; omega) | (exfalso; rw [beq_eq_false_iff_ne] at hc; omega)))
  k_with "subscriptTail" =>
    (k_here; (with_reducible show wpAny _ _ (subscriptTail _ (Expr.Slice _ _ none _) (Value.bytes _ _) (Value.ref _)) _ _ _); (with_reducible rename Fr _ _ _ _ => F'); (with_reducible rename News _ _ _ _ => N'); (refine KBc.slice_K (s := ⟨_, _, _, _, _⟩) F' N' (by first | assumption | kba_ints) (by constructor) (by constructor) (by first | walk_at "my len" | kba_size) ?_); intro _ _ _ _ _ kbcK; clear kbcK)
  k_with "subscriptTail" =>
    (k_here; (with_reducible show wpAny _ _ (subscriptTail _ _ (Value.bytes _ _) (Value.int _ _)) _ _ _); (refine KBw.item_K (by assumption) (by walk_at "my len") (by walk_at "my len") (by walk_at "my len") ?_); intro _ _ kbaLo kbaHi)
  k_with "eval Call" =>
    k_dflt (refine Call_ ?_)
  k_with "my mem" =>
    first | assumption | (refine List.Mem.tail _ ?_; walk_at "my mem")
  k_with "call ref" =>
    ((with_reducible show wpAny _ _ (call (Value.ref 163) _) _ _ _); k_dflt (refine' c_lescape ?hb ?hz ?h0 ?h1 ?B ?F ?X ?N ?T ?hk ?hd ?hu ?_; (case hb => assumption); (case hz => omega); (case h0 => omega); (case h1 => omega); (case B => k_asm); (case F => k_asm); (case X => k_asm); (case N => k_asm); (case T => k_asm); (case hk => exact rfl); (case hd => ktr_room); (case hu => ktr_units)); (refine resT_elim ?_ ?_ <;> intros))
  k_with "call ref" =>
    ((with_reducible show wpAny _ _ (call (Value.ref 170) _) _ _ _); k_dflt (refine' c_lvar ?hb ?hz ?h0 ?h1 ?km ?kd ?kl ?ke ?B ?F ?X ?N ?T ?hk ?hd ?hu ?_; (case hb => assumption); (case hz => omega); (case h0 => omega); (case h1 => omega); (case km => walk_at "my mem"); (case kd => assumption); (case kl => assumption); (case ke => assumption); (case B => k_asm); (case F => k_asm); (case X => k_asm); (case N => k_asm); (case T => k_asm); (case hk => exact rfl); (case hd => ktr_room); (case hu => ktr_units)); (refine resT_elim ?_ ?_ <;> intros))
  k_with "exec While" =>
    refine stop_in ?_
  k_with "compareOp In bytes ref" =>
    (k_here; refine in_two (by assumption) (by assumption) (by omega) (by first | rfl | omega) (by walk_at "bc") (by walk_at "bc") ?_)
  k_with "call ref" =>
    ((with_reducible show wpAny _ _ (call (Value.ref 177) _) _ _ _); k_dflt (refine' c_lturn ?hb ?hz ?h0 ?h1 ?km ?kd ?kl ?ke ?B ?F ?X ?N ?T ?hk ?hd ?hu ?_; (case hb => assumption); (case hz => omega); (case h0 => omega); (case h1 => omega); (case N => k_asm); (case km => walk_at "my mem"); (case kd => assumption); (case kl => assumption); (case ke => assumption); (case B => k_asm); (case F => k_asm); (case X => k_asm); (case T => k_asm); (case hk => exact rfl); (case hd => ktr_room); (case hu => ktr_units)); (refine resT_elim ?_ ?_ <;> intros))
  k_with "binaryOp Add bytes bytes" =>
    (k_here; refine KBy.add_bytes (by first | exact Nat.le_trans (Nat.add_le_add_left (pick_size (by assumption) _ _) _) (by omega) | (have h9 := turn_size (by assumption) (by assumption) (by omega) (by omega); omega)) ?_; intro _ _)
  trivial
theorem resE_elim {h₀ : Heap} {L : Addr} {r : Except Int (Array UInt8 × Int)} {news : List (Addr × Obj)} {m : Str → Option Value} {P : Value → Heap → Nat → Prop} (hn : ∀ e, r = .error e → ∀ t h' tk', Fr h₀ L h' m → News h₀ L h' news → P (.int e t) h' tk')
    (hs : ∀ x j, r = .ok (x, j) → ∀ T tx tj h' tk', Fr h₀ L h' m → News h₀ L h' ((T, tupO [.bytes x tx, .int j tj]) :: news) → P (.ref T) h' tk') : ∀ v h' tk', resE h₀ L r news v h' → Fr h₀ L h' m → P v h' tk' := by
  intro v h' tk' hr F
  cases r with
  | error e => obtain ⟨⟨e', t, rfl, rfl⟩, N⟩ := hr; exact hn _ rfl t h' tk' F N
  | ok p =>
    obtain ⟨x, j⟩ := p
    obtain ⟨T, x', j', tx, tj, rfl, rfl, rfl, N⟩ := hr
    exact hs _ _ rfl T tx tj h' tk' F N
def resW (h₀ : Heap) (L : Addr) (r : Except Int (Array UInt8 × Bool × Int)) (news : List (Addr × Obj)) (v : Value) (h' : Heap) : Prop := match r with
  | .error e => (∃ e' t, e' = e ∧ v = .int e' t) ∧ News h₀ L h' news
  | .ok (x, q, j) => ∃ T x' q' j' tx tj, x' = x ∧ q' = q ∧ j' = j ∧ v = .ref T ∧ News h₀ L h' ((T, tupO [.bytes x' tx, .bool q', .int j' tj]) :: news)
theorem words_C8_2 : True := by
  k_with "exec While BoolOp" =>
    refine stop_in ?_
  k_with "compareOp NotIn int bytes" =>
    (k_here; refine notin_ends (itm_in (by assumption) (by omega) (by omega)).1 (itm_in (by assumption) (by omega) (by omega)).2 ?_)
  k_with "getMethod bytes" =>
    (k_here; (with_reducible show wpAny _ _ (getMethod (Value.bytes _ _) (Str.ofString "find") _) _ _ _); refine KBd.method_of _ (typeIs_bytes _ _ _) f_find_slot f_find_type KBd.noRef ?_)
  k_with "call builtin:bytes.find" =>
    (k_here; refine find_K (by omega) ?_)
  k_with "call ref" =>
    ((with_reducible show wpAny _ _ (call (Value.ref 184) _) _ _ _); k_dflt (refine' c_ldouble ?hb ?hz ?h0 ?h1 ?km ?kd ?kl ?ke ?ks ?B ?F ?X ?N ?T ?hk ?hd ?hu ?_; (case hb => assumption); (case hz => omega); (case h0 => omega); (case h1 => omega); (case N => k_asm); (case km => walk_at "my mem"); (case kd => assumption); (case kl => assumption); (case ke => assumption); (case ks => assumption); (case B => k_asm); (case F => k_asm); (case X => k_asm); (case T => k_asm); (case hk => exact rfl); (case hd => ktr_room); (case hu => ktr_units)); (refine resE_elim ?_ ?_ <;> intros))
  k_with "getMethod ref" =>
    (k_here; (with_reducible show wpAny _ _ (getMethod (Value.ref _) (Str.ofString "get") _) _ _ _); refine kdg_method (knd := bytesKind _ _) (by assumption) (by walk_at "my mem") (by assumption) ?_)
  k_with "call builtin:dict.get" =>
    (k_here; refine get_env (by assumption) (by walk_at "my mem") (by assumption) (by assumption) (by assumption) ?_; intro t')
  k_with "binaryOp Add bytes bytes" =>
    (k_here; refine KBy.add_bytes (by first | exact Nat.le_trans (Nat.add_le_add_left (pick_size (by assumption) _ _) _) (by omega) | (have h9 := turn_size (by assumption) (by assumption) (by omega) (by omega); omega) | (have h9 := dbl_size (by assumption) (by assumption) (by omega); omega) | (have h9 := env_size (by assumption) [72, 79, 77, 69]; omega)) ?_; intro _ _)
  trivial
theorem resW_ok {h₀ h' : Heap} {L T : Addr} {x x' : Array UInt8} {q q' : Bool} {j j' : Int} {tx tj : Tok} {news all : List (Addr × Obj)} (N : News h₀ L h' ((T, tupO [.bytes x' tx, .bool q', .int j' tj]) :: all)) (sub : ∀ q ∈ news, q ∈ all) (hx : x' = x) (hq : q' = q) (hj : j' = j) :
    resW h₀ L (.ok (x, q, j)) news (.ref T) h' := ⟨T, x', q', j', tx, tj, hx, hq, hj, rfl, fun q hq => N q (by
      rcases List.mem_cons.mp hq with e | e
      · rw [e]; exact .head _
      · exact .tail _ (sub q e))⟩
theorem bare_1 {b : Array UInt8} {ks : List Int} {env : Env8} {n : Nat} {acc : Array UInt8} {bare v q : Bool} {j : Int} (h : (bare && !q) = v) : wrdS b ks env n acc v j = wrdS b ks env n acc (bare && !q) j := by rw [h]
theorem bare_N {b : Array UInt8} {ks : List Int} {env : Env8} {n : Nat} {acc : Array UInt8} {bare : Bool} {j : Int} : wrdS b ks env n acc (bare && true) j = wrdS b ks env n acc (bare && !false) j := rfl
theorem bare_R {b : Array UInt8} {ks : List Int} {env : Env8} {n : Nat} {acc : Array UInt8} {bare : Bool} {j : Int} : wrdS b ks env n acc (bare && false) j = wrdS b ks env n acc (bare && !true) j := rfl
theorem words_C8_3 : True := by
  k_with "eval BoolOp" =>
    (k_here; (with_reducible show wpAny _ _ (eval (Expr.BoolOp BoolOp.And [Expr.Name _ _, Expr.Compare _ _ _ _] _) _) _ _ _); k_dflt (first
      | refine and_is false (by k_asm) (by exact rfl) (by exact rfl) rfl rfl ?_
      | refine and_is true (by k_asm) (by exact rfl) (by exact rfl) rfl rfl ?_))
  k_with "tl" =>
    (refine (fun q hq => (by assumption : News _ _ _ (_ :: _)) q ?_); repeat (first | exact hq | refine List.Mem.tail _ ?_))
  k_with "skip" =>
    (intros; (repeat (first | (with_reducible exact rfl) | refine (if_neg (by assumption)).trans ?_)))
  k_with "exec If" =>
    refine If_one ?_
  k_with "exec If Compare cons nil" =>
    refine If_one ?_
  k_with "exec If Compare cons cons" =>
    refine If_one ?_
  trivial
theorem c_lword {b : Array UInt8} {ks : List Int} {tb : Tok} {kd : Addr} {ko : Obj} {kvs : List (List UInt8 × Value)} {env : Env8} (hb : KBw.bInts b = ks) (hz : ks.length ≤ 1000)
  (hkm : (kd, ko) ∈ news) (hkd : ko.IsDictOf (bytesKind PySem.Challenge.rw_pq1181_01.row.prog w) kvs) (klo : (kd == sysModules) = false) (henv : EnvIs kvs env) (hsz : ∀ k x, env k = some x → x.size ≤ 4)
  (B : Below A₀ base outer h₀) (F : Fr h₀ L s.heap m) (X : (Tops.hd.heap_39 w.params).In h₀) (N : News h₀ L s.heap news) (T : Top p loose mean mg mb h₀) (hk : cs.kind = .function)
  (hd : dp + 5 < recursionLimit) (hu : un + 40 < cLine)
  (ret : ∀ v h' tk', resW h₀ L (wrdT b ks env) news v h' → Fr h₀ L h' m → Q v { s with heap := h', toks := tk' }) :
  wpAny (model PySem.Challenge.rw_pq1181_01.row.prog w) (ktrTop dp un gd cn cs L a ccd cl outer) (call (.ref 191) [.bytes b tb, .ref kd]) Q E s := by
  refine wpAny_call ?_
  have hbs : b.size = ks.length := by rw [← hb, KBw.ints_length]
  k_dflt cell_enter
  rename Fr _ _ _ (fun y => List.lookup y _) => F1
  have F0 : Fr _ _ _ (fun y => List.lookup y [(Str.ofString "known", Value.ref kd), (Str.ofString "octets", Value.bytes b tb)]) := F1
  clear F1
  refine wpAny_tk (fun tk0 => ?_)
  walk_at "go"
  unfold Stop
  rename Fr _ _ _ _ => F1
  rename News _ _ _ _ => N1
  refine While_6P (Str.ofString "found") (Str.ofString "is_bare") (Str.ofString "at") (Str.ofString "sign") (Str.ofString "told") (Str.ofString "end") (fun n v1 v2 v3 => ∃ acc bare e t t', v1 = .bytes acc t ∧ v2 = .bool bare ∧ v3 = .int e t' ∧ 0 ≤ e ∧ e ≤ ks.length ∧ (ks.length : Int) - e < n ∧ (acc.size : Int) ≤ 4 * e ∧ wrdS b ks env n acc bare e = wrdT b ks env) (n₀ := ks.length + 1) F1 N1 rfl rfl rfl ⟨#[], true, 0, _, _, rfl, rfl, rfl, by omega, by omega, by omega, by simp, rfl⟩ ?_
  clear F1 N1
  rintro n _ _ _ o4 o5 o6 h₁ tk₁ P F1 N1 ⟨acc, bare, e, t, t', rfl, rfl, rfl, he0, he1, he2, hs, he3⟩ hst hrt
  walk_at "go"
  all_goals try (with_reducible refine hrt _ _ ?_; walk_at "go")
  all_goals first
    | (refine ret _ _ _ ?_ (by assumption); rw [← he3, wrd_end (by first | omega | (intro hq; have h7 := hq.2; simp_all; done))]; exact resW_ok (by assumption) (fun q hq => by simp [hq]) rfl rfl rfl)
    | skip
  all_goals have hend : e < ks.length ∧ endS (itm ks e) = false := ⟨by omega, by have h7 : (!endS (itm ks e)) = true := (by assumption); simpa using h7⟩
  all_goals obtain ⟨n', rfl⟩ : ∃ n', n = n' + 1 := ⟨n - 1, by omega⟩
  all_goals first
    | (have h7 := stp_q0 (b := b) (env := env) (show itm ks e = 39 by omega) (by omega); refine ret _ _ _ ?_ (by assumption); rw [← he3, wrd_err hend h7]; exact ⟨⟨_, _, rfl, rfl⟩, fun q hq => (by assumption : News _ _ _ (_ :: _)) q (by simp [hq])⟩)
    | (have h7 := stp_t0 (b := b) (env := env) (show itm ks e = 92 ∨ itm ks e = 36 by omega) (by assumption); refine ret _ _ _ ?_ (by assumption); rw [← he3, wrd_err hend h7]; exact ⟨⟨_, _, rfl, rfl⟩, fun q hq => (by assumption : News _ _ _ (_ :: _)) q (by simp [hq])⟩)
    | (have h7 := stp_d0 (b := b) (env := env) (show itm ks e = 34 by omega) (by assumption); refine ret _ _ _ ?_ (by assumption); rw [← he3, wrd_err hend h7]; exact ⟨⟨_, _, rfl, rfl⟩, fun q hq => (by assumption : News _ _ _ (_ :: _)) q (by simp [hq])⟩)
    | skip
  all_goals first
    | (have h7 := stp_q (b := b) (env := env) (show itm ks e = 39 by omega) rfl (by assumption); have h9 := find_at (b := b) (i := e + 1) rfl (by omega) (by assumption); have h8 : ((KBy.picked b (some (e + 1)) (some (findQ b (e + 1)))).size : Int) ≤ findQ b (e + 1) - (e + 1) := cut_size hb (show 0 ≤ e + 1 by omega) (by omega))
    | (have h7 := stp_t (b := b) (env := env) (show itm ks e = 92 ∨ itm ks e = 36 by omega) (by assumption); have h8 := turn_size (by assumption) hsz (by omega) (by omega))
    | (have h7 := stp_d (b := b) (env := env) (show itm ks e = 34 by omega) (by assumption); have h8 := dbl_size (by assumption) hsz (by omega))
    | (have h5 : e = 0 := (by first | omega | (have h6 : (e == 0) = true := (by assumption); simpa using h6)); have h7 := stp_h (b := b) (env := env) (show itm ks e = 126 by omega) h5; have h8 := env_size hsz [72, 79, 77, 69])
    | (have h7 := stp_p (b := b) (env := env) (show itm ks e ≠ 39 by omega) (by omega) (by omega) (by first | omega | (intro hq; have h6 : (e == 0) = false := (by assumption); simp at h6; omega)); have h8 : (byt (itm ks e)).size = 1 := rfl; rw [← pick_one hb he0 (by omega) rfl] at h7 h8)
  all_goals refine hst _ _ _ _ _ _ _ (by assumption) (by walk_at "tl") (Nat.lt_succ_self _) rfl rfl rfl (by walk_at "skip") ⟨_, _, _, _, _, rfl, rfl, rfl, by omega, by omega, by omega, by rw [Array.size_append]; omega, ?_⟩
  all_goals rw [← he3, wrd_ok hend h7]
  all_goals first | exact bare_N | exact bare_R

end
end Mine
end
section
open PySem PySem.W PyProof.Rows PySem.Spec PySem.Calls
namespace Mine
set_option maxRecDepth 100000
section
variable {M : Model} {A : Around} {E : Value → Shared → Prop} {s : Shared} {env : Env} {K : Frag} {pos : Pos} {f : Value} {first : List Value} {Q : Value → Shared → Prop}
theorem wpC_leaf {α : Type} {t : Sem α} {Q : α → Shared → Prop} (h : wpAny M A t Q E s) : wpC M A t Q E s := .of h
theorem wpC_keep {α : Type} {vs : List Value} {m : Sem α} {Q : α → Shared → Prop} (h : wpC M A m Q E s) : wpC M A (m.keep vs) Q E s := fun Γ p hΓ ho hb => by
  rw [Sem.wp_keep]; exact h Γ p hΓ ho hb
theorem wpC_MethodCall {o : Expr} {name : Str} {apos pos : Pos} {args : List Expr} {pl : Sem Bool}
    (h : wpAny M A (eval o env) (fun ov s₁ => wpAny M A (getMethod ov name pl) (fun fx s₂ => wpC M A (callWith pos fx.1 fx.2 (backTo pos (starEach args env)) []) Q E s₂) E s₁) E s)
    (he : eval (.Call (.Attribute o name apos) args [] pos) env = (do
      let ov ← eval o env
      standAt apos.atName
      let (f, first) ← holding [ov] (getMethod ov name pl)
      callWith pos f first (backTo pos (starEach args env)) []) := by rfl) :
    wpC M A (eval (.Call (.Attribute o name apos) args [] pos) env) Q E s := by
  rw [he]
  exact wpC_bind (.of (wpAny_mono h (fun ov s₁ h₁ => wpAny_bind_C (wpAny_standAt_C (wpC_bind (wpC_holding (.of (wpAny_mono h₁ (fun fx s₂ h₂ => h₂) fun _ _ x => x)))))) fun _ _ x => x))
where
  wpAny_bind_C {α β : Type} {m : Sem α} {g : α → Sem β} {s : Shared} {Q : β → Shared → Prop} (h : wpC M A m (fun a s' => wpC M A (g a) Q E s') E s) : wpC M A (m >>= g) Q E s := wpC_bind h
  wpAny_standAt_C {pos : Pos} {s : Shared} {Q : Unit → Shared → Prop} (h : Q () s) : wpC M A (standAt pos) Q E s := .of (wpAny_standAt h)
theorem wpC_Call {func : Expr} {args : List Expr} {pos : Pos}
    (h : wpAny M A (eval func env) (fun f s₁ => wpC M A (callWith pos f [] (backTo pos (starEach args env)) []) Q E s₁) E s)
    (he : eval (.Call func args [] pos) env = (do callWith pos (← eval func env) [] (backTo pos (starEach args env)) (backToKw pos (keywordEach [] env))) := by rfl) :
    wpC M A (eval (.Call func args [] pos) env) Q E s := by
  rw [he]; exact wpC_bind (.of h)
theorem wpC_callWith_of {P : Heap → Prop} {args : List (Bool × Sem Value)} {keywords : List (Option Str × Sem Value)} (hplain : (args.any (·.1) || keywords.any (·.1.isNone)) = false)
    (hk : ∀ h, P h → ∃ k, (k = Keeper.frame ∨ k = Keeper.machine ∨ k = Keeper.boundFrame) ∧ Looks M h (keeperOf f) k)
    (h : wpAny M A (evalArgs f true args keywords) (fun a s₁ => P s₁.heap ∧ wpC M A (call f (first ++ a.pos) a.kw) Q E s₁) E s) : wpC M A (callWith pos f first args keywords) Q E s := by
  unfold callWith
  refine wpC_bind (wpC_holding (.of (wpAny_mono h (fun a s₁ h₁ => ?_) fun _ _ x => x)))
  refine wpC_standAt ?_
  obtain ⟨k, hk', L⟩ := hk _ h₁.1
  simp only [hplain]
  refine wpC_bind (.of (L.here ?_))
  have tail : ∀ {t : Sem Value}, wpC M A t Q E s₁ → wpC M A (t >>= fun r => holding [r] point >>= fun _ => pure r) Q E s₁ :=
    fun ht => wpC_bind (wpC_mono ht (fun r s₂ hr => wpC_bind (wpC_holding (.of (wpAny_point (wpC_pure hr))))) fun _ _ x => x)
  have marked (mk : Value) : wpC M A (callMarked mk f (first ++ a.pos) a.kw) Q E s₁ := by unfold callMarked; exact wpC_keep h₁.2
  rcases hk' with rfl | rfl | rfl <;> dsimp only <;> first | exact tail h₁.2 | (split <;> first | exact tail h₁.2 | exact tail (marked _))
theorem wpC_callWith_K {h₀ : Heap} {e : Expr} {rest : List Expr} (_X : K.In h₀) (hk : keepIn K f = true) (h : wpAny M A (spliced (backTo pos (starEach (e :: rest) env))) (fun vs s₁ => K.In s₁.heap ∧ wpC M A (call f (first ++ vs)) Q E s₁) E s)
    (he : starEach (e :: rest) env = (false, eval e env) :: starEach rest env := by rfl) (hplain : (backTo pos (starEach rest env)).any (·.1) = false := by rfl) :
    wpC M A (callWith pos f first (backTo pos (starEach (e :: rest) env)) []) Q E s := by
  rw [he] at h ⊢
  exact wpC_callWith_of (by show ((false || (backTo pos (starEach rest env)).any (·.1)) || false) = false; rw [hplain]; rfl) (keeps_K hk) (evalArgs_plain h)
theorem wpC_callWith_K0 (X : K.In s.heap) (hk : keepIn K f = true) (h : wpC M A (call f (first ++ [])) Q E s) : wpC M A (callWith pos f first (backTo pos (starEach [] env)) []) Q E s :=
  wpC_callWith_of (P := K.In) rfl (keeps_K hk) (evalArgs_nil3 (Q := fun a s₁ => K.In s₁.heap ∧ wpC M A (call f (first ++ a.pos) a.kw) Q E s₁) ⟨X, h⟩)
theorem keeps_b {id : String} (h : Heap) (_ : True) : ∃ k, (k = Keeper.frame ∨ k = Keeper.machine ∨ k = Keeper.boundFrame) ∧ Looks M h (keeperOf (.builtin id)) k := ⟨.machine, .inr (.inl rfl), Looks.of_pure rfl⟩
theorem wpC_callWith_b {id : String} {e : Expr} {rest : List Expr} (h : wpAny M A (spliced (backTo pos (starEach (e :: rest) env))) (fun vs s₁ => wpC M A (call (.builtin id) (first ++ vs)) Q E s₁) E s)
    (he : starEach (e :: rest) env = (false, eval e env) :: starEach rest env := by rfl) (hplain : (backTo pos (starEach rest env)).any (·.1) = false := by rfl) :
    wpC M A (callWith pos (.builtin id) first (backTo pos (starEach (e :: rest) env)) []) Q E s := by
  rw [he] at h ⊢
  exact wpC_callWith_of (P := fun _ => True) (by show ((false || (backTo pos (starEach rest env)).any (·.1)) || false) = false; rw [hplain]; rfl) keeps_b (evalArgs_plain (wpAny_mono h (fun _ _ x => ⟨trivial, x⟩) fun _ _ x => x))
end
end Mine
end
section
open PySem PySem.W PyProof.Rows PySem.Spec PySem.Calls
namespace Mine
theorem wpC_tk {M : Model} {A : Around} {α : Type} {tr : Sem α} {Q : α → Shared → Prop} {E : Value → Shared → Prop} {h : Heap} {g : _} {d : _} {t : Nat} {o : _} (x : ∀ tk, wpC M A tr Q E (Shared.mk h g d tk o)) : wpC M A tr Q E (Shared.mk h g d t o) := x t
section
variable {prog : Program} {w : World} {A : Around} {E : Value → Shared → Prop} {Q : Flow → Shared → Prop} {s : Shared} {env : Env} {h₀ : Heap} {L : Addr} {test : PySem.Expr} {body : List Stmt} {pos : Pos} {m : Str → Option Value} {news : List (Addr × Obj)}
theorem While_CP (J : Nat → (Str → Option Value) → List (Addr × Obj) → Prop) {n₀ : Nat} (F : Fr h₀ L s.heap m) (N : News h₀ L s.heap news) (hJ : J n₀ m news)
    (turn : ∀ n m₁ news₁ h₁ tk₁ (P : Flow → Shared → Prop), Fr h₀ L h₁ m₁ → News h₀ L h₁ news₁ → J n m₁ news₁ →
      (∀ h' tk m₂ news₂ n', Fr h₀ L h' m₂ → News h₀ L h' news₂ → n' < n → J n' m₂ news₂ → P .next { s with heap := h', toks := tk }) →
      (∀ h' tk m₂ news₂ n', Fr h₀ L h' m₂ → News h₀ L h' news₂ → n' < n → J n' m₂ news₂ → P .cont { s with heap := h', toks := tk }) → (∀ v s', Q (.ret v) s' → P (.ret v) s') →
      wpAny (model prog w) A (isTrue test env (eval test env)) (fun b s₂ => if b = true then wpC (model prog w) A (execs body env) P E s₂ else Q .next s₂) E { s with heap := h₁, toks := tk₁ })
    (hE : PassesOwn (model prog w) A env E := by passes_own) : wpC (model prog w) A (exec (.While test body [] pos) env) Q E s :=
  While_C J F N hJ (fun n m₁ news₁ h₁ tk₁ F₁ N₁ j => turn n m₁ news₁ h₁ tk₁ _ F₁ N₁ j (fun h' tk m₂ news₂ n' F N hn hJ => ⟨h', tk, m₂, news₂, n', rfl, F, N, hn, hJ⟩) (fun h' tk m₂ news₂ n' F N hn hJ => ⟨h', tk, m₂, news₂, n', rfl, F, N, hn, hJ⟩) fun _ _ h => h) hE
end
end Mine
end
section
open PySem PySem.W PyProof.Rows PySem.Spec PySem.Calls
namespace Mine
set_option maxRecDepth 100000
set_option maxHeartbeats 8000000
theorem fillK_R1 : Dummy PySem.Challenge.rw_pq1181_01 Tops.hd.heap_39 := by w_top off; k_with_none; k_fill; trivial
section
variable {w : World} {p : Program} {loose : List Str} {mean : ExcName → Option Value} {mg mb : Str → Option Value}
  {dp un : Nat} {gd : Option (List Code)} {cn : Str} {cs : Scope} {a : Addr} {ccd : Value} {cl : List (Str × Addr)} {outer : List Env} {A₀ : Around} {base h₀ : Heap} {L : Addr} {m : Str → Option Value} {news : List (Addr × Obj)} {s : Shared} {Q E : Value → Shared → Prop}

abbrev rdO (P : Params) (b : Array UInt8) (tb : Tok) (kd : Addr) (i : Int) (ti k1 k2 k3 : Tok) : Obj :=
  dictOf [⟨PyData.keyHash P (Str.ofString "octets"), .str (Str.ofString "octets") k1, .bytes b tb⟩, ⟨PyData.keyHash P (Str.ofString "environment"), .str (Str.ofString "environment") k2, .ref kd⟩, ⟨PyData.keyHash P (Str.ofString "at"), .str (Str.ofString "at") k3, .int i ti⟩] 3
abbrev toO (P : Params) (i : Int) (ti k : Tok) : Obj := dictOf [⟨PyData.keyHash P "told", .str "told" k, .int i ti⟩] 1
theorem words_R1_1 : True := by
  k_with "go" =>
    repeat' (first | (k_unfold; (try dsimp only)) | (k_end; fail) | walk1 | (dsimp only; walk1) | fail "no step")
  k_with "execs cons" =>
    refine wpAny_execs_cons ?_
  k_with "execs nil" =>
    refine wpAny_execs_nil ?_
  k_with "my intro" =>
    (intro hc; try (exfalso; omega))
  k_with "ite" =>
    first
      | with_reducible refine ite_T ?_ | with_reducible refine ite_F ?_ | with_reducible refine ite_nT ?_ | with_reducible refine ite_nF ?_
      | (with_reducible refine ite_D ?_ ?_ <;> walk_at "my intro") | (with_reducible refine ite_nD ?_ ?_ <;> walk_at "my intro") | (with_reducible refine ite_B ?_ ?_ <;> walk_at "my intro") | (with_reducible refine ite_nB ?_ ?_ <;> walk_at "my intro")
  trivial
theorem wpAny_Raise_bad {prog : Program} {A : Around} {env : Env} {Q : Flow → Shared → Prop} {ex : Expr} {pos : Pos} (hh : A.handled = none)
    (h : wpAny (model prog w) A (eval ex env) (fun v s₁ => ∃ e d t g, v = .ref e ∧ (Tops.hd.heap_39 w.params).In g ∧ (∀ b o, g.get? b = some o → s₁.heap.get? b = some o) ∧ s₁.heap.get? e = some (excO 45 d t) ∧ E (.ref e) s₁) E s) :
    wpAny (model prog w) A (exec (.Raise (some ex) none pos) env) Q E s := by
  refine' wpAny_Raise_made (C := 45) (bm := tl2 32) (by decide +kernel) hh (wpAny_mono h ?h1 fun _ _ x => x)
  case h1 => intro v s₁ h₁; obtain ⟨e, d, t, g, rfl, X, k, he, hE⟩ := h₁; exact ⟨e, d, t, rfl, X.keeps k _ _ (by k_is), he, hE⟩
theorem leave_bad {M : Model} {A : Around} {g : Heap} {s' : Shared} {name : Str} {scope : Scope} {cd : Value} {e t D : Addr} {i : Int} {ti k : Tok} {P : Params} {all rest : List (Addr × Obj)} {Q : Unit → Shared → Prop} (K : Below A base outer g) (F : Fr g L s'.heap m)
    (N : News g L s'.heap ((D, toO P i ti k) :: (e, excO 45 (some D) t) :: (t, tupO [.int i ti]) :: all)) (het : e ≠ t) (hne : ∀ p ∈ all, p.1 ≠ e ∧ p.1 ≠ t ∧ p.1 ≠ D) (sub : ∀ p ∈ rest, p ∈ all)
    (hQ : ∀ h', RaisedX base g outer e 45 t [.int i ti] D ((D, toO P i ti k) :: rest) h' → g.UpToSlots h' → Q () { s' with heap := h' }) (hk : scope.kind = .function := by rfl) :
    wpAny M (A.deeper (envOf name scope L a cd)) (leaving (envOf name scope L a cd) (.ref e)) Q E s' := by
  refine leave_raiseX K F (fun q hq => N q ?_) het (fun q hq => ?_) hQ hk
  · rcases List.mem_cons.mp hq with rfl | hq
    · exact .tail _ (.head _)
    · rcases List.mem_cons.mp hq with rfl | hq
      · exact .tail _ (.tail _ (.head _))
      · rcases List.mem_cons.mp hq with rfl | hq
        · exact .head _
        · exact .tail _ (.tail _ (.tail _ (sub _ hq)))
  · rcases List.mem_cons.mp hq with rfl | hq
    · have hD := (N _ (.head _)).1
      have he := (N _ (.tail _ (.head _))).1
      have ht := (N _ (.tail _ (.tail _ (.head _)))).1
      dsimp only at hD he ht
      refine ⟨fun z => ?_, fun z => ?_⟩
      · rw [show D = e from z, he] at hD; cases hD
      · rw [show D = t from z, ht] at hD; exact absurd (congrArg Obj.cls (Option.some.inj hD)) (by simp)
    · exact ⟨(hne _ (sub _ hq)).1, (hne _ (sub _ hq)).2.1⟩

end
end Mine
end
section
open PySem PySem.W PyProof.Rows PySem.Spec PySem.Calls
namespace Mine
set_option maxRecDepth 100000
set_option maxHeartbeats 8000000
theorem fillK_R2 : Dummy PySem.Challenge.rw_pq1181_01 Tops.hd.heap_39 := by w_top off; k_with_none; k_fill; trivial
section
variable {w : World} {p : Program} {loose : List Str} {mean : ExcName → Option Value} {mg mb : Str → Option Value}
  {dp un : Nat} {gd : Option (List Code)} {cn : Str} {cs : Scope} {a : Addr} {ccd : Value} {cl : List (Str × Addr)} {outer : List Env} {A₀ : Around} {base h₀ : Heap} {L : Addr} {m : Str → Option Value} {news : List (Addr × Obj)} {s : Shared} {Q E : Value → Shared → Prop}

theorem words_R2_1 : True := by
  k_with "go" =>
    repeat' (first | (k_unfold; (try dsimp only)) | (k_end; fail) | walk1 | (dsimp only; walk1) | fail "no step")
  k_with "execs cons" =>
    refine wpAny_execs_cons ?_
  k_with "execs nil" =>
    refine wpAny_execs_nil ?_
  k_with "my intro" =>
    (intro hc; try (exfalso; omega))
  k_with "ite" =>
    first
      | with_reducible refine ite_T ?_ | with_reducible refine ite_F ?_ | with_reducible refine ite_nT ?_ | with_reducible refine ite_nF ?_
      | (with_reducible refine ite_D ?_ ?_ <;> walk_at "my intro") | (with_reducible refine ite_nD ?_ ?_ <;> walk_at "my intro") | (with_reducible refine ite_B ?_ ?_ <;> walk_at "my intro") | (with_reducible refine ite_nB ?_ ?_ <;> walk_at "my intro")
  trivial
theorem oct_cut {b : Array UInt8} {ks : List Int} {i j : Int} (hb : KBw.bInts b = ks) (h0 : 0 ≤ i) (hj : j = i + 3) : octA (KBw.bInts (KBy.picked b (some i) (some j))) 0 = octA ks i ∧ (KBw.bInts (KBy.picked b (some i) (some j))).length ≤ 3 := by
  rw [ints_cut hb h0 (by omega)]
  have h3 : j.toNat - i.toNat = 3 := by omega
  rw [h3]
  refine ⟨?_, by rw [List.length_take]; omega⟩
  have e0 := itm_drop (ks := ks) h0 0
  have e1 := itm_drop (ks := ks) h0 1
  have e2 := itm_drop (ks := ks) h0 2
  rw [show i + ((0 : Nat) : Int) = i from by omega] at e0
  rw [show i + ((1 : Nat) : Int) = i + 1 from by omega] at e1
  rw [show i + ((2 : Nat) : Int) = i + 2 from by omega] at e2
  have hl : (ks.drop i.toNat).length = ks.length - i.toNat := by rw [List.length_drop]
  unfold octA
  rw [e0, e1, e2]
  generalize ks.drop i.toNat = r at *
  rcases r with _ | ⟨x, _ | ⟨y, _ | ⟨z, r⟩⟩⟩
  · rw [if_neg (by simp), if_neg (by simp at hl; omega)]
  · rw [if_neg (by simp), if_neg (by simp at hl; omega)]
  · rw [if_neg (by simp), if_neg (by simp at hl; omega)]
  · rw [if_pos (by simp), if_pos (by simp at hl; omega)]
    rfl
theorem oct_in {ks : List Int} {i v : Int} (h : octA ks i = some v) : 0 ≤ v ∧ v < 256 := by
  unfold octA octS at h
  split at h
  · split at h
    · cases h; omega
    · cases h
  · cases h
theorem c_oct {b : Array UInt8} {ks : List Int} {t : Tok} {i j : Int} (hb : KBw.bInts b = ks) (h0 : 0 ≤ i) (hj : j = i + 3) (B : Below A₀ base outer h₀) (F : Fr h₀ L s.heap m) (X : (Tops.hd.heap_39 w.params).In h₀) (N : News h₀ L s.heap news) (T : Top p loose mean mg mb h₀) (hk : cs.kind = .function)
  (hd : dp + 1 < recursionLimit) (hu : un + 8 < cLine)
  (ret0 : octA ks i = none → ∀ h' tk', Fr h₀ L h' m → News h₀ L h' news → Q .none { s with heap := h', toks := tk' })
  (ret1 : ∀ v, octA ks i = some v → 0 ≤ v ∧ v < 256 → ∀ t h' tk', Fr h₀ L h' m → News h₀ L h' news → Q (.int v t) { s with heap := h', toks := tk' }) :
  wpAny (model PySem.Challenge.rw_pq1181_01.row.prog w) (ktrTop dp un gd cn cs L a ccd cl outer) (call (.ref 68) [.bytes (KBy.picked b (some i) (some j)) t]) Q E s := by
  obtain ⟨e, hl⟩ := oct_cut hb h0 hj
  refine c_octal rfl hl B F X N T hk hd hu fun v h' tk' hv F' N' => ?_
  rw [e] at hv
  cases ho : octA ks i with
  | none => rw [ho] at hv; subst hv; exact ret0 ho _ _ F' N'
  | some x => rw [ho] at hv; obtain ⟨t, rfl⟩ := hv; exact ret1 x ho (oct_in ho) t _ _ F' N'

end
end Mine
end
section
open PySem PySem.W PyProof.Rows PySem.Spec PySem.Calls
namespace Mine
set_option maxRecDepth 100000
set_option maxHeartbeats 8000000
theorem fillK_C9 : Dummy PySem.Challenge.rw_pq1181_01 Tops.hd.heap_39 := by w_top off; k_with_none; k_fill; trivial
section
variable {w : World} {p : Program} {loose : List Str} {mean : ExcName → Option Value} {mg mb : Str → Option Value}
  {dp un : Nat} {gd : Option (List Code)} {cn : Str} {cs : Scope} {a : Addr} {ccd : Value} {cl : List (Str × Addr)} {outer : List Env} {A₀ : Around} {base h₀ : Heap} {L : Addr} {m : Str → Option Value} {news : List (Addr × Obj)} {s : Shared} {Q E : Value → Shared → Prop}

local macro_rules | `(tactic| k_all) => `(tactic| assumption)
theorem words_C9_1 : True := by
  k_with "go" =>
    repeat' (first | (k_unfold; (try dsimp only)) | (k_end; fail) | walk1 | (dsimp only; walk1) | fail "no step")
  k_with "execs cons" =>
    refine wpAny_execs_cons ?_
  k_with "execs nil" =>
    refine wpAny_execs_nil ?_
  k_with "my intro" =>
    (intro hc; try (exfalso; omega))
  k_with "ite" =>
    first
      | with_reducible refine ite_T ?_ | with_reducible refine ite_F ?_ | with_reducible refine ite_nT ?_ | with_reducible refine ite_nF ?_
      | (with_reducible refine ite_D ?_ ?_ <;> walk_at "my intro") | (with_reducible refine ite_nD ?_ ?_ <;> walk_at "my intro") | (with_reducible refine ite_B ?_ ?_ <;> walk_at "my intro") | (with_reducible refine ite_nB ?_ ?_ <;> walk_at "my intro")
  k_with "my len" =>
    first | omega | (simp only [List.length_cons, List.length_nil]; omega)
  k_with "bc" =>
    first | exact bc_ | exact bc_10 | exact bc_34 | exact bc_36 | exact bc_39 | exact bc_92 | exact bc_123 | exact bc_125 | exact bc_126
  k_with "ba" =>
    first | assumption | walk_at "bc"
  k_with "compareOp Eq bytes bytes" =>
    first | with_reducible refine eq_one (by assumption) (by omega) (by first | rfl | omega) (by walk_at "bc") ?_ | with_reducible refine eq_K1 (by walk_at "ba") (by walk_at "bc") ?_ | with_reducible refine eq_Kt (by walk_at "ba") (by walk_at "bc") rfl ?_ | refine eq_Kf (by walk_at "ba") (by walk_at "bc") (by simp; done) ?_
  k_with "compareOp NotEq bytes bytes" =>
    first | with_reducible refine ne_one (by assumption) (by omega) (by first | rfl | omega) (by walk_at "bc") ?_ | refine ne_K (by first | assumption | walk_at "bc") (by first | assumption | walk_at "bc") ?_
  k_with "my intro" =>
    (intro hc; try (first | (exfalso; omega) | (exfalso; simp at hc; done) | (exfalso; rw [beq_iff_eq] at hc; omega) | (exfalso; rw [beq_eq_false_iff_ne] at hc; omega)))
  k_with "subscriptTail" =>
    (k_here; (with_reducible show wpAny _ _ (subscriptTail _ (Expr.Slice _ _ none _) (Value.bytes _ _) (Value.ref _)) _ _ _); (with_reducible rename Fr _ _ _ _ => F'); (with_reducible rename News _ _ _ _ => N'); (refine KBc.slice_K (s := ⟨_, _, _, _, _⟩) F' N' (by first | assumption | kba_ints) (by constructor) (by constructor) (by first | walk_at "my len" | kba_size) ?_); intro _ _ _ _ _ kbcK; clear kbcK)
  k_with "subscriptTail" =>
    (k_here; (with_reducible show wpAny _ _ (subscriptTail _ _ (Value.bytes _ _) (Value.int _ _)) _ _ _); (refine KBw.item_K (by assumption) (by walk_at "my len") (by walk_at "my len") (by walk_at "my len") ?_); intro _ _ kbaLo kbaHi)
  k_with "eval Call" =>
    k_dflt (refine Call_ ?_)
  k_with "my mem" =>
    first | assumption | (refine List.Mem.tail _ ?_; walk_at "my mem")
  k_with "call ref" =>
    ((with_reducible show wpAny _ _ (call (Value.ref 163) _) _ _ _); k_dflt (refine' c_lescape ?hb ?hz ?h0 ?h1 ?B ?F ?X ?N ?T ?hk ?hd ?hu ?_; (case hb => assumption); (case hz => omega); (case h0 => omega); (case h1 => omega); (case B => k_asm); (case F => k_asm); (case X => k_asm); (case N => k_asm); (case T => k_asm); (case hk => exact rfl); (case hd => ktr_room); (case hu => ktr_units)); (refine resT_elim ?_ ?_ <;> intros))
  k_with "call ref" =>
    ((with_reducible show wpAny _ _ (call (Value.ref 170) _) _ _ _); k_dflt (refine' c_lvar ?hb ?hz ?h0 ?h1 ?km ?kd ?kl ?ke ?B ?F ?X ?N ?T ?hk ?hd ?hu ?_; (case hb => assumption); (case hz => omega); (case h0 => omega); (case h1 => omega); (case km => walk_at "my mem"); (case kd => assumption); (case kl => assumption); (case ke => assumption); (case B => k_asm); (case F => k_asm); (case X => k_asm); (case N => k_asm); (case T => k_asm); (case hk => exact rfl); (case hd => ktr_room); (case hu => ktr_units)); (refine resT_elim ?_ ?_ <;> intros))
  k_with "cstep" =>
    first
      | with_reducible refine wpC_execs_cons ?_
      | with_reducible refine wpC_execs_nil ?_
      | ((with_reducible show wpC _ _ (exec (Stmt.If _ _ _ _) _) _ _ _); refine wpC_If ?_)
      | ((with_reducible show wpC _ _ (exec (Stmt.Expr _ _) _) _ _ _); refine wpC_Expr ?_)
      | ((with_reducible show wpC _ _ (exec (Stmt.Assign _ _ _) _) _ _ _); refine wpC_leaf ?_)
      | ((with_reducible show wpC _ _ (exec (Stmt.Raise _ _ _) _) _ _ _); refine wpC_leaf ?_)
      | ((with_reducible show wpC _ _ (exec (Stmt.While _ _ _ _) _) _ _ _); refine wpC_leaf ?_)
      | ((with_reducible show wpC _ _ (exec (Stmt.Continue _) _) _ _ _); refine wpC_leaf ?_)
      | ((with_reducible show wpC _ _ (exec (Stmt.Return _ _) _) _ _ _); refine wpC_leaf ?_)
      | ((with_reducible show wpC _ _ (eval (Expr.Call (Expr.Attribute _ _ _) _ [] _) _) _ _ _); refine wpC_MethodCall ?_)
      | ((with_reducible show wpC _ _ (callWith _ (Value.builtin _) _ _ _) _ _ _); refine wpC_callWith_b ?_)
      | ((with_reducible show wpC _ _ (callWith _ (Value.ref _) _ _ _) _ _ _); first | (refine' wpC_callWith_K ?k1 ?k2 ?_; (case k1 => k_asm); (case k2 => k_is); k_whole) | (refine' wpC_callWith_K0 ?k1 ?k2 ?_; (case k1 => k_in); (case k2 => k_is); k_whole; dsimp only [List.nil_append, List.cons_append]))
      | ((with_reducible show wpC _ _ (call (Value.builtin _) _ _) _ _ _); walk_at "ccallb")
      | ((with_reducible show wpC _ _ (call (Value.ref _) _ _) _ _ _); walk_at "ccall")
      | ((with_reducible show And (Frag.In _ _) _); refine ⟨by k_in, ?_⟩)
  k_with "ccallb" =>
    first
      | (k_dflt (refine' append_C ?F ?N ?h0 ?h1 ?hz ?U ?_; (case F => k_asm); (case N => k_asm); (case h0 => walk_at "byte lo"); (case h1 => walk_at "byte hi"); (case U => k_upd); (case hz => omega)); intro h' F' N'; (try k_sweep))
      | (k_dflt (refine' extend_C ?F ?N ?hz ?U ?_; (case F => k_asm); (case N => k_asm); (case U => k_upd); (case hz => walk_at "ext size")); intro h' F' N'; (try k_sweep))
  k_with "byte lo" =>
    first | omega | exact (escS_in ⟨by omega, by omega⟩).1
  k_with "byte hi" =>
    first | omega | exact (escS_in ⟨by omega, by omega⟩).2
  k_with "ext size" =>
    omega
  k_with "wpC" =>
    k_dflt (walk_at "cstep")
  k_with "cgo" =>
    repeat' (first | (k_unfold; (try dsimp only)) | (k_end; fail) | walk1 | (dsimp only; walk1) | fail "no step")
  k_with "c enter" =>
    (k_dflt (refine' defC ?k1 ?k2 ?k3 ?k4 ?k5 ?kA ?kF ?kK ?k6 ?k7 ?k8 ?k9 ?kB ?_ ?c2 ?c3 ?c4 ?c5; (case kA => exact rfl); (case kF => exact rfl); (case kK => assumption); (case k1 => k_asm); (case k2 => k_asm); (case k3 => k_asm); (case k4 => k_asm); (case k5 => k_asm); (case k6 => k_is); (case k7 => k_is); (case k8 => ktr_room); (case k9 => exact BindsTo.of_eq rfl); (case c5 => decide); (case kB => exact locs rfl); (case c2 => exact rfl); (case c3 => exact rfl); (case c4 => exact rfl); k_whole; intro g' L' h' FG' F' N' B' X' T'; (try dsimp only); (try k_lift B'); (try k_fold)))
  k_with "exec Raise some none" =>
    refine wpAny_Raise_bad rfl ?_
  k_with "call ref" =>
    ((with_reducible show wpAny _ _ (call (Value.ref 45) _) _ _ _); k_dflt (refine' c_badcmd ?B ?F ?X ?N ?T ?hk ?hd ?hu ?_; (case B => k_asm); (case F => k_asm); (case X => k_asm); (case N => k_asm); (case T => k_asm); (case hk => exact rfl); (case hd => ktr_room); (case hu => ktr_units)); intro e' t' D' h' tk' tkk' F' N' het' hne'; refine ⟨e', some D', t', _, rfl, by assumption, F'.keep, (N' _ (.tail _ (.head _))).1, ?_⟩; refine stop_in ?_)
  k_with "sub" =>
    (intro q hq; simp [hq])
  k_with "call ref" =>
    ((with_reducible show wpAny _ _ (call (Value.ref 68) _) _ _ _); k_dflt (refine' c_oct ?hb ?h0 ?hj ?B ?F ?X ?N ?T ?hk ?hd ?hu ?_ ?_; (case hb => assumption); (case h0 => omega); (case hj => omega); (case B => k_asm); (case F => k_asm); (case X => k_asm); (case N => k_asm); (case T => k_asm); (case hk => exact rfl); (case hd => ktr_room); (case hu => ktr_units)); intros)
  k_with "call ref" =>
    ((with_reducible show wpAny _ _ (call (Value.ref 61) _) _ _ _); k_dflt (refine' c_escaped ?B ?F ?X ?N ?T ?hk ?hd ?hu ?_; (case B => k_asm); (case F => k_asm); (case X => k_asm); (case N => k_asm); (case T => k_asm); (case hk => exact rfl); (case hd => ktr_room); (case hu => ktr_units)); intro v' t' h' tk' ev' F' N'; subst ev')
  k_with "getMethod ref" =>
    (k_here; (with_reducible show wpAny _ _ (getMethod (Value.ref _) (Str.ofString "append") _) _ _ _); k_dflt (refine method_ba (by assumption) (by k_mem) f_append_slot f_append_type ?_))
  k_with "getMethod ref" =>
    (k_here; (with_reducible show wpAny _ _ (getMethod (Value.ref _) (Str.ofString "extend") _) _ _ _); k_dflt (refine method_ba (by assumption) (by k_mem) f_extend_slot f_extend_type ?_))
  k_with "setAttr ref" =>
    (k_here; k_dflt (refine' set_dict ?k1 ?k2 ?k3 ?k4 ?k5 ?k6 ?k7 ?k8 ?k9 ?k10 ?k11 ?k12 ?k13 ?_; (case k1 => k_asm); (case k2 => k_asm); (case k3 => k_asm); (case k4 => k_inst); (case k5 => exact rfl); (case k6 => k_is); (case k7 => k_is); (case k8 => k_is); (case k9 => k_is); (case k10 => k_get); (case k11 => k_put); (case k12 => k_upd); (case k13 => exact Nat.le_of_ble_eq_true rfl); k_whole); intro h' F' N'; (try k_sweep))
  k_with "cstep2" =>
    first
      | ((with_reducible show wpC _ _ (eval (Expr.Tuple _ _ _) _) _ _ _); refine wpC_Tuple ?_)
      | ((with_reducible show wpC _ _ (spliced (backTo _ (starEach (_ :: _) _))) _ _ _); refine wpC_spl_cons ?_)
      | ((with_reducible show wpC _ _ (spliced (backTo _ (starEach [] _))) _ _ _); refine wpC_spl_nil ?_)
      | ((with_reducible show wpC _ _ (eval (Expr.Name _ _) _) _ _ _); refine wpC_leaf ?_)
      | ((with_reducible show wpC _ _ (eval (Expr.Attribute _ _ _) _) _ _ _); refine wpC_leaf ?_)
      | ((with_reducible show wpC _ _ (eval (Expr.Constant _ _ _) _) _ _ _); refine wpC_leaf ?_)
      | ((with_reducible show wpC _ _ (eval (Expr.Call (Expr.Name _ _) _ [] _) _) _ _ _); refine wpC_Call ?_)
      | ((with_reducible show wpC _ _ (callWith _ (Value.type _) _ _ _) _ _ _); refine wpC_callWith_t0 ?_)
  trivial
theorem esc_some {ks : List Int} {i v : Int} (h1 : i + 1 < ks.length) (h : octA ks (i + 1) = some v) : escT ks i = some (byt v, i + 4) := by unfold escT; rw [if_pos h1, h]
theorem c_tesc {b acc : Array UInt8} {ks : List Int} {tb ti k1 k2 k3 : Tok} {i : Int} {kd R RD fb : Addr} {rest : List (Addr × Obj)} (hb : KBw.bInts b = ks) (hz : ks.length ≤ 1000) (h0 : 0 ≤ i) (h1 : i < ks.length) (ha : acc.size ≤ 100000)
  (B : Below A₀ base outer h₀) (F : Fr h₀ L s.heap m) (X : (Tops.hd.heap_39 w.params).In h₀) (N : News h₀ L s.heap ((fb, baObj acc) :: (RD, rdO w.params b tb kd i ti k1 k2 k3) :: (R, instObj 120 RD) :: rest)) (T : Top p loose mean mg mb h₀) (hk : cs.kind = .function)
  (n1 : @Ne Nat fb RD) (n2 : @Ne Nat fb R) (n3 : @Ne Nat R RD) (n4 : ∀ p ∈ rest, p.1 ≠ fb) (n5 : ∀ p ∈ rest, p.1 ≠ RD)
  (hd : dp + 4 < recursionLimit) (hu : un + 24 < cLine)
  (ret : ∀ x j tj h' tk', escT ks i = some (x, j) → Fr h₀ L h' m → News h₀ L h' ((fb, baObj (acc ++ x)) :: (RD, rdO w.params b tb kd j tj k1 k2 k3) :: (R, instObj 120 RD) :: rest) → Q .none { s with heap := h', toks := tk' })
  (err : escT ks i = none → ∀ e t D ti' k g h' tk', Fr h₀ L g m → RaisedX base g (envOf cn cs L a ccd :: outer) e 45 t [.int i ti'] D ((D, toO w.params i ti' k) :: rest) h' → g.UpToSlots h' → E (.ref e) { s with heap := h', toks := tk' }) :
  wpC (model PySem.Challenge.rw_pq1181_01.row.prog w) (ktrTop dp un gd cn cs L a ccd [] outer) (call (.ref 110) [.ref R, .ref fb]) Q E s := by
  refine wpC_call ?_
  walk_at "c enter"
  walk_at "cgo"
  · unfold Stop
    refine leave_bad (rest := rest) (by assumption) (by assumption) (by assumption) (by assumption) (by assumption) (by walk_at "sub") ?_
    intro h' R' S'
    exact err (esc_0 (by omega)) _ _ _ _ _ _ _ _ (by assumption) R' S'
  all_goals first
    | (have h8 : octA ks (i + 1) = none := (by assumption); have h7 : escT ks i = if itm ks (i + 1) = 10 then some (#[], i + 2) else some (byt (escS (itm ks (i + 1))), i + 2) := by unfold escT; rw [if_pos (by omega), h8])
    | (have h8 : octA ks (i + 1) = some _ := (by assumption); have h7 := esc_some (i := i) (by omega) h8)
  all_goals first
    | (rw [if_pos (by have h6 : (ks.getD (i + 1).toNat 0 != 10) = false := (by assumption); simpa using h6)] at h7)
    | (rw [if_neg (by have h6 : (ks.getD (i + 1).toNat 0 != 10) = true := (by assumption); simpa using h6)] at h7)
    | skip
  all_goals first
    | exact ret _ _ _ _ _ h7 (by assumption) (news_tl (by assumption))
    | exact ret _ _ _ _ _ h7 (by assumption) (by rw [Array.append_empty]; exact news_tl (by assumption))

end
end Mine
end
section
open PySem PySem.W PyProof.Rows PySem.Spec PySem.Calls
namespace Mine
set_option maxRecDepth 100000
set_option maxHeartbeats 8000000
theorem fillK_C10 : Dummy PySem.Challenge.rw_pq1181_01 Tops.hd.heap_39 := by w_top off; k_with_none; k_fill; trivial
section
variable {w : World} {p : Program} {loose : List Str} {mean : ExcName → Option Value} {mg mb : Str → Option Value}
  {dp un : Nat} {gd : Option (List Code)} {cn : Str} {cs : Scope} {a : Addr} {ccd : Value} {cl : List (Str × Addr)} {outer : List Env} {A₀ : Around} {base h₀ : Heap} {L : Addr} {m : Str → Option Value} {news : List (Addr × Obj)} {s : Shared} {Q E : Value → Shared → Prop}

local macro_rules | `(tactic| k_all) => `(tactic| assumption)
theorem words_C10_1 : True := by
  k_with "go" =>
    repeat' (first | (k_unfold; (try dsimp only)) | (k_end; fail) | walk1 | (dsimp only; walk1) | fail "no step")
  k_with "execs cons" =>
    refine wpAny_execs_cons ?_
  k_with "execs nil" =>
    refine wpAny_execs_nil ?_
  k_with "my intro" =>
    (intro hc; try (exfalso; omega))
  k_with "ite" =>
    first
      | with_reducible refine ite_T ?_ | with_reducible refine ite_F ?_ | with_reducible refine ite_nT ?_ | with_reducible refine ite_nF ?_
      | (with_reducible refine ite_D ?_ ?_ <;> walk_at "my intro") | (with_reducible refine ite_nD ?_ ?_ <;> walk_at "my intro") | (with_reducible refine ite_B ?_ ?_ <;> walk_at "my intro") | (with_reducible refine ite_nB ?_ ?_ <;> walk_at "my intro")
  k_with "my len" =>
    first | omega | (simp only [List.length_cons, List.length_nil]; omega)
  k_with "bc" =>
    first | exact bc_ | exact bc_10 | exact bc_34 | exact bc_36 | exact bc_39 | exact bc_92 | exact bc_123 | exact bc_125 | exact bc_126
  k_with "ba" =>
    first | assumption | walk_at "bc"
  k_with "compareOp Eq bytes bytes" =>
    first | with_reducible refine eq_one (by assumption) (by omega) (by first | rfl | omega) (by walk_at "bc") ?_ | with_reducible refine eq_K1 (by walk_at "ba") (by walk_at "bc") ?_ | with_reducible refine eq_Kt (by walk_at "ba") (by walk_at "bc") rfl ?_ | refine eq_Kf (by walk_at "ba") (by walk_at "bc") (by simp; done) ?_
  k_with "compareOp NotEq bytes bytes" =>
    first | with_reducible refine ne_one (by assumption) (by omega) (by first | rfl | omega) (by walk_at "bc") ?_ | refine ne_K (by first | assumption | walk_at "bc") (by first | assumption | walk_at "bc") ?_
  k_with "my intro" =>
    (intro hc; try (first | (exfalso; omega) | (exfalso; simp at hc; done) | (exfalso; rw [beq_iff_eq] at hc; omega) | (exfalso; rw [beq_eq_false_iff_ne] at hc; omega)))
  k_with "subscriptTail" =>
    (k_here; (with_reducible show wpAny _ _ (subscriptTail _ (Expr.Slice _ _ none _) (Value.bytes _ _) (Value.ref _)) _ _ _); (with_reducible rename Fr _ _ _ _ => F'); (with_reducible rename News _ _ _ _ => N'); (refine KBc.slice_K (s := ⟨_, _, _, _, _⟩) F' N' (by first | assumption | kba_ints) (by constructor) (by constructor) (by first | walk_at "my len" | kba_size) ?_); intro _ _ _ _ _ kbcK; clear kbcK)
  k_with "subscriptTail" =>
    (k_here; (with_reducible show wpAny _ _ (subscriptTail _ _ (Value.bytes _ _) (Value.int _ _)) _ _ _); (refine KBw.item_K (by assumption) (by walk_at "my len") (by walk_at "my len") (by walk_at "my len") ?_); intro _ _ kbaLo kbaHi)
  k_with "eval Call" =>
    k_dflt (refine Call_ ?_)
  k_with "my mem" =>
    first | assumption | (refine List.Mem.tail _ ?_; walk_at "my mem")
  k_with "call ref" =>
    ((with_reducible show wpAny _ _ (call (Value.ref 163) _) _ _ _); k_dflt (refine' c_lescape ?hb ?hz ?h0 ?h1 ?B ?F ?X ?N ?T ?hk ?hd ?hu ?_; (case hb => assumption); (case hz => omega); (case h0 => omega); (case h1 => omega); (case B => k_asm); (case F => k_asm); (case X => k_asm); (case N => k_asm); (case T => k_asm); (case hk => exact rfl); (case hd => ktr_room); (case hu => ktr_units)); (refine resT_elim ?_ ?_ <;> intros))
  k_with "call ref" =>
    ((with_reducible show wpAny _ _ (call (Value.ref 170) _) _ _ _); k_dflt (refine' c_lvar ?hb ?hz ?h0 ?h1 ?km ?kd ?kl ?ke ?B ?F ?X ?N ?T ?hk ?hd ?hu ?_; (case hb => assumption); (case hz => omega); (case h0 => omega); (case h1 => omega); (case km => walk_at "my mem"); (case kd => assumption); (case kl => assumption); (case ke => assumption); (case B => k_asm); (case F => k_asm); (case X => k_asm); (case N => k_asm); (case T => k_asm); (case hk => exact rfl); (case hd => ktr_room); (case hu => ktr_units)); (refine resT_elim ?_ ?_ <;> intros))
  k_with "cstep" =>
    first
      | with_reducible refine wpC_execs_cons ?_
      | with_reducible refine wpC_execs_nil ?_
      | ((with_reducible show wpC _ _ (exec (Stmt.If _ _ _ _) _) _ _ _); refine wpC_If ?_)
      | ((with_reducible show wpC _ _ (exec (Stmt.Expr _ _) _) _ _ _); refine wpC_Expr ?_)
      | ((with_reducible show wpC _ _ (exec (Stmt.Assign _ _ _) _) _ _ _); refine wpC_leaf ?_)
      | ((with_reducible show wpC _ _ (exec (Stmt.Raise _ _ _) _) _ _ _); refine wpC_leaf ?_)
      | ((with_reducible show wpC _ _ (exec (Stmt.While _ _ _ _) _) _ _ _); refine wpC_leaf ?_)
      | ((with_reducible show wpC _ _ (exec (Stmt.Continue _) _) _ _ _); refine wpC_leaf ?_)
      | ((with_reducible show wpC _ _ (exec (Stmt.Return _ _) _) _ _ _); refine wpC_leaf ?_)
      | ((with_reducible show wpC _ _ (eval (Expr.Call (Expr.Attribute _ _ _) _ [] _) _) _ _ _); refine wpC_MethodCall ?_)
      | ((with_reducible show wpC _ _ (callWith _ (Value.builtin _) _ _ _) _ _ _); refine wpC_callWith_b ?_)
      | ((with_reducible show wpC _ _ (callWith _ (Value.ref _) _ _ _) _ _ _); first | (refine' wpC_callWith_K ?k1 ?k2 ?_; (case k1 => k_asm); (case k2 => k_is); k_whole) | (refine' wpC_callWith_K0 ?k1 ?k2 ?_; (case k1 => k_in); (case k2 => k_is); k_whole; dsimp only [List.nil_append, List.cons_append]))
      | ((with_reducible show wpC _ _ (call (Value.builtin _) _ _) _ _ _); walk_at "ccallb")
      | ((with_reducible show wpC _ _ (call (Value.ref _) _ _) _ _ _); walk_at "ccall")
      | ((with_reducible show And (Frag.In _ _) _); refine ⟨by k_in, ?_⟩)
  k_with "ccallb" =>
    first
      | (k_dflt (refine' append_C ?F ?N ?h0 ?h1 ?hz ?U ?_; (case F => k_asm); (case N => k_asm); (case h0 => walk_at "byte lo"); (case h1 => walk_at "byte hi"); (case U => k_upd); (case hz => omega)); intro h' F' N'; (try k_sweep))
      | (k_dflt (refine' extend_C ?F ?N ?hz ?U ?_; (case F => k_asm); (case N => k_asm); (case U => k_upd); (case hz => walk_at "ext size")); intro h' F' N'; (try k_sweep))
  k_with "byte lo" =>
    first | omega | exact (escS_in ⟨by omega, by omega⟩).1
  k_with "byte hi" =>
    first | omega | exact (escS_in ⟨by omega, by omega⟩).2
  k_with "ext size" =>
    omega
  k_with "wpC" =>
    k_dflt (walk_at "cstep")
  k_with "cgo" =>
    repeat' (first | (k_unfold; (try dsimp only)) | (k_end; fail) | walk1 | (dsimp only; walk1) | fail "no step")
  k_with "c enter" =>
    (k_dflt (refine' defC ?k1 ?k2 ?k3 ?k4 ?k5 ?kA ?kF ?kK ?k6 ?k7 ?k8 ?k9 ?kB ?_ ?c2 ?c3 ?c4 ?c5; (case kA => exact rfl); (case kF => exact rfl); (case kK => assumption); (case k1 => k_asm); (case k2 => k_asm); (case k3 => k_asm); (case k4 => k_asm); (case k5 => k_asm); (case k6 => k_is); (case k7 => k_is); (case k8 => ktr_room); (case k9 => exact BindsTo.of_eq rfl); (case c5 => decide); (case kB => exact locs rfl); (case c2 => exact rfl); (case c3 => exact rfl); (case c4 => exact rfl); k_whole; intro g' L' h' FG' F' N' B' X' T'; (try dsimp only); (try k_lift B'); (try k_fold)))
  k_with "exec Raise some none" =>
    refine wpAny_Raise_bad rfl ?_
  k_with "call ref" =>
    ((with_reducible show wpAny _ _ (call (Value.ref 45) _) _ _ _); k_dflt (refine' c_badcmd ?B ?F ?X ?N ?T ?hk ?hd ?hu ?_; (case B => k_asm); (case F => k_asm); (case X => k_asm); (case N => k_asm); (case T => k_asm); (case hk => exact rfl); (case hd => ktr_room); (case hu => ktr_units)); intro e' t' D' h' tk' tkk' F' N' het' hne'; refine ⟨e', some D', t', _, rfl, by assumption, F'.keep, (N' _ (.tail _ (.head _))).1, ?_⟩; refine stop_in ?_)
  k_with "sub" =>
    (intro q hq; simp [hq])
  k_with "call ref" =>
    ((with_reducible show wpAny _ _ (call (Value.ref 68) _) _ _ _); k_dflt (refine' c_oct ?hb ?h0 ?hj ?B ?F ?X ?N ?T ?hk ?hd ?hu ?_ ?_; (case hb => assumption); (case h0 => omega); (case hj => omega); (case B => k_asm); (case F => k_asm); (case X => k_asm); (case N => k_asm); (case T => k_asm); (case hk => exact rfl); (case hd => ktr_room); (case hu => ktr_units)); intros)
  k_with "call ref" =>
    ((with_reducible show wpAny _ _ (call (Value.ref 61) _) _ _ _); k_dflt (refine' c_escaped ?B ?F ?X ?N ?T ?hk ?hd ?hu ?_; (case B => k_asm); (case F => k_asm); (case X => k_asm); (case N => k_asm); (case T => k_asm); (case hk => exact rfl); (case hd => ktr_room); (case hu => ktr_units)); intro v' t' h' tk' ev' F' N'; subst ev')
  k_with "getMethod ref" =>
    (k_here; (with_reducible show wpAny _ _ (getMethod (Value.ref _) (Str.ofString "append") _) _ _ _); k_dflt (refine method_ba (by assumption) (by k_mem) f_append_slot f_append_type ?_))
  k_with "getMethod ref" =>
    (k_here; (with_reducible show wpAny _ _ (getMethod (Value.ref _) (Str.ofString "extend") _) _ _ _); k_dflt (refine method_ba (by assumption) (by k_mem) f_extend_slot f_extend_type ?_))
  k_with "setAttr ref" =>
    (k_here; k_dflt (refine' set_dict ?k1 ?k2 ?k3 ?k4 ?k5 ?k6 ?k7 ?k8 ?k9 ?k10 ?k11 ?k12 ?k13 ?_; (case k1 => k_asm); (case k2 => k_asm); (case k3 => k_asm); (case k4 => k_inst); (case k5 => exact rfl); (case k6 => k_is); (case k7 => k_is); (case k8 => k_is); (case k9 => k_is); (case k10 => k_get); (case k11 => k_put); (case k12 => k_upd); (case k13 => exact Nat.le_of_ble_eq_true rfl); k_whole); intro h' F' N'; (try k_sweep))
  k_with "cstep2" =>
    first
      | ((with_reducible show wpC _ _ (eval (Expr.Tuple _ _ _) _) _ _ _); refine wpC_Tuple ?_)
      | ((with_reducible show wpC _ _ (spliced (backTo _ (starEach (_ :: _) _))) _ _ _); refine wpC_spl_cons ?_)
      | ((with_reducible show wpC _ _ (spliced (backTo _ (starEach [] _))) _ _ _); refine wpC_spl_nil ?_)
      | ((with_reducible show wpC _ _ (eval (Expr.Name _ _) _) _ _ _); refine wpC_leaf ?_)
      | ((with_reducible show wpC _ _ (eval (Expr.Attribute _ _ _) _) _ _ _); refine wpC_leaf ?_)
      | ((with_reducible show wpC _ _ (eval (Expr.Constant _ _ _) _) _ _ _); refine wpC_leaf ?_)
      | ((with_reducible show wpC _ _ (eval (Expr.Call (Expr.Name _ _) _ [] _) _) _ _ _); refine wpC_Call ?_)
      | ((with_reducible show wpC _ _ (callWith _ (Value.type _) _ _ _) _ _ _); refine wpC_callWith_t0 ?_)
  k_with "getMethod ref" =>
    (k_here; (with_reducible show wpAny _ _ (getMethod (Value.ref _) (Str.ofString "get") _) _ _ _); refine kdg_method (knd := bytesKind _ _) (by assumption) (by walk_at "my mem") (by assumption) ?_)
  k_with "call builtin:dict.get" =>
    (k_here; refine get_env (by assumption) (by walk_at "my mem") (by assumption) (by assumption) (by assumption) ?_; intro t')
  trivial
theorem env_sz {env : Env8} (hsz : ∀ k x, env k = some x → x.size ≤ 4) (k : List UInt8) : ((env k).getD #[]).size ≤ 4 := by have := env_size hsz k; omega
theorem words_C10_2 : True := by
  k_with "ext size" =>
    first | omega | exact Nat.le_trans (Nat.add_le_add_left (env_sz (by assumption) _) _) (by omega)
  k_with "call ref" =>
    ((with_reducible show wpAny _ _ (call (Value.ref 54) _) _ _ _); k_dflt (refine' c_sign ?B ?F ?X ?N ?T ?hk ?hd ?hu ?_; (case B => k_asm); (case F => k_asm); (case X => k_asm); (case N => k_asm); (case T => k_asm); (case hk => exact rfl); (case hd => ktr_room); (case hu => ktr_units)); intro v' h' tk' ev' F' N'; subst ev')
  k_with "exec While BoolOp" =>
    refine stop_in ?_
  k_with "call type:int" =>
    (k_here; (with_reducible show wpAny _ _ (call (Value.type "int") [Value.bool _]) _ _ _); k_dflt (refine call_int_bool ?_))
  k_with "compareOp Eq bytes bytes" =>
    (k_here; with_reducible refine eq_one (by assumption) (by omega) (by first | rfl | omega) (by walk_at "bc") ?_)
  k_with "skip" =>
    (intros; (repeat (first | (with_reducible exact rfl) | refine (if_neg (by assumption)).trans ?_)))
  trivial
theorem var_gt {b : Array UInt8} {ks : List Int} {env : Env8} {i e f : Int} {b0 : Bool} (h1 : b0 = true) (hb0 : decide (i + 1 < (ks.length : Int) ∧ itm ks (i + 1) = 123) = b0) (hf : i + 1 + (if b0 = true then 1 else 0) = f) (he : nmE ks f ks.length f = e) :
    varT b ks env i = if e = f ∨ ¬ (e < ks.length ∧ itm ks e = 125) then none else some ((env (cut b f e).toList).getD #[], e + (if b0 = true then 1 else 0)) := by
  subst h1
  rw [if_pos rfl] at hf ⊢
  obtain rfl : i + 2 = f := by omega
  rw [var_br (of_decide_eq_true hb0) he]
theorem var_gf {b : Array UInt8} {ks : List Int} {env : Env8} {i e f : Int} {b0 : Bool} (h1 : b0 = false) (hb0 : decide (i + 1 < (ks.length : Int) ∧ itm ks (i + 1) = 123) = b0) (hf : i + 1 + (if b0 = true then 1 else 0) = f) (he : nmE ks f ks.length f = e) :
    varT b ks env i = if e = f then some (#[36], e + (if b0 = true then 1 else 0)) else some ((env (cut b f e).toList).getD #[], e + (if b0 = true then 1 else 0)) := by
  subst h1
  rw [if_neg Bool.false_ne_true] at hf ⊢
  obtain rfl : i + 1 = f := by omega
  rw [var_no (of_decide_eq_false hb0) he, Int.add_zero]
  by_cases h : e = i + 1
  · rw [if_pos h, if_pos h, h]
  · rw [if_neg h, if_neg h]
theorem c_tvar {b acc : Array UInt8} {ks : List Int} {tb ti k1 k2 k3 : Tok} {i : Int} {kd R RD fb : Addr} {ko : Obj} {kvs : List (List UInt8 × Value)} {env : Env8} {rest : List (Addr × Obj)} (hb : KBw.bInts b = ks) (hz : ks.length ≤ 1000) (h0 : 0 ≤ i) (h1 : i < ks.length) (ha : acc.size ≤ 100000)
  (hkm : (kd, ko) ∈ rest) (hkd : ko.IsDictOf (bytesKind PySem.Challenge.rw_pq1181_01.row.prog w) kvs) (klo : (kd == sysModules) = false) (henv : EnvIs kvs env) (hsz : ∀ k x, env k = some x → x.size ≤ 4)
  (B : Below A₀ base outer h₀) (F : Fr h₀ L s.heap m) (X : (Tops.hd.heap_39 w.params).In h₀) (N : News h₀ L s.heap ((fb, baObj acc) :: (RD, rdO w.params b tb kd i ti k1 k2 k3) :: (R, instObj 120 RD) :: rest)) (T : Top p loose mean mg mb h₀) (hk : cs.kind = .function)
  (n1 : @Ne Nat fb RD) (n2 : @Ne Nat fb R) (n3 : @Ne Nat R RD) (n4 : ∀ p ∈ rest, p.1 ≠ fb) (n5 : ∀ p ∈ rest, p.1 ≠ RD)
  (hd : dp + 4 < recursionLimit) (hu : un + 24 < cLine)
  (ret : ∀ x j tj h' tk', varT b ks env i = some (x, j) → Fr h₀ L h' m → News h₀ L h' ((fb, baObj (acc ++ x)) :: (RD, rdO w.params b tb kd j tj k1 k2 k3) :: (R, instObj 120 RD) :: rest) → Q .none { s with heap := h', toks := tk' })
  (err : varT b ks env i = none → ∀ e t D ti' k g h' tk', Fr h₀ L g m → RaisedX base g (envOf cn cs L a ccd :: outer) e 45 t [.int i ti'] D ((D, toO w.params i ti' k) :: rest) h' → g.UpToSlots h' → E (.ref e) { s with heap := h', toks := tk' }) :
  wpC (model PySem.Challenge.rw_pq1181_01.row.prog w) (ktrTop dp un gd cn cs L a ccd [] outer) (call (.ref 117) [.ref R, .ref fb]) Q E s := by
  refine wpC_call ?_
  walk_at "c enter"
  walk_at "cgo"
  unfold Stop
  show wpAny _ _ _ _ _ (Shared.mk _ s.gens s.drawn _ s.os)
  refine wpAny_tk (fun tk1 => ?_)
  rename Fr _ _ _ _ => F1
  rename News _ _ _ _ => N1
  generalize hb0 : decide (i + 1 < (ks.length : Int) ∧ itm ks (i + 1) = 123) = b0 at F1 ⊢
  generalize hf : i + 1 + (if b0 = true then 1 else 0) = f at F1 ⊢
  have hf1 : i + 1 ≤ f ∧ f ≤ ks.length := by
    cases b0 with
    | true => have h := of_decide_eq_true hb0; rw [if_pos rfl] at hf; omega
    | false => rw [if_neg Bool.false_ne_true] at hf; omega
  refine While_1T (Str.ofString "at") (fun n v => ∃ e t, v = .int e t ∧ f ≤ e ∧ e ≤ ks.length ∧ (ks.length : Int) - e ≤ n ∧ nmE ks f n e = nmE ks f ks.length f) (fun v => match v with | .int e _ => decide (e < (ks.length : Int)) && signS (itm ks e) (decide (e = f)) | _ => false) (n₀ := ks.length) F1 N1 rfl ⟨f, _, rfl, by omega, by omega, by omega, rfl⟩ ?_ ?_ ?_
  all_goals clear F1 N1
  · rintro n _ h₁ tk₁ F1 N1 ⟨e, t, rfl, he0, he1, he2, he3⟩
    walk_at "go"
    all_goals first
      | exact TestTo.mk (and_t (by assumption) (by assumption)) (by assumption) (by assumption)
      | exact TestTo.mk (and_f (by assumption)) (by assumption) (by assumption)
  · rintro n _ h₁ tk₁ P F1 N1 ⟨e, t, rfl, he0, he1, he2, he3⟩ ht hst hrt
    obtain ⟨ht1, ht2⟩ := of_and ht
    obtain ⟨n', rfl, hn⟩ := nm_step (f := f) he2 ht1 ht2
    walk_at "go"
    exact hst _ _ _ _ _ (by assumption) (by assumption) (Nat.lt_succ_self n') rfl (by walk_at "skip") ⟨e + 1, _, rfl, by omega, by omega, by omega, hn.symm.trans he3⟩
  · rintro n _ h₁ tk₁ F1 N1 ⟨e, t, rfl, he0, he1, he2, he3⟩ ht
    have he : nmE ks f ks.length f = e := by rw [← he3]; exact nm_stop (of_nand ht)
    walk_at "cgo"
    all_goals first
      | have h7 := var_gt (b := b) (env := env) (by with_reducible assumption) hb0 hf he
      | have h7 := var_gf (b := b) (env := env) (by with_reducible assumption) hb0 hf he
    all_goals first
      | exact Bool.noConfusion ((by with_reducible assumption : (e == f) = false).symm.trans (by with_reducible assumption : (e == f) = true))
      | (rw [if_pos (Or.inl (eq_of_beq (by with_reducible assumption : (e == f) = true)))] at h7; unfold Stop; refine leave_bad (rest := rest) (by assumption) (by assumption) (by assumption) (by assumption) (by assumption) (by walk_at "sub") ?_; intro h' R' S'; exact err h7 _ _ _ _ _ _ _ _ (by assumption) R' S')
      | (rw [if_pos (Or.inr (by with_reducible assumption))] at h7; unfold Stop; refine leave_bad (rest := rest) (by assumption) (by assumption) (by assumption) (by assumption) (by assumption) (by walk_at "sub") ?_; intro h' R' S'; exact err h7 _ _ _ _ _ _ _ _ (by assumption) R' S')
      | (rw [if_neg (fun h => Or.elim h (fun h => ne_of_beq_false (by with_reducible assumption : (e == f) = false) h) (fun h => h (by with_reducible assumption)))] at h7; exact ret _ _ _ _ _ h7 (by assumption) (news_tl (by assumption)))
      | (rw [if_pos (eq_of_beq (by with_reducible assumption : (e == f) = true))] at h7; exact ret _ _ _ _ _ h7 (by assumption) (news_tl (by assumption)))
      | (rw [if_neg (ne_of_beq_false (by with_reducible assumption : (e == f) = false))] at h7; exact ret _ _ _ _ _ h7 (by assumption) (news_tl (by assumption)))

end
end Mine
end
section
open PySem PySem.W PyProof.Rows PySem.Spec PySem.Calls
namespace Mine
set_option maxRecDepth 100000
set_option maxHeartbeats 8000000
theorem fillK_C11 : Dummy PySem.Challenge.rw_pq1181_01 Tops.hd.heap_39 := by w_top off; k_with_none; k_fill; trivial
section
variable {w : World} {p : Program} {loose : List Str} {mean : ExcName → Option Value} {mg mb : Str → Option Value}
  {dp un : Nat} {gd : Option (List Code)} {cn : Str} {cs : Scope} {a : Addr} {ccd : Value} {cl : List (Str × Addr)} {outer : List Env} {A₀ : Around} {base h₀ : Heap} {L : Addr} {m : Str → Option Value} {news : List (Addr × Obj)} {s : Shared} {Q E : Value → Shared → Prop}

local macro_rules | `(tactic| k_all) => `(tactic| assumption)
theorem words_C11_1 : True := by
  k_with "go" =>
    repeat' (first | (k_unfold; (try dsimp only)) | (k_end; fail) | walk1 | (dsimp only; walk1) | fail "no step")
  k_with "execs cons" =>
    refine wpAny_execs_cons ?_
  k_with "execs nil" =>
    refine wpAny_execs_nil ?_
  k_with "my intro" =>
    (intro hc; try (exfalso; omega))
  k_with "ite" =>
    first
      | with_reducible refine ite_T ?_ | with_reducible refine ite_F ?_ | with_reducible refine ite_nT ?_ | with_reducible refine ite_nF ?_
      | (with_reducible refine ite_D ?_ ?_ <;> walk_at "my intro") | (with_reducible refine ite_nD ?_ ?_ <;> walk_at "my intro") | (with_reducible refine ite_B ?_ ?_ <;> walk_at "my intro") | (with_reducible refine ite_nB ?_ ?_ <;> walk_at "my intro")
  k_with "my len" =>
    first | omega | (simp only [List.length_cons, List.length_nil]; omega)
  k_with "bc" =>
    first | exact bc_ | exact bc_10 | exact bc_34 | exact bc_36 | exact bc_39 | exact bc_92 | exact bc_123 | exact bc_125 | exact bc_126
  k_with "ba" =>
    first | assumption | walk_at "bc"
  k_with "compareOp Eq bytes bytes" =>
    first | with_reducible refine eq_one (by assumption) (by omega) (by first | rfl | omega) (by walk_at "bc") ?_ | with_reducible refine eq_K1 (by walk_at "ba") (by walk_at "bc") ?_ | with_reducible refine eq_Kt (by walk_at "ba") (by walk_at "bc") rfl ?_ | refine eq_Kf (by walk_at "ba") (by walk_at "bc") (by simp; done) ?_
  k_with "compareOp NotEq bytes bytes" =>
    first | with_reducible refine ne_one (by assumption) (by omega) (by first | rfl | omega) (by walk_at "bc") ?_ | refine ne_K (by first | assumption | walk_at "bc") (by first | assumption | walk_at "bc") ?_
  k_with "my intro" =>
    (intro hc; try (first | (exfalso; omega) | (exfalso; simp at hc; done) | (exfalso; rw [beq_iff_eq] at hc; omega) | (exfalso; rw [beq_eq_false_iff_ne] at hc; omega)))
  k_with "subscriptTail" =>
    (k_here; (with_reducible show wpAny _ _ (subscriptTail _ (Expr.Slice _ _ none _) (Value.bytes _ _) (Value.ref _)) _ _ _); (with_reducible rename Fr _ _ _ _ => F'); (with_reducible rename News _ _ _ _ => N'); (refine KBc.slice_K (s := ⟨_, _, _, _, _⟩) F' N' (by first | assumption | kba_ints) (by constructor) (by constructor) (by first | walk_at "my len" | kba_size) ?_); intro _ _ _ _ _ kbcK; clear kbcK)
  k_with "subscriptTail" =>
    (k_here; (with_reducible show wpAny _ _ (subscriptTail _ _ (Value.bytes _ _) (Value.int _ _)) _ _ _); (refine KBw.item_K (by assumption) (by walk_at "my len") (by walk_at "my len") (by walk_at "my len") ?_); intro _ _ kbaLo kbaHi)
  k_with "eval Call" =>
    k_dflt (refine Call_ ?_)
  k_with "my mem" =>
    first | assumption | (refine List.Mem.tail _ ?_; walk_at "my mem")
  k_with "call ref" =>
    ((with_reducible show wpAny _ _ (call (Value.ref 163) _) _ _ _); k_dflt (refine' c_lescape ?hb ?hz ?h0 ?h1 ?B ?F ?X ?N ?T ?hk ?hd ?hu ?_; (case hb => assumption); (case hz => omega); (case h0 => omega); (case h1 => omega); (case B => k_asm); (case F => k_asm); (case X => k_asm); (case N => k_asm); (case T => k_asm); (case hk => exact rfl); (case hd => ktr_room); (case hu => ktr_units)); (refine resT_elim ?_ ?_ <;> intros))
  k_with "call ref" =>
    ((with_reducible show wpAny _ _ (call (Value.ref 170) _) _ _ _); k_dflt (refine' c_lvar ?hb ?hz ?h0 ?h1 ?km ?kd ?kl ?ke ?B ?F ?X ?N ?T ?hk ?hd ?hu ?_; (case hb => assumption); (case hz => omega); (case h0 => omega); (case h1 => omega); (case km => walk_at "my mem"); (case kd => assumption); (case kl => assumption); (case ke => assumption); (case B => k_asm); (case F => k_asm); (case X => k_asm); (case N => k_asm); (case T => k_asm); (case hk => exact rfl); (case hd => ktr_room); (case hu => ktr_units)); (refine resT_elim ?_ ?_ <;> intros))
  k_with "cstep" =>
    first
      | with_reducible refine wpC_execs_cons ?_
      | with_reducible refine wpC_execs_nil ?_
      | ((with_reducible show wpC _ _ (exec (Stmt.If _ _ _ _) _) _ _ _); refine wpC_If ?_)
      | ((with_reducible show wpC _ _ (exec (Stmt.Expr _ _) _) _ _ _); refine wpC_Expr ?_)
      | ((with_reducible show wpC _ _ (exec (Stmt.Assign _ _ _) _) _ _ _); refine wpC_leaf ?_)
      | ((with_reducible show wpC _ _ (exec (Stmt.Raise _ _ _) _) _ _ _); refine wpC_leaf ?_)
      | ((with_reducible show wpC _ _ (exec (Stmt.While _ _ _ _) _) _ _ _); refine wpC_leaf ?_)
      | ((with_reducible show wpC _ _ (exec (Stmt.Continue _) _) _ _ _); refine wpC_leaf ?_)
      | ((with_reducible show wpC _ _ (exec (Stmt.Return _ _) _) _ _ _); refine wpC_leaf ?_)
      | ((with_reducible show wpC _ _ (eval (Expr.Call (Expr.Attribute _ _ _) _ [] _) _) _ _ _); refine wpC_MethodCall ?_)
      | ((with_reducible show wpC _ _ (callWith _ (Value.builtin _) _ _ _) _ _ _); refine wpC_callWith_b ?_)
      | ((with_reducible show wpC _ _ (callWith _ (Value.ref _) _ _ _) _ _ _); first | (refine' wpC_callWith_K ?k1 ?k2 ?_; (case k1 => k_asm); (case k2 => k_is); k_whole) | (refine' wpC_callWith_K0 ?k1 ?k2 ?_; (case k1 => k_in); (case k2 => k_is); k_whole; dsimp only [List.nil_append, List.cons_append]))
      | ((with_reducible show wpC _ _ (call (Value.builtin _) _ _) _ _ _); walk_at "ccallb")
      | ((with_reducible show wpC _ _ (call (Value.ref _) _ _) _ _ _); walk_at "ccall")
      | ((with_reducible show And (Frag.In _ _) _); refine ⟨by k_in, ?_⟩)
  k_with "ccallb" =>
    first
      | (k_dflt (refine' append_C ?F ?N ?h0 ?h1 ?hz ?U ?_; (case F => k_asm); (case N => k_asm); (case h0 => walk_at "byte lo"); (case h1 => walk_at "byte hi"); (case U => k_upd); (case hz => omega)); intro h' F' N'; (try k_sweep))
      | (k_dflt (refine' extend_C ?F ?N ?hz ?U ?_; (case F => k_asm); (case N => k_asm); (case U => k_upd); (case hz => walk_at "ext size")); intro h' F' N'; (try k_sweep))
  k_with "byte lo" =>
    first | omega | exact (escS_in ⟨by omega, by omega⟩).1
  k_with "byte hi" =>
    first | omega | exact (escS_in ⟨by omega, by omega⟩).2
  k_with "ext size" =>
    omega
  k_with "wpC" =>
    k_dflt (walk_at "cstep")
  k_with "cgo" =>
    repeat' (first | (k_unfold; (try dsimp only)) | (k_end; fail) | walk1 | (dsimp only; walk1) | fail "no step")
  k_with "c enter" =>
    (k_dflt (refine' defC ?k1 ?k2 ?k3 ?k4 ?k5 ?kA ?kF ?kK ?k6 ?k7 ?k8 ?k9 ?kB ?_ ?c2 ?c3 ?c4 ?c5; (case kA => exact rfl); (case kF => exact rfl); (case kK => assumption); (case k1 => k_asm); (case k2 => k_asm); (case k3 => k_asm); (case k4 => k_asm); (case k5 => k_asm); (case k6 => k_is); (case k7 => k_is); (case k8 => ktr_room); (case k9 => exact BindsTo.of_eq rfl); (case c5 => decide); (case kB => exact locs rfl); (case c2 => exact rfl); (case c3 => exact rfl); (case c4 => exact rfl); k_whole; intro g' L' h' FG' F' N' B' X' T'; (try dsimp only); (try k_lift B'); (try k_fold)))
  k_with "exec Raise some none" =>
    refine wpAny_Raise_bad rfl ?_
  k_with "call ref" =>
    ((with_reducible show wpAny _ _ (call (Value.ref 45) _) _ _ _); k_dflt (refine' c_badcmd ?B ?F ?X ?N ?T ?hk ?hd ?hu ?_; (case B => k_asm); (case F => k_asm); (case X => k_asm); (case N => k_asm); (case T => k_asm); (case hk => exact rfl); (case hd => ktr_room); (case hu => ktr_units)); intro e' t' D' h' tk' tkk' F' N' het' hne'; refine ⟨e', some D', t', _, rfl, by assumption, F'.keep, (N' _ (.tail _ (.head _))).1, ?_⟩; refine stop_in ?_)
  k_with "sub" =>
    (intro q hq; simp [hq])
  k_with "call ref" =>
    ((with_reducible show wpAny _ _ (call (Value.ref 68) _) _ _ _); k_dflt (refine' c_oct ?hb ?h0 ?hj ?B ?F ?X ?N ?T ?hk ?hd ?hu ?_ ?_; (case hb => assumption); (case h0 => omega); (case hj => omega); (case B => k_asm); (case F => k_asm); (case X => k_asm); (case N => k_asm); (case T => k_asm); (case hk => exact rfl); (case hd => ktr_room); (case hu => ktr_units)); intros)
  k_with "call ref" =>
    ((with_reducible show wpAny _ _ (call (Value.ref 61) _) _ _ _); k_dflt (refine' c_escaped ?B ?F ?X ?N ?T ?hk ?hd ?hu ?_; (case B => k_asm); (case F => k_asm); (case X => k_asm); (case N => k_asm); (case T => k_asm); (case hk => exact rfl); (case hd => ktr_room); (case hu => ktr_units)); intro v' t' h' tk' ev' F' N'; subst ev')
  k_with "getMethod ref" =>
    (k_here; (with_reducible show wpAny _ _ (getMethod (Value.ref _) (Str.ofString "append") _) _ _ _); k_dflt (refine method_ba (by assumption) (by k_mem) f_append_slot f_append_type ?_))
  k_with "getMethod ref" =>
    (k_here; (with_reducible show wpAny _ _ (getMethod (Value.ref _) (Str.ofString "extend") _) _ _ _); k_dflt (refine method_ba (by assumption) (by k_mem) f_extend_slot f_extend_type ?_))
  k_with "setAttr ref" =>
    (k_here; k_dflt (refine' set_dict ?k1 ?k2 ?k3 ?k4 ?k5 ?k6 ?k7 ?k8 ?k9 ?k10 ?k11 ?k12 ?k13 ?_; (case k1 => k_asm); (case k2 => k_asm); (case k3 => k_asm); (case k4 => k_inst); (case k5 => exact rfl); (case k6 => k_is); (case k7 => k_is); (case k8 => k_is); (case k9 => k_is); (case k10 => k_get); (case k11 => k_put); (case k12 => k_upd); (case k13 => exact Nat.le_of_ble_eq_true rfl); k_whole); intro h' F' N'; (try k_sweep))
  k_with "cstep2" =>
    first
      | ((with_reducible show wpC _ _ (eval (Expr.Tuple _ _ _) _) _ _ _); refine wpC_Tuple ?_)
      | ((with_reducible show wpC _ _ (spliced (backTo _ (starEach (_ :: _) _))) _ _ _); refine wpC_spl_cons ?_)
      | ((with_reducible show wpC _ _ (spliced (backTo _ (starEach [] _))) _ _ _); refine wpC_spl_nil ?_)
      | ((with_reducible show wpC _ _ (eval (Expr.Name _ _) _) _ _ _); refine wpC_leaf ?_)
      | ((with_reducible show wpC _ _ (eval (Expr.Attribute _ _ _) _) _ _ _); refine wpC_leaf ?_)
      | ((with_reducible show wpC _ _ (eval (Expr.Constant _ _ _) _) _ _ _); refine wpC_leaf ?_)
      | ((with_reducible show wpC _ _ (eval (Expr.Call (Expr.Name _ _) _ [] _) _) _ _ _); refine wpC_Call ?_)
      | ((with_reducible show wpC _ _ (callWith _ (Value.type _) _ _ _) _ _ _); refine wpC_callWith_t0 ?_)
  k_with "getMethod bytes" =>
    (k_here; (with_reducible show wpAny _ _ (getMethod (Value.bytes _ _) (Str.ofString "find") _) _ _ _); refine KBd.method_of _ (typeIs_bytes _ _ _) f_find_slot f_find_type KBd.noRef ?_)
  k_with "call builtin:bytes.find" =>
    (k_here; refine find_K (by omega) ?_)
  k_with "ext size" =>
    first | omega | exact Nat.le_trans (Nat.add_le_add_left (pick_size (by assumption) _ _) _) (by omega)
  trivial
theorem c_tsingle {b acc : Array UInt8} {ks : List Int} {tb ti k1 k2 k3 : Tok} {i : Int} {kd R RD fb : Addr} {rest : List (Addr × Obj)} (hb : KBw.bInts b = ks) (hz : ks.length ≤ 1000) (h0 : 0 ≤ i) (h1 : i < ks.length) (ha : acc.size ≤ 100000)
  (B : Below A₀ base outer h₀) (F : Fr h₀ L s.heap m) (X : (Tops.hd.heap_39 w.params).In h₀) (N : News h₀ L s.heap ((fb, baObj acc) :: (RD, rdO w.params b tb kd i ti k1 k2 k3) :: (R, instObj 120 RD) :: rest)) (T : Top p loose mean mg mb h₀) (hk : cs.kind = .function)
  (n1 : @Ne Nat fb RD) (n2 : @Ne Nat fb R) (n3 : @Ne Nat R RD) (n4 : ∀ p ∈ rest, p.1 ≠ fb) (n5 : ∀ p ∈ rest, p.1 ≠ RD)
  (hd : dp + 4 < recursionLimit) (hu : un + 24 < cLine)
  (ret : ∀ tj h' tk', 0 ≤ findQ b (i + 1) → Fr h₀ L h' m → News h₀ L h' ((fb, baObj (acc ++ cut b (i + 1) (findQ b (i + 1)))) :: (RD, rdO w.params b tb kd (findQ b (i + 1) + 1) tj k1 k2 k3) :: (R, instObj 120 RD) :: rest) → Q .none { s with heap := h', toks := tk' })
  (err : ¬ 0 ≤ findQ b (i + 1) → ∀ e t D ti' k g h' tk', Fr h₀ L g m → RaisedX base g (envOf cn cs L a ccd :: outer) e 45 t [.int i ti'] D ((D, toO w.params i ti' k) :: rest) h' → g.UpToSlots h' → E (.ref e) { s with heap := h', toks := tk' }) :
  wpC (model PySem.Challenge.rw_pq1181_01.row.prog w) (ktrTop dp un gd cn cs L a ccd [] outer) (call (.ref 96) [.ref R, .ref fb]) Q E s := by
  refine wpC_call ?_
  have hbs : b.size = ks.length := by rw [← hb, KBw.ints_length]
  walk_at "c enter"
  walk_at "cgo"
  all_goals first
    | (unfold Stop; refine leave_bad (rest := rest) (by assumption) (by assumption) (by assumption) (by assumption) (by assumption) (by walk_at "sub") ?_; intro h' R' S'; exact err (by omega) _ _ _ _ _ _ _ _ (by assumption) R' S')
    | exact ret _ _ _ (by omega) (by assumption) (by assumption)
    | exact ret _ _ _ (by omega) (by assumption) (news_tl (by assumption))

end
end Mine
end
section
open PySem PySem.W PyProof.Rows PySem.Spec PySem.Calls
namespace Mine
set_option maxRecDepth 100000
set_option maxHeartbeats 8000000
theorem fillK_C12 : Dummy PySem.Challenge.rw_pq1181_01 Tops.hd.heap_39 := by w_top off; k_with_none; k_fill; trivial
section
variable {w : World} {p : Program} {loose : List Str} {mean : ExcName → Option Value} {mg mb : Str → Option Value}
  {dp un : Nat} {gd : Option (List Code)} {cn : Str} {cs : Scope} {a : Addr} {ccd : Value} {cl : List (Str × Addr)} {outer : List Env} {A₀ : Around} {base h₀ : Heap} {L : Addr} {m : Str → Option Value} {news : List (Addr × Obj)} {s : Shared} {Q E : Value → Shared → Prop}

local macro_rules | `(tactic| k_all) => `(tactic| assumption)
theorem words_C12_1 : True := by
  k_with "go" =>
    repeat' (first | (k_unfold; (try dsimp only)) | (k_end; fail) | walk1 | (dsimp only; walk1) | fail "no step")
  k_with "execs cons" =>
    refine wpAny_execs_cons ?_
  k_with "execs nil" =>
    refine wpAny_execs_nil ?_
  k_with "my intro" =>
    (intro hc; try (exfalso; omega))
  k_with "ite" =>
    first
      | with_reducible refine ite_T ?_ | with_reducible refine ite_F ?_ | with_reducible refine ite_nT ?_ | with_reducible refine ite_nF ?_
      | (with_reducible refine ite_D ?_ ?_ <;> walk_at "my intro") | (with_reducible refine ite_nD ?_ ?_ <;> walk_at "my intro") | (with_reducible refine ite_B ?_ ?_ <;> walk_at "my intro") | (with_reducible refine ite_nB ?_ ?_ <;> walk_at "my intro")
  k_with "my len" =>
    first | omega | (simp only [List.length_cons, List.length_nil]; omega)
  k_with "bc" =>
    first | exact bc_ | exact bc_10 | exact bc_34 | exact bc_36 | exact bc_39 | exact bc_92 | exact bc_123 | exact bc_125 | exact bc_126
  k_with "ba" =>
    first | assumption | walk_at "bc"
  k_with "compareOp Eq bytes bytes" =>
    first | with_reducible refine eq_one (by assumption) (by omega) (by first | rfl | omega) (by walk_at "bc") ?_ | with_reducible refine eq_K1 (by walk_at "ba") (by walk_at "bc") ?_ | with_reducible refine eq_Kt (by walk_at "ba") (by walk_at "bc") rfl ?_ | refine eq_Kf (by walk_at "ba") (by walk_at "bc") (by simp; done) ?_
  k_with "compareOp NotEq bytes bytes" =>
    first | with_reducible refine ne_one (by assumption) (by omega) (by first | rfl | omega) (by walk_at "bc") ?_ | refine ne_K (by first | assumption | walk_at "bc") (by first | assumption | walk_at "bc") ?_
  k_with "my intro" =>
    (intro hc; try (first | (exfalso; omega) | (exfalso; simp at hc; done) | (exfalso; rw [beq_iff_eq] at hc; omega) | (exfalso; rw [beq_eq_false_iff_ne] at hc; omega)))
  k_with "subscriptTail" =>
    (k_here; (with_reducible show wpAny _ _ (subscriptTail _ (Expr.Slice _ _ none _) (Value.bytes _ _) (Value.ref _)) _ _ _); (with_reducible rename Fr _ _ _ _ => F'); (with_reducible rename News _ _ _ _ => N'); (refine KBc.slice_K (s := ⟨_, _, _, _, _⟩) F' N' (by first | assumption | kba_ints) (by constructor) (by constructor) (by first | walk_at "my len" | kba_size) ?_); intro _ _ _ _ _ kbcK; clear kbcK)
  k_with "subscriptTail" =>
    (k_here; (with_reducible show wpAny _ _ (subscriptTail _ _ (Value.bytes _ _) (Value.int _ _)) _ _ _); (refine KBw.item_K (by assumption) (by walk_at "my len") (by walk_at "my len") (by walk_at "my len") ?_); intro _ _ kbaLo kbaHi)
  k_with "eval Call" =>
    k_dflt (refine Call_ ?_)
  k_with "my mem" =>
    first | assumption | (refine List.Mem.tail _ ?_; walk_at "my mem")
  k_with "call ref" =>
    ((with_reducible show wpAny _ _ (call (Value.ref 163) _) _ _ _); k_dflt (refine' c_lescape ?hb ?hz ?h0 ?h1 ?B ?F ?X ?N ?T ?hk ?hd ?hu ?_; (case hb => assumption); (case hz => omega); (case h0 => omega); (case h1 => omega); (case B => k_asm); (case F => k_asm); (case X => k_asm); (case N => k_asm); (case T => k_asm); (case hk => exact rfl); (case hd => ktr_room); (case hu => ktr_units)); (refine resT_elim ?_ ?_ <;> intros))
  k_with "call ref" =>
    ((with_reducible show wpAny _ _ (call (Value.ref 170) _) _ _ _); k_dflt (refine' c_lvar ?hb ?hz ?h0 ?h1 ?km ?kd ?kl ?ke ?B ?F ?X ?N ?T ?hk ?hd ?hu ?_; (case hb => assumption); (case hz => omega); (case h0 => omega); (case h1 => omega); (case km => walk_at "my mem"); (case kd => assumption); (case kl => assumption); (case ke => assumption); (case B => k_asm); (case F => k_asm); (case X => k_asm); (case N => k_asm); (case T => k_asm); (case hk => exact rfl); (case hd => ktr_room); (case hu => ktr_units)); (refine resT_elim ?_ ?_ <;> intros))
  k_with "cstep" =>
    first
      | (with_reducible refine wpC_execs_cons ?_; (try dsimp only); (try (with_reducible refine wpC_tk (fun _ => ?_))))
      | with_reducible refine wpC_execs_nil ?_
      | ((with_reducible show wpC _ _ (exec (Stmt.If _ _ _ _) _) _ _ _); refine wpC_If ?_)
      | ((with_reducible show wpC _ _ (exec (Stmt.Expr _ _) _) _ _ _); refine wpC_Expr ?_)
      | ((with_reducible show wpC _ _ (exec (Stmt.Assign _ _ _) _) _ _ _); refine wpC_leaf ?_)
      | ((with_reducible show wpC _ _ (exec (Stmt.Raise _ _ _) _) _ _ _); refine wpC_leaf ?_)
      | ((with_reducible show wpC _ _ (exec (Stmt.While _ _ _ _) _) _ _ _); refine wpC_leaf ?_)
      | ((with_reducible show wpC _ _ (exec (Stmt.Continue _) _) _ _ _); refine wpC_leaf ?_)
      | ((with_reducible show wpC _ _ (exec (Stmt.Return _ _) _) _ _ _); refine wpC_leaf ?_)
      | ((with_reducible show wpC _ _ (eval (Expr.Call (Expr.Attribute _ _ _) _ [] _) _) _ _ _); refine wpC_MethodCall ?_)
      | ((with_reducible show wpC _ _ (callWith _ (Value.builtin _) _ _ _) _ _ _); refine wpC_callWith_b ?_)
      | ((with_reducible show wpC _ _ (callWith _ (Value.ref _) _ _ _) _ _ _); first | (refine' wpC_callWith_K ?k1 ?k2 ?_; (case k1 => k_asm); (case k2 => k_is); k_whole) | (refine' wpC_callWith_K0 ?k1 ?k2 ?_; (case k1 => k_in); (case k2 => k_is); k_whole; dsimp only [List.nil_append, List.cons_append]))
      | ((with_reducible show wpC _ _ (call (Value.builtin _) _ _) _ _ _); walk_at "ccallb")
      | ((with_reducible show wpC _ _ (call (Value.ref _) _ _) _ _ _); walk_at "ccall")
      | ((with_reducible show And (Frag.In _ _) _); refine ⟨by k_in, ?_⟩)
  k_with "ccallb" =>
    first
      | (k_dflt (refine' append_C ?F ?N ?h0 ?h1 ?hz ?U ?_; (case F => k_asm); (case N => k_asm); (case h0 => walk_at "byte lo"); (case h1 => walk_at "byte hi"); (case U => k_upd); (case hz => omega)); intro h' F' N'; (try k_sweep))
      | (k_dflt (refine' extend_C ?F ?N ?hz ?U ?_; (case F => k_asm); (case N => k_asm); (case U => k_upd); (case hz => walk_at "ext size")); intro h' F' N'; (try k_sweep))
  k_with "byte lo" =>
    first | omega | exact (escS_in ⟨by omega, by omega⟩).1
  k_with "byte hi" =>
    first | omega | exact (escS_in ⟨by omega, by omega⟩).2
  k_with "ext size" =>
    omega
  k_with "wpC" =>
    k_dflt (walk_at "cstep")
  k_with "cgo" =>
    repeat' (first | (k_unfold; (try dsimp only)) | (k_end; fail) | walk1 | (dsimp only; walk1) | fail "no step")
  k_with "c enter" =>
    (k_dflt (refine' defC ?k1 ?k2 ?k3 ?k4 ?k5 ?kA ?kF ?kK ?k6 ?k7 ?k8 ?k9 ?kB ?_ ?c2 ?c3 ?c4 ?c5; (case kA => exact rfl); (case kF => exact rfl); (case kK => assumption); (case k1 => k_asm); (case k2 => k_asm); (case k3 => k_asm); (case k4 => k_asm); (case k5 => k_asm); (case k6 => k_is); (case k7 => k_is); (case k8 => ktr_room); (case k9 => exact BindsTo.of_eq rfl); (case c5 => decide); (case kB => exact locs rfl); (case c2 => exact rfl); (case c3 => exact rfl); (case c4 => exact rfl); k_whole; intro g' L' h' FG' F' N' B' X' T'; (try dsimp only); (try k_lift B'); (try k_fold)))
  k_with "exec Raise some none" =>
    refine wpAny_Raise_bad rfl ?_
  k_with "call ref" =>
    ((with_reducible show wpAny _ _ (call (Value.ref 45) _) _ _ _); k_dflt (refine' c_badcmd ?B ?F ?X ?N ?T ?hk ?hd ?hu ?_; (case B => k_asm); (case F => k_asm); (case X => k_asm); (case N => k_asm); (case T => k_asm); (case hk => exact rfl); (case hd => ktr_room); (case hu => ktr_units)); intro e' t' D' h' tk' tkk' F' N' het' hne'; refine ⟨e', some D', t', _, rfl, by assumption, F'.keep, (N' _ (.tail _ (.head _))).1, ?_⟩; refine stop_in ?_)
  k_with "sub" =>
    (intro q hq; simp [hq])
  k_with "call ref" =>
    ((with_reducible show wpAny _ _ (call (Value.ref 68) _) _ _ _); k_dflt (refine' c_oct ?hb ?h0 ?hj ?B ?F ?X ?N ?T ?hk ?hd ?hu ?_ ?_; (case hb => assumption); (case h0 => omega); (case hj => omega); (case B => k_asm); (case F => k_asm); (case X => k_asm); (case N => k_asm); (case T => k_asm); (case hk => exact rfl); (case hd => ktr_room); (case hu => ktr_units)); intros)
  k_with "call ref" =>
    ((with_reducible show wpAny _ _ (call (Value.ref 61) _) _ _ _); k_dflt (refine' c_escaped ?B ?F ?X ?N ?T ?hk ?hd ?hu ?_; (case B => k_asm); (case F => k_asm); (case X => k_asm); (case N => k_asm); (case T => k_asm); (case hk => exact rfl); (case hd => ktr_room); (case hu => ktr_units)); intro v' t' h' tk' ev' F' N'; subst ev')
  k_with "getMethod ref" =>
    (k_here; (with_reducible show wpAny _ _ (getMethod (Value.ref _) (Str.ofString "append") _) _ _ _); k_dflt (refine method_ba (by assumption) (by k_mem) f_append_slot f_append_type ?_))
  k_with "getMethod ref" =>
    (k_here; (with_reducible show wpAny _ _ (getMethod (Value.ref _) (Str.ofString "extend") _) _ _ _); k_dflt (refine method_ba (by assumption) (by k_mem) f_extend_slot f_extend_type ?_))
  k_with "setAttr ref" =>
    (k_here; k_dflt (refine' set_dict ?k1 ?k2 ?k3 ?k4 ?k5 ?k6 ?k7 ?k8 ?k9 ?k10 ?k11 ?k12 ?k13 ?_; (case k1 => k_asm); (case k2 => k_asm); (case k3 => k_asm); (case k4 => k_inst); (case k5 => exact rfl); (case k6 => k_is); (case k7 => k_is); (case k8 => k_is); (case k9 => k_is); (case k10 => k_get); (case k11 => k_put); (case k12 => k_upd); (case k13 => exact Nat.le_of_ble_eq_true rfl); k_whole); intro h' F' N'; (try k_sweep))
  k_with "cstep2" =>
    first
      | ((with_reducible show wpC _ _ (eval (Expr.Tuple _ _ _) _) _ _ _); refine wpC_Tuple ?_)
      | ((with_reducible show wpC _ _ (spliced (backTo _ (starEach (_ :: _) _))) _ _ _); refine wpC_spl_cons ?_)
      | ((with_reducible show wpC _ _ (spliced (backTo _ (starEach [] _))) _ _ _); refine wpC_spl_nil ?_)
      | ((with_reducible show wpC _ _ (eval (Expr.Name _ _) _) _ _ _); refine wpC_leaf ?_)
      | ((with_reducible show wpC _ _ (eval (Expr.Attribute _ _ _) _) _ _ _); refine wpC_leaf ?_)
      | ((with_reducible show wpC _ _ (eval (Expr.Constant _ _ _) _) _ _ _); refine wpC_leaf ?_)
      | ((with_reducible show wpC _ _ (eval (Expr.Call (Expr.Name _ _) _ [] _) _) _ _ _); refine wpC_Call ?_)
      | ((with_reducible show wpC _ _ (callWith _ (Value.type _) _ _ _) _ _ _); refine wpC_callWith_t0 ?_)
  k_with "exec While BoolOp" =>
    refine stop_in ?_
  trivial
theorem stopC {P : Prop} (h : Stop P) : P := h
theorem words_C12_2 : True := by
  k_with "while stop" =>
    ((with_reducible show wpC _ _ (exec (Stmt.While _ _ _ _) _) _ _ _); refine stopC ?_)
  k_with "cstep" =>
    walk_at "while stop"
  k_with "ccall" =>
    ((with_reducible show wpC _ _ (call (Value.ref 110) _ _) _ _ _); k_dflt (refine' c_tesc ?hb ?hz ?h0 ?h1 ?ha ?B ?F ?X ?N ?T ?hk ?n1 ?n2 ?n3 ?n4 ?n5 ?hd ?hu ?_ ?_; (case hb => assumption); (case B => k_asm); (case F => k_asm); (case X => k_asm); (case T => k_asm); (case N => walk_at "rd news"); (case hz => omega); (case h0 => omega); (case h1 => omega); (case ha => walk_at "ba size"); (case hk => exact rfl); (case n1 => assumption); (case n2 => assumption); (case n3 => assumption); (case n4 => assumption); (case n5 => assumption); (case hd => ktr_room); (case hu => ktr_units)); intros; rotate_left; intros; (refine stop_in ?_); rotate_left)
  k_with "ccall" =>
    ((with_reducible show wpC _ _ (call (Value.ref 117) _ _) _ _ _); k_dflt (refine' c_tvar ?hb ?hz ?h0 ?h1 ?ha ?km ?kd ?kl ?ke ?ks ?B ?F ?X ?N ?T ?hk ?n1 ?n2 ?n3 ?n4 ?n5 ?hd ?hu ?_ ?_; (case hb => assumption); (case km => assumption); (case kd => assumption); (case kl => assumption); (case ke => assumption); (case ks => assumption); (case B => k_asm); (case F => k_asm); (case X => k_asm); (case T => k_asm); (case N => walk_at "rd news"); (case hz => omega); (case h0 => omega); (case h1 => omega); (case ha => walk_at "ba size"); (case hk => exact rfl); (case n1 => assumption); (case n2 => assumption); (case n3 => assumption); (case n4 => assumption); (case n5 => assumption); (case hd => ktr_room); (case hu => ktr_units)); intros; rotate_left; intros; (refine stop_in ?_); rotate_left)
  k_with "rd news" =>
    assumption
  k_with "ba size" =>
    first | omega | (rw [Array.size_append]; omega)
  trivial
theorem step_C {Q : Flow → Shared → Prop} {s : Shared} {h₀ h' : Heap} {L : Addr} {m₂ : Str → Option Value} {news₂ : List (Addr × Obj)} {J : Nat → (Str → Option Value) → List (Addr × Obj) → Prop} {n n' tk : Nat} (F : Fr h₀ L h' m₂) (N : News h₀ L h' news₂) (hn : n' < n) (hJ : J n' m₂ news₂) :
    WhileStep2 h₀ L s J Q n .next { s with heap := h', toks := tk } := ⟨h', tk, m₂, news₂, n', rfl, F, N, hn, hJ⟩
theorem turn_esc {b : Array UInt8} {ks : List Int} {env : Env8} {e : Int} {r : Option (Array UInt8 × Int)} (h : itm ks e = 92) (hr : escT ks e = r) : turnT b ks env e = r := by unfold turnT; rw [if_pos h]; exact hr
theorem turn_var {b : Array UInt8} {ks : List Int} {env : Env8} {e : Int} {r : Option (Array UInt8 × Int)} (h : itm ks e = 36) (hr : varT b ks env e = r) : turnT b ks env e = r := by unfold turnT; rw [if_neg (by omega)]; exact hr
theorem c_tdouble {b acc : Array UInt8} {ks : List Int} {tb ti k1 k2 k3 : Tok} {i : Int} {kd R RD fb : Addr} {ko : Obj} {kvs : List (List UInt8 × Value)} {env : Env8} {rest : List (Addr × Obj)} (hb : KBw.bInts b = ks) (hz : ks.length ≤ 1000) (h0 : 0 ≤ i) (h1 : i < ks.length) (ha : acc.size ≤ 50000)
  (hkm : (kd, ko) ∈ rest) (hkd : ko.IsDictOf (bytesKind PySem.Challenge.rw_pq1181_01.row.prog w) kvs) (klo : (kd == sysModules) = false) (henv : EnvIs kvs env) (hsz : ∀ k x, env k = some x → x.size ≤ 4)
  (B : Below A₀ base outer h₀) (F : Fr h₀ L s.heap m) (X : (Tops.hd.heap_39 w.params).In h₀) (N : News h₀ L s.heap ((fb, baObj acc) :: (RD, rdO w.params b tb kd i ti k1 k2 k3) :: (R, instObj 120 RD) :: rest)) (T : Top p loose mean mg mb h₀) (hk : cs.kind = .function)
  (n1 : @Ne Nat fb RD) (n2 : @Ne Nat fb R) (n3 : @Ne Nat R RD) (n4 : ∀ p ∈ rest, p.1 ≠ fb) (n5 : ∀ p ∈ rest, p.1 ≠ RD)
  (hd : dp + 8 < recursionLimit) (hu : un + 40 < cLine)
  (ret : ∀ x j tj h' tk', dblT b ks env i = .ok (x, j) → Fr h₀ L h' m → News h₀ L h' ((fb, baObj (acc ++ x)) :: (RD, rdO w.params b tb kd j tj k1 k2 k3) :: (R, instObj 120 RD) :: rest) → Q .none { s with heap := h', toks := tk' })
  (err : ∀ z, dblT b ks env i = .error z → ∀ e t D ti' k g h' tk', Fr h₀ L g m → RaisedX base g (envOf cn cs L a ccd :: outer) e 45 t [.int z ti'] D ((D, toO w.params z ti' k) :: rest) h' → g.UpToSlots h' → E (.ref e) { s with heap := h', toks := tk' }) :
  wpC (model PySem.Challenge.rw_pq1181_01.row.prog w) (ktrTop dp un gd cn cs L a ccd [] outer) (call (.ref 103) [.ref R, .ref fb]) Q E s := by
  refine wpC_call ?_
  walk_at "c enter"
  walk_at "cgo"
  unfold Stop
  rename Fr _ _ _ _ => F1
  rename News _ _ _ _ => N1
  refine While_CP (fun n m₁ news₁ => m₁ = _ ∧ ∃ x e te, news₁ = (fb, baObj (acc ++ x)) :: (RD, rdO w.params b tb kd e te k1 k2 k3) :: (R, instObj 120 RD) :: rest ∧ i + 1 ≤ e ∧ e ≤ ks.length ∧ (ks.length : Int) - e < n ∧ (x.size : Int) ≤ 4 * e ∧ dblS b ks env i n x e = dblT b ks env i) (n₀ := ks.length + 1) F1 (news_tl N1) ⟨rfl, #[], i + 1, _, by rw [Array.append_empty], by omega, by omega, by omega, by simp; omega, rfl⟩ ?_
  clear F1 N1
  rintro n _ _ h₁ tk₁ P F1 N1 ⟨rfl, x, e, te, rfl, he0, he1, he2, hs, he3⟩ hst hct hrt
  have hax : (acc ++ x).size ≤ 100000 := by rw [Array.size_append]; omega
  walk_at "cgo"
  all_goals obtain ⟨n', rfl⟩ : ∃ n', n = n' + 1 := ⟨n - 1, by omega⟩
  · have h92 : itm ks e = 92 := eq_of_beq (by with_reducible assumption : (itm ks e == 92) = true)
    have ht := turn_esc (b := b) (env := env) h92 (by assumption)
    have h9 := turn_size ht hsz (by omega) (by omega)
    refine hst _ _ _ _ n' (by assumption) (by assumption) (Nat.lt_succ_self n') ⟨rfl, _, _, _, by rw [Array.append_assoc], by omega, by omega, by omega, by rw [Array.size_append]; omega, ?_⟩
    rw [← he3, dbl_some (by omega) (.inl h92) ht]
  · have h92 : itm ks e = 92 := eq_of_beq (by with_reducible assumption : (itm ks e == 92) = true)
    have ht := turn_esc (b := b) (env := env) h92 (by assumption)
    unfold Stop
    refine leave_onX (by assumption) (by assumption) (by assumption) (by assumption) ?_
    intro h' R' S'
    exact err e (by rw [← he3, dbl_none (by omega) (.inl h92) ht]) _ _ _ _ _ _ _ _ (by assumption) R' S'
  · have h36 : itm ks e = 36 := eq_of_beq (by with_reducible assumption : (itm ks e == 36) = true)
    have ht := turn_var h36 (by assumption)
    have h9 := turn_size ht hsz (by omega) (by omega)
    refine hst _ _ _ _ n' (by assumption) (by assumption) (Nat.lt_succ_self n') ⟨rfl, _, _, _, by rw [Array.append_assoc], by omega, by omega, by omega, by rw [Array.size_append]; omega, ?_⟩
    rw [← he3, dbl_some (by omega) (.inr h36) ht]
  · have h36 : itm ks e = 36 := eq_of_beq (by with_reducible assumption : (itm ks e == 36) = true)
    have ht := turn_var h36 (by assumption)
    unfold Stop
    refine leave_onX (by assumption) (by assumption) (by assumption) (by assumption) ?_
    intro h' R' S'
    exact err e (by rw [← he3, dbl_none (by omega) (.inr h36) ht]) _ _ _ _ _ _ _ _ (by assumption) R' S'
  · have h34 : itm ks e ≠ 34 := by simpa using (by with_reducible assumption : (itm ks e != 34) = true)
    have h92 : itm ks e ≠ 92 := ne_of_beq_false (by with_reducible assumption : (itm ks e == 92) = false)
    have h36 : itm ks e ≠ 36 := ne_of_beq_false (by with_reducible assumption : (itm ks e == 36) = false)
    refine hst _ _ _ _ n' (by assumption) (by assumption) (Nat.lt_succ_self n') ⟨rfl, x ++ byt (itm ks e), e + 1, _, by rw [← Array.append_assoc, app_byt], by omega, by omega, by omega, by rw [Array.size_append]; simp [byt]; omega, ?_⟩
    rw [← he3, dbl_push (by omega) h34 (by omega)]
  · have h34 : itm ks e = 34 := by simpa using (by assumption : (itm ks e != 34) = false)
    exact ret _ _ _ _ _ (by rw [← he3, dbl_end ⟨by omega, h34⟩]) (by assumption) (by assumption)
  · unfold Stop
    refine leave_bad (rest := rest) (by assumption) (by assumption) (by assumption) (by assumption) (by assumption) (by walk_at "sub") ?_
    intro h' R' S'
    exact err i (by rw [← he3, dbl_out (by omega)]) _ _ _ _ _ _ _ _ (by assumption) R' S'

end
end Mine
end
section
open PySem PySem.W PyProof.Rows PySem.Spec PySem.Calls
namespace Mine
set_option maxRecDepth 100000
theorem bb_noBytes : typeLookup (.type "bytearray") "__bytes__" = pure none := by rw [typeLookup_type, builtinLookup_eq_fast]; kernel_rfl
theorem bb_noIndex : typeLookup (.type "bytearray") "__index__" = pure none := by rw [typeLookup_type, builtinLookup_eq_fast]; kernel_rfl
theorem bb_buffer : typeLookup (.type "bytearray") "__buffer__" = pure (some (.builtin "bytearray.__buffer__")) := by rw [typeLookup_type, builtinLookup_eq_fast]; kernel_rfl
theorem bb_bytes : typeLookup (.type "bytes") "__bytes__" = pure (some (.builtin "bytes.__bytes__")) := by rw [typeLookup_type, builtinLookup_eq_fast]; kernel_rfl
section
variable {prog : Program} {w : World} {A : Around} {E : Value → Shared → Prop} {s : Shared} {h₀ : Heap} {L fb : Addr} {m : Str → Option Value} {news : List (Addr × Obj)} {c : Array UInt8}
theorem ite_no {α : Type} {M : Model} {a b : Sem α} {Q : α → Shared → Prop} {x : Bool} (hx : x = false) (h : wpAny M A b Q E s) : wpAny M A (if x = true then a else b) Q E s := by subst hx; exact h
theorem ite_yes {α : Type} {M : Model} {a b : Sem α} {Q : α → Shared → Prop} {x : Bool} (hx : x = true) (h : wpAny M A a Q E s) : wpAny M A (if x = true then a else b) Q E s := by subst hx; exact h
theorem slotOwn_ba {Q : Bool → Shared → Prop} (hT : s.TypeIs (.ref fb) "bytearray") (h : Q true s) : wpAny (model prog w) A (Builtin.Bytes.slotIsOwn (.ref fb) "__buffer__") Q E s := by
  have key : ∀ x : String, x = "bytearray" → ∀ Q : Bool → Shared → Prop, Q true s → wpAny (model prog w) A (isInstance (.ref fb) (.type x)) Q E s := fun x hx Q hq => by
    rw [hx]; exact wpAny_isInstance hT f_ba_sub hq
  unfold Builtin.Bytes.slotIsOwn
  refine wpAny_bind (wpAny_specialOf hT bb_buffer ?_)
  dsimp only
  rw [if_neg (by decide +kernel)]
  exact key _ (by decide +kernel) _ h
theorem buffer_ba {id : String} {full : Bool} {Q : Option (Array UInt8) → Shared → Prop} (N : News h₀ L s.heap news) (hm : (fb, baObj c) ∈ news) (h : Q (some c) s) : wpAny (model prog w) A (Builtin.Bytes.buffer? id (.ref fb) full) Q E s := by
  have hT := ba_typeIs N hm
  unfold Builtin.Bytes.buffer?
  refine wpAny_bind (wpAny_specialOf hT bb_buffer ?_)
  dsimp only
  refine wpAny_bind (slotOwn_ba hT ?_)
  refine ite_no rfl ?_
  refine wpAny_bind (wpAny_specialOf hT bb_buffer ?_)
  refine wpAny_bind (ownRelease_ba hT ?_)
  refine ite_no rfl ?_
  exact wpAny_bind (payload_ba N hm (wpAny_pure h))
theorem new_bytes_ba {Q : Value → Shared → Prop} (N : News h₀ L s.heap news) (hm : (fb, baObj c) ∈ news) (hz : c.size ≤ 16777216) (hQ : ∀ t k, Q (.bytes c t) { s with toks := k }) :
    codeAny (model prog w) A (.call (.builtin "bytes.__new__") ⟨[.type "bytes", .ref fb], []⟩) (wants Q E) s := by
  refine codeAny_of_tree ?_
  show wpAny _ A.in1 (do checkBuiltinCall "bytes.__new__" ⟨[.type "bytes", .ref fb], []⟩; again (.builtin "bytes.__new__" ⟨[.type "bytes", .ref fb], []⟩)) _ _ s
  refine wpAny_bind (wpAny_of_eq (PySem.F.bm_newCall _) (wpAny_pure ⟨plainId_quiet PySem.F.bm_plain _, codeAny_builtin PySem.F.bm_entry ?_⟩))
  rw [Around.under_plainId PySem.F.bm_plain _]
  have hT := ba_typeIs N hm
  have hol := (N _ hm).1
  dsimp only at hol
  unfold Builtin.«bytes.__new__»
  refine wpAny_bind (wpAny_of_eq (a := true) rfl ?_)
  refine ite_no rfl ?_
  refine wpAny_bind (wpAny_of_eq PySem.F.bm_sub ?_)
  refine ite_no rfl ?_
  refine wpAny_bind (wpAny_of_eq (PySem.F.bm_bind _) ?_)
  refine wpAny_bind (wpAny_of_eq (a := ()) rfl ?_)
  refine wpAny_bind (wpAny_of_eq (a := ()) rfl ?_)
  refine ite_no rfl ?_
  refine wpAny_bind (wpAny_specialOf hT bb_noBytes ?_)
  refine wpAny_bind (wpAny_bind ?_)
  show wpAny _ _ (load fb >>= _) _ _ _
  refine wpAny_bind (wpAny_load hol ?_)
  refine wpAny_pure (wpAny_pure ?_)
  refine ite_no rfl ?_
  refine wpAny_bind (wpAny_specialOf hT bb_noIndex ?_)
  refine ite_yes rfl ?_
  first
    | show wpAny _ _ (Builtin.Bytes.buffer? "bytes.__new__" (.ref fb) true >>= _) _ _ _
    | (refine wpAny_bind ?_; show wpAny _ _ (Builtin.Bytes.buffer? "bytes.__new__" (.ref fb) true >>= _) _ _ _)
  refine wpAny_bind ?_
  refine buffer_ba N hm ?_
  dsimp only
  refine wpAny_bind (wpAny_rule ?_)
  refine wpAny_bind ?_
  unfold mkBytes
  rw [if_neg (by rw [sizeLine_eq]; omega)]
  refine wpAny_bind (wpAny_fresh (wpAny_pure ?_))
  refine ite_yes (by decide +kernel) ?_
  exact wpAny_pure (hQ _ _)
theorem bytes_ba {Q : Value → Shared → Prop} (N : News h₀ L s.heap news) (hm : (fb, baObj c) ∈ news) (hz : c.size ≤ 16777216) (hQ : ∀ t k, Q (.bytes c t) { s with toks := k }) :
    wpAny (model prog w) A (call (.type "bytes") [.ref fb]) Q E s := by
  refine callType_codes (Q₁ := fun obj s₁ => s₁.TypeIs obj "bytes" ∧ Q obj s₁) PySem.F.bm_called (PySem.F.bm_typeCall _) PySem.F.entry_object_init
    (new_bytes_ba N hm hz fun t k => ⟨PySem.W.typeIs_bytes _ _ _, hQ t k⟩) fun obj s₁ h₁ => ?_
  exact ⟨h₁.1, PySem.F.args_object_init_2 obj _, object_init_meets PySem.F.bm_called.init.lookup PySem.F.bm_called.made (by decide) prog w A.in1 _ s₁ ⟨h₁.1, rfl, h₁.2⟩⟩
theorem new_bytes_b {b : Array UInt8} {tb : Tok} {Q : Value → Shared → Prop} (hQ : Q (.bytes b tb) s) :
    codeAny (model prog w) A (.call (.builtin "bytes.__new__") ⟨[.type "bytes", .bytes b tb], []⟩) (wants Q E) s := by
  refine codeAny_of_tree ?_
  show wpAny _ A.in1 (do checkBuiltinCall "bytes.__new__" ⟨[.type "bytes", .bytes b tb], []⟩; again (.builtin "bytes.__new__" ⟨[.type "bytes", .bytes b tb], []⟩)) _ _ s
  refine wpAny_bind (wpAny_of_eq (PySem.F.bm_newCall _) (wpAny_pure ⟨plainId_quiet PySem.F.bm_plain _, codeAny_builtin PySem.F.bm_entry ?_⟩))
  rw [Around.under_plainId PySem.F.bm_plain _]
  have hT := PySem.W.typeIs_bytes s b tb
  unfold Builtin.«bytes.__new__»
  refine wpAny_bind (wpAny_of_eq (a := true) rfl ?_)
  refine ite_no rfl ?_
  refine wpAny_bind (wpAny_of_eq PySem.F.bm_sub ?_)
  refine ite_no rfl ?_
  refine wpAny_bind (wpAny_of_eq (PySem.F.bm_bind _) ?_)
  refine wpAny_bind (wpAny_of_eq (a := ()) rfl ?_)
  refine wpAny_bind (wpAny_of_eq (a := ()) rfl ?_)
  refine ite_no rfl ?_
  refine wpAny_bind (wpAny_specialOf hT bb_bytes ?_)
  refine wpAny_bind (wpAny_rule ?_)
  refine wpAny_bind (wpAny_of_eq (a := Value.type "bytes") rfl ?_)
  refine ite_yes (by decide +kernel) ?_
  refine ite_yes (by decide +kernel) ?_
  exact wpAny_pure hQ
theorem bytes_b {b : Array UInt8} {tb : Tok} {Q : Value → Shared → Prop} (hQ : Q (.bytes b tb) s) :
    wpAny (model prog w) A (call (.type "bytes") [.bytes b tb]) Q E s := by
  refine callType_codes (Q₁ := fun obj s₁ => s₁.TypeIs obj "bytes" ∧ Q obj s₁) PySem.F.bm_called (PySem.F.bm_typeCall _) PySem.F.entry_object_init
    (new_bytes_b ⟨PySem.W.typeIs_bytes _ _ _, hQ⟩) fun obj s₁ h₁ => ?_
  exact ⟨h₁.1, PySem.F.args_object_init_2 obj _, object_init_meets PySem.F.bm_called.init.lookup PySem.F.bm_called.made (by decide) prog w A.in1 _ s₁ ⟨h₁.1, rfl, h₁.2⟩⟩
end
end Mine
end
section
open PySem PySem.W PyProof.Rows PySem.Spec PySem.Calls
namespace Mine
set_option maxRecDepth 100000
section
variable {M : Model} {A : Around} {E : Value → Shared → Prop} {s : Shared} {env : Env}
theorem wpC_Assign_swapped {elts k tpos value pos} {names : List Str} {Q : Flow → Shared → Prop}
    (h : wpC M A (eval value env) (fun v s₁ => wpAny M A (unpackItems v names.length none) (fun items s₂ =>
      wpAny M A (assignInOrder (names.reverse.map fun n => bindName env n) items.reverse) (fun _ => Q .next) E s₂) E s₁) E s)
    (hs : swapsWithSole [.Tuple elts k tpos] value pos.line env = pure false := by rfl)
    (hw : swappedStores [.Tuple elts k tpos] value env = pure (some names) := by rfl) :
    wpC M A (exec (.Assign [.Tuple elts k tpos] value pos) env) Q E s := by
  rw [exec_Assign]
  refine wpC_standAt ?_
  rw [hs]
  refine wpC_bind (wpC_pure ?_)
  rw [if_neg (by decide)]
  refine wpC_bind (wpC_mono h (fun v s₁ h₁ => ?_) fun _ _ x => x)
  rw [hw]
  refine wpC_bind (wpC_pure (.of ?_))
  show wpAny M A (do rule "assign.swapped-stores"; let items ← unpackItems v names.length none; assignInOrder (names.reverse.map fun n => bindName env n) items.reverse; pure .next) Q E s₁
  exact wpAny_bind (wpAny_rule (wpAny_bind (wpAny_mono h₁ (fun items s₂ h₂ => wpAny_bind (wpAny_mono h₂ (fun _ _ x => wpAny_pure x) fun _ _ x => x)) fun _ _ x => x)))
theorem wpC_Assign_Tuple {elts k tpos value pos} {Q : Flow → Shared → Prop}
    (h : wpC M A (eval value env) (fun v s₁ => wpAny M A (assign (.Tuple elts k tpos) env v) (fun _ => Q .next) E s₁) E s)
    (hs : swapsWithSole [.Tuple elts k tpos] value pos.line env = pure false := by rfl)
    (hw : swappedStores [.Tuple elts k tpos] value env = pure none := by rfl) :
    wpC M A (exec (.Assign [.Tuple elts k tpos] value pos) env) Q E s := by
  rw [exec_Assign]
  refine wpC_standAt ?_
  rw [hs]
  refine wpC_bind (wpC_pure ?_)
  rw [if_neg (by decide)]
  refine wpC_bind (wpC_mono h (fun v s₁ h₁ => ?_) fun _ _ x => x)
  rw [hw]
  refine wpC_bind (wpC_pure (.of ?_))
  show wpAny M A (do assignAll v [assign (.Tuple elts k tpos) env]; pure .next) Q E s₁
  exact wpAny_bind (wpAny_mono h₁ (fun _ _ x => wpAny_pure x) fun _ _ x => x)
theorem wpC_Tuple {elts : List Expr} {k : Nat} {pos : Pos} {Q : Value → Shared → Prop}
    (h : wpC M A (spliced (backTo pos (starEach elts env))) (fun vs s₁ => wpAny M A (newTuple vs) Q E s₁) E s) : wpC M A (eval (.Tuple elts k pos) env) Q E s := by
  show wpC M A (do standAt pos; newTuple (← spliced (backTo pos (starEach elts env)))) Q E s
  exact wpC_standAt (wpC_bind (wpC_mono h (fun _ _ x => .of x) fun _ _ x => x))
theorem wpC_spl_nil {pos : Pos} {Q : List Value → Shared → Prop} (h : Q [] s) : wpC M A (spliced (backTo pos (starEach [] env))) Q E s := .of (args_nil h)
theorem wpC_spl_cons {e : Expr} {rest : List Expr} {pos : Pos} {Q : List Value → Shared → Prop}
    (h : wpC M A (eval e env) (fun v s₁ => wpC M A (spliced (backTo pos (starEach rest env))) (fun vs s₂ => Q (v :: vs) s₂) E s₁) E s)
    (he : starEach (e :: rest) env = (false, eval e env) :: starEach rest env := by rfl) : wpC M A (spliced (backTo pos (starEach (e :: rest) env))) Q E s := by
  rw [he]
  show wpC M A (spliced ((false, eval e env) :: backTo pos (starEach rest env))) Q E s
  rw [spliced]
  refine wpC_bind (wpC_mono h (fun v s₁ h₁ => ?_) fun _ _ x => x)
  simp only [Bool.false_eq_true, if_false]
  exact wpC_bind (wpC_pure (wpC_bind (wpC_holding (wpC_mono h₁ (fun vs s₂ h₂ => wpC_pure h₂) fun _ _ x => x))))
theorem keeps_t {id : String} (h : Heap) (_ : True) : ∃ k, (k = Keeper.frame ∨ k = Keeper.machine ∨ k = Keeper.boundFrame) ∧ Looks M h (keeperOf (.type id)) k := ⟨.machine, .inr (.inl rfl), Looks.of_pure rfl⟩
theorem wpC_callWith_t0 {id : String} {pos : Pos} {Q : Value → Shared → Prop} (h : wpC M A (call (.type id) []) Q E s) : wpC M A (callWith pos (.type id) [] (backTo pos (starEach [] env)) []) Q E s :=
  wpC_callWith_of (P := fun _ => True) rfl keeps_t (evalArgs_nil3 (Q := fun a s₁ => True ∧ wpC M A (call (.type id) ([] ++ a.pos) a.kw) Q E s₁) ⟨trivial, h⟩)
end
end Mine
end
section
open PySem PySem.W PyProof.Rows PySem.Spec PySem.Calls
namespace Mine
set_option maxRecDepth 100000
set_option maxHeartbeats 8000000
theorem fillK_C13 : Dummy PySem.Challenge.rw_pq1181_01 Tops.hd.heap_39 := by w_top off; k_with_none; k_fill; trivial
section
variable {w : World} {p : Program} {loose : List Str} {mean : ExcName → Option Value} {mg mb : Str → Option Value}
  {dp un : Nat} {gd : Option (List Code)} {cn : Str} {cs : Scope} {a : Addr} {ccd : Value} {cl : List (Str × Addr)} {outer : List Env} {A₀ : Around} {base h₀ : Heap} {L : Addr} {m : Str → Option Value} {news : List (Addr × Obj)} {s : Shared} {Q E : Value → Shared → Prop}

local macro_rules | `(tactic| k_all) => `(tactic| assumption)
abbrev m2 (y1 y2 : Str) (v1 : Value) (o2 : Option Value) (m : Str → Option Value) : Str → Option Value := fun z => if z = y1 then some v1 else if z = y2 then o2 else m z
theorem words_C13_1 : True := by
  k_with "go" =>
    repeat' (first | (k_unfold; (try dsimp only)) | (k_end; fail) | walk1 | (dsimp only; walk1) | fail "no step")
  k_with "execs cons" =>
    refine wpAny_execs_cons ?_
  k_with "execs nil" =>
    refine wpAny_execs_nil ?_
  k_with "my intro" =>
    (intro hc; try (exfalso; omega))
  k_with "ite" =>
    first
      | with_reducible refine ite_T ?_ | with_reducible refine ite_F ?_ | with_reducible refine ite_nT ?_ | with_reducible refine ite_nF ?_
      | (with_reducible refine ite_D ?_ ?_ <;> walk_at "my intro") | (with_reducible refine ite_nD ?_ ?_ <;> walk_at "my intro") | (with_reducible refine ite_B ?_ ?_ <;> walk_at "my intro") | (with_reducible refine ite_nB ?_ ?_ <;> walk_at "my intro")
  k_with "my len" =>
    first | omega | (simp only [List.length_cons, List.length_nil]; omega)
  k_with "bc" =>
    first | exact bc_ | exact bc_10 | exact bc_34 | exact bc_36 | exact bc_39 | exact bc_92 | exact bc_123 | exact bc_125 | exact bc_126
  k_with "ba" =>
    first | assumption | walk_at "bc"
  k_with "compareOp Eq bytes bytes" =>
    first | with_reducible refine eq_one (by assumption) (by omega) (by first | rfl | omega) (by walk_at "bc") ?_ | with_reducible refine eq_K1 (by walk_at "ba") (by walk_at "bc") ?_ | with_reducible refine eq_Kt (by walk_at "ba") (by walk_at "bc") rfl ?_ | refine eq_Kf (by walk_at "ba") (by walk_at "bc") (by simp; done) ?_
  k_with "compareOp NotEq bytes bytes" =>
    first | with_reducible refine ne_one (by assumption) (by omega) (by first | rfl | omega) (by walk_at "bc") ?_ | refine ne_K (by first | assumption | walk_at "bc") (by first | assumption | walk_at "bc") ?_
  k_with "my intro" =>
    (intro hc; try (first | (exfalso; omega) | (exfalso; simp at hc; done) | (exfalso; rw [beq_iff_eq] at hc; omega) | (exfalso; rw [beq_eq_false_iff_ne] at hc; omega)))
  k_with "subscriptTail" =>
    (k_here; (with_reducible show wpAny _ _ (subscriptTail _ (Expr.Slice _ _ none _) (Value.bytes _ _) (Value.ref _)) _ _ _); (with_reducible rename Fr _ _ _ _ => F'); (with_reducible rename News _ _ _ _ => N'); (refine KBc.slice_K (s := ⟨_, _, _, _, _⟩) F' N' (by first | assumption | kba_ints) (by constructor) (by constructor) (by first | walk_at "my len" | kba_size) ?_); intro _ _ _ _ _ kbcK; clear kbcK)
  k_with "subscriptTail" =>
    (k_here; (with_reducible show wpAny _ _ (subscriptTail _ _ (Value.bytes _ _) (Value.int _ _)) _ _ _); (refine KBw.item_K (by assumption) (by walk_at "my len") (by walk_at "my len") (by walk_at "my len") ?_); intro _ _ kbaLo kbaHi)
  k_with "eval Call" =>
    k_dflt (refine Call_ ?_)
  k_with "my mem" =>
    first | assumption | (refine List.Mem.tail _ ?_; walk_at "my mem")
  k_with "call ref" =>
    ((with_reducible show wpAny _ _ (call (Value.ref 163) _) _ _ _); k_dflt (refine' c_lescape ?hb ?hz ?h0 ?h1 ?B ?F ?X ?N ?T ?hk ?hd ?hu ?_; (case hb => assumption); (case hz => omega); (case h0 => omega); (case h1 => omega); (case B => k_asm); (case F => k_asm); (case X => k_asm); (case N => k_asm); (case T => k_asm); (case hk => exact rfl); (case hd => ktr_room); (case hu => ktr_units)); (refine resT_elim ?_ ?_ <;> intros))
  k_with "call ref" =>
    ((with_reducible show wpAny _ _ (call (Value.ref 170) _) _ _ _); k_dflt (refine' c_lvar ?hb ?hz ?h0 ?h1 ?km ?kd ?kl ?ke ?B ?F ?X ?N ?T ?hk ?hd ?hu ?_; (case hb => assumption); (case hz => omega); (case h0 => omega); (case h1 => omega); (case km => walk_at "my mem"); (case kd => assumption); (case kl => assumption); (case ke => assumption); (case B => k_asm); (case F => k_asm); (case X => k_asm); (case N => k_asm); (case T => k_asm); (case hk => exact rfl); (case hd => ktr_room); (case hu => ktr_units)); (refine resT_elim ?_ ?_ <;> intros))
  k_with "cstep" =>
    first
      | with_reducible refine wpC_execs_cons ?_
      | with_reducible refine wpC_execs_nil ?_
      | ((with_reducible show wpC _ _ (exec (Stmt.If _ _ _ _) _) _ _ _); refine wpC_If ?_)
      | ((with_reducible show wpC _ _ (exec (Stmt.Expr _ _) _) _ _ _); refine wpC_Expr ?_)
      | ((with_reducible show wpC _ _ (exec (Stmt.Assign _ _ _) _) _ _ _); refine wpC_leaf ?_)
      | ((with_reducible show wpC _ _ (exec (Stmt.Raise _ _ _) _) _ _ _); refine wpC_leaf ?_)
      | ((with_reducible show wpC _ _ (exec (Stmt.While _ _ _ _) _) _ _ _); refine wpC_leaf ?_)
      | ((with_reducible show wpC _ _ (exec (Stmt.Continue _) _) _ _ _); refine wpC_leaf ?_)
      | ((with_reducible show wpC _ _ (exec (Stmt.Return _ _) _) _ _ _); refine wpC_leaf ?_)
      | ((with_reducible show wpC _ _ (eval (Expr.Call (Expr.Attribute _ _ _) _ [] _) _) _ _ _); refine wpC_MethodCall ?_)
      | ((with_reducible show wpC _ _ (callWith _ (Value.builtin _) _ _ _) _ _ _); refine wpC_callWith_b ?_)
      | ((with_reducible show wpC _ _ (callWith _ (Value.ref _) _ _ _) _ _ _); first | (refine' wpC_callWith_K ?k1 ?k2 ?_; (case k1 => k_asm); (case k2 => k_is); k_whole) | (refine' wpC_callWith_K0 ?k1 ?k2 ?_; (case k1 => k_in); (case k2 => k_is); k_whole; dsimp only [List.nil_append, List.cons_append]))
      | ((with_reducible show wpC _ _ (call (Value.builtin _) _ _) _ _ _); walk_at "ccallb")
      | ((with_reducible show wpC _ _ (call (Value.ref _) _ _) _ _ _); walk_at "ccall")
      | ((with_reducible show And (Frag.In _ _) _); refine ⟨by k_in, ?_⟩)
  k_with "ccallb" =>
    first
      | (k_dflt (refine' append_C ?F ?N ?h0 ?h1 ?hz ?U ?_; (case F => k_asm); (case N => k_asm); (case h0 => walk_at "byte lo"); (case h1 => walk_at "byte hi"); (case U => k_upd); (case hz => omega)); intro h' F' N'; (try k_sweep))
      | (k_dflt (refine' extend_C ?F ?N ?hz ?U ?_; (case F => k_asm); (case N => k_asm); (case U => k_upd); (case hz => walk_at "ext size")); intro h' F' N'; (try k_sweep))
  k_with "byte lo" =>
    first | omega | exact (escS_in ⟨by omega, by omega⟩).1
  k_with "byte hi" =>
    first | omega | exact (escS_in ⟨by omega, by omega⟩).2
  k_with "ext size" =>
    omega
  k_with "wpC" =>
    k_dflt (walk_at "cstep")
  k_with "cgo" =>
    repeat' (first | (k_unfold; (try dsimp only)) | (k_end; fail) | walk1 | (dsimp only; walk1) | fail "no step")
  k_with "c enter" =>
    (k_dflt (refine' defC ?k1 ?k2 ?k3 ?k4 ?k5 ?kA ?kF ?kK ?k6 ?k7 ?k8 ?k9 ?kB ?_ ?c2 ?c3 ?c4 ?c5; (case kA => exact rfl); (case kF => exact rfl); (case kK => assumption); (case k1 => k_asm); (case k2 => k_asm); (case k3 => k_asm); (case k4 => k_asm); (case k5 => k_asm); (case k6 => k_is); (case k7 => k_is); (case k8 => ktr_room); (case k9 => exact BindsTo.of_eq rfl); (case c5 => decide); (case kB => exact locs rfl); (case c2 => exact rfl); (case c3 => exact rfl); (case c4 => exact rfl); k_whole; intro g' L' h' FG' F' N' B' X' T'; (try dsimp only); (try k_lift B'); (try k_fold)))
  k_with "exec Raise some none" =>
    refine wpAny_Raise_bad rfl ?_
  k_with "call ref" =>
    ((with_reducible show wpAny _ _ (call (Value.ref 45) _) _ _ _); k_dflt (refine' c_badcmd ?B ?F ?X ?N ?T ?hk ?hd ?hu ?_; (case B => k_asm); (case F => k_asm); (case X => k_asm); (case N => k_asm); (case T => k_asm); (case hk => exact rfl); (case hd => ktr_room); (case hu => ktr_units)); intro e' t' D' h' tk' tkk' F' N' het' hne'; refine ⟨e', some D', t', _, rfl, by assumption, F'.keep, (N' _ (.tail _ (.head _))).1, ?_⟩; refine stop_in ?_)
  k_with "sub" =>
    (intro q hq; simp [hq])
  k_with "call ref" =>
    ((with_reducible show wpAny _ _ (call (Value.ref 68) _) _ _ _); k_dflt (refine' c_oct ?hb ?h0 ?hj ?B ?F ?X ?N ?T ?hk ?hd ?hu ?_ ?_; (case hb => assumption); (case h0 => omega); (case hj => omega); (case B => k_asm); (case F => k_asm); (case X => k_asm); (case N => k_asm); (case T => k_asm); (case hk => exact rfl); (case hd => ktr_room); (case hu => ktr_units)); intros)
  k_with "call ref" =>
    ((with_reducible show wpAny _ _ (call (Value.ref 61) _) _ _ _); k_dflt (refine' c_escaped ?B ?F ?X ?N ?T ?hk ?hd ?hu ?_; (case B => k_asm); (case F => k_asm); (case X => k_asm); (case N => k_asm); (case T => k_asm); (case hk => exact rfl); (case hd => ktr_room); (case hu => ktr_units)); intro v' t' h' tk' ev' F' N'; subst ev')
  k_with "getMethod ref" =>
    (k_here; (with_reducible show wpAny _ _ (getMethod (Value.ref _) (Str.ofString "append") _) _ _ _); k_dflt (refine method_ba (by assumption) (by k_mem) f_append_slot f_append_type ?_))
  k_with "getMethod ref" =>
    (k_here; (with_reducible show wpAny _ _ (getMethod (Value.ref _) (Str.ofString "extend") _) _ _ _); k_dflt (refine method_ba (by assumption) (by k_mem) f_extend_slot f_extend_type ?_))
  k_with "setAttr ref" =>
    (k_here; k_dflt (refine' set_dict ?k1 ?k2 ?k3 ?k4 ?k5 ?k6 ?k7 ?k8 ?k9 ?k10 ?k11 ?k12 ?k13 ?_; (case k1 => k_asm); (case k2 => k_asm); (case k3 => k_asm); (case k4 => k_inst); (case k5 => exact rfl); (case k6 => k_is); (case k7 => k_is); (case k8 => k_is); (case k9 => k_is); (case k10 => k_get); (case k11 => k_put); (case k12 => k_upd); (case k13 => exact Nat.le_of_ble_eq_true rfl); k_whole); intro h' F' N'; (try k_sweep))
  k_with "cstep2" =>
    first
      | ((with_reducible show wpC _ _ (eval (Expr.Tuple _ _ _) _) _ _ _); refine wpC_Tuple ?_)
      | ((with_reducible show wpC _ _ (spliced (backTo _ (starEach (_ :: _) _))) _ _ _); refine wpC_spl_cons ?_)
      | ((with_reducible show wpC _ _ (spliced (backTo _ (starEach [] _))) _ _ _); refine wpC_spl_nil ?_)
      | ((with_reducible show wpC _ _ (eval (Expr.Name _ _) _) _ _ _); refine wpC_leaf ?_)
      | ((with_reducible show wpC _ _ (eval (Expr.Attribute _ _ _) _) _ _ _); refine wpC_leaf ?_)
      | ((with_reducible show wpC _ _ (eval (Expr.Constant _ _ _) _) _ _ _); refine wpC_leaf ?_)
      | ((with_reducible show wpC _ _ (eval (Expr.Call (Expr.Name _ _) _ [] _) _) _ _ _); refine wpC_Call ?_)
      | ((with_reducible show wpC _ _ (callWith _ (Value.type _) _ _ _) _ _ _); refine wpC_callWith_t0 ?_)
  k_with "getMethod ref" =>
    (k_here; (with_reducible show wpAny _ _ (getMethod (Value.ref _) (Str.ofString "get") _) _ _ _); refine kdg_method (knd := bytesKind _ _) (by assumption) (by walk_at "my mem") (by assumption) ?_)
  k_with "call builtin:dict.get" =>
    (k_here; refine get_env (by assumption) (by walk_at "my mem") (by assumption) (by assumption) (by assumption) ?_; intro t')
  k_with "compareOp NotIn int bytes" =>
    (k_here; refine notin_ends (itm_in (by assumption) (by omega) (by omega)).1 (itm_in (by assumption) (by omega) (by omega)).2 ?_)
  k_with "exec While BoolOp" =>
    refine stop_in ?_
  k_with "while stop" =>
    ((with_reducible show wpC _ _ (exec (Stmt.While _ _ _ _) _) _ _ _); refine stopC ?_)
  k_with "cstep" =>
    walk_at "while stop"
  k_with "ccall" =>
    ((with_reducible show wpC _ _ (call (Value.ref 110) _ _) _ _ _); k_dflt (refine' c_tesc ?hb ?hz ?h0 ?h1 ?ha ?B ?F ?X ?N ?T ?hk ?n1 ?n2 ?n3 ?n4 ?n5 ?hd ?hu ?_ ?_; (case hb => assumption); (case B => k_asm); (case F => k_asm); (case X => k_asm); (case T => k_asm); (case N => walk_at "rd news"); (case hz => omega); (case h0 => omega); (case h1 => omega); (case ha => walk_at "ba size"); (case hk => exact rfl); (case n1 => assumption); (case n2 => assumption); (case n3 => assumption); (case n4 => assumption); (case n5 => assumption); (case hd => ktr_room); (case hu => ktr_units)); intros; rotate_left; intros; (refine stop_in ?_); rotate_left)
  k_with "ccall" =>
    ((with_reducible show wpC _ _ (call (Value.ref 117) _ _) _ _ _); k_dflt (refine' c_tvar ?hb ?hz ?h0 ?h1 ?ha ?km ?kd ?kl ?ke ?ks ?B ?F ?X ?N ?T ?hk ?n1 ?n2 ?n3 ?n4 ?n5 ?hd ?hu ?_ ?_; (case hb => assumption); (case km => assumption); (case kd => assumption); (case kl => assumption); (case ke => assumption); (case ks => assumption); (case B => k_asm); (case F => k_asm); (case X => k_asm); (case T => k_asm); (case N => walk_at "rd news"); (case hz => omega); (case h0 => omega); (case h1 => omega); (case ha => walk_at "ba size"); (case hk => exact rfl); (case n1 => assumption); (case n2 => assumption); (case n3 => assumption); (case n4 => assumption); (case n5 => assumption); (case hd => ktr_room); (case hu => ktr_units)); intros; rotate_left; intros; (refine stop_in ?_); rotate_left)
  k_with "rd news" =>
    assumption
  k_with "ba size" =>
    first | omega | (rw [Array.size_append]; omega)
  k_with "ccall" =>
    ((with_reducible show wpC _ _ (call (Value.ref 96) _ _) _ _ _); k_dflt (refine' c_tsingle ?hb ?hz ?h0 ?h1 ?ha ?B ?F ?X ?N ?T ?hk ?n1 ?n2 ?n3 ?n4 ?n5 ?hd ?hu ?_ ?_; (case hb => assumption); (case B => k_asm); (case F => k_asm); (case X => k_asm); (case T => k_asm); (case N => walk_at "rd news"); (case hz => omega); (case h0 => omega); (case h1 => omega); (case ha => walk_at "ba size"); (case hk => exact rfl); (case n1 => assumption); (case n2 => assumption); (case n3 => assumption); (case n4 => assumption); (case n5 => assumption); (case hd => ktr_room); (case hu => ktr_units)); intros; rotate_left; intros; (refine stop_in ?_); rotate_left)
  k_with "ccall" =>
    ((with_reducible show wpC _ _ (call (Value.ref 103) _ _) _ _ _); k_dflt (refine' c_tdouble ?hb ?hz ?h0 ?h1 ?ha ?km ?kd ?kl ?ke ?ks ?B ?F ?X ?N ?T ?hk ?n1 ?n2 ?n3 ?n4 ?n5 ?hd ?hu ?_ ?_; (case hb => assumption); (case km => assumption); (case kd => assumption); (case kl => assumption); (case ke => assumption); (case ks => assumption); (case B => k_asm); (case F => k_asm); (case X => k_asm); (case T => k_asm); (case N => walk_at "rd news"); (case hz => omega); (case h0 => omega); (case h1 => omega); (case ha => walk_at "ba size"); (case hk => exact rfl); (case n1 => assumption); (case n2 => assumption); (case n3 => assumption); (case n4 => assumption); (case n5 => assumption); (case hd => ktr_room); (case hu => ktr_units)); intros; rotate_left; intros; (refine stop_in ?_); rotate_left)
  k_with "ccallt" =>
    ((with_reducible show wpC _ _ (call (Value.type "bytearray") _ _) _ _ _); refine stopC ?_)
  k_with "cstep" =>
    walk_at "ccallt"
  k_with "cstep" =>
    walk_at "cstep2"
  k_with "cstep" =>
    ((with_reducible show wpC _ _ (exec (Stmt.Assign [Expr.Tuple _ _ _] _ _) _) _ _ _); first | refine wpC_Assign_swapped ?_ | refine wpC_Assign_Tuple ?_)
  k_with "call type:bytes" =>
    (k_here; (with_reducible show wpAny _ _ (call (Value.type "bytes") [Value.ref _]) _ _ _); k_dflt (refine bytes_ba (by assumption) (by k_mem) (by omega) ?_); intro t' k')
  trivial
theorem m2_of {y1 y2 : Str} {v1 : Value} {m m₂ : Str → Option Value} (h1 : m₂ y1 = some v1) (hm : ∀ z, z ≠ y1 → z ≠ y2 → m₂ z = m z) : m₂ = m2 y1 y2 v1 (m₂ y2) m := by
  funext z
  by_cases e1 : z = y1
  · simp [m2, e1, h1]
  · by_cases e2 : z = y2
    · subst e2; simp [m2, e1]
    · simp [m2, e1, e2, hm z e1 e2]
theorem step_Cc {Q : Flow → Shared → Prop} {s : Shared} {h₀ h' : Heap} {L : Addr} {m₂ : Str → Option Value} {news₂ : List (Addr × Obj)} {J : Nat → (Str → Option Value) → List (Addr × Obj) → Prop} {n n' tk : Nat} (F : Fr h₀ L h' m₂) (N : News h₀ L h' news₂) (hn : n' < n) (hJ : J n' m₂ news₂) :
    WhileStep2 h₀ L s J Q n .cont { s with heap := h', toks := tk } := ⟨h', tk, m₂, news₂, n', rfl, F, N, hn, hJ⟩
theorem lt_ne3 {a b fb : Addr} {o o' : Obj} {rest : List (Addr × Obj)} (h : ∀ p ∈ (a, o) :: (b, o') :: rest, p.1 < fb) : @Ne Nat fb a ∧ @Ne Nat fb b ∧ ∀ p ∈ rest, p.1 ≠ fb :=
  ⟨Nat.ne_of_gt (h _ (.head _)), Nat.ne_of_gt (h _ (.tail _ (.head _))), fun p hp => Nat.ne_of_lt (h p (.tail _ (.tail _ hp)))⟩
theorem While_C2 {prog : Program} {A : Around} {E : Value → Shared → Prop} {Q : Flow → Shared → Prop} {env : Env} {test : Expr} {body : List Stmt} {pos : Pos} {m : Str → Option Value} {news : List (Addr × Obj)} (y1 y2 : Str) (J : Nat → Value → List (Addr × Obj) → Prop) {n₀ : Nat} {v₀ : Value}
    (F : Fr h₀ L s.heap m) (N : News h₀ L s.heap news) (hm : m y1 = some v₀) (hJ : J n₀ v₀ news)
    (turn : ∀ n v o news₁ h₁ tk₁, Fr h₀ L h₁ (m2 y1 y2 v o m) → News h₀ L h₁ news₁ → J n v news₁ →
      wpAny (model prog w) A (isTrue test env (eval test env)) (fun b s₂ =>
        if b = true then wpC (model prog w) A (execs body env) (WhileStep2 h₀ L s (fun n m₁ news₁ => ∃ v o, m₁ = m2 y1 y2 v o m ∧ J n v news₁) Q n) E s₂ else Q .next s₂) E { s with heap := h₁, toks := tk₁ })
    (hE : PassesOwn (model prog w) A env E := by passes_own) :
    wpC (model prog w) A (exec (.While test body [] pos) env) Q E s := by
  refine While_C (fun n m₁ news₁ => ∃ v o, m₁ = m2 y1 y2 v o m ∧ J n v news₁) F N ⟨v₀, m y2, m2_of hm (fun _ _ _ => rfl), hJ⟩ ?_ hE
  rintro n m₁ news₁ h₁ tk₁ F₁ N₁ ⟨v, o, rfl, hJ⟩
  exact turn n v o news₁ h₁ tk₁ F₁ N₁ hJ
theorem words_C13_2 : True := by
  k_with "ext size" =>
    first | omega | exact Nat.le_trans (Nat.add_le_add_left (env_sz (by assumption) _) _) (by omega)
  trivial
theorem stp_h1 {b : Array UInt8} {ks : List Int} {env : Env8} {i : Int} (h : itm ks i = 126) (h0 : i = 0) : stepW b ks env i = .ok ((env [72, 79, 77, 69]).getD #[], i + 1, true) := by rw [stp_h h h0, h0]; rfl
theorem news_d2 {h₀ h : Heap} {L : Addr} {x y : Addr × Obj} {news : List (Addr × Obj)} (N : News h₀ L h (x :: y :: news)) : News h₀ L h (x :: news) := fun q hq => N q (by rcases List.mem_cons.mp hq with rfl | hq; exact .head _; exact .tail _ (.tail _ hq))
theorem c_word {b : Array UInt8} {ks : List Int} {tb ti k1 k2 k3 : Tok} {kd R RD : Addr} {ko : Obj} {kvs : List (List UInt8 × Value)} {env : Env8} {rest : List (Addr × Obj)} (hb : KBw.bInts b = ks) (hz : ks.length ≤ 1000)
  (hkm : (kd, ko) ∈ rest) (hkd : ko.IsDictOf (bytesKind PySem.Challenge.rw_pq1181_01.row.prog w) kvs) (klo : (kd == sysModules) = false) (henv : EnvIs kvs env) (hsz : ∀ k x, env k = some x → x.size ≤ 4)
  (B : Below A₀ base outer h₀) (F : Fr h₀ L s.heap m) (X : (Tops.hd.heap_39 w.params).In h₀) (N : News h₀ L s.heap ((RD, rdO w.params b tb kd 0 ti k1 k2 k3) :: (R, instObj 120 RD) :: rest)) (T : Top p loose mean mg mb h₀) (hk : cs.kind = .function)
  (n3 : @Ne Nat R RD) (n5 : ∀ p ∈ rest, p.1 ≠ RD)
  (hd : dp + 12 < recursionLimit) (hu : un + 60 < cLine)
  (ret : ∀ x q j T tx tj h' tk', wrdT b ks env = .ok (x, q, j) → Fr h₀ L h' m → News h₀ L h' ((T, tupO [.bytes x tx, .bool q]) :: (RD, rdO w.params b tb kd j tj k1 k2 k3) :: (R, instObj 120 RD) :: rest) → Q (.ref T) { s with heap := h', toks := tk' })
  (err : ∀ z, wrdT b ks env = .error z → ∀ e t D ti' k g h' tk', Fr h₀ L g m → RaisedX base g (envOf cn cs L a ccd :: outer) e 45 t [.int z ti'] D ((D, toO w.params z ti' k) :: rest) h' → g.UpToSlots h' → E (.ref e) { s with heap := h', toks := tk' }) :
  wpC (model PySem.Challenge.rw_pq1181_01.row.prog w) (ktrTop dp un gd cn cs L a ccd [] outer) (call (.ref 89) [.ref R]) Q E s := by
  refine wpC_call ?_
  have hbs : b.size = ks.length := by rw [← hb, KBw.ints_length]
  walk_at "c enter"
  walk_at "cgo"
  unfold Stop
  refine newBA_C (by assumption) (by assumption) ?_
  intro fb h2 F2 N2 hlt
  obtain ⟨n1, n2, n4⟩ := lt_ne3 hlt
  walk_at "cgo"
  unfold Stop
  rename Fr _ _ _ _ => F1
  rename News _ _ _ _ => N1
  refine While_C2 (Str.ofString "is_bare") (Str.ofString "octet") (fun n v news₁ => ∃ bare acc e te, v = .bool bare ∧ news₁ = (fb, baObj acc) :: (RD, rdO w.params b tb kd e te k1 k2 k3) :: (R, instObj 120 RD) :: rest ∧ 0 ≤ e ∧ e ≤ ks.length ∧ (ks.length : Int) - e < n ∧ (acc.size : Int) ≤ 4 * e ∧ wrdS b ks env n acc bare e = wrdT b ks env) (n₀ := ks.length + 1) F1 (news_tl N1) rfl ⟨true, #[], 0, _, rfl, rfl, by omega, by omega, by omega, by simp, rfl⟩ ?_
  clear F1 N1
  rintro n _ o _ h₁ tk₁ F1 N1 ⟨bare, acc, e, te, rfl, rfl, he0, he1, he2, hs, he3⟩
  have hax : acc.size ≤ 50000 := by omega
  walk_at "cgo"
  all_goals first
    | exact ret _ _ _ _ _ _ _ _ (by rw [← he3, wrd_end (by first | omega | (intro hq; have h6 : (!endS (itm ks e)) = false := (by with_reducible assumption); rw [hq.2] at h6; cases h6))]) (by assumption) (news_d2 (by assumption))
    | skip
  all_goals have hend : e < ks.length ∧ endS (itm ks e) = false := ⟨by omega, by have h7 : (!endS (itm ks e)) = true := (by with_reducible assumption); simpa using h7⟩
  all_goals obtain ⟨n', rfl⟩ : ∃ n', n = n' + 1 := ⟨n - 1, by omega⟩
  all_goals first
    | (have h39 : itm ks e = 39 := (by simpa using (by with_reducible assumption : (itm ks e == 39) = true)); first
        | (have h7 := stp_q (b := b) (env := env) h39 rfl (by assumption); have h9 := find_at (b := b) (i := e + 1) rfl (by omega) (by assumption); have h8 : ((cut b (e + 1) (findQ b (e + 1))).size : Int) ≤ findQ b (e + 1) - (e + 1) := cut_size hb (show 0 ≤ e + 1 by omega) (by omega))
        | have h7 := stp_q0 (b := b) (env := env) h39 (by assumption))
    | (have h34 : itm ks e = 34 := (by simpa using (by with_reducible assumption : (itm ks e == 34) = true)); first
        | (have h7 := stp_d (b := b) (env := env) h34 (by assumption); have h8 := dbl_size (by assumption) hsz (by omega))
        | have h7 := stp_d0 (b := b) (env := env) h34 (by assumption))
    | (have h92 : itm ks e = 92 := (by simpa using (by with_reducible assumption : (itm ks e == 92) = true)); first
        | (have h6 := turn_esc (b := b) (env := env) (r := some _) h92 (by assumption); have h7 := stp_t (.inl h92) h6; have h8 := turn_size h6 hsz (by omega) (by omega))
        | have h7 := stp_t0 (.inl h92) (turn_esc (b := b) (env := env) h92 (by assumption)))
    | (have h36 : itm ks e = 36 := (by simpa using (by with_reducible assumption : (itm ks e == 36) = true)); first
        | (have h6 := turn_var (r := some _) h36 (by assumption); have h7 := stp_t (.inr h36) h6; have h8 := turn_size h6 hsz (by omega) (by omega))
        | have h7 := stp_t0 (.inr h36) (turn_var h36 (by assumption)))
    | (have h5 : e = 0 := (by simpa using (by with_reducible assumption : (e == 0) = true)); have h126 : itm ks e = 126 := (by simpa using (by with_reducible assumption : (itm ks e == 126) = true)); have h7 := stp_h1 (b := b) (env := env) h126 h5; have h8 := env_size hsz [72, 79, 77, 69])
    | (have h39 : itm ks e ≠ 39 := (by simpa using (by with_reducible assumption : (itm ks e == 39) = false)); have h34 : itm ks e ≠ 34 := (by simpa using (by with_reducible assumption : (itm ks e == 34) = false)); have h92 : itm ks e ≠ 92 := (by simpa using (by with_reducible assumption : (itm ks e == 92) = false)); have h36 : itm ks e ≠ 36 := (by simpa using (by with_reducible assumption : (itm ks e == 36) = false)); have h7 := stp_p (b := b) (env := env) h39 h34 (by omega) (by first | (have h5 : itm ks e ≠ 126 := (by simpa using (by with_reducible assumption : (itm ks e == 126) = false)); omega) | (have h5 : e ≠ 0 := (by simpa using (by with_reducible assumption : (e == 0) = false)); omega)); have h8 : (byt (itm ks e)).size = 1 := rfl)
  all_goals first
    | (unfold Stop; refine leave_onX (by assumption) (by assumption) (by assumption) (by assumption) ?_; intro h' R' S'; exact err _ (by rw [← he3, wrd_err hend h7]) _ _ _ _ _ _ _ _ (by assumption) R' S')
    | (refine step_C (by assumption) (by assumption) (Nat.lt_succ_self n') ⟨_, _, m2_of rfl (fun z z1 z2 => by simp [m2, z1, z2]), _, _, _, _, rfl, rfl, by omega, by omega, by omega, by rw [Array.size_append]; omega, ?_⟩; rw [← he3, wrd_ok hend h7]; refine bare_1 ?_; simp)
    | (refine step_Cc (by assumption) (by assumption) (Nat.lt_succ_self n') ⟨_, _, m2_of rfl (fun z z1 z2 => by simp [m2, z1, z2]), bare, acc ++ byt (itm ks e), e + 1, _, rfl, rfl, by omega, by omega, by omega, by rw [Array.size_append]; omega, ?_⟩; rw [← he3, wrd_ok hend h7]; refine bare_1 ?_; simp)

end
end Mine
end
section
open PySem PySem.W PyProof.Rows PySem.Spec PySem.Calls
namespace Mine
set_option maxRecDepth 100000
section
variable {prog : Program} {w : World} {K : Type} [DecidableEq K] {knd : KeyKind prog w K} {A : Around} {E : Value → Shared → Prop} {s : Shared} {h₀ : Heap} {L a b : Addr} {m : Str → Option Value} {news : List (Addr × Obj)} {oa ob : Obj} {kvs : List (K × Value)} {Q : Value → Shared → Prop}
theorem hits_self (hs : ∀ p ∈ kvs, valueAt kvs p.1 = some p.2) : KeqHits A s kvs kvs true := by
  have key : ∀ l : List (K × Value), (∀ p ∈ l, valueAt kvs p.1 = some p.2) → KeqHits A s kvs l true := fun l => by
    induction l with
    | nil => intro _; exact .nil
    | cons p l ih =>
      intro h
      obtain ⟨k, v⟩ := p
      exact .hit (e := true) (b := true) (h (k, v) (.head _)) (SeqAt.EqAt.same v) (ih fun q hq => h q (.tail _ hq))
  exact key kvs hs
theorem eq_dicts (N : News h₀ L s.heap news) (ha : (a, oa) ∈ news) (hb : (b, ob) ∈ news) (la : (a == sysModules) = false) (lb : (b == sysModules) = false) (da : oa.IsDictOf knd kvs) (db : ob.IsDictOf knd kvs) (hu : A.units < cLine) (hs : ∀ p ∈ kvs, valueAt kvs p.1 = some p.2)
    (h : Q (.bool true) s) : wpAny (model prog w) A (compareOp .Eq (.ref a) (.ref b)) Q E s :=
  keq_eq (r := true) la lb (Heap.dictOf_iff.mpr ⟨_, (N _ ha).1, da⟩) (Heap.dictOf_iff.mpr ⟨_, (N _ hb).1, db⟩) hu (fun _ => hits_self hs) (by simpa using h)
theorem dict_copy (F : Fr h₀ L s.heap m) (N : News h₀ L s.heap news) (hbig : h₀.NoLimit) (ha : (a, oa) ∈ news) (la : (a == sysModules) = false) (da : oa.IsDictOf knd kvs) (hz : kvs.length ≤ 1000)
    (h : ∀ d h' o, Fr h₀ L h' m → News h₀ L h' ((d, o) :: news) → (∀ p ∈ news, p.1 < d) → (d == sysModules) = false → o.IsDictOf knd kvs → Q (.ref d) { s with heap := h' }) :
    wpAny (model prog w) A (call (.type "dict") [.ref a]) Q E s := by
  refine kt_call_dict la (Heap.dictOf_iff.mpr ⟨_, (N _ ha).1, da⟩) (by rw [sizeLine_eq]; omega) fun h' hm hs => ?_
  obtain ⟨o', ho', hd'⟩ := Heap.dictOf_iff.mp hm
  have N1 := News.push F N { cls := .type "dict", data := .dict #[] }
  exact h _ h' o' ((F.push _).change hs (N1 _ (.head _)).2.1 (N1.fresh (.head _))) (N1.setHead N.apart hs ho') (fun p hp => Heap.lt_size (N p hp).1) (F.notModules (modules_low hbig)) hd'
theorem eqAt_bytes {x : Array UInt8} {t u : Tok} : SeqAt.EqAt A s (.bytes x t) (.bytes x u) true := fun prog w E Q hq => eqBool_bytes (by rw [decide_eq_true rfl]; exact hq)
/-- two tuples of an octets, a bool and an int, the same -/
theorem eq_three {x : Array UInt8} {t u t' u' : Tok} {q : Bool} {j : Int} (N : News h₀ L s.heap news) (ha : (a, tupO [.bytes x t, .bool q, .int j t']) ∈ news) (hb : (b, tupO [.bytes x u, .bool q, .int j u']) ∈ news) (hu : A.units < cLine) (h : Q (.bool true) s) :
    wpAny (model prog w) A (compareOp .Eq (.ref a) (.ref b)) Q E s := by
  refine SeqAt.eq_tupleAt (e := fun _ => true) (News.isTup N ha) (News.isTup N hb) hu (fun i h1 h2 => ?_) h
  match i, h1, h2 with
  | 0, _, _ => exact eqAt_bytes
  | 1, _, _ => exact SeqAt.EqAt.same _
  | 2, _, _ => have := SeqAt.EqAt.int_int (A := A.in1) (s := s) j t' j u'; rw [beq_self_eq_true] at this; exact this
end
end Mine
end
section
open PySem PySem.W PyProof.Rows PySem.Spec PySem.Calls
namespace Mine
set_option maxRecDepth 100000
set_option maxHeartbeats 8000000
theorem fillK_C14a : Dummy PySem.Challenge.rw_pq1181_01 Tops.hd.heap_39 := by w_top off; k_with_none; k_fill; trivial
section
variable {w : World} {p : Program} {loose : List Str} {mean : ExcName → Option Value} {mg mb : Str → Option Value}
  {dp un : Nat} {gd : Option (List Code)} {cn : Str} {cs : Scope} {a : Addr} {ccd : Value} {cl : List (Str × Addr)} {outer : List Env} {A₀ : Around} {base h₀ : Heap} {L : Addr} {m : Str → Option Value} {news : List (Addr × Obj)} {s : Shared} {Q E : Value → Shared → Prop}

local macro_rules | `(tactic| k_all) => `(tactic| assumption)
theorem words_C14a_1 : True := by
  k_with "go" =>
    repeat' (first | (k_unfold; (try dsimp only)) | (k_end; fail) | walk1 | (dsimp only; walk1) | fail "no step")
  k_with "execs cons" =>
    refine wpAny_execs_cons ?_
  k_with "execs nil" =>
    refine wpAny_execs_nil ?_
  k_with "my intro" =>
    (intro hc; try (exfalso; omega))
  k_with "ite" =>
    first
      | with_reducible refine ite_T ?_ | with_reducible refine ite_F ?_ | with_reducible refine ite_nT ?_ | with_reducible refine ite_nF ?_
      | (with_reducible refine ite_D ?_ ?_ <;> walk_at "my intro") | (with_reducible refine ite_nD ?_ ?_ <;> walk_at "my intro") | (with_reducible refine ite_B ?_ ?_ <;> walk_at "my intro") | (with_reducible refine ite_nB ?_ ?_ <;> walk_at "my intro")
  k_with "setAttr ref" =>
    (k_here; k_dflt (refine' set_dict ?k1 ?k2 ?k3 ?k4 ?k5 ?k6 ?k7 ?k8 ?k9 ?k10 ?k11 ?k12 ?k13 ?_; (case k1 => k_asm); (case k2 => k_asm); (case k3 => k_asm); (case k4 => k_inst); (case k5 => exact rfl); (case k6 => k_is); (case k7 => k_is); (case k8 => k_is); (case k9 => k_is); (case k10 => k_get); (case k11 => k_put); (case k12 => k_upd); (case k13 => exact Nat.le_of_ble_eq_true rfl); k_whole); intro h' F' N'; (try k_sweep))
  trivial
theorem news_swap {h₀ h : Heap} {L : Addr} {x y : Addr × Obj} {news : List (Addr × Obj)} (N : News h₀ L h (x :: y :: news)) : News h₀ L h (y :: x :: news) := fun q hq => N q (by simp at hq ⊢; rcases hq with h | h | h <;> simp [h])
theorem c_reader {b : Array UInt8} {tb : Tok} {kd : Addr}
  (B : Below A₀ base outer h₀) (F : Fr h₀ L s.heap m) (X : (Tops.hd.heap_39 w.params).In h₀) (N : News h₀ L s.heap news) (T : Top p loose mean mg mb h₀) (hk : cs.kind = .function)
  (hd : dp + 4 < recursionLimit) (hu : un + 24 < cLine)
  (ret : ∀ R RD ti k1 k2 k3 h' tk', Fr h₀ L h' m → News h₀ L h' ((RD, rdO w.params b tb kd 0 ti k1 k2 k3) :: (R, instObj 120 RD) :: news) → (∀ p ∈ news, p.1 < RD) → RD < R → Q (.ref R) { s with heap := h', toks := tk' }) :
  wpAny (model PySem.Challenge.rw_pq1181_01.row.prog w) (ktrTop dp un gd cn cs L a ccd cl outer) (call (.ref 120) [.bytes b tb, .ref kd]) Q E s := by
  refine call_cls (fI := 82) F X N (by k_is) (by k_is) (by k_is) ?_
  intro R RD h' F' N' hl1 hl2
  have n3 : @Ne Nat R RD := Nat.ne_of_gt hl2
  have n5 : ∀ p ∈ news, p.1 ≠ RD := fun p hp => Nat.ne_of_lt (hl1 p hp)
  k_dflt (refine' code_def ?k1 ?k2 ?k3 ?k4 ?k5 ?kA ?kF ?kK ?k6 ?k7 ?k8 ?k9 ?kB ?_ ?c2 ?c3 ?c4 ?c5; (case kA => exact rfl); (case kF => exact rfl); (case kK => assumption); (case k1 => k_asm); (case k2 => k_asm); (case k3 => k_asm); (case k4 => k_asm); (case k5 => k_asm); (case k6 => k_is); (case k7 => k_is); (case k8 => ktr_room); (case k9 => exact BindsTo.of_eq rfl); (case c5 => decide); (case kB => exact locs rfl); (case c2 => exact rfl); (case c3 => exact rfl); (case c4 => exact rfl); k_whole; intro g' L' h' FG' F' N' B' X' T'; (try dsimp only); (try k_lift B'); (try k_fold))
  walk_at "go"
  exact ret R RD _ _ _ _ _ _ (by assumption) (news_swap (by assumption)) hl1 hl2
theorem told_get {prog : Program} {A : Around} {e D : Addr} {oe : Obj} {z : Int} {ti k : Tok} {expr : Bool} (X : (Tops.hd.heap_39 w.params).In s.heap) (N : News h₀ L s.heap news) (he : (e, oe) ∈ news) (hD : (D, toO w.params z ti k) ∈ news) (hoc : oe.cls = .ref 45) (hod : oe.dict = some D) (hon : notCls oe = true)
    (h : Q (.int z ti) { s with toks := s.toks + 1 }) : wpAny (model prog w) A (getAttr (.ref e) (Str.ofString "told") expr) Q E s := by
  have I : InstAt s.heap e oe 45 (some (toO w.params z ti k)) := ⟨(N _ he).1, hoc, hon, by rw [hod]; exact (N _ hD).1⟩
  refine get_excv X I (by k_is) (by k_is) (by k_is) (findObj_own (attr := none) (by k_is) (by k_is) (by k_is) rfl) rfl h

end
end Mine
end
section
open PySem PySem.W PyProof.Rows PySem.Spec PySem.Calls
namespace Mine
set_option maxRecDepth 100000
section
variable {prog : Program} {w : World} {A₀ : Around} {E : Value → Shared → Prop} {s' : Shared} {base g G : Heap} {outer : List Env} {L a e t C D : Addr} {m : Str → Option Value} {name : Str} {scope : Scope} {cd : Value}
  {vs : List Value} {n : Str} {b₀ : Stmt} {suite : List Stmt} {pos np : Pos} {rest : List ExceptHandler} {Q : Flow → Shared → Prop} {news : List (Addr × Obj)} {KF : Frag}
  {p : Program} {loose : List Str} {mean : ExcName → Option Value} {mg mb : Str → Option Value} {x : Str}
/-- an own exception with an instance dict is caught by its class, and named -/
theorem caughtY (R : RaisedX base G (envOf name scope L a cd :: outer) e C t vs D news s'.heap) (F : Fr g L G m) (K : Below A₀ base outer g) (hsm : G.UpToSlots s'.heap) (XB : KF.In base) (TB : Top p loose mean mg mb base)
    (ex : nsIn KF mainGlobals x = some (some (.ref C))) (q : ktsIn KF C "BaseException" = true)
    (k : ∀ h' g' tk oe, KtsTurn (outer.filterMap (·.frame)) g g' → Fr g' L h' (fun y => if y = n then some (.ref e) else m y) → News g' L h' ((e, oe) :: news) → oe.cls = .ref C → oe.dict = some D → notCls oe = true → (∀ q ∈ news, q.1 ≠ e) → Below A₀ base outer g' → KF.In g' → Top p loose mean mg mb g' →
      wpAny (model prog w) ((A₀.deeper (envOf name scope L a cd)).mark (some (.ref e))) (execs (b₀ :: suite) (envOf name scope L a cd))
        (fun f s₄ => wpAny (model prog w) (A₀.deeper (envOf name scope L a cd)) (do bindName (envOf name scope L a cd) n .none; unbindBehindTheSuite (envOf name scope L a cd) n pos) (fun _ s₅ => Q f s₅) E s₄)
        (AsSuiteRaised (model prog w) ((A₀.deeper (envOf name scope L a cd)).mark (some (.ref e))) (envOf name scope L a cd) n pos (notedBy (model prog w) ((A₀.deeper (envOf name scope L a cd)).mark (some (.ref e))) (envOf name scope L a cd) (cameBackBy (model prog w) (A₀.deeper (envOf name scope L a cd)) (envOf name scope L a cd) E)))
        { s' with heap := h', toks := tk })
    (hk : scope.kind = .function := by rfl) (hlo : (envOf name scope L a cd).kindOf n = some .local := by rfl) (hx : (envOf name scope L a cd).kindOf x = some .globalImplicit := by rfl) (hd : (x == ("__debug__" : Str)) = false := by decide) :
    wpAny (model prog w) (A₀.deeper (envOf name scope L a cd)) (noteFrame (.ref e) (envOf name scope L a cd))
      (fun _ s₂ => wpAny (model prog w) (A₀.deeper (envOf name scope L a cd)) (setFlight (.ref e) none) (fun _ s₃ =>
        wpAny (model prog w) (A₀.deeper (envOf name scope L a cd)) (handleBy (.ref e) (envOf name scope L a cd) (.ExceptHandler (some (.Name x np)) (some n) (b₀ :: suite) pos :: rest)) Q E s₃) E s₂) E s' := by
  obtain ⟨⟨⟨B, hB, hBG, hl, hfl, hnew⟩, htup⟩, oe₀, hoe₀, hod₀⟩ := R
  have hL : B.get? L = none := by
    obtain ⟨_, ⟨L', _, hf, hn', _⟩, _⟩ := hfl.2.2.1
    obtain rfl : L = L' := Option.some.inj hf
    exact hn'
  refine withKD (P := fun h' => Heap.HeldW B (envOf name scope L a cd :: outer) e (.ref C) (.ref t) L h' ∧ s'.heap.UpToSlots h') (KD_noteFrame _ _) (fun hQ => wpAny_looks_onW (Around.frames_deeper K.stack) rfl hfl fun h' y z => hQ h' ⟨y, z⟩) fun h₄ ⟨hheld₄, hsm₄⟩ d₄ => ?_
  refine withKD (P := fun h' => Heap.FlyingW B (envOf name scope L a cd :: outer) e (.ref C) (.ref t) h' ∧ h₄.UpToSlots h') (KD_setFlight _ _) (fun hQ => wpAny_landsW hheld₄ fun h' y z => hQ h' ⟨y, z⟩) fun h₅ ⟨hheld, hsm₅'⟩ d₅ => ?_
  have hsm₅ := hsm₄.trans hsm₅'
  have d₅ := d₄.trans d₅
  obtain ⟨g₅, T₅, F₅, K₅⟩ := kts_ground K F hBG hheld.1 (hsm.trans hsm₅)
  have X₅ : KF.In g₅ := XB.keeps K₅.stays
  have P₅ : TopRead p loose mg mb g₅ := topRead_of (TB.keeps K₅.stays)
  obtain ⟨ob, hob, hobc⟩ := hheld.there
  obtain ⟨nm, q', N, bs, bm, hdct, sn, sub, ab, col, dd, k0, k1, k2, k3, k5, newId, hC, hbase, hbT⟩ := kts_cls X₅ q
  have hC₅ := F₅.keep _ _ hC
  refine wpAny_handleBy_cons (codeAny_handlers_test (name_K F₅ X₅ P₅ ex ?_ hk hx hd)) (by intro q; cases q)
  refine wpAny_excMatches_sub_self hC₅ hob hobc hbase (codeAny_handlers_suite_as ?_)
  refine withKD (s := { s' with heap := h₅ }) (P := fun h' => Heap.FlyingW B (envOf name scope L a cd :: outer) e (.ref C) (.ref t) h' ∧ h₅.UpToSlots h') (KD_setFlight _ _) (fun hQ => lands_againW hheld fun h' y z => hQ h' ⟨y, z⟩) fun h₆ ⟨hfl₆, hsm₆⟩ d₆ => ?_
  have d₆ := d₅.trans d₆
  obtain ⟨g₆, T₆, F₆, K₆⟩ := kts_ground K F hBG hfl₆.1 ((hsm.trans hsm₅).trans hsm₆)
  obtain ⟨oe, ws, hoe, hoec, hoed, hoe0⟩ := hfl₆.first
  have ne₆ : g₆.get? e = none := T₆.none_ _ (kts_fresh F hBG hfl₆.2.1 fun o ho m => by
    obtain ⟨_, o', ho', hd⟩ := K.frames.mem m
    rw [ho] at ho'
    cases ho'
    obtain ⟨sl, hs⟩ := ((hsm.trans hsm₅).trans hsm₆) _ _ (F.keep _ _ ho) hd
    rw [hoe] at hs
    cases hs
    exact hd _ hoed)
  have N₆ := News.more F₆ News.nil hoe (fun es n q => by rw [hoed] at q; cases q) ne₆
  have Nl : News g₆ L h₆ news := fun q hq => ⟨hfl₆.1 _ _ (hl q hq).1, (fun z => by have := (hl q hq).1; rw [z, hL] at this; cases this), T₆.none_ _ (kts_none F.keep (hl q hq).2.1)⟩
  refine stN F₆ (news := _ ++ news) (fun q hq => (List.mem_append.mp hq).elim (N₆ q) (Nl q)) (fun h₇ F₇ N₇ => ?_) hk hlo
  exact k h₇ g₆ _ oe T₆ F₇ N₇ hoec ((d₆.get hoe₀ hoe).trans hod₀) (by unfold notCls; rw [hoed]) (fun q hq z => by
    have := (hl q hq).1
    rw [z, hfl.2.1] at this
    cases this) K₆ (XB.keeps K₆.stays) (TB.keeps K₆.stays)
end
end Mine
end
section
open PySem PySem.W PyProof.Rows PySem.Spec PySem.Calls
namespace Mine
set_option maxRecDepth 100000
section
variable {A A₀ : Around} {s : Shared} {cn : Str} {cs : Scope} {a : Addr} {ccd : Value} {cl : List (Str × Addr)} {outer : List Env} {base h₀ h : Heap} {L b : Addr} {m : Str → Option Value} {news : List (Addr × Obj)}
theorem memX (hm : b ∈ (envX cn cs L a ccd cl :: outer).filterMap (·.frame)) : b = L ∨ b ∈ outer.filterMap (·.frame) := by
  obtain ⟨env, he, hf⟩ := List.mem_filterMap.mp hm
  rcases List.mem_cons.mp he with rfl | he
  · exact .inl (Option.some.inj hf).symm
  · exact .inr (List.mem_filterMap.mpr ⟨env, he, hf⟩)
theorem pushX (K : Below A base outer h₀) (F : Fr h₀ L h m) (hk : cs.kind = .function) : (h.FunFrames base (envX cn cs L a ccd cl :: outer)) ∧ base.StaysIn h := by
  have hnew : base.get? L = none := by
    cases hq : base.get? L with
    | none => rfl
    | some o => exact absurd (Nat.lt_of_lt_of_le (Heap.lt_size (K.stays L o hq)) F.above) (Nat.lt_irrefl _)
  refine ⟨.cons (by show cs.kind ≠ .module; rw [hk]; decide) rfl F.ns hnew (K.frames.of_keeps fun b o e _ => ⟨o, F.keep b o e, rfl⟩), fun b o e => F.keep b o (K.stays b o e)⟩
theorem enterX (B : Below A₀ base outer h₀) (F : Fr h₀ L s.heap m) (N : News h₀ L s.heap news) (hA : A.frames = some (envX cn cs L a ccd cl :: outer)) (hck : cs.kind = .function) :
    ∃ oL es ep, (hideAll s.heap (news.map (·.1))).get? L = some oL ∧ oL.data = .dict es ep ∧ (∀ h', h'.get? L = some oL → Heap.Ns h' L m) ∧ (∀ (sl : Array (Option Value)) h', h'.get? L = some { oL with slots := sl } → Heap.Ns h' L m) ∧
      h₀.StaysIn (hideAll s.heap (news.map (·.1))) ∧ Below A base (envX cn cs L a ccd cl :: outer) (hideAll s.heap (news.map (·.1))) := by
  have nm : ∀ b o, h₀.get? b = some o → b ∉ news.map (·.1) := fun b o e q => by
    obtain ⟨p, hp, rfl⟩ := List.mem_map.mp q
    rw [(N p hp).2.2] at e; cases e
  have st : h₀.StaysIn (hideAll s.heap (news.map (·.1))) := fun b o e => hideAll_get _ (F.keep b o e) (nm b o e)
  obtain ⟨oL, es, ep, hL, hLd, hLk, hLf⟩ := F.ns
  have nL : L ∉ news.map (·.1) := fun q => by
    obtain ⟨p, hp, e⟩ := List.mem_map.mp q
    exact (N p hp).2.1 e
  have hLg := hideAll_get (news.map (·.1)) hL nL
  obtain ⟨B₁, _⟩ := pushX (cn := cn) (cs := cs) (a := a) (ccd := ccd) (cl := cl) B F hck
  exact ⟨oL, es, ep, hLg, hLd, fun h' e => ⟨oL, es, ep, e, hLd, hLk, hLf⟩, fun sl h' e => ⟨_, es, ep, e, hLd, hLk, hLf⟩, st, ⟨hA, fun b o e => st b o (B.stays b o e), funFrames_hideAll B₁ fun env he b hb hf => by
    cases he with
    | head => exact nL ((Option.some.inj hf : L = b) ▸ hb)
    | tail _ he =>
      obtain ⟨L₁, o₁, hf₁, ho₁⟩ := funFrames_in B.frames env he
      rw [hf₁] at hf
      exact nm L₁ o₁ ho₁ ((Option.some.inj hf : L₁ = b) ▸ hb)⟩⟩
end
section
variable {prog : Program} {w : World} {A A₀ : Around} {R : Result → Shared → Prop} {E : Value → Shared → Prop} {s : Shared} {cn : Str} {cs : Scope} {a : Addr} {ccd : Value} {cl : List (Str × Addr)} {outer : List Env} {base h₀ : Heap} {L : Addr} {m mg mb : Str → Option Value} {news : List (Addr × Obj)} {K : Frag} {p : Program} {loose : List Str} {mean : ExcName → Option Value}
theorem defCX {name qual : Str} {params : Arguments} {body : List Stmt} {scope : Scope} {dV kV doc pm cdv ct oc : Value} {an od : Option Addr} {osl : Array (Option Value)} {f : Addr} {args : Args} {binds : List (Str × Value)}
    (B : Below A₀ base outer h₀) (F : Fr h₀ L s.heap m) (X₀ : K.In h₀) (N : News h₀ L s.heap news) (T : Top p loose mean mg mb h₀) (hA : A.frames = some (envX cn cs L a ccd cl :: outer)) (hck : cs.kind = .function)
    (ho : K.lookup f = some ⟨oc, od, .func (fnOf name qual params body scope dV kV doc pm an cdv ct), osl⟩) (hcd : codeIn K cdv qual = true) (hroom : A.depth < recursionLimit)
    (hbind : BindsTo s (fnOf name qual params body scope dV kV doc pm an cdv ct) args binds) (hloc : ∀ y ∈ binds, scope.names.lookup y.1 = some .local)
    (h : ∀ g L' h₁, Fr h₀ L g m → Fr g L' h₁ (fun y => binds.reverse.lookup y) → News g L' h₁ news → Below A base (envX cn cs L a ccd cl :: outer) g → K.In g → Top p loose mean mg mb g →
      wpC (model prog w) (A.deeper (envOf qual scope L' f cdv)) (execs body (envOf qual scope L' f cdv))
        (fun fl s' => LeaveT ((envX cn cs L a ccd cl :: outer).filterMap (·.frame)) A₀ base outer h₀ L m g R (match fl with | .ret v => v | _ => .none) s')
        (fun e s' => wpAny (model prog w) (A.deeper (envOf qual scope L' f cdv)) (leaving (envOf qual scope L' f cdv) e) (fun _ s'' => R (.error e) s'') (fun e' s'' => R (.error e') s'') s')
        { s with heap := h₁, toks := s.toks + binds.length })
    (hco : scope.isCoroutine = false) (hgen : scope.isGenerator = false) (hk : scope.kind = .function)
    (hcell : ∀ x ∈ scope.names, x.2 ≠ .cell) : codeC (model prog w) A (.call (.ref f) args) R s := by
  have X := X₀.keeps F.keep
  refine codeC_call_function hroom (X _ _ ho) rfl hco hgen rfl (codeRec_of X hcd) (hbind _ _ _ _ ?_)
  refine wpAny_newFunctionEnv hcell hloc (fun h₁ hns hsb => ⟨(T.nolimit.keeps F.keep).fresh _ hsb, codeC_func ?_⟩) hk
  have hk₁ : ∀ b o, s.heap.get? b = some o → h₁.get? b = some o := fun b o e => hsb.extBut b o (Nat.ne_of_lt (Heap.lt_size e)) (Heap.get?_push_of_some _ e)
  obtain ⟨oL, es, ep, hLg, hLd, hN, hNs, st, B₂⟩ := enterX B F N hA hck
  refine wpC_mono (h _ s.heap.objs.size h₁ ⟨hN _ hLg, st, F.above⟩ ⟨hns, fun b o e => hk₁ b o (of_hideAll _ e), Nat.le_of_eq (hideAll_size _ _)⟩
    (fun p hp => ⟨hk₁ _ _ (N p hp).1, Nat.ne_of_lt (Heap.lt_size (N p hp).1), hideAll_none _ (List.mem_map_of_mem hp)⟩) B₂ (X₀.keeps st) (T.keeps st)) (fun fl s' hl => ?_) fun _ _ y => y
  have nL₀ : h₀.get? L = none := kts_self F
  obtain ⟨g', L', m', news', T', F', N', k⟩ := hl
  obtain ⟨sl, hs⟩ := T'.up hLg
  obtain ⟨T₁, S₁⟩ := kts_turn_at (h := s'.heap) (fs := outer.filterMap (·.frame)) (g := h₀)
    (fun b hb => by
      obtain ⟨_, o, ho', _⟩ := B.frames.mem hb
      exact ⟨o, ho'⟩)
    (fun b o e nmem => F'.keep b o (T'.other b o (st b o e) (fun q => by
      rcases memX q with z | z
      · rw [z, nL₀] at e
        cases e
      · exact nmem z)))
    (fun b o e hm => by
      obtain ⟨sl', hs'⟩ := T'.up (st b o e)
      exact ⟨sl', F'.keep _ _ hs'⟩)
  have B₃ : Below A₀ base outer (ktsHeap s'.heap (outer.filterMap (·.frame)) h₀) := ⟨B.stack, fun b o e => T₁.other b o (B.stays b o e) (fun hm => by
    rw [(B.frames.mem hm).1] at e
    cases e), B.frames.of_keeps fun b o e _ => by
    obtain ⟨sl', hs'⟩ := T₁.up e
    exact ⟨_, hs', rfl⟩⟩
  refine k _ T₁ ⟨hNs sl _ (F'.keep _ _ hs), S₁, by rw [T₁.size]; exact F.above⟩ (fun p hp => ⟨(N' p hp).1, fun q => ?_, ?_⟩) B₃
  · have := (N' p hp).2.2; rw [q, hs] at this; cases this
  · refine T₁.none_ _ ?_
    cases q : h₀.get? p.1 with
    | none => rfl
    | some o =>
      obtain ⟨sl', hs'⟩ := T'.up (st _ _ q)
      have := (N' p hp).2.2
      rw [hs'] at this
      cases this
end
end Mine
end
section
open PySem PySem.W PyProof.Rows PySem.Spec PySem.Calls
namespace Mine
set_option maxRecDepth 100000
set_option maxHeartbeats 8000000
theorem fillK_C14 : Dummy PySem.Challenge.rw_pq1181_01 Tops.hd.heap_39 := by w_top off; k_with_none; k_fill; trivial
section
variable {w : World} {p : Program} {loose : List Str} {mean : ExcName → Option Value} {mg mb : Str → Option Value}
  {dp un : Nat} {gd : Option (List Code)} {cn : Str} {cs : Scope} {a : Addr} {ccd : Value} {cl : List (Str × Addr)} {outer : List Env} {A₀ : Around} {base h₀ : Heap} {L : Addr} {m : Str → Option Value} {news : List (Addr × Obj)} {s : Shared} {Q E : Value → Shared → Prop}

theorem words_C14_1 : True := by
  k_with "go" =>
    repeat' (first | (k_unfold; (try dsimp only)) | (k_end; fail) | walk1 | (dsimp only; walk1) | fail "no step")
  k_with "execs cons" =>
    refine wpAny_execs_cons ?_
  k_with "execs nil" =>
    refine wpAny_execs_nil ?_
  k_with "my intro" =>
    (intro hc; try (exfalso; omega))
  k_with "ite" =>
    first
      | with_reducible refine ite_T ?_ | with_reducible refine ite_F ?_ | with_reducible refine ite_nT ?_ | with_reducible refine ite_nF ?_
      | (with_reducible refine ite_D ?_ ?_ <;> walk_at "my intro") | (with_reducible refine ite_nD ?_ ?_ <;> walk_at "my intro") | (with_reducible refine ite_B ?_ ?_ <;> walk_at "my intro") | (with_reducible refine ite_nB ?_ ?_ <;> walk_at "my intro")
  k_with "my len" =>
    first | omega | (simp only [List.length_cons, List.length_nil]; omega)
  k_with "bc" =>
    first | exact bc_ | exact bc_10 | exact bc_34 | exact bc_36 | exact bc_39 | exact bc_92 | exact bc_123 | exact bc_125 | exact bc_126
  k_with "ba" =>
    first | assumption | walk_at "bc"
  k_with "compareOp Eq bytes bytes" =>
    first | with_reducible refine eq_one (by assumption) (by omega) (by first | rfl | omega) (by walk_at "bc") ?_ | with_reducible refine eq_K1 (by walk_at "ba") (by walk_at "bc") ?_ | with_reducible refine eq_Kt (by walk_at "ba") (by walk_at "bc") rfl ?_ | refine eq_Kf (by walk_at "ba") (by walk_at "bc") (by simp; done) ?_
  k_with "compareOp NotEq bytes bytes" =>
    first | with_reducible refine ne_one (by assumption) (by omega) (by first | rfl | omega) (by walk_at "bc") ?_ | refine ne_K (by first | assumption | walk_at "bc") (by first | assumption | walk_at "bc") ?_
  k_with "my intro" =>
    (intro hc; try (first | (exfalso; omega) | (exfalso; simp at hc; done) | (exfalso; rw [beq_iff_eq] at hc; omega) | (exfalso; rw [beq_eq_false_iff_ne] at hc; omega)))
  k_with "subscriptTail" =>
    (k_here; (with_reducible show wpAny _ _ (subscriptTail _ (Expr.Slice _ _ none _) (Value.bytes _ _) (Value.ref _)) _ _ _); (with_reducible rename Fr _ _ _ _ => F'); (with_reducible rename News _ _ _ _ => N'); (refine KBc.slice_K (s := ⟨_, _, _, _, _⟩) F' N' (by first | assumption | kba_ints) (by constructor) (by constructor) (by first | walk_at "my len" | kba_size) ?_); intro _ _ _ _ _ kbcK; clear kbcK)
  k_with "subscriptTail" =>
    (k_here; (with_reducible show wpAny _ _ (subscriptTail _ _ (Value.bytes _ _) (Value.int _ _)) _ _ _); (refine KBw.item_K (by assumption) (by walk_at "my len") (by walk_at "my len") (by walk_at "my len") ?_); intro _ _ kbaLo kbaHi)
  k_with "eval Call" =>
    k_dflt (refine Call_ ?_)
  k_with "my mem" =>
    first | assumption | (refine List.Mem.tail _ ?_; walk_at "my mem")
  k_with "call ref" =>
    ((with_reducible show wpAny _ _ (call (Value.ref 163) _) _ _ _); k_dflt (refine' c_lescape ?hb ?hz ?h0 ?h1 ?B ?F ?X ?N ?T ?hk ?hd ?hu ?_; (case hb => assumption); (case hz => omega); (case h0 => omega); (case h1 => omega); (case B => k_asm); (case F => k_asm); (case X => k_asm); (case N => k_asm); (case T => k_asm); (case hk => exact rfl); (case hd => ktr_room); (case hu => ktr_units)); (refine resT_elim ?_ ?_ <;> intros))
  k_with "call ref" =>
    ((with_reducible show wpAny _ _ (call (Value.ref 170) _) _ _ _); k_dflt (refine' c_lvar ?hb ?hz ?h0 ?h1 ?km ?kd ?kl ?ke ?B ?F ?X ?N ?T ?hk ?hd ?hu ?_; (case hb => assumption); (case hz => omega); (case h0 => omega); (case h1 => omega); (case km => walk_at "my mem"); (case kd => assumption); (case kl => assumption); (case ke => assumption); (case B => k_asm); (case F => k_asm); (case X => k_asm); (case N => k_asm); (case T => k_asm); (case hk => exact rfl); (case hd => ktr_room); (case hu => ktr_units)); (refine resT_elim ?_ ?_ <;> intros))
  k_with "cstep" =>
    first
      | with_reducible refine wpC_execs_cons ?_
      | with_reducible refine wpC_execs_nil ?_
      | ((with_reducible show wpC _ _ (exec (Stmt.If _ _ _ _) _) _ _ _); refine wpC_If ?_)
      | ((with_reducible show wpC _ _ (exec (Stmt.Expr _ _) _) _ _ _); refine wpC_Expr ?_)
      | ((with_reducible show wpC _ _ (exec (Stmt.Assign _ _ _) _) _ _ _); refine wpC_leaf ?_)
      | ((with_reducible show wpC _ _ (exec (Stmt.Raise _ _ _) _) _ _ _); refine wpC_leaf ?_)
      | ((with_reducible show wpC _ _ (exec (Stmt.While _ _ _ _) _) _ _ _); refine wpC_leaf ?_)
      | ((with_reducible show wpC _ _ (exec (Stmt.Continue _) _) _ _ _); refine wpC_leaf ?_)
      | ((with_reducible show wpC _ _ (exec (Stmt.Return _ _) _) _ _ _); refine wpC_leaf ?_)
      | ((with_reducible show wpC _ _ (eval (Expr.Call (Expr.Attribute _ _ _) _ [] _) _) _ _ _); refine wpC_MethodCall ?_)
      | ((with_reducible show wpC _ _ (callWith _ (Value.builtin _) _ _ _) _ _ _); refine wpC_callWith_b ?_)
      | ((with_reducible show wpC _ _ (callWith _ (Value.ref _) _ _ _) _ _ _); first | (refine' wpC_callWith_K ?k1 ?k2 ?_; (case k1 => k_asm); (case k2 => k_is); k_whole) | (refine' wpC_callWith_K0 ?k1 ?k2 ?_; (case k1 => k_in); (case k2 => k_is); k_whole; dsimp only [List.nil_append, List.cons_append]))
      | ((with_reducible show wpC _ _ (call (Value.builtin _) _ _) _ _ _); walk_at "ccallb")
      | ((with_reducible show wpC _ _ (call (Value.ref _) _ _) _ _ _); walk_at "ccall")
      | ((with_reducible show And (Frag.In _ _) _); refine ⟨by k_in, ?_⟩)
  k_with "ccallb" =>
    first
      | (k_dflt (refine' append_C ?F ?N ?h0 ?h1 ?hz ?U ?_; (case F => k_asm); (case N => k_asm); (case h0 => walk_at "byte lo"); (case h1 => walk_at "byte hi"); (case U => k_upd); (case hz => omega)); intro h' F' N'; (try k_sweep))
      | (k_dflt (refine' extend_C ?F ?N ?hz ?U ?_; (case F => k_asm); (case N => k_asm); (case U => k_upd); (case hz => walk_at "ext size")); intro h' F' N'; (try k_sweep))
  k_with "byte lo" =>
    first | omega | exact (escS_in ⟨by omega, by omega⟩).1
  k_with "byte hi" =>
    first | omega | exact (escS_in ⟨by omega, by omega⟩).2
  k_with "ext size" =>
    omega
  k_with "wpC" =>
    k_dflt (walk_at "cstep")
  k_with "cgo" =>
    repeat' (first | (k_unfold; (try dsimp only)) | (k_end; fail) | walk1 | (dsimp only; walk1) | fail "no step")
  k_with "c enter" =>
    (k_dflt (refine' defC ?k1 ?k2 ?k3 ?k4 ?k5 ?kA ?kF ?kK ?k6 ?k7 ?k8 ?k9 ?kB ?_ ?c2 ?c3 ?c4 ?c5; (case kA => exact rfl); (case kF => exact rfl); (case kK => assumption); (case k1 => k_asm); (case k2 => k_asm); (case k3 => k_asm); (case k4 => k_asm); (case k5 => k_asm); (case k6 => k_is); (case k7 => k_is); (case k8 => ktr_room); (case k9 => exact BindsTo.of_eq rfl); (case c5 => decide); (case kB => exact locs rfl); (case c2 => exact rfl); (case c3 => exact rfl); (case c4 => exact rfl); k_whole; intro g' L' h' FG' F' N' B' X' T'; (try dsimp only); (try k_lift B'); (try k_fold)))
  k_with "exec Raise some none" =>
    refine wpAny_Raise_bad rfl ?_
  k_with "call ref" =>
    ((with_reducible show wpAny _ _ (call (Value.ref 45) _) _ _ _); k_dflt (refine' c_badcmd ?B ?F ?X ?N ?T ?hk ?hd ?hu ?_; (case B => k_asm); (case F => k_asm); (case X => k_asm); (case N => k_asm); (case T => k_asm); (case hk => exact rfl); (case hd => ktr_room); (case hu => ktr_units)); intro e' t' D' h' tk' tkk' F' N' het' hne'; refine ⟨e', some D', t', _, rfl, by assumption, F'.keep, (N' _ (.tail _ (.head _))).1, ?_⟩; refine stop_in ?_)
  k_with "sub" =>
    (intro q hq; simp [hq])
  k_with "call ref" =>
    ((with_reducible show wpAny _ _ (call (Value.ref 68) _) _ _ _); k_dflt (refine' c_oct ?hb ?h0 ?hj ?B ?F ?X ?N ?T ?hk ?hd ?hu ?_ ?_; (case hb => assumption); (case h0 => omega); (case hj => omega); (case B => k_asm); (case F => k_asm); (case X => k_asm); (case N => k_asm); (case T => k_asm); (case hk => exact rfl); (case hd => ktr_room); (case hu => ktr_units)); intros)
  k_with "call ref" =>
    ((with_reducible show wpAny _ _ (call (Value.ref 61) _) _ _ _); k_dflt (refine' c_escaped ?B ?F ?X ?N ?T ?hk ?hd ?hu ?_; (case B => k_asm); (case F => k_asm); (case X => k_asm); (case N => k_asm); (case T => k_asm); (case hk => exact rfl); (case hd => ktr_room); (case hu => ktr_units)); intro v' t' h' tk' ev' F' N'; subst ev')
  k_with "getMethod ref" =>
    (k_here; (with_reducible show wpAny _ _ (getMethod (Value.ref _) (Str.ofString "append") _) _ _ _); k_dflt (refine method_ba (by assumption) (by k_mem) f_append_slot f_append_type ?_))
  k_with "getMethod ref" =>
    (k_here; (with_reducible show wpAny _ _ (getMethod (Value.ref _) (Str.ofString "extend") _) _ _ _); k_dflt (refine method_ba (by assumption) (by k_mem) f_extend_slot f_extend_type ?_))
  k_with "setAttr ref" =>
    (k_here; k_dflt (refine' set_dict ?k1 ?k2 ?k3 ?k4 ?k5 ?k6 ?k7 ?k8 ?k9 ?k10 ?k11 ?k12 ?k13 ?_; (case k1 => k_asm); (case k2 => k_asm); (case k3 => k_asm); (case k4 => k_inst); (case k5 => exact rfl); (case k6 => k_is); (case k7 => k_is); (case k8 => k_is); (case k9 => k_is); (case k10 => k_get); (case k11 => k_put); (case k12 => k_upd); (case k13 => exact Nat.le_of_ble_eq_true rfl); k_whole); intro h' F' N'; (try k_sweep))
  k_with "cstep2" =>
    first
      | ((with_reducible show wpC _ _ (eval (Expr.Tuple _ _ _) _) _ _ _); refine wpC_Tuple ?_)
      | ((with_reducible show wpC _ _ (spliced (backTo _ (starEach (_ :: _) _))) _ _ _); refine wpC_spl_cons ?_)
      | ((with_reducible show wpC _ _ (spliced (backTo _ (starEach [] _))) _ _ _); refine wpC_spl_nil ?_)
      | ((with_reducible show wpC _ _ (eval (Expr.Name _ _) _) _ _ _); refine wpC_leaf ?_)
      | ((with_reducible show wpC _ _ (eval (Expr.Attribute _ _ _) _) _ _ _); refine wpC_leaf ?_)
      | ((with_reducible show wpC _ _ (eval (Expr.Constant _ _ _) _) _ _ _); refine wpC_leaf ?_)
      | ((with_reducible show wpC _ _ (eval (Expr.Call (Expr.Name _ _) _ [] _) _) _ _ _); refine wpC_Call ?_)
      | ((with_reducible show wpC _ _ (callWith _ (Value.type _) _ _ _) _ _ _); refine wpC_callWith_t0 ?_)
  trivial
theorem ne_gt {a b : Addr} (h : a < b) : @Ne Nat b a := Nat.ne_of_gt h
theorem all_ne {a : Addr} {l : List (Addr × Obj)} (h : ∀ p ∈ l, p.1 < a) : ∀ p ∈ l, p.1 ≠ a := fun p hp => Nat.ne_of_lt (h p hp)
local macro_rules | `(tactic| k_all) => `(tactic| assumption)
theorem c_lwE {b : Array UInt8} {ks : List Int} {tb : Tok} {kd : Addr} {ko : Obj} {kvs : List (List UInt8 × Value)} {env : Env8} {z : Int} (hW : wrdT b ks env = .error z) (hb : KBw.bInts b = ks) (hz : ks.length ≤ 1000)
  (hkm : (kd, ko) ∈ news) (hkd : ko.IsDictOf (bytesKind PySem.Challenge.rw_pq1181_01.row.prog w) kvs) (klo : (kd == sysModules) = false) (henv : EnvIs kvs env) (hsz : ∀ k x, env k = some x → x.size ≤ 4)
  (B : Below A₀ base outer h₀) (F : Fr h₀ L s.heap m) (X : (Tops.hd.heap_39 w.params).In h₀) (N : News h₀ L s.heap news) (T : Top p loose mean mg mb h₀) (hk : cs.kind = .function)
  (hd : dp + 5 < recursionLimit) (hu : un + 40 < cLine)
  (ret : ∀ t h' tk', Fr h₀ L h' m → News h₀ L h' news → Q (.int z t) { s with heap := h', toks := tk' }) :
  wpAny (model PySem.Challenge.rw_pq1181_01.row.prog w) (ktrTop dp un gd cn cs L a ccd cl outer) (call (.ref 191) [.bytes b tb, .ref kd]) Q E s :=
  c_lword hb hz hkm hkd klo henv hsz B F X N T hk hd hu fun v h' tk' hr F' => by
    rw [hW] at hr
    obtain ⟨⟨e', t, rfl, rfl⟩, N'⟩ := hr
    exact ret t h' tk' F' N'
theorem c_lwO {b : Array UInt8} {ks : List Int} {tb : Tok} {kd : Addr} {ko : Obj} {kvs : List (List UInt8 × Value)} {env : Env8} {x : Array UInt8} {q : Bool} {j : Int} (hW : wrdT b ks env = .ok (x, q, j)) (hb : KBw.bInts b = ks) (hz : ks.length ≤ 1000)
  (hkm : (kd, ko) ∈ news) (hkd : ko.IsDictOf (bytesKind PySem.Challenge.rw_pq1181_01.row.prog w) kvs) (klo : (kd == sysModules) = false) (henv : EnvIs kvs env) (hsz : ∀ k x, env k = some x → x.size ≤ 4)
  (B : Below A₀ base outer h₀) (F : Fr h₀ L s.heap m) (X : (Tops.hd.heap_39 w.params).In h₀) (N : News h₀ L s.heap news) (T : Top p loose mean mg mb h₀) (hk : cs.kind = .function)
  (hd : dp + 5 < recursionLimit) (hu : un + 40 < cLine)
  (ret : ∀ T tx tj h' tk', Fr h₀ L h' m → News h₀ L h' ((T, tupO [.bytes x tx, .bool q, .int j tj]) :: news) → Q (.ref T) { s with heap := h', toks := tk' }) :
  wpAny (model PySem.Challenge.rw_pq1181_01.row.prog w) (ktrTop dp un gd cn cs L a ccd cl outer) (call (.ref 191) [.bytes b tb, .ref kd]) Q E s :=
  c_lword hb hz hkm hkd klo henv hsz B F X N T hk hd hu fun v h' tk' hr F' => by
    rw [hW] at hr
    obtain ⟨T, x', q', j', tx, tj, rfl, rfl, rfl, rfl, N'⟩ := hr
    exact ret T tx tj h' tk' F' N'
theorem c_wordE {b : Array UInt8} {ks : List Int} {tb ti k1 k2 k3 : Tok} {kd R RD : Addr} {ko : Obj} {kvs : List (List UInt8 × Value)} {env : Env8} {rest : List (Addr × Obj)} {z : Int} (hW : wrdT b ks env = .error z) (hb : KBw.bInts b = ks) (hz : ks.length ≤ 1000)
  (hkm : (kd, ko) ∈ rest) (hkd : ko.IsDictOf (bytesKind PySem.Challenge.rw_pq1181_01.row.prog w) kvs) (klo : (kd == sysModules) = false) (henv : EnvIs kvs env) (hsz : ∀ k x, env k = some x → x.size ≤ 4)
  (B : Below A₀ base outer h₀) (F : Fr h₀ L s.heap m) (X : (Tops.hd.heap_39 w.params).In h₀) (N : News h₀ L s.heap ((RD, rdO w.params b tb kd 0 ti k1 k2 k3) :: (R, instObj 120 RD) :: rest)) (T : Top p loose mean mg mb h₀) (hk : cs.kind = .function)
  (n3 : @Ne Nat R RD) (n5 : ∀ p ∈ rest, p.1 ≠ RD)
  (hd : dp + 12 < recursionLimit) (hu : un + 60 < cLine)
  (err : ∀ e t D ti' k g h' tk', Fr h₀ L g m → RaisedX base g (envOf cn cs L a ccd :: outer) e 45 t [.int z ti'] D ((D, toO w.params z ti' k) :: rest) h' → g.UpToSlots h' → E (.ref e) { s with heap := h', toks := tk' }) :
  wpC (model PySem.Challenge.rw_pq1181_01.row.prog w) (ktrTop dp un gd cn cs L a ccd [] outer) (call (.ref 89) [.ref R]) Q E s :=
  c_word hb hz hkm hkd klo henv hsz B F X N T hk n3 n5 hd hu (fun _ _ _ _ _ _ _ _ h => by rw [hW] at h; cases h) (fun z' h => by rw [hW] at h; cases h; exact err)
theorem c_wordO {b : Array UInt8} {ks : List Int} {tb ti k1 k2 k3 : Tok} {kd R RD : Addr} {ko : Obj} {kvs : List (List UInt8 × Value)} {env : Env8} {rest : List (Addr × Obj)} {x : Array UInt8} {q : Bool} {j : Int} (hW : wrdT b ks env = .ok (x, q, j)) (hb : KBw.bInts b = ks) (hz : ks.length ≤ 1000)
  (hkm : (kd, ko) ∈ rest) (hkd : ko.IsDictOf (bytesKind PySem.Challenge.rw_pq1181_01.row.prog w) kvs) (klo : (kd == sysModules) = false) (henv : EnvIs kvs env) (hsz : ∀ k x, env k = some x → x.size ≤ 4)
  (B : Below A₀ base outer h₀) (F : Fr h₀ L s.heap m) (X : (Tops.hd.heap_39 w.params).In h₀) (N : News h₀ L s.heap ((RD, rdO w.params b tb kd 0 ti k1 k2 k3) :: (R, instObj 120 RD) :: rest)) (T : Top p loose mean mg mb h₀) (hk : cs.kind = .function)
  (n3 : @Ne Nat R RD) (n5 : ∀ p ∈ rest, p.1 ≠ RD)
  (hd : dp + 12 < recursionLimit) (hu : un + 60 < cLine)
  (ret : ∀ T tx tj h' tk', Fr h₀ L h' m → News h₀ L h' ((T, tupO [.bytes x tx, .bool q]) :: (RD, rdO w.params b tb kd j tj k1 k2 k3) :: (R, instObj 120 RD) :: rest) → Q (.ref T) { s with heap := h', toks := tk' }) :
  wpC (model PySem.Challenge.rw_pq1181_01.row.prog w) (ktrTop dp un gd cn cs L a ccd [] outer) (call (.ref 89) [.ref R]) Q E s :=
  c_word hb hz hkm hkd klo henv hsz B F X N T hk n3 n5 hd hu (fun x' q' j' T tx tj h' tk' h => by rw [hW] at h; cases h; exact ret T tx tj h' tk') (fun z' h => by rw [hW] at h; cases h)
theorem words_C14_2 : True := by
  k_with "ct enter" =>
    (k_dflt (refine' defCX ?k1 ?k2 ?k3 ?k4 ?k5 ?kA ?kF ?k6 ?k7 ?k8 ?k9 ?kB ?_ ?c2 ?c3 ?c4 ?c5; (case kA => exact rfl); (case kF => assumption); (case k1 => k_asm); (case k2 => k_asm); (case k3 => k_asm); (case k4 => k_asm); (case k5 => k_asm); (case k6 => k_is); (case k7 => k_is); (case k8 => ktr_room); (case k9 => exact BindsTo.of_eq rfl); (case c5 => decide); (case kB => exact locs rfl); (case c2 => exact rfl); (case c3 => exact rfl); (case c4 => exact rfl); k_whole; intro g' L' h' FG' F' N' B' X' T'; (try dsimp only); (try k_lift B'); (try k_fold)))
  k_with "call ref" =>
    ((with_reducible show wpAny _ _ (call (Value.ref 191) _) _ _ _); k_dflt (refine' c_lwE ?hW ?hb ?hz ?km ?kd ?kl ?ke ?ks ?B ?F ?X ?N ?T ?hk ?hd ?hu ?_; (case hW => assumption); (case hb => assumption); (case hz => assumption); (case N => k_asm); (case km => walk_at "my mem"); (case kd => assumption); (case kl => assumption); (case ke => assumption); (case ks => assumption); (case B => k_asm); (case F => k_asm); (case X => k_asm); (case T => k_asm); (case hk => exact rfl); (case hd => ktr_room); (case hu => ktr_units)); intro t' h' tk' F' N')
  k_with "call ref" =>
    ((with_reducible show wpAny _ _ (call (Value.ref 191) _) _ _ _); k_dflt (refine' c_lwO ?hW ?hb ?hz ?km ?kd ?kl ?ke ?ks ?B ?F ?X ?N ?T ?hk ?hd ?hu ?_; (case hW => assumption); (case hb => assumption); (case hz => assumption); (case N => k_asm); (case km => walk_at "my mem"); (case kd => assumption); (case kl => assumption); (case ke => assumption); (case ks => assumption); (case B => k_asm); (case F => k_asm); (case X => k_asm); (case T => k_asm); (case hk => exact rfl); (case hd => ktr_room); (case hu => ktr_units)); intro T' tx' tj' h' tk' F' N')
  k_with "call type:dict" =>
    (k_here; (with_reducible show wpAny _ _ (call (Value.type "dict") [Value.ref _]) _ _ _); k_dflt (refine dict_copy (knd := bytesKind _ _) (by k_asm) (by k_asm) (Top.nolimit (by k_asm)) (by walk_at "my mem") (by assumption) (by assumption) (by omega) ?_); intro d' h' o' F' N' l1 lo' hd'; (try k_lt l1))
  k_with "try stop" =>
    ((with_reducible show wpC _ _ (exec (Stmt.Try _ _ _ _ _) _) _ _ _); refine stopC ?_)
  k_with "cstep" =>
    walk_at "try stop"
  k_with "cstep" =>
    walk_at "cstep2"
  k_with "cstep" =>
    ((with_reducible show wpC _ _ (exec (Stmt.Assign [Expr.Tuple _ _ _] (Expr.Call _ _ _ _) _) _) _ _ _); first | refine wpC_Assign_swapped ?_ | refine wpC_Assign_Tuple ?_)
  k_with "call type:bytes" =>
    (k_here; (with_reducible show wpAny _ _ (call (Value.type "bytes") [Value.bytes _ _]) _ _ _); k_dflt (refine bytes_b ?_))
  k_with "call ref" =>
    ((with_reducible show wpAny _ _ (call (Value.ref 120) _) _ _ _); k_dflt (refine' c_reader ?B ?F ?X ?N ?T ?hk ?hd ?hu ?_; (case N => k_asm); (case B => k_asm); (case F => k_asm); (case X => k_asm); (case T => k_asm); (case hk => exact rfl); (case hd => ktr_room); (case hu => ktr_units)); intro R' RD' ti' k1' k2' k3' h' tk' F' N' hl1 hl2; (have n3' := ne_gt hl2); (have n5' := all_ne hl1))
  k_with "ccall" =>
    ((with_reducible show wpC _ _ (call (Value.ref 89) _ _) _ _ _); k_dflt (refine' c_wordE ?hW ?hb ?hz ?km ?kd ?kl ?ke ?ks ?B ?F ?X ?N ?T ?hk ?n3 ?n5 ?hd ?hu ?_; (case hW => assumption); (case hb => assumption); (case F => k_asm); (case N => exact news_tl (by assumption)); (case km => walk_at "my mem"); (case kd => assumption); (case kl => assumption); (case ke => assumption); (case ks => assumption); (case B => k_asm); (case X => k_asm); (case T => k_asm); (case hz => assumption); (case hk => exact rfl); (case n3 => assumption); (case n5 => assumption); (case hd => ktr_room); (case hu => ktr_units)); intros; (refine stop_in ?_))
  k_with "ccall" =>
    ((with_reducible show wpC _ _ (call (Value.ref 89) _ _) _ _ _); k_dflt (refine' c_wordO ?hW ?hb ?hz ?km ?kd ?kl ?ke ?ks ?B ?F ?X ?N ?T ?hk ?n3 ?n5 ?hd ?hu ?_; (case hW => assumption); (case hb => assumption); (case F => k_asm); (case N => exact news_tl (by assumption)); (case km => walk_at "my mem"); (case kd => assumption); (case kl => assumption); (case ke => assumption); (case ks => assumption); (case B => k_asm); (case X => k_asm); (case T => k_asm); (case hz => assumption); (case hk => exact rfl); (case n3 => assumption); (case n5 => assumption); (case hd => ktr_room); (case hu => ktr_units)); intro T' tx' tj' h' tk' F' N')
  k_with "mem any" =>
    first | assumption | exact List.Mem.head _ | (refine List.Mem.tail _ ?_; walk_at "mem any")
  k_with "compareOp Eq ref ref" =>
    (k_here; k_dflt (first
      | refine eq_three (by assumption) (by k_mem) (by k_mem) (by ktr_units) ?_
      | refine eq_dicts (knd := bytesKind _ _) (by assumption) (by walk_at "mem any") (by walk_at "mem any") (by assumption) (by assumption) (by assumption) (by assumption) (by ktr_units) (by assumption) ?_))
  k_with "getAttr ref" =>
    (k_here; (with_reducible show wpAny _ _ (getAttr (Value.ref _) (Str.ofString "told") _) _ _ _); k_dflt (refine told_get (by k_in) (by assumption) (List.Mem.head _) (List.Mem.tail _ (List.Mem.head _)) (by assumption) (by assumption) (by assumption) ?_))
  trivial
set_option maxHeartbeats 1200000 in
theorem c_lright {b : Array UInt8} {ks : List Int} {tb : Tok} {kd : Addr} {ko : Obj} {kvs : List (List UInt8 × Value)} {env : Env8} (hb : KBw.bInts b = ks) (hz : ks.length ≤ 1000)
  (hkm : (kd, ko) ∈ news) (hkd : ko.IsDictOf (bytesKind PySem.Challenge.rw_pq1181_01.row.prog w) kvs) (klo : (kd == sysModules) = false) (henv : EnvIs kvs env) (hsz : ∀ k x, env k = some x → x.size ≤ 4) (hkl : kvs.length ≤ 1000) (hself : ∀ p ∈ kvs, valueAt kvs p.1 = some p.2)
  (XB : (Tops.hd.heap_39 w.params).In base) (TB : Top p loose mean mg mb base)
  (B : Below A₀ base outer h₀) (F : Fr h₀ L s.heap m) (X : (Tops.hd.heap_39 w.params).In h₀) (N : News h₀ L s.heap news) (T : Top p loose mean mg mb h₀) (hk : cs.kind = .function)
  (hd : dp + 20 < recursionLimit) (hu : un + 100 < cLine)
  (ret : ∀ g h' tk', KtsTurn (outer.filterMap (·.frame)) h₀ g → Fr g L h' m → News g L h' news → Below A₀ base outer g → Q (.bool true) { s with heap := h', toks := tk' }) :
  wpC (model PySem.Challenge.rw_pq1181_01.row.prog w) (ktrTop dp un gd cn cs L a ccd cl outer) (call (.ref 198) [.bytes b tb, .ref kd]) Q E s := by
  refine wpC_call ?_
  cases hW : wrdT b ks env with
  | error z =>
    walk_at "ct enter"
    walk_at "cgo"
    unfold Stop
    refine wpC_Try ?_
    walk_at "cgo"
    unfold Stop
    refine caughtY (by assumption) (by assumption) (by assumption) (by assumption) XB TB (by k_is) (by kts_isx) ?_
    rintro h2 g2 tk oe KT F2 N2 hoc hod hon hne B2 X2 T2
    walk_at "cgo"
    exact ⟨_, _, _, _, KT, by assumption, by assumption, fun g KT FF NN BB => ret g _ _ KT FF (fun q hq => NN q (by simp [hq])) BB⟩
  | ok r =>
    obtain ⟨x, q, j⟩ := r
    walk_at "ct enter"
    walk_at "cgo"
    unfold Stop
    refine wpC_Try ?_
    walk_at "cgo"
    exact ⟨_, _, _, _, KtsTurn.refl, by assumption, by assumption, fun g KT FF NN BB => ret g _ _ KT FF (fun q hq => NN q (by simp [hq])) BB⟩

end
end Mine
end
section
open PySem PySem.W PyProof.Rows PySem.Spec PySem.Calls
namespace Mine
set_option maxRecDepth 100000
section
variable {prog : Program} {w : World} {R : Result → Shared → Prop} {s : Shared} {fa : Addr} {o : Obj} {vals : List Value} {binds : List (Str × Value)} {name : Str} {params : Arguments} {body : List Stmt} {scope : Scope} {pm cd doc kV : Value}
theorem law_enter (ho : s.heap.get? fa = some o) (hd : o.data = .func { docDef name params body scope pm cd doc with defaults := .none, kwdefaults := kV }) (hbig : s.heap.NoLimit) (hcd : s.heap.CodeRec cd name)
    (hbind : BindsTo s { docDef name params body scope pm cd doc with defaults := .none, kwdefaults := kV } ⟨vals, []⟩ binds)
    (hkind : ∀ n, ∀ x ∈ binds, scope.names.lookup x.1 = some .local ∨ (scope.names.lookup x.1 = some .cell ∧ ((cellsFrom n scope.names []).lookup x.1).isSome = true))
    (hnd : ((cellsFrom 0 scope.names []).map (·.1)).Nodup)
    (h : ∀ L h₁ tk cells, Fr s.heap L h₁ (bindL (envOfC name scope L fa cd).kindOf binds fun _ => none) → News s.heap L h₁ cells → CellsAre (bindC (envOfC name scope L fa cd).kindOf binds fun _ => none) (cellsFrom (L + 1) scope.names []) cells →
      wpC (model prog w) (callerA.deeper (envOfC name scope L fa cd)) (execs body (envOfC name scope L fa cd)) (fun f s' => R (.ok (.ret (match f with | .ret v => v | _ => .none))) s')
        (fun e s' => wpAny (model prog w) (callerA.deeper (envOfC name scope L fa cd)) (leaving (envOfC name scope L fa cd) e) (fun _ s'' => R (.error e) s'') (fun e' s'' => R (.error e') s'') s') { s with heap := h₁, toks := tk })
    (hco : scope.isCoroutine = false) (hgen : scope.isGenerator = false) (hk : scope.kind = .function) :
    codeC (model prog w) callerA (.call (.ref fa) ⟨vals, []⟩) R s := by
  refine codeC_call_function (by decide) ho hd hco hgen rfl hcd (hbind _ _ _ _ ?_)
  refine wpAny_newFunctionEnv_cells hk (hkind _) fun env' he s' x => ?_
  subst he
  refine ⟨hbig.keeps x.toInCall.keep, codeC_func ?_⟩
  obtain ⟨h₁, tk, rfl, _⟩ := x.done
  have hk₁ := x.toInCall.keep
  obtain ⟨cells, NC, Y⟩ := Cl.news (h₀ := s.heap) (Nat.le_refl _) fun n c hm => ⟨x.cell n c (lookup_of_mem_nodup (cellsFrom_names scope.names 0 (s.heap.objs.size + 1) [] [] rfl ▸ hnd) hm), x.above n c hm⟩
  exact h _ h₁ tk cells ⟨x.toInCall.ns, hk₁, Nat.le_refl _⟩ NC Y
end
end Mine
end
section
open PySem PySem.W PyProof.Rows PySem.Spec PySem.Calls
namespace Mine
set_option maxRecDepth 100000
set_option maxHeartbeats 8000000
theorem fillK_C18 : Dummy PySem.Challenge.rw_pq1181_01 Tops.hd.heap_39 := by w_top off; k_with_none; k_fill; trivial
section
variable {w : World} {p : Program} {loose : List Str} {mean : ExcName → Option Value} {mg mb : Str → Option Value}
  {dp un : Nat} {gd : Option (List Code)} {cn : Str} {cs : Scope} {a : Addr} {ccd : Value} {cl : List (Str × Addr)} {outer : List Env} {A₀ : Around} {base h₀ : Heap} {L : Addr} {m : Str → Option Value} {news : List (Addr × Obj)} {s : Shared} {Q E : Value → Shared → Prop}

theorem words_C18_1 : True := by
  k_with "go" =>
    repeat' (first | (k_unfold; (try dsimp only)) | (k_end; fail) | walk1 | (dsimp only; walk1) | fail "no step")
  k_with "execs cons" =>
    refine wpAny_execs_cons ?_
  k_with "execs nil" =>
    refine wpAny_execs_nil ?_
  k_with "my intro" =>
    (intro hc; try (exfalso; omega))
  k_with "ite" =>
    first
      | with_reducible refine ite_T ?_ | with_reducible refine ite_F ?_ | with_reducible refine ite_nT ?_ | with_reducible refine ite_nF ?_
      | (with_reducible refine ite_D ?_ ?_ <;> walk_at "my intro") | (with_reducible refine ite_nD ?_ ?_ <;> walk_at "my intro") | (with_reducible refine ite_B ?_ ?_ <;> walk_at "my intro") | (with_reducible refine ite_nB ?_ ?_ <;> walk_at "my intro")
  trivial
theorem If_own {M : Model} {A : Around} {env : Env} {E : Value → Shared → Prop} {s : Shared} {test : Expr} {body orelse : List Stmt} {pos : Pos} {Q : Flow → Shared → Prop} (h : wpAny M A (isTrue test env (eval test env)) (fun b s₂ => if b = true then wpAny M A (execs body env) Q E s₂ else wpAny M A (execs orelse env) Q E s₂) E s) : wpAny M A (exec (.If test body orelse pos) env) Q E s := by
  rw [exec_If]
  refine wpAny_bind (wpAny_standAt (wpAny_bind (wpAny_mono h (fun b s₂ h₂ => ?_) fun _ _ x => x)))
  cases b <;> simpa using h₂
theorem fmod_in {x below : Int} (h : 0 < below) : 0 ≤ x.fmod below ∧ x.fmod below < below := ⟨Int.fmod_nonneg_of_pos _ h, Int.fmod_lt_of_pos _ h⟩
theorem ints_push {us : List Value} {l : List Int} {i : Int} {t : Tok} (hi : IntsAre us l) : IntsAre (us ++ [.int i t]) (l ++ [i]) := by
  induction hi with
  | nil => exact .cons _ _ .nil
  | cons k t _ ih => exact .cons k t ih
theorem ints_pos {us : List Value} {l : List Int} (hi : IntsAre us l) (h : (!decide (l = [])) = true) : 0 < us.length := by
  cases hi with
  | nil => simp at h
  | cons _ _ _ => simp
local macro_rules | `(tactic| k_all) => `(tactic| assumption)
theorem words_C18_2 : True := by
  k_with "exec If Compare cons nil" =>
    refine If_own ?_
  k_with "compareOp NotEq ref ref" =>
    (k_here; k_dflt (refine ke_ne_ints (News.isList (by assumption) (by k_mem)) (News.isList (by assumption) (List.Mem.head _)) (by assumption) (by constructor) (by ktr_units) ?_))
  k_with "call builtin:list.pop" =>
    (k_here; (with_reducible show wpAny _ _ (call (Value.builtin _) [Value.ref _]) _ _ _); k_dflt (refine' kpa_pop ?F ?N ?U ?i ?l ?z ?_; (case F => k_asm); (case N => k_asm); (case U => k_upd); (case i => assumption); (case l => exact ints_pos (by assumption) (by assumption)); (case z => (rw [sizeLine_eq]; omega))); intro h' t' F' N' hI')
  k_with "call builtin:list.append" =>
    (k_here; (with_reducible show wpAny _ _ (call (Value.builtin _) [Value.ref _, _]) _ _ _); k_dflt (refine' append_K ?k1 ?k2 ?k3 ?_ ?z; (case k1 => k_asm); (case k2 => k_asm); (case k3 => k_upd); (case z => (rw [sizeLine_eq, List.size_toArray, List.length_dropLast]; omega))); intro h' F' N')
  trivial
set_option maxHeartbeats 1000000 in
theorem c_draw {DK CL : Addr} {od : Obj} {mx tn below : Int} {tm tt tb : Tok} {vs : List Value} {ns : List Int} {n : Nat} {rest : List (Addr × Obj)} (hod : od.IsDictOf (PySem.strKind PySem.Challenge.rw_pq1181_01.row.prog w) [(Str.ofString "cells", .ref CL), (Str.ofString "mixed", .int mx tm), (Str.ofString "turn", .int tn tt)]) (lo : (DK == sysModules) = false)
  (hm : 0 ≤ mx ∧ mx < 2147483587) (ht : 0 ≤ tn ∧ tn ≤ 20) (hI : IntsAre vs ns) (hv : vs.length ≤ 64) (hb : 0 < below ∧ below ≤ 64)
  (B : Below A₀ base outer h₀) (F : Fr h₀ L s.heap m) (X : (Tops.hd.heap_39 w.params).In h₀) (N : News h₀ L s.heap ((DK, od) :: (CL, listOf vs.toArray n) :: rest)) (T : Top p loose mean mg mb h₀) (hk : cs.kind = .function)
  (n1 : @Ne Nat CL DK) (n4 : ∀ p ∈ rest, p.1 ≠ DK) (n5 : ∀ p ∈ rest, p.1 ≠ CL)
  (hd : dp + 4 < recursionLimit) (hu : un + 200 < cLine)
  (ret : ∀ v t od' vs' ns' n' tt' h' tk', (0 ≤ v ∧ v < below) → od'.IsDictOf (PySem.strKind PySem.Challenge.rw_pq1181_01.row.prog w) [(Str.ofString "cells", .ref CL), (Str.ofString "mixed", .int mx tm), (Str.ofString "turn", .int (tn + 1) tt')] → IntsAre vs' ns' → vs'.length ≤ vs.length → Fr h₀ L h' m → News h₀ L h' ((DK, od') :: (CL, listOf vs'.toArray n') :: rest) → Q (.int v t) { s with heap := h', toks := tk' }) :
  wpAny (model PySem.Challenge.rw_pq1181_01.row.prog w) (ktrTop dp un gd cn cs L a ccd cl outer) (call (.ref 136) [.ref DK, .int below tb]) Q E s := by
  refine wpAny_call ?_
  k_dflt cell_enter
  walk_at "go"
  · rename News _ _ _ _ => N9
    rw [List.push_toArray] at N9
    refine ret _ _ _ _ (ns.dropLast ++ [(ns.getLastD 0).fdiv below]) _ _ _ _ (fmod_in hb.1) (by assumption) ?goalA ?goalB (by assumption) (news_tl N9)
    case goalA => exact ints_push (by assumption)
    case goalB =>
      rw [List.length_append, List.length_dropLast, List.length_singleton]
      have := ints_pos hI (by assumption)
      omega
  · refine ret _ _ _ _ _ _ _ _ _ (fmod_in hb.1) (by assumption) (by assumption) ?_ (by assumption) (news_tl (by assumption))
    rw [List.length_dropLast]
    omega
  · exact ret _ _ _ _ _ _ _ _ _ (fmod_in hb.1) (by assumption) (by assumption) (Nat.le_refl _) (by assumption) (news_tl (by assumption))

end
end Mine
end
section
open PySem PySem.W PyProof.Rows PySem.Spec PySem.Calls
namespace Mine
set_option maxRecDepth 100000
set_option maxHeartbeats 8000000
theorem fillK_C19 : Dummy PySem.Challenge.rw_pq1181_01 Tops.hd.heap_39 := by w_top off; k_with_none; k_fill; trivial
section
variable {w : World} {p : Program} {loose : List Str} {mean : ExcName → Option Value} {mg mb : Str → Option Value}
  {dp un : Nat} {gd : Option (List Code)} {cn : Str} {cs : Scope} {a : Addr} {ccd : Value} {cl : List (Str × Addr)} {outer : List Env} {A₀ : Around} {base h₀ : Heap} {L : Addr} {m : Str → Option Value} {news : List (Addr × Obj)} {s : Shared} {Q E : Value → Shared → Prop}

local macro_rules | `(tactic| k_all) => `(tactic| assumption)
def pieceV : Value → Bool
  | .bytes x _ => decide (x.size ≤ 8)
  | _ => false
theorem words_C19_1 : True := by
  k_with "go" =>
    repeat' (first | (k_unfold; (try dsimp only)) | (k_end; fail) | walk1 | (dsimp only; walk1) | fail "no step")
  k_with "execs cons" =>
    refine wpAny_execs_cons ?_
  k_with "execs nil" =>
    refine wpAny_execs_nil ?_
  k_with "my intro" =>
    (intro hc; try (exfalso; omega))
  k_with "ite" =>
    first
      | with_reducible refine ite_T ?_ | with_reducible refine ite_F ?_ | with_reducible refine ite_nT ?_ | with_reducible refine ite_nF ?_
      | (with_reducible refine ite_D ?_ ?_ <;> walk_at "my intro") | (with_reducible refine ite_nD ?_ ?_ <;> walk_at "my intro") | (with_reducible refine ite_B ?_ ?_ <;> walk_at "my intro") | (with_reducible refine ite_nB ?_ ?_ <;> walk_at "my intro")
  k_with "call ref" =>
    ((with_reducible show wpAny _ _ (call (Value.ref 136) _) _ _ _); k_dflt (refine' c_draw ?hod ?lo ?hm ?ht ?hI ?hv ?hb ?B ?F ?X ?N ?T ?hk ?n1 ?n4 ?n5 ?hd ?hu ?_; (case hod => assumption); (case lo => assumption); (case hm => assumption); (case ht => assumption); (case hI => assumption); (case hv => assumption); (case hb => omega); (case B => k_asm); (case F => k_asm); (case X => k_asm); (case N => k_asm); (case T => k_asm); (case hk => exact rfl); (case n1 => assumption); (case n4 => assumption); (case n5 => assumption); (case hd => ktr_room); (case hu => ktr_units)); intro v' t' od' vs' ns' n' tt' h' tk' hv' hod' hI' hl' F' N')
  trivial
theorem pieceV_of {v : Value} (h : pieceV v = true) : ∃ x t, v = .bytes x t ∧ x.size ≤ 8 := by
  cases v <;> first | cases h | exact ⟨_, _, rfl, of_decide_eq_true h⟩
theorem all_of {vs : List Value} {f : Value → Bool} (h : vs.all f = true) : ∀ v ∈ vs, f v = true := fun v hv => List.all_eq_true.mp h v hv
theorem listK {K : Frag} {h₀ h : Heap} {L a : Addr} {m : Str → Option Value} {o : Obj} {its : Array Value} {n : Nat} (X : K.In h₀) (F : Fr h₀ L h m) (e : K.lookup a = some o) (hc : o.cls = .type "list") (hd : o.data = .seq its n) : h.IsList a its :=
  ⟨o, F.keep _ _ (X _ _ e), hc, n, hd⟩
theorem item_any {prog : Program} {w : World} {A : Around} {E : Value → Shared → Prop} {s : Shared} {value slice : PySem.Expr} {l : Addr} {its : Array Value} {k : Int} {u : Tok} {Q : Value → Shared → Prop} {z : Nat} (f : Value → Bool) (hl : s.heap.IsList l its) (hz : its.size = z) (hP : its.toList.all f = true)
    (h0 : 0 ≤ k) (h1 : k < z) (hfit : z ≤ 1000) (h : ∀ v, f v = true → Q v s)
    (hs : subscripted slice false (.ref l) (.int k u) = operate [.ref l, .int k u] (getItem (.ref l) (.int k u)) := by with_unfolding_all rfl) :
    wpAny (model prog w) A (subscriptTail value slice (.ref l) (.int k u)) Q E s := by
  subst hz
  have hk : k.toNat < its.size := by omega
  refine item_listR hl h0 (by omega) (Array.getElem?_eq_getElem hk) (h _ ?_) hs
  refine all_of hP _ ?_
  rw [Array.mem_toList_iff]
  exact Array.getElem_mem hk
theorem words_C19_2 : True := by
  k_with "subscriptTail" =>
    (k_here; (with_reducible show wpAny _ _ (subscriptTail _ _ (Value.ref 144) (Value.int _ _)) _ _ _); k_dflt (refine' item_any (z := 28) pieceV ?hl ?hz ?hP ?h0 ?h1 ?hf ?_ ?hs; (case hl => exact listK (by assumption) (by assumption) (by k_is) rfl rfl); (case hz => rfl); (case hP => rfl); (case h0 => omega); (case h1 => omega); (case hf => decide); (case hs => with_unfolding_all rfl)); intro v' hv'; obtain ⟨x', t', e', hx'⟩ := pieceV_of hv'; subst e')
  trivial
set_option maxHeartbeats 1000000 in
theorem c_pickK {DK CL : Addr} {od : Obj} {mx tn : Int} {tm tt : Tok} {vs : List Value} {ns : List Int} {n : Nat} {rest : List (Addr × Obj)} (hod : od.IsDictOf (PySem.strKind PySem.Challenge.rw_pq1181_01.row.prog w) [(Str.ofString "cells", .ref CL), (Str.ofString "mixed", .int mx tm), (Str.ofString "turn", .int tn tt)]) (lo : (DK == sysModules) = false)
  (hm : 0 ≤ mx ∧ mx < 2147483587) (ht : 0 ≤ tn ∧ tn ≤ 20) (hI : IntsAre vs ns) (hv : vs.length ≤ 64)
  (B : Below A₀ base outer h₀) (F : Fr h₀ L s.heap m) (X : (Tops.hd.heap_39 w.params).In h₀) (N : News h₀ L s.heap ((DK, od) :: (CL, listOf vs.toArray n) :: rest)) (T : Top p loose mean mg mb h₀) (hk : cs.kind = .function)
  (n1 : @Ne Nat CL DK) (n4 : ∀ p ∈ rest, p.1 ≠ DK) (n5 : ∀ p ∈ rest, p.1 ≠ CL)
  (hd : dp + 5 < recursionLimit) (hu : un + 220 < cLine)
  (ret : ∀ x t od' vs' ns' n' tt' h' tk', x.size ≤ 8 → od'.IsDictOf (PySem.strKind PySem.Challenge.rw_pq1181_01.row.prog w) [(Str.ofString "cells", .ref CL), (Str.ofString "mixed", .int mx tm), (Str.ofString "turn", .int (tn + 1) tt')] → IntsAre vs' ns' → vs'.length ≤ vs.length → Fr h₀ L h' m → News h₀ L h' ((DK, od') :: (CL, listOf vs'.toArray n') :: rest) → Q (.bytes x t) { s with heap := h', toks := tk' }) :
  wpAny (model PySem.Challenge.rw_pq1181_01.row.prog w) (ktrTop dp un gd cn cs L a ccd cl outer) (call (.ref 143) [.ref DK, .ref 144]) Q E s := by
  refine wpAny_call ?_
  k_dflt cell_enter
  walk_at "go"
  exact ret _ _ _ _ _ _ _ _ _ (by assumption) (by assumption) (by assumption) (by assumption) (by assumption) (by assumption)
def refV (a b : Addr) : Value → Bool
  | .ref c => decide ((c : Nat) = a ∨ (c : Nat) = b)
  | _ => false
theorem refV_of {a b : Addr} {v : Value} (h : refV a b v = true) : ∃ c, v = .ref c ∧ (c = a ∨ c = b) := by
  cases v <;> first | cases h | exact ⟨_, rfl, of_decide_eq_true h⟩
theorem refV_all (a b : Addr) : (#[Value.ref a, Value.ref b].toList.all (refV a b)) = true := by simp [refV]
theorem words_C19_3 : True := by
  k_with "subscriptTail" =>
    (k_here; (with_reducible show wpAny _ _ (subscriptTail _ _ (Value.ref _) (Value.int _ _)) _ _ _); k_dflt (refine' item_any (z := 2) (refV _ _) ?hl ?hz ?hP ?h0 ?h1 ?hf ?_ ?hs; (case hl => exact News.isList (by assumption) (by walk_at "my mem")); (case hz => rfl); (case hP => exact refV_all _ _); (case h0 => omega); (case h1 => omega); (case hf => decide); (case hs => with_unfolding_all rfl)); intro v' hv'; obtain ⟨c', e', hx'⟩ := refV_of hv'; subst e')
  trivial
theorem len_two {prog : Program} {w : World} {A : Around} {E : Value → Shared → Prop} {s : Shared} {h₀ : Heap} {L D : Addr} {news : List (Addr × Obj)} {x y : Value} {n : Nat} {Q : Value → Shared → Prop} (N : News h₀ L s.heap news) (hm : (D, listOf #[x, y] n) ∈ news)
    (h : Q (.int 2 (s.toks + 1)) { s with toks := s.toks + 1 + 1 }) : wpAny (model prog w) A (call (.builtin "len") [.ref D]) Q E s := by
  have hl : s.heap.IsList D #[x, y] := News.isList N hm
  exact call_len_list hl (show ((2 : Nat) : Int) < 2 ^ 63 by decide) h
theorem words_C19_4 : True := by
  k_with "call builtin:len" =>
    (k_here; (with_reducible show wpAny _ _ (call (Value.builtin _) [Value.ref _]) _ _ _); k_dflt (refine len_two (by assumption) (by walk_at "my mem") ?_))
  k_with "my mem" =>
    first | assumption | (refine List.Mem.tail _ ?_; walk_at "my mem")
  trivial
set_option maxHeartbeats 1000000 in
theorem c_pickN {DK CL SM k1 k2 : Addr} {sn : Nat} {od : Obj} {mx tn : Int} {tm tt : Tok} {vs : List Value} {ns : List Int} {n : Nat} {rest : List (Addr × Obj)} (hod : od.IsDictOf (PySem.strKind PySem.Challenge.rw_pq1181_01.row.prog w) [(Str.ofString "cells", .ref CL), (Str.ofString "mixed", .int mx tm), (Str.ofString "turn", .int tn tt)]) (lo : (DK == sysModules) = false)
  (hm : 0 ≤ mx ∧ mx < 2147483587) (ht : 0 ≤ tn ∧ tn ≤ 20) (hI : IntsAre vs ns) (hv : vs.length ≤ 64)
  (B : Below A₀ base outer h₀) (F : Fr h₀ L s.heap m) (X : (Tops.hd.heap_39 w.params).In h₀) (N : News h₀ L s.heap ((DK, od) :: (CL, listOf vs.toArray n) :: rest)) (T : Top p loose mean mg mb h₀) (hk : cs.kind = .function)
  (n1 : @Ne Nat CL DK) (n4 : ∀ p ∈ rest, p.1 ≠ DK) (n5 : ∀ p ∈ rest, p.1 ≠ CL)
  (hd : dp + 5 < recursionLimit) (hu : un + 220 < cLine)
  (hS : (SM, listOf #[.ref k1, .ref k2] sn) ∈ rest)
  (ret : ∀ kd od' vs' ns' n' tt' h' tk', (kd = k1 ∨ kd = k2) → od'.IsDictOf (PySem.strKind PySem.Challenge.rw_pq1181_01.row.prog w) [(Str.ofString "cells", .ref CL), (Str.ofString "mixed", .int mx tm), (Str.ofString "turn", .int (tn + 1) tt')] → IntsAre vs' ns' → vs'.length ≤ vs.length → Fr h₀ L h' m → News h₀ L h' ((DK, od') :: (CL, listOf vs'.toArray n') :: rest) → Q (.ref kd) { s with heap := h', toks := tk' }) :
  wpAny (model PySem.Challenge.rw_pq1181_01.row.prog w) (ktrTop dp un gd cn cs L a ccd cl outer) (call (.ref 143) [.ref DK, .ref SM]) Q E s := by
  refine wpAny_call ?_
  k_dflt cell_enter
  walk_at "go"

  exact ret _ _ _ _ _ _ _ _ (by assumption) (by assumption) (by assumption) (by assumption) (by assumption) (by assumption)

end
end Mine
end
section
open PySem PySem.W PyProof.Rows PySem.Spec PySem.Calls
namespace Mine
set_option maxRecDepth 100000
set_option maxHeartbeats 8000000
theorem fillK_C20 : Dummy PySem.Challenge.rw_pq1181_01 Tops.hd.heap_39 := by w_top off; k_with_none; k_fill; trivial
section
variable {w : World} {p : Program} {loose : List Str} {mean : ExcName → Option Value} {mg mb : Str → Option Value}
  {dp un : Nat} {gd : Option (List Code)} {cn : Str} {cs : Scope} {a : Addr} {ccd : Value} {cl : List (Str × Addr)} {outer : List Env} {A₀ : Around} {base h₀ : Heap} {L : Addr} {m : Str → Option Value} {news : List (Addr × Obj)} {s : Shared} {Q E : Value → Shared → Prop}

theorem words_C20_1 : True := by
  k_with "go" =>
    repeat' (first | (k_unfold; (try dsimp only)) | (k_end; fail) | walk1 | (dsimp only; walk1) | fail "no step")
  k_with "execs cons" =>
    refine wpAny_execs_cons ?_
  k_with "execs nil" =>
    refine wpAny_execs_nil ?_
  k_with "my intro" =>
    (intro hc; try (exfalso; omega))
  k_with "ite" =>
    first
      | with_reducible refine ite_T ?_ | with_reducible refine ite_F ?_ | with_reducible refine ite_nT ?_ | with_reducible refine ite_nF ?_
      | (with_reducible refine ite_D ?_ ?_ <;> walk_at "my intro") | (with_reducible refine ite_nD ?_ ?_ <;> walk_at "my intro") | (with_reducible refine ite_B ?_ ?_ <;> walk_at "my intro") | (with_reducible refine ite_nB ?_ ?_ <;> walk_at "my intro")
  trivial
theorem mix_in (l : List Int) (a : Int) (h : 0 ≤ a ∧ a < 2147483587) : 0 ≤ l.foldl (fun a n => (a * 48271 + n.fmod 2147483629 + 28011).fmod 2147483587) a ∧ l.foldl (fun a n => (a * 48271 + n.fmod 2147483629 + 28011).fmod 2147483587) a < 2147483587 := by
  induction l generalizing a with
  | nil => exact h
  | cons x l ih => exact ih _ (fmod_in (by decide))
theorem news_3 {h₀ h : Heap} {L : Addr} {x y z u v c : Addr × Obj} (N : News h₀ L h [x, y, z, u, v, c]) : News h₀ L h [y, x, c] := fun q hq => N q (by
  simp only [List.mem_cons, List.not_mem_nil, or_false] at hq ⊢
  rcases hq with h | h | h <;> simp [h])
set_option maxHeartbeats 1000000 in
theorem c_deck {l cc : Addr} {co : Obj} {vs : List Value} {ns : List Int} (hL : base.IsList l vs.toArray) (hI : IntsAre vs ns) (hn : ns.length ≤ 63)
  (B : Below A₀ base outer h₀) (F : Fr h₀ L s.heap m) (X : (Tops.hd.heap_39 w.params).In h₀) (N : News h₀ L s.heap [(cc, co)]) (T : Top p loose mean mg mb h₀) (hk : cs.kind = .function)
  (hd : dp + 5 < recursionLimit) (hu : un + 220 < cLine)
  (ret : ∀ DK od CL ws ks wn mx tm tt h' tk', od.IsDictOf (PySem.strKind PySem.Challenge.rw_pq1181_01.row.prog w) [(Str.ofString "cells", .ref CL), (Str.ofString "mixed", .int mx tm), (Str.ofString "turn", .int 0 tt)] → (DK == sysModules) = false → 0 ≤ mx ∧ mx < 2147483587 → IntsAre ws ks → ws.length ≤ 16 →
    Fr h₀ L h' m → News h₀ L h' [(DK, od), (CL, listOf ws.toArray wn), (cc, co)] → @Ne Nat CL DK → @Ne Nat cc DK → @Ne Nat cc CL → Q (.ref DK) { s with heap := h', toks := tk' }) :
  wpAny (model PySem.Challenge.rw_pq1181_01.row.prog w) (ktrTop dp un gd cn cs L a ccd cl outer) (call (.ref 129) [.ref l]) Q E s := by
  refine wpAny_call ?_
  k_dflt cell_enter
  iterate 55 (first | (k_unfold; (try dsimp only)) | (walk1) | (dsimp only; walk1))
  rotate_left 2
  exact (fun a n => (a * 48271 + n.fmod 2147483629 + 28011).fmod 2147483587)
  rotate_right 2
  · unfold InvEndN
    refine' ⟨_, _, _, _, _, rfl, ?F, ?N, ?a, ?b, ?c, ?J⟩
    case F => assumption
    case N => assumption
    case J =>
      refine' ⟨rfl, ?d, ?e⟩
      case d => (exact ⟨_, Eq.trans (if_pos rfl) rfl⟩)
      case e => (intro z h1 h2; simp [h1, h2])
    case c => rfl
    case b => (exact (fun q hq => by simp [hq]))
    case a => (exact (fun q hq => by (simp only [List.mem_cons, List.not_mem_nil, or_false] at hq ⊢; rcases hq with h | h | h | h <;> simp [h])))
  walk_at "go"
  rename Obj.IsDictOf _ _ _ => hd9
  rename News _ _ _ _ => N9
  rename IntsAre _ _ => hI9
  have hl9 := IntsAre.length hI9
  refine ret _ _ _ _ _ _ _ _ _ _ _ hd9 (by assumption) (mix_in _ _ (by decide)) hI9 ?goalA (by assumption) (news_3 N9) ?goalB ?goalC ?goalD
  case goalA => rw [hl9, List.length_reverse, List.length_map, List.length_take]; omega
  case goalB => exact Nat.ne_of_gt (by omega)
  case goalC => exact Nat.ne_of_lt (by omega)
  case goalD => exact Nat.ne_of_lt (by omega)

end
end Mine
end
section
open PySem PySem.W PyProof.Rows PySem.Spec PySem.Calls
namespace Mine
set_option maxRecDepth 100000
theorem f_join_slot : Slot "bytes" "join" "bytes.join" :=
  .of (owner := "bytes") (n := "join") (by rw [typeLookup_type, builtinLookup_eq_fast]; kernel_rfl) (by decide +kernel) (by decide +kernel) (by decide +kernel)
    (by first | exact .inl (by decide +kernel) | exact .inr (by decide +kernel)) (by rw [isSubtype_type]; kernel_rfl)
theorem f_join_type : typeOf (.builtin "bytes.join") = pure (.type "method_descriptor") := by show builtinType _ = _; rw [builtinType_eq_fast]; kernel_rfl
theorem f_join_entry : entryFor table "bytes.join" = some Builtin.«bytes.join» := entryFor_of_tree (by kernel_rfl)
theorem f_join_args (a b : Value) : argsOk "bytes.join" ⟨[a, b], []⟩ := by unfold argsOk; kernel_rfl
def pcV : Value → Bool
  | .bytes x _ => decide (x.size ≤ 8)
  | _ => false
theorem pcV_of {v : Value} (h : pcV v = true) : ∃ x t, v = .bytes x t ∧ x.size ≤ 8 := by
  cases v <;> first | cases h | exact ⟨_, _, rfl, of_decide_eq_true h⟩
theorem take_quiet {id : String} {b : Array UInt8} {t : Tok} : Builtin.Bytes.takeBufferQuiet? id (.bytes b t) 0 = pure (some (b, none)) := by
  unfold Builtin.Bytes.takeBufferQuiet? Builtin.Bytes.takeBuffer?
  rw [KBy.special_eq KBy.look_buffer, KBy.own_buffer, show ((0 : Int) == Builtin.Bytes.fullReadOnly) = false from by decide +kernel, KBy.buffer_eq]
  kernel_rfl
theorem joined_size : ∀ (l : List (Array UInt8 × Nat)) (acc : Array UInt8), (∀ p ∈ l, p.1.size ≤ 8) →
    (l.foldl (fun out (p : Array UInt8 × Nat) => (if p.2 > 0 then out ++ (#[] : Array UInt8) else out) ++ p.1) acc).size ≤ acc.size + 8 * l.length
  | [], acc, _ => by simp
  | p :: l, acc, h => by
    have h1 := joined_size l ((if p.2 > 0 then acc ++ (#[] : Array UInt8) else acc) ++ p.1) (fun q hq => h q (.tail _ hq))
    have h2 := h p (.head _)
    rw [List.foldl_cons, List.length_cons]
    have h3 : ((if p.2 > 0 then acc ++ (#[] : Array UInt8) else acc) ++ p.1).size = acc.size + p.1.size := by
      split <;> simp
    rw [h3] at h1
    omega
theorem joined_le {l : List (Array UInt8)} (h : ∀ p ∈ l, p.size ≤ 8) : (Builtin.Bytes.joined #[] l).size ≤ 8 * l.length := by
  have := joined_size l.zipIdx #[] (fun p hp => h p.1 (by
    obtain ⟨a, b⟩ := p
    exact (List.mem_zipIdx' hp).2 ▸ List.getElem_mem _))
  unfold Builtin.Bytes.joined
  simpa using this
theorem sum_le : ∀ (l : List (Array UInt8)) (a : Nat), (∀ p ∈ l, p.size ≤ 8) → l.foldl (fun x y => x + y.size) a ≤ a + 8 * l.length
  | [], a, _ => by simp
  | p :: l, a, h => by
    have h1 := sum_le l (a + p.size) (fun q hq => h q (.tail _ hq))
    have h2 := h p (.head _)
    rw [List.foldl_cons, List.length_cons]
    omega
theorem range_l {β : Type} (n : Nat) (b : β) (f : Nat → β → Sem (ForInStep β)) : forIn [:n] b f = forIn (List.range' 0 n) b f := by
  rw [Std.Legacy.Range.forIn_eq_forIn_range']
  have hsz : ([:n] : Std.Legacy.Range).size = n := by simp [Std.Legacy.Range.size]
  show forIn (List.range' 0 ([:n] : Std.Legacy.Range).size 1) b f = _
  rw [hsz]
theorem get_pc {vs : List Value} (h8 : ∀ v ∈ vs, pcV v = true) {i : Nat} (hi : i < vs.toArray.size) : ∃ b t, vs.toArray.getD i Value.none = .bytes b t ∧ b.size ≤ 8 := by
  refine pcV_of (h8 _ ?_)
  rw [Array.getD_eq_getD_getElem?, Array.getElem?_eq_getElem hi, Option.getD_some]
  simp
theorem any_heap {l : List (Value × Option Value)} (h : ∀ p ∈ l, p.1.onHeap = false ∧ p.2 = none) : (l.any fun x => x.1.onHeap) = false := by
  rw [List.any_eq_false]
  intro p hp
  rw [(h p hp).1]; decide
section
variable {M : Model} {A : Around} {E : Value → Shared → Prop} {s : Shared}
theorem forIn_J {β : Type} {f : Nat → β → Sem (ForInStep β)} {n : Nat} {Q : β → Shared → Prop} (J : Nat → β → Prop)
    (turn : ∀ i b, i < n → J i b → ∀ Q' : ForInStep β → Shared → Prop, (∀ b', J (i + 1) b' → Q' (.yield b') s) → wpAny M A (f i b) Q' E s) (fin : ∀ b, J n b → Q b s) :
    ∀ k i b, i + k = n → J i b → wpAny M A (forIn (List.range' i k) b f) Q E s
  | 0, i, b, e, h => by
    obtain rfl : i = n := by omega
    rw [List.range'_zero, List.forIn_nil]; exact wpAny_pure (fin b h)
  | k + 1, i, b, e, h => by
    rw [List.range'_succ, List.forIn_cons]
    refine wpAny_bind (turn i b (by omega) h _ fun b' h' => ?_)
    exact forIn_J J turn fin k (i + 1) b' (by omega) h'
theorem joinLetGo_go : ∀ (taken : List (Value × Option Value)) (keep : List Value) {Q : Unit → Shared → Prop}, (∀ p ∈ taken, p.2 = none) → Q () s → wpAny M A (Builtin.Bytes.joinLetGo taken keep) Q E s
  | [], keep, Q, _, h => wpAny_pure h
  | (x, w) :: rest, keep, Q, hn, h => by
    have e : w = none := hn _ (.head _)
    subst e
    unfold Builtin.Bytes.joinLetGo
    exact wpAny_bind (wpAny_letGo (joinLetGo_go rest keep (fun p hp => hn p (.tail _ hp)) h))
end
section
variable {prog : Program} {w : World} {A : Around} {E : Value → Shared → Prop} {s : Shared} {h₀ : Heap} {L D : Addr} {news : List (Addr × Obj)} {vs : List Value} {t : Tok} {Q : Value → Shared → Prop}
theorem join_K (hl : s.heap.IsList D vs.toArray) (h8 : ∀ v ∈ vs, pcV v = true) (hn : vs.length ≤ 100) (h : ∀ r t k, r.size ≤ 8 * vs.length → Q (.bytes r t) { s with toks := k }) :
    wpAny (model prog w) A (call (.builtin "bytes.join") [.bytes #[] t, .ref D]) Q E s := by
  refine wpAny_call_entry f_join_slot (typeIs_bytes s #[] t) f_join_entry ?_ (f_join_args _ _)
  obtain ⟨o, ho, hc, ne, hd⟩ := id hl
  have hseq : ∀ {α : Type} {k : Option (Array Value) → Sem α} {Q' : α → Shared → Prop} {E' : Value → Shared → Prop} {A' : Around}, wpAny (model prog w) A' (k (some vs.toArray)) Q' E' s → wpAny (model prog w) A' (seqItems? (.ref D) >>= k) Q' E' s := fun h => by
    refine wpAny_bind ?_
    show wpAny _ _ (load D >>= _) _ _ _
    refine wpAny_bind (wpAny_load ho ?_)
    rw [hd]
    exact wpAny_pure h
  unfold Builtin.«bytes.join» Builtin.Bytes.joinM
  show wpAny _ _ (((pure (Value.bytes #[] t, Value.ref D) : Sem (Value × Value)) >>= _)) _ _ _
  refine wpAny_bind (wpAny_pure ?_)
  dsimp only
  refine ite_yes (by decide +kernel) ?_
  unfold Builtin.Bytes.joinItems
  refine wpAny_bind (wpAny_bind (wpAny_typeOf hl.typeIs ?_))
  refine ite_yes (by decide +kernel) ?_
  refine wpAny_pure ?_
  refine hseq ?_
  dsimp only
  refine ite_yes (by decide +kernel) ?_
  have fin : ∀ (b : Array (Array UInt8) × List (Value × Option Value)), (b.1.size = vs.length ∧ (∀ p ∈ b.1.toList, p.size ≤ 8) ∧ (∀ p ∈ b.2, p.1.onHeap = false ∧ p.2 = none)) →
      (Builtin.Bytes.tooLong (b.1.foldl (fun x y => x + y.size) ((#[] : Array UInt8).size * (b.1.size - 1))) = false ∧ (Builtin.Bytes.joined #[] b.1.toList).size ≤ 8 * vs.length) := by
    rintro ⟨ps, tk⟩ ⟨h1, h2, h3⟩
    have e1 := sum_le ps.toList ((#[] : Array UInt8).size * (ps.size - 1)) h2
    have e2 := joined_le h2
    rw [Array.length_toList, h1] at e2
    rw [Array.length_toList, Array.foldl_toList, h1] at e1
    refine ⟨KBy.tooLong_not ?_, e2⟩
    show ps.foldl _ _ ≤ _
    dsimp only at e1 ⊢
    rw [h1]
    simp only [Array.size_empty, Nat.zero_mul] at e1 ⊢
    omega
  rcases vs with _ | ⟨x, _ | ⟨y, vs⟩⟩
  case cons.nil =>
    obtain ⟨b, tb, rfl, hb⟩ := pcV_of (h8 x (.head _))
    refine wpAny_bind (wpAny_typeOf (typeIs_bytes s b tb) ?_)
    refine ite_yes (by decide +kernel) ?_
    refine wpAny_bind (wpAny_rule ?_)
    exact wpAny_pure ⟨_, rfl, h b tb s.toks (by simpa using hb)⟩
  all_goals
    refine wpAny_bind ?_
    rw [range_l]
    refine forIn_J (fun i b => b.1.size = i ∧ (∀ p ∈ b.1.toList, p.size ≤ 8) ∧ ∀ p ∈ b.2, p.1.onHeap = false ∧ p.2 = none) ?_ ?_ _ 0 _ (Nat.zero_add _) ⟨rfl, by simp, by simp⟩
    · rintro i ⟨ps, tk⟩ hi ⟨h1, h2, h3⟩ Q' hQ
      refine hseq ?_
      dsimp only at h1 h2 h3 hQ ⊢
      obtain ⟨b, tb, e, hb⟩ := get_pc h8 hi
      rw [e]
      refine ite_no (by rw [any_heap h3]; decide) ?_
      refine wpAny_bind (wpAny_holding (wpAny_of_eq take_quiet ?_))
      dsimp only
      refine hseq ?_
      dsimp only
      refine ite_no (by simp) ?_
      refine wpAny_pure (hQ _ ⟨by rw [Array.size_push, h1], ?_, ?_⟩)
      · intro p hp
        rw [Array.toList_push] at hp
        rcases List.mem_append.mp hp with hp | hp
        · exact h2 p hp
        · rw [List.mem_singleton.mp hp]; exact hb
      · intro p hp
        rcases List.mem_append.mp hp with hp | hp
        · exact h3 p hp
        · rw [List.mem_singleton.mp hp]; exact ⟨rfl, rfl⟩
    · rintro ⟨ps, tk⟩ hJ
      obtain ⟨f1, f2⟩ := fin (ps, tk) ⟨by rw [hJ.1]; simp, hJ.2⟩
      refine wpAny_bind (wpAny_of_eq (show Builtin.Bytes.payload (.bytes #[] t) = pure #[] from rfl) ?_)
      refine ite_no f1 ?_
      refine wpAny_bind ?_
      show wpAny _ _ (mkBytes _) _ _ _
      unfold mkBytes
      rw [if_neg (by rw [sizeLine_eq]; omega)]
      refine wpAny_bind (wpAny_fresh (wpAny_pure ?_))
      refine wpAny_bind (wpAny_holding (wpAny_point ?_))
      refine wpAny_bind (joinLetGo_go _ _ (fun p hp => (hJ.2.2 p hp).2) ?_)
      exact wpAny_pure ⟨_, rfl, h _ _ _ f2⟩
end
end Mine
end
section
open PySem PySem.W PyProof.Rows PySem.Spec PySem.Calls
namespace Mine
set_option maxRecDepth 100000
def byPairs : List (Value × Value) → List (List UInt8 × Value)
  | (.bytes x _, v) :: r => (x.toList, v) :: byPairs r
  | _ => []
def allBy : List (Value × Value) → Bool
  | (.bytes _ _, _) :: r => allBy r
  | [] => true
  | _ => false
theorem carries_by (prog : Program) (w : World) : ∀ vs : List (Value × Value), allBy vs = true → Carries (bytesKind prog w) vs (byPairs vs)
  | [], _ => trivial
  | (.bytes x t, v) :: r, h => ⟨by simp [bytesKind, isBytes], rfl, carries_by prog w r h⟩
  | (.none, _) :: _, h | (.ellipsis, _) :: _, h | (.notImplemented, _) :: _, h | (.bool _, _) :: _, h | (.int _ _, _) :: _, h | (.float _ _, _) :: _, h | (.str _ _, _) :: _, h | (.type _, _) :: _, h
  | (.builtin _, _) :: _, h | (.ref _, _) :: _, h => by simp [allBy] at h
section
variable {prog : Program} {w : World} {A : Around} {E : Value → Shared → Prop} {s : Shared} {env : Env} {h₀ : Heap} {L d : Addr} {m : Str → Option Value} {news : List (Addr × Obj)} {g : Obj → List (Addr × Obj)} {o : Obj} {Q : Value → Shared → Prop} {vs : List (Value × Value)}
theorem kdn_bytes {keys : List (Option PySem.Expr)} {values : List PySem.Expr} {pos : Pos} (F : Fr h₀ L s.heap m) (N : News h₀ L s.heap news) (hbig : h₀.NoLimit)
    (hall : keys.all (·.isSome) = true) (hl : keys.length = values.length) (h0 : keys ≠ []) (hlen : keys.length ≤ 15)
    (h : ∀ (d : Addr) h' o, Fr h₀ L h' m → News h₀ L h' ((d, o) :: news) → (∀ p ∈ news, p.1 < d) → (d == sysModules) = false → o.IsDictOf (bytesKind prog w) [] →
      wpAny (model prog w) A (evalPairs (pairTrees keys values env pos)) (fun vs s₁ => KdnMade prog w (bytesKind prog w) d Q vs s₁) E { s with heap := h' }) :
    wpAny (model prog w) A (eval (.Dict keys values pos) env) Q E s := kdn_eval F N hbig hall hl h0 hlen h
theorem kdn_made_bytes (F : Fr h₀ L s.heap m) (N : News h₀ L s.heap news) (U : UpdF d o news g) (hd : o.IsDictOf (bytesKind prog w) []) (hk : allBy vs = true) (hn : ((byPairs vs).map (·.1)).Nodup)
    (h : ∀ h' o', Fr h₀ L h' m → News h₀ L h' (g o') → o'.IsDictOf (bytesKind prog w) (byPairs vs) → Q (.ref d) { s with heap := h', toks := s.toks + vs.length }) : KdnMade prog w (bytesKind prog w) d Q vs s := by
  obtain ⟨pre, post, rfl, hg, a, b⟩ := U.split
  have hm := N (d, o) (List.mem_append_right _ (.head _))
  refine ⟨byPairs vs, carries_by prog w vs hk, Heap.dictOf_iff.mpr ⟨o, hm.1, hd⟩, fun h' hmm hs => ?_⟩
  rw [merged_nil_of_nodup _ hn] at hmm
  obtain ⟨o', ho', hd'⟩ := Heap.dictOf_iff.mp hmm
  exact h h' o' (F.change hs hm.2.1 hm.2.2) (hg o' ▸ N.setIn a b hs ho') hd'
end
/-- an environment of the law: what the walk needs to know of it -/
def KnownOk (kvs : List (List UInt8 × Value)) (env : Env8) : Prop := EnvIs kvs env ∧ (∀ k x, env k = some x → x.size ≤ 4) ∧ kvs.length ≤ 1000 ∧ ∀ p ∈ kvs, valueAt kvs p.1 = some p.2
theorem known_1 {k1 : List UInt8} {x1 : Array UInt8} {t1 : Tok} (h1 : x1.size ≤ 4) : KnownOk [(k1, .bytes x1 t1)] (fun k => if k1 = k then some x1 else none) := by
  refine ⟨fun k => ?_, fun k x h => ?_, by simp, by simp [valueAt]⟩
  · unfold valueAt
    by_cases h : k1 = k
    · simp [h]
    · simp [h]
  · dsimp only at h
    split at h
    · cases h; exact h1
    · cases h
theorem known_2 {k1 k2 : List UInt8} {x1 x2 : Array UInt8} {t1 t2 : Tok} (hk : k1 ≠ k2) (h1 : x1.size ≤ 4) (h2 : x2.size ≤ 4) : KnownOk [(k1, .bytes x1 t1), (k2, .bytes x2 t2)] (fun k => if k1 = k then some x1 else if k2 = k then some x2 else none) := by
  refine ⟨fun k => ?_, fun k x h => ?_, by simp, ?_⟩
  · unfold valueAt
    by_cases h : k1 = k
    · simp [h]
    · by_cases h' : k2 = k
      · simp [h, h']
      · simp [h, h']
  · dsimp only at h
    split at h
    · cases h; exact h1
    · split at h
      · cases h; exact h2
      · cases h
  · intro p hp
    rcases List.mem_cons.mp hp with rfl | hp
    · simp [valueAt]
    · rw [List.mem_singleton.mp hp]; simp [valueAt, hk]
end Mine
end
section
open PySem PySem.W PyProof.Rows PySem.Spec PySem.Calls
namespace Mine
set_option maxRecDepth 100000
open LCg
def DeckI (prog : Program) (w : World) (CL : Addr) (mx : Int) (tm : Tok) (i : Nat) (od : Obj) (vs : List Value) : Prop :=
  ∃ ns tn tt, od.IsDictOf (PySem.strKind prog w) [(Str.ofString "cells", .ref CL), (Str.ofString "mixed", .int mx tm), (Str.ofString "turn", .int tn tt)] ∧ IntsAre vs ns ∧ vs.length ≤ 64 ∧ 0 ≤ tn ∧ tn ≤ 2 + (i : Int)
theorem comp_pick {prog : Program} {w : World} {A : Around} {h₀ : Heap} {L : Addr} {m : Str → Option Value} {env : Env} {elt : Expr} {x : Str} {scope : Scope} {cl : List (Str × Addr)} {s : Shared} {S : List (Addr × Obj) → Prop} {P : Nat → Value → Prop} {Fin : List Value → List (Addr × Obj) → Prop}
    {DK CL : Addr} {R : List (Addr × Obj)} {od : Obj} {vs : List Value} {nn n : Nat} {mx : Int} {tm : Tok} (h0 : DeckI prog w CL mx tm 0 od vs)
    (turn : ∀ (k i : Nat) (ys : List Value) (od : Obj) (vs : List Value) (nn : Nat), i < n → DeckI prog w CL mx tm i od vs →
      (∀ (y : Value) (od' : Obj) (vs' : List Value) (nn' : Nat), DeckI prog w CL mx tm (i + 1) od' vs' → pcV y = true → CompRest prog w A h₀ L m env elt x scope cl s S P Fin k (i + 1) (ys ++ [y]) ((DK, od') :: (CL, listOf vs'.toArray nn') :: R)) →
      CompRest prog w A h₀ L m env elt x scope cl s S P Fin (k + 1) i ys ((DK, od) :: (CL, listOf vs.toArray nn) :: R))
    (fin : ∀ (ys : List Value) (od : Obj) (vs : List Value) (nn : Nat), ys.length = n → (∀ y ∈ ys, pcV y = true) → Fin ys ((DK, od) :: (CL, listOf vs.toArray nn) :: R)) :
    CompRest prog w A h₀ L m env elt x scope cl s S P Fin n 0 [] ((DK, od) :: (CL, listOf vs.toArray nn) :: R) := by
  have key : ∀ k i ys od vs nn, i + k = n → ys.length = i → (∀ y ∈ ys, pcV y = true) → DeckI prog w CL mx tm i od vs → CompRest prog w A h₀ L m env elt x scope cl s S P Fin k i ys ((DK, od) :: (CL, listOf vs.toArray nn) :: R) := fun k => by
    induction k with
    | zero => intro i ys od vs nn e hl hy hD; obtain rfl : i = n := by omega
              exact CompRest.zero (fin ys od vs nn hl hy)
    | succ k ih =>
      intro i ys od vs nn e hl hy hD
      refine turn k i ys od vs nn (by omega) hD fun y od' vs' nn' hD' hp => ih (i + 1) _ _ _ _ (by omega) (by rw [List.length_append, hl]; rfl) (fun z hz => ?_) hD'
      rcases List.mem_append.mp hz with hz | hz
      · exact hy z hz
      · rw [List.mem_singleton.mp hz]; exact hp
  exact key n 0 [] od vs nn (by omega) rfl (fun _ h => nomatch h) h0
theorem news_c {h₀ h : Heap} {L : Addr} {i c d a b : Addr × Obj} {R : List (Addr × Obj)} (N : News h₀ L h (i :: c :: d :: a :: b :: R)) : News h₀ L h (a :: b :: i :: c :: d :: R) := fun q hq => N q (by
  simp only [List.mem_cons] at hq ⊢
  rcases hq with h | h | h | h | h | h <;> simp [h])
theorem off_c1 {I C D DK : Addr} {oI oC oD od : Obj} {cl : Addr × Obj} {R : List (Addr × Obj)} (off : Off3 I C D ((DK, od) :: cl :: R)) (h : ∀ p ∈ R, p.1 ≠ DK) : ∀ p ∈ (I, oI) :: (C, oC) :: (D, oD) :: R, p.1 ≠ DK := fun p hp => by
  obtain ⟨h1, h2, h3⟩ := off.mem _ (.head _)
  rcases List.mem_cons.mp hp with rfl | hp
  · exact Ne.symm h1
  · rcases List.mem_cons.mp hp with rfl | hp
    · exact Ne.symm h2
    · rcases List.mem_cons.mp hp with rfl | hp
      · exact Ne.symm h3
      · exact h p hp
theorem off_c2 {I C D CL : Addr} {oI oC oD ol : Obj} {dk : Addr × Obj} {R : List (Addr × Obj)} (off : Off3 I C D (dk :: (CL, ol) :: R)) (h : ∀ p ∈ R, p.1 ≠ CL) : ∀ p ∈ (I, oI) :: (C, oC) :: (D, oD) :: R, p.1 ≠ CL := fun p hp => by
  obtain ⟨h1, h2, h3⟩ := off.mem _ (.tail _ (.head _))
  rcases List.mem_cons.mp hp with rfl | hp
  · exact Ne.symm h1
  · rcases List.mem_cons.mp hp with rfl | hp
    · exact Ne.symm h2
    · rcases List.mem_cons.mp hp with rfl | hp
      · exact Ne.symm h3
      · exact h p hp
end Mine
end
section
open PySem PySem.W PyProof.Rows PySem.Spec PySem.Calls
namespace Mine
set_option maxRecDepth 100000
set_option maxHeartbeats 8000000
theorem fillK_C21 : Dummy PySem.Challenge.rw_pq1181_01 Tops.hd.heap_39 := by w_top off; k_with_none; k_fill; trivial
section
variable {w : World} {p : Program} {loose : List Str} {mean : ExcName → Option Value} {mg mb : Str → Option Value}
  {dp un : Nat} {gd : Option (List Code)} {cn : Str} {cs : Scope} {a : Addr} {ccd : Value} {cl : List (Str × Addr)} {outer : List Env} {A₀ : Around} {base h₀ : Heap} {L : Addr} {m : Str → Option Value} {news : List (Addr × Obj)} {s : Shared} {Q E : Value → Shared → Prop}

theorem words_C21_1 : True := by
  k_with "go" =>
    repeat' (first | (k_unfold; (try dsimp only)) | (k_end; fail) | walk1 | (dsimp only; walk1) | fail "no step")
  k_with "execs cons" =>
    refine wpAny_execs_cons ?_
  k_with "execs nil" =>
    refine wpAny_execs_nil ?_
  k_with "my intro" =>
    (intro hc; try (exfalso; omega))
  k_with "ite" =>
    first
      | with_reducible refine ite_T ?_ | with_reducible refine ite_F ?_ | with_reducible refine ite_nT ?_ | with_reducible refine ite_nF ?_
      | (with_reducible refine ite_D ?_ ?_ <;> walk_at "my intro") | (with_reducible refine ite_nD ?_ ?_ <;> walk_at "my intro") | (with_reducible refine ite_B ?_ ?_ <;> walk_at "my intro") | (with_reducible refine ite_nB ?_ ?_ <;> walk_at "my intro")
  k_with "cstep" =>
    first
      | with_reducible refine wpC_execs_cons ?_
      | with_reducible refine wpC_execs_nil ?_
      | ((with_reducible show wpC _ _ (exec (Stmt.If _ _ _ _) _) _ _ _); refine wpC_If ?_)
      | ((with_reducible show wpC _ _ (exec (Stmt.Expr _ _) _) _ _ _); refine wpC_Expr ?_)
      | ((with_reducible show wpC _ _ (exec (Stmt.Assign _ _ _) _) _ _ _); refine wpC_leaf ?_)
      | ((with_reducible show wpC _ _ (exec (Stmt.Raise _ _ _) _) _ _ _); refine wpC_leaf ?_)
      | ((with_reducible show wpC _ _ (exec (Stmt.While _ _ _ _) _) _ _ _); refine wpC_leaf ?_)
      | ((with_reducible show wpC _ _ (exec (Stmt.Continue _) _) _ _ _); refine wpC_leaf ?_)
      | ((with_reducible show wpC _ _ (exec (Stmt.Return _ _) _) _ _ _); refine wpC_leaf ?_)
      | ((with_reducible show wpC _ _ (eval (Expr.Call (Expr.Attribute _ _ _) _ [] _) _) _ _ _); refine wpC_MethodCall ?_)
      | ((with_reducible show wpC _ _ (callWith _ (Value.builtin _) _ _ _) _ _ _); refine wpC_callWith_b ?_)
      | ((with_reducible show wpC _ _ (callWith _ (Value.ref _) _ _ _) _ _ _); first | (refine' wpC_callWith_K ?k1 ?k2 ?_; (case k1 => k_asm); (case k2 => k_is); k_whole) | (refine' wpC_callWith_K0 ?k1 ?k2 ?_; (case k1 => k_in); (case k2 => k_is); k_whole; dsimp only [List.nil_append, List.cons_append]))
      | ((with_reducible show wpC _ _ (call (Value.builtin _) _ _) _ _ _); walk_at "ccallb")
      | ((with_reducible show wpC _ _ (call (Value.ref _) _ _) _ _ _); walk_at "ccall")
      | ((with_reducible show And (Frag.In _ _) _); refine ⟨by k_in, ?_⟩)
  k_with "ccallb" =>
    first
      | (k_dflt (refine' append_C ?F ?N ?h0 ?h1 ?hz ?U ?_; (case F => k_asm); (case N => k_asm); (case h0 => walk_at "byte lo"); (case h1 => walk_at "byte hi"); (case U => k_upd); (case hz => omega)); intro h' F' N'; (try k_sweep))
      | (k_dflt (refine' extend_C ?F ?N ?hz ?U ?_; (case F => k_asm); (case N => k_asm); (case U => k_upd); (case hz => walk_at "ext size")); intro h' F' N'; (try k_sweep))
  k_with "byte lo" =>
    first | omega | exact (escS_in ⟨by omega, by omega⟩).1
  k_with "byte hi" =>
    first | omega | exact (escS_in ⟨by omega, by omega⟩).2
  k_with "ext size" =>
    omega
  k_with "cgo" =>
    repeat' (first | (k_unfold; (try dsimp only)) | walk_at "cstep" | (k_end; fail) | walk1 | (dsimp only; first | walk_at "cstep" | walk1) | fail "no step")
  k_with "c enter" =>
    (k_dflt (refine' defC ?k1 ?k2 ?k3 ?k4 ?k5 ?kA ?kF ?kK ?k6 ?k7 ?k8 ?k9 ?kB ?_ ?c2 ?c3 ?c4 ?c5; (case kA => exact rfl); (case kF => exact rfl); (case kK => assumption); (case k1 => k_asm); (case k2 => k_asm); (case k3 => k_asm); (case k4 => k_asm); (case k5 => k_asm); (case k6 => k_is); (case k7 => k_is); (case k8 => ktr_room); (case k9 => exact BindsTo.of_eq rfl); (case c5 => decide); (case kB => exact locs rfl); (case c2 => exact rfl); (case c3 => exact rfl); (case c4 => exact rfl); k_whole; intro g' L' h' FG' F' N' B' X' T'; (try dsimp only); (try k_lift B'); (try k_fold)))
  k_with "exec Raise some none" =>
    refine wpAny_Raise_bad rfl ?_
  k_with "call ref" =>
    ((with_reducible show wpAny _ _ (call (Value.ref 45) _) _ _ _); k_dflt (refine' c_badcmd ?B ?F ?X ?N ?T ?hk ?hd ?hu ?_; (case B => k_asm); (case F => k_asm); (case X => k_asm); (case N => k_asm); (case T => k_asm); (case hk => exact rfl); (case hd => ktr_room); (case hu => ktr_units)); intro e' t' D' h' tk' tkk' F' N' het' hne'; refine ⟨e', some D', t', _, rfl, by assumption, F'.keep, (N' _ (.tail _ (.head _))).1, ?_⟩; refine stop_in ?_)
  k_with "sub" =>
    (intro q hq; simp [hq])
  k_with "call ref" =>
    ((with_reducible show wpAny _ _ (call (Value.ref 68) _) _ _ _); k_dflt (refine' c_oct ?hb ?h0 ?hj ?B ?F ?X ?N ?T ?hk ?hd ?hu ?_ ?_; (case hb => assumption); (case h0 => omega); (case hj => omega); (case B => k_asm); (case F => k_asm); (case X => k_asm); (case N => k_asm); (case T => k_asm); (case hk => exact rfl); (case hd => ktr_room); (case hu => ktr_units)); intros)
  k_with "call ref" =>
    ((with_reducible show wpAny _ _ (call (Value.ref 61) _) _ _ _); k_dflt (refine' c_escaped ?B ?F ?X ?N ?T ?hk ?hd ?hu ?_; (case B => k_asm); (case F => k_asm); (case X => k_asm); (case N => k_asm); (case T => k_asm); (case hk => exact rfl); (case hd => ktr_room); (case hu => ktr_units)); intro v' t' h' tk' ev' F' N'; subst ev')
  k_with "getMethod ref" =>
    (k_here; (with_reducible show wpAny _ _ (getMethod (Value.ref _) (Str.ofString "append") _) _ _ _); k_dflt (refine method_ba (by assumption) (by k_mem) f_append_slot f_append_type ?_))
  k_with "getMethod ref" =>
    (k_here; (with_reducible show wpAny _ _ (getMethod (Value.ref _) (Str.ofString "extend") _) _ _ _); k_dflt (refine method_ba (by assumption) (by k_mem) f_extend_slot f_extend_type ?_))
  k_with "setAttr ref" =>
    (k_here; k_dflt (refine' set_dict ?k1 ?k2 ?k3 ?k4 ?k5 ?k6 ?k7 ?k8 ?k9 ?k10 ?k11 ?k12 ?k13 ?_; (case k1 => k_asm); (case k2 => k_asm); (case k3 => k_asm); (case k4 => k_inst); (case k5 => exact rfl); (case k6 => k_is); (case k7 => k_is); (case k8 => k_is); (case k9 => k_is); (case k10 => k_get); (case k11 => k_put); (case k12 => k_upd); (case k13 => exact Nat.le_of_ble_eq_true rfl); k_whole); intro h' F' N'; (try k_sweep))
  k_with "cstep2" =>
    first
      | ((with_reducible show wpC _ _ (eval (Expr.Tuple _ _ _) _) _ _ _); refine wpC_Tuple ?_)
      | ((with_reducible show wpC _ _ (spliced (backTo _ (starEach (_ :: _) _))) _ _ _); refine wpC_spl_cons ?_)
      | ((with_reducible show wpC _ _ (spliced (backTo _ (starEach [] _))) _ _ _); refine wpC_spl_nil ?_)
      | ((with_reducible show wpC _ _ (eval (Expr.Name _ _) _) _ _ _); refine wpC_leaf ?_)
      | ((with_reducible show wpC _ _ (eval (Expr.Attribute _ _ _) _) _ _ _); refine wpC_leaf ?_)
      | ((with_reducible show wpC _ _ (eval (Expr.Constant _ _ _) _) _ _ _); refine wpC_leaf ?_)
      | ((with_reducible show wpC _ _ (eval (Expr.Call (Expr.Name _ _) _ [] _) _) _ _ _); refine wpC_Call ?_)
      | ((with_reducible show wpC _ _ (callWith _ (Value.type _) _ _ _) _ _ _); refine wpC_callWith_t0 ?_)
  k_with "eval Dict" =>
    (k_here; k_dflt (refine' kdn_bytes ?F ?N ?b ?a ?l ?e ?n ?_; (case F => k_asm); (case N => k_asm); (case b => exact Top.nolimit (by k_asm)); (case a => rfl); (case l => rfl); (case e => exact List.cons_ne_nil _ _); (case n => exact Nat.le_of_ble_eq_true rfl)); intro d' h' o' F' N' l1 lo' hd'; (try k_lt l1))
  k_with "KdnMade" =>
    (k_here; k_dflt (refine' kdn_made_bytes ?F ?N ?U ?d ?k ?n ?_; (case F => k_asm); (case N => k_asm); (case U => k_updF); (case d => k_asm); (case k => rfl); (case n => exact of_decide_eq_true (by first | rfl | kernel_rfl!)); intro h' o' F' N' hd'); (try dsimp only at N'))
  k_with "no C" =>
    fail_if_success (with_reducible show wpC _ _ _ _ _ _)
  k_with "lawgo" =>
    repeat' (walk_at "no C"; first | (k_unfold; (try dsimp only)) | walk1 | (dsimp only; walk1) | fail "no step")
  trivial
theorem news_6 {h₀ h : Heap} {L : Addr} {a b c d e f : Addr × Obj} (N : News h₀ L h [a, b, c, d, e, f]) : News h₀ L h [d, e, a, b, c, f] := fun q hq => N q (by
  simp only [List.mem_cons, List.not_mem_nil, or_false] at hq ⊢
  rcases hq with h | h | h | h | h | h <;> simp [h])
theorem off4 {a b c d : Addr × Obj} {D : Addr} (h1 : @Ne Nat a.1 D) (h2 : @Ne Nat b.1 D) (h3 : @Ne Nat c.1 D) (h4 : @Ne Nat d.1 D) : ∀ p ∈ [a, b, c, d], p.1 ≠ D := fun p hp => by
  simp only [List.mem_cons, List.not_mem_nil, or_false] at hp
  rcases hp with rfl | rfl | rfl | rfl <;> assumption
theorem pick_env {prog : Program} {w : World} {h₀ h : Heap} {L kd d1 d2 : Addr} {o1 o2 : Obj} {a b x y : Addr × Obj} {kvs1 kvs2 : List (List UInt8 × Value)} {env1 env2 : Env8} (hk : kd = d1 ∨ kd = d2) (h1 : o1.IsDictOf (bytesKind prog w) kvs1) (h2 : o2.IsDictOf (bytesKind prog w) kvs2)
    (l1 : (d1 == sysModules) = false) (l2 : (d2 == sysModules) = false) (K1 : KnownOk kvs1 env1) (K2 : KnownOk kvs2 env2) (_ : News h₀ L h [a, b, x, (d2, o2), (d1, o1), y]) :
    ∃ ko kvs env, (kd, ko) ∈ [x, (d2, o2), (d1, o1), y] ∧ ko.IsDictOf (bytesKind prog w) kvs ∧ (kd == sysModules) = false ∧ KnownOk kvs env := by
  rcases hk with rfl | rfl
  · exact ⟨o1, kvs1, env1, .tail _ (.tail _ (.head _)), h1, l1, K1⟩
  · exact ⟨o2, kvs2, env2, .tail _ (.head _), h2, l2, K2⟩
theorem words_C21_2 : True := by
  k_with "getMethod bytes" =>
    (k_here; (with_reducible show wpAny _ _ (getMethod (Value.bytes _ _) (Str.ofString "join") _) _ _ _); refine KBd.method_of _ (typeIs_bytes _ _ _) f_join_slot f_join_type KBd.noRef ?_)
  k_with "CompSrc" =>
    refine stop_in ?_
  k_with "call builtin:bytes.join" =>
    refine stop_in ?_
  k_with "call ref" =>
    ((with_reducible show wpAny _ _ (call (Value.ref 129) _) _ _ _); refine stop_in ?_)
  k_with "call ref" =>
    ((with_reducible show wpAny _ _ (call (Value.ref 136) _) _ _ _); refine stop_in ?_)
  k_with "call ref" =>
    ((with_reducible show wpAny _ _ (call (Value.ref 143) _) _ _ _); refine stop_in ?_)
  k_with "call ref" =>
    ((with_reducible show wpAny _ _ (call (Value.ref 198) _) _ _ _); refine stop_in ?_)
  trivial
theorem offs_1 {h₀ h : Heap} {L DK : Addr} {od : Obj} {cl a b c d : Addr × Obj} (_ : News h₀ L h [(DK, od), cl, a, b, c, d]) (h1 : @Ne Nat a.1 DK) (h2 : @Ne Nat b.1 DK) (h3 : @Ne Nat c.1 DK) (h4 : @Ne Nat d.1 DK) : ∀ p ∈ [a, b, c, d], p.1 ≠ DK := off4 h1 h2 h3 h4
theorem offs_2 {h₀ h : Heap} {L CL : Addr} {ol : Obj} {dk a b c d : Addr × Obj} (_ : News h₀ L h [dk, (CL, ol), a, b, c, d]) (h1 : @Ne Nat a.1 CL) (h2 : @Ne Nat b.1 CL) (h3 : @Ne Nat c.1 CL) (h4 : @Ne Nat d.1 CL) : ∀ p ∈ [a, b, c, d], p.1 ≠ CL := off4 h1 h2 h3 h4
theorem sub_c (i c d a b : Addr × Obj) (R : List (Addr × Obj)) : ∀ p ∈ i :: c :: d :: a :: b :: R, p ∈ a :: b :: i :: c :: d :: R := fun p hp => by
  simp only [List.mem_cons] at hp ⊢
  rcases hp with h | h | h | h | h | h <;> simp [h]
theorem pcV_bytes {x : Array UInt8} {t : Tok} (h : x.size ≤ 8) : pcV (.bytes x t) = true := decide_eq_true h
theorem wpC_BoolOp_and {M : Model} {A : Around} {E : Value → Shared → Prop} {s : Shared} {env : Env} {e₁ e₂ : PySem.Expr} {rest : List PySem.Expr} {pos : Pos} {Q : Value → Shared → Prop}
    (h : wpC M A (eval e₁ env) (fun v s₁ => wpAny M A (truthy v) (fun c s₂ => if c = true then wpC M A (eval (.BoolOp .And (e₂ :: rest) pos) env) Q E s₂ else Q v s₂) E s₁) E s) :
    wpC M A (eval (.BoolOp .And (e₁ :: e₂ :: rest) pos) env) Q E s := by
  show wpC M A (do
    let v ← eval e₁ env
    standAt pos
    let c ← holding [v] (truthy v)
    match BoolOp.And, c with
    | .And, false | .Or, true => pure v
    | _, _ => boolOp pos .And (eval e₂ env :: evalEach rest env)) Q E s
  refine wpC_bind (wpC_mono h (fun v s₁ h₁ => wpC_standAt (wpC_bind (wpC_holding (.of (wpAny_mono h₁ (fun c s₂ h₂ => ?_) fun _ _ x => x))))) fun _ _ x => x)
  cases c with
  | false => exact wpC_pure (by simpa using h₂)
  | true =>
    have h₃ : wpC M A (eval (.BoolOp .And (e₂ :: rest) pos) env) Q E s₂ := by simpa using h₂
    exact h₃
theorem wpC_BoolOp_one {M : Model} {A : Around} {E : Value → Shared → Prop} {s : Shared} {env : Env} {op : BoolOp} {e : PySem.Expr} {pos : Pos} {Q : Value → Shared → Prop} (h : wpC M A (eval e env) Q E s) : wpC M A (eval (.BoolOp op [e] pos) env) Q E s := h
theorem words_C21_3 : True := by
  k_with "ccall" =>
    ((with_reducible show wpC _ _ (call (Value.ref 198) _ _) _ _ _); refine stop_in ?_)
  k_with "lawC" =>
    repeat' (first | walk_at "cstep2" | walk_at "cstep" | (walk_at "no C"; first | (k_unfold; (try dsimp only)) | walk1 | (dsimp only; walk1)) | (dsimp only; walk_at "cstep") | fail "no step")
  trivial
theorem turn_keep {g g' : Heap} {fs : List Env} (h : fs = []) (x : KtsTurn (fs.filterMap (·.frame)) g g') : ∀ b o, g.get? b = some o → g'.get? b = some o := by
  subst h
  exact fun b o e => x.other b o e (fun h => nomatch h)
set_option maxHeartbeats 1000000 in
theorem c_law {s₁ : Shared} {l : Addr} {vs : List Value} {ns : List Int} {Q E : Value → Shared → Prop} (KX : (Tops.hd.heap_39 w.params).In s₁.heap) (T : Top p loose mean mg mb s₁.heap) (hL : s₁.heap.IsList l vs.toArray) (hI : IntsAre vs ns) (hn : ns.length ≤ 63)
  (ret : ∀ h' tk', (∀ b o, s₁.heap.get? b = some o → h'.get? b = some o) → Q (.bool true) { s₁ with heap := h', toks := tk' }) :
  wpC (model PySem.Challenge.rw_pq1181_01.row.prog w) callerA (call (.ref 203) [.ref l]) Q E s₁ := by
  refine wpC_call ?_
  have B0 := below_caller s₁.heap
  have ho := KX 203 _ (by k_is)
  k_dflt (refine law_enter ho rfl (Top.nolimit T) (codeRec_of KX (by k_is)) (BindsTo.of_eq rfl) (kindsX (by rfl)) (by decide +kernel) (fun L h₁ tk₁ cells F N0 X0 => ?_) rfl rfl rfl)
  k_cells X0
  clear ho
  dsimp only
  rename (Obj.data _ = Data.cell _) => d0
  have d1 : _ = Data.cell none := d0
  clear d0
  have F1 : Fr s₁.heap L h₁ (fun y => if y = Str.ofString "script" then some (.ref l) else none) := by with_unfolding_all exact F
  clear F
  show wpC _ (ktrTop (1 + claimMargin + 1) 7 (some []) _ _ L 203 (.ref 202) [(Str.ofString "deck", L + 1)] []) (execs _ (envX _ _ _ _ _ [(Str.ofString "deck", L + 1)])) _ _ _
  refine wpC_execs_cons ?_
  refine wpC_leaf ?_
  walk_at "lawgo"
  unfold Stop
  refine' c_deck ?hL ?hI ?hn ?B ?F ?X ?N ?T ?hk ?hd ?hu ?_
  case hL => assumption
  case hI => assumption
  case hn => assumption
  case B => assumption
  case F => assumption
  case X => assumption
  case N => assumption
  case T => assumption
  case hk => rfl
  case hd => decide
  case hu => decide
  intro DK od1 CL vs1 ns1 nn1 mx tm tt1 h1 tk1 hod1 lo1 hm hI1 hv1 F1 N1 n1 n2 n3
  walk_at "lawgo"
  refine wpC_execs_cons ?_
  refine wpC_leaf ?_
  walk_at "lawgo"
  unfold Stop
  rename News _ _ _ _ => N2
  have N3 := news_6 N2
  clear N2
  rename Obj.IsDictOf _ _ (byPairs [_, _]) => hD1
  rename Obj.IsDictOf _ _ (byPairs [_]) => hD2
  have n4 := offs_1 N3 (Nat.ne_of_gt (by omega)) (Nat.ne_of_gt (by omega)) (Nat.ne_of_gt (by omega)) n2
  have n5 := offs_2 N3 (Nat.ne_of_gt (by omega)) (Nat.ne_of_gt (by omega)) (Nat.ne_of_gt (by omega)) n3
  refine' c_pickN ?hod ?lo ?hm ?ht ?hI ?hv ?B ?F ?X N3 ?T ?hk ?n1 ?n4 ?n5 ?hd ?hu (.head _) ?_
  case hod => assumption
  case lo => assumption
  case hm => assumption
  case ht => decide
  case hI => assumption
  case hv => omega
  case B => assumption
  case F => assumption
  case X => assumption
  case T => assumption
  case hk => rfl
  case n1 => assumption
  case n4 => assumption
  case n5 => assumption
  case hd => decide
  case hu => decide
  intro kd od2 vs2 ns2 nn2 tt2 h2 tk2 hkd hod2 hI2 hl2 F2 N2
  obtain ⟨ko, kvs, env, hkm, hkd, klo, hK⟩ := pick_env hkd hD1 hD2 (by assumption) (by assumption) (known_2 (by decide) (by decide) (by decide)) (known_1 (by decide)) N2
  clear hD1 hD2 N3 hod1 hI1
  walk_at "lawgo"
  refine wpC_execs_cons ?_
  refine wpC_leaf ?_
  walk_at "lawgo"
  unfold Stop
  rename News _ _ _ _ => N3
  rename Fr _ _ _ _ => F3
  refine' c_draw hod2 lo1 hm ?ht hI2 ?hv ?hb ?B F3 ?X N3 ?T ?hk n1 n4 n5 ?hd ?hu ?_
  case ht => decide
  case hv => omega
  case hb => decide
  case B => assumption
  case X => assumption
  case T => assumption
  case hk => rfl
  case hd => decide
  case hu => decide
  intro v3 t3 od3 vs3 ns3 nn3 tt3 h3 tk3 hv3 hod3 hI3 hl3 F4 N4
  walk_at "lawgo"
  unfold Stop
  rename IsRange _ _ _ _ _ _ _ _ => hr
  rename News _ _ _ _ => N5
  rename Fr _ _ _ _ => F5
  refine LCg.CompSrc.range (by rfl) F5 N5 hr (small_one (by omega) (by omega) (by omega) (by omega)) (rangeSize_nat _ _) (by rw [sizeLine_eq]; omega) ?_
  intro g'
  refine comp_pick (mx := mx) (tm := tm) ⟨ns3, _, _, hod3, hI3, by omega, by decide, by decide⟩ ?_ ?_
  · intro k i ys od4 vs4 nn4 hi hD ih
    obtain ⟨ns4, tn4, tt4, hod4, hI4, hv4, ht0, ht1⟩ := hD
    refine LCg.CompRest.succ ?_
    intro v' I oI C oC D m' h' tk' E' hv' hC' hx' F6 N6 off' ne'
    clear N5 F5 F3 N3 hr
    walk_at "lawgo"
    unfold Stop
    rename News _ _ _ _ => N7
    rename Fr _ _ _ _ => F7
    refine' c_pickK hod4 lo1 hm ?ht hI4 hv4 ?B F7 ?X (news_c N7) ?T ?hk n1 (off_c1 off' n4) (off_c2 off' n5) ?hd ?hu ?_
    case ht => omega
    case B => assumption
    case X => assumption
    case T => assumption
    case hk => rfl
    case hd => decide
    case hu => decide
    intro x8 t8 od8 vs8 ns8 nn8 tt8 h8 tk8 hx8 hod8 hI8 hl8 F8 N8
    refine LCg.CompEnd.intro F8 N8 (_ :: _ :: _) (sub_c _ _ _ _ _ _) off' trivial (ih _ _ _ _ ⟨ns8, _, _, hod8, hI8, by omega, by omega, by omega⟩ (pcV_bytes hx8))
  · intro ys od5 vs5 nn5 hl5 hp5
    walk_at "lawgo"
    unfold Stop
    rename News _ _ _ _ => N9
    refine join_K (News.isList N9 (.head _)) hp5 (by omega) ?_
    intro oc toc tk9 hoc
    walk_at "lawgo"
    clear hr hod3 hI3 hod2 hI2
    refine wpC_execs_cons ?_
    refine wpC_Return ?_
    refine wpC_BoolOp_and ?_
    walk_at "lawC"
    unfold Stop
    rename News _ _ _ _ => N10
    rename Fr _ _ _ _ => F10
    refine' c_lright (ks := KBw.bInts oc) rfl ?hz ?hkm hkd klo hK.1 hK.2.1 hK.2.2.1 hK.2.2.2 KX T B0 F10 KX N10 T rfl ?hd ?hu ?_
    case hz => (rw [KBw.ints_length]; omega)
    case hkm => exact .tail _ (.tail _ (.tail _ hkm))
    case hd => decide
    case hu => decide
    clear F10 N10
    intro g1 h9 tk9 KT F10 N10 B1
    have k1 := turn_keep rfl KT
    have X1 := KX.keeps k1
    have T1 := T.keeps k1
    clear KT
    walk_at "lawC"
    refine wpC_BoolOp_and ?_
    walk_at "lawC"
    unfold Stop
    rename News _ _ _ _ => N10
    rename Fr _ _ _ _ => F10
    refine' c_lright (ks := [92, 52, 48, 48, 126]) rfl ?hz ?hkm hkd klo hK.1 hK.2.1 hK.2.2.1 hK.2.2.2 KX T B1 F10 X1 N10 T1 rfl ?hd ?hu ?_
    case hz => decide
    case hkm => exact .tail _ (.tail _ (.tail _ hkm))
    case hd => decide
    case hu => decide
    clear F10 N10
    intro g2 h9 tk9 KT F10 N10 B2
    have k2 := turn_keep rfl KT
    have X2 := X1.keeps k2
    have T2 := T1.keeps k2
    clear KT
    walk_at "lawC"
    refine wpC_BoolOp_one ?_
    walk_at "lawC"
    unfold Stop
    rename News _ _ _ _ => N10
    rename Fr _ _ _ _ => F10
    refine' c_lright (ks := [126, 92, 51, 55, 55]) rfl ?hz ?hkm hkd klo hK.1 hK.2.1 hK.2.2.1 hK.2.2.2 KX T B2 F10 X2 N10 T2 rfl ?hd ?hu ?_
    case hz => decide
    case hkm => exact .tail _ (.tail _ (.tail _ hkm))
    case hd => decide
    case hu => decide
    clear F10 N10
    intro g3 h9 tk9 KT F10 N10 B3
    have k3 := turn_keep rfl KT
    have X3 := X2.keeps k3
    have T3 := T2.keeps k3
    clear KT
    exact ret _ _ fun b o e => F10.keep _ _ (k3 _ _ (k2 _ _ (k1 _ _ e)))

end
end Mine
end
section
open PySem PySem.W PyProof.Rows PySem.Spec PySem.Calls
namespace Mine
set_option maxRecDepth 100000
set_option maxHeartbeats 8000000
theorem fillK_C22 : Dummy PySem.Challenge.rw_pq1181_01 Tops.hd.heap_39 := by w_top off; k_with_none; k_fill; trivial
section
variable {w : World} {p : Program} {loose : List Str} {mean : ExcName → Option Value} {mg mb : Str → Option Value}
  {dp un : Nat} {gd : Option (List Code)} {cn : Str} {cs : Scope} {a : Addr} {ccd : Value} {cl : List (Str × Addr)} {outer : List Env} {A₀ : Around} {base h₀ : Heap} {L : Addr} {m : Str → Option Value} {news : List (Addr × Obj)} {s : Shared} {Q E : Value → Shared → Prop}

theorem words_C22_1 : True := by
  k_with "go" =>
    repeat' (first | (k_unfold; (try dsimp only)) | (k_end; fail) | walk1 | (dsimp only; walk1) | fail "no step")
  k_with "execs cons" =>
    refine wpAny_execs_cons ?_
  k_with "execs nil" =>
    refine wpAny_execs_nil ?_
  k_with "my intro" =>
    (intro hc; try (exfalso; omega))
  k_with "ite" =>
    first
      | with_reducible refine ite_T ?_ | with_reducible refine ite_F ?_ | with_reducible refine ite_nT ?_ | with_reducible refine ite_nF ?_
      | (with_reducible refine ite_D ?_ ?_ <;> walk_at "my intro") | (with_reducible refine ite_nD ?_ ?_ <;> walk_at "my intro") | (with_reducible refine ite_B ?_ ?_ <;> walk_at "my intro") | (with_reducible refine ite_nB ?_ ?_ <;> walk_at "my intro")
  trivial
theorem lawT : PySem.Challenge.rw_pq1181_01.Holds := by
  refine Mine.Tops.hd ?_
  k_fill
  intro w s₀ s₁ mg mb G Y fa o pm cd doc dV kV ho hd hcd hD hmg hg args vals as hpre hlay hrd hwl hlo
  have KX := kIn_of Y
  refine Ground.open G ?_
  intro T B D TE TW
  wrow_args hpre hlay hrd hwl hlo
  have hf : mg (Str.ofString "law") = some (.ref 203) := mg_of KX T.g (by k_is)
  have hfa : (203 : Addr) = fa := by
    have h2 := hf.symm.trans hmg
    injection h2 with h3
    injection h3
  subst hfa
  rename ¬ _ => hlen
  rename IntsAre _ _ => hI
  rename Heap.IsList _ _ _ => hL
  refine c_law KX T hL hI (by omega) fun h' tk' hk => ?_
  exact GoodW.toG ⟨.inl ⟨.bool true, .bool true, [], rfl, fun _ => rfl, .bool true, by wrow_post, unshared_nil⟩, hk, rfl, hg⟩

end
end Mine
end
theorem PySem.Challenge.cw_pq1181_01_holds : PySem.Challenge.rw_pq1181_01.Holds := by
  exact Mine.lawT
