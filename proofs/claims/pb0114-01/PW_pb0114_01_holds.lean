import PyProof.Rows.All
import Wide.All
import OpenK.AllK
import Wide.FinOn
import Lean
import PySem.Challenge.RW_pb0114_01
set_option Elab.async false
set_option linter.unusedVariables false
set_option genInjectivity false
set_option genSizeOf false
set_option compiler.extract_closed false
namespace Mine
def aR : Lean.Syntax := (Lean.Unhygienic.run `(Lean.Parser.Tactic.tacticSeq| rfl)).raw
def aD : Lean.Syntax := (Lean.Unhygienic.run `(Lean.Parser.Tactic.tacticSeq| decide)).raw
def aW : Lean.Syntax := (Lean.Unhygienic.run `(Lean.Parser.Tactic.tacticSeq| with_unfolding_all rfl)).raw
def aK : Lean.Syntax := (Lean.Unhygienic.run `(Lean.Parser.Tactic.tacticSeq| kernel_rfl)).raw
def aDk : Lean.Syntax := (Lean.Unhygienic.run `(Lean.Parser.Tactic.tacticSeq| decide +kernel)).raw
def aIr : Lean.Syntax := (Lean.Unhygienic.run `(Lean.Parser.Tactic.tacticSeq| intro _; rfl)).raw
def aW2 : Lean.Syntax := (Lean.Unhygienic.run `(Lean.Parser.Tactic.tacticSeq| intro _ _; with_unfolding_all rfl)).raw
def aW1 : Lean.Syntax := (Lean.Unhygienic.run `(Lean.Parser.Tactic.tacticSeq| intro _; with_unfolding_all rfl)).raw
def aC : Lean.Syntax := (Lean.Unhygienic.run `(Lean.Parser.Tactic.tacticSeq| intro x; cases x)).raw
def aW3 : Lean.Syntax := (Lean.Unhygienic.run `(Lean.Parser.Tactic.tacticSeq| intro _ _ _; with_unfolding_all rfl)).raw
end Mine
section
open PySem PySem.W PySem.Calls PyProof.Rows
open PySem.Builtin.Bytes (decodersThatHold)
set_option maxRecDepth 100000
namespace Mine
noncomputable def NoDec (c : Code) : Prop := match c with
  | .builtin id _ => decodersThatHold.contains id = false
  | _ => True
noncomputable def Clean (Γ : Ctx) : Prop := ∀ cp ∈ Γ.below, NoDec cp.1
noncomputable def wpC {α : Type} (M : Model) (A : Around) (t : Sem α) (Q : α → Shared → Prop) (E : Value → Shared → Prop) (s : Shared) : Prop :=
  ∀ Γ p, Γ.In A → NoDec Γ.code → Clean Γ → Sem.wp M Γ t (fun a _ s' => Q a s') (fun e _ s' => E e s') p s
noncomputable def codeC (M : Model) (A : Around) (c : Code) (R : Result → Shared → Prop) (s : Shared) : Prop :=
  ∀ Γ p, Γ.code = c → Γ.Below A → Clean Γ → wpCode M Γ R p s
section
variable {α β : Type} {M : Model} {A : Around} {E : Value → Shared → Prop} {s : Shared}
theorem wpC_of_any {t : Sem α} {Q : α → Shared → Prop} (h : wpAny M A t Q E s) : wpC M A t Q E s := fun Γ p hΓ _ _ => h Γ p hΓ
theorem codeC_of_any {c : Code} {R : Result → Shared → Prop} (h : codeAny M A c R s) : codeC M A c R s := fun Γ p hc hΓ _ => h Γ p hc hΓ
theorem wpC_bind {m : Sem α} {f : α → Sem β} {Q : β → Shared → Prop} (h : wpC M A m (fun a s' => wpC M A (f a) Q E s') E s) : wpC M A (m >>= f) Q E s := fun Γ p hΓ hn hc => by
  rw [Sem.wp_bind']
  exact Sem.wp_mono M Γ m (fun a p' s' h' => h' Γ p' hΓ hn hc) (fun _ _ _ h' => h') p s (h Γ p hΓ hn hc)
theorem wpC_mono {t : Sem α} {Q Q' : α → Shared → Prop} {E' : Value → Shared → Prop} (h : wpC M A t Q E s) (hQ : ∀ a s, Q a s → Q' a s) (hE : ∀ e s, E e s → E' e s) : wpC M A t Q' E' s :=
  fun Γ p hΓ hn hc => Sem.wp_mono M Γ t (fun a _ s => hQ a s) (fun e _ s => hE e s) p s (h Γ p hΓ hn hc)
theorem wpC_pure {a : α} {Q : α → Shared → Prop} (h : Q a s) : wpC M A (pure a) Q E s := fun _ _ _ _ _ => h
theorem wpC_standAt {pos : Pos} {Q : Unit → Shared → Prop} (h : Q () s) : wpC M A (standAt pos) Q E s := wpC_of_any (wpAny_standAt h)
theorem wpC_point {Q : Unit → Shared → Prop} (h : Q () s) : wpC M A point Q E s := wpC_of_any (wpAny_point h)
theorem wpC_holding {vs : List Value} {m : Sem α} {Q : α → Shared → Prop} (h : wpC M A m Q E s) : wpC M A (holding vs m) Q E s :=
  fun Γ p hΓ hn hc => by rw [Sem.wp_holding]; exact h Γ p hΓ hn hc
theorem wpC_onRaise {m : Sem α} {k : Value → Sem Unit} {Q : α → Shared → Prop} (h : wpC M A m Q (fun e s' => wpC M A (k e) (fun _ s'' => E e s'') E s') s) : wpC M A (m.onRaise k) Q E s := fun Γ p hΓ hn hc => by
  rw [Sem.wp_onRaise]
  exact Sem.wp_mono M Γ m (fun _ _ _ h' => h') (fun e p' s' h' => h' Γ p' hΓ hn hc) p s (h Γ p hΓ hn hc)
theorem wpC_attempt {m : Sem α} {Q : Except Value α → Shared → Prop} (h : wpC M A m (fun a => Q (.ok a)) (fun e => Q (.error e)) s) : wpC M A m.attempt Q E s := fun Γ p hΓ hn hc => by rw [Sem.wp_attempt]; exact h Γ p hΓ hn hc
theorem wpC_of_eq {t : Sem α} {a : α} {Q : α → Shared → Prop} (e : t = pure a) (h : Q a s) : wpC M A t Q E s := wpC_of_any (wpAny_of_eq e h)
theorem codeC_mono {c : Code} {R R' : Result → Shared → Prop} (h : codeC M A c R s) (hR : ∀ r s, R r s → R' r s) : codeC M A c R' s := fun Γ p hc hΓ hC => wpCode_mono hR (h Γ p hc hΓ hC)
theorem codeC_of_tree {c : Code} {R : Result → Shared → Prop} (hn : NoDec c)
    (h : wpC M (A.under c) (M.den c) (fun fin s' => match fin with | .done f => R (.ok f) s' | .again c' => c'.quiet = true ∧ codeC M A c' R s') (fun e s' => R (.error e) s') s) : codeC M A c R s := fun Γ p hc hΓ hC => by
  rw [wpCode_iff_wp, hc]
  refine Sem.wp_mono M Γ _ (fun fin p' s' h' => ?_) (fun _ _ _ h' => h') p s (h Γ p (hc ▸ hΓ.in) (hc ▸ hn) hC)
  cases fin with
  | done f => exact h'
  | again c' => exact ⟨h'.1, h'.2 (Γ.goto c') p' rfl (hΓ.goto c') hC⟩
theorem clean_enter {Γ : Ctx} {c : Code} {hd : Option Value} {p : Pos} (hn : NoDec Γ.code) (hC : Clean Γ) : Clean (Γ.enter c hd p) := fun cp hcp => by
  rcases List.mem_cons.mp hcp with rfl | h
  · exact hn
  · exact hC cp h
theorem wpC_run {c : Code} {h : Option Value} {Q : Flow → Shared → Prop} (hc : codeC M (A.mark h) c (fun r s' => match r with | .ok f => Q f s' | .error e => E e s') s) (hnb : autoParam (h ≠ some byPass) Mine.aC) :
    wpC M A (run c h) Q E s := fun Γ p hΓ hn hC => by rw [Sem.wp_run]; exact hc _ p rfl (hΓ.enter c h p hnb) (clean_enter hn hC)
theorem wpC_runValue {c : Code} {Q : Value → Shared → Prop} (hc : codeC M A c (fun r s' => match r with | .ok (.ret v) => Q v s' | .ok _ => False | .error e => E e s') s) :
    wpC M A (runValue c) Q E s := fun Γ p hΓ hn hC => by rw [Sem.wp_runValue]; exact hc _ p rfl (hΓ.enter c none p (by intro x; cases x)) (clean_enter hn hC)
theorem wpC_call {f : Value} {pos : List Value} {kw : List (Str × Value)} {Q : Value → Shared → Prop} (hc : codeC M A (.call f ⟨pos, kw⟩) (fun r s' => match r with | .ok (.ret v) => Q v s' | .ok _ => False | .error e => E e s') s) :
    wpC M A (call f pos kw) Q E s := wpC_runValue hc
theorem wpC_runOwn {c : Code} {env : Env} {h : Option Value} {Q : Flow → Shared → Prop} (hc : codeC M (A.mark h) c (fun r s' => match r with | .ok f => Q f s' | .error e => cameBackBy M A env E e s') s) (hnb : autoParam (h ≠ some byPass) Mine.aC) :
    wpC M A (runOwn c env h) Q E s := by
  unfold runOwn
  exact wpC_onRaise (wpC_mono (wpC_run (E := fun e s' => cameBackBy M A env E e s') hc hnb) (fun _ _ q => q) fun _ _ q => wpC_of_any q)
theorem wpC_stackAny_false {f : Code × Pos → Bool} {Q : Bool → Shared → Prop} (hg : A.guards = some []) (hf : ∀ c p, c.isGuard = false → NoDec c → f (c, p) = false) (h : Q false s) : wpC M A (do return (← stack).any f) Q E s := fun Γ p hΓ hn hC => by
  show Q (((Γ.code, p) :: Γ.below).any f) s
  have hG : guardsOf ((Γ.code, p) :: Γ.below) = [] := by rw [guardsOf_cons]; exact hΓ.2.2.2.1 [] hg
  have key : ∀ l : List (Code × Pos), guardsOf l = [] → (∀ cp ∈ l, NoDec cp.1) → l.any f = false := by
    intro l
    induction l with
    | nil => exact fun _ _ => rfl
    | cons a r ih =>
      obtain ⟨c, q⟩ := a
      intro h1 h2
      rw [guardsOf_cons] at h1
      have h3 : c.guards = [] := (List.append_eq_nil_iff.mp h1).1
      have h4 : c.isGuard = false := by
        cases e : c.isGuard with
        | false => rfl
        | true => rw [Code.guards, if_pos e] at h3; cases h3
      rw [List.any_cons, hf c q h4 (h2 _ (.head _)), ih (List.append_eq_nil_iff.mp h1).2 fun cp h => h2 cp (.tail _ h)]
      rfl
  rw [key _ hG fun cp h => by rcases List.mem_cons.mp h with rfl | h; exact hn; exact hC cp h]
  exact h
end
section
variable {prog : Program} {w : World} {A : Around} {E : Value → Shared → Prop} {R : Result → Shared → Prop} {s : Shared} {env : Env}
theorem wpC_execs_cons {st : Stmt} {rest : List Stmt} {Q : Flow → Shared → Prop} (h : wpC (model prog w) A (exec st env) (fun f s' => match f with | .next => wpC (model prog w) A (execs rest env) Q E s' | f => Q f s') E s) :
    wpC (model prog w) A (execs (st :: rest) env) Q E s := fun Γ p hΓ hn hC => by
  rw [execs_cons, Sem.wp_bind']
  refine Sem.wp_mono (model prog w) Γ _ (fun f p' s' h' => ?_) (fun _ _ _ h' => h') _ _ (h Γ p hΓ hn hC)
  cases f <;> first | exact h' Γ p' hΓ hn hC | exact h'
theorem wpC_execs_any {st : Stmt} {rest : List Stmt} {Q : Flow → Shared → Prop} (h : wpAny (model prog w) A (exec st env) (fun f s' => match f with | .next => wpC (model prog w) A (execs rest env) Q E s' | f => Q f s') E s) :
    wpC (model prog w) A (execs (st :: rest) env) Q E s := wpC_execs_cons (wpC_of_any h)
theorem wpC_If {test : Expr} {body orelse : List Stmt} {pos : Pos} {Q : Flow → Shared → Prop}
    (h : wpAny (model prog w) A (isTrue test env (eval test env)) (fun b s₂ => if b then wpC (model prog w) A (execs body env) Q E s₂ else wpC (model prog w) A (execs orelse env) Q E s₂) E s) :
    wpC (model prog w) A (exec (.If test body orelse pos) env) Q E s := by
  rw [exec_If]
  refine wpC_bind (wpC_standAt (wpC_bind (wpC_of_any (wpAny_mono h (fun b s₂ h₂ => ?_) fun _ _ x => x))))
  cases b <;> exact h₂
theorem codeC_func {body : List Stmt} (h : wpC (model prog w) (A.deeper env) (execs body env) (fun f s' => R (.ok (.ret (match f with | .ret v => v | _ => .none))) s')
      (fun e s' => wpAny (model prog w) (A.deeper env) (leaving env e) (fun _ s'' => R (.error e) s'') (fun e' s'' => R (.error e') s'') s') s) : codeC (model prog w) A (.func body env) R s := by
  refine codeC_of_tree trivial ?_
  show wpC _ (A.deeper env) (do point; match ← (execs body env).onRaise (leaving env) with | .ret v => ret v | _ => ret .none) _ _ s
  refine wpC_bind (wpC_point (wpC_bind (wpC_onRaise (wpC_mono h (fun f s' h' => ?_) fun _ _ h' => wpC_of_any h'))))
  cases f <;> exact wpC_pure h'
theorem codeC_call_def {a : Addr} {o : Obj} {fd : FuncData} {body : List Stmt} {args : Args} {binds : List (Str × Value)}
    (hroom : A.depth < recursionLimit) (ho : s.heap.get? a = some o) (hdata : o.data = .func fd) (hlim : s.heap.NoLimit) (hcd : s.heap.CodeRec fd.code fd.qualname)
    (hbody : fd.body = .stmts body) (hbind : BindsTo s fd args binds)
    (hcell : ∀ x ∈ fd.scope.names, x.2 ≠ .cell) (hloc : ∀ x ∈ binds, fd.scope.names.lookup x.1 = some .local)
    (h : ∀ h₀, h₀.Ns s.heap.objs.size (fun x => binds.reverse.lookup x) → (∀ b o, s.heap.get? b = some o → h₀.get? b = some o) →
      wpC (model prog w) (A.deeper (callEnv fd s.heap.objs.size a)) (execs body (callEnv fd s.heap.objs.size a)) (fun f s' => R (.ok (.ret (match f with | .ret v => v | _ => .none))) s')
        (fun e s' => wpAny (model prog w) (A.deeper (callEnv fd s.heap.objs.size a)) (leaving (callEnv fd s.heap.objs.size a) e) (fun _ s'' => R (.error e) s'') (fun e' s'' => R (.error e') s'') s')
        { s with heap := h₀, toks := s.toks + binds.length })
    (hco : autoParam (fd.scope.isCoroutine = false) Mine.aR) (hgen : autoParam (fd.scope.isGenerator = false) Mine.aR) (hk : autoParam (fd.scope.kind = .function) Mine.aR) :
    codeC (model prog w) A (.call (.ref a) args) R s := by
  refine codeC_of_tree trivial (wpC_of_any ?_)
  show wpAny _ A.in1 (callAny (.ref a) args) _ _ s
  unfold callAny
  refine wpAny_bind (wpAny_load ho ?_)
  obtain ⟨c, oc, vs, tq, hc, hoc, hdc, hq⟩ := hcd
  rw [hdata]
  dsimp only
  unfold callFunction
  rw [hco, hgen, hbody, hc]
  dsimp only
  refine wpAny_bind (m := field (.ref c) 1) (wpAny_field hoc hdc hq (wpAny_bind (wpAny_pure ?_)))
  refine wpAny_bind (hbind _ _ _ _ ?_)
  refine wpAny_bind ?_
  rw [← hc]
  refine wpAny_newFunctionEnv hcell hloc (fun h₀ hns₀ hsb₀ => ?_) hk
  refine wpAny_bind (wpAny_enterFrame (hlim.fresh _ hsb₀) hroom (wpAny_pure (And.intro rfl (codeC_func (h h₀ hns₀ fun b o e => ?_)))))
  exact hsb₀.extBut b o (Nat.ne_of_lt (Heap.lt_size e)) (Heap.get?_push_of_some _ e)
end
end Mine
end
section
open PySem PySem.W PySem.Calls PyProof.Rows
set_option maxRecDepth 100000
namespace Mine
noncomputable def LoopR (prog : Program) (w : World) (A : Around) (env : Env) (Q : Flow → Shared → Prop) (E : Value → Shared → Prop) (r : Result) (s' : Shared) : Prop :=
  match r with | .ok f => Q f s' | .error e => cameBackBy (model prog w) A env E e s'
noncomputable def PostC (Q : Flow → Shared → Prop) (J : Shared → Prop) (f : Flow) (s : Shared) : Prop :=
  match f with
  | .ret v => Q (.ret v) s
  | .brk => Q .next s
  | _ => J s
end Mine
end
section
open PySem PySem.W PySem.Calls PyProof.Rows
set_option maxRecDepth 100000
namespace Mine
section
variable {prog : Program} {w : World} {A : Around} {E : Value → Shared → Prop} {s : Shared} {env : Env}
theorem wpC_keep {α : Type} {M : Model} {vs : List Value} {m : Sem α} {Q : α → Shared → Prop} (h : wpC M A m Q E s) : wpC M A (m.keep vs) Q E s :=
  fun Γ p hΓ hn hC => by rw [Sem.wp_keep]; exact h Γ p hΓ hn hC
theorem wpC_callWith_bi {M : Model} {pos : Pos} {id : String} {first : List Value} {args : List (Bool × Sem Value)} {Q : Value → Shared → Prop}
    (h : wpAny M A (evalArgs (.builtin id) true args []) (fun a s₁ => wpC M A (call (.builtin id) (first ++ a.pos) a.kw) Q E s₁) E s) (hplain : autoParam (args.any (·.1) = false) Mine.aR) :
    wpC M A (callWith pos (.builtin id) first args []) Q E s := by
  unfold callWith
  refine wpC_bind (wpC_holding (wpC_of_any (wpAny_mono h (fun a s₁ h₁ => wpC_bind (wpC_standAt ?_)) fun _ _ x => x)))
  rw [hplain]
  refine wpC_bind (wpC_pure ?_)
  exact wpC_bind (wpC_mono h₁ (fun r s₂ hr => wpC_bind (wpC_holding (wpC_point (wpC_pure hr)))) fun _ _ x => x)
theorem wpC_MethodCall {M : Model} {o : Expr} {name : Str} {apos pos : Pos} {args : List Expr} {pl : Sem Bool} {Q : Value → Shared → Prop}
    (h : wpAny M A (eval o env) (fun ov s₁ => wpAny M A (getMethod ov name pl) (fun fx s₂ => wpC M A (callWith pos fx.1 fx.2 (backTo pos (starEach args env)) []) Q E s₂) E s₁) E s)
    (he : autoParam (eval (.Call (.Attribute o name apos) args [] pos) env = (do
      let ov ← eval o env
      standAt apos.atName
      let (f, first) ← holding [ov] (getMethod ov name pl)
      callWith pos f first (backTo pos (starEach args env)) [])) Mine.aR) :
    wpC M A (eval (.Call (.Attribute o name apos) args [] pos) env) Q E s := by
  rw [he]
  refine wpC_bind (wpC_of_any (wpAny_mono h (fun ov s₁ h₁ => wpC_bind (wpC_standAt (wpC_bind (wpC_holding (wpC_of_any (wpAny_mono h₁ (fun fx s₂ h₂ => ?_) fun _ _ x => x)))))) fun _ _ x => x))
  exact h₂
theorem wpC_NameCall {M : Model} {id : Str} {p pos : Pos} {args : List Expr} {Q : Value → Shared → Prop}
    (h : wpAny M A (eval (.Name id p) env) (fun f s₁ => wpC M A (callWith pos f [] (backTo pos (starEach args env)) []) Q E s₁) E s) :
    wpC M A (eval (.Call (.Name id p) args [] pos) env) Q E s := by
  rw [arm_eval_Call_Name']
  exact wpC_bind (wpC_of_any h)
theorem wpC_Expr {e : Expr} {pos : Pos} {Q : Flow → Shared → Prop} (h : wpC (model prog w) A (eval e env) (fun _ => Q .next) E s)
    (hi : autoParam (interactive env = false) Mine.aR) (hs : autoParam (swapsWith e none pos.line env = pure false) Mine.aR) : wpC (model prog w) A (exec (.Expr e pos) env) Q E s := by
  rw [exec_Expr env e pos hi hs]
  exact wpC_bind (wpC_standAt (wpC_bind (wpC_mono h (fun v s' h' => wpC_of_any (wpAny_dropValue h')) fun _ _ x => x)))
theorem wpC_Return {M : Model} {e : Expr} {pos : Pos} {Q : Flow → Shared → Prop} (h : wpC M A (eval e env) (fun v => Q (.ret v)) E s) : wpC M A (exec (.Return (some e) pos) env) Q E s := by
  rw [exec_Return_some]
  exact wpC_bind (wpC_standAt (wpC_bind (wpC_mono h (fun v s' h' => wpC_pure h') fun _ _ x => x)))
theorem wpC_call_entry {T : String} {name : Str} {id : String} {b : Builtin} {self : Value} {rest : List Value} {Q : Value → Shared → Prop} (h : Slot T name id) (hT : s.TypeIs self T)
    (hb : entryFor table id = some b) (hn : NoDec (.builtin id ⟨self :: rest, []⟩))
    (hc : wpC (model prog w) A.in1 (b ⟨self :: rest, []⟩) (fun fin s' => ∃ v, fin = .done (.ret v) ∧ Q v s') E s)
    (ha : autoParam (argsOk id ⟨self :: rest, []⟩) Mine.aR) :
    wpC (model prog w) A (call (.builtin id) (self :: rest)) Q E s := by
  refine wpC_call (codeC_of_tree trivial ?_)
  show wpC _ A.in1 (do checkBuiltinCall id ⟨self :: rest, []⟩; again (.builtin id ⟨self :: rest, []⟩)) _ _ s
  refine wpC_bind (wpC_of_any (h.check _ _ _ _ _ _ _ _ hT ha (wpC_pure ⟨plainId_quiet h.plain _, codeC_of_tree hn ?_⟩)))
  rw [Around.under_plainId h.plain _]
  show wpC _ _ (match entryFor table id with | some b => b ⟨self :: rest, []⟩ | none => unsupported ((withoutEnding? id "#data").getD id)) _ _ s
  rw [hb]
  refine wpC_mono hc (fun fin s' h' => ?_) fun _ _ x => x
  obtain ⟨v, rfl, hv⟩ := h'
  exact hv
end
noncomputable def baO (arr : Array UInt8) : Obj := { cls := .type "bytearray", data := .bytearray arr }
theorem ba_plain : PlainAttrs "bytearray" :=
  ⟨⟨"bytearray.__getattribute__", by rw [typeLookup_type, builtinLookup_eq_fast]; kernel_rfl, by decide +kernel⟩, by rw [typeLookup_type, builtinLookup_eq_fast]; kernel_rfl⟩
theorem ba_owner : Manifest.owners.lookup (String.ofList ['y', 'a', 'r', 'r', 'a', 'e', 't', 'y', 'b'].reverse) = some Manifest.sig_bytearray := by kernel_rfl
theorem ba_slot_append : Slot "bytearray" "append" "bytearray.append" :=
  .of (owner := "bytearray") (n := "append") (by rw [typeLookup_type, builtinLookup_eq_fast]; kernel_rfl) (by decide +kernel) (by decide +kernel) (by decide +kernel)
    (by first | exact .inl (by decide +kernel) | exact .inr (by decide +kernel)) (by rw [isSubtype_type]; kernel_rfl)
theorem ba_type_append : typeOf (.builtin "bytearray.append") = pure (.type "method_descriptor") := by show builtinType _ = _; rw [builtinType_eq_fast]; kernel_rfl
theorem ba_entry_append : entryFor table "bytearray.append" = some Builtin.«bytearray.append» := by first | exact entryFor_of_tree (by kernel_rfl) | exact entryFor_of_fast (by kernel_rfl)
theorem ba_args_append (a b : Value) : argsOk "bytearray.append" ⟨[a, b], []⟩ := by
  unfold argsOk; rw [signature?_of (id := "bytearray.append") (n := ['d', 'n', 'e', 'p', 'p', 'a']) (o := ['y', 'a', 'r', 'r', 'a', 'e', 't', 'y', 'b']) (by kernel_rfl) ba_owner]; kernel_rfl
theorem ba_slot_extend : Slot "bytearray" "extend" "bytearray.extend" :=
  .of (owner := "bytearray") (n := "extend") (by rw [typeLookup_type, builtinLookup_eq_fast]; kernel_rfl) (by decide +kernel) (by decide +kernel) (by decide +kernel)
    (by first | exact .inl (by decide +kernel) | exact .inr (by decide +kernel)) (by rw [isSubtype_type]; kernel_rfl)
theorem ba_type_extend : typeOf (.builtin "bytearray.extend") = pure (.type "method_descriptor") := by show builtinType _ = _; rw [builtinType_eq_fast]; kernel_rfl
theorem ba_entry_extend : entryFor table "bytearray.extend" = some Builtin.«bytearray.extend» := by first | exact entryFor_of_tree (by kernel_rfl) | exact entryFor_of_fast (by kernel_rfl)
theorem ba_args_extend (a b : Value) : argsOk "bytearray.extend" ⟨[a, b], []⟩ := by
  unfold argsOk; rw [signature?_of (id := "bytearray.extend") (n := ['d', 'n', 'e', 't', 'x', 'e']) (o := ['y', 'a', 'r', 'r', 'a', 'e', 't', 'y', 'b']) (by kernel_rfl) ba_owner]; kernel_rfl
section
variable {prog : Program} {w : World} {A : Around} {E : Value → Shared → Prop} {s : Shared}
theorem ba_exported {a : Addr} {Q : Bool → Shared → Prop} (hg : A.guards = some []) (h : Q false s) : wpC (model prog w) A (Builtin.Bytes.exported (.ref a)) Q E s := by
  unfold Builtin.Bytes.exported
  refine wpC_stackAny_false hg (fun c p h1 h2 => ?_) h
  cases c with
  | builtin id args =>
    have h2 : Builtin.Bytes.decodersThatHold.contains id = false := h2
    have h1 : guardIds.contains id = false := h1
    have n1 : id ≠ "bytearray.__contains__" := by rintro rfl; exact absurd h1 (by decide)
    have n2 : id ≠ "bytearray.__mod__" := by rintro rfl; exact absurd h1 (by decide)
    have n3 : id ≠ "bytearray.__rmod__" := by rintro rfl; exact absurd h1 (by decide)
    have n4 : id ≠ "_struct.pack_into.held" := by rintro rfl; exact absurd h1 (by decide)
    have n5 : id ≠ "bytearray.find.held" := by rintro rfl; exact absurd h1 (by decide)
    delta Builtin.Bytes.exported.match_1
    refine Eq.trans (b := dite (id = "bytearray.__contains__") _ _) rfl ?_
    rw [dif_neg n1, dif_neg n2, dif_neg n3, dif_neg n4, dif_neg n5]
    obtain ⟨pos, kw⟩ := args
    cases pos with
    | nil => rfl
    | cons v r => exact (congrArg (Builtin.Bytes.sameRef v (.ref a) && ·) h2).trans (Bool.and_false _)
  | _ => rfl
theorem ba_checkResize {a : Addr} {arr : Array UInt8} {Q : Unit → Shared → Prop} (hg : A.guards = some []) (ho : s.heap.get? a = some (baO arr)) (h : Q () s) : wpC (model prog w) A (Builtin.Bytes.checkResize (.ref a)) Q E s := by
  unfold Builtin.Bytes.checkResize
  refine wpC_bind ?_
  show wpC _ _ (Builtin.Bytes.exported (.ref a) >>= _) _ _ s
  refine wpC_bind (ba_exported hg ?_)
  refine wpC_of_any ?_
  show wpAny _ _ (Builtin.Bytes.exportsOf (.ref a) >>= _) _ _ s
  refine wpAny_bind ?_
  unfold Builtin.Bytes.exportsOf
  refine wpAny_bind (wpAny_load ho ?_)
  refine wpAny_pure (wpAny_pure ?_)
  exact wpC_of_any (wpAny_pure h)
theorem ba_write {a : Addr} {arr : Array UInt8} {f : Array UInt8 → Array UInt8} {Q : Unit → Shared → Prop} (ho : s.heap.get? a = some (baO arr)) (hz : (f arr).size ≤ sizeLine)
    (h : ∀ h', Heap.SameBut a s.heap h' → h'.get? a = some (baO (f arr)) → Q () { s with heap := h' }) : wpAny (model prog w) A (Builtin.Bytes.write (.ref a) f) Q E s := by
  show wpAny _ _ (updateBytearray a f) _ _ _
  unfold updateBytearray
  refine wpAny_bind (wpAny_load ho ?_)
  show wpAny _ _ (update a (Obj.mapBytearray f) >>= fun _ => lookBehind a) _ _ _
  refine wpAny_bind (wpAny_update ho ?_)
  have ho₂ : (s.heap.update a (Obj.mapBytearray f)).get? a = some (baO (f arr)) := Heap.get?_update_self (Obj.mapBytearray f) ho rfl
  refine wpAny_lookBehind ho₂ ?_ (h _ (Heap.SameBut.update ..) ho₂)
  show (if (f arr).size > sizeLine then some "bytearray:memory" else none) = none
  rw [if_neg (by lia)]
theorem ba_append {a : Addr} {arr : Array UInt8} {x : Int} {t : Tok} {Q : Value → Shared → Prop} (hg : A.guards = some []) (ho : s.heap.get? a = some (baO arr)) (h0 : 0 ≤ x) (h1 : x < 256) (hz : arr.size < sizeLine)
    (h : ∀ h', Heap.SameBut a s.heap h' → h'.get? a = some (baO (arr.push x.toNat.toUInt8)) → Q .none { s with heap := h' }) :
    wpC (model prog w) A (call (.builtin "bytearray.append") [.ref a, .int x t]) Q E s := by
  refine wpC_call_entry ba_slot_append ⟨_, ho, rfl⟩ ba_entry_append (by show Builtin.Bytes.decodersThatHold.contains "bytearray.append" = false; decide +kernel) ?_ (ba_args_append _ _)
  unfold Builtin.«bytearray.append»
  refine wpC_bind (wpC_of_eq (a := (.ref a, .int x t)) rfl ?_)
  refine wpC_bind (wpC_of_any ?_)
  unfold Builtin.Bytes.byteValue
  refine wpAny_bind (wpAny_of_eq (rfl : asIndex (.int x t) = pure x) ?_)
  refine bm_if_false (by simp only [Bool.or_eq_false_iff, decide_eq_false_iff_not]; lia) ?_
  refine wpAny_pure ?_
  refine wpC_bind (ba_checkResize hg ho ?_)
  refine wpC_of_any (wpAny_bind (ba_write ho (by rw [Array.size_push]; lia) fun h' hs he => wpAny_pure ⟨_, rfl, h h' hs he⟩))
end
end Mine
end
section
open PySem PySem.W PySem.Calls PyProof.Rows Builtin Builtin.ObjectAttr Builtin.Getset_descriptor
set_option maxRecDepth 100000
set_option maxHeartbeats 4000000
namespace Mine
section
variable {prog : Program} {w : World} {A : Around} {K : Frag} {C : Addr} {R : Result → Shared → Prop} {h : Heap} {g : Array GenState} {d : Drawn} {t : Nat} {os : OsState} {E : Value → Shared → Prop} {s : Shared}
theorem codeC_call_builtin_at {id : String} {args : Args} {b : Builtin} (hn : NoDec (.builtin id args)) (hq : (Code.builtin id args).quiet = true) (hb : entryFor table id = some b)
    (h : wpAny (model prog w) A.in1 (checkBuiltinCall id args) (fun _ s₁ => wpC (model prog w) (A.under (.builtin id args)) (b args)
      (fun fin s' => match fin with | .done f => R (.ok f) s' | .again c' => c'.quiet = true ∧ codeC (model prog w) A c' R s') (fun e s' => R (.error e) s') s₁)
      (fun e s' => R (.error e) s') s) : codeC (model prog w) A (.call (.builtin id) args) R s := by
  refine codeC_of_tree trivial ?_
  show wpC _ A.in1 (do checkBuiltinCall id args; again (.builtin id args)) _ _ s
  refine wpC_bind (wpC_of_any (wpAny_mono h (fun _ s₁ h₁ => wpC_pure (And.intro hq (codeC_of_tree hn ?_))) fun _ _ h' => h'))
  show wpC _ _ (match entryFor table id with | some b => b args | none => unsupported ((withoutEnding? id "#data").getD id)) _ _ s₁
  rw [hb]; exact h₁
theorem make_coreC {rest : List Value} {kw : List (Str × Value)} {init : Value} (Y : Makes (model prog w) h C) (hi : Looks (model prog w) h (typeLookup (.ref C) "__init__") (some init))
    (hb : ∀ self, Looks (model prog w) h (bindSpecial init self) (init, [self])) (hne : (some init != some (Value.builtin "object.__init__")) = true ∨ (rest = [] ∧ kw = []))
    (hq : codeC (model prog w) (A.under (.builtin "type.__call__" ⟨.ref C :: rest, kw⟩)) (.call init ⟨.ref (h.objs.size + 1) :: rest, kw⟩) (InitBack (h.objs.size + 1) R) ⟨(h.push emptyDict).push (instObj C h.objs.size), g, d, t, os⟩) :
    codeC (model prog w) A (.call (.ref C) ⟨rest, kw⟩) R ⟨h, g, d, t, os⟩ := by
  have Y' := Y
  obtain ⟨⟨oc, od, cd, sl, hC, e1, e2, e4⟩, made, base, self, top, call, typ⟩ := Y
  refine codeC_of_tree trivial ?_
  refine wpC_of_any ?_
  show wpAny _ _ (callAny (.ref C) _) _ _ _
  refine nd_load hC ?_
  show wpAny _ _ (callAny.viaDunder (.ref C) _) _ _ _
  unfold callAny.viaDunder
  refine wpAny_bind (call.at ?_)
  dsimp only
  rw [tc_bind]
  refine wpAny_bind (wpAny_pure (wpAny_bind (wpAny_pure ?_)))
  refine wpAny_pure (a := Fin.again (.call (.builtin "type.__call__") ⟨.ref C :: rest, kw⟩)) (And.intro rfl ?_)
  refine codeC_call_builtin_at (by show Builtin.Bytes.decodersThatHold.contains "type.__call__" = false; decide +kernel) (Code.quiet_builtin _ (by decide +kernel)) entry_typeCall (check_slot tc_kind tc_split typ (tc_args _ _ _) ?_)
  unfold Builtin.«type.__call__»
  have hm : Looks (model prog w) h (mroOf (.ref C)) cd.mro := ((Looks.ld (part := none) hC).andThen .now).andThen .now
  have k : ∀ b o, h.get? b = some o → ((h.push emptyDict).push (instObj C h.objs.size)).get? b = some o := fun b o e => Heap.get?_push_of_some _ (Heap.get?_push_of_some _ e)
  have hx : ((h.push emptyDict).push (instObj C h.objs.size)).get? (h.objs.size + 1) = some (instObj C h.objs.size) := by heap_get
  have t1 : Looks (model prog w) ((h.push emptyDict).push (instObj C h.objs.size)) (typeOf (.ref (h.objs.size + 1))) (.ref C) := (Looks.ld hx).andThen .now
  have s1 := self.keeps k
  have i1 := hi.keeps k
  have b1 := (hb (.ref (h.objs.size + 1))).keeps k
  dsimp only
  repeat (first | rw [e4] | rw [if_neg Bool.false_ne_true] | (refine wpC_bind (wpC_of_any ?_)) | with_reducible refine wpAny_call ?_ | lk)
  refine new_K Y' hi hne ?_
  dsimp only
  refine wpC_bind (wpC_of_any ?_)
  unfold isInstance
  repeat lk
  rw [if_neg (by decide)]
  refine wpC_bind (wpC_holding ?_)
  unfold callSpecial? specialOf
  refine wpC_bind (wpC_of_any ?_)
  repeat lk
  dsimp only
  refine wpC_holding ?_
  refine wpC_bind (wpC_of_any ?_)
  lk
  refine wpC_bind (wpC_call (codeC_mono hq fun r s' z => ?_))
  rcases r with e | (v | _ | _ | _) <;> first | exact z | exact z.elim | skip
  obtain ⟨rfl, z⟩ := z
  exact wpC_pure (wpC_pure z)
end
end Mine
end
section
open PySem PySem.W PySem.Calls PyProof.Rows Builtin
set_option maxRecDepth 1000000
set_option maxHeartbeats 4000000
namespace Mine
theorem ba_owner_new : ("bytearray.__new__".splitOn ".__new__").headD "" = "bytearray" := by simp +decide [String.splitOn, String.splitOnAux]
end Mine
end
section
open PySem PySem.W PySem.Calls PyProof.Rows Builtin
set_option maxRecDepth 100000
set_option maxHeartbeats 4000000
namespace Mine
theorem ba_slot_len : Slot "bytearray" "__len__" "bytearray.__len__" :=
  .of (owner := "bytearray") (n := "__len__") (by rw [typeLookup_type, builtinLookup_eq_fast]; kernel_rfl) (by decide +kernel) (by decide +kernel) (by decide +kernel)
    (by first | exact .inl (by decide +kernel) | exact .inr (by decide +kernel)) (by rw [isSubtype_type]; kernel_rfl)
theorem ba_entry_len : entryFor table "bytearray.__len__" = some Builtin.«bytearray.__len__» := by first | exact entryFor_of_tree (by kernel_rfl) | exact entryFor_of_fast (by kernel_rfl)
theorem ba_args_len (a : Value) : argsOk "bytearray.__len__" ⟨[a], []⟩ := by unfold argsOk; kernel_rfl
theorem ba_slot_getitem : Slot "bytearray" "__getitem__" "bytearray.__getitem__" :=
  .of (owner := "bytearray") (n := "__getitem__") (by rw [typeLookup_type, builtinLookup_eq_fast]; kernel_rfl) (by decide +kernel) (by decide +kernel) (by decide +kernel)
    (by first | exact .inl (by decide +kernel) | exact .inr (by decide +kernel)) (by rw [isSubtype_type]; kernel_rfl)
theorem ba_entry_getitem : entryFor table "bytearray.__getitem__" = some Builtin.«bytearray.__getitem__» := by first | exact entryFor_of_tree (by kernel_rfl) | exact entryFor_of_fast (by kernel_rfl)
theorem ba_args_getitem (a b : Value) : argsOk "bytearray.__getitem__" ⟨[a, b], []⟩ := by unfold argsOk; kernel_rfl
theorem ba_mro : mroOf (.type "bytearray") = pure [.type "bytearray", .type "object"] := by rw [mroOf_type]; kernel_rfl
theorem ba_lookup_new : typeLookup (.type "bytearray") "__new__" = pure (some (.builtin "bytearray.__new__")) := by rw [typeLookup_type, builtinLookup_eq_fast]; kernel_rfl
theorem ba_slot_init : Slot "bytearray" "__init__" "bytearray.__init__" :=
  .of (owner := "bytearray") (n := "__init__") (by rw [typeLookup_type, builtinLookup_eq_fast]; kernel_rfl) (by decide +kernel) (by decide +kernel) (by decide +kernel)
    (by first | exact .inl (by decide +kernel) | exact .inr (by decide +kernel)) (by rw [isSubtype_type]; kernel_rfl)
theorem ba_called : TypeCalled "bytearray" "bytearray.__new__" "bytearray.__init__" :=
  ⟨by decide +kernel, by decide +kernel, ⟨_, _, ba_mro⟩, madeBy_type ba_mro ba_lookup_new (by decide +kernel), by decide +kernel, by rw [isSubtype_type]; kernel_rfl, ba_slot_init⟩
theorem ba_typeCall : checkTypeCall "bytearray" ⟨[], []⟩ = pure () := by kernel_rfl
theorem ba_newCall : checkBuiltinCall "bytearray.__new__" ⟨[.type "bytearray"], []⟩ = pure () := by kernel_rfl
theorem ba_entry_new : entryFor table "bytearray.__new__" = some Builtin.«list.__new__» := entryFor_alias (id' := "list.__new__") (by rw [fastTable_eq_tree]; kernel_rfl) (by decide +kernel) (by decide +kernel) (by rw [fastTable_eq_tree]; kernel_rfl)
theorem ba_entry_init : entryFor table "bytearray.__init__" = some Builtin.«bytearray.__init__» := by first | exact entryFor_of_tree (by kernel_rfl) | exact entryFor_of_fast (by kernel_rfl)
theorem ba_plain_new : plainId "bytearray.__new__" = true := by decide +kernel
theorem ba_look_release : typeLookup (.type "bytearray") "__release_buffer__" = pure (some (.builtin "bytearray.__release_buffer__")) := by rw [typeLookup_type, builtinLookup_eq_fast]; kernel_rfl
theorem ba_drop : "bytearray.__release_buffer__".dropRight ("__release_buffer__".length + 1) = "bytearray" := by decide +kernel
theorem ba_bind : Bytes.bindOptional "bytearray.__init__" "bytearray" ["source", "encoding", "errors"] [] [] = pure [none, none, none] := by kernel_rfl
theorem ba_sub_self : isSubtype (.type "bytearray") (.type "bytearray") = pure true := by rw [isSubtype_type]; kernel_rfl
theorem ba_init_args (a : Value) : argsOk "bytearray.__init__" ⟨[a], []⟩ := by unfold argsOk; kernel_rfl
section
variable {prog : Program} {w : World} {A : Around} {E : Value → Shared → Prop} {s : Shared}
theorem ba_payload {M : Model} {a : Addr} {arr : Array UInt8} {Q : Array UInt8 → Shared → Prop} (ho : s.heap.get? a = some (baO arr)) (h : Q arr s) : wpAny M A (Bytes.payload (.ref a)) Q E s := by
  unfold Bytes.payload Bytes.payload?
  exact wpAny_bind (wpAny_bind (wpAny_load ho (wpAny_pure (wpAny_pure h))))
theorem ba_len {a : Addr} {arr : Array UInt8} {Q : Value → Shared → Prop} (ho : s.heap.get? a = some (baO arr)) (hfit : (arr.size : Int) < 2 ^ 63)
    (h : Q (.int arr.size (s.toks + 1)) { s with toks := s.toks + 1 + 1 }) : wpAny (model prog w) A (call (.builtin "len") [.ref a]) Q E s := by
  have hT : s.TypeIs (.ref a) "bytearray" := ⟨_, ho, rfl⟩
  refine call_function_entry kind_len plain_len entry_len (args_len1 _) ?_
  unfold Builtin.«len»
  refine wpAny_bind (m := oneArg "len" _) (wpAny_pure ?_)
  refine wpAny_bind (m := callSpecial? (.ref a) (Str.ofString "__len__")) (wpAny_callSpecial?_slot (name := Str.ofString "__len__") hT ba_slot_len
    (wpAny_call_entry ba_slot_len hT ba_entry_len ?_ (ba_args_len _)))
  unfold Builtin.«bytearray.__len__»
  refine wpAny_bind (wpAny_of_eq (a := (.ref a, [])) rfl ?_)
  refine wpAny_bind (ba_payload ho ?_)
  refine wpAny_bind (wpAny_mkInt (wpAny_pure ⟨_, rfl, ?_⟩))
  refine wpAny_bind (wpAny_holding (wpAny_pure ?_))
  refine wpAny_bind (wpAny_letGo ?_)
  show wpAny _ _ (if ((arr.size : Nat) : Int) < 0 then _ else _) _ _ _
  rw [if_neg (by lia)]
  show wpAny _ _ (if ((arr.size : Nat) : Int) ≥ 2 ^ 63 then _ else _) _ _ _
  rw [if_neg (by lia)]
  exact wpAny_bind (wpAny_mkInt (wpAny_pure ⟨_, rfl, h⟩))
theorem ba_getItem {a : Addr} {arr : Array UInt8} {i : Int} {t : Tok} {Q : Value → Shared → Prop} (ho : s.heap.get? a = some (baO arr)) (h0 : 0 ≤ i) (h1 : i < arr.size) (hz : arr.size ≤ 100000)
    (h : Q (.int (arr[i.toNat]'(by omega)).toNat s.toks) { s with toks := s.toks + 1 }) : wpAny (model prog w) A (getItem (.ref a) (.int i t)) Q E s := by
  have hT : s.TypeIs (.ref a) "bytearray" := ⟨_, ho, rfl⟩
  unfold getItem
  try with_reducible refine wpAny_holding ?_
  refine wpAny_bind (wpAny_sequenceKey hT (by decide) ?_)
  refine wpAny_bind (wpAny_callSpecial?_slot (name := Str.ofString "__getitem__") hT ba_slot_getitem
    (wpAny_call_entry ba_slot_getitem hT ba_entry_getitem ?_ (ba_args_getitem _ _)))
  unfold Builtin.«bytearray.__getitem__»
  refine wpAny_bind (wpAny_of_eq (a := (.ref a, [.int i t])) rfl ?_)
  refine wpAny_bind ?_
  unfold Builtin.Bytes.subscript?
  refine wpAny_bind (wpAny_specialOf (T := "int") (typeIs_int s i t) int_index ?_)
  show wpAny _ _ (asIndex (.int i t) >>= _) _ _ s
  refine wpAny_bind (wpAny_of_eq (a := i) rfl ?_)
  show wpAny _ _ (if (!Bytes.fitsIndex i) = true then _ else _) _ _ s
  rw [if_neg (by have : Bytes.fitsIndex i = true := by (unfold Bytes.fitsIndex; simp only [Bool.and_eq_true, decide_eq_true_eq]; omega)
                 rw [this]; decide)]
  refine wpAny_pure ?_
  dsimp only
  refine wpAny_bind (ba_payload ho ?_)
  rw [seqIndex_of h0 h1]
  have he : arr[i.toNat]? = some (arr[i.toNat]'(by omega)) := Array.getElem?_eq_getElem (by omega)
  simp only [Option.bind_some, he]
  exact wpAny_bind (wpAny_mkInt (wpAny_pure ⟨_, rfl, wpAny_pure h⟩))
theorem bufferF_eq {id : String} {b : Array UInt8} {t : Tok} {f : Bool} : Bytes.buffer? id (.bytes b t) f = pure (some b) := by
  unfold Bytes.buffer?
  rw [KBy.special_eq KBy.look_buffer, KBy.own_buffer, KBy.own_release]
  kernel_rfl
theorem take_eq {id : String} {b : Array UInt8} {t : Tok} {flags : Int} : Bytes.takeBufferQuiet? id (.bytes b t) flags = pure (some (b, none)) := by
  unfold Bytes.takeBufferQuiet? Bytes.takeBuffer?
  rw [KBy.special_eq KBy.look_buffer, KBy.own_buffer]
  rw [bufferF_eq]
  kernel_rfl
theorem ba_extend {a : Addr} {arr more : Array UInt8} {t : Tok} {Q : Value → Shared → Prop} (hg : A.guards = some []) (ho : s.heap.get? a = some (baO arr)) (hz : arr.size + more.size ≤ sizeLine)
    (h : ∀ h', Heap.SameBut a s.heap h' → h'.get? a = some (baO (arr ++ more)) → Q .none { s with heap := h' }) :
    wpC (model prog w) A (call (.builtin "bytearray.extend") [.ref a, .bytes more t]) Q E s := by
  refine wpC_call_entry ba_slot_extend ⟨_, ho, rfl⟩ ba_entry_extend (by show Builtin.Bytes.decodersThatHold.contains "bytearray.extend" = false; decide +kernel) ?_ (ba_args_extend _ _)
  unfold Builtin.«bytearray.extend»
  refine wpC_bind (wpC_of_eq (a := (.ref a, .bytes more t)) rfl ?_)
  refine wpC_bind (wpC_of_eq (KBy.special_eq KBy.look_buffer) ?_)
  show wpC _ _ (rule _ >>= _) _ _ s
  refine wpC_bind (wpC_of_any (wpAny_rule ?_))
  refine wpC_bind (wpC_of_any (ba_payload ho ?_))
  refine wpC_bind (wpC_of_eq take_eq ?_)
  dsimp only
  rw [if_pos (show (none : Option Value).isNone = true from rfl)]
  have fin : wpC (model prog w) A.in1 (Bytes.write (.ref a) (· ++ more) >>= fun _ => ret .none) (fun fin s' => ∃ v, fin = .done (.ret v) ∧ Q v s') E s :=
    wpC_of_any (wpAny_bind (ba_write ho (by rw [Array.size_append]; lia) fun h' hs he => wpAny_pure ⟨_, rfl, h h' hs he⟩))
  show wpC _ _ (if (!more.isEmpty) = true then (Bytes.checkResize (.ref a) >>= fun _ => (Bytes.write (.ref a) (· ++ more) >>= fun _ => ret .none)) else (Bytes.write (.ref a) (· ++ more) >>= fun _ => ret .none)) _ _ s
  cases hm : (!more.isEmpty) with
  | true => rw [if_pos rfl]; exact wpC_bind (ba_checkResize hg ho fin)
  | false => rw [if_neg Bool.false_ne_true]; exact fin
theorem ba_new_code {Q₁ : Value → Shared → Prop} (h : Q₁ (.ref s.heap.objs.size) { s with heap := s.heap.push (baO #[]) }) :
    codeAny (model prog w) A (.call (.builtin "bytearray.__new__") ⟨[.type "bytearray"], []⟩) (wants Q₁ E) s := by
  refine codeAny_of_tree ?_
  show wpAny _ A.in1 (do checkBuiltinCall "bytearray.__new__" ⟨[.type "bytearray"], []⟩; again (.builtin "bytearray.__new__" ⟨[.type "bytearray"], []⟩)) _ _ s
  refine wpAny_bind (wpAny_of_eq ba_newCall (wpAny_pure ⟨plainId_quiet ba_plain_new _, codeAny_builtin_stack ba_entry_new rfl fun p st => ?_⟩))
  rw [Around.under_plainId ba_plain_new _]
  have hsub := ba_sub_self
  have hown := ba_owner_new
  obtain ⟨hp, g, d, tk, os⟩ := s
  dsimp only
  rw [hown]
  wp_walk
  exact h
theorem ba_init {a : Addr} {Q : Shared → Prop} {A : Around} (hg : A.guards = some []) (ho : s.heap.get? a = some (baO #[]))
    (h : ∀ h', Heap.SameBut a s.heap h' → h'.get? a = some (baO #[]) → Q { s with heap := h' }) :
    wpC (model prog w) A (Builtin.«bytearray.__init__» ⟨[.ref a], []⟩) (fun fin s' => fin = .done (.ret .none) ∧ Q s') E s := by
  have hT : s.TypeIs (.ref a) "bytearray" := ⟨_, ho, rfl⟩
  unfold Builtin.«bytearray.__init__»
  dsimp only
  refine wpC_bind (wpC_of_any ?_)
  unfold Bytes.ownRelease Bytes.slotIsOwn
  refine wpAny_bind (wpAny_bind (wpAny_specialOf hT ba_look_release ?_))
  dsimp only
  rw [if_neg (by decide +kernel), ba_drop]
  refine wpAny_isInstance hT ba_sub_self ?_
  refine wpAny_pure ?_
  rw [if_neg (by decide)]
  refine wpC_bind (wpC_of_eq (a := [none, none, none]) ba_bind ?_)
  dsimp only
  refine wpC_bind (wpC_of_eq (a := ()) rfl ?_)
  refine wpC_bind (wpC_of_eq (a := ()) rfl ?_)
  refine wpC_bind ?_
  show wpC _ _ (Builtin.Bytes.exported (.ref a) >>= _) _ _ s
  refine wpC_bind (ba_exported hg ?_)
  refine wpC_of_any ?_
  show wpAny _ _ (Builtin.Bytes.exportsOf (.ref a) >>= _) _ _ s
  refine wpAny_bind ?_
  unfold Builtin.Bytes.exportsOf
  refine wpAny_bind (wpAny_load ho ?_)
  refine wpAny_pure (wpAny_pure ?_)
  rw [if_neg (by decide)]
  refine wpC_of_any (wpAny_bind (ba_write ho (Nat.zero_le _) fun h' hs he => ?_))
  exact wpAny_pure ⟨rfl, h h' hs he⟩
end
end Mine
end
section
open PySem PySem.W PySem.Calls PyProof.Rows Builtin
set_option maxRecDepth 100000
set_option maxHeartbeats 4000000
namespace Mine
section
variable {prog : Program} {w : World} {A : Around} {E : Value → Shared → Prop} {s : Shared}
theorem codeC_builtin {R : Result → Shared → Prop} {id : String} {args : Args} {b : Builtin} (hn : NoDec (.builtin id args)) (hb : entryFor table id = some b)
    (h : wpC (model prog w) (A.under (.builtin id args)) (b args) (fun fin s' => match fin with | .done f => R (.ok f) s' | .again c' => c'.quiet = true ∧ codeC (model prog w) A c' R s') (fun e s' => R (.error e) s') s) :
    codeC (model prog w) A (.builtin id args) R s := by
  refine codeC_of_tree hn ?_
  show wpC _ _ (match entryFor table id with | some b => b args | none => unsupported ((withoutEnding? id "#data").getD id)) _ _ s
  rw [hb]; exact h
theorem ba_make {Q : Value → Shared → Prop} (hg : A.guards = some [])
    (h : ∀ h' a, (∀ b o, s.heap.get? b = some o → h'.get? b = some o) → s.heap.get? a = none → a = s.heap.objs.size → h'.get? a = some (baO #[]) → Q (.ref a) { s with heap := h' }) :
    wpC (model prog w) A (call (.type "bytearray") []) Q E s := by
  have ft := ba_called
  obtain ⟨c, tl, hmro⟩ := ft.mro
  have hmade := ft.made
  have hsub := ft.sub
  refine wpC_call (codeC_of_tree trivial (wpC_of_any ?_))
  show wpAny _ _ (callAny (.type "bytearray") _) _ _ _
  refine wpAny_pure ⟨Code.quiet_builtin _ (by decide +kernel), codeC_builtin (by show Builtin.Bytes.decodersThatHold.contains "type.__call__" = false; decide +kernel) F.entry_type_call ?_⟩
  rw [Around.under_plain (weight_type_call_type "bytearray" [] []) rfl]
  have h1 := ft.notType
  have h2 := ft.canCreate
  unfold Builtin.«type.__call__»
  dsimp only
  rw [if_neg (by rw [h1]; exact Bool.false_ne_true)]
  rw [if_neg (by rw [h2]; exact Bool.false_ne_true)]
  refine wpC_bind (wpC_of_eq (a := ()) ba_typeCall ?_)
  refine wpC_bind (wpC_of_eq hmro ?_)
  rw [if_neg (by exact Bool.false_ne_true)]
  refine wpC_bind (wpC_of_eq hmade ?_)
  dsimp only
  refine wpC_bind (wpC_of_eq (a := Value.builtin "bytearray.__new__") rfl ?_)
  refine wpC_bind (wpC_holding (wpC_of_any (wpAny_call ?_)))
  refine codeAny_mono (ba_new_code (Q₁ := fun v s₁ => v = .ref s.heap.objs.size ∧ s₁ = { s with heap := s.heap.push (baO #[]) }) (E := fun _ _ => False) ⟨rfl, rfl⟩) fun r s₁ z => ?_
  rcases r with e | (v | _ | _ | _) <;> first | exact z.elim | skip
  obtain ⟨rfl, rfl⟩ := z
  dsimp only
  have ho : (s.heap.push (baO #[])).get? s.heap.objs.size = some (baO #[]) := Heap.get?_push_size _ rfl
  have hT : ({ s with heap := s.heap.push (baO #[]) } : Shared).TypeIs (.ref s.heap.objs.size) "bytearray" := ⟨_, ho, rfl⟩
  refine wpC_bind (wpC_of_any (wpAny_isInstance hT ba_sub_self ?_))
  rw [if_neg (by decide)]
  refine wpC_bind (wpC_holding ?_)
  unfold callSpecial?
  refine wpC_bind (wpC_of_any (wpAny_specialOf hT ba_slot_init.lookup ?_))
  dsimp only
  refine wpC_holding ?_
  refine wpC_bind (wpC_of_eq (ba_slot_init.bind _) ?_)
  refine wpC_bind (wpC_call (codeC_of_tree trivial ?_))
  show wpC _ _ (do checkBuiltinCall "bytearray.__init__" ⟨[.ref s.heap.objs.size], []⟩; again (.builtin "bytearray.__init__" ⟨[.ref s.heap.objs.size], []⟩)) _ _ _
  refine wpC_bind (wpC_of_any (ba_slot_init.check _ _ _ _ _ _ _ _ hT (ba_init_args _) (wpC_pure ⟨plainId_quiet ba_slot_init.plain _, codeC_builtin (by show Builtin.Bytes.decodersThatHold.contains "bytearray.__init__" = false; decide +kernel) ba_entry_init ?_⟩)))
  refine wpC_mono (ba_init (E := fun _ _ => False) (Q := fun s' => Q (.ref s.heap.objs.size) s') (by rw [Around.under_plainId ba_slot_init.plain _]; exact hg) ho fun h' hs he => ?_) (fun fin s' z => ?_) (fun _ _ z => z.elim)
  · refine h h' _ (fun b o e => ?_) (Heap.get?_none_of_le (Nat.le_refl _)) rfl he
    exact hs.extBut b o (Nat.ne_of_lt (Heap.lt_size e)) (Heap.get?_push_of_some _ e)
  · obtain ⟨rfl, hq⟩ := z
    dsimp only
    exact wpC_pure (wpC_pure hq)
end
end Mine
end
section
open PySem PySem.W PySem.Calls PyProof.Rows Builtin
set_option maxRecDepth 100000
set_option maxHeartbeats 4000000
namespace Mine
theorem ba_no_bytes : typeLookup (.type "bytearray") "__bytes__" = pure none := by rw [typeLookup_type, builtinLookup_eq_fast]; kernel_rfl
theorem ba_no_index : typeLookup (.type "bytearray") "__index__" = pure none := by rw [typeLookup_type, builtinLookup_eq_fast]; kernel_rfl
theorem ba_look_buffer : typeLookup (.type "bytearray") "__buffer__" = pure (some (.builtin "bytearray.__buffer__")) := by rw [typeLookup_type, builtinLookup_eq_fast]; kernel_rfl
theorem ba_dropB : "bytearray.__buffer__".dropRight ("__buffer__".length + 1) = "bytearray" := by decide +kernel
section
variable {prog : Program} {w : World} {A : Around} {E : Value → Shared → Prop} {s : Shared}
theorem ba_own_buffer {M : Model} {a : Addr} {Q : Bool → Shared → Prop} (hT : s.TypeIs (.ref a) "bytearray") (h : Q true s) : wpAny M A (Bytes.slotIsOwn (.ref a) "__buffer__") Q E s := by
  unfold Bytes.slotIsOwn
  refine wpAny_bind (wpAny_specialOf hT ba_look_buffer ?_)
  dsimp only
  rw [if_neg (by decide +kernel), ba_dropB]
  exact wpAny_isInstance hT ba_sub_self h
theorem ba_own_release {M : Model} {a : Addr} {Q : Bool → Shared → Prop} (hT : s.TypeIs (.ref a) "bytearray") (h : Q false s) : wpAny M A (Bytes.ownRelease (.ref a)) Q E s := by
  unfold Bytes.ownRelease Bytes.slotIsOwn
  refine wpAny_bind (wpAny_bind (wpAny_specialOf hT ba_look_release ?_))
  dsimp only
  rw [if_neg (by decide +kernel), ba_drop]
  exact wpAny_isInstance hT ba_sub_self (wpAny_pure h)
theorem ba_buffer {M : Model} {a : Addr} {arr : Array UInt8} {id : String} {f : Bool} {Q : Option (Array UInt8) → Shared → Prop} (ho : s.heap.get? a = some (baO arr)) (h : Q (some arr) s) : wpAny M A (Bytes.buffer? id (.ref a) f) Q E s := by
  have hT : s.TypeIs (.ref a) "bytearray" := ⟨_, ho, rfl⟩
  unfold Bytes.buffer?
  refine wpAny_bind (wpAny_specialOf hT ba_look_buffer ?_)
  try dsimp only
  refine wpAny_bind (ba_own_buffer hT ?_)
  rw [if_neg (by decide)]
  refine wpAny_bind (wpAny_specialOf hT ba_look_buffer ?_)
  try dsimp only
  refine wpAny_bind (ba_own_release hT ?_)
  rw [if_neg (by decide)]
  exact wpAny_bind (ba_payload ho (wpAny_pure h))
theorem ba_bytes_code {a : Addr} {arr : Array UInt8} {Q : Value → Shared → Prop} (ho : s.heap.get? a = some (baO arr)) (hz : arr.size ≤ sizeLine) (h : Q (.bytes arr s.toks) { s with toks := s.toks + 1 }) :
    codeAny (model prog w) A (.call (.builtin "bytes.__new__") ⟨[.type "bytes", .ref a], []⟩) (wants Q E) s := by
  refine codeAny_of_tree ?_
  show wpAny _ A.in1 (do checkBuiltinCall "bytes.__new__" ⟨[.type "bytes", .ref a], []⟩; again (.builtin "bytes.__new__" ⟨[.type "bytes", .ref a], []⟩)) _ _ s
  refine wpAny_bind (wpAny_of_eq (F.bm_newCall _) (wpAny_pure ⟨plainId_quiet F.bm_plain _, codeAny_builtin F.bm_entry ?_⟩))
  rw [Around.under_plainId F.bm_plain _]
  have hT : s.TypeIs (.ref a) "bytearray" := ⟨_, ho, rfl⟩
  unfold Builtin.«bytes.__new__»
  refine wpAny_bind (wpAny_of_eq (a := true) rfl ?_)
  refine bm_if_false rfl ?_
  refine wpAny_bind (wpAny_of_eq F.bm_sub ?_)
  refine bm_if_false rfl ?_
  refine wpAny_bind (wpAny_of_eq (F.bm_bind _) ?_)
  refine wpAny_bind (wpAny_of_eq (a := ()) rfl ?_)
  refine wpAny_bind (wpAny_of_eq (a := ()) rfl ?_)
  refine bm_if_false rfl ?_
  refine wpAny_bind (wpAny_specialOf hT ba_no_bytes ?_)
  refine wpAny_bind (wpAny_bind ?_)
  show wpAny _ _ (load a >>= _) _ _ _
  refine wpAny_bind (wpAny_load ho ?_)
  refine wpAny_pure (wpAny_pure ?_)
  refine bm_if_false rfl ?_
  refine wpAny_bind (wpAny_specialOf hT ba_no_index ?_)
  refine bm_if_true rfl ?_
  first
    | show wpAny _ _ (Builtin.Bytes.buffer? "bytes.__new__" (.ref a) true >>= _) _ _ _
    | (refine wpAny_bind ?_; show wpAny _ _ (Builtin.Bytes.buffer? "bytes.__new__" (.ref a) true >>= _) _ _ _)
  refine wpAny_bind (ba_buffer ho ?_)
  dsimp only
  refine wpAny_bind (wpAny_rule ?_)
  refine wpAny_bind (wpAny_mkBytes ?_ hz)
  show wpAny _ _ (if (Value.type "bytes" == Value.type "bytes") = true then _ else _) _ _ _
  refine bm_if_true (by decide) ?_
  first
    | exact wpAny_pure h
    | exact wpAny_bind (wpAny_pure (wpAny_pure h))
theorem ba_bytes {a : Addr} {arr : Array UInt8} {Q : Value → Shared → Prop} (ho : s.heap.get? a = some (baO arr)) (hz : arr.size ≤ sizeLine) (h : Q (.bytes arr s.toks) { s with toks := s.toks + 1 }) :
    wpAny (model prog w) A (call (.type "bytes") [.ref a]) Q E s := by
  refine callType_codes (Q₁ := fun obj s₁ => s₁.TypeIs obj "bytes" ∧ Q obj s₁) F.bm_called (F.bm_typeCall _) F.entry_object_init (ba_bytes_code ho hz ⟨PySem.W.typeIs_bytes _ _ _, h⟩) fun obj s₁ h₁ => ?_
  exact ⟨h₁.1, F.args_object_init_2 obj _, object_init_meets F.bm_called.init.lookup F.bm_called.made (by decide) prog w A.in1 _ s₁ ⟨h₁.1, rfl, h₁.2⟩⟩
end
end Mine
end
section
open PySem PySem.W PySem.Calls PyProof.Rows
open PySem.Builtin.Bytes (decodersThatHold)
set_option maxRecDepth 100000
namespace Mine
noncomputable def dirty : List (Code × Pos) → Bool
  | [] => false
  | (.builtin id _, _) :: r => decodersThatHold.contains id || dirty r
  | _ :: r => dirty r
theorem clean_of {c : Code} {p : Pos} : ∀ {l : List (Code × Pos)}, dirty l = false → ∀ cp ∈ l, NoDec cp.1
  | [], _, _, h => nomatch h
  | (c, q) :: r, hd, cp, h => by
    have key : NoDec c ∧ dirty r = false := by
      cases c <;> first | exact ⟨(Bool.or_eq_false_iff.mp hd).1, (Bool.or_eq_false_iff.mp hd).2⟩ | exact ⟨trivial, hd⟩
    rcases List.mem_cons.mp h with rfl | h
    · exact key.1
    · exact clean_of (c := c) (p := q) key.2 cp h
noncomputable def looked {α : Type} (a : α) (t : Sem α) : Sem α := .stack fun l => if dirty l then .pure a else t
theorem wpAny_looked {α : Type} {M : Model} {A : Around} {a : α} {t : Sem α} {Q : α → Shared → Prop} {E : Value → Shared → Prop} {s : Shared} (hQ : Q a s) (h : wpC M A t Q E s) : wpAny M A (looked a t) Q E s := fun Γ p hΓ => by
  unfold looked
  rw [Sem.wp_stack]
  cases hd : dirty ((Γ.code, p) :: Γ.below) with
  | true => rw [if_pos rfl, Sem.wp_pure]; exact hQ
  | false =>
    rw [if_neg (by simp)]
    have hc := clean_of (c := Γ.code) (p := p) hd
    exact h Γ p hΓ (hc _ (.head _)) fun cp h => hc cp (.tail _ h)
theorem looked_run {p : Program} {w : World} {s s' : Shared} {o : Outcome} {a : Fin} {t : Sem Fin} {n : Nat} (hz : s.asleep)
    (ho : o ≠ .unsupported "lifetime:generator-with-cleanup-left-suspended")
    (h : schedN (denote table) p w n (.single s ⟨looked a t, .builtin "claim.caller" {}, default, []⟩) = .halted o s') :
    ∃ m, schedN (denote table) p w m (.single s ⟨t, .builtin "claim.caller" {}, default, []⟩) = .halted o s' := by
  cases n with
  | zero => cases h
  | succ n =>
    have e := sstep_single (denote table) p w s ⟨looked a t, .builtin "claim.caller" {}, default, []⟩ (by rfl) hz
    have e2 : step (denote table) p w s ⟨looked a t, .builtin "claim.caller" {}, default, []⟩ = .go s ⟨t, .builtin "claim.caller" {}, default, []⟩ := by
      obtain ⟨heap, gens, drawn, toks, os⟩ := s
      rfl
    simp only [schedN] at h
    rw [e2] at e
    rcases e with e | e
    · rw [e] at h
      exact ⟨n, h⟩
    · cases e
end Mine
end
section
open PySem PySem.W PySem.Calls PyProof.Rows
set_option maxRecDepth 100000
namespace Mine
noncomputable abbrev lawTree (name : Str) (vs : List Value) : Sem Fin := do match ← nsGet mainNs name with
      | some f => do ret (← PySem.call f vs)
      | none => unsupported "claim.caller:no-such-global"
theorem asleep_laid {p : Program} {w : World} {s s₀ s₁ s₂ : Shared} {R : WRecords} {cl : Str → Option Addr} {P : Params} {ord : List DictEntry → List DictEntry} {xs : List WData} {vs : List Value}
    (hA : AfterRun (opening p) w s) (hf : fenceModules? p s = some s₀) (hT : TopRan p w s₀ s₁) (hl : layAllW R cl P ord xs s₁ = some (vs, s₂)) : s₂.asleep :=
  Shared.asleep_of_life (layAllW_rest _ _ _ hl).2.2.2 (Shared.asleep_of_life hT.2.1 (Shared.asleep_of_life (fence_lifeW hf) (AfterImport.life hA)))
theorem holdsBy_looked {c : ClaimW} {a : Fin} {tree : List Value → Sem Fin} {defs keeps : List Str} {writes : Bool}
    (h : c.HoldsOpenBy (fun vs => ⟨looked a (tree vs), .builtin "claim.caller" {}, default, []⟩) defs keeps writes) :
    c.HoldsOpenBy (fun vs => ⟨tree vs, .builtin "claim.caller" {}, default, []⟩) defs keeps writes := by
  refine ⟨h.1, h.2.1, fun w => ⟨(h.2.2 w).1, fun s hs => ?_⟩⟩
  obtain ⟨s₀, hf, hg, s₁, hT, hd, hr1, hr2, hC⟩ := (h.2.2 w).2 s hs
  refine ⟨s₀, hf, hg, s₁, hT, hd, hr1, hr2, fun args hp hl ord ho => ?_⟩
  obtain ⟨vs, s₂, hlaid, n, o, s', hrun, hcase, hrest⟩ := hC args hp hl ord ho
  obtain ⟨m, hm⟩ := looked_run (asleep_laid hs hf hT hlaid) (by
    rcases hcase with ⟨v, rfl, _⟩ | ⟨e, ob, cls, rfl, _⟩ <;> exact fun x => by cases x) hrun
  exact ⟨vs, s₂, hlaid, m, o, s', hm, hcase, hrest⟩
noncomputable abbrev WalkH (q : Program) (loose : List Str) (XP : (Str → Option Value) → Heap → Prop) (YP : World → Heap → Prop) (r : RowW) (d : DefRec) (kwd : List (Str × Expr)) : Prop :=
  ∀ (w : World) (s₀ s₁ : Shared) (mg mb : Str → Option Value), Ground q loose r.records XP w s₀ mg mb s₁.heap → YP w s₁.heap → ∀ (a : Addr) (o : Obj) (pm cd doc dV kV : Value), s₁.heap.get? a = some o →
    o.data = .func { docDef d.name d.params d.body d.scope pm cd doc with defaults := dV, kwdefaults := kV } → s₁.heap.CodeRec cd d.name → Dflts mg s₁.heap d.params kwd dV kV → mg d.name = some (.ref a) → s₁.gens = #[] →
    ∀ (args : List WData) (vals : List Value) (as : List Addr), r.claim.pre args = true → WData.layableAll args = true → ReadsAllW r.records (classAt s₀.heap) s₁.heap vals args as → WellAll w.params s₁.heap vals args → (∀ a ∈ as, (a == sysModules) = false) →
      GoodWG r.claim (classAt s₀.heap) (ExcName.means s₀.heap) args s₁ (.ok (.ret (.bool true))) s₁ ∧
      wpC (model r.prog w) callerA (PySem.call (.ref a) vals) (fun v s' => GoodWG r.claim (classAt s₀.heap) (ExcName.means s₀.heap) args s₁ (.ok (.ret v)) s')
        (fun e s' => GoodWG r.claim (classAt s₀.heap) (ExcName.means s₀.heap) args s₁ (.error e) s') s₁
theorem call_lookable {P : Program} {w : World} {name : Str} {vs : List Value} {s : Shared} {mg : Str → Option Value} {f : Value} {Q : Fin → Shared → Prop} {E : Value → Shared → Prop} (hg : s.heap.Ns mainGlobals mg) (hf : mg name = some f)
    (h : wpAny (model P w) callerA (looked (.bool true) (PySem.call f vs)) (fun v s' => Q (.done (.ret v)) s') E s) :
    wpAny (model P w) callerA (looked (.done (.ret (.bool true))) (lawTree name vs)) Q E s := fun Γ p hΓ => by
  have h1 := h Γ p hΓ
  unfold looked at h1 ⊢
  rw [Sem.wp_stack] at h1 ⊢
  cases hd : dirty ((Γ.code, p) :: Γ.below) with
  | true =>
    rw [hd, if_pos rfl, Sem.wp_pure] at h1
    rw [if_pos rfl, Sem.wp_pure]
    exact h1
  | false =>
    rw [hd, if_neg (by simp)] at h1
    rw [if_neg (by simp)]
    have hnx : wpC (model P w) callerA (lawTree name vs) Q E s ∨ True := .inr trivial
    clear hnx
    have hN : ∀ (K : Option Value → Sem Fin), Sem.wp (model P w) Γ (K (some f)) (fun a _ s' => Q a s') (fun e _ s' => E e s') p s → Sem.wp (model P w) Γ (nsGet mainNs name >>= K) (fun a _ s' => Q a s') (fun e _ s' => E e s') p s := fun K hK => by
      rw [Sem.wp_bind']
      refine (Sem.wp_nsGet (model P w) Γ _ p s hg name _).mpr ?_
      rw [hf]; exact hK
    refine hN _ ?_
    show Sem.wp (model P w) Γ (PySem.call f vs >>= fun v => ret v) _ _ p s
    rw [Sem.wp_bind']
    exact Sem.wp_mono _ _ _ (fun v p' s' h' => by show Sem.wp (model P w) Γ (Sem.pure (Fin.done (Flow.ret v))) _ _ p' s'; rw [Sem.wp_pure]; exact h') (fun _ _ _ h' => h') _ _ h1
end Mine
namespace Mine.PySem.W
open _root_.PySem _root_.PySem.W
theorem holds_open {r : OpenRow} {q : Program} {loose : List Str} {Xt : Shared → Bool} {XP : (Str → Option Value) → Heap → Prop} {α : Type} {Yf : Shared → α} {Ya : World → α} {YP : World → Heap → Prop} {d : DefRec} {kwd : List (Str × Expr)} {N : Nat}
    (left : LeftO r.prog q loose Xt Yf Ya N) (hY : ∀ w s, Yf s = Ya w → YP w s.heap) (hYk : ∀ w h h', YP w h → (∀ b o, h.get? b = some o → h'.get? b = some o) → YP w h')
    (hX : ∀ s, Xt s = true → XP (s.heap.nsMap mainGlobals) s.heap) (hXk : ∀ mg h h', XP mg h → (∀ b o, h.get? b = some o → h'.get? b = some o) → XP mg h')
    (hdef : defOf q r.name = some (d, kwd)) (hp : r.prog.theDef r.name = some (d.params, d.body, d.scope)) (hk : kwWritten? d.params.kwonlyargs d.params.kw_defaults = some kwd) (hRf : ∀ s, Xt s = true → RecFacts r.records s.heap) (hwr : (!r.writes || r.records.isEmpty) = true)
    (k1 : r.wellSaid = true) (ok : (chainsOk q && opensWell r.prog && (frees r.toRowW && r.within.isEmpty)) = true) (hb : r.prog.bare) (hw : r.toRowW.promised)
    (call : WalkH q loose XP YP r.toRowW d kwd) : r.Holds :=
  ⟨k1, hw, holdsBy_looked (open_anyG (r := r.toRowW) (run := fun f vs => looked (.bool true) (PySem.call f vs)) (tree := fun vs => looked (.done (.ret (.bool true))) (lawTree r.name vs)) left hY hYk hX hXk hRf hwr ok hb hw
    (fun vs w s mg f Q E hg hf h => call_lookable hg hf h)
    (fun w s hg G n hn => by
      obtain rfl : n = r.name := by split at hn <;> simp_all
      exact pinned_of_view hg G hdef hp hk)
    fun w s₀ s₁ mg mb G Y args vs as hpre hlay L low => by
      obtain ⟨a, o, pm, cd, doc, dV, kV, h1, h2, h3, h4, h5⟩ := G.fn hdef
      have z := call w s₀ s₁ mg mb G Y a o pm cd doc dV kV h2 h3 h4 h5 (defOf_name hdef ▸ h1) L.gens args vs as hpre hlay L.reads L.well (L.low low)
      exact ⟨.ref a, h1, wpAny_looked z.1 z.2⟩)⟩
end Mine.PySem.W
end
section
open PySem PySem.W PyProof.Rows
set_option maxRecDepth 100000
set_option maxHeartbeats 8000000
namespace Mine
class Mark (T : outParam Prop) : Prop where
  h : T
noncomputable def Dep (T : Prop) (_ : Mark T) (P : Prop) : Prop := P
end Mine
namespace Mine.HA.PySem.W
open _root_.PySem _root_.PySem.W
theorem holds_open {T : Prop} [hT : Mark T] {r : OpenRow} {q : Program} {loose : List Str} {Xt : Shared → Bool} {XP : (Str → Option Value) → Heap → Prop} {α : Type} {Yf : Shared → α} {Ya : World → α} {YP : World → Heap → Prop} {d : DefRec} {kwd : List (Str × Expr)} {N : Nat}
    (left : LeftO r.prog q loose Xt Yf Ya N) (hY : ∀ w s, Yf s = Ya w → YP w s.heap) (hYk : ∀ w h h', YP w h → (∀ b o, h.get? b = some o → h'.get? b = some o) → YP w h')
    (hX : ∀ s, Xt s = true → XP (s.heap.nsMap mainGlobals) s.heap) (hXk : ∀ mg h h', XP mg h → (∀ b o, h.get? b = some o → h'.get? b = some o) → XP mg h')
    (hdef : defOf q r.name = some (d, kwd)) (hp : r.prog.theDef r.name = some (d.params, d.body, d.scope)) (hk : kwWritten? d.params.kwonlyargs d.params.kw_defaults = some kwd) (hRf : ∀ s, Xt s = true → RecFacts r.records s.heap) (hwr : (!r.writes || r.records.isEmpty) = true)
    (k1 : r.wellSaid = true) (ok : (chainsOk q && opensWell r.prog && (frees r.toRowW && r.within.isEmpty)) = true) (hb : r.prog.bare) (hw : r.toRowW.promised)
    (call : Dep T hT (WalkH q loose XP YP r.toRowW d kwd)) : r.Holds :=
  Mine.PySem.W.holds_open left hY hYk hX hXk hdef hp hk hRf hwr k1 ok hb hw call
end Mine.HA.PySem.W
noncomputable def Mine.HA.hd.tw11379908715277369655 : Nat := 0
noncomputable def Mine.HA.hd.tw5659845068067432043 : Nat := 0
noncomputable def Mine.HA.hd.tw3558387388155733728 : Nat := 0
noncomputable def Mine.HA.hd.tw2145312963448200199 : Nat := 0
noncomputable def Mine.HA.hd.tw1722085172686621602 : Nat := 0
noncomputable def Mine.HA.hd.tw12900140239059296206 : Nat := 0
noncomputable def Mine.HA.hd.tw10046286979567575532 : Nat := 0
noncomputable def Mine.HA.hd.tw12771895636302530112 : Nat := 0
noncomputable def Mine.HA.hd.tw1030905054237321813 : Nat := 0
noncomputable def Mine.HA.hd.tw5423620053031686362 : Nat := 0
noncomputable def Mine.HA.hd.tw2091871461245603115 : Nat := 0
noncomputable def Mine.HA.hd.tw11097827688319957887 : Nat := 0
noncomputable def Mine.HA.hd.tw4217241849706663569 : Nat := 0
noncomputable def Mine.HA.hd.tw10097569862333009542 : Nat := 0
noncomputable def Mine.HA.hd.tw11151538218974919140 : Nat := 0
noncomputable def Mine.HA.hd.tw10983767553561061052 : Nat := 0
noncomputable def Mine.HA.hd.tw2821847118171828698 : Nat := 0
noncomputable def Mine.HA.hd.tw1827257673880976668 : Nat := 0
noncomputable def Mine.HA.hd.tw17197263727523861201 : Nat := 0
noncomputable def Mine.HA.hd.tw1408179245471147059 : Nat := 0
noncomputable def Mine.HA.hd.tw7725970072467030664 : Nat := 0
noncomputable def Mine.HA.hd.tw17323498288007170878 : Nat := 0
noncomputable def Mine.HA.hd.tw9992832406181377660 : Nat := 0
noncomputable def Mine.HA.hd.tw4865344425180273395 : Nat := 0
noncomputable def Mine.HA.hd.tw13555337978390499045 : Nat := 0
noncomputable def Mine.HA.hd.tw7339357664697778361 : Nat := 0
noncomputable def Mine.HA.hd.tw7098560486977306683 : Nat := 0
noncomputable def Mine.HA.hd.tw16304037804242752664 : Nat := 0
noncomputable def Mine.HA.hd.tw5471702116847523419 : Nat := 0
noncomputable def Mine.HA.hd.tw10561462977421419437 : Nat := 0
noncomputable def Mine.HA.hd.tw12072263810377135407 : Nat := 0
noncomputable def Mine.HA.hd.tw12445202783423348603 : Nat := 0
noncomputable def Mine.HA.hd.tw3625596152464765418 : Nat := 0
noncomputable def Mine.HA.hd.tw17682262604821039901 : Nat := 0
noncomputable def Mine.HA.hd.tw4924740239487587423 : Nat := 0
noncomputable def Mine.HA.hd.tw15292079767811437527 : Nat := 0
noncomputable def Mine.HA.hd.tw8986586757195128689 : Nat := 0
noncomputable def Mine.HA.hd.tw13803831132134788052 : Nat := 0
noncomputable def Mine.HA.hd.tw14618475931803549865 : Nat := 0
noncomputable def Mine.HA.hd.tw3055334358469706541 : Nat := 0
noncomputable def Mine.HA.hd.tw9123903701603061763 : Nat := 0
noncomputable def Mine.HA.hd.tw1460555644919140968 : Nat := 0
noncomputable def Mine.HA.hd.tw13399536654499422668 : Nat := 0
noncomputable def Mine.HA.hd.tw10259684700174049546 : Nat := 0
noncomputable def Mine.HA.hd.tw7891168541754788859 : Nat := 0
noncomputable def Mine.HA.hd.tw5234358283158159610 : Nat := 0
noncomputable def Mine.HA.hd.tw10017076742367698134 : Nat := 0
noncomputable def Mine.HA.hd.tw1850958766293007260 : Nat := 0
noncomputable def Mine.HA.hd.tw10792846611050357541 : Nat := 0
noncomputable def Mine.HA.hd.tw15941977377910474401 : Nat := 0
noncomputable def Mine.HA.hd.tw4379841477346551663 : Nat := 0
noncomputable def Mine.HA.hd.tw12248211393685792198 : Nat := 0
noncomputable def Mine.HA.hd.tw7422598444475808907 : Nat := 0
noncomputable def Mine.HA.hd.tw15396108022980852694 : Nat := 0
noncomputable def Mine.HA.hd.tw6469034302416692578 : Nat := 0
noncomputable def Mine.HA.hd.tw5643235602686021493 : Nat := 0
noncomputable def Mine.HA.hd.tw13185758322223416845 : Nat := 0
noncomputable def Mine.HA.hd.tw4522064725578725067 : Nat := 0
noncomputable def Mine.HA.hd.tw6381400309995835984 : Nat := 0
noncomputable def Mine.HA.hd.tw9362916195392929224 : Nat := 0
noncomputable def Mine.HA.hd.tw1732717457763706195 : Nat := 0
noncomputable def Mine.HA.hd.tw7576459092123669846 : Nat := 0
noncomputable def Mine.HA.hd.tw11731354552835633648 : Nat := 0
noncomputable def Mine.HA.hd.tw17008497662827030879 : Nat := 0
noncomputable def Mine.HA.hd.tw10582026273128287416 : Nat := 0
noncomputable def Mine.HA.hd.tw11993274262405813414 : Nat := 0
noncomputable def Mine.HA.hd.tw12025658738142035139 : Nat := 0
noncomputable def Mine.HA.hd.tw15521184787680912783 : Nat := 0
noncomputable def Mine.HA.hd.tw14531486029288921442 : Nat := 0
noncomputable def Mine.HA.hd.tw17935871970410764106 : Nat := 0
noncomputable def Mine.HA.hd.tw4602421232578500908 : Nat := 0
noncomputable def Mine.HA.hd.tw10141966245878188180 : Nat := 0
noncomputable def Mine.HA.hd.tw9357454189715947395 : Nat := 0
noncomputable def Mine.HA.hd.tw174849587533426898 : Nat := 0
noncomputable def Mine.HA.hd.tw16903993911953697283 : Nat := 0
noncomputable def Mine.HA.hd.tw13988997448607727267 : Nat := 0
noncomputable def Mine.HA.hd.tw4537977413259683358 : Nat := 0
noncomputable def Mine.HA.hd.tw10237241308006299244 : Nat := 0
noncomputable def Mine.HA.hd.tw3206610167075111342 : Nat := 0
noncomputable def Mine.HA.hd.tw7129483425561531539 : Nat := 0
noncomputable def Mine.HA.hd.tw16524385983406737950 : Nat := 0
noncomputable def Mine.HA.hd.tw4765005698049713589 : Nat := 0
noncomputable def Mine.HA.hd.tw7291966755571181358 : Nat := 0
noncomputable def Mine.HA.hd.tw10924065549603854832 : Nat := 0
noncomputable def Mine.HA.hd.tw5446370124721309904 : Nat := 0
noncomputable def Mine.HA.hd.tw1637368863620544197 : Nat := 0
noncomputable def Mine.HA.hd.tw13903205837368920312 : Nat := 0
noncomputable def Mine.HA.hd.tw2305132635066236260 : Nat := 0
noncomputable def Mine.HA.hd.tw9882200778989526310 : Nat := 0
noncomputable def Mine.HA.hd.tw7396478877443913810 : Nat := 0
noncomputable def Mine.HA.hd.tw1220669857894297120 : Nat := 0
noncomputable def Mine.HA.hd.tw17401798116174032901 : Nat := 0
noncomputable def Mine.HA.hd.tw16416792207671290877 : Nat := 0
noncomputable def Mine.HA.hd.tw4776047042508704718 : Nat := 0
noncomputable def Mine.HA.hd.tw2957996602628779497 : Nat := 0
noncomputable def Mine.HA.hd.tw5683352839186269410 : Nat := 0
noncomputable def Mine.HA.hd.tw12039150098892148641 : Nat := 0
noncomputable def Mine.HA.hd.tw14217716043853464445 : Nat := 0
noncomputable def Mine.HA.hd.tw9991208797668901143 : Nat := 0
noncomputable def Mine.HA.hd.tw9043308810743084481 : Nat := 0
noncomputable def Mine.HA.hd.tw3464160440986076376 : Nat := 0
noncomputable def Mine.HA.hd.tw16702555080274411942 : Nat := 0
noncomputable def Mine.HA.hd.tw16993460624720799178 : Nat := 0
noncomputable def Mine.HA.hd.tw10090743524683358173 : Nat := 0
noncomputable def Mine.HA.hd.tw3117572929655657853 : Nat := 0
noncomputable def Mine.HA.hd.tw12667883444331656717 : Nat := 0
noncomputable def Mine.HA.hd.tw10001820576196665775 : Nat := 0
noncomputable def Mine.HA.hd.tw13571897581211895846 : Nat := 0
noncomputable def Mine.HA.hd.tw4584157974014685546 : Nat := 0
noncomputable def Mine.HA.hd.tw7815423059550349675 : Nat := 0
noncomputable def Mine.HA.hd.tw7685333576940226047 : Nat := 0
noncomputable def Mine.HA.hd.tw3175902623803511191 : Nat := 0
noncomputable def Mine.HA.hd.tw1153700272688186667 : Nat := 0
noncomputable def Mine.HA.hd.tw14557467196244944978 : Nat := 0
noncomputable def Mine.HA.hd.tw6135699383214468553 : Nat := 0
noncomputable def Mine.HA.hd.tw1426139006722349614 : Nat := 0
noncomputable def Mine.HA.hd.tw525821915870899740 : Nat := 0
noncomputable def Mine.HA.hd.tw15298813247922609077 : Nat := 0
noncomputable def Mine.HA.hd.tw8267656863099463148 : Nat := 0
noncomputable def Mine.HA.hd.tw10427930129091507939 : Nat := 0
noncomputable def Mine.HA.hd.tw15820023063641063437 : Nat := 0
noncomputable def Mine.HA.hd.tw12983773822211283119 : Nat := 0
noncomputable def Mine.HA.hd.tw2622746740301324496 : Nat := 0
noncomputable def Mine.HA.hd.tw5454238918699237481 : Nat := 0
noncomputable def Mine.HA.hd.tw14679636819676357772 : Nat := 0
noncomputable def Mine.HA.hd.tw14839002596031886975 : Nat := 0
noncomputable def Mine.HA.hd.tw9449166135972065313 : Nat := 0
noncomputable def Mine.HA.hd.tw12401596861920313868 : Nat := 0
noncomputable def Mine.HA.hd.tw8581729878817486125 : Nat := 0
noncomputable def Mine.HA.hd.tw1021414668502108730 : Nat := 0
noncomputable def Mine.HA.hd.tw10956782322314407342 : Nat := 0
noncomputable def Mine.HA.hd.tw16202385451963508679 : Nat := 0
noncomputable def Mine.HA.hd.tw8001579963368172273 : Nat := 0
noncomputable def Mine.HA.hd.tw6662394500869489562 : Nat := 0
noncomputable def Mine.HA.hd.tw7425259957415389621 : Nat := 0
noncomputable def Mine.HA.hd.tw15965427976804479566 : Nat := 0
noncomputable def Mine.HA.hd.tw6730160659914991967 : Nat := 0
noncomputable def Mine.HA.hd.tw12251925376937537373 : Nat := 0
noncomputable def Mine.HA.hd.tw3957357324624941295 : Nat := 0
noncomputable def Mine.HA.hd.tw14316250192831309410 : Nat := 0
noncomputable def Mine.HA.hd.tw10621848703343036174 : Nat := 0
noncomputable def Mine.HA.hd.tw11068840626509695565 : Nat := 0
noncomputable def Mine.HA.hd.tw14233898039794882351 : Nat := 0
noncomputable def Mine.HA.hd.tw13311210501642623452 : Nat := 0
noncomputable def Mine.HA.hd.tw482361041085767407 : Nat := 0
noncomputable def Mine.HA.hd.tw15580725354433020025 : Nat := 0
noncomputable def Mine.HA.hd.tw5448301795927295179 : Nat := 0
noncomputable def Mine.HA.hd.tw11153584100861752318 : Nat := 0
noncomputable def Mine.HA.hd.tw14673932934217158126 : Nat := 0
noncomputable def Mine.HA.hd.tw14731643980733077445 : Nat := 0
noncomputable def Mine.HA.hd.tw8723254765251516378 : Nat := 0
noncomputable def Mine.HA.hd.tw3146527097008154666 : Nat := 0
noncomputable def Mine.HA.hd.tw1404475987687577611 : Nat := 0
noncomputable def Mine.HA.hd.tw9120537706986635027 : Nat := 0
noncomputable def Mine.HA.hd.tw9783220914231435215 : Nat := 0
noncomputable def Mine.HA.hd.tw6341766674283871302 : Nat := 0
noncomputable def Mine.HA.hd.tw11193563159610962924 : Nat := 0
noncomputable def Mine.HA.hd.tw4514507550081858185 : Nat := 0
noncomputable def Mine.HA.hd.tw1460798336807431091 : Nat := 0
noncomputable def Mine.HA.hd.tw11821287072606177615 : Nat := 0
noncomputable def Mine.HA.hd.tw11902386969078147169 : Nat := 0
noncomputable def Mine.HA.hd.tw3825717732946802882 : Nat := 0
noncomputable def Mine.HA.hd.tw12544887340113692262 : Nat := 0
noncomputable def Mine.HA.hd.tw12109583755661718775 : Nat := 0
noncomputable def Mine.HA.hd.tw15319328059145335298 : Nat := 0
noncomputable def Mine.HA.hd.tw7252873342191827700 : Nat := 0
noncomputable def Mine.HA.hd.tw13521997724789805552 : Nat := 0
noncomputable def Mine.HA.hd.tw5561557428189204170 : Nat := 0
noncomputable def Mine.HA.hd.tw2998365226678027794 : Nat := 0
noncomputable def Mine.HA.hd.tw16354300566514383951 : Nat := 0
noncomputable def Mine.HA.hd.tw10026095060033384806 : Nat := 0
noncomputable def Mine.HA.hd.tw15216502454280433895 : Nat := 0
noncomputable def Mine.HA.hd.tw5370177375094225005 : Nat := 0
noncomputable def Mine.HA.hd.tw8119405579516020324 : Nat := 0
noncomputable def Mine.HA.hd.tw1767623156553516957 : Nat := 0
noncomputable def Mine.HA.hd.tw15174738903104806935 : Nat := 0
noncomputable def Mine.HA.hd.tw7074912953406395260 : Nat := 0
noncomputable def Mine.HA.hd.tw13789103343814295242 : Nat := 0
noncomputable def Mine.HA.hd.tw7182273634672399694 : Nat := 0
noncomputable def Mine.HA.hd.tw9098840311241771894 : Nat := 0
noncomputable def Mine.HA.hd.tw1737842743910641850 : Nat := 0
noncomputable def Mine.HA.hd.tw11527800783491046179 : Nat := 0
noncomputable def Mine.HA.hd.tw13732225825254650413 : Nat := 0
noncomputable def Mine.HA.hd.tw8841286512546117192 : Nat := 0
noncomputable def Mine.HA.hd.tw9417979533677336889 : Nat := 0
noncomputable def Mine.HA.hd.tw12057646413171906388 : Nat := 0
noncomputable def Mine.HA.hd.tw16623822421604589589 : Nat := 0
noncomputable def Mine.HA.hd.tw6602848147464794258 : Nat := 0
noncomputable def Mine.HA.hd.tw17634955039904720701 : Nat := 0
noncomputable def Mine.HA.hd.tw5595208693457898301 : Nat := 0
noncomputable def Mine.HA.hd.tw12661321341547424617 : Nat := 0
noncomputable def Mine.HA.hd.tw5271457170957433176 : Nat := 0
noncomputable def Mine.HA.hd.tw18029761812348090472 : Nat := 0
noncomputable def Mine.HA.hd.tw17202628613938252963 : Nat := 0
noncomputable def Mine.HA.hd.tw5287663154076691965 : Nat := 0
noncomputable def Mine.HA.hd.tw15578881628557268488 : Nat := 0
noncomputable def Mine.HA.hd.tw5991409378727817614 : Nat := 0
noncomputable def Mine.HA.hd.tw393873883364515786 : Nat := 0
noncomputable def Mine.HA.hd.tw11105435129213884532 : Nat := 0
noncomputable def Mine.HA.hd.tw10838373520976921031 : Nat := 0
noncomputable def Mine.HA.hd.tw7463503749412083605 : Nat := 0
noncomputable def Mine.HA.hd.tw2642844783113685162 : Nat := 0
noncomputable def Mine.HA.hd.tw12701960301502324609 : Nat := 0
noncomputable def Mine.HA.hd.tw1120335389483899352 : Nat := 0
noncomputable def Mine.HA.hd.tw11920690964163178561 : Nat := 0
noncomputable def Mine.HA.hd.tw17358223430569154025 : Nat := 0
noncomputable def Mine.HA.hd.tw7643450264026778162 : Nat := 0
noncomputable def Mine.HA.hd.tw17866125506756976976 : Nat := 0
noncomputable def Mine.HA.hd.tw13681675348290665351 : Nat := 0
noncomputable def Mine.HA.hd.tw12346034573390507380 : Nat := 0
noncomputable def Mine.HA.hd.tw5187508886337094102 : Nat := 0
noncomputable def Mine.HA.hd.tw527602610670425969 : Nat := 0
noncomputable def Mine.HA.hd.tw7359105765507269888 : Nat := 0
noncomputable def Mine.HA.hd.tw18427703116742715597 : Nat := 0
noncomputable def Mine.HA.hd.tw8470790499157399179 : Nat := 0
noncomputable def Mine.HA.hd.tw17591498305656200529 : Nat := 0
noncomputable def Mine.HA.hd.tw8573588920582806140 : Nat := 0
noncomputable def Mine.HA.hd.tw11439711152483795661 : Nat := 0
noncomputable def Mine.HA.hd.tw12751543174608303381 : Nat := 0
noncomputable def Mine.HA.hd.tw1647316799685387314 : Nat := 0
noncomputable def Mine.HA.hd.tw10860170747746179542 : Nat := 0
noncomputable def Mine.HA.hd.tw12422658746100287098 : Nat := 0
noncomputable def Mine.HA.hd.tw9907829707633963368 : Nat := 0
noncomputable def Mine.HA.hd.tw13783430068487956242 : Nat := 0
noncomputable def Mine.HA.hd.tw5584222374666156923 : Nat := 0
noncomputable def Mine.HA.hd.tw11874752992501924835 : Nat := 0
noncomputable def Mine.HA.hd.tw16557113567890125399 : Nat := 0
noncomputable def Mine.HA.hd.tw9979202869787974167 : Nat := 0
noncomputable def Mine.HA.hd.tw8944549531144104012 : Nat := 0
noncomputable def Mine.HA.hd.tw17465124876291534392 : Nat := 0
noncomputable def Mine.HA.hd.tw15487220815406351137 : Nat := 0
noncomputable def Mine.HA.hd.tw1099629625597496312 : Nat := 0
noncomputable def Mine.HA.hd.tw18138035454667734878 : Nat := 0
noncomputable def Mine.HA.hd.tw7504297956852978164 : Nat := 0
noncomputable def Mine.HA.hd.tw9331014659038413934 : Nat := 0
noncomputable def Mine.HA.hd.tw15310789968494826072 : Nat := 0
noncomputable def Mine.HA.hd.tw12452881955116167544 : Nat := 0
noncomputable def Mine.HA.hd.tw12490080950460261663 : Nat := 0
noncomputable def Mine.HA.hd.tw12918667106150208933 : Nat := 0
noncomputable def Mine.HA.hd.tw8216312617149535619 : Nat := 0
noncomputable def Mine.HA.hd.tw8455153397104664082 : Nat := 0
noncomputable def Mine.HA.hd.tw9043125910362604625 : Nat := 0
noncomputable def Mine.HA.hd.tw3011604274121207023 : Nat := 0
noncomputable def Mine.HA.hd.tw2745816945552195905 : Nat := 0
noncomputable def Mine.HA.hd.tw11842442340471895408 : Nat := 0
noncomputable def Mine.HA.hd.tw18144136220180494988 : Nat := 0
noncomputable def Mine.HA.hd.tw13745131866610858776 : Nat := 0
noncomputable def Mine.HA.hd.tw3645014544892152468 : Nat := 0
noncomputable def Mine.HA.hd.tw9347202070760045425 : Nat := 0
noncomputable def Mine.HA.hd.tw6946689201327807238 : Nat := 0
noncomputable def Mine.HA.hd.tw17308509650191515310 : Nat := 0
noncomputable def Mine.HA.hd.tw3093005392811533997 : Nat := 0
noncomputable def Mine.HA.hd.tw2546543706675238350 : Nat := 0
noncomputable def Mine.HA.hd.tw2605005957437598148 : Nat := 0
noncomputable def Mine.HA.hd.tw5852895962500890075 : Nat := 0
noncomputable def Mine.HA.hd.tw1225279029756772686 : Nat := 0
noncomputable def Mine.HA.hd.tw12358619646717689080 : Nat := 0
noncomputable def Mine.HA.hd.tw11822869849415110333 : Nat := 0
noncomputable def Mine.HA.hd.tw1794074428306398726 : Nat := 0
noncomputable def Mine.HA.hd.tw10211844251543078410 : Nat := 0
noncomputable def Mine.HA.hd.tw7545080394424685505 : Nat := 0
noncomputable def Mine.HA.hd.tw6308175173457286486 : Nat := 0
noncomputable def Mine.HA.hd.tw2667218064963672113 : Nat := 0
noncomputable def Mine.HA.hd.tw7257839850073619649 : Nat := 0
noncomputable def Mine.HA.hd.tw7396072649615502500 : Nat := 0
noncomputable def Mine.HA.hd.tw16770227655716511575 : Nat := 0
noncomputable def Mine.HA.hd.tw10779524535663491189 : Nat := 0
noncomputable def Mine.HA.hd.tw264874487265770273 : Nat := 0
noncomputable def Mine.HA.hd.tw4241952100859120859 : Nat := 0
noncomputable def Mine.HA.hd.tw14570096055502900211 : Nat := 0
noncomputable def Mine.HA.hd.tw6191468833126144293 : Nat := 0
noncomputable def Mine.HA.hd.tw2947864668274973220 : Nat := 0
noncomputable def Mine.HA.hd.tw868360443030253589 : Nat := 0
noncomputable def Mine.HA.hd.tw8584169145678006793 : Nat := 0
noncomputable def Mine.HA.hd.tw11311268106570013030 : Nat := 0
noncomputable def Mine.HA.hd.tw13288840823830751452 : Nat := 0
noncomputable def Mine.HA.hd.tw11739140540950201521 : Nat := 0
noncomputable def Mine.HA.hd.tw11946272375723664058 : Nat := 0
noncomputable def Mine.HA.hd.tw9192618354441299885 : Nat := 0
noncomputable def Mine.HA.hd.tw18347262766047500082 : Nat := 0
noncomputable def Mine.HA.hd.tw4689979480618224716 : Nat := 0
noncomputable def Mine.HA.hd.tw5188505330408459251 : Nat := 0
noncomputable def Mine.HA.hd.tw413913294165696902 : Nat := 0
namespace Mine.HA
set_option Elab.async true in
theorem hd : ∃ T : Prop, (T → PySem.Challenge.rw_pb0114_01.Holds) := by
  refine ⟨?T, ?w⟩
  rotate_left
  · intro hT0
    have hT : Mark _ := ⟨hT0⟩
    w_on
    o_law
    k_head
    (case hw => w_witness2)
    unfold Dep
    exact Mark.h
end Mine.HA
end
section
open PySem PySem.W PySem.Calls PyProof.Rows
set_option maxRecDepth 100000
namespace Mine
noncomputable def Keeps (mods : List Addr) (h h' : Heap) : Prop := ∀ b o, h.get? b = some o → b ∉ mods → h'.get? b = some o
noncomputable def frs (l : List Env) : List Addr := l.filterMap (·.frame)
noncomputable def Led (G : Heap) (outer : List Env) (h : Heap) (objs : List (Addr × Obj)) : Prop := ∀ p ∈ objs, h.get? p.1 = some p.2 ∧ G.get? p.1 = none ∧ p.1 ∉ frs outer
noncomputable def SlotsOn (l : List Addr) (h h' : Heap) : Prop := ∀ b o, h.get? b = some o → b ∈ l → (∀ vs, o.data ≠ .fields vs) → ∃ sl, h'.get? b = some { o with slots := sl }
noncomputable def Raised (h : Heap) (mods : List Addr) (outer : List Env) (P : Heap → Prop) (e : Addr) (h' : Heap) : Prop :=
  ∃ B a0, (∀ b o, h.get? b = some o → b ∉ mods → b ∉ frs outer → B.get? b = some o) ∧ P B ∧ Heap.FlyingW B outer e (.ref 45) a0 h' ∧ SlotsOn (frs outer) h h'
noncomputable def Post (s : Shared) (mods : List Addr) (outer : List Env) (Pok : Value → Heap → Prop) (Per : Heap → Prop) (r : Result) (s' : Shared) : Prop :=
  ∃ h' tk, s' = { s with heap := h', toks := tk } ∧ match r with
    | .ok (.ret v) => Keeps mods s.heap h' ∧ Pok v h'
    | .error (.ref e) => Raised s.heap mods outer Per e h'
    | _ => False
theorem Led.nil {G : Heap} {outer : List Env} {h : Heap} : Led G outer h [] := fun _ hp => nomatch hp
theorem Led.sub {G : Heap} {outer : List Env} {h : Heap} {l l' : List (Addr × Obj)} (D : Led G outer h l) (hs : ∀ p ∈ l', p ∈ l) : Led G outer h l' := fun p hp => D p (hs p hp)
theorem led_of {A₀ : Around} {G h₀ h : Heap} {outer : List Env} {env : Env} {L : Addr} {m : Str → Option Value} {news : List (Addr × Obj)}
    (B : Below A₀ G outer h₀) (F : Fr h₀ L h m) (N : News h₀ L h news) (hf : env.frame = some L) : Led G (env :: outer) h news := fun p hp => by
  refine ⟨(N p hp).1, ?_, ?_⟩
  · cases q : G.get? p.1 with
    | none => rfl
    | some o => have := B.stays _ _ q; rw [(N p hp).2.2] at this; cases this
  · intro hm
    unfold frs at hm
    rw [List.filterMap_cons, hf] at hm
    rcases List.mem_cons.mp hm with e | hm
    · exact (N p hp).2.1 e
    · obtain ⟨_, o, ho, _⟩ := B.frames.mem hm
      rw [(N p hp).2.2] at ho; cases ho
theorem below_push {A : Around} {G h₀ h : Heap} {outer : List Env} {L : Addr} {m : Str → Option Value} {env : Env} {A' : Around}
    (B : Below A G outer h₀) (F : Fr h₀ L h m) (hf : env.frame = some L) (hk : env.scope.kind = .function) (hA : A'.frames = some (env :: outer)) : Below A' G (env :: outer) h :=
  have b := pushX B F hf hk
  ⟨hA, b.stays, b.frames⟩
section
variable {prog : Program} {w : World} {A : Around} {s : Shared} {G : Heap} {outer : List Env} {K : Frag} {p : Program} {loose : List Str} {mean : ExcName → Option Value} {mg mb : Str → Option Value}
  {name qual : Str} {params : Arguments} {body : List Stmt} {scope : Scope} {dV kV doc pm cdv ct oc : Value} {an od : Option Addr} {osl : Array (Option Value)} {f : Addr} {args : Args} {binds : List (Str × Value)} {objs : List (Addr × Obj)}
  {mods : List Addr} {Pok : Value → Heap → Prop} {Per : Heap → Prop}
structure Ends (s : Shared) (objs : List (Addr × Obj)) (mods : List Addr) (outer : List Env) (h₀ : Heap) (L : Addr) : Prop where
  keeps : ∀ {h' m' news'}, Fr h₀ L h' m' → News h₀ L h' news' → (∀ q ∈ objs, q.1 ∉ mods → q ∈ news') → Keeps mods s.heap h'
  low : s.heap.objs.size ≤ L
  base : ∀ b o, s.heap.get? b = some o → b ∉ objs.map (·.1) → h₀.get? b = some o
  frk : ∀ b o, s.heap.get? b = some o → b ∈ frs outer → h₀.get? b = some o
theorem enter (B : Below A G outer s.heap) (D : Led G outer s.heap objs) (KX : K.In G) (TT : Top p loose mean mg mb G)
    (ho : K.lookup f = some ⟨oc, od, .func (fnOf name qual params body scope dV kV doc pm an cdv ct), osl⟩) (hcd : codeIn K cdv qual = true) (hroom : A.depth < recursionLimit)
    (hbind : BindsTo s (fnOf name qual params body scope dV kV doc pm an cdv ct) args binds) (hloc : ∀ y ∈ binds, scope.names.lookup y.1 = some .local)
    (h : ∀ h₀ L h₁, Fr h₀ L h₁ (fun y => binds.reverse.lookup y) → News h₀ L h₁ objs → Below A G outer h₀ → K.In h₀ → Top p loose mean mg mb h₀ → (∀ q ∈ objs, q.1 < L) → Ends s objs mods outer h₀ L →
      wpAny (model prog w) (A.deeper (envOf qual scope L f cdv)) (execs body (envOf qual scope L f cdv))
        (fun fl s' => Post s mods outer Pok Per (.ok (.ret (match fl with | .ret v => v | _ => .none))) s')
        (fun e s' => wpAny (model prog w) (A.deeper (envOf qual scope L f cdv)) (leaving (envOf qual scope L f cdv) e) (fun _ s'' => Post s mods outer Pok Per (.error e) s'') (fun e' s'' => Post s mods outer Pok Per (.error e') s'') s')
        { s with heap := h₁, toks := s.toks + binds.length })
    (hcell : ∀ x ∈ scope.names, x.2 ≠ .cell) (hco : autoParam (scope.isCoroutine = false) Mine.aR) (hgen : autoParam (scope.isGenerator = false) Mine.aR) (hk : autoParam (scope.kind = .function) Mine.aR) :
    codeAny (model prog w) A (.call (.ref f) args) (Post s mods outer Pok Per) s := by
  have nm : ∀ b o, G.get? b = some o → b ∉ objs.map (·.1) := fun b o e q => by
    obtain ⟨p, hp, rfl⟩ := List.mem_map.mp q
    rw [(D p hp).2.1] at e; cases e
  have st : G.StaysIn (hideAll s.heap (objs.map (·.1))) := fun b o e => hideAll_get _ (B.stays b o e) (nm b o e)
  have B' : Below A G outer (hideAll s.heap (objs.map (·.1))) := ⟨B.stack, st, funFrames_hideAll B.frames fun env he b hb hf => by
    obtain ⟨p, hp, rfl⟩ := List.mem_map.mp hb
    exact (D p hp).2.2 (List.mem_filterMap.mpr ⟨env, he, hf⟩)⟩
  refine codeAny_call_def (fd := fnOf name qual params body scope dV kV doc pm an cdv ct) (body := body) (binds := binds) hroom (B.stays _ _ (KX _ _ ho)) rfl (TT.nolimit.keeps B.stays) (codeRec_of (KX.keeps B.stays) hcd) rfl hbind hcell hloc (fun h₁ hns hk₁ => ?_) hco hgen hk
  refine h _ s.heap.objs.size h₁ ⟨hns, fun b o e => hk₁ b o (of_hideAll _ e), Nat.le_of_eq (hideAll_size _ _)⟩
    (fun q hq => ⟨hk₁ _ _ (D q hq).1, Nat.ne_of_lt (Heap.lt_size (D q hq).1), hideAll_none _ (List.mem_map_of_mem hq)⟩) B' (KX.keeps st) (TT.keeps st) (fun q hq => Heap.lt_size (D q hq).1) ⟨?_, Nat.le_refl _, fun b o e hb => hideAll_get _ e hb, fun b o e hb => hideAll_get _ e fun q => by
    obtain ⟨p, hp, rfl⟩ := List.mem_map.mp q
    exact (D p hp).2.2 hb⟩
  intro h' m' news' F' N' hn b o e hb
  by_cases hm : b ∈ objs.map (·.1)
  · obtain ⟨q, hq, rfl⟩ := List.mem_map.mp hm
    have := (D q hq).1
    rw [this] at e
    cases e
    exact (N' q (hn q hq hb)).1
  · exact F'.keep b o (hideAll_get _ e hm)
theorem enterC (B : Below A G outer s.heap) (D : Led G outer s.heap objs) (KX : K.In G) (TT : Top p loose mean mg mb G)
    (ho : K.lookup f = some ⟨oc, od, .func (fnOf name qual params body scope dV kV doc pm an cdv ct), osl⟩) (hcd : codeIn K cdv qual = true) (hroom : A.depth < recursionLimit)
    (hbind : BindsTo s (fnOf name qual params body scope dV kV doc pm an cdv ct) args binds) (hkind : (binds.all fun y => scope.names.lookup y.1 == some .local || scope.names.lookup y.1 == some .cell) = true)
    (hnd : ((cellsFrom 0 scope.names []).map (·.1)).Nodup)
    (h : ∀ h₀ L h₁ tk cells, Fr h₀ L h₁ (bindL (envOfC qual scope L f cdv).kindOf binds fun _ => none) → News h₀ L h₁ (cells ++ objs) →
      CellsAre (bindC (envOfC qual scope L f cdv).kindOf binds fun _ => none) (cellsFrom (L + 1) scope.names []) cells → Below A G outer h₀ → K.In h₀ → Top p loose mean mg mb h₀ → (∀ q ∈ objs, q.1 < L) → Ends s objs mods outer h₀ L →
      wpAny (model prog w) (A.deeper (envOfC qual scope L f cdv)) (execs body (envOfC qual scope L f cdv))
        (fun fl s' => Post s mods outer Pok Per (.ok (.ret (match fl with | .ret v => v | _ => .none))) s')
        (fun e s' => wpAny (model prog w) (A.deeper (envOfC qual scope L f cdv)) (leaving (envOfC qual scope L f cdv) e) (fun _ s'' => Post s mods outer Pok Per (.error e) s'') (fun e' s'' => Post s mods outer Pok Per (.error e') s'') s')
        { s with heap := h₁, toks := tk })
    (hco : autoParam (scope.isCoroutine = false) Mine.aR) (hgen : autoParam (scope.isGenerator = false) Mine.aR) (hk : autoParam (scope.kind = .function) Mine.aR) :
    codeAny (model prog w) A (.call (.ref f) args) (Post s mods outer Pok Per) s := by
  have nm : ∀ b o, G.get? b = some o → b ∉ objs.map (·.1) := fun b o e q => by
    obtain ⟨p, hp, rfl⟩ := List.mem_map.mp q
    rw [(D p hp).2.1] at e; cases e
  have st : G.StaysIn (hideAll s.heap (objs.map (·.1))) := fun b o e => hideAll_get _ (B.stays b o e) (nm b o e)
  have B' : Below A G outer (hideAll s.heap (objs.map (·.1))) := ⟨B.stack, st, funFrames_hideAll B.frames fun env he b hb hf => by
    obtain ⟨p, hp, rfl⟩ := List.mem_map.mp hb
    exact (D p hp).2.2 (List.mem_filterMap.mpr ⟨env, he, hf⟩)⟩
  refine codeAny_call_function hroom (B.stays _ _ (KX _ _ ho)) rfl hco hgen rfl (codeRec_of (KX.keeps B.stays) hcd) (hbind _ _ _ _ ?_)
  refine wpAny_newFunctionEnv_cells hk (kindsX hkind _) fun env' he s' x => ?_
  subst he
  refine ⟨(TT.nolimit.keeps B.stays).keeps x.toInCall.keep, codeAny_func ?_⟩
  obtain ⟨h₁, tk, rfl, _⟩ := x.done
  have hk₁ := x.toInCall.keep
  obtain ⟨cells, NC, Y⟩ := Cl.news (h₀ := s.heap) (Nat.le_refl _) fun n c hm => ⟨x.cell n c (lookup_of_mem_nodup (cellsFrom_names scope.names 0 (s.heap.objs.size + 1) [] [] rfl ▸ hnd) hm), x.above n c hm⟩
  refine h _ s.heap.objs.size h₁ tk cells ⟨x.toInCall.ns, fun b o e => hk₁ b o (of_hideAll _ e), Nat.le_of_eq (hideAll_size _ _)⟩ (fun q hq => ?_) Y B' (KX.keeps st) (TT.keeps st) (fun q hq => Heap.lt_size (D q hq).1) ⟨?_, Nat.le_refl _, fun b o e hb => hideAll_get _ e hb, fun b o e hb => hideAll_get _ e fun q => by
    obtain ⟨p, hp, rfl⟩ := List.mem_map.mp q
    exact (D p hp).2.2 hb⟩
  · rcases List.mem_append.mp hq with hq | hq
    · refine ⟨(NC q hq).1, (NC q hq).2.1, ?_⟩
      cases z : (hideAll s.heap (objs.map (·.1))).get? q.1 with
      | none => rfl
      | some o => have := of_hideAll _ z; rw [(NC q hq).2.2] at this; cases this
    · exact ⟨hk₁ _ _ (D q hq).1, Nat.ne_of_lt (Heap.lt_size (D q hq).1), hideAll_none _ (List.mem_map_of_mem hq)⟩
  intro h' m' news' F' N' hn b o e hb
  by_cases hm : b ∈ objs.map (·.1)
  · obtain ⟨q, hq, rfl⟩ := List.mem_map.mp hm
    have := (D q hq).1
    rw [this] at e
    cases e
    exact (N' q (hn q hq hb)).1
  · exact F'.keep b o (hideAll_get _ e hm)
theorem post_ok {h₀ h' : Heap} {L : Addr} {m' : Str → Option Value} {news' : List (Addr × Obj)} {v : Value} {tk : Nat} (X : Ends s objs mods outer h₀ L) (F' : Fr h₀ L h' m') (N' : News h₀ L h' news')
    (hn : ∀ q ∈ objs, q.1 ∉ mods → q ∈ news') (hP : Pok v h') : Post s mods outer Pok Per (.ok (.ret v)) { s with heap := h', toks := tk } :=
  ⟨h', tk, rfl, X.keeps F' N' hn, hP⟩
end
theorem fr_after {h₀ h h' : Heap} {L : Addr} {m : Str → Option Value} {news : List (Addr × Obj)} {mods : List Addr} (F : Fr h₀ L h m) (N : News h₀ L h news) (kp : Keeps mods h h') (hm : ∀ a ∈ mods, a ∈ news.map (·.1)) : Fr h₀ L h' m := by
  have hL : L ∉ mods := fun q => by
    obtain ⟨p, hp, e⟩ := List.mem_map.mp (hm _ q)
    exact (N p hp).2.1 e
  have hb : ∀ b o, h₀.get? b = some o → b ∉ mods := fun b o e q => by
    obtain ⟨p, hp, rfl⟩ := List.mem_map.mp (hm _ q)
    rw [(N p hp).2.2] at e; cases e
  obtain ⟨oL, es, ep, hL', r⟩ := F.ns
  exact ⟨⟨oL, es, ep, kp _ _ hL' hL, r⟩, fun b o e => kp _ _ (F.keep b o e) (hb b o e), F.above⟩
theorem news_after {h₀ h h' : Heap} {L : Addr} {m : Str → Option Value} {news news' : List (Addr × Obj)} {mods : List Addr} (F : Fr h₀ L h m) (N : News h₀ L h news) (kp : Keeps mods h h')
    (hm : ∀ a ∈ mods, a ∈ news.map (·.1)) (hn : ∀ p ∈ news', (p ∈ news ∧ p.1 ∉ mods) ∨ (h'.get? p.1 = some p.2 ∧ (p.1 ∈ mods ∨ h.get? p.1 = none))) : News h₀ L h' news' := fun p hp => by
  rcases hn p hp with ⟨a, b⟩ | ⟨a, b⟩
  · exact ⟨kp _ _ (N p a).1 b, (N p a).2⟩
  · refine ⟨a, ?_⟩
    rcases b with b | b
    · obtain ⟨q, hq, e⟩ := List.mem_map.mp (hm _ b)
      rw [← e]; exact (N q hq).2
    · constructor
      · intro e
        obtain ⟨oL, _, _, hL, _⟩ := F.ns
        rw [e, hL] at b; cases b
      · cases q : h₀.get? p.1 with
        | none => rfl
        | some o => have := F.keep _ _ q; rw [b] at this; cases this
noncomputable def Hold (P : Prop) : Prop := P
theorem Hold.mk {P : Prop} (h : Hold P) : P := h
theorem Hold.out {P : Prop} (h : P) : Hold P := h
noncomputable abbrev Ar (dp un : Nat) (gd : Option (List Code)) (outer : List Env) : Around := { handled := none, depth := dp, frames := some outer, guards := gd, units := un }
section
variable {prog : Program} {w : World} {A : Around} {E : Value → Shared → Prop} {s : Shared} {env : Env} {h₀ : Heap} {x : Str} {body : List Stmt} {Q : Flow → Shared → Prop}
end
section
variable {prog : Program} {w : World} {A₀ A : Around} {s : Shared} {G h₀ : Heap} {outer : List Env} {env : Env} {L : Addr} {m : Str → Option Value} {news : List (Addr × Obj)} {mods : List Addr} {Pok : Value → Heap → Prop} {Per : Heap → Prop}
theorem use_call {f : Value} {pos : List Value} {kw : List (Str × Value)} {Q E : Value → Shared → Prop} (F : Fr h₀ L s.heap m) (N : News h₀ L s.heap news)
    (S : codeAny (model prog w) A (.call f ⟨pos, kw⟩) (Post s mods outer Pok Per) s) (hm : ∀ a ∈ mods, a ∈ news.map (·.1))
    (ok : ∀ v h' tk, Keeps mods s.heap h' → Pok v h' → Fr h₀ L h' m → Q v { s with heap := h', toks := tk })
    (er : ∀ e h' tk, Raised s.heap mods outer Per e h' → E (.ref e) { s with heap := h', toks := tk }) : wpAny (model prog w) A (call f pos kw) Q E s := by
  refine wpAny_call (codeAny_mono S fun r s' z => ?_)
  obtain ⟨h', tk, rfl, z⟩ := z
  rcases r with e | (v | _ | _ | v)
  · cases e <;> first | exact z.elim | exact er _ _ _ z
  all_goals first | exact z.elim | exact ok _ _ _ z.1 z.2 (fr_after F N z.1 hm)
end
theorem news_upd1 {h₀ h h' : Heap} {L b : Addr} {m : Str → Option Value} {news : List (Addr × Obj)} {g : Obj → List (Addr × Obj)} {o o' : Obj} (F : Fr h₀ L h m) (N : News h₀ L h news) (kp : Keeps [b] h h') (U : UpdF b o news g) (e : h'.get? b = some o') : News h₀ L h' (g o') := by
  obtain ⟨pre, post, rfl, hg, a, c⟩ := U.split
  have hm : ∀ x ∈ [b], x ∈ (pre ++ (b, o) :: post).map (·.1) := fun x hx => by rw [List.mem_singleton.mp hx]; simp
  refine news_after F N kp hm fun p hp => ?_
  rw [hg] at hp
  rcases List.mem_append.mp hp with q | q
  · exact .inl ⟨List.mem_append_left _ q, fun z => a p q (List.mem_singleton.mp z)⟩
  · rcases List.mem_cons.mp q with rfl | q
    · exact .inr ⟨e, .inl (List.mem_singleton.mpr rfl)⟩
    · exact .inl ⟨List.mem_append_right _ (.tail _ q), fun z => c p q (List.mem_singleton.mp z)⟩
theorem updF_mem {b : Addr} {o : Obj} {news : List (Addr × Obj)} {g : Obj → List (Addr × Obj)} (U : UpdF b o news g) : (b, o) ∈ news := by
  obtain ⟨pre, post, rfl, _⟩ := U.split
  simp
noncomputable def KeptIn (mods : List Addr) (news' : List (Addr × Obj)) : List (Addr × Obj) → Prop
  | [] => True
  | q :: r => (q.1 ∈ mods ∨ q ∈ news') ∧ KeptIn mods news' r
theorem KeptIn.all {mods : List Addr} {news' : List (Addr × Obj)} : ∀ {l : List (Addr × Obj)}, KeptIn mods news' l → ∀ q ∈ l, q.1 ∉ mods → q ∈ news'
  | [], _, _, hq, _ => nomatch hq
  | p :: r, h, q, hq, hm => by
    rcases List.mem_cons.mp hq with rfl | hq
    · exact h.1.elim (fun x => absurd x hm) id
    · exact KeptIn.all h.2 q hq hm
theorem post_end {s : Shared} {objs : List (Addr × Obj)} {mods : List Addr} {outer : List Env} {Pok : Value → Heap → Prop} {Per : Heap → Prop} {h₀ h' : Heap} {L : Addr} {m' : Str → Option Value} {news' : List (Addr × Obj)} {v : Value} {tk : Nat}
    (X : Ends s objs mods outer h₀ L) (F' : Fr h₀ L h' m') (N' : News h₀ L h' news') (hn : KeptIn mods news' objs) (hP : Pok v h') : Post s mods outer Pok Per (.ok (.ret v)) { s with heap := h', toks := tk } :=
  post_ok X F' N' (fun q hq hm => hn.all q hq hm) hP
end Mine
namespace Mine
end Mine
end
section
open PySem PySem.W PySem.Calls PyProof.Rows
set_option maxRecDepth 100000
namespace Mine
section
variable {prog : Program} {w : World} {A : Around} {s : Shared} {G : Heap} {outer : List Env} {K : Frag} {p : Program} {loose : List Str} {mean : ExcName → Option Value} {mg mb : Str → Option Value}
  {name qual : Str} {params : Arguments} {body : List Stmt} {scope : Scope} {dV kV doc pm cdv ct oc : Value} {an od : Option Addr} {osl : Array (Option Value)} {f : Addr} {args : Args} {binds : List (Str × Value)} {objs : List (Addr × Obj)}
  {mods : List Addr} {Pok : Value → Heap → Prop} {Per : Heap → Prop}
theorem enterL (B : Below A G outer s.heap) (D : Led G outer s.heap objs) (KX : K.In G) (TT : Top p loose mean mg mb G)
    (ho : K.lookup f = some ⟨oc, od, .func (fnOf name qual params body scope dV kV doc pm an cdv ct), osl⟩) (hcd : codeIn K cdv qual = true) (hroom : A.depth < recursionLimit)
    (hbind : BindsTo s (fnOf name qual params body scope dV kV doc pm an cdv ct) args binds) (hloc : ∀ y ∈ binds, scope.names.lookup y.1 = some .local)
    (h : ∀ h₀ L h₁, Fr h₀ L h₁ (fun y => binds.reverse.lookup y) → News h₀ L h₁ objs → Below A G outer h₀ → K.In h₀ → Top p loose mean mg mb h₀ → (∀ q ∈ objs, q.1 < L) → Ends s objs mods outer h₀ L →
      wpC (model prog w) (A.deeper (envOf qual scope L f cdv)) (execs body (envOf qual scope L f cdv))
        (fun fl s' => Post s mods outer Pok Per (.ok (.ret (match fl with | .ret v => v | _ => .none))) s')
        (fun e s' => wpAny (model prog w) (A.deeper (envOf qual scope L f cdv)) (leaving (envOf qual scope L f cdv) e) (fun _ s'' => Post s mods outer Pok Per (.error e) s'') (fun e' s'' => Post s mods outer Pok Per (.error e') s'') s')
        { s with heap := h₁, toks := s.toks + binds.length })
    (hcell : ∀ x ∈ scope.names, x.2 ≠ .cell) (hco : autoParam (scope.isCoroutine = false) Mine.aR) (hgen : autoParam (scope.isGenerator = false) Mine.aR) (hk : autoParam (scope.kind = .function) Mine.aR) :
    codeC (model prog w) A (.call (.ref f) args) (Post s mods outer Pok Per) s := by
  have nm : ∀ b o, G.get? b = some o → b ∉ objs.map (·.1) := fun b o e q => by
    obtain ⟨p, hp, rfl⟩ := List.mem_map.mp q
    rw [(D p hp).2.1] at e; cases e
  have st : G.StaysIn (hideAll s.heap (objs.map (·.1))) := fun b o e => hideAll_get _ (B.stays b o e) (nm b o e)
  have B' : Below A G outer (hideAll s.heap (objs.map (·.1))) := ⟨B.stack, st, funFrames_hideAll B.frames fun env he b hb hf => by
    obtain ⟨p, hp, rfl⟩ := List.mem_map.mp hb
    exact (D p hp).2.2 (List.mem_filterMap.mpr ⟨env, he, hf⟩)⟩
  refine codeC_call_def (fd := fnOf name qual params body scope dV kV doc pm an cdv ct) (body := body) (binds := binds) hroom (B.stays _ _ (KX _ _ ho)) rfl (TT.nolimit.keeps B.stays) (codeRec_of (KX.keeps B.stays) hcd) rfl hbind hcell hloc (fun h₁ hns hk₁ => ?_) hco hgen hk
  refine h _ s.heap.objs.size h₁ ⟨hns, fun b o e => hk₁ b o (of_hideAll _ e), Nat.le_of_eq (hideAll_size _ _)⟩
    (fun q hq => ⟨hk₁ _ _ (D q hq).1, Nat.ne_of_lt (Heap.lt_size (D q hq).1), hideAll_none _ (List.mem_map_of_mem hq)⟩) B' (KX.keeps st) (TT.keeps st) (fun q hq => Heap.lt_size (D q hq).1) ⟨?_, Nat.le_refl _, fun b o e hb => hideAll_get _ e hb, fun b o e hb => hideAll_get _ e fun q => by
    obtain ⟨p, hp, rfl⟩ := List.mem_map.mp q
    exact (D p hp).2.2 hb⟩
  intro h' m' news' F' N' hn b o e hb
  by_cases hm : b ∈ objs.map (·.1)
  · obtain ⟨q, hq, rfl⟩ := List.mem_map.mp hm
    have := (D q hq).1
    rw [this] at e
    cases e
    exact (N' q (hn q hq hb)).1
  · exact F'.keep b o (hideAll_get _ e hm)
end
section
variable {prog : Program} {w : World} {A₀ A : Around} {s : Shared} {G h₀ : Heap} {outer : List Env} {env : Env} {L : Addr} {m : Str → Option Value} {news : List (Addr × Obj)} {mods : List Addr} {Pok : Value → Heap → Prop} {Per : Heap → Prop} {E : Value → Shared → Prop}
theorem upd_same {a : Addr} {o o' : Obj} {g : Obj → List (Addr × Obj)} {h h' : Heap} (F : Fr h₀ L h m) (N : News h₀ L h news) (U : UpdF a o news g) (hs : Heap.SameBut a h h') (e : h'.get? a = some o') : Fr h₀ L h' m ∧ News h₀ L h' (g o') := by
  have kp : Keeps [a] h h' := fun b o e hb => hs.extBut b o (fun q => hb (List.mem_singleton.mpr q)) e
  have hm : ∀ x ∈ [a], x ∈ news.map (·.1) := fun x hx => by rw [List.mem_singleton.mp hx]; exact List.mem_map_of_mem (updF_mem U)
  exact ⟨fr_after F N kp hm, news_upd1 F N kp U e⟩
theorem ba_append_F {a : Addr} {arr : Array UInt8} {g : Obj → List (Addr × Obj)} {x : Int} {t : Tok} {Q : Value → Shared → Prop} (hg : A.guards = some []) (F : Fr h₀ L s.heap m) (N : News h₀ L s.heap news) (U : UpdF a (baO arr) news g) (h0 : 0 ≤ x) (h1 : x < 256) (hz : arr.size < 1000000)
    (h : ∀ h', Fr h₀ L h' m → News h₀ L h' (g (baO (arr.push x.toNat.toUInt8))) → Q .none { s with heap := h' }) :
    wpC (model prog w) A (call (.builtin "bytearray.append") [.ref a, .int x t]) Q E s :=
  ba_append hg (N _ (updF_mem U)).1 h0 h1 (by rw [sizeLine_eq]; omega) fun h' hs e => h h' (upd_same F N U hs e).1 (upd_same F N U hs e).2
theorem ba_extend_F {a : Addr} {arr more : Array UInt8} {g : Obj → List (Addr × Obj)} {t : Tok} {Q : Value → Shared → Prop} (hg : A.guards = some []) (F : Fr h₀ L s.heap m) (N : News h₀ L s.heap news) (U : UpdF a (baO arr) news g) (hz : arr.size + more.size ≤ 1000000)
    (h : ∀ h', Fr h₀ L h' m → News h₀ L h' (g (baO (arr ++ more))) → Q .none { s with heap := h' }) :
    wpC (model prog w) A (call (.builtin "bytearray.extend") [.ref a, .bytes more t]) Q E s :=
  ba_extend hg (N _ (updF_mem U)).1 (by rw [sizeLine_eq]; lia) fun h' hs e => h h' (upd_same F N U hs e).1 (upd_same F N U hs e).2
end
end Mine
end
section
open PySem PySem.W PySem.Calls PyProof.Rows
set_option maxRecDepth 100000
namespace Mine
section
variable {M : Model} {A : Around} {E : Value → Shared → Prop} {s : Shared} {env : Env} {pos : Pos} {first : List Value} {Q : Value → Shared → Prop}
theorem wpC_bi_args {id : String} {e : Expr} {rest : List Expr} (h : wpAny M A (spliced (backTo pos (starEach (e :: rest) env))) (fun vs s₁ => wpC M A (call (.builtin id) (first ++ vs) []) Q E s₁) E s)
    (he : autoParam (backTo pos (starEach (e :: rest) env) = (false, eval e env) :: backTo pos (starEach rest env)) Mine.aR) (hplain : autoParam ((backTo pos (starEach (e :: rest) env)).any (·.1) = false) Mine.aR) :
    wpC M A (callWith pos (.builtin id) first (backTo pos (starEach (e :: rest) env)) []) Q E s := by
  refine wpC_callWith_bi ?_ hplain
  rw [he] at h ⊢
  exact evalArgs_plain h
end
end Mine
end
section
open PySem PySem.W PySem.Calls PyProof.Rows
set_option maxRecDepth 100000
set_option maxHeartbeats 2000000
namespace Mine
open PySem
section
variable {prog : Program} {w : World} {A : Around} {E : Value → Shared → Prop} {h : Heap} {g : Array GenState} {d : Drawn} {t : Nat} {os : OsState}
variable {nm q : Str} {C N P : Addr} {bs bmB : List Value} {hdct : Bool} {sn : List Str} {sub : List Value} {ab : Bool} {col : Option Bool} {dd : Option Addr} {k0 k1 k2 k3 k5 : Option Value} {B newId initId : String}
theorem tail_has {X : String} {b : Bool} (hb : bmB.contains (.type X) = b) : (Value.ref P :: bmB).contains (.type X) = b := by rw [List.contains_cons, hb]; rfl
theorem exc_check_new {M : Model} (F : ExcBaseFacts B newId initId bmB) {rest : List Value} {Q : Unit → Shared → Prop} (hC : h.get? C = some (excClassObj nm q C N bs (.ref P :: bmB) hdct sn sub ab col dd k0 k1 k2 k3 k5 newId))
    (hq : Q () ⟨h, g, d, t, os⟩) : wpAny M A (checkBuiltinCall newId ⟨.ref C :: rest, []⟩) Q E ⟨h, g, d, t, os⟩ := by
  have hcont : (Value.ref C :: .ref P :: bmB).contains (.type B) = true := tail_has (tail_has F.hasB)
  have hstar := F.noStar
  simp only [checkBuiltinCall, F.newKind, F.newSplit, F.newRow]
  repeat (first | refine wpAny_loadPart_at hC ?_ | (refine wpAny_isSubtype_exc hC ?_; rw [hcont]) | refine wpAny_staticBase_exc hC ?_ | refine wpAny_madeBy_exc hC ?_ | simp only [bne_self_eq_false, Bool.false_eq_true, if_false] | wp_step)
  exact hq
theorem exc_new (F : ExcBaseFacts B newId initId bmB) {R : Result → Shared → Prop} {rest : List Value} (hC : h.get? C = some (excClassObj nm q C N bs (.ref P :: bmB) hdct sn sub ab col dd k0 k1 k2 k3 k5 newId))
    (hq : R (.ok (.ret (.ref (h.objs.size + 1)))) ⟨(h.push { cls := .type "tuple", data := .seq rest.toArray }).push { cls := .ref C, data := .fields #[.ref h.objs.size, .none, .none, .none, .bool false, .none] }, g, d, t, os⟩) (hrest : rest.length ≤ sizeLine) :
    codeAny (model prog w) A (.builtin newId ⟨.ref C :: rest, []⟩) R ⟨h, g, d, t, os⟩ := by
  have hends := F.ends
  have hcB : (Value.ref C :: .ref P :: bmB).contains (.type B) = true := tail_has (tail_has F.hasB)
  have hcA : (Value.ref C :: .ref P :: bmB).contains (.type "AttributeError") = false := tail_has (tail_has F.noAttr)
  have hcN : (Value.ref C :: .ref P :: bmB).contains (.type "NameError") = false := tail_has (tail_has F.noName)
  refine codeAny_builtinAt F.entry ?_
  unfold Builtin.«BaseException.__new__»
  refine PySem.wpAt_bind ?_
  show PySem.wpAt _ _ _ (stack >>= _) _ _ _
  refine PySem.wpAt_bind (PySem.wpAt_stack fun p below => PySem.wpAt_of_wpAny ?_)
  wp_walk
  refine PySem.wpAt_of_wpAny ?_
  rw [F.owner]
  repeat (first | with_reducible refine wpAny_madeHere_exc F.canon hC ?_ | with_reducible refine wpAny_loadPart_at hC ?_ | (with_reducible refine wpAny_isSubtype_exc hC ?_; first | rw [hcB] | rw [hcA] | rw [hcN]) | wp_step)
  show R _ _
  rw [Heap.size_push]
  exact hq
theorem exc_lookup {mN mP : Str → Option Value} {c0 : Value} {dP : Option Addr} {cP : ClassData} {sP : Array (Option Value)} {v : Value} {Q : Option Value → Shared → Prop} {M : Model}
    (hC : h.get? C = some (excClassObj nm q C N bs (.ref P :: bmB) hdct sn sub ab col dd k0 k1 k2 k3 k5 newId)) (hn : h.Ns N mN) (hni : mN "__init__" = none)
    (hP : h.get? P = some { cls := c0, dict := dP, data := .cls cP, slots := sP }) (hnP : h.Ns cP.ns mP) (hi : mP "__init__" = some v) (hq : Q (some v) ⟨h, g, d, t, os⟩) :
    wpAny M A (typeLookup (.ref C) "__init__") Q E ⟨h, g, d, t, os⟩ := by
  rw [typeLookup_eq]
  refine wpAny_bind (wpAny_mroOf_exc hC ?_)
  rw [lookupAlong_cons]
  refine wpAny_bind (wpAny_classOwn_exc hC hn ?_)
  rw [hni]
  show wpAny _ _ (lookupAlong _ _) _ _ _
  rw [lookupAlong_cons]
  refine wpAny_bind (wpAny_classOwn_cls hP hnP ?_)
  rw [hi]
  exact wpAny_pure hq
theorem exc_type_call (F : ExcBaseFacts B newId initId bmB) {mN mP : Str → Option Value} {c0 : Value} {dP : Option Addr} {cP : ClassData} {sP : Array (Option Value)} {rest : List Value} {fI : Addr} {oI : Obj} {Q : Fin → Shared → Prop}
    (hC : h.get? C = some (excClassObj nm q C N bs (.ref P :: bmB) hdct sn sub ab col dd k0 k1 k2 k3 k5 newId)) (hn : h.Ns N mN) (hni : mN "__init__" = none)
    (hP : h.get? P = some { cls := c0, dict := dP, data := .cls cP, slots := sP }) (hnP : h.Ns cP.ns mP) (hi : mP "__init__" = some (.ref fI)) (hfI : h.get? fI = some oI) (hfc : oI.cls = .type "function")
    (hq : ∀ h' e, Heap.MadeExcOf h h' e (.ref C) rest →
      wpAny (model prog w) A (call (.ref fI) (.ref e :: rest)) (fun r s' => r = .none ∧ Q (.done (.ret (.ref e))) s') E ⟨h', g, d, t, os⟩) (hrest : rest.length ≤ sizeLine) :
    wpAny (model prog w) A (Builtin.«type.__call__» ⟨.ref C :: rest, []⟩) Q E ⟨h, g, d, t, os⟩ := by
  repeat (first | with_reducible refine wpAny_loadPart_at hC ?_ | with_reducible refine wpAny_madeBy_exc hC ?_ | wp_step)
  refine codeAny_call_builtin_code (Code.quiet_builtin _ F.quiet) (exc_check_new F hC ?_)
  refine exc_new F hC ?_ hrest
  show wpAny _ _ _ _ _ _
  have kp : ∀ b o, h.get? b = some o → ((h.push { cls := .type "tuple", data := .seq rest.toArray }).push { cls := .ref C, data := .fields #[.ref h.objs.size, .none, .none, .none, .bool false, .none] }).get? b = some o :=
    fun b o e => Heap.get?_push_of_some _ (Heap.get?_push_of_some _ e)
  have hC₁ := kp _ _ hC
  have hP₁ := kp _ _ hP
  have hfI₁ := kp _ _ hfI
  have hn₁ := hn.keeps kp
  have hnP₁ := hnP.keeps kp
  have hget : ((h.push { cls := .type "tuple", data := .seq rest.toArray }).push
      { cls := .ref C, data := .fields #[.ref h.objs.size, .none, .none, .none, .bool false, .none] }).get? (h.objs.size + 1) = some
      { cls := .ref C, data := .fields #[.ref h.objs.size, .none, .none, .none, .bool false, .none] } := by heap_get
  have hcC : (Value.ref C :: .ref P :: bmB).contains (.ref C) = true := by simp
  unfold isInstance
  repeat (first | with_reducible refine wpAny_loadPart_at hget ?_ | (with_reducible refine wpAny_isSubtype_exc hC₁ ?_; rw [hcC]) | wp_step)
  show wpAny _ _ (typeLookup (.ref C) _) _ _ _
  refine exc_lookup hC₁ hn₁ hni hP₁ hnP₁ hi ?_
  refine wpAny_holding (wpAny_bind ?_)
  unfold bindSpecial
  refine wpAny_bind (wpAny_typeOf (T := "function") ⟨_, hfI₁, hfc⟩ ?_)
  rw [if_pos (by decide)]
  refine wpAny_pure (wpAny_bind (wpAny_mono (hq _ (h.objs.size + 1) ⟨kp, Heap.get?_none_of_le (Nat.le_succ _), h.objs.size, hget, Heap.get?_none_of_le (Nat.le_refl _), ?_⟩) (fun r s' hr => ?_) fun _ _ x => x))
  · exact Heap.get?_push_of_some _ (Heap.get?_push_at rfl rfl)
  · obtain ⟨rfl, hQ⟩ := hr
    wp_walk
    exact hQ
theorem exc_call (F : ExcBaseFacts B newId initId bmB) {mN mP : Str → Option Value} {c0 : Value} {dP : Option Addr} {cP : ClassData} {sP : Array (Option Value)} {rest : List Value} {fI : Addr} {oI : Obj} {Q : Value → Shared → Prop}
    (hC : h.get? C = some (excClassObj nm q C N bs (.ref P :: bmB) hdct sn sub ab col dd k0 k1 k2 k3 k5 newId)) (hn : h.Ns N mN) (hni : mN "__init__" = none)
    (hP : h.get? P = some { cls := c0, dict := dP, data := .cls cP, slots := sP }) (hnP : h.Ns cP.ns mP) (hi : mP "__init__" = some (.ref fI)) (hfI : h.get? fI = some oI) (hfc : oI.cls = .type "function")
    (hq : ∀ h' e, Heap.MadeExcOf h h' e (.ref C) rest →
      wpAny (model prog w) (A.under (.builtin "type.__call__" ⟨.ref C :: rest, []⟩)) (call (.ref fI) (.ref e :: rest)) (fun r s' => r = .none ∧ Q (.ref e) s') E ⟨h', g, d, t, os⟩) (hrest : rest.length ≤ sizeLine) :
    wpAny (model prog w) A (call (.ref C) rest) Q E ⟨h, g, d, t, os⟩ := by
  have f1 := tc_lookup
  have f2 := PySem.tc_bind (.ref C)
  have hT : (⟨h, g, d, t, os⟩ : Shared).TypeIs (.ref C) "type" := ⟨_, hC, rfl⟩
  refine wpAny_call (codeAny_of_tree ?_)
  show wpAny _ _ (callAny (.ref C) _) _ _ _
  repeat (any_goals (first | assumption | with_reducible refine wpAny_loadPart_at hC ?_ | wp_step))
  refine ⟨rfl, ?_⟩
  refine codeAny_call_builtin_at (Code.quiet_builtin _ (by decide +kernel)) entry_typeCall (wpAny_check_type_call_sub hC (exc_type_call F hC hn hni hP hnP hi hfI hfc (fun h' e hm => ?_) hrest))
  exact hq h' e hm
end
end Mine
end
section
open PySem PySem.W PySem.Calls PyProof.Rows Builtin Builtin.ObjectAttr Builtin.Getset_descriptor
set_option maxRecDepth 100000
set_option maxHeartbeats 2000000
namespace Mine
theorem exc_refuse (self : Value) (a b : Addr) : refuseLoop self "__setattr__" [.ref a, .ref b, .type "Exception", .type "BaseException", .type "object"] = pure () := by
  rw [refuseLoop_ref, refuseLoop_ref]
  kernel_rfl
section
variable {prog : Program} {w : World} {A : Around} {K : Frag} {C P x : Addr} {s : Shared} {R : Result → Shared → Prop}
theorem exc_osa {vs : Array Value} {sl : Array (Option Value)} {cd : ClassData} {name : Str} {tk : Tok} {v : Value} (X : K.In s.heap) (hx : s.heap.get? x = some ⟨.ref C, none, .fields vs, sl⟩)
    (hc : clsIn K C = some cd) (hm : cd.mro = [.ref C, .ref P, .type "Exception", .type "BaseException", .type "object"]) (hmi : mroIn K C (.type "object") = some true) (ht : takerIn K C name = some none) (hh : cd.hasDict = true)
    (h : ∀ h' tk' d, (∀ b o, b ≠ x → s.heap.get? b = some o → h'.get? b = some o) → h'.get? x = some ⟨.ref C, some d, .fields vs, sl⟩ → R (.ok (.ret .none)) { s with heap := h', toks := tk' }) :
    codeAny (model prog w) A (.call (.builtin "object.__setattr__") ⟨[.ref x, .str name tk, v], []⟩) R s := by
  have I : InstAt s.heap x ⟨.ref C, none, .fields vs, sl⟩ C none := ⟨hx, rfl, rfl, trivial⟩
  have SF := PySem.F.store_object
  have sub : Looks (model prog w) s.heap (isInstance (.ref x) (.type "object")) true := I.type.andThen (looks_mroIn X hmi)
  refine codeAny_call_builtin SF.slot.plain SF.entry (@check_slot (model prog w) _ _ s "object.__setattr__" "object" "__setattr__" (.ref x) [.str name tk, v] [] _ SF.kind SF.split sub (SF.args (.ref x) (.str name tk) v) ?_)
  obtain ⟨attr, ha, hr⟩ := Option.bind_eq_some_iff.mp ht
  have hmm : Looks (model prog w) s.heap (mroOf (.ref C)) cd.mro := (looks_clsIn X hc).andThen .now
  have L3 : Looks (model prog w) s.heap (storeTaker? attr) none := by
    cases attr with
    | none => cases hr; exact .now
    | some a =>
      obtain ⟨b, hb, hr⟩ := Option.map_eq_some_iff.mp hr
      refine (looks_takesIn X hb).andThen ?_
      cases b <;> first | exact .now | cases hr
  rw [osa_eq, refuse_eq]
  refine wpAny_bind (wpAny_bind (I.type.here (wpAny_bind (hmm.here ?_))))
  rw [hm, exc_refuse]
  refine wpAny_pure (wpAny_bind (I.type.here (wpAny_bind ((looks_findIn X ha).here (wpAny_bind (L3.here ?_))))))
  refine wpAny_bind (wpAny_pure (wpAny_bind (wpAny_bind (wpAny_loadPart hx (wpAny_bind ((looks_clsIn X hc).here ?_))))))
  rw [hh]
  have hx1 := Heap.get?_push_of_some emptyDict hx
  have hd1 : (s.heap.push emptyDict).get? s.heap.objs.size = some emptyDict := Heap.get?_push_size _ rfl
  have hne : s.heap.objs.size ≠ x := Nat.ne_of_gt (Heap.lt_size hx)
  have hx2 : ((s.heap.push emptyDict).update x fun o => { o with dict := some s.heap.objs.size }).get? x = some ⟨.ref C, some s.heap.objs.size, .fields vs, sl⟩ := Heap.get?_update_self _ hx1 rfl
  have hd2 : ((s.heap.push emptyDict).update x fun o => { o with dict := some s.heap.objs.size }).get? s.heap.objs.size = some emptyDict := (Heap.get?_update_other _ _ (Ne.symm hne)).trans hd1
  show wpAny _ _ (alloc emptyDict >>= fun d => update x (fun o => { o with dict := some d }) >>= fun _ => dictMade (.ref C) x d) _ _ _
  refine wpAny_bind (wpAny_alloc (wpAny_bind (wpAny_update hx1 ?_)))
  show wpAny _ _ (pure (some _)) _ _ _
  refine wpAny_pure (wpAny_bind (wpAny_pure (wpAny_bind ?_)))
  unfold nsSet
  refine wpAny_bind (wpAny_bind (wpAny_askSetting (wpAny_pure (wpAny_bind (wpAny_mkText (wpAny_bind (wpAny_loadPart hd2 ?_)))))))
  dsimp only
  rw [show aRefKeyMayBeTheName name #[] = false from by rw [aRefKeyMayBeTheName_at]; simp]
  refine wpAny_updatePart hd2 ?_
  have eP : ∀ hsh key, Obj.putName name hsh key v emptyDict = dictOf (putL name hsh key v []) (putN name [] 0) := fun hsh key => putName_dict name hsh key v [] 0
  refine wpAny_bind (wpAny_lookBehind (Heap.get?_update_self _ hd2 (by rw [eP]; rfl)) (by rw [eP]; exact pastItsLine_dict (by simp [putL])) ?_)
  refine wpAny_pure (h _ _ s.heap.objs.size (fun b o hb e => ?_) ?_)
  · have hbs : b ≠ s.heap.objs.size := Nat.ne_of_lt (Heap.lt_size e)
    exact (Heap.get?_update_other _ _ (Ne.symm hbs)).trans ((Heap.get?_update_other _ _ (Ne.symm hb)).trans (Heap.get?_push_of_some _ e))
  · exact (Heap.get?_update_other _ _ hne).trans hx2
theorem exc_set {E : Value → Shared → Prop} {vs : Array Value} {sl : Array (Option Value)} {cd : ClassData} {name : Str} {v : Value} {Q : Unit → Shared → Prop} (X : K.In s.heap) (hx : s.heap.get? x = some ⟨.ref C, none, .fields vs, sl⟩)
    (hs : findIn K (.ref C) "__setattr__" = some (some (.builtin "object.__setattr__")))
    (hc : clsIn K C = some cd) (hm : cd.mro = [.ref C, .ref P, .type "Exception", .type "BaseException", .type "object"]) (hmi : mroIn K C (.type "object") = some true) (ht : takerIn K C name = some none) (hh : cd.hasDict = true)
    (h : ∀ h' tk' d, (∀ b o, b ≠ x → s.heap.get? b = some o → h'.get? b = some o) → h'.get? x = some ⟨.ref C, some d, .fields vs, sl⟩ → Q () { s with heap := h', toks := tk' }) :
    wpAny (model prog w) A (setAttr (.ref x) name v) Q E s :=
  set_plain X (⟨hx, rfl, rfl, trivial⟩ : InstAt s.heap x ⟨.ref C, none, .fields vs, sl⟩ C none) hs (exc_osa (s := { s with toks := s.toks + 1 }) X hx hc hm hmi ht hh fun h' tk' d k1 k2 => h h' tk' d k1 k2)
end
end Mine
end
section
open PySem PySem.W PySem.Calls PyProof.Rows
set_option maxRecDepth 100000
set_option maxHeartbeats 2000000
namespace Mine
theorem warm7 : (fun (_ : OpenLaw) (_ : Params → Frag) => True) PySem.Challenge.rw_pb0114_01 HA.hd.heap_1_39 := by k_fill; trivial
theorem ns_some_of {K : Frag} {h : Heap} {N : Addr} {mg : Str → Option Value} {n : Str} {v : Value} (X : K.In h) (G : h.Ns N mg) (e : nsIn K N n = some (some v)) : mg n = some v := by
  obtain ⟨o, es, ep, ho, hd, _, hf⟩ := G
  unfold nsIn at e
  split at e
  · rename_i c d es' n' sl q
    have := X _ _ q
    rw [ho] at this
    cases this
    cases hd
    split at e
    · rename_i en he
      cases e
      rw [← hf]
      unfold nsFind findBy
      rw [← Array.find?_toList, he]
      rfl
    · split at e <;> cases e
  · cases e
theorem ok_of {K : Frag} {N : Addr} (h : ∃ o, K.lookup N = some o ∧ (match o.data with | .dict es _ => (es.all fun e => (match e.key with | .str _ _ => true | _ => false)) | _ => false) = true) : nsOkIn K N = true := by
  obtain ⟨⟨c, d, dt, sl⟩, h1, h2⟩ := h
  unfold nsOkIn
  rw [h1]
  cases dt <;> first | exact h2 | cases h2
theorem look45 (w : World) : (HA.hd.heap_1_39 w.params).lookup 45 = some (excClassObj (Str.ofString "BadBits") (Str.ofString "BadBits") 45 44 [.ref 32] [.ref 32, .type "Exception", .type "BaseException", .type "object"] true [] [] false none none (some (.ref 36)) none (some (.str (Str.ofString "BadBits") 219)) (some (.str (Str.ofString "BadBits") 227)) (some (.bool true)) "Exception.__new__") := by k_is
theorem look32 (w : World) : (HA.hd.heap_1_39 w.params).lookup 32 = some { cls := .type "type", dict := none, data := .cls { name := Str.ofString "GitError", bases := [.type "Exception"], mro := [.ref 32, .type "Exception", .type "BaseException", .type "object"], ns := 31, qualname := Str.ofString "GitError", subclasses := [.ref 45] }, slots := #[some (.ref 15), none, some (.str (Str.ofString "GitError") 189), some (.str (Str.ofString "GitError") 197), some (.builtin "Exception.__new__"), some (.bool true)] } := by k_is
theorem ok44 (w : World) : nsOkIn (HA.hd.heap_1_39 w.params) 44 = true := ok_of (by
  apply Exists.intro
  refine And.intro (by k_is) ?_
  simp)
theorem ok31 (w : World) : nsOkIn (HA.hd.heap_1_39 w.params) 31 = true := ok_of (by
  apply Exists.intro
  refine And.intro (by k_is) ?_
  simp)
theorem no44 (w : World) : nsIn (HA.hd.heap_1_39 w.params) 44 "__init__" = some none := by k_is
theorem in31 (w : World) : nsIn (HA.hd.heap_1_39 w.params) 31 "__init__" = some (some (.ref 29)) := by k_is
theorem ty29 (w : World) : typeIn (HA.hd.heap_1_39 w.params) (.ref 29) = some (.type "function") := by k_is
section
variable {w : World} {A : Around} {s : Shared} {E : Value → Shared → Prop}
theorem bb_call {msg : Value} {Q : Value → Shared → Prop} (X : (HA.hd.heap_1_39 w.params).In s.heap)
    (hq : ∀ h' e, Heap.MadeExcOf s.heap h' e (.ref 45) [msg] →
      wpAny (model PySem.Challenge.rw_pb0114_01.row.prog w) (A.under (.builtin "type.__call__" ⟨.ref 45 :: [msg], []⟩)) (call (.ref 29) [.ref e, msg]) (fun r s' => r = .none ∧ Q (.ref e) s') E { s with heap := h' }) :
    wpAny (model PySem.Challenge.rw_pb0114_01.row.prog w) A (call (.ref 45) [msg]) Q E s := by
  obtain ⟨hh, g, d, t, os⟩ := s
  have n44 := Heap.Ns.of_isNs (isNs_of_in X (ok44 w))
  have n31 := Heap.Ns.of_isNs (isNs_of_in X (ok31 w))
  obtain ⟨o29, h29, c29⟩ : ∃ o, (HA.hd.heap_1_39 w.params).lookup 29 = some o ∧ o.cls = .type "function" := by
    have := ty29 w
    unfold typeIn at this
    exact Option.map_eq_some_iff.mp this
  exact exc_call PySem.F.excBase_Exception (X _ _ (look45 w)) n44 (ns_none_of X n44 (no44 w)) (X _ _ (look32 w)) n31 (ns_some_of X n31 (in31 w)) (X _ _ h29) c29 hq (by show 1 ≤ sizeLine; rw [sizeLine_eq]; lia)
end
end Mine
end
section
open PySem PySem.W PySem.Calls PyProof.Rows
set_option maxRecDepth 100000
set_option maxHeartbeats 2000000
namespace Mine
section
variable {M : Model} {A : Around} {s : Shared} {E : Value → Shared → Prop} {env : Env}
variable {nm q : Str} {C N : Addr} {bs bm : List Value} {hdct : Bool} {sn : List Str} {sub : List Value} {ab : Bool} {col : Option Bool} {dd : Option Addr} {k0 k1 k2 k3 k5 : Option Value} {newId : String}
noncomputable def Fresh (E : Value → Shared → Prop) (C : Addr) (oC : Obj) (v : Value) (s₁ : Shared) : Prop :=
  ∃ e t dx sl, v = .ref e ∧ s₁.heap.get? C = some oC ∧ s₁.heap.get? e = some ⟨.ref C, dx, .fields #[.ref t, .none, .none, .none, .bool false, .none], sl⟩ ∧ E (.ref e) s₁
theorem exc_raiseStmt {x : Sem Value} {Q : Flow → Shared → Prop} (hbase : bm.contains (.type "BaseException") = true) (hh : A.handled = none)
    (h : wpAny M A x (Fresh E C (excClassObj nm q C N bs bm hdct sn sub ab col dd k0 k1 k2 k3 k5 newId)) E s) :
    wpAny M A (raiseStmt env (some x) none) Q E s := by
  have hcB : (Value.ref C :: bm).contains (.type "BaseException") = true := by rw [List.contains_cons, hbase, Bool.or_true]
  unfold raiseStmt
  refine wpAny_bind (wpAny_mono h (fun v s₁ h₁ => ?_) fun _ _ x => x)
  obtain ⟨e, t, dx, sl, rfl, hC, he, hE⟩ := h₁
  obtain ⟨hp, g, d, tk, os⟩ := s₁
  repeat (first | with_reducible refine wpAny_loadPart_at he ?_ | with_reducible refine wpAny_loadPart_at hC ?_ | (with_reducible refine wpAny_isSubtype_exc hC ?_; rw [hcB]) | wp_step)
  exact wpAny_raiseNew_none hh hE
theorem exc_Raise {ex : Expr} {pos : Pos} {Q : Flow → Shared → Prop} (hbase : bm.contains (.type "BaseException") = true) (hh : A.handled = none)
    (h : wpAny M A (eval ex env) (Fresh E C (excClassObj nm q C N bs bm hdct sn sub ab col dd k0 k1 k2 k3 k5 newId)) E s) : wpAny M A (exec (.Raise (some ex) none pos) env) Q E s := by
  show wpAny M A (do standAt pos; raiseStmt env (some (do let v ← eval ex env; standAt pos; pure v)) none) Q E s
  refine wpAny_bind (wpAny_standAt (exc_raiseStmt hbase hh (wpAny_bind (wpAny_mono h (fun v s₁ h₁ => wpAny_bind (wpAny_standAt (wpAny_pure h₁))) fun _ _ x => x))))
end
end Mine
end
section
open PySem PySem.W PySem.Calls PyProof.Rows
set_option maxRecDepth 100000
set_option maxHeartbeats 2000000
namespace Mine
theorem cls45 (w : World) : ∃ cd, clsIn (HA.hd.heap_1_39 w.params) 45 = some cd ∧ cd.mro = [.ref 45, .ref 32, .type "Exception", .type "BaseException", .type "object"] ∧ cd.hasDict = true := by
  apply Exists.intro
  refine And.intro (by unfold clsIn; rw [look45]) ⟨rfl, rfl⟩
theorem set45 (w : World) : findIn (HA.hd.heap_1_39 w.params) (.ref 45) "__setattr__" = some (some (.builtin "object.__setattr__")) := by k_is
theorem mro45 (w : World) : mroIn (HA.hd.heap_1_39 w.params) 45 (.type "object") = some true := by k_is
theorem tak45 (w : World) : takerIn (HA.hd.heap_1_39 w.params) 45 (Str.ofString "told") = some none := by k_is
section
variable {w : World} {dp un : Nat} {gd : Option (List Code)} {s : Shared} {G : Heap} {outer : List Env} {p : Program} {loose : List Str} {mean : ExcName → Option Value} {mg mb : Str → Option Value}
theorem init29 {e : Addr} {vs : Array Value} {sl : Array (Option Value)} {msg : Value} (B : Below ((Ar dp un gd outer).under (.builtin "type.__call__" ⟨.ref 45 :: [msg], []⟩)) G outer s.heap) (KX : (HA.hd.heap_1_39 w.params).In G) (TT : Top p loose mean mg mb G) (hdp : dp < 895)
    (D : Led G outer s.heap [(e, ⟨.ref 45, none, .fields vs, sl⟩)]) :
    codeAny (model PySem.Challenge.rw_pb0114_01.row.prog w) ((Ar dp un gd outer).under (.builtin "type.__call__" ⟨.ref 45 :: [msg], []⟩)) (.call (.ref 29) ⟨[.ref e, msg], []⟩)
      (Post s [e] outer (fun v h' => v = .none ∧ ∃ d, h'.get? e = some ⟨.ref 45, some d, .fields vs, sl⟩) (fun _ => False)) s := by
  have KS := KX.keeps B.stays
  refine' enter (by assumption) (by assumption) (by assumption) (by assumption) ?k6 ?k7 ?k8 ?k9 ?kB ?_ ?c5 ?c2 ?c3 ?c4
  (case k6 => k_is)
  (case k7 => k_is)
  (case k8 => ((try simp only [depth_under_make, depth_under_kw, depth_in1, depth_deeper, depth_caller]); (unfold recursionLimit); omega))
  (case k9 => refine' kp_binds ?kx ?ke; (case kx => exact KS); (case ke => exact fun _ => rfl))
  (case kB => exact locs rfl)
  (case c5 => decide)
  (case c2 => exact rfl)
  (case c3 => exact rfl)
  (case c4 => exact rfl)
  intro h0 L h1 F' N' B' X' T' l1 EE
  (try dsimp only)
  (try k_fold)
  repeat' (first | ((with_reducible show wpAny _ _ (setAttr _ _ _) _ _ _); refine Hold.mk ?_) | (k_unfold; (try dsimp only)) | walk1 | (dsimp only; walk1) | fail "x")
  refine Hold.out ?_
  obtain ⟨cd, c1, c2, c3⟩ := cls45 w
  refine exc_set (P := 32) (K := HA.hd.heap_1_39 w.params) (X'.keeps F'.keep) (N' _ (.head _)).1 (set45 w) c1 c2 (mro45 w) (tak45 w) c3 fun h' tk' d k1 k2 => ?_
  have kp : Keeps [e] h1 h' := fun b o e1 hb => k1 b o (fun q => hb (List.mem_singleton.mpr q)) e1
  have F2 := fr_after F' N' kp (fun a ha => by rw [List.mem_singleton.mp ha]; exact .head _)
  have N2 : News h0 L h' [(e, ⟨.ref 45, some d, .fields vs, sl⟩)] := fun p hp => by
    rw [List.mem_singleton.mp hp]
    exact ⟨k2, (N' _ (.head _)).2⟩
  clear F' N'
  (try dsimp only)
  repeat' (first | (k_unfold; (try dsimp only)) | walk1 | (dsimp only; walk1) | fail "x")
  exact post_end EE F2 N2 ⟨.inl (.head _), trivial⟩ ⟨rfl, d, k2⟩
end
end Mine
end
section
open PySem PySem.W PySem.Calls PyProof.Rows
set_option maxRecDepth 100000
set_option maxHeartbeats 2000000
namespace Mine
noncomputable abbrev BadCls : Obj := excClassObj (Str.ofString "BadBits") (Str.ofString "BadBits") 45 44 [.ref 32] [.ref 32, .type "Exception", .type "BaseException", .type "object"] true [] [] false none none (some (.ref 36)) none (some (.str (Str.ofString "BadBits") 219)) (some (.str (Str.ofString "BadBits") 227)) (some (.bool true)) "Exception.__new__"
section
variable {w : World} {dp un : Nat} {gd : Option (List Code)} {s : Shared} {G h₀ : Heap} {outer : List Env} {p : Program} {loose : List Str} {mean : ExcName → Option Value} {mg mb : Str → Option Value} {env : Env} {L : Addr} {m : Str → Option Value} {news : List (Addr × Obj)} {A₀ : Around}
theorem bb_made (B : Below A₀ G outer h₀) (F : Fr h₀ L s.heap m) (N : News h₀ L s.heap news) (KX : (HA.hd.heap_1_39 w.params).In G) (TT : Top p loose mean mg mb G) (hf : env.frame = some L) (hk : env.scope.kind = .function) (hdp : dp < 895) {msg : Value} {E : Value → Shared → Prop}
    (kk : ∀ h' tk e t d, (∀ b o, s.heap.get? b = some o → h'.get? b = some o) → s.heap.get? e = none → h'.get? e = some ⟨.ref 45, some d, .fields #[.ref t, .none, .none, .none, .bool false, .none], #[]⟩ → E (.ref e) { s with heap := h', toks := tk }) :
    wpAny (model PySem.Challenge.rw_pb0114_01.row.prog w) (Ar dp un gd (env :: outer)) (call (.ref 45) [msg]) (Fresh E 45 BadCls) E s := by
  have KS := (KX.keeps B.stays).keeps F.keep
  refine bb_call KS fun h' e hm => ?_
  obtain ⟨t, he, _, _⟩ := hm.there
  have kp : Keeps [] s.heap h' := fun b o e _ => hm.keeps b o e
  have F' : Fr h₀ L h' m := fr_after F N kp (fun a ha => nomatch ha)
  have N' : News h₀ L h' [(e, ⟨.ref 45, none, .fields #[.ref t, .none, .none, .none, .bool false, .none], #[]⟩)] := news_after F N kp (fun a ha => nomatch ha) fun q hq => by
    rw [List.mem_singleton.mp hq]
    exact .inr ⟨he, .inr hm.new⟩
  refine use_call (s := { s with heap := h' }) (outer := env :: outer) F' N' (init29 (s := { s with heap := h' }) (below_push B F' hf hk rfl) KX TT hdp (led_of B F' N' hf)) (fun a ha => by rw [List.mem_singleton.mp ha]; exact .head _) (fun v h'' tk' kp' hP F'' => ?_) (fun e' h'' tk' hR => ?_)
  · obtain ⟨rfl, d, hd⟩ := hP
    have kall : ∀ b o, s.heap.get? b = some o → h''.get? b = some o := fun b o e1 => kp' b o (hm.keeps b o e1) fun q => by
      have := hm.new
      rw [← List.mem_singleton.mp q, e1] at this
      cases this
    exact ⟨rfl, e, t, some d, #[], rfl, kall _ _ (KS _ _ (look45 w)), hd, kk h'' tk' e t d kall hm.new hd⟩
  · obtain ⟨B, a0, _, hF, _⟩ := hR
    exact hF.elim
end
end Mine
end
section
open PySem PySem.W PySem.Calls PyProof.Rows
set_option maxRecDepth 100000
namespace Mine
theorem funFrames_base {G B h : Heap} : ∀ {l : List Env}, h.FunFrames G l → (∀ a ∈ frs l, B.get? a = none) → h.FunFrames B l
  | [], _, _ => trivial
  | env :: r, ⟨hk, ⟨L, o, hf, hn, ho, hd⟩, hr⟩, hb => ⟨hk, ⟨L, o, hf, hb L (by unfold frs; rw [List.filterMap_cons, hf]; exact .head _), ho, hd⟩, funFrames_base hr fun a ha => hb a (by
      unfold frs at ha ⊢
      rw [List.filterMap_cons, hf]
      exact .tail _ ha)⟩
section
variable {prog : Program} {w : World} {A A₀ : Around} {G h₀ h h' : Heap} {outer : List Env} {env : Env} {L : Addr} {m : Str → Option Value} {news objs : List (Addr × Obj)} {mods : List Addr} {s0 : Shared} {Pok : Value → Heap → Prop} {Per : Heap → Prop} {E' : Value → Shared → Prop}
theorem raise_end (EE : Ends s0 objs mods outer h₀ L) (B : Below A₀ G outer h₀) (F : Fr h₀ L h m) (N : News h₀ L h news) (hn : KeptIn mods news objs) (hA : A.frames = some (env :: outer)) (hf : env.frame = some L) (hk : env.scope.kind = .function)
    {e t : Addr} {dx : Option Addr} {sl : Array (Option Value)} {tk : Nat} (kall : ∀ b o, h.get? b = some o → h'.get? b = some o) (hnew : h.get? e = none) (he : h'.get? e = some ⟨.ref 45, dx, .fields #[.ref t, .none, .none, .none, .bool false, .none], sl⟩)
    (hP : Per (hideAll h (frs (env :: outer)))) :
    wpAny (model prog w) A (leaving env (.ref e)) (fun _ s'' => Post s0 mods outer Pok Per (.error (.ref e)) s'') E' { s0 with heap := h', toks := tk } := by
  have fL : frs (env :: outer) = L :: frs outer := by unfold frs; rw [List.filterMap_cons, hf]
  have b1 : Heap.FunFrames h G (env :: outer) := (pushX B F hf hk).frames
  have b2 : Heap.FunFrames h' G (env :: outer) := b1.of_keeps fun b o e1 _ => ⟨o, kall b o e1, rfl⟩
  have b3 : Heap.FunFrames h' (hideAll h (frs (env :: outer))) (env :: outer) := funFrames_base b2 fun a ha => hideAll_none _ ha
  have st : (hideAll h (frs (env :: outer))).StaysIn h' := fun b o e1 => kall b o (of_hideAll _ e1)
  have hen : (hideAll h (frs (env :: outer))).get? e = none := by
    cases q : (hideAll h (frs (env :: outer))).get? e with
    | none => rfl
    | some o => have := of_hideAll _ q; rw [hnew] at this; cases this
  refine wpAny_leaving_firstW hA b3 hf he st hen rfl rfl rfl fun h'' hL => ?_
  obtain ⟨k1, ⟨_, _, k2⟩, k3, k4⟩ := hL
  refine ⟨h'', tk, rfl, hideAll h (frs (env :: outer)), .ref t, fun b o e1 nm nf => ?_, hP, ⟨k1, hen, k2, k3⟩, fun b o e1 hb hd => k4 b o (kall b o (F.keep b o (EE.frk b o e1 hb))) hd⟩
  have e2 := EE.keeps F N (fun q hq hm => hn.all q hq hm) b o e1 nm
  refine hideAll_get _ e2 ?_
  rw [fL]
  intro q
  rcases List.mem_cons.mp q with q | q
  · exact absurd (Nat.lt_of_lt_of_le (Heap.lt_size e1) EE.low) (q ▸ Nat.lt_irrefl _)
  · exact nf q
end
end Mine
namespace Mine
theorem bad_Raise {M : Model} {A : Around} {s : Shared} {E : Value → Shared → Prop} {env : Env} {ex : Expr} {pos : Pos} {Q : Flow → Shared → Prop} (hh : A.handled = none) (h : wpAny M A (eval ex env) (Fresh E 45 BadCls) E s) : wpAny M A (exec (.Raise (some ex) none pos) env) Q E s := exc_Raise (by decide) hh h
end Mine
end
section
open PySem PySem.W PySem.Calls PyProof.Rows
set_option maxRecDepth 100000
namespace Mine
section
variable {prog : Program} {w : World} {A A₀ : Around} {G h₀ h h' : Heap} {outer : List Env} {env : Env} {L : Addr} {m : Str → Option Value} {news objs : List (Addr × Obj)} {mods mods' : List Addr} {s0 : Shared} {Pok : Value → Heap → Prop} {Per P : Heap → Prop} {E' : Value → Shared → Prop}
theorem raise_pass (EE : Ends s0 objs mods outer h₀ L) (F : Fr h₀ L h m) (N : News h₀ L h news) (hn : KeptIn mods news objs) (hA : A.frames = some (env :: outer)) (hf : env.frame = some L) {e : Addr} {tk : Nat}
    (R : Raised h mods' (env :: outer) P e h') (hm : ∀ a ∈ mods', a ∈ mods ∨ s0.heap.get? a = none)
    (hP : ∀ B : Heap, (∀ b o, h.get? b = some o → b ∉ mods' → b ∉ frs (env :: outer) → B.get? b = some o) → P B → Per B) :
    wpAny (model prog w) A (leaving env (.ref e)) (fun _ s'' => Post s0 mods outer Pok Per (.error (.ref e)) s'') E' { s0 with heap := h', toks := tk } := by
  obtain ⟨B, a0, k1, k2, k3, k4⟩ := R
  refine wpAny_leaves_onW hA hf k3 fun h'' fl up => ?_
  refine ⟨h'', tk, rfl, B, a0, fun b o e1 nm nf => ?_, hP B k1 k2, fl, fun b o e1 hb hd => ?_⟩
  rotate_left
  · obtain ⟨sl, e3⟩ := k4 b o (F.keep b o (EE.frk b o e1 hb)) (by
      unfold frs at hb ⊢
      rw [List.filterMap_cons, hf]
      exact .tail _ hb) hd
    obtain ⟨sl', e4⟩ := up b _ e3 hd
    exact ⟨sl', e4⟩
  have e2 := EE.keeps F N (fun q hq hm => hn.all q hq hm) b o e1 nm
  refine k1 b o e2 (fun q => ?_) ?_
  · rcases hm b q with q | q
    · exact nm q
    · rw [e1] at q; cases q
  · unfold frs
    rw [List.filterMap_cons, hf]
    intro q
    rcases List.mem_cons.mp q with q | q
    · exact absurd (Nat.lt_of_lt_of_le (Heap.lt_size e1) EE.low) (q ▸ Nat.lt_irrefl _)
    · exact nf q
end
end Mine
end
section
open PySem PySem.W PySem.Calls PyProof.Rows
set_option maxRecDepth 100000
namespace Mine
noncomputable def wpM {α : Type} (b : Bool) (M : Model) (A : Around) (t : Sem α) (Q : α → Shared → Prop) (E : Value → Shared → Prop) (s : Shared) : Prop := match b with
  | true => wpC M A t Q E s
  | false => wpAny M A t Q E s
noncomputable def codeM (b : Bool) (M : Model) (A : Around) (c : Code) (R : Result → Shared → Prop) (s : Shared) : Prop := match b with
  | true => codeC M A c R s
  | false => codeAny M A c R s
noncomputable def nextOr (P : Shared → Prop) (Q : Flow → Shared → Prop) (f : Flow) (s : Shared) : Prop := match f with
  | .next => P s
  | f => Q f s
section
variable {α β : Type} {b : Bool} {M : Model} {A : Around} {E : Value → Shared → Prop} {s : Shared}
theorem wpM_any {t : Sem α} {Q : α → Shared → Prop} (h : wpAny M A t Q E s) : wpM b M A t Q E s := by
  cases b
  · exact h
  · exact wpC_of_any h
theorem codeM_any {c : Code} {R : Result → Shared → Prop} (h : codeAny M A c R s) : codeM b M A c R s := by
  cases b
  · exact h
  · exact codeC_of_any h
theorem wpM_mono {t : Sem α} {Q Q' : α → Shared → Prop} {E' : Value → Shared → Prop} (h : wpM b M A t Q E s) (hQ : ∀ a s, Q a s → Q' a s) (hE : ∀ e s, E e s → E' e s) : wpM b M A t Q' E' s := by
  cases b
  · exact wpAny_mono h hQ hE
  · exact wpC_mono h hQ hE
theorem codeM_mono {c : Code} {R R' : Result → Shared → Prop} (h : codeM b M A c R s) (hR : ∀ r s, R r s → R' r s) : codeM b M A c R' s := by
  cases b
  · exact codeAny_mono h hR
  · exact codeC_mono h hR
theorem wpM_bind {m : Sem α} {f : α → Sem β} {Q : β → Shared → Prop} (h : wpM b M A m (fun a s' => wpM b M A (f a) Q E s') E s) : wpM b M A (m >>= f) Q E s := by
  cases b
  · exact wpAny_bind h
  · exact wpC_bind h
theorem wpM_pure {a : α} {Q : α → Shared → Prop} (h : Q a s) : wpM b M A (pure a) Q E s := wpM_any (wpAny_pure h)
theorem wpM_onRaise {m : Sem α} {k : Value → Sem Unit} {Q : α → Shared → Prop} (h : wpM b M A m Q (fun e s' => wpM b M A (k e) (fun _ s'' => E e s'') E s') s) : wpM b M A (m.onRaise k) Q E s := by
  cases b
  · exact wpAny_onRaise h
  · exact wpC_onRaise h
theorem codeM_of_tree {c : Code} {R : Result → Shared → Prop} (hn : NoDec c)
    (h : wpM b M (A.under c) (M.den c) (fun fin s' => match fin with | .done f => R (.ok f) s' | .again c' => c'.quiet = true ∧ codeM b M A c' R s') (fun e s' => R (.error e) s') s) : codeM b M A c R s := by
  cases b
  · exact codeAny_of_tree h
  · exact codeC_of_tree hn h
theorem wpM_runOwn {c : Code} {env : Env} {h : Option Value} {Q : Flow → Shared → Prop} (hc : codeM b M (A.mark h) c (fun r s' => match r with | .ok f => Q f s' | .error e => cameBackBy M A env E e s') s) (hnb : autoParam (h ≠ some byPass) Mine.aC) :
    wpM b M A (runOwn c env h) Q E s := by
  cases b
  · exact wpAny_runOwn hc hnb
  · exact wpC_runOwn hc hnb
theorem wpM_call {f : Value} {pos : List Value} {kw : List (Str × Value)} {Q : Value → Shared → Prop} (hc : codeM b M A (.call f ⟨pos, kw⟩) (fun r s' => match r with | .ok (.ret v) => Q v s' | .ok _ => False | .error e => E e s') s) :
    wpM b M A (call f pos kw) Q E s := by
  cases b
  · exact wpAny_call hc
  · exact wpC_call hc
end
section
variable {b : Bool} {prog : Program} {w : World} {A : Around} {E : Value → Shared → Prop} {R : Result → Shared → Prop} {s : Shared} {env : Env}
theorem wpM_execs_any {st : Stmt} {rest : List Stmt} {Q : Flow → Shared → Prop} (h : wpAny (model prog w) A (exec st env) (nextOr (wpM b (model prog w) A (execs rest env) Q E) Q) E s) :
    wpM b (model prog w) A (execs (st :: rest) env) Q E s := by
  cases b
  · exact wpAny_execs_cons (wpAny_mono h (fun f s x => by cases f <;> exact x) fun _ _ x => x)
  · exact wpC_execs_any (wpAny_mono h (fun f s x => by cases f <;> exact x) fun _ _ x => x)
theorem wpM_execs_cons {st : Stmt} {rest : List Stmt} {Q : Flow → Shared → Prop} (h : wpM b (model prog w) A (exec st env) (nextOr (wpM b (model prog w) A (execs rest env) Q E) Q) E s) :
    wpM b (model prog w) A (execs (st :: rest) env) Q E s := by
  cases b
  · exact wpAny_execs_cons (wpAny_mono h (fun f s x => by cases f <;> exact x) fun _ _ x => x)
  · exact wpC_execs_cons (wpC_mono h (fun f s x => by cases f <;> exact x) fun _ _ x => x)
theorem wpM_execs_nil {Q : Flow → Shared → Prop} (h : Q .next s) : wpM b (model prog w) A (execs [] env) Q E s := wpM_any (wpAny_execs_nil h)
theorem wpM_If {test : Expr} {body orelse : List Stmt} {pos : Pos} {Q : Flow → Shared → Prop}
    (h : wpAny (model prog w) A (isTrue test env (eval test env)) (fun c s₂ => if c then wpM b (model prog w) A (execs body env) Q E s₂ else wpM b (model prog w) A (execs orelse env) Q E s₂) E s) :
    wpM b (model prog w) A (exec (.If test body orelse pos) env) Q E s := by
  cases b
  · exact wpAny_If h
  · exact wpC_If h
end
noncomputable abbrev AV := Value → Prop
noncomputable abbrev AO := Obj → Prop
noncomputable abbrev Lo := List (Option AV)
noncomputable abbrev Nw := List (Addr × AO)
noncomputable def nth {α : Type} : List α → Nat → Option α
  | [], _ => none
  | a :: _, 0 => some a
  | _ :: l, n + 1 => nth l n
noncomputable def put {α : Type} : List α → Nat → α → List α
  | [], _, _ => []
  | _ :: l, 0, b => b :: l
  | a :: l, n + 1, b => a :: put l n b
structure Sx where
  b : Bool
  cn : Str
  sc : Scope
  nm : List Str
structure Vx where
  w : World
  dp : Nat
  un : Nat
  outer : List Env
  G : Heap
  L : Addr
  fa : Addr
  cd : Value
  cl : List (Str × Addr)
  h₀ : Heap
  s₀ : Shared
  Er : Heap → Prop
  E : Value → Shared → Prop
  mf : (Str → Option Value) → Prop
structure Cx where
  S : Sx
  V : Vx
noncomputable abbrev Cx.env (c : Cx) : Env := envX c.S.cn c.S.sc c.V.L c.V.fa c.V.cd c.V.cl
noncomputable abbrev Cx.A (c : Cx) : Around := Ar c.V.dp c.V.un (some []) (c.env :: c.V.outer)
noncomputable abbrev Cx.M (c : Cx) : Model := model PySem.Challenge.rw_pb0114_01.row.prog c.V.w
noncomputable def adr (nw : Nw) : List Addr := nw.map (·.1)
noncomputable def Has (B : Heap) (nw : Nw) : Prop := ∀ e ∈ nw, ∃ o, B.get? e.1 = some o ∧ e.2 o
noncomputable def LocOk (nm : List Str) (lo : Lo) (m : Str → Option Value) : Prop := ∀ i x P, nth nm i = some x → nth lo i = some (some P) → ∃ v, m x = some v ∧ P v
noncomputable def LocC (c : Cx) (lo : Lo) (m : Str → Option Value) : Prop := LocOk c.S.nm lo m ∧ c.V.mf m
noncomputable def St (c : Cx) (lo : Lo) (nw : Nw) (s : Shared) : Prop :=
  ∃ (h : Heap) (tk : Nat) (m : Str → Option Value) (ob : Addr → Obj), s = { c.V.s₀ with heap := h, toks := tk } ∧ Fr c.V.h₀ c.V.L h m ∧ LocC c lo m ∧ News c.V.h₀ c.V.L h (nw.map fun e => (e.1, ob e.1)) ∧ (∀ e ∈ nw, e.2 (ob e.1)) ∧ (adr nw).Nodup
structure OkB (c : Cx) : Prop where
  fn : c.S.sc.kind = .function
  X : (HA.hd.heap_1_39 c.V.w.params).In c.V.G
  X0 : (HA.hd.heap_1_39 c.V.w.params).In c.V.h₀
  T : ∃ p loose mean mg mb, Top p loose mean mg mb c.V.G ∧ Top p loose mean mg mb c.V.h₀
  B : ∃ A₀, Below A₀ c.V.G c.V.outer c.V.h₀
  lk : ∀ x ∈ c.S.nm, c.env.kindOf x = some .local ∧ (x == Str.ofString "__debug__") = false
structure Ok (c : Cx) : Prop extends OkB c where
  nd : c.S.nm.Nodup
  mf : ∀ m, c.V.mf m
  ps : PassesOwn c.M c.A c.env c.V.E
  bad : ∀ lo nw s, St c lo nw s → (∀ B, Has B nw → c.V.Er B) → ∀ h' tk e t d, (∀ b o, s.heap.get? b = some o → h'.get? b = some o) → s.heap.get? e = none → h'.get? e = some ⟨.ref 45, some d, .fields #[.ref t, .none, .none, .none, .bool false, .none], #[]⟩ →
    c.V.E (.ref e) { s with heap := h', toks := tk }
  pass : ∀ lo nw s, St c lo nw s → ∀ mods P h' tk e, Raised s.heap mods (c.env :: c.V.outer) P e h' → (∀ a ∈ mods, a ∈ adr nw) →
    (∀ B, (∀ b o, s.heap.get? b = some o → b ∉ mods → b ∉ frs (c.env :: c.V.outer) → B.get? b = some o) → P B → c.V.Er B) → c.V.E (.ref e) { s with heap := h', toks := tk }
noncomputable def It (x : Int) : AV := fun v => ∃ t, v = .int x t
noncomputable def Is (u : Value) : AV := fun v => v = u
noncomputable def Ev {α : Type} (c : Cx) (lo : Lo) (nw : Nw) (T : Sem α) (P : α → Prop) : Prop :=
  ∀ s, St c lo nw s → ∀ (Q : α → Shared → Prop) (E : Value → Shared → Prop), (∀ v s', P v → St c lo nw s' → Q v s') → wpAny c.M c.A T Q E s
noncomputable def EvK {α : Type} (c : Cx) (lo : Lo) (nw : Nw) (T : Sem α) (K : (α → Prop) → Nw → Prop) : Prop :=
  ∀ s, St c lo nw s → ∀ (Q : α → Shared → Prop), (∀ P nw' v s', K P nw' → P v → St c lo nw' s' → Q v s') → wpAny c.M c.A T Q c.V.E s
inductive Fl where
  | next | cont | brk
  | ret (P : AV)
noncomputable def Fl.is : Fl → Flow → Prop
  | .next, f => f = .next
  | .cont, f => f = .cont
  | .brk, f => f = .brk
  | .ret P, f => ∃ v, f = .ret v ∧ P v
noncomputable def Ex (c : Cx) (lo : Lo) (nw : Nw) (l : List Stmt) (R : Fl → Lo → Nw → Prop) : Prop :=
  ∀ s, St c lo nw s → ∀ (Q : Flow → Shared → Prop), (∀ fl lo' nw' f s', R fl lo' nw' → fl.is f → St c lo' nw' s' → Q f s') → wpM c.S.b c.M c.A (execs l c.env) Q c.V.E s
noncomputable def thn (c : Cx) (rest : List Stmt) (R : Fl → Lo → Nw → Prop) (fl : Fl) (lo : Lo) (nw : Nw) : Prop := match fl with
  | .next => Ex c lo nw rest R
  | fl => R fl lo nw
theorem Ev.k {α : Type} {c : Cx} {lo : Lo} {nw : Nw} {T : Sem α} {P : α → Prop} {K : (α → Prop) → Nw → Prop} (h : Ev c lo nw T P) (k : K P nw) : EvK c lo nw T K :=
  fun s hs Q q => h s hs Q _ fun v s' hP hs' => q P nw v s' k hP hs'
theorem nth_mem {α : Type} : ∀ {l : List α} {i : Nat} {x : α}, nth l i = some x → x ∈ l
  | [], _, _, h => nomatch h
  | _ :: _, 0, _, h => by cases h; exact .head _
  | _ :: _, _ + 1, _, h => .tail _ (nth_mem h)
theorem nth_inj {α : Type} : ∀ {l : List α} {i j : Nat} {x : α}, l.Nodup → nth l i = some x → nth l j = some x → i = j
  | [], _, _, _, _, h, _ => nomatch h
  | _ :: _, 0, 0, _, _, _, _ => rfl
  | a :: l, 0, j + 1, x, n, h, h' => by cases h; exact absurd (nth_mem (l := l) (i := j) h') (List.nodup_cons.mp n).1
  | a :: l, i + 1, 0, x, n, h, h' => by cases h'; exact absurd (nth_mem (l := l) (i := i) h) (List.nodup_cons.mp n).1
  | _ :: l, i + 1, j + 1, _, n, h, h' => by rw [nth_inj (l := l) (i := i) (j := j) (List.nodup_cons.mp n).2 h h']
theorem nth_put {α : Type} : ∀ {l : List α} {i j : Nat} {x y : α}, nth (put l i x) j = some y → (i = j ∧ y = x) ∨ (i ≠ j ∧ nth l j = some y)
  | [], _, _, _, _, h => nomatch h
  | _ :: _, 0, 0, _, _, h => by cases h; exact .inl ⟨rfl, rfl⟩
  | _ :: _, 0, j + 1, _, _, h => .inr ⟨by lia, h⟩
  | _ :: _, i + 1, 0, _, _, h => .inr ⟨by lia, h⟩
  | _ :: l, i + 1, j + 1, _, _, h => (nth_put (l := l) (i := i) (j := j) h).elim (fun q => .inl ⟨by lia, q.2⟩) fun q => .inr ⟨by lia, q.2⟩
theorem LocOk.store {nm : List Str} {lo : Lo} {m : Str → Option Value} {i : Nat} {x : Str} {P : AV} {v : Value} (h : LocOk nm lo m) (nd : nm.Nodup) (hn : nth nm i = some x) (hP : P v) :
    LocOk nm (put lo i (some P)) (fun y => if y = x then some v else m y) := fun j y P' hy hl => by
  rcases nth_put hl with ⟨rfl, e⟩ | ⟨ne, hl⟩
  · cases e
    rw [hn] at hy; cases hy
    exact ⟨v, if_pos rfl, hP⟩
  · have : y ≠ x := fun q => ne (nth_inj nd (q ▸ hn) hy)
    obtain ⟨v', e, hv⟩ := h j y P' hy hl
    exact ⟨v', (if_neg this).trans e, hv⟩
section
variable {c : Cx} {lo : Lo} {nw : Nw}
theorem St.grow {s : Shared} {h' : Heap} {tk : Nat} (hs : St c lo nw s) (k : ∀ b o, s.heap.get? b = some o → h'.get? b = some o) : St c lo nw { s with heap := h', toks := tk } := by
  obtain ⟨h, tk0, m, ob, rfl, F, l, N, o, nd⟩ := hs
  exact ⟨h', tk, m, ob, rfl, ⟨F.ns.at' fun o e => k _ o e, fun b o e => k b o (F.keep b o e), F.above⟩, l, fun p hp => ⟨k _ _ (N p hp).1, (N p hp).2⟩, o, nd⟩
theorem St.tok {s : Shared} {tk : Nat} (hs : St c lo nw s) : St c lo nw { s with toks := tk } := hs.grow (h' := s.heap) fun _ _ e => e
theorem St.has {s : Shared} (hs : St c lo nw s) {e : Addr × AO} (he : e ∈ nw) : ∃ o, s.heap.get? e.1 = some o ∧ e.2 o ∧ e.1 ≠ c.V.L ∧ c.V.h₀.get? e.1 = none := by
  obtain ⟨h, tk0, m, ob, rfl, F, l, N, o, nd⟩ := hs
  have := N (e.1, ob e.1) (List.mem_map.mpr ⟨e, he, rfl⟩)
  exact ⟨ob e.1, this.1, o e he, this.2⟩
theorem St.base {s : Shared} (hs : St c lo nw s) {a : Addr} {o : Obj} (e : c.V.h₀.get? a = some o) : s.heap.get? a = some o := by
  obtain ⟨h, tk0, m, ob, rfl, F, l, N, _, nd⟩ := hs
  exact F.keep _ _ e
noncomputable def In (c : Cx) (nw : Nw) (a : Addr) (P : AO) : Prop := (∃ P', (a, P') ∈ nw ∧ ∀ o, P' o → P o) ∨ ∃ o, c.V.h₀.get? a = some o ∧ P o
theorem In.get {s : Shared} {a : Addr} {P : AO} (h : In c nw a P) (hs : St c lo nw s) : ∃ o, s.heap.get? a = some o ∧ P o := by
  rcases h with ⟨P', h, k⟩ | ⟨o, h, p⟩
  · obtain ⟨o, e, p, _⟩ := hs.has h
    exact ⟨o, e, k o p⟩
  · exact ⟨o, hs.base h, p⟩
theorem In.at {i : Nat} {a : Addr} {P : AO} (h : nth nw i = some (a, P)) : In c nw a P := .inl ⟨P, nth_mem h, fun _ x => x⟩
theorem adr_put : ∀ {nw : Nw} {i : Nat} {a : Addr} {P P' : AO}, nth nw i = some (a, P) → adr (put nw i (a, P')) = adr nw
  | [], _, _, _, _, h => nomatch h
  | _ :: _, 0, _, _, _, h => by cases h; rfl
  | x :: l, i + 1, a, _, P', h => by
    show x.1 :: adr (put l i (a, P')) = x.1 :: adr l
    rw [adr_put (nw := l) (i := i) h]
theorem put_mem : ∀ {nw : Nw} {i : Nat} {a : Addr} {P P' : AO}, nth nw i = some (a, P) → (adr nw).Nodup → ∀ e ∈ put nw i (a, P'), (e = (a, P')) ∨ (e ∈ nw ∧ e.1 ≠ a)
  | [], _, _, _, _, h, _ => nomatch h
  | _ :: _, 0, _, _, _, h, nd => by
    have n2 := List.nodup_cons.mp nd
    cases h
    intro e he
    rcases List.mem_cons.mp he with he | he
    · exact .inl he
    · exact .inr ⟨.tail _ he, fun q => n2.1 (by have := List.mem_map_of_mem (f := (·.1)) he; dsimp only at this ⊢; rw [q] at this; exact this)⟩
  | x :: l, i + 1, a, P, P', h, nd => by
    have n2 := List.nodup_cons.mp nd
    intro e he
    rcases List.mem_cons.mp he with he | he
    · exact .inr ⟨by rw [he]; exact .head _, fun q => n2.1 (by rw [he] at q; dsimp only at q ⊢; rw [q]; exact List.mem_map_of_mem (f := (·.1)) (nth_mem (l := l) (i := i) (x := (a, P)) h))⟩
    · rcases put_mem (nw := l) (i := i) h n2.2 e he with q | q
      · exact .inl q
      · exact .inr ⟨.tail _ q.1, q.2⟩
theorem St.set {s : Shared} {a : Addr} {o : Obj} {P P' : AO} {i : Nat} {h' : Heap} {tk : Nat} (hs : St c lo nw s) (hi : nth nw i = some (a, P)) (k : ∀ b o, s.heap.get? b = some o → b ≠ a → h'.get? b = some o) (e : h'.get? a = some o) (p : P' o) :
    St c lo (put nw i (a, P')) { s with heap := h', toks := tk } := by
  have hA := hs.has (nth_mem hi)
  obtain ⟨_, ha, _, haL, hA0⟩ := hA
  obtain ⟨h, tk0, m, ob, rfl, F, l, N, oo, nd⟩ := hs
  have had : adr (put nw i (a, P')) = adr nw := adr_put hi
  have hm : ∀ e ∈ put nw i (a, P'), (e = (a, P')) ∨ (e ∈ nw ∧ e.1 ≠ a) := put_mem hi nd
  refine ⟨h', tk, m, fun b => if b = a then o else ob b, rfl, ⟨F.ns.at' fun o e => k _ o e haL.symm, fun b o e => k b o (F.keep b o e) (fun q => by rw [q, hA0] at e; cases e), F.above⟩, l, fun q hq => ?_, fun q hq => ?_, by rw [had]; exact nd⟩
  · obtain ⟨x, hx, rfl⟩ := List.mem_map.mp hq
    rcases hm x hx with rfl | ⟨hx, hne⟩
    · exact ⟨by show h'.get? a = some (if a = a then o else ob a); rw [if_pos rfl]; exact e, haL, hA0⟩
    · have := N _ (List.mem_map.mpr ⟨x, hx, rfl⟩)
      exact ⟨by show h'.get? x.1 = some (if x.1 = a then o else ob x.1); rw [if_neg hne]; exact k _ _ this.1 hne, this.2⟩
  · rcases hm q hq with rfl | ⟨hx, hne⟩
    · show P' (if a = a then o else ob a)
      rw [if_pos rfl]; exact p
    · show q.2 (if q.1 = a then o else ob q.1)
      rw [if_neg hne]; exact oo q hx
theorem St.new {s : Shared} {a : Addr} {o : Obj} {P : AO} {h' : Heap} {tk : Nat} (hs : St c lo nw s) (k : ∀ b o, s.heap.get? b = some o → h'.get? b = some o) (n : s.heap.get? a = none) (e : h'.get? a = some o) (p : P o) :
    St c lo ((a, P) :: nw) { s with heap := h', toks := tk } := by
  have h1 : ∀ x ∈ nw, x.1 ≠ a := fun x hx q => by
    obtain ⟨o', e', _⟩ := hs.has hx
    rw [q, n] at e'; cases e'
  have h2 : c.V.h₀.get? a = none := by
    cases q : c.V.h₀.get? a with
    | none => rfl
    | some o' => have := hs.base q; rw [n] at this; cases this
  obtain ⟨h, tk0, m, ob, rfl, F, l, N, oo, nd⟩ := hs
  have hL : a ≠ c.V.L := fun q => by
    obtain ⟨oL, _, _, hL, _⟩ := F.ns
    rw [← q] at hL
    exact absurd (n.symm.trans hL) (by simp)
  refine ⟨h', tk, m, fun b => if b = a then o else ob b, rfl, ⟨F.ns.at' fun o e => k _ o e, fun b o e => k b o (F.keep b o e), F.above⟩, l, fun q hq => ?_, fun q hq => ?_, ?_⟩
  · obtain ⟨x, hx, rfl⟩ := List.mem_map.mp hq
    rcases List.mem_cons.mp hx with rfl | hx
    · exact ⟨by show h'.get? a = some (if a = a then o else ob a); rw [if_pos rfl]; exact e, hL, h2⟩
    · have := N _ (List.mem_map.mpr ⟨x, hx, rfl⟩)
      exact ⟨by show h'.get? x.1 = some (if x.1 = a then o else ob x.1); rw [if_neg (h1 x hx)]; exact k _ _ this.1, this.2⟩
  · rcases List.mem_cons.mp hq with rfl | hx
    · show P (if a = a then o else ob a)
      rw [if_pos rfl]; exact p
    · show q.2 (if q.1 = a then o else ob q.1)
      rw [if_neg (h1 q hx)]; exact oo q hx
  · refine List.nodup_cons.mpr ⟨fun q => ?_, nd⟩
    obtain ⟨x, hx, e⟩ := List.mem_map.mp q
    exact h1 x hx e
end
end Mine
end
section
open PySem PySem.W PySem.Calls PyProof.Rows
set_option maxRecDepth 100000
namespace Mine
section
variable {c : Cx} {lo : Lo} {nw : Nw}
theorem St.opn {s : Shared} (hs : St c lo nw s) : ∃ m ns, Fr c.V.h₀ c.V.L s.heap m ∧ News c.V.h₀ c.V.L s.heap ns ∧ (∀ h' tk, Fr c.V.h₀ c.V.L h' m → News c.V.h₀ c.V.L h' ns → St c lo nw { s with heap := h', toks := tk }) ∧
    (∀ h' tk D o P, Fr c.V.h₀ c.V.L h' m → News c.V.h₀ c.V.L h' ((D, o) :: ns) → (∀ p ∈ ns, p.1 < D) → P o → St c lo ((D, P) :: nw) { s with heap := h', toks := tk }) := by
  obtain ⟨h, tk0, m, ob, rfl, F, l, N, oo, nd⟩ := hs
  refine ⟨m, _, F, N, fun h' tk F' N' => ⟨h', tk, m, ob, rfl, F', l, N', oo, nd⟩, fun h' tk D o P F' N' lt p => ?_⟩
  have h1 : ∀ x ∈ nw, x.1 ≠ D := fun x hx => Nat.ne_of_lt (lt _ (List.mem_map.mpr ⟨x, hx, rfl⟩))
  refine ⟨h', tk, m, fun b => if b = D then o else ob b, rfl, F', l, fun q hq => ?_, fun q hq => ?_, ?_⟩
  · obtain ⟨x, hx, rfl⟩ := List.mem_map.mp hq
    rcases List.mem_cons.mp hx with rfl | hx
    · have := N' _ (.head _)
      exact ⟨by show h'.get? D = some (if D = D then o else ob D); rw [if_pos rfl]; exact this.1, this.2⟩
    · have := N' _ (.tail _ (List.mem_map.mpr ⟨x, hx, rfl⟩))
      exact ⟨by show h'.get? x.1 = some (if x.1 = D then o else ob x.1); rw [if_neg (h1 x hx)]; exact this.1, this.2⟩
  · rcases List.mem_cons.mp hq with rfl | hx
    · show P (if D = D then o else ob D)
      rw [if_pos rfl]; exact p
    · show q.2 (if q.1 = D then o else ob q.1)
      rw [if_neg (h1 q hx)]; exact oo q hx
  · refine List.nodup_cons.mpr ⟨fun q => ?_, nd⟩
    obtain ⟨x, hx, e⟩ := List.mem_map.mp q
    exact h1 x hx e
theorem Ev.imp {α : Type} {T : Sem α} {P P' : α → Prop} (h : Ev c lo nw T P) (k : ∀ v, P v → P' v) : Ev c lo nw T P' := fun s hs Q E q => h s hs Q E fun v s' hP hs' => q v s' (k v hP) hs'
noncomputable abbrev EE (c : Cx) (lo : Lo) (nw : Nw) (e : Expr) (P : AV) : Prop := Ev c lo nw (eval e c.env) P
noncomputable abbrev EK (c : Cx) (lo : Lo) (nw : Nw) (e : Expr) (K : AV → Nw → Prop) : Prop := EvK c lo nw (eval e c.env) K
theorem EE.loc (ok : OkB c) {i : Nat} {x : Str} {pos : Pos} {P : AV} (hn : nth c.S.nm i = some x) (hl : nth lo i = some (some P)) : EE c lo nw (.Name x pos) P := fun s hs Q E q => by
  have hs0 := hs
  obtain ⟨h, tk0, m, ob, rfl, F, l, N, oo, nd⟩ := hs
  obtain ⟨v, hv, hP⟩ := l.1 i x P hn hl
  have k := ok.lk x (nth_mem hn)
  exact nameX_L F hv (q v _ hP hs0) ok.fn k.1 k.2
theorem EE.glob (ok : OkB c) {x : Str} {pos : Pos} {v : Value} (e : nsIn (HA.hd.heap_1_39 c.V.w.params) mainGlobals x = some (some v)) (hk : autoParam (c.S.sc.names.lookup x = some .globalImplicit) Mine.aR) (hd' : autoParam ((x == Str.ofString "__debug__") = false) Mine.aDk) : EE c lo nw (.Name x pos) (Is v) := fun s hs Q E q => by
  obtain ⟨m, ns, F, N, k1, _⟩ := hs.opn
  obtain ⟨p, loose, mean, mg, mb, _, T0⟩ := ok.T
  exact nameX_K F ok.X0 (topRead_of T0) e (q v s rfl hs) ok.fn hk hd'
theorem EE.blt (ok : OkB c) {x : Str} {pos : Pos} {v : Value} (e : nsIn (HA.hd.heap_1_39 c.V.w.params) mainGlobals x = some none) (eb : bootBuiltins x = some v) (hk : autoParam (c.S.sc.names.lookup x = some .globalImplicit) Mine.aR) (hn : autoParam (x ≠ Str.ofString "__name__") Mine.aDk) (hd' : autoParam ((x == Str.ofString "__debug__") = false) Mine.aDk) : EE c lo nw (.Name x pos) (Is v) := fun s hs Q E q => by
  obtain ⟨m, ns, F, N, k1, _⟩ := hs.opn
  obtain ⟨p, loose, mean, mg, mb, _, T0⟩ := ok.T
  exact nameX_B F ok.X0 (topRead_of T0) e eb hn (q v s rfl hs) ok.fn hk hd'
noncomputable def CellP (v : Value) : AO := fun o => o.data = .cell (some v)
theorem EE.cell (ok : OkB c) {x : Str} {pos : Pos} {i : Nat} {a : Addr} {v : Value} (hl : c.V.cl.lookup x = some a) (hi : nth nw i = some (a, CellP v)) (hk : autoParam (c.S.sc.names.lookup x = some .cell) Mine.aR) (hd' : autoParam ((x == Str.ofString "__debug__") = false) Mine.aDk) : EE c lo nw (.Name x pos) (Is v) := fun s hs Q E q => by
  obtain ⟨o2, e2, h2, h3⟩ := hs.has (nth_mem hi)
  exact nameX_C (news := [(a, o2)]) (h₀ := c.V.h₀) (L := c.V.L) (fun p hp => by rw [List.mem_singleton.mp hp]; exact ⟨e2, h3⟩) hl (.head _) h2 (q v s rfl hs) ok.fn hk hd'
theorem EE.int {x : Int} {k : Nat} {pos : Pos} : EE c lo nw (.Constant (.int x) k pos) (It x) := fun s hs Q E q => wpAny_Constant_int (q _ _ ⟨_, rfl⟩ hs.tok)
theorem EE.none {k : Nat} {pos : Pos} : EE c lo nw (.Constant .none k pos) (Is .none) := fun s hs Q E q => wpAny_Constant_none (q _ _ rfl hs)
theorem EE.bool {b : Bool} {k : Nat} {pos : Pos} : EE c lo nw (.Constant (.bool b) k pos) (Is (.bool b)) := fun s hs Q E q => PyProof.Rows.Constant_bool (q _ _ rfl hs)
noncomputable def OpI (w : World) (op : Operator) (x y z : Int) : Prop := ∀ (A : Around) (s : Shared) (t u : Tok) (Q : Value → Shared → Prop) (E : Value → Shared → Prop), (∀ t' tk, Q (.int z t') { s with toks := tk }) → wpAny (model PySem.Challenge.rw_pb0114_01.row.prog w) A (binaryOp op (.int x t) (.int y u)) Q E s
theorem OpI.add {w : World} {x y : Int} : OpI w .Add x y (x + y) := fun _ _ _ _ _ _ q => add_int (q _ _)
theorem OpI.sub {w : World} {x y : Int} : OpI w .Sub x y (x - y) := fun _ _ _ _ _ _ q => sub_int (q _ _)
theorem OpI.mul {w : World} {x y : Int} (h : IntMulOk x y) : OpI w .Mult x y (x * y) := fun _ _ _ _ _ _ q => mul_int (q _ _) h
theorem OpI.mod {w : World} {x y : Int} (h : y ≠ 0) : OpI w .Mod x y (x.fmod y) := fun _ _ _ _ _ _ q => mod_int' h (q _ _)
theorem OpI.shr {w : World} {x y : Int} (h : 0 ≤ y) : OpI w .RShift x y (x.fdiv (2 ^ y.toNat)) := fun _ _ _ _ _ _ q => rshift_int h (q _ _)
theorem OpI.shl {w : World} {x y : Int} (h : 0 ≤ y) (h2 : (Builtin.Int.intBits x : Int) + y ≤ 2 ^ 27) : OpI w .LShift x y (x * 2 ^ y.toNat) := fun _ _ _ _ _ _ q => lshift_int h h2 (q _ _)
theorem OpI.and {w : World} {x y : Int} : OpI w .BitAnd x y (Builtin.bitAnd x y) := fun _ _ _ _ _ _ q => and_int (q _ _)
theorem OpI.or {w : World} {x y : Int} : OpI w .BitOr x y (Builtin.bitOr x y) := fun _ _ _ _ _ _ q => or_int (q _ _)
theorem OpI.pow {w : World} {x y : Int} (h : 0 ≤ y) (h2 : y ≤ 1000000) (h3 : x.natAbs < 2 ^ 64) : OpI w .Pow x y (x ^ y.toNat) := fun _ _ _ _ _ _ q => pow_int_small h h2 h3 (q _ _)
theorem OpI.div {w : World} {x y : Int} (h : y ≠ 0) (h2 : Builtin.divisionGoesByPylong x y = false) : OpI w .FloorDiv x y (x.fdiv y) := fun _ _ _ _ _ _ q => floordiv_int h (q _ _) (.inl h2)
theorem EE.bin {a b : Expr} {op : Operator} {pos : Pos} {x y z : Int} (ha : EE c lo nw a (It x)) (hb : EE c lo nw b (It y)) (ho : OpI c.V.w op x y z) : EE c lo nw (.BinOp a op b pos) (It z) := fun s hs Q E q =>
  wpAny_BinOp (ha s hs _ _ fun _ s1 ⟨t, e⟩ hs1 => hb s1 hs1 _ _ fun _ s2 ⟨u, e'⟩ hs2 => by subst e; subst e'; exact ho _ _ _ _ _ _ fun t' tk => q _ _ ⟨_, rfl⟩ hs2.tok)
theorem EK.bin {a b : Expr} {op : Operator} {pos : Pos} {K : AV → Nw → Prop} (h : EK c lo nw a fun P nw1 => ∃ x, P = It x ∧ EK c lo nw1 b fun P' nw2 => ∃ y, P' = It y ∧ ∃ z, OpI c.V.w op x y z ∧ K (It z) nw2) : EK c lo nw (.BinOp a op b pos) K := fun s hs Q q =>
  wpAny_BinOp (h s hs _ fun P nw1 v s1 ⟨x, eP, hb⟩ hP hs1 => hb s1 hs1 _ fun P' nw2 v' s2 ⟨y, eP', z, ho, k⟩ hP' hs2 => by
    subst eP; subst eP'
    obtain ⟨t, rfl⟩ := hP
    obtain ⟨u, rfl⟩ := hP'
    exact ho _ _ _ _ _ _ fun t' tk => q _ _ _ _ k ⟨_, rfl⟩ hs2.tok)
theorem EK.binR {a b : Expr} {op : Operator} {pos : Pos} {K : AV → Nw → Prop} {x : Int} (ha : EE c lo nw a (It x)) (h : EK c lo nw b fun P' nw2 => ∃ y, P' = It y ∧ ∃ z, OpI c.V.w op x y z ∧ K (It z) nw2) : EK c lo nw (.BinOp a op b pos) K :=
  EK.bin (Ev.k ha ⟨x, rfl, h⟩)
inductive AllV : List AV → List Value → Prop
  | nil : AllV [] []
  | cons {P : AV} {v : Value} {Ps : List AV} {vs : List Value} : P v → AllV Ps vs → AllV (P :: Ps) (v :: vs)
noncomputable def EvA (c : Cx) (lo : Lo) (nw : Nw) (pos : Pos) (es : List Expr) (K : List AV → Nw → Prop) : Prop :=
  ∀ s, St c lo nw s → ∀ (Q : List Value → Shared → Prop), (∀ Ps nw' vs s', K Ps nw' → AllV Ps vs → St c lo nw' s' → Q vs s') → wpAny c.M c.A (spliced (backTo pos (starEach es c.env))) Q c.V.E s
theorem EvA.nil {pos : Pos} {K : List AV → Nw → Prop} (h : K [] nw) : EvA c lo nw pos [] K := fun s hs Q q => args_nil (q _ _ _ _ h .nil hs)
theorem EvA.cons {pos : Pos} {e : Expr} {es : List Expr} {K : List AV → Nw → Prop} (h : EK c lo nw e fun P nw1 => EvA c lo nw1 pos es fun Ps nw2 => K (P :: Ps) nw2) (he : autoParam (starEach (e :: es) c.env = (false, eval e c.env) :: starEach es c.env) Mine.aR) : EvA c lo nw pos (e :: es) K := fun s hs Q q =>
  args_cons (h s hs _ fun P nw1 v s1 h1 hP hs1 => h1 s1 hs1 _ fun Ps nw2 vs s2 h2 hPs hs2 => q _ _ _ _ h2 (.cons hP hPs) hs2) he
theorem EvA.p {pos : Pos} {e : Expr} {es : List Expr} {P : AV} {K : List AV → Nw → Prop} (h : EE c lo nw e P) (k : EvA c lo nw pos es fun Ps nw2 => K (P :: Ps) nw2) (he : autoParam (starEach (e :: es) c.env = (false, eval e c.env) :: starEach es c.env) Mine.aR) : EvA c lo nw pos (e :: es) K :=
  EvA.cons (Ev.k h k) he
noncomputable def CK (c : Cx) (lo : Lo) (nw : Nw) (f : Value) (Ps : List AV) (K : AV → Nw → Prop) : Prop := ∀ vs, AllV Ps vs → EvK c lo nw (PySem.call f vs []) K
theorem EK.callG (ok : Ok c) {x : Str} {xp pos : Pos} {e : Expr} {es : List Expr} {f : Value} {K : AV → Nw → Prop} (hf : EE c lo nw (.Name x xp) (Is f)) (hk : keepIn (HA.hd.heap_1_39 c.V.w.params) f = true) (h : EvA c lo nw pos (e :: es) fun Ps nw1 => CK c lo nw1 f Ps K)
    (he : autoParam (starEach (e :: es) c.env = (false, eval e c.env) :: starEach es c.env) Mine.aR) (hp : autoParam (((backTo pos (starEach es c.env)).any fun x => x.1) = false) Mine.aR)
    (hc : autoParam (eval (.Call (.Name x xp) (e :: es) [] pos) c.env = (do callWith pos (← eval (.Name x xp) c.env) [] (backTo pos (starEach (e :: es) c.env)) (backToKw pos (keywordEach [] c.env)))) Mine.aR) :
    EK c lo nw (.Call (.Name x xp) (e :: es) [] pos) K := fun s hs Q q => by
  refine Call_ (hf s hs _ _ fun v s1 hv hs1 => ?_) hc
  cases hv
  refine callWith_K (h₀ := c.V.h₀) ok.X0 hk (h s1 hs1 _ fun Ps nw1 vs s2 h2 hPs hs2 => ⟨?_, ?_⟩) he hp
  · obtain ⟨m, ns, F, N, _⟩ := hs2.opn
    exact ok.X0.keeps F.keep
  · rw [List.nil_append]; exact h2 vs hPs s2 hs2 Q q
theorem EK.callB {x : Str} {xp pos : Pos} {e : Expr} {es : List Expr} {id : String} {K : AV → Nw → Prop} (hf : EE c lo nw (.Name x xp) (Is (.builtin id))) (h : EvA c lo nw pos (e :: es) fun Ps nw1 => CK c lo nw1 (.builtin id) Ps K)
    (he : autoParam (starEach (e :: es) c.env = (false, eval e c.env) :: starEach es c.env) Mine.aR) (hp : autoParam (((backTo pos (starEach es c.env)).any fun x => x.1) = false) Mine.aR)
    (hc : autoParam (eval (.Call (.Name x xp) (e :: es) [] pos) c.env = (do callWith pos (← eval (.Name x xp) c.env) [] (backTo pos (starEach (e :: es) c.env)) (backToKw pos (keywordEach [] c.env)))) Mine.aR) :
    EK c lo nw (.Call (.Name x xp) (e :: es) [] pos) K := fun s hs Q q => by
  refine Call_ (hf s hs _ _ fun v s1 hv hs1 => ?_) hc
  cases hv
  exact PyProof.Rows.callWith_builtin1 (h s1 hs1 _ fun Ps nw1 vs s2 h2 hPs hs2 => h2 vs hPs s2 hs2 Q q) he hp
noncomputable def IntL (ns : List Int) : AO := fun o => ∃ vs n, o = listOf (List.toArray vs) n ∧ IntsAre vs ns
theorem IntL.isList {ns : List Int} {o : Obj} {h : Heap} {a : Addr} (p : IntL ns o) (e : h.get? a = some o) : ∃ vs, h.IsList a (List.toArray vs) ∧ IntsAre vs ns := by
  obtain ⟨vs, n, rfl, hI⟩ := p
  exact ⟨vs, ⟨_, e, rfl, by simp⟩, hI⟩
end
end Mine
end
section
open PySem PySem.W PySem.Calls PyProof.Rows
set_option maxRecDepth 100000
namespace Mine
theorem updF_adr {a : Addr} {ob : Addr → Obj} : ∀ {l : List Addr}, l.Nodup → a ∈ l → ∃ g, UpdF a (ob a) (l.map fun b => (b, ob b)) g ∧ (∀ o', Upd a (ob a) o' (l.map fun b => (b, ob b)) (g o')) ∧ ∀ o', g o' = l.map fun b => (b, if b = a then o' else ob b)
  | [], _, h => nomatch h
  | b :: l, n, h => by
    have n2 := List.nodup_cons.mp n
    by_cases e : b = a
    · subst e
      have k : ∀ p ∈ l.map (fun b => (b, ob b)), p.1 ≠ b := fun p hp q => by
        obtain ⟨x, hx, rfl⟩ := List.mem_map.mp hp
        exact n2.1 (q ▸ hx)
      refine ⟨fun o' => (b, o') :: l.map fun b => (b, ob b), .head k, fun o' => .head k, fun o' => ?_⟩
      show (b, o') :: _ = (b, if b = b then o' else ob b) :: _
      rw [if_pos rfl]
      refine congrArg _ (List.map_congr_left fun x hx => ?_)
      have hne : x ≠ b := fun q => n2.1 (q ▸ hx)
      rw [if_neg hne]
    · have hm : a ∈ l := (List.mem_cons.mp h).elim (fun q => absurd q.symm e) id
      obtain ⟨g, h1, h2, h3⟩ := updF_adr (ob := ob) n2.2 hm
      refine ⟨fun o' => (b, ob b) :: g o', .tail e h1, fun o' => .tail e (h2 o'), fun o' => ?_⟩
      show (b, ob b) :: g o' = (b, if b = a then o' else ob b) :: _
      rw [if_neg e, h3]
section
variable {c : Cx} {lo : Lo} {nw : Nw}
theorem adr_map {nw : Nw} {ob : Addr → Obj} : nw.map (fun e => (e.1, ob e.1)) = (adr nw).map fun b => (b, ob b) := by unfold adr; rw [List.map_map]; rfl
theorem St.upd {s : Shared} {i : Nat} {a : Addr} {P : AO} (hs : St c lo nw s) (hi : nth nw i = some (a, P)) : ∃ m ns o g, Fr c.V.h₀ c.V.L s.heap m ∧ News c.V.h₀ c.V.L s.heap ns ∧ P o ∧ (a, o) ∈ ns ∧ UpdF a o ns g ∧ (∀ o', Upd a o o' ns (g o')) ∧
    ∀ h' tk o' (P' : AO), Fr c.V.h₀ c.V.L h' m → News c.V.h₀ c.V.L h' (g o') → P' o' → St c lo (put nw i (a, P')) { s with heap := h', toks := tk } := by
  obtain ⟨h, tk0, m, ob, rfl, F, l, N, oo, nd⟩ := hs
  have ha : a ∈ adr nw := List.mem_map_of_mem (f := (·.1)) (nth_mem hi)
  obtain ⟨g, h1, h2, h3⟩ := updF_adr (ob := ob) nd ha
  rw [adr_map] at N
  refine ⟨m, _, ob a, g, F, N, oo _ (nth_mem hi), List.mem_map.mpr ⟨a, ha, rfl⟩, h1, h2, fun h' tk o' P' F' N' p => ⟨h', tk, m, fun b => if b = a then o' else ob b, rfl, F', l, ?_, fun q hq => ?_, by rw [adr_put hi]; exact nd⟩⟩
  · rw [adr_map (ob := fun b => if b = a then o' else ob b), adr_put hi, ← h3]
    exact N'
  · rcases put_mem hi nd q hq with rfl | ⟨hx, hne⟩
    · show P' (if a = a then o' else ob a)
      rw [if_pos rfl]; exact p
    · show q.2 (if q.1 = a then o' else ob q.1)
      rw [if_neg hne]; exact oo q hx
theorem In.news {s : Shared} {a : Addr} {P : AO} (h : In c nw a P) (hs : St c lo nw s) : ∃ h₀' o, News h₀' c.V.L s.heap [(a, o)] ∧ P o := by
  rcases h with ⟨P', h, k⟩ | ⟨o, h, p⟩
  · obtain ⟨o, e, p, r⟩ := hs.has h
    exact ⟨c.V.h₀, o, fun q hq => by rw [List.mem_singleton.mp hq]; exact ⟨e, r⟩, k o p⟩
  · have hb := hs.base h
    obtain ⟨hh, tk0, m, ob, rfl, F, l, N, oo, nd⟩ := hs
    have hL : a ≠ c.V.L := fun z => by
      rw [z] at h
      exact absurd (Heap.lt_size h) (Nat.not_lt.mpr F.above)
    exact ⟨{}, o, fun q hq => by rw [List.mem_singleton.mp hq]; exact ⟨hb, hL, rfl⟩, p⟩
noncomputable def Tv (c : Cx) (lo : Lo) (nw : Nw) (e : Expr) (b : Bool) : Prop := Ev c lo nw (PySem.isTrue e c.env (eval e c.env)) (fun v => v = b)
noncomputable def TK (c : Cx) (lo : Lo) (nw : Nw) (e : Expr) (K : Bool → Nw → Prop) : Prop :=
  ∀ s, St c lo nw s → ∀ (Q : Bool → Shared → Prop), (∀ b nw' s', K b nw' → St c lo nw' s' → Q b s') → wpAny c.M c.A (PySem.isTrue e c.env (eval e c.env)) Q c.V.E s
noncomputable def CpI (w : World) (op : CmpOp) (x y : Int) (b : Bool) : Prop := ∀ (A : Around) (s : Shared) (t u : Tok) (Q : Value → Shared → Prop) (E : Value → Shared → Prop), Q (.bool b) s → wpAny (model PySem.Challenge.rw_pb0114_01.row.prog w) A (compareOp op (.int x t) (.int y u)) Q E s
theorem CpI.lt {w : World} {x y : Int} : CpI w .Lt x y (decide (x < y)) := fun _ _ _ _ _ _ q => lt_int q
theorem CpI.gt {w : World} {x y : Int} : CpI w .Gt x y (decide (y < x)) := fun _ _ _ _ _ _ q => gt_int q
theorem CpI.ge {w : World} {x y : Int} : CpI w .GtE x y (decide (y ≤ x)) := fun _ _ _ _ _ _ q => ge_int q
theorem CpI.eq {w : World} {x y : Int} : CpI w .Eq x y (decide (x = y)) := fun _ _ _ _ _ _ q => eq_int (by rw [show (x == y) = decide (x = y) by by_cases h : x = y <;> simp [h]]; exact q)
theorem CpI.ne {w : World} {x y : Int} : CpI w .NotEq x y (decide (x ≠ y)) := fun _ _ _ _ _ _ q => ne_int (by rw [show (x != y) = decide (x ≠ y) by by_cases h : x = y <;> simp [h]]; exact q)
theorem Tv.cmp {a b : Expr} {op : CmpOp} {pos : Pos} {x y : Int} {r : Bool} (ha : EE c lo nw a (It x)) (hb : EE c lo nw b (It y)) (ho : CpI c.V.w op x y r) (hm : autoParam (behindInMarks op b = false) Mine.aW) : Tv c lo nw (.Compare a [op] [b] pos) r := fun s hs Q E q =>
  wpAny_isTrue_Compare1 (ha s hs _ _ fun _ s1 ⟨t, e⟩ hs1 => hb s1 hs1 _ _ fun _ s2 ⟨u, e'⟩ hs2 => by subst e; subst e'; exact ho _ _ _ _ _ _ (wpAny_truthy_bool (q _ _ rfl hs2))) hm
theorem Tv.plain {e : Expr} {b : Bool} (h : EE c lo nw e (Is (.bool b))) (he : autoParam (PySem.isTrue e c.env (eval e c.env) = (do let v ← eval e c.env; standAt e.pos; holding [v] (truthy v))) Mine.aR) : Tv c lo nw e b := fun s hs Q E q =>
  isTrue_plain (h s hs _ _ fun v s1 hv hs1 => by cases hv; exact wpAny_truthy_bool (q _ _ rfl hs1)) he
theorem Tv.or {a : Expr} {rest : List Expr} {pos : Pos} {x y : Bool} (ha : Tv c lo nw a x) (hb : x = false → Tv c lo nw (.BoolOp .Or rest pos) y) : Tv c lo nw (.BoolOp .Or (a :: rest) pos) (x || y) := fun s hs Q E q =>
  isTrue_or (ha s hs _ _ fun v s1 hv hs1 => by
    subst hv
    cases v
    · exact hb rfl s1 hs1 Q E q
    · exact q _ _ rfl hs1)
theorem Tv.orN {pos : Pos} : Tv c lo nw (.BoolOp .Or [] pos) false := fun s hs Q E q => isTrue_or_nil (q _ _ rfl hs)
theorem TK.of {e : Expr} {b : Bool} {K : Bool → Nw → Prop} (h : Tv c lo nw e b) (k : K b nw) : TK c lo nw e K := fun s hs Q q => h s hs Q _ fun v s' hv hs' => q _ _ _ (hv ▸ k) hs'
theorem EE.ite {t a b : Expr} {pos : Pos} {r : Bool} {P : AV} (ht : Tv c lo nw t r) (h1 : r = true → EE c lo nw a P) (h2 : r = false → EE c lo nw b P) : EE c lo nw (.IfExp t a b pos) P := fun s hs Q E q =>
  IfExp_ (ht s hs _ _ fun v s1 hv hs1 => by
    subst hv
    cases v
    · exact h2 rfl s1 hs1 Q E q
    · exact h1 rfl s1 hs1 Q E q)
variable {rest : List Stmt} {R : Fl → Lo → Nw → Prop}
theorem thn_q {b : Bool} {Q : Flow → Shared → Prop} (hb : c.S.b = b) (q : ∀ fl lo' nw' f s', R fl lo' nw' → fl.is f → St c lo' nw' s' → Q f s') : ∀ fl lo' nw' f s', thn c rest R fl lo' nw' → fl.is f → St c lo' nw' s' → nextOr (wpM b c.M c.A (execs rest c.env) Q c.V.E) Q f s' := fun fl lo' nw' f s' h hf hs' => by
  subst hb
  cases fl with
  | next => cases hf; exact h s' hs' Q q
  | cont => cases hf; exact q _ _ _ _ _ h rfl hs'
  | brk => cases hf; exact q _ _ _ _ _ h rfl hs'
  | ret P => obtain ⟨v, rfl, hv⟩ := hf; exact q _ _ _ _ _ h ⟨v, rfl, hv⟩ hs'
theorem Ex.nil (h : R .next lo nw) : Ex c lo nw [] R := fun s hs Q q => wpM_execs_nil (q _ _ _ _ _ h rfl hs)
noncomputable def SK (c : Cx) (lo : Lo) (nw : Nw) (st : Stmt) (K : Lo → Nw → Prop) : Prop := ∀ s, St c lo nw s → ∀ (Q : Flow → Shared → Prop), (∀ lo' nw' s', K lo' nw' → St c lo' nw' s' → Q .next s') → wpAny c.M c.A (exec st c.env) Q c.V.E s
theorem Ex.sk {st : Stmt} (h : SK c lo nw st fun lo' nw' => Ex c lo' nw' rest R) : Ex c lo nw (st :: rest) R := fun s hs Q q => wpM_execs_any (h s hs _ fun lo' nw' s' k hs' => k s' hs' Q q)
theorem Ex.ifB {test : Expr} {body orelse : List Stmt} {pos : Pos} {b : Bool} (ht : Tv c lo nw test b) (h1 : b = true → Ex c lo nw body (thn c rest R)) (h2 : b = false → Ex c lo nw orelse (thn c rest R)) : Ex c lo nw (.If test body orelse pos :: rest) R := fun s hs Q q =>
  wpM_execs_cons (wpM_If (ht s hs _ _ fun v s1 hv hs1 => by
    subst hv
    cases v
    · exact h2 rfl s1 hs1 _ (thn_q rfl q)
    · exact h1 rfl s1 hs1 _ (thn_q rfl q)))
theorem Ex.ifD {test : Expr} {body orelse : List Stmt} {pos : Pos} {p : Prop} [Decidable p] (ht : Tv c lo nw test (decide p)) (h1 : p → Ex c lo nw body (thn c rest R)) (h2 : ¬p → Ex c lo nw orelse (thn c rest R)) : Ex c lo nw (.If test body orelse pos :: rest) R :=
  Ex.ifB ht (fun e => h1 (of_decide_eq_true e)) fun e => h2 (of_decide_eq_false e)
theorem Ex.if1 {test : Expr} {body : List Stmt} {pos : Pos} {p : Prop} [Decidable p] (ht : Tv c lo nw test (decide p)) (h1 : p → Ex c lo nw body (thn c rest R)) (h2 : ¬p → Ex c lo nw rest R) : Ex c lo nw (.If test body [] pos :: rest) R :=
  Ex.ifD ht h1 fun h => Ex.nil (R := thn c rest R) (h2 h)
theorem Ex.ret {e : Expr} {pos : Pos} (h : EK c lo nw e fun P nw1 => R (.ret P) lo nw1) : Ex c lo nw (.Return (some e) pos :: rest) R := fun s hs Q q => wpM_execs_any (wpAny_Return_some (h s hs _ fun P nw' v s' k hP hs' => q _ _ _ _ _ k ⟨v, rfl, hP⟩ hs'))
theorem Ex.ret0 {pos : Pos} (h : R (.ret (Is .none)) lo nw) : Ex c lo nw (.Return none pos :: rest) R := fun s hs Q q => wpM_execs_any (wpAny_Return_none (q _ _ _ _ _ h ⟨_, rfl, rfl⟩ hs))
theorem Ex.expr {e : Expr} {pos : Pos} (h : EK c lo nw e fun _ nw1 => Ex c lo nw1 rest R) (hi : autoParam (interactive c.env = false) Mine.aR) (hw : autoParam (swapsWith e none pos.line c.env = pure false) Mine.aR) : Ex c lo nw (.Expr e pos :: rest) R :=
  Ex.sk fun s hs Q q => wpAny_Expr_any (h s hs _ fun P nw' v s' k hP hs' => q _ _ _ k hs') hi hw
theorem stK (ok : Ok c) {i : Nat} {x : Str} {v : Value} {P : AV} {s : Shared} {Q : Unit → Shared → Prop} {E : Value → Shared → Prop} (hs : St c lo nw s) (hn : nth c.S.nm i = some x) (hP : P v) (q : ∀ s', St c (put lo i (some P)) nw s' → Q () s') : wpAny c.M c.A (storeName c.env x v) Q E s := by
  obtain ⟨h, tk0, m, ob, rfl, F, l, N, oo, nd⟩ := hs
  exact storeX_L F N (fun h' F' N' => q _ ⟨h', _, _, ob, rfl, F', ⟨l.1.store ok.nd hn hP, ok.mf _⟩, N', oo, nd⟩) ok.fn (ok.lk x (nth_mem hn)).1
theorem Ex.asg (ok : Ok c) {i : Nat} {x : Str} {e : Expr} {p pos : Pos} (hn : nth c.S.nm i = some x) (h : EK c lo nw e fun P nw1 => Ex c (put lo i (some P)) nw1 rest R) (hw : autoParam (swapsWith e (some (.Name x p)) pos.line c.env = pure false) Mine.aR) : Ex c lo nw (.Assign [.Name x p] e pos :: rest) R :=
  Ex.sk fun s hs Q q => wpAny_Assign_Name (h s hs _ fun P nw' v s' k hP hs' => stK ok hs' hn hP fun s'' hs'' => q _ _ _ k hs'') hw
noncomputable def puts : Lo → List Nat → List AV → Lo
  | lo, i :: is, P :: Ps => puts (put lo i (some P)) is Ps
  | lo, _, _ => lo
theorem names_in (ok : Ok c) {Q : Unit → Shared → Prop} {E : Value → Shared → Prop} (xs : List Str) : ∀ {is : List Nat} {Ps : List AV} {vs : List Value} {lo : Lo} {s : Shared}, St c lo nw s → is.map (nth c.S.nm) = xs.map some → AllV Ps vs → vs.length = xs.length → (∀ s', St c (puts lo is Ps) nw s' → Q () s') →
    wpAny c.M c.A (assignInOrder (xs.map fun n => bindName c.env n) vs) Q E s := by
  induction xs with
  | nil =>
    intro is Ps vs lo s hs hi hP hl q
    cases vs with
    | cons v vs => cases hl
    | nil =>
      cases hP
      cases is <;> exact wpAny_pure (q _ hs)
  | cons x xs ih =>
    intro is Ps vs lo s hs hi hP hl q
    cases is with
    | nil => cases hi
    | cons i is =>
      cases hP with
      | nil => cases hl
      | cons hP hPs =>
        have hx' := List.cons.inj hi
        exact assignInOrder_cons (bindName_ (stK ok hs hx'.1 hP fun s' hs' => ih hs' hx'.2 hPs (Nat.succ.inj hl) q))
theorem AllV.length : ∀ {Ps : List AV} {vs : List Value}, AllV Ps vs → Ps.length = vs.length
  | _, _, .nil => rfl
  | _, _, .cons _ h => congrArg Nat.succ h.length
theorem AllV.append : ∀ {Ps Qs : List AV} {vs ws : List Value}, AllV Ps vs → AllV Qs ws → AllV (Ps ++ Qs) (vs ++ ws)
  | _, _, _, _, .nil, h => h
  | _, _, _, _, .cons h hs, k => .cons h (hs.append k)
theorem AllV.reverse {Ps : List AV} {vs : List Value} (h : AllV Ps vs) : AllV Ps.reverse vs.reverse := by
  induction h with
  | nil => exact .nil
  | cons h _ ih => rw [List.reverse_cons, List.reverse_cons]; exact ih.append (.cons h .nil)
theorem Ex.tup (ok : Ok c) {elts es : List Expr} {k k' : Nat} {tpos vpos pos : Pos} {names : List Str} (is : List Nat) (hi : is.map (nth c.S.nm) = names.reverse.map some)
    (h : EvA c lo nw vpos es fun Ps nw1 => Ps.length = names.length ∧ Ps.length ≤ 1000 ∧ Ex c (puts lo is Ps.reverse) nw1 rest R)
    (hs' : autoParam (swapsWithSole [.Tuple elts k tpos] (.Tuple es k' vpos) pos.line c.env = pure false) Mine.aR) (hw : autoParam (swappedStores [.Tuple elts k tpos] (.Tuple es k' vpos) c.env = pure (some names)) Mine.aR) : Ex c lo nw (.Assign [.Tuple elts k tpos] (.Tuple es k' vpos) pos :: rest) R :=
  Ex.sk fun s hs Q q => Assign_Tuple_swapped (Tuple_ (h s hs _ fun Ps nw1 vs s1 ⟨hl, hm, kk⟩ hPs hs1 => by
    obtain ⟨m, ns, F, N, k1, k2⟩ := hs1.opn
    have hlen := hPs.length
    refine kup_newTuple F N (fun D h' F' N' lt => ?_) (by rw [sizeLine_eq]; lia)
    refine unpackItemsN_ F' N' (News.isTup N' (.head _)) rfl (by rw [List.size_toArray, ← hlen, hl]) fun h'' F'' N'' => ?_
    have hs2 := k1 h'' s1.toks F'' (fun p hp => N'' p (.tail _ hp))
    exact names_in ok names.reverse hs2 hi hPs.reverse (by simp; lia) fun s' hs' => q _ _ _ kk hs')) hs' hw
noncomputable def DctP (w : World) (ks : List Str) (Ps : List AV) : AO := fun o => ∃ vs, o.IsDictOf (strKind PySem.Challenge.rw_pb0114_01.row.prog w) (ks.zip vs) ∧ AllV Ps vs ∧ ks.length = vs.length
theorem AllV.nth : ∀ {Ps : List AV} {vs : List Value} {i : Nat} {P : AV}, AllV Ps vs → nth Ps i = some P → ∃ v, Mine.nth vs i = some v ∧ P v
  | _, _, 0, _, .cons h _, e => by cases e; exact ⟨_, rfl, h⟩
  | _, _, i + 1, _, .cons _ h, e => h.nth (i := i) e
theorem AllV.put : ∀ {Ps : List AV} {vs : List Value} {i : Nat} {P : AV} {v : Value}, AllV Ps vs → P v → AllV (put Ps i P) (Mine.put vs i v)
  | _, _, _, _, _, .nil, _ => .nil
  | _, _, 0, _, _, .cons _ h, p => .cons p h
  | _, _, i + 1, _, _, .cons h hs, p => .cons h (hs.put (i := i) p)
theorem zip_keys : ∀ {ks : List Str} {vs : List Value}, ks.length = vs.length → (ks.zip vs).map (·.1) = ks
  | [], [], _ => rfl
  | k :: ks, v :: vs, h => by rw [List.zip_cons_cons, List.map_cons, zip_keys (Nat.succ.inj h)]
theorem valueAt_zip : ∀ {ks : List Str} {vs : List Value} {i : Nat} {k : Str} {v : Value}, ks.Nodup → nth ks i = some k → nth vs i = some v → valueAt (ks.zip vs) k = some v
  | k :: ks, v :: vs, 0, _, _, _, h, h' => by cases h; cases h'; unfold valueAt; rw [List.zip_cons_cons, List.find?_cons_of_pos (by simp)]; rfl
  | k :: ks, v :: vs, i + 1, k', v', n, h, h' => by
    have n2 := List.nodup_cons.mp n
    have : k ≠ k' := fun q => n2.1 (q ▸ nth_mem (l := ks) (i := i) h)
    unfold valueAt
    rw [List.zip_cons_cons, List.find?_cons_of_neg (by simpa using this)]
    exact valueAt_zip (i := i) n2.2 h h'
theorem stored_zip : ∀ {ks : List Str} {vs : List Value} {i : Nat} {k : Str} {v : Value}, ks.Nodup → ks.length = vs.length → nth ks i = some k → stored (ks.zip vs) k v = ks.zip (put vs i v) := by
  intro ks vs i k v n l h
  have hm : (ks.zip vs).any (fun kv => decide (kv.1 = k)) = true := by
    rw [List.any_eq_true]
    have := nth_mem h
    rw [← zip_keys l] at this
    obtain ⟨x, hx, e⟩ := List.mem_map.mp this
    exact ⟨x, hx, by simpa using e⟩
  unfold stored
  rw [if_pos hm]
  clear hm
  induction ks generalizing vs i with
  | nil => cases h
  | cons a ks ih =>
    cases vs with
    | nil => cases l
    | cons b vs =>
      have n2 := List.nodup_cons.mp n
      cases i with
      | zero =>
        obtain rfl : a = k := Option.some.inj h
        rw [List.zip_cons_cons, List.map_cons, if_pos rfl]
        show _ = (a, v) :: ks.zip vs
        refine congrArg _ ?_
        have : ∀ x ∈ ks.zip vs, (if x.1 = a then (x.1, v) else x) = x := fun x hx => if_neg fun q => n2.1 (by rw [← q]; exact (zip_keys (Nat.succ.inj l)) ▸ List.mem_map_of_mem (f := (·.1)) hx)
        exact (List.map_congr_left this).trans (List.map_id' _)
      | succ i =>
        have : a ≠ k := fun q => n2.1 (q ▸ nth_mem (l := ks) (i := i) h)
        rw [List.zip_cons_cons, List.map_cons, if_neg this]
        show (a, b) :: _ = (a, b) :: ks.zip (put vs i v)
        rw [ih n2.2 (Nat.succ.inj l) h]
theorem EE.ditem {o : Expr} {pos spos : Pos} {k : Nat} {d : Addr} {x : Str} {ks : List Str} {Ps : List AV} {P : AV} (j : Nat) (ho : EE c lo nw o (Is (.ref d))) (hi : In c nw d (DctP c.V.w ks Ps)) (hk : nth ks j = some x) (hP : nth Ps j = some P)
    (h1 : ∀ t, subscripted (.Constant (.str x) k spos) false (.ref d) (.str x t) = operate [.ref d, .str x t] (getItem (.ref d) (.str x t)) := by intro t; with_unfolding_all rfl) (h2 : autoParam (∀ r, letTemporaryGo o (.ref d) r = pure ()) Mine.aW1) :
    EE c lo nw (.Subscript o (.Constant (.str x) k spos) pos) P := fun s hs Q E q =>
  Subscript_ (ho s hs _ _ fun v s1 hv hs1 => by
    cases hv
    refine Constant_str ?_
    have hs2 := hs1.tok (tk := s1.toks + 1)
    obtain ⟨h₀', oo, N, vs, hD, hv, hl⟩ := hi.news hs2
    obtain ⟨v, e, hPv⟩ := hv.nth hP
    have nd : ks.Nodup := by
      obtain ⟨_, _, _, _, _, _, nd⟩ := hD
      rwa [zip_keys hl] at nd
    exact kda_item N (.head _) hD (strKind_is _ _ _ _) (valueAt_zip nd hk e) (q _ _ hPv hs2.tok) (h1 _) h2)
theorem Ex.dset {o e : Expr} {p pos spos : Pos} {k : Nat} {d : Addr} {x : Str} {ks : List Str} {Ps : List AV} (i j : Nat) (hk : nth ks j = some x) (hl1 : ks.length ≤ 1000)
    (h : EK c lo nw e fun P nw1 => EE c lo nw1 o (Is (.ref d)) ∧ nth nw1 i = some (d, DctP c.V.w ks Ps) ∧ Ex c lo (put nw1 i (d, DctP c.V.w ks (put Ps j P))) rest R)
    (hw : autoParam (swapsWith e (some (.Subscript o (.Constant (.str x) k spos) p)) pos.line c.env = pure false) Mine.aR) : Ex c lo nw (.Assign [.Subscript o (.Constant (.str x) k spos) p] e pos :: rest) R :=
  Ex.sk fun s hs Q q => wpAny_Assign_Subscript (h s hs _ fun P nw1 v s1 ⟨ho, hi, kk⟩ hP hs1 => ho s1 hs1 _ _ fun ov s2 hov hs2 => by
    cases hov
    refine Constant_str ?_
    have hs3 := hs2.tok (tk := s2.toks + 1)
    obtain ⟨m, ns, oo, g, F, N, ⟨vs, hD, hv, hl⟩, hmem, U, _, fin⟩ := hs3.upd hi
    have nd : ks.Nodup := by
      obtain ⟨_, _, _, _, _, _, nd⟩ := hD
      rwa [zip_keys hl] at nd
    refine kda_set F N U hD (strKind_is _ _ _ _) (by rw [sizeLine_eq]; simp; lia) fun h' o' F' N' hD' => ?_
    rw [stored_zip nd hl hk] at hD'
    have hlp : ∀ (l : List Value) (i : Nat) (v : Value), (put l i v).length = l.length := by
      intro l
      induction l with
      | nil => intro i v; rfl
      | cons a l ih => intro i v; cases i with
        | zero => rfl
        | succ i => exact congrArg Nat.succ (ih i v)
    exact q _ _ _ kk (fin h' _ o' _ F' N' ⟨put vs j v, hD', hv.put hP, by rw [hlp]; exact hl⟩)) hw
end
end Mine
end
section
open PySem PySem.W PySem.Calls PyProof.Rows
set_option maxRecDepth 100000
namespace Mine
section
variable {b : Bool} {prog : Program} {w : World} {A : Around} {E : Value → Shared → Prop} {s : Shared} {env : Env} {target test : Expr} {body : List Stmt} {Q : Flow → Shared → Prop}
theorem wpM_noted {α : Type} {M : Model} {m : Sem α} {Q : α → Shared → Prop} (h : wpM b M A m Q (notedBy M A env E) s) : wpM b M A (m.onRaise fun x => do noteFrame x env; theTreesLotGoes x) Q E s :=
  wpM_onRaise (wpM_mono h (fun _ _ q => q) fun _ _ hx => wpM_any (wpAny_bind (wpAny_mono hx (fun _ _ e => wpAny_theTreesLotGoes e) fun _ _ e => e)))
theorem wpM_holding {α : Type} {M : Model} {vs : List Value} {m : Sem α} {Q : α → Shared → Prop} (h : wpM b M A m Q E s) : wpM b M A (holding vs m) Q E s := by
  cases b
  · exact wpAny_holding h
  · exact wpC_holding h
noncomputable def WhlM (b : Bool) (prog : Program) (w : World) (A : Around) (E : Value → Shared → Prop) (env : Env) (test : Expr) (body : List Stmt) (Q : Flow → Shared → Prop) (s : Shared) : Prop :=
  codeM b (model prog w) A (.whileLoop test body [] env) (LoopR prog w A env Q E) s
noncomputable def ForM (b : Bool) (prog : Program) (w : World) (A : Around) (E : Value → Shared → Prop) (env : Env) (target : Expr) (it : Value) (body : List Stmt) (Q : Flow → Shared → Prop) (s : Shared) : Prop :=
  codeM b (model prog w) A (.forLoop target it body [] env) (LoopR prog w A env Q E) s
theorem whlM_start {pos : Pos} (h : WhlM b prog w A E env test body Q s) : wpM b (model prog w) A (exec (.While test body [] pos) env) Q E s := by
  rw [exec_While]
  refine wpM_bind (wpM_any (wpAny_standAt (wpM_runOwn (codeM_mono h fun r s' x => ?_))))
  cases r <;> exact x
theorem whlM_turn (hE : PassesOwn (model prog w) A env E)
    (h : wpAny (model prog w) A (PySem.isTrue test env (eval test env)) (fun c s₂ => if c then wpM b (model prog w) A (execs body env) (PostC Q (WhlM b prog w A E env test body Q)) E s₂ else Q .next s₂) E s) :
    WhlM b prog w A E env test body Q s := by
  refine codeM_of_tree trivial ?_
  show wpM b _ A ((whileTurn test body [] env).onRaise (fun x => do noteFrame x env; theTreesLotGoes x)) _ _ s
  refine wpM_noted ?_
  unfold whileTurn
  refine wpM_bind (wpM_any (wpAny_mono h (fun c s₂ h₂ => ?_) hE))
  cases c with
  | false =>
    rw [if_neg Bool.false_ne_true] at h₂ ⊢
    exact wpM_bind (wpM_any (wpAny_execs_nil (wpM_pure h₂)))
  | true =>
    rw [if_pos rfl] at h₂ ⊢
    refine wpM_bind (wpM_mono h₂ (fun f s₃ h₄ => ?_) hE)
    cases f with
    | next => exact wpM_pure ⟨rfl, h₄⟩
    | cont => exact wpM_pure ⟨rfl, h₄⟩
    | brk => exact wpM_pure h₄
    | ret v => exact wpM_pure h₄
theorem forM_turn {it : Value} (hE : PassesOwn (model prog w) A env E)
    (h : wpAny (model prog w) A (pyNext it) (fun r s₁ => match r with
      | none => Q .next s₁
      | some v => wpAny (model prog w) A (letOwnedTupleGo target it v) (fun _ s₂ => wpAny (model prog w) A (assign target env v) (fun _ s₃ => wpM b (model prog w) A (execs body env) (PostC Q (ForM b prog w A E env target it body Q)) E s₃) E s₂) E s₁) E s) :
    ForM b prog w A E env target it body Q s := by
  refine codeM_of_tree trivial ?_
  show wpM b _ A ((forTurn target it body [] env).onRaise (fun x => do noteFrame x env; theTreesLotGoes x)) _ _ s
  refine wpM_noted ?_
  unfold forTurn
  refine wpM_bind (wpM_any (wpAny_standAt (wpM_bind (wpM_onRaise (wpM_any (wpAny_mono h (fun r s₁ h₁ => ?_) fun e s' h' => wpM_any (wpAny_standAt (hE e s' h')))))))) 
  cases r with
  | none => exact wpM_pure ⟨rfl, codeM_any (codeAny_block (wpAny_execs_nil h₁))⟩
  | some v =>
    refine wpM_bind (wpM_any (wpAny_mono h₁ (fun _ s₂ h₂ => ?_) hE))
    refine wpM_bind (wpM_any (wpAny_mono h₂ (fun _ s₃ h₃ => wpM_bind (wpM_mono h₃ (fun f s₄ h₄ => ?_) hE)) hE))
    cases f with
    | next => exact wpM_pure ⟨rfl, h₄⟩
    | cont => exact wpM_pure ⟨rfl, h₄⟩
    | brk => exact wpM_pure h₄
    | ret v => exact wpM_pure h₄
theorem wpM_For {iter : Expr} {pos : Pos} (h : wpAny (model prog w) A (eval iter env) (fun x s₁ => wpAny (model prog w) A (pyIter x) (fun it s₂ => ForM b prog w A E env target it body Q s₂) E s₁) E s)
    (hs : autoParam (∀ x, foldedSetIterable iter env x = pure x) Mine.aIr) : wpM b (model prog w) A (exec (.For target iter body [] pos) env) Q E s := by
  rw [exec_For]
  refine wpM_bind (wpM_any (wpAny_standAt (wpM_bind (wpM_any (wpAny_mono h (fun x s₁ h₁ => wpM_bind (wpM_any (wpAny_of_eq (hs x) (wpM_bind (wpM_any (wpAny_standAt (wpM_bind (wpM_holding (wpM_any (wpAny_mono h₁ (fun it s₂ h₂ => wpM_runOwn (codeM_mono h₂ fun r s' x => ?_)) fun _ _ h' => h')))))))))) fun _ _ h' => h')))))
  cases r <;> exact x
end
noncomputable def Eo (o : Obj) : AO := fun o' => o' = o
noncomputable def Sel (nw nw2 : Nw) : Prop := ∃ (is : List Nat) (k : Nat), is.Nodup ∧ (∀ i ∈ is, i < k) ∧ is.filterMap (nth nw) ++ nw.drop k = nw2
theorem nth_drop {α : Type} : ∀ {l : List α} {k : Nat} {x : α}, x ∈ l.drop k → ∃ i, k ≤ i ∧ nth l i = some x
  | [], k, x, h => by simp at h
  | a :: l, 0, x, h => by
    rcases List.mem_cons.mp h with rfl | h
    · exact ⟨0, Nat.le_refl _, rfl⟩
    · obtain ⟨i, _, e⟩ := nth_drop (l := l) (k := 0) h
      exact ⟨i + 1, Nat.zero_le _, e⟩
  | a :: l, k + 1, x, h => by
    obtain ⟨i, hk, e⟩ := nth_drop (l := l) (k := k) h
    exact ⟨i + 1, Nat.succ_le_succ hk, e⟩
theorem nth_map {α β : Type} {f : α → β} : ∀ {l : List α} {i : Nat} {x : α}, nth l i = some x → nth (l.map f) i = some (f x)
  | [], _, _, h => nomatch h
  | _ :: _, 0, _, h => by cases h; rfl
  | _ :: l, i + 1, _, h => nth_map (l := l) (i := i) h
theorem adr_inj {nw : Nw} {i j : Nat} {a : Addr} {P P' : AO} (nd : (adr nw).Nodup) (h : nth nw i = some (a, P)) (h' : nth nw j = some (a, P')) : i = j := nth_inj (x := a) nd (nth_map (f := fun e : Addr × AO => e.1) h) (nth_map (f := fun e : Addr × AO => e.1) h')
theorem nodup_app {α : Type} {l l' : List α} (h1 : l.Nodup) (h2 : l'.Nodup) (h : ∀ a ∈ l, a ∉ l') : (l ++ l').Nodup := List.nodup_append.mpr ⟨h1, h2, fun a ha b hb e => h a ha (e ▸ hb)⟩
theorem Sel.mem {nw nw2 : Nw} (h : Sel nw nw2) {e : Addr × AO} (he : e ∈ nw2) : e ∈ nw := by
  obtain ⟨is, k, _, _, rfl⟩ := h
  rcases List.mem_append.mp he with h | h
  · obtain ⟨i, _, e⟩ := List.mem_filterMap.mp h
    exact nth_mem e
  · exact List.mem_of_mem_drop h
theorem nodup_fm {nw : Nw} (nd : (adr nw).Nodup) : ∀ {is : List Nat}, is.Nodup → (adr (is.filterMap (nth nw))).Nodup
  | [], _ => List.nodup_nil
  | i :: is, n => by
    have n2 := List.nodup_cons.mp n
    rw [List.filterMap_cons]
    cases q : nth nw i with
    | none => exact nodup_fm nd n2.2
    | some x =>
      refine List.nodup_cons.mpr ⟨fun hm => ?_, nodup_fm nd n2.2⟩
      obtain ⟨y, hy, e⟩ := List.mem_map.mp hm
      obtain ⟨j, hj, ej⟩ := List.mem_filterMap.mp hy
      obtain ⟨a, P⟩ := x
      obtain ⟨a', P'⟩ := y
      cases e
      exact n2.1 ((adr_inj nd q ej) ▸ hj)
theorem Sel.nodup {nw nw2 : Nw} (h : Sel nw nw2) (nd : (adr nw).Nodup) : (adr nw2).Nodup := by
  obtain ⟨is, k, n, hk, rfl⟩ := h
  unfold adr
  rw [List.map_append]
  refine nodup_app (nodup_fm nd n) ?_ fun a ha hb => ?_
  · rw [List.map_drop]; exact List.Nodup.sublist (List.drop_sublist _ _) nd
  · obtain ⟨⟨_, P⟩, hx, rfl⟩ := List.mem_map.mp ha
    obtain ⟨⟨_, P'⟩, hy, e⟩ := List.mem_map.mp hb
    cases e
    obtain ⟨i, hi, ei⟩ := List.mem_filterMap.mp hx
    obtain ⟨j, hj, ej⟩ := nth_drop hy
    have := adr_inj nd ei ej
    have := hk i hi
    lia
section
variable {c : Cx} {lo : Lo} {nw : Nw} {rest : List Stmt} {R : Fl → Lo → Nw → Prop}
theorem St.sub {nw2 : Nw} {s : Shared} (hs : St c lo nw s) (hm : ∀ e ∈ nw2, ∃ P, (e.1, P) ∈ nw ∧ ∀ o, P o → e.2 o) (nd : (adr nw2).Nodup) : St c lo nw2 s := by
  obtain ⟨h, tk0, m, ob, rfl, F, l, N, oo, _⟩ := hs
  refine ⟨h, tk0, m, ob, rfl, F, l, fun q hq => ?_, fun e he => ?_, nd⟩
  · obtain ⟨x, hx, rfl⟩ := List.mem_map.mp hq
    obtain ⟨P, hP, _⟩ := hm x hx
    exact N _ (List.mem_map.mpr ⟨_, hP, rfl⟩)
  · obtain ⟨P, hP, k⟩ := hm e he
    exact k _ (oo _ hP)
theorem St.nodup {s : Shared} (hs : St c lo nw s) : (adr nw).Nodup := by
  obtain ⟨h, tk0, m, ob, rfl, F, l, N, oo, nd⟩ := hs
  exact nd
theorem St.sel {nw2 : Nw} {s : Shared} (hs : St c lo nw s) (h : Sel nw nw2) : St c lo nw2 s := hs.sub (fun e he => ⟨e.2, h.mem he, fun _ x => x⟩) (h.nodup hs.nodup)
theorem Ex.sel {l : List Stmt} {nw2 : Nw} (is : List Nat) (k : Nat) (h : Ex c lo nw2 l R) (n : autoParam (is.Nodup) Mine.aD) (hk : autoParam (∀ i ∈ is, i < k) Mine.aD) (e : autoParam (is.filterMap (nth nw) ++ nw.drop k = nw2) Mine.aR) : Ex c lo nw l R := fun s hs Q q => h s (hs.sel ⟨is, k, n, hk, e⟩) Q q
theorem St.exact {a : Addr} {P : AO} {s : Shared} (hs : St c lo ((a, P) :: nw) s) : ∃ o, P o ∧ St c lo ((a, Eo o) :: nw) s := by
  obtain ⟨h, tk0, m, ob, rfl, F, l, N, oo, nd⟩ := hs
  refine ⟨ob a, oo _ (.head _), h, tk0, m, ob, rfl, F, l, N, fun e he => ?_, nd⟩
  rcases List.mem_cons.mp he with rfl | he
  · exact rfl
  · exact oo _ (.tail _ he)
noncomputable def trn (c : Cx) (rest : List Stmt) (R : Fl → Lo → Nw → Prop) (T : Lo → Nw → Prop) : Fl → Lo → Nw → Prop
  | .next, lo, nw => T lo nw
  | .cont, lo, nw => T lo nw
  | .brk, lo, nw => Ex c lo nw rest R
  | .ret P, lo, nw => R (.ret P) lo nw
noncomputable def Tend (nx : Nw) (J : Lo → Nw → Prop) (lo : Lo) (nw : Nw) : Prop := ∃ nw2, Sel nw (nx ++ nw2) ∧ J lo nw2
theorem Ex.tend {nx nw2 : Nw} {J : Lo → Nw → Prop} (is : List Nat) (k : Nat) (hJ : J lo nw2) (n : autoParam (is.Nodup) Mine.aD) (hk : autoParam (∀ i ∈ is, i < k) Mine.aD) (e : autoParam (is.filterMap (nth nw) ++ nw.drop k = nx ++ nw2) Mine.aR) : Ex c lo nw [] (trn c rest R (Tend nx J)) :=
  Ex.nil (R := trn c rest R (Tend nx J)) ⟨nw2, ⟨is, k, n, hk, e⟩, hJ⟩
theorem forW (ok : Ok c) {x : Str} {px : Pos} {ix : Nat} {body : List Stmt} (hn : nth c.S.nm ix = some x) {I : Addr} {fp : List Addr} {n : Nat} {P : Nat → Value → Prop} {Ss : Nat → Heap → Prop} {PP : Nat → AV} (W : Walks PySem.Challenge.rw_pb0114_01.row.prog c.V.w c.A I fp [I] n P Ss) (hPP : ∀ i v, P i v → PP i v) (hI : ∀ i h, Ss i h → ∃ o, h.get? I = some o)
    (nx : Nw) (hfp : ∀ a ∈ fp, a = I ∨ (∃ o, (a, Eo o) ∈ nx) ∨ ∃ o, c.V.h₀.get? a = some o) (J : Nat → Lo → Nw → Prop) {Q : Flow → Shared → Prop}
    (turn : ∀ i lo nw oI, i < n → J i lo nw → Ex c (put lo ix (some (PP i))) ((I, Eo oI) :: nx ++ nw) body (trn c rest R (Tend ((I, Eo oI) :: nx) (J (i + 1)))))
    (done : ∀ lo nw, J n lo nw → Ex c lo (nx ++ nw) rest R) (q : ∀ fl lo' nw' f s', R fl lo' nw' → fl.is f → St c lo' nw' s' → Q f s') :
    ∀ k i lo nw s oI, i + k = n → St c lo ((I, Eo oI) :: nx ++ nw) s → Ss i s.heap → J i lo nw → ForM c.S.b PySem.Challenge.rw_pb0114_01.row.prog c.V.w c.A c.V.E c.env (.Name x px) (.ref I) body (nextOr (wpM c.S.b c.M c.A (execs rest c.env) Q c.V.E) Q) s := by
  intro k
  induction k with
  | zero =>
    intro i lo nw s oI e hs hst hJ
    obtain rfl : i = n := by lia
    refine forM_turn ok.ps (W.done _ _ _ hst fun h' tk' hk => ?_)
    have h1 : ∃ o, h'.get? I = some o ∨ h'.get? I = none := by
      cases z : h'.get? I with
      | none => exact ⟨oI, .inr rfl⟩
      | some o => exact ⟨o, .inl rfl⟩
    have hs2 : St c lo (nx ++ nw) s := hs.sub (fun e he => ⟨e.2, .tail _ he, fun _ x => x⟩) (List.nodup_cons.mp hs.nodup).2
    have hne : ∀ e ∈ nx ++ nw, e.1 ≠ I := fun e he z => (List.nodup_cons.mp hs.nodup).1 (z ▸ List.mem_map_of_mem (f := (·.1)) he)
    have hI2 := hs.has (.head _)
    obtain ⟨h, tk0, m, ob, rfl, F, l, N, oo, nd⟩ := hs2
    have F' : Fr c.V.h₀ c.V.L h' m := ⟨F.ns.at' fun o e => hk _ o (fun z => by obtain ⟨_, _, _, hz, _⟩ := hI2; exact hz (List.mem_singleton.mp z).symm) e, fun b o e => hk b o (fun z => by obtain ⟨_, _, _, _, hz⟩ := hI2; rw [List.mem_singleton.mp z] at e; change c.V.h₀.get? I = none at hz; rw [hz] at e; cases e) (F.keep b o e), F.above⟩
    have hs3 : St c lo (nx ++ nw) { c.V.s₀ with heap := h', toks := tk' } := ⟨h', tk', m, ob, rfl, F', l, fun p hp => by
      obtain ⟨e, he, rfl⟩ := List.mem_map.mp hp
      exact ⟨hk _ _ (fun z => hne e he (List.mem_singleton.mp z)) (N _ hp).1, (N _ hp).2⟩, oo, nd⟩
    exact done _ _ hJ _ hs3 Q q
  | succ k ih =>
    intro i lo nw s oI e hs hst hJ
    refine forM_turn ok.ps (W.item i _ _ _ (by lia) hst fun v h' tk' hP st' hk => ?_)
    obtain ⟨oI', hoI⟩ := hI _ _ st'
    have hs1 := hs.set (P' := Eo oI') (tk := tk') (i := 0) rfl (fun b o e hb => hk b o (fun z => hb (List.mem_singleton.mp z)) e) hoI rfl
    dsimp only
    refine wpAny_of_eq (a := ()) rfl ?_
    refine PyProof.Rows.assign_Name (stK ok hs1 hn (hPP _ _ hP) fun s2 hs2 => ?_)
    have hst2 : Ss (i + 1) s2.heap := W.frame _ _ _ st' fun a ha o e => by
      rcases hfp a ha with rfl | ⟨o', ho'⟩ | ⟨o', ho'⟩
      · obtain ⟨o2, e2, h2, _⟩ := hs2.has (.head _)
        rw [hoI] at e; cases e
        cases h2; exact e2
      · have hm1 : (a, Eo o') ∈ put ((I, Eo oI) :: nx ++ nw) 0 (I, Eo oI') := .tail _ (List.mem_append_left _ ho')
        obtain ⟨o2, e2, h2, _⟩ := hs1.has hm1
        obtain ⟨o3, e3, h3, _⟩ := hs2.has hm1
        cases h2; cases h3
        rw [e] at e2; cases e2
        exact e3
      · have e2 := hs1.base ho'
        rw [e] at e2; cases e2
        exact hs2.base ho'
    refine wpM_mono (turn i lo nw oI' (by lia) hJ s2 hs2 (fun f s' => ∃ fl lo' nw', trn c rest R (Tend ((I, Eo oI') :: nx) (J (i + 1))) fl lo' nw' ∧ fl.is f ∧ St c lo' nw' s') fun fl lo' nw' f s' h1 h2 h3 => ⟨fl, lo', nw', h1, h2, h3⟩) (fun f s4 z => ?_) fun _ _ z => z
    obtain ⟨fl, lo', nw', h1, h2, h3⟩ := z
    have fin : Tend ((I, Eo oI') :: nx) (J (i + 1)) lo' nw' → ForM c.S.b PySem.Challenge.rw_pb0114_01.row.prog c.V.w c.A c.V.E c.env (.Name x px) (.ref I) body (nextOr (wpM c.S.b c.M c.A (execs rest c.env) Q c.V.E) Q) s4 := by
      rintro ⟨nw2, hsel, hJ2⟩
      have hs4 := h3.sel hsel
      refine ih (i + 1) lo' nw2 s4 oI' (by lia) hs4 (W.frame _ _ _ hst2 fun a ha o e => ?_) hJ2
      rcases hfp a ha with rfl | ⟨o', ho'⟩ | ⟨o', ho'⟩
      · obtain ⟨o2, e2, h2, _⟩ := hs2.has (.head _)
        obtain ⟨o3, e3, h3, _⟩ := hs4.has (.head _)
        cases h2; cases h3
        rw [e] at e2; cases e2
        exact e3
      · obtain ⟨o2, e2, h2, _⟩ := hs2.has (e := (a, Eo o')) (.tail _ (List.mem_append_left _ ho'))
        obtain ⟨o3, e3, h3, _⟩ := hs4.has (e := (a, Eo o')) (.tail _ (List.mem_append_left _ ho'))
        cases h2; cases h3
        rw [e] at e2; cases e2
        exact e3
      · have e2 := hs2.base ho'
        rw [e] at e2; cases e2
        exact hs4.base ho'
    cases fl with
    | next => cases h2; exact fin h1
    | cont => cases h2; exact fin h1
    | brk => cases h2; exact h1 s4 h3 Q q
    | ret P => obtain ⟨v', rfl, hv⟩ := h2; exact q _ _ _ _ _ h1 ⟨v', rfl, hv⟩ h3
end
end Mine
end
section
open PySem PySem.W PySem.Calls PyProof.Rows
set_option maxRecDepth 100000
namespace Mine
noncomputable def Lp (c : Cx) (ix : Nat) (body rest : List Stmt) (R : Fl → Lo → Nw → Prop) (PP : Nat → AV) (n : Nat) (nx : Nw) (lo : Lo) (nw : Nw) : Prop := ∃ J : Nat → Lo → Nw → Prop, J 0 lo nw ∧
  (∀ I oI i lo nw, i < n → J i lo nw → Ex c (put lo ix (some (PP i))) ((I, Eo oI) :: nx ++ nw) body (trn c rest R (Tend ((I, Eo oI) :: nx) (J (i + 1))))) ∧ ∀ lo nw, J n lo nw → Ex c lo (nx ++ nw) rest R
section
variable {c : Cx} {lo : Lo} {nw : Nw} {rest : List Stmt} {R : Fl → Lo → Nw → Prop}
theorem lp_range (ok : Ok c) {x : Str} {px : Pos} {ix : Nat} {body : List Stmt} (hn : nth c.S.nm ix = some x) {r : Addr} {a b : Int} {t u v : Tok} {s : Shared} {Q : Flow → Shared → Prop} {E : Value → Shared → Prop} (hs : St c lo nw s) (hr : IsRange s.heap r a b 1 t u v) (ha : -(2 ^ 62) ≤ a ∧ a < 2 ^ 62) (hb : -(2 ^ 62) ≤ b ∧ b < 2 ^ 62)
    (L : Lp c ix body rest R (fun i => It (a + i)) (b - a).toNat [] lo nw) (q : ∀ fl lo' nw' f s', R fl lo' nw' → fl.is f → St c lo' nw' s' → Q f s') :
    wpAny c.M c.A (pyIter (.ref r)) (fun it s₂ => ForM c.S.b PySem.Challenge.rw_pb0114_01.row.prog c.V.w c.A c.V.E c.env (.Name x px) it body (nextOr (wpM c.S.b c.M c.A (execs rest c.env) Q c.V.E) Q) s₂) E s := by
  refine wpAny_pyIter_range hr (small_one ha.1 ha.2 hb.1 hb.2) ?_
  have hn' : Builtin.Range.rangeSize a b 1 = (((b - a).toNat : Nat) : Int) := rangeSize_nat _ _
  obtain ⟨J, hJ, turn, done⟩ := L
  have W := Walks.range (prog := PySem.Challenge.rw_pb0114_01.row.prog) (w := c.V.w) (A := c.A) rfl s.heap.objs.size a 1 (b - a).toNat
  have hnone : s.heap.get? s.heap.objs.size = none := by
    cases q : s.heap.get? s.heap.objs.size with
    | none => rfl
    | some o => exact absurd (Heap.lt_size q) (Nat.lt_irrefl _)
  have hs1 := hs.new (o := ({ cls := .type "range_iterator", data := .fields #[rawInt a, rawInt (Builtin.Range.rangeSize a b 1), rawInt 1] } : Obj)) (P := Eo ({ cls := .type "range_iterator", data := .fields #[rawInt a, rawInt (Builtin.Range.rangeSize a b 1), rawInt 1] } : Obj)) (tk := s.toks) (h' := Heap.push s.heap ({ cls := .type "range_iterator", data := .fields #[rawInt a, rawInt (Builtin.Range.rangeSize a b 1), rawInt 1] } : Obj)) (fun b o e => Heap.get?_push_of_some _ e) hnone (Heap.get?_push_size _ rfl) rfl
  refine forW ok hn W (PP := fun i => It (a + i)) (fun i v ⟨t, e⟩ => ⟨t, by rw [e, Int.mul_one]⟩) (fun i h st => ⟨_, st⟩) [] (fun a ha => .inl (List.mem_singleton.mp ha)) J (fun i lo nw oI hi hJ => turn _ oI i lo nw hi hJ) done q (b - a).toNat 0 lo nw _ _ (Nat.zero_add _) hs1 ?_ hJ
  show IsRangeIter _ _ _ _ _
  rw [hn']
  simpa using Heap.get?_push_size s.heap rfl
theorem Ex.forR1 (ok : Ok c) {x rn : Str} {px rp cp pos : Pos} {ix : Nat} {e : Expr} {body : List Stmt} (hn : nth c.S.nm ix = some x) (hr : EE c lo nw (.Name rn rp) (Is (.type "range")))
    (h : EK c lo nw e fun P nw1 => ∃ n : Int, P = It n ∧ (-(2 ^ 62) ≤ n ∧ n < 2 ^ 62) ∧ Lp c ix body rest R (fun i => It (0 + i)) (n - 0).toNat [] lo nw1)
    (he : autoParam (starEach [e] c.env = (false, eval e c.env) :: starEach [] c.env) Mine.aR)
    (hc : autoParam (eval (.Call (.Name rn rp) [e] [] cp) c.env = (do callWith cp (← eval (.Name rn rp) c.env) [] (backTo cp (starEach [e] c.env)) (backToKw cp (keywordEach [] c.env)))) Mine.aR) (hf : autoParam (∀ x, foldedSetIterable (.Call (.Name rn rp) [e] [] cp) c.env x = pure x) Mine.aIr) :
    Ex c lo nw (.For (.Name x px) (.Call (.Name rn rp) [e] [] cp) body [] pos :: rest) R := fun s hs Q q =>
  wpM_execs_cons (wpM_For (by
    refine Call_ (hr s hs _ _ fun v s1 hv hs1 => ?_) hc
    cases hv
    refine PySem.Pv.callWith_type1 (args_cons (h s1 hs1 _ fun P nw1 v s2 ⟨n, e, hb, L⟩ hP hs2 => ?_) he) he rfl
    subst e
    obtain ⟨t, rfl⟩ := hP
    refine args_nil ?_
    obtain ⟨m, ns, F, N, k1, k2⟩ := hs2.opn
    refine range1_rows F N fun h' tk t1 u1 v1 hr F' N' kall => ?_
    exact lp_range ok hn (s := { s2 with heap := h', toks := tk }) (hs2.grow kall) hr ⟨by decide, by decide⟩ hb L q) hf)
theorem Ex.forR2 (ok : Ok c) {x rn : Str} {px rp cp pos : Pos} {ix : Nat} {e1 e2 : Expr} {body : List Stmt} (hn : nth c.S.nm ix = some x) (hr : EE c lo nw (.Name rn rp) (Is (.type "range"))) {a b : Int}
    (h1 : EE c lo nw e1 (It a)) (h2 : EE c lo nw e2 (It b)) (ha : -(2 ^ 62) ≤ a ∧ a < 2 ^ 62) (hb : -(2 ^ 62) ≤ b ∧ b < 2 ^ 62) (L : Lp c ix body rest R (fun i => It (a + i)) (b - a).toNat [] lo nw)
    (he : autoParam (starEach [e1, e2] c.env = (false, eval e1 c.env) :: starEach [e2] c.env) Mine.aR) (he2 : autoParam (starEach [e2] c.env = (false, eval e2 c.env) :: starEach [] c.env) Mine.aR) (hp : autoParam (((backTo cp (starEach [e2] c.env)).any fun x => x.1) = false) Mine.aR)
    (hc : autoParam (eval (.Call (.Name rn rp) [e1, e2] [] cp) c.env = (do callWith cp (← eval (.Name rn rp) c.env) [] (backTo cp (starEach [e1, e2] c.env)) (backToKw cp (keywordEach [] c.env)))) Mine.aR) (hf : autoParam (∀ x, foldedSetIterable (.Call (.Name rn rp) [e1, e2] [] cp) c.env x = pure x) Mine.aIr) :
    Ex c lo nw (.For (.Name x px) (.Call (.Name rn rp) [e1, e2] [] cp) body [] pos :: rest) R := fun s hs Q q =>
  wpM_execs_cons (wpM_For (by
    refine Call_ (hr s hs _ _ fun v s1 hv hs1 => ?_) hc
    cases hv
    refine PySem.Pv.callWith_type1 (args_cons (h1 s1 hs1 _ _ fun v s2 hv hs2 => args_cons (h2 s2 hs2 _ _ fun v' s3 hv' hs3 => args_nil ?_) he2) he) he hp
    obtain ⟨t, rfl⟩ := hv
    obtain ⟨t', rfl⟩ := hv'
    obtain ⟨m, ns, F, N, k1, k2⟩ := hs3.opn
    refine range2_rows F N fun h' tk t1 u1 v1 hr F' N' kall => ?_
    exact lp_range ok hn (s := { s3 with heap := h', toks := tk }) (hs3.grow kall) hr ha hb L q) hf)
theorem ints_nth {vs : List Value} {ns : List Int} (h : IntsAre vs ns) {i : Nat} {v : Value} (e : vs[i]? = some v) : It (ns.getD i 0) v := by
  have hl : i < ns.length := by
    rw [← h.length]
    cases q : decide (i < vs.length) with
    | true => exact of_decide_eq_true q
    | false => rw [List.getElem?_eq_none (Nat.not_lt.mp (of_decide_eq_false q))] at e; cases e
  obtain ⟨t, e2⟩ := h.get i ns[i] (List.getElem?_eq_getElem hl)
  rw [e] at e2; cases e2
  exact ⟨t, by rw [List.getD_eq_getElem?_getD, List.getElem?_eq_getElem hl]; rfl⟩
theorem allV_ints : ∀ {xs : List Int} {vs : List Value}, AllV (xs.map It) vs → IntsAre vs xs
  | [], _, .nil => .nil
  | _ :: _, _, .cons ⟨_, h⟩ k => by subst h; exact .cons _ _ (allV_ints k)
theorem Ex.forL (ok : Ok c) {x : Str} {px pos : Pos} {ix : Nat} {e : Expr} {body : List Stmt} (hn : nth c.S.nm ix = some x) {l : Addr} {ns : List Int} (he : ∀ nw', EE c lo nw' e (Is (.ref l)))
    (L : ∀ o, IntL ns o → Lp c ix body rest R (fun i => It (ns.getD i 0)) ns.length [(l, Eo o)] lo nw) (hf : autoParam (∀ x, foldedSetIterable e c.env x = pure x) Mine.aIr) :
    Ex c lo ((l, IntL ns) :: nw) (.For (.Name x px) e body [] pos :: rest) R := fun s hs0 Q q =>
  wpM_execs_cons (wpM_For (by
    obtain ⟨o, hp, hs⟩ := hs0.exact
    refine he _ s hs _ _ fun v s1 hv hs1 => ?_
    cases hv
    obtain ⟨o', eo, ho, _⟩ := hs1.has (.head _)
    cases ho
    obtain ⟨vs, nl, rfl, hI⟩ := hp
    have hl : s1.heap.IsList l (List.toArray vs) := ⟨_, eo, rfl, _, rfl⟩
    refine wpAny_pyIter_list hl ?_
    obtain ⟨J, hJ, turn, done⟩ := L _ ⟨vs, nl, rfl, hI⟩
    have hnone : s1.heap.get? s1.heap.objs.size = none := by
      cases q : s1.heap.get? s1.heap.objs.size with
      | none => rfl
      | some o => exact absurd (Heap.lt_size q) (Nat.lt_irrefl _)
    have hne : l ≠ s1.heap.objs.size := fun z => by rw [z, hnone] at eo; cases eo
    have hs2 := hs1.new (o := ({ cls := .type "list_iterator", data := .fields #[.ref l, .int 0 0] } : Obj)) (P := Eo ({ cls := .type "list_iterator", data := .fields #[.ref l, .int 0 0] } : Obj)) (tk := s1.toks) (h' := Heap.push s1.heap ({ cls := .type "list_iterator", data := .fields #[.ref l, .int 0 0] } : Obj)) (fun b o e => Heap.get?_push_of_some _ e) hnone (Heap.get?_push_size _ rfl) rfl
    have W := Walks.list (prog := PySem.Challenge.rw_pb0114_01.row.prog) (w := c.V.w) (A := c.A) rfl s1.heap.objs.size l hne (List.toArray vs)
    have hsz : (List.toArray vs).size = ns.length := by rw [List.size_toArray, hI.length]
    rw [hsz] at W
    exact forW ok hn W (PP := fun i => It (ns.getD i 0)) (fun i v e => ints_nth hI (by simpa using e)) (fun i h st => by obtain ⟨⟨o, ho, _⟩, _⟩ := st; exact ⟨o, ho⟩) [(l, Eo _)]
      (fun a ha => by
        rcases List.mem_cons.mp ha with rfl | ha
        · exact .inl rfl
        · rw [List.mem_singleton.mp ha]; exact .inr (.inl ⟨_, .head _⟩)) J (fun i lo nw oI hi hJ => turn _ oI i lo nw hi hJ) done q ns.length 0 lo nw _ _ (Nat.zero_add _) hs2
      ⟨⟨_, Heap.get?_push_size _ rfl, rfl, rfl⟩, hl.push _⟩ hJ) hf)
theorem Ex.forT (ok : Ok c) {x : Str} {px pos tp : Pos} {k : Nat} {ix : Nat} {es : List Expr} {body : List Stmt} (hn : nth c.S.nm ix = some x) {xs : List Int} (hxs : xs.length ≤ 1000)
    (h : EvA c lo nw tp es fun Ps nw1 => Ps = xs.map It ∧ ∀ l o, Lp c ix body rest R (fun i => It (xs.getD i 0)) xs.length [(l, Eo o)] lo nw1) (hf : autoParam (∀ x, foldedSetIterable (.Tuple es k tp) c.env x = pure x) Mine.aIr) :
    Ex c lo nw (.For (.Name x px) (.Tuple es k tp) body [] pos :: rest) R := fun s hs0 Q q =>
  wpM_execs_cons (wpM_For (Tuple_ (h s hs0 _ fun Ps nw1 vs s1 ⟨e, L⟩ hPs hs => by
    subst e
    have hI : IntsAre vs xs := allV_ints hPs
    obtain ⟨m, ns, F, N, k1, k2⟩ := hs.opn
    refine kup_newTuple F N (fun D h' F' N' lt => ?_) (by rw [sizeLine_eq, hI.length]; lia)
    have hs1 := k2 h' s1.toks D _ (Eo _) F' N' lt rfl
    obtain ⟨o', eo, ho, _⟩ := hs1.has (.head _)
    cases ho
    have hT : h'.IsTuple D (List.toArray vs) := ⟨_, eo, rfl, _, rfl⟩
    refine wpAny_pyIter_tuple (s := { s1 with heap := h', toks := s1.toks }) hT ?_
    obtain ⟨J, hJ, turn, done⟩ := L D _
    have hnone : h'.get? h'.objs.size = none := by
      cases q : h'.get? h'.objs.size with
      | none => rfl
      | some o => exact absurd (Heap.lt_size q) (Nat.lt_irrefl _)
    have hne : D ≠ h'.objs.size := fun z => by
      have : h'.get? D = _ := eo
      rw [z, hnone] at this; cases this
    have hs2 := hs1.new (o := ({ cls := .type "tuple_iterator", data := .fields #[.ref D, .int 0 0] } : Obj)) (P := Eo ({ cls := .type "tuple_iterator", data := .fields #[.ref D, .int 0 0] } : Obj)) (tk := s1.toks) (h' := Heap.push h' ({ cls := .type "tuple_iterator", data := .fields #[.ref D, .int 0 0] } : Obj)) (fun b o e => Heap.get?_push_of_some _ e) hnone (Heap.get?_push_size _ rfl) rfl
    have W := Walks.tuple (prog := PySem.Challenge.rw_pb0114_01.row.prog) (w := c.V.w) (A := c.A) rfl h'.objs.size D hne (List.toArray vs)
    have hsz : (List.toArray vs).size = xs.length := by rw [List.size_toArray, hI.length]
    rw [hsz] at W
    exact forW ok hn W (PP := fun i => It (xs.getD i 0)) (fun i v e => ints_nth hI (by simpa using e)) (fun i h st => by obtain ⟨⟨o, ho, _⟩, _⟩ := st; exact ⟨o, ho⟩) [(D, Eo _)]
      (fun a ha => by
        rcases List.mem_cons.mp ha with rfl | ha
        · exact .inl rfl
        · rw [List.mem_singleton.mp ha]; exact .inr (.inl ⟨_, .head _⟩)) J (fun i lo nw oI hi hJ => turn _ oI i lo nw hi hJ) done q xs.length 0 lo nw1 _ _ (Nat.zero_add _) hs2
      ⟨⟨_, Heap.get?_push_size _ rfl, rfl, rfl⟩, hT.push _⟩ hJ)) hf)
theorem EK.item {o e : Expr} {pos : Pos} {K : AV → Nw → Prop} (h : EK c lo nw o fun P nw1 => ∃ a, P = Is (.ref a) ∧ EK c lo nw1 e fun P' nw2 => ∃ (k : Int) (ns : List Int), P' = It k ∧ In c nw2 a (IntL ns) ∧ 0 ≤ k ∧ k < ns.length ∧ k < 2 ^ 63 ∧ K (It (ns.getD k.toNat 0)) nw2)
    (h1 : autoParam (∀ a k u, subscripted e false (.ref a) (.int k u) = operate [.ref a, .int k u] (getItem (.ref a) (.int k u))) Mine.aW3) : EK c lo nw (.Subscript o e pos) K := fun s hs Q q =>
  Subscript_ (h s hs _ fun P nw1 v s1 ⟨a, ep, h2⟩ hP hs1 => h2 s1 hs1 _ fun P' nw2 v' s2 ⟨k, ns, ep', hi, k0, k1, k2, kk⟩ hP' hs2 => by
    subst ep; subst ep'; cases hP
    obtain ⟨u, rfl⟩ := hP'
    obtain ⟨oo, eo, p⟩ := hi.get hs2
    obtain ⟨vs, hl, hI⟩ := p.isList eo
    exact item_anyK hl hI k0 k1 k2 (fun t => q _ _ _ _ kk ⟨t, rfl⟩ hs2) (h1 _ _ _))
theorem EE.item {o e : Expr} {pos : Pos} {a : Addr} {k : Int} {ns : List Int} (ho : EE c lo nw o (Is (.ref a))) (he : EE c lo nw e (It k)) (hi : In c nw a (IntL ns)) (k0 : 0 ≤ k) (k1 : k < ns.length) (k2 : k < 2 ^ 63)
    (h1 : autoParam (∀ u, subscripted e false (.ref a) (.int k u) = operate [.ref a, .int k u] (getItem (.ref a) (.int k u))) Mine.aW1) : EE c lo nw (.Subscript o e pos) (It (ns.getD k.toNat 0)) := fun s hs Q E q =>
  Subscript_ (ho s hs _ _ fun v s1 hv hs1 => he s1 hs1 _ _ fun v' s2 hv' hs2 => by
    cases hv
    obtain ⟨u, rfl⟩ := hv'
    obtain ⟨oo, eo, p⟩ := hi.get hs2
    obtain ⟨vs, hl, hI⟩ := p.isList eo
    exact item_anyK hl hI k0 k1 k2 (fun t => q _ _ ⟨t, rfl⟩ hs2) (h1 _))
theorem EE.itemN {o e : Expr} {pos : Pos} {a : Addr} {k : Int} {ns : List Int} (ho : EE c lo nw o (Is (.ref a))) (he : EE c lo nw e (It k)) (hi : In c nw a (IntL ns)) (k0 : k < 0) (k1 : -(ns.length : Int) ≤ k) (k2 : -2 ^ 63 ≤ k)
    (h1 : autoParam (∀ u, subscripted e false (.ref a) (.int k u) = operate [.ref a, .int k u] (getItem (.ref a) (.int k u))) Mine.aW1) : EE c lo nw (.Subscript o e pos) (It (ns.getD (k + ns.length).toNat 0)) := fun s hs Q E q =>
  Subscript_ (ho s hs _ _ fun v s1 hv hs1 => he s1 hs1 _ _ fun v' s2 hv' hs2 => by
    cases hv
    obtain ⟨u, rfl⟩ := hv'
    obtain ⟨oo, eo, p⟩ := hi.get hs2
    obtain ⟨vs, hl, hI⟩ := p.isList eo
    exact item_list_ints_negR hl hI k0 k1 k2 (fun t => q _ _ ⟨t, rfl⟩ hs2) (h1 _))
theorem EK.list {es : List Expr} {pos : Pos} {K : AV → Nw → Prop} (h : EvA c lo nw pos es fun Ps nw1 => ∃ xs : List Int, Ps = xs.map It ∧ xs.length ≤ 1000 ∧ ∀ a, K (Is (.ref a)) ((a, IntL xs) :: nw1)) : EK c lo nw (.List es pos) K := fun s hs Q q =>
  List_ (h s hs _ fun Ps nw1 vs s1 ⟨xs, e, hl, k⟩ hPs hs1 => by
    subst e
    have hI := allV_ints hPs
    obtain ⟨m, ns, F, N, k1, k2⟩ := hs1.opn
    exact newList_K F N (fun D h' F' N' lt => q _ _ _ _ (k D) rfl (k2 h' s1.toks D _ (IntL xs) F' N' lt ⟨vs, 0, rfl, hI⟩)) (by rw [sizeLine_eq, hI.length]; lia))
theorem EK.cat {a b : Expr} {pos : Pos} {K : AV → Nw → Prop} (h : EK c lo nw a fun P nw1 => ∃ r, P = Is (.ref r) ∧ EK c lo nw1 b fun P' nw2 => ∃ r' ns ms, P' = Is (.ref r') ∧ In c nw2 r (IntL ns) ∧ In c nw2 r' (IntL ms) ∧ ns.length + ms.length ≤ 1000000 ∧ ∀ D, K (Is (.ref D)) ((D, IntL (ns ++ ms)) :: nw2)) :
    EK c lo nw (.BinOp a .Add b pos) K := fun s hs Q q =>
  wpAny_BinOp (h s hs _ fun P nw1 v s1 ⟨r, ep, h2⟩ hP hs1 => h2 s1 hs1 _ fun P' nw2 v' s2 ⟨r', ns, ms, ep', i1, i2, hl, kk⟩ hP' hs2 => by
    subst ep; subst ep'; cases hP; cases hP'
    obtain ⟨o1, e1, p1⟩ := i1.get hs2
    obtain ⟨o2, e2, p2⟩ := i2.get hs2
    obtain ⟨vs, l1, I1⟩ := p1.isList e1
    obtain ⟨ws, l2, I2⟩ := p2.isList e2
    obtain ⟨m, nn, F, N, k1, k2⟩ := hs2.opn
    exact kmk_add_ints F N l1 l2 I1 I2 (fun D us h' F' N' lt hI => q _ _ _ _ (kk D) rfl (k2 h' s2.toks D _ (IntL (ns ++ ms)) F' N' lt ⟨us, 0, rfl, hI⟩)) (by rw [sizeLine_eq]; lia))
theorem EK.rep {a b : Expr} {pos : Pos} {K : AV → Nw → Prop} (h : EK c lo nw a fun P nw1 => ∃ r ns x, P = Is (.ref r) ∧ In c nw1 r (IntL ns) ∧ EE c lo nw1 b (It x) ∧ 0 ≤ x ∧ x < 100000 ∧ ns.length ≤ 100 ∧ ∀ D, K (Is (.ref D)) ((D, IntL (List.replicate x.toNat ns).flatten) :: nw1)) :
    EK c lo nw (.BinOp a .Mult b pos) K := fun s hs Q q =>
  wpAny_BinOp (h s hs _ fun P nw1 v s1 ⟨r, ns, x, ep, i1, h2, x0, x1, hl, kk⟩ hP hs1 => h2 s1 hs1 _ _ fun v' s2 hP' hs2 => by
    subst ep; cases hP
    obtain ⟨t, rfl⟩ := hP'
    obtain ⟨o1, e1, p1⟩ := i1.get hs2
    obtain ⟨vs, l1, I1⟩ := p1.isList e1
    obtain ⟨m, nn, F, N, k1, k2⟩ := hs2.opn
    refine KM.mul F N l1 I1 (by lia) (by lia) ?_ fun D h' F' N' lt hI _ _ _ _ _ => q _ _ _ _ (kk D) rfl (k2 h' s2.toks D _ (IntL _) F' N' lt ⟨_, 0, rfl, hI⟩)
    rw [I1.length]
    calc ns.length * x.toNat ≤ 100 * 100000 := Nat.mul_le_mul hl (by omega)
      _ ≤ 2 ^ 24 := by decide)
theorem EE.neg {a : Expr} {pos : Pos} {x : Int} (ha : EE c lo nw a (It x)) : EE c lo nw (.UnaryOp .USub a pos) (It (-x)) := fun s hs Q E q =>
  UnaryOp_ (ha s hs _ _ fun v s1 ⟨t, e⟩ hs1 => by subst e; exact neg_int (q _ _ ⟨_, rfl⟩ hs1.tok))
theorem EK.cmp {a b : Expr} {op : CmpOp} {pos : Pos} {K : AV → Nw → Prop} (h : EK c lo nw a fun P nw1 => ∃ x y r, P = It x ∧ EE c lo nw1 b (It y) ∧ CpI c.V.w op x y r ∧ K (Is (.bool r)) nw1) (hm : autoParam (behindInMarks op b = false) Mine.aW) : EK c lo nw (.Compare a [op] [b] pos) K := fun s hs Q q =>
  wpAny_Compare1 (h s hs _ fun P nw1 v s1 ⟨x, y, r, ep, hb, ho, kk⟩ hP hs1 => hb s1 hs1 _ _ fun v' s2 hP' hs2 => by
    subst ep
    obtain ⟨t, rfl⟩ := hP
    obtain ⟨u, rfl⟩ := hP'
    exact ho _ _ _ _ _ _ (q _ _ _ _ kk rfl hs2)) hm
theorem CK.min {x y : Int} {K : AV → Nw → Prop} (k : K (It (if y < x then y else x)) nw) : CK c lo nw (.builtin "min") [It x, It y] K := fun vs hvs s hs Q q => by
  cases hvs with
  | cons h1 h2 => cases h2 with
    | cons h2 h3 =>
      cases h3
      obtain ⟨t, rfl⟩ := h1
      obtain ⟨u, rfl⟩ := h2
      obtain ⟨m, nn, F, N, k1, k2⟩ := hs.opn
      exact min_two_N rfl F N fun h' tk F' N' => q _ _ _ _ k ⟨_, rfl⟩ (k1 h' tk F' N')
end
end Mine
end
section
open PySem PySem.W PySem.Calls PyProof.Rows
set_option maxRecDepth 100000
namespace Mine
structure SOk (S : Sx) : Prop where
  fn : S.sc.kind = .function
  nd : S.nm.Nodup
  lk : ∀ x ∈ S.nm, S.sc.names.lookup x = some .local ∧ (x == Str.ofString "__debug__") = false
noncomputable def Fl.av : Fl → AV
  | .ret P => P
  | _ => Is .none
noncomputable def Live (h : Heap) (A : List Addr) (h' : Heap) (nw : Nw) : Prop := (∀ e ∈ nw, (∃ o, h'.get? e.1 = some o ∧ e.2 o) ∧ (e.1 ∈ A ∨ h.get? e.1 = none)) ∧ (adr nw).Nodup
noncomputable def PostH (s : Shared) (A : List Addr) (outer : List Env) (KR : AV → Nw → Prop) (Er : Heap → Prop) (r : Result) (s' : Shared) : Prop := Post s A outer (fun v h' => ∃ P nw', KR P nw' ∧ P v ∧ Live s.heap A h' nw') Er r s'
theorem kept_all {mods : List Addr} {news : List (Addr × Obj)} : ∀ {l : List (Addr × Obj)}, (∀ q ∈ l, q.1 ∈ mods) → KeptIn mods news l
  | [], _ => trivial
  | q :: l, h => ⟨.inl (h q (.head _)), kept_all fun p hp => h p (.tail _ hp)⟩
theorem frs_cons {env : Env} {outer : List Env} {L : Addr} (hf : env.frame = some L) : frs (env :: outer) = L :: frs outer := by unfold frs; rw [List.filterMap_cons, hf]
section
variable {S : Sx} {w : World} {dp un : Nat} {outer : List Env} {G h₀ h₁ : Heap} {L fa : Addr} {cd : Value} {cl : List (Str × Addr)} {s : Shared} {tk : Nat} {m : Str → Option Value} {p : Program} {loose : List Str} {mean : ExcName → Option Value} {mg mb : Str → Option Value}
theorem startM {A : List Addr} {nw₁ : Nw} {ob : Addr → Obj} {lo₀ : Lo} {body : List Stmt} {A₀ : Around} {Er : Heap → Prop} {KR : AV → Nw → Prop} {objs : List (Addr × Obj)}
    (so : SOk S) (B : Below A₀ G outer h₀) (KX : (HA.hd.heap_1_39 w.params).In G) (X0 : (HA.hd.heap_1_39 w.params).In h₀) (TT : Top p loose mean mg mb G) (T0 : Top p loose mean mg mb h₀)
    (F : Fr h₀ L h₁ m) (N : News h₀ L h₁ (nw₁.map fun e => (e.1, ob e.1))) (ho : ∀ e ∈ nw₁, e.2 (ob e.1)) (nd : (adr nw₁).Nodup) (hl : LocOk S.nm lo₀ m) (EE : Ends s objs A outer h₀ L) (hA : ∀ q ∈ objs, q.1 ∈ A) (hA2 : ∀ a ∈ A, ∃ q ∈ objs, q.1 = a)
    (h : ∀ V : Vx, V.w = w → V.dp = dp → V.un = un → V.h₀ = h₀ → V.L = L → V.cl = cl → V.Er = Er → V.outer = outer → Ok ⟨S, V⟩ → Ex ⟨S, V⟩ lo₀ nw₁ body (fun fl _ nw' => KR fl.av nw')) :
    wpM S.b (model PySem.Challenge.rw_pb0114_01.row.prog w) (Ar dp un (some []) (envX S.cn S.sc L fa cd cl :: outer)) (execs body (envX S.cn S.sc L fa cd cl)) (fun fl s' => PostH s A outer KR Er (.ok (.ret (match fl with | .ret v => v | _ => .none))) s')
      (fun e s' => wpAny (model PySem.Challenge.rw_pb0114_01.row.prog w) (Ar dp un (some []) (envX S.cn S.sc L fa cd cl :: outer)) (leaving (envX S.cn S.sc L fa cd cl) e) (fun _ s'' => PostH s A outer KR Er (.error e) s'') (fun e' s'' => PostH s A outer KR Er (.error e') s'') s') { s with heap := h₁, toks := tk } := by
  have fresh : ∀ a o, h₀.get? a = none → s.heap.get? a = some o → a ∈ A := fun a o e1 e2 => by
    by_cases hm : a ∈ objs.map (·.1)
    · obtain ⟨q, hq, rfl⟩ := List.mem_map.mp hm
      exact hA q hq
    · have := EE.base a o e2 hm
      rw [e1] at this; cases this
  let E : Value → Shared → Prop := fun e s' => wpAny (model PySem.Challenge.rw_pb0114_01.row.prog w) (Ar dp un (some []) (envX S.cn S.sc L fa cd cl :: outer)) (leaving (envX S.cn S.sc L fa cd cl) e) (fun _ s'' => PostH s A outer KR Er (.error e) s'') (fun e' s'' => PostH s A outer KR Er (.error e') s'') s'
  let V : Vx := ⟨w, dp, un, outer, G, L, fa, cd, cl, h₀, s, Er, E, fun _ => True⟩
  have ok : Ok ⟨S, V⟩ := by
    refine ⟨⟨so.fn, KX, X0, ⟨p, loose, mean, mg, mb, TT, T0⟩, ⟨A₀, B⟩, fun x hx => so.lk x hx⟩, so.nd, fun _ => trivial, PassesOwn.leaving, ?_, ?_⟩
    · intro lo nw s1 hs hB h' tk' e t d kall hnew he
      obtain ⟨h2, tk2, m2, ob2, rfl, F2, l2, N2, oo2, nd2⟩ := hs
      refine raise_end (h := h2) EE B F2 N2 (kept_all hA) rfl rfl so.fn kall hnew he (hB _ fun e1 he1 => ?_)
      have z := led_of B F2 N2 (env := envX S.cn S.sc L fa cd cl) rfl _ (List.mem_map.mpr ⟨e1, he1, rfl⟩)
      exact ⟨_, hideAll_get _ z.1 z.2.2, oo2 e1 he1⟩
    · intro lo nw s1 hs mods P h' tk' e R hm hP
      obtain ⟨h2, tk2, m2, ob2, rfl, F2, l2, N2, oo2, nd2⟩ := hs
      refine raise_pass EE F2 N2 (kept_all hA) rfl rfl R (fun a ha => ?_) hP
      cases q : s.heap.get? a with
      | none => exact .inr rfl
      | some o =>
        obtain ⟨e1, he1, rfl⟩ := List.mem_map.mp (hm a ha)
        exact .inl (fresh _ o (N2 _ (List.mem_map.mpr ⟨e1, he1, rfl⟩)).2.2 q)
  refine h V rfl rfl rfl rfl rfl rfl rfl rfl ok { s with heap := h₁, toks := tk } ⟨h₁, tk, m, ob, rfl, F, ⟨hl, trivial⟩, N, ho, nd⟩ _ fun fl lo' nw' f s' hK hf hs' => ?_
  obtain ⟨h2, tk2, m2, ob2, rfl, F2, l2, N2, oo2, nd2⟩ := hs'
  have fin : ∀ v, fl.av v → PostH s A outer KR Er (.ok (.ret v)) { s with heap := h2, toks := tk2 } := fun v hv => by
    refine post_end EE F2 N2 (kept_all hA) ⟨_, nw', hK, hv, fun e he => ?_, nd2⟩
    have z := N2 _ (List.mem_map.mpr ⟨e, he, rfl⟩)
    refine ⟨⟨_, z.1, oo2 e he⟩, ?_⟩
    cases q : s.heap.get? e.1 with
    | none => exact .inr rfl
    | some o => exact .inl (fresh _ o z.2.2 q)
  cases fl with
  | next => cases hf; exact fin _ rfl
  | cont => cases hf; exact fin _ rfl
  | brk => cases hf; exact fin _ rfl
  | ret P => obtain ⟨v, rfl, hv⟩ := hf; exact fin v hv
end
noncomputable def Fn (w : World) (f : Addr) (S : Sx) (n : Nat) (ds : List Value) (body : List Stmt) : Prop := SOk S ∧ n + ds.length ≤ S.nm.length ∧ ∃ oc od name params dV kV doc pm an cdv ct osl,
  (HA.hd.heap_1_39 w.params).lookup f = some ⟨oc, od, .func (fnOf name S.cn params body S.sc dV kV doc pm an cdv ct), osl⟩ ∧ codeIn (HA.hd.heap_1_39 w.params) cdv S.cn = true ∧
  (∀ (s : Shared) vs, (HA.hd.heap_1_39 w.params).In s.heap → vs.length = n → BindsTo s (fnOf name S.cn params body S.sc dV kV doc pm an cdv ct) ⟨vs, []⟩ (S.nm.zip (vs ++ ds))) ∧ (∀ x ∈ S.sc.names, x.2 ≠ .cell) ∧ S.sc.isCoroutine = false ∧ S.sc.isGenerator = false
theorem locOk_zip {m : Str → Option Value} : ∀ {nm : List Str} {Ps : List AV} {vs : List Value} (k : Nat), (∀ i x v, nth nm i = some x → nth vs i = some v → m x = some v) → AllV Ps vs → Ps.length ≤ nm.length → LocOk nm (Ps.map some ++ List.replicate k none) m := by
  intro nm Ps vs k hm hP hl i x P hx hp
  have key : ∀ {Ps : List AV} {i : Nat}, nth (Ps.map some ++ List.replicate k none) i = some (some P) → nth Ps i = some P := by
    intro Ps
    induction Ps with
    | nil =>
      intro i h
      have := nth_mem h
      simp at this
    | cons Q Ps ih =>
      intro i h
      cases i with
      | zero => cases h; rfl
      | succ i => exact ih (i := i) h
  obtain ⟨v, e, hv⟩ := hP.nth (key hp)
  exact ⟨v, hm i x v hx e, hv⟩
theorem lookup_zip : ∀ {nm : List Str} {vs : List Value} {i : Nat} {x : Str} {v : Value}, nm.Nodup → nth nm i = some x → nth vs i = some v → (nm.zip vs).reverse.lookup x = some v := by
  intro nm vs i x v nd hx hv
  have hm : (x, v) ∈ nm.zip vs := by
    clear nd
    induction nm generalizing vs i with
    | nil => cases hx
    | cons a nm ih => cases vs with
      | nil => cases hv
      | cons b vs => cases i with
        | zero => cases hx; cases hv; exact .head _
        | succ i => exact .tail _ (ih (i := i) hx hv)
  have hnd : ((nm.zip vs).map (·.1)).Nodup := by
    have : (nm.zip vs).map (·.1) <+: nm := by
      clear hx hv hm nd
      induction nm generalizing vs with
      | nil => exact List.prefix_refl _
      | cons a nm ih => cases vs with
        | nil => exact List.nil_prefix
        | cons b vs => rw [List.zip_cons_cons, List.map_cons]; exact List.cons_prefix_cons.mpr ⟨rfl, ih⟩
    exact List.Nodup.sublist this.sublist nd
  have : ∀ (l : List (Str × Value)), (l.map (·.1)).Nodup → (x, v) ∈ l → l.lookup x = some v := by
    intro l
    induction l with
    | nil => intro _ h; cases h
    | cons a l ih =>
      intro n h
      have n2 := List.nodup_cons.mp n
      rw [List.lookup_cons]
      rcases List.mem_cons.mp h with h | h
      · rw [← h]; simp
      · have hne : x ≠ a.1 := fun q => n2.1 (List.mem_map.mpr ⟨(x, v), h, q⟩)
        have : (x == a.1) = false := by simpa using hne
        rw [this]; exact ih n2.2 h
  refine this _ ?_ (List.mem_reverse.mpr hm)
  rw [List.map_reverse]
  exact List.pairwise_reverse.mpr (List.Pairwise.imp (fun h => Ne.symm h) hnd)
theorem AllV.is : ∀ {ds : List Value}, AllV (ds.map Is) ds
  | [] => .nil
  | _ :: _ => .cons rfl AllV.is
noncomputable def Callee (b : Bool) (w : World) (f : Addr) (n : Nat) (Body : Vx → List AV → Nw → (AV → Nw → Prop) → Prop) : Prop :=
  ∀ {dp un : Nat} {outer : List Env} {G : Heap} {s : Shared} {p : Program} {loose : List Str} {mean : ExcName → Option Value} {mg mb : Str → Option Value}, Below (Ar dp un (some []) outer) G outer s.heap → (HA.hd.heap_1_39 w.params).In G → Top p loose mean mg mb G → dp < 990 →
    ∀ {vs : List Value} {Ps : List AV}, AllV Ps vs → Ps.length = n → ∀ {nw₀ : Nw} {ob : Addr → Obj}, Led G outer s.heap (nw₀.map fun e => (e.1, ob e.1)) → (∀ e ∈ nw₀, e.2 (ob e.1)) → (adr nw₀).Nodup → ∀ {Er : Heap → Prop} {KR : AV → Nw → Prop},
    (∀ V : Vx, V.w = w → V.dp = dp + 1 → V.un = un + 3 → (∀ b o, s.heap.get? b = some o → b ∉ adr nw₀ → V.h₀.get? b = some o) → V.Er = Er → Body V Ps nw₀ KR) →
    codeM b (model PySem.Challenge.rw_pb0114_01.row.prog w) (Ar dp un (some []) outer) (.call (.ref f) ⟨vs, []⟩) (PostH s (adr nw₀) outer KR Er) s
noncomputable def BodyOf (S : Sx) (n : Nat) (ds : List Value) (body : List Stmt) (V : Vx) (Ps : List AV) (nw₀ : Nw) (KR : AV → Nw → Prop) : Prop :=
  Ok ⟨S, V⟩ → Ex ⟨S, V⟩ ((Ps ++ ds.map Is).map some ++ List.replicate (S.nm.length - (n + ds.length)) none) nw₀ body (fun fl _ nw' => KR fl.av nw')
section
variable {S : Sx} {w : World}
theorem conM {f : Addr} {n : Nat} {ds : List Value} {body : List Stmt} (fn : Fn w f S n ds body) : Callee S.b w f n (BodyOf S n ds body) := by
  intro dp un outer G s p loose mean mg mb B KX TT hdp vs Ps hP hn nw₀ ob D ho nd Er KR h
  obtain ⟨so, hnl, oc, od, name, params, dV, kV, doc, pm, an, cdv, ct, osl, hlk, hcd, hbi, hcell, hco, hge⟩ := fn
  have hlen : vs.length = n := by rw [← hn, hP.length]
  have hP' := hP.append (AllV.is (ds := ds))
  have KS := KX.keeps B.stays
  have hobj : ∀ q ∈ nw₀.map (fun e => (e.1, ob e.1)), q.1 ∈ adr nw₀ := fun q hq => by
    obtain ⟨e, he, rfl⟩ := List.mem_map.mp hq
    exact List.mem_map_of_mem (f := (·.1)) he
  have hobj2 : ∀ a ∈ adr nw₀, ∃ q ∈ nw₀.map (fun e => (e.1, ob e.1)), q.1 = a := fun a ha => by
    obtain ⟨e, he, rfl⟩ := List.mem_map.mp ha
    exact ⟨_, List.mem_map.mpr ⟨e, he, rfl⟩, rfl⟩
  have hloc : ∀ y ∈ S.nm.zip (vs ++ ds), S.sc.names.lookup y.1 = some .local := fun y hy => (so.lk y.1 (List.of_mem_zip hy).1).1
  have body' : ∀ h₀ L h₁ tk, Fr h₀ L h₁ (fun y => (S.nm.zip (vs ++ ds)).reverse.lookup y) → News h₀ L h₁ (nw₀.map fun e => (e.1, ob e.1)) → Below (Ar dp un (some []) outer) G outer h₀ → (HA.hd.heap_1_39 w.params).In h₀ → Top p loose mean mg mb h₀ → Ends s (nw₀.map fun e => (e.1, ob e.1)) (adr nw₀) outer h₀ L →
      wpM S.b (model PySem.Challenge.rw_pb0114_01.row.prog w) (Ar (dp + 1) (un + 3) (some []) (envX S.cn S.sc L f cdv [] :: outer)) (execs body (envX S.cn S.sc L f cdv [])) (fun fl s' => PostH s (adr nw₀) outer KR Er (.ok (.ret (match fl with | .ret v => v | _ => .none))) s')
      (fun e s' => wpAny (model PySem.Challenge.rw_pb0114_01.row.prog w) (Ar (dp + 1) (un + 3) (some []) (envX S.cn S.sc L f cdv [] :: outer)) (leaving (envX S.cn S.sc L f cdv []) e) (fun _ s'' => PostH s (adr nw₀) outer KR Er (.error e) s'') (fun e' s'' => PostH s (adr nw₀) outer KR Er (.error e') s'') s') { s with heap := h₁, toks := tk } := fun h₀ L h₁ tk F N B' X0 T0 EE => by
    refine startM so B' KX X0 TT T0 F N ho nd (locOk_zip _ (fun i x v hx hv => lookup_zip so.nd hx hv) hP' (by rw [List.length_append, List.length_map, hn]; exact hnl)) EE hobj hobj2 fun V e1 e2 e3 e4 e5 e6 e7 _ ok => h V e1 e2 e3 (fun b o e hb => ?_) e7 ok
    rw [e4]
    exact EE.base b o e fun q => hb (by obtain ⟨x, hx, rfl⟩ := List.mem_map.mp q; exact hobj x hx)
  have hroom : (Ar dp un (some []) outer).depth < recursionLimit := by unfold recursionLimit; exact Nat.lt_trans hdp (by decide)
  unfold PostH
  cases hb : S.b with
  | false =>
    rw [hb] at body'
    exact enter (mods := adr nw₀) B D KX TT hlk hcd hroom (hbi s vs KS hlen) hloc (fun h₀ L h₁ F N B' X0 T0 _ EE => body' h₀ L h₁ _ F N B' X0 T0 EE) hcell hco hge so.fn
  | true =>
    rw [hb] at body'
    exact enterL (mods := adr nw₀) B D KX TT hlk hcd hroom (hbi s vs KS hlen) hloc (fun h₀ L h₁ F N B' X0 T0 _ EE => body' h₀ L h₁ _ F N B' X0 T0 EE) hcell hco hge so.fn
end
end Mine
end
section
open PySem PySem.W PySem.Calls PyProof.Rows
set_option maxRecDepth 100000
namespace Mine
noncomputable def putA : Nw → Nat → AO → Nw
  | [], _, _ => []
  | e :: l, 0, Q => (e.1, Q) :: l
  | e :: l, i + 1, Q => e :: putA l i Q
noncomputable def wb : Nw → List Nat → List AO → Nw
  | nw, i :: is, Q :: Qs => wb (putA nw i Q) is Qs
  | nw, _, _ => nw
theorem putA_adr : ∀ {nw : Nw} {i : Nat} {Q : AO}, adr (putA nw i Q) = adr nw
  | [], _, _ => rfl
  | _ :: _, 0, _ => rfl
  | e :: l, i + 1, Q => congrArg (e.1 :: ·) (putA_adr (nw := l) (i := i))
theorem wb_adr : ∀ {is : List Nat} {Qs : List AO} {nw : Nw}, adr (wb nw is Qs) = adr nw
  | [], _, _ => by unfold wb; rfl
  | _ :: _, [], _ => by unfold wb; rfl
  | i :: is, Q :: Qs, nw => by
    show adr (wb (putA nw i Q) is Qs) = _
    rw [wb_adr, putA_adr]
theorem putA_mem : ∀ {nw : Nw} {i : Nat} {Q : AO} {a : Addr}, (adr nw).Nodup → nth (adr nw) i = some a → ∀ e ∈ putA nw i Q, e = (a, Q) ∨ (e ∈ nw ∧ e.1 ≠ a)
  | [], _, _, _, _, h => nomatch h
  | x :: l, 0, Q, a, nd, h => by
    have n2 := List.nodup_cons.mp nd
    obtain rfl : x.1 = a := Option.some.inj h
    intro e he
    rcases List.mem_cons.mp he with he | he
    · exact .inl he
    · exact .inr ⟨.tail _ he, fun q => n2.1 (List.mem_map.mpr ⟨e, he, q⟩)⟩
  | x :: l, i + 1, Q, a, nd, h => by
    have n2 := List.nodup_cons.mp nd
    intro e he
    rcases List.mem_cons.mp he with he | he
    · have ha : a ∈ adr l := nth_mem (l := adr l) (i := i) h
      exact .inr ⟨by rw [he]; exact .head _, fun q => n2.1 (by rw [he] at q; have ha' := ha; rw [← q] at ha'; exact ha')⟩
    · rcases putA_mem (nw := l) (i := i) n2.2 h e he with q | q
      · exact .inl q
      · exact .inr ⟨.tail _ q.1, q.2⟩
theorem wb_mem : ∀ {is : List Nat} {Qs : List AO} {as : List Addr} {nw : Nw}, is.map (nth (adr nw)) = as.map some → (adr nw).Nodup → Qs.length = is.length → ∀ e ∈ wb nw is Qs, e ∈ as.zip Qs ∨ (e ∈ nw ∧ e.1 ∉ as)
  | [], _, [], _, _, _, _, e, he => .inr ⟨by unfold wb at he; exact he, fun h => nomatch h⟩
  | [], _, _ :: _, _, h, _, _, _, _ => nomatch h
  | _ :: _, _, [], _, h, _, _, _, _ => nomatch h
  | _ :: _, [], _, _, _, _, hl, _, _ => nomatch hl
  | i :: is, Q :: Qs, a :: as, nw, h, nd, hl, e, he => by
    have h2 := List.cons.inj h
    rcases wb_mem (is := is) (Qs := Qs) (as := as) (nw := putA nw i Q) (by rw [putA_adr]; exact h2.2) (by rw [putA_adr]; exact nd) (Nat.succ.inj hl) e he with q | ⟨q1, q2⟩
    · exact .inl (.tail _ q)
    · rcases putA_mem nd h2.1 e q1 with rfl | ⟨q3, q4⟩
      · exact .inl (.head _)
      · refine .inr ⟨q3, fun hm => ?_⟩
        rcases List.mem_cons.mp hm with z | z
        · exact q4 z
        · exact q2 z
theorem zip_adr : ∀ {as : List Addr} {Qs : List AO}, as.length = Qs.length → adr (as.zip Qs) = as
  | [], [], _ => rfl
  | a :: as, Q :: Qs, h => congrArg (a :: ·) (zip_adr (Nat.succ.inj h))
theorem fm_pick {nw : Nw} : ∀ {is : List Nat} {nw₀ : Nw}, is.map (nth nw) = nw₀.map some → is.filterMap (nth nw) = nw₀
  | [], [], _ => rfl
  | i :: is, e :: nw₀, h => by
    have h2 := List.cons.inj h
    rw [List.filterMap_cons, h2.1, fm_pick h2.2]
theorem pick_adr {nw : Nw} : ∀ {is : List Nat} {nw₀ : Nw}, is.map (nth nw) = nw₀.map some → is.map (nth (adr nw)) = (adr nw₀).map some
  | [], [], _ => rfl
  | i :: is, e :: nw₀, h => by
    have h2 := List.cons.inj h
    show _ :: _ = _ :: _
    rw [pick_adr h2.2]
    exact congrArg (· :: _) (nth_map (f := fun e : Addr × AO => e.1) (l := nw) (i := i) h2.1)
theorem pick_mem {nw : Nw} {is : List Nat} {nw₀ : Nw} (h : is.map (nth nw) = nw₀.map some) : ∀ e ∈ nw₀, e ∈ nw := fun e he => by
  rw [← fm_pick h] at he
  obtain ⟨i, _, q⟩ := List.mem_filterMap.mp he
  exact nth_mem q
noncomputable def Back (nw nw₀ : Nw) (is : List Nat) (K : AV → Nw → Prop) (P : AV) (nw' : Nw) : Prop := ∃ e1 Qs e2, nw' = e1 ++ (adr nw₀).zip Qs ++ e2 ∧ Qs.length = is.length ∧ K P (e1 ++ wb nw is Qs ++ e2)
noncomputable def Ro (c : Cx) (nw : Nw) (is : List Nat) (a : Addr) (P : AO) : Prop := (∃ o, c.V.h₀.get? a = some o ∧ P o) ∨ ∃ j P', j ∉ is ∧ nth nw j = some (a, P') ∧ ∀ o, P' o → P o
theorem Ro.at {c : Cx} {nw : Nw} {is : List Nat} {a : Addr} {P : AO} (j : Nat) (h : nth nw j = some (a, P)) (n : autoParam (j ∉ is) Mine.aD) : Ro c nw is a P := .inr ⟨j, P, n, h, fun _ x => x⟩
theorem pick_idx {nw : Nw} : ∀ {is : List Nat} {nw₀ : Nw}, is.map (nth nw) = nw₀.map some → ∀ a ∈ adr nw₀, ∃ i P, i ∈ is ∧ nth nw i = some (a, P)
  | [], [], _, _, h => nomatch h
  | i :: is, e :: nw₀, h, a, ha => by
    have h2 := List.cons.inj h
    rcases List.mem_cons.mp ha with rfl | ha
    · exact ⟨i, e.2, .head _, h2.1⟩
    · obtain ⟨j, P, hj, q⟩ := pick_idx h2.2 a ha
      exact ⟨j, P, .tail _ hj, q⟩
section
variable {c : Cx} {lo : Lo} {nw : Nw}
theorem St.build {h' : Heap} {tk : Nat} {m : Str → Option Value} {nw2 : Nw} (F : Fr c.V.h₀ c.V.L h' m) (l : LocC c lo m) (o : ∀ e ∈ nw2, (∃ o, h'.get? e.1 = some o ∧ e.2 o) ∧ e.1 ≠ c.V.L ∧ c.V.h₀.get? e.1 = none) (nd : (adr nw2).Nodup) : St c lo nw2 { c.V.s₀ with heap := h', toks := tk } := by
  refine ⟨h', tk, m, fun a => match h'.get? a with | some o => o | none => { cls := .none, data := .plain }, rfl, F, l, fun q hq => ?_, fun e he => ?_, nd⟩
  · obtain ⟨e, he, rfl⟩ := List.mem_map.mp hq
    obtain ⟨⟨oo, h1, h2⟩, h3⟩ := o e he
    refine ⟨?_, h3⟩
    show h'.get? e.1 = some (match h'.get? e.1 with | some o => o | none => _)
    rw [h1]
  · obtain ⟨⟨oo, h1, h2⟩, h3⟩ := o e he
    show e.2 (match h'.get? e.1 with | some o => o | none => _)
    rw [h1]; exact h2
theorem call_core0 (ok : OkB c) {f : Addr} {b : Bool} {n : Nat} {Body : Vx → List AV → Nw → (AV → Nw → Prop) → Prop} (cal : Callee b c.V.w f n Body) (hdp : c.V.dp < 990) {Ps : List AV} {vs : List Value} (hP : AllV Ps vs) (hn : Ps.length = n) (is : List Nat) {nw₀ : Nw} (hp : is.map (nth nw) = nw₀.map some) (hnd : is.Nodup) {KR : AV → Nw → Prop} {Er : Heap → Prop}
    (h : ∀ V : Vx, V.w = c.V.w → V.dp = c.V.dp + 1 → V.un = c.V.un + 3 → (∀ a P, Ro c nw is a P → ∃ o, V.h₀.get? a = some o ∧ P o) → V.Er = Er → Body V Ps nw₀ KR)
    {s : Shared} (hs : St c lo nw s) {Q E : Value → Shared → Prop} (q : ∀ P nw' v s', KR P nw' → P v → (∀ nwr : Nw, (∀ e ∈ nwr, e ∈ nw ∧ e.1 ∉ adr nw₀) → (adr nwr).Nodup → St c lo (nw' ++ nwr) s') → Q v s')
    (er : ∀ e h' tk, Raised s.heap (adr nw₀) (c.env :: c.V.outer) Er e h' → E (.ref e) { s with heap := h', toks := tk }) : wpM b c.M c.A (call (.ref f) vs []) Q E s := by
  have hs0 := hs
  obtain ⟨p, loose, mean, mg, mb, TT, T0⟩ := ok.T
  obtain ⟨A₀, B⟩ := ok.B
  obtain ⟨hh, tk, m, ob, rfl, F, l, N, oo, nd⟩ := hs
  have hm0 := pick_mem hp
  have nd0 : (adr nw₀).Nodup := by rw [← fm_pick hp]; exact nodup_fm nd hnd
  have hsub : ∀ x ∈ nw₀.map (fun e => (e.1, ob e.1)), x ∈ nw.map (fun e => (e.1, ob e.1)) := fun x hx => by
    obtain ⟨e, he, rfl⟩ := List.mem_map.mp hx
    exact List.mem_map.mpr ⟨e, hm0 e he, rfl⟩
  obtain ⟨oL, hL⟩ : ∃ oL, hh.get? c.V.L = some oL := by
    obtain ⟨oL, _, _, hL, _⟩ := F.ns
    exact ⟨oL, hL⟩
  have con := cal (s := { c.V.s₀ with heap := hh, toks := tk }) (below_push (A' := Ar c.V.dp c.V.un (some []) (c.env :: c.V.outer)) B F rfl ok.fn rfl) ok.X TT hdp hP hn ((led_of B F N (env := c.env) rfl).sub hsub) (fun e he => oo e (hm0 e he)) nd0 (Er := Er) (KR := KR) fun V e1 e2 e3 e4 e5 => h V e1 e2 e3 (fun a P hi => ?_) e5
  · refine wpM_call (codeM_mono con fun r s' z => ?_)
    obtain ⟨h', tk', rfl, z⟩ := z
    rcases r with e | (v | _ | _ | v)
    · cases e <;> first | exact z.elim | exact er _ _ _ z
    · exact z.elim
    · exact z.elim
    · exact z.elim
    · obtain ⟨kp, P, nw', hK, hv, lv, ndv⟩ := z
      have F' : Fr c.V.h₀ c.V.L h' m := fr_after F N kp fun a ha => by
        obtain ⟨e, he, rfl⟩ := List.mem_map.mp ha
        exact List.mem_map.mpr ⟨_, hsub _ (List.mem_map.mpr ⟨e, he, rfl⟩), rfl⟩
      refine q P nw' v _ hK hv fun nwr hr ndr => St.build F' l (fun e he => ?_) ?_
      · rcases List.mem_append.mp he with he | he
        · obtain ⟨h1, h2⟩ := lv e he
          refine ⟨h1, ?_⟩
          rcases h2 with h2 | h2
          · obtain ⟨x, hx, hxe⟩ := List.mem_map.mp h2
            rw [← hxe]
            exact (N _ (hsub _ (List.mem_map.mpr ⟨x, hx, rfl⟩))).2
          · change hh.get? e.1 = none at h2
            refine ⟨fun z => ?_, ?_⟩
            · rw [z, hL] at h2; cases h2
            · cases q : c.V.h₀.get? e.1 with
              | none => rfl
              | some o => rw [F.keep _ _ q] at h2; cases h2
        · obtain ⟨q1, q2⟩ := hr e he
          have z := N _ (List.mem_map.mpr ⟨e, q1, rfl⟩)
          exact ⟨⟨_, kp _ _ z.1 q2, oo e q1⟩, z.2⟩
      · unfold adr
        rw [List.map_append]
        refine nodup_app ndv ndr fun a ha hb => ?_
        obtain ⟨x, hx, rfl⟩ := List.mem_map.mp ha
        obtain ⟨y, hy, hxy⟩ := List.mem_map.mp hb
        obtain ⟨q1, q2⟩ := hr y hy
        rcases (lv x hx).2 with h2 | h2
        · exact q2 (hxy ▸ h2)
        · have z := (N _ (List.mem_map.mpr ⟨y, q1, rfl⟩)).1
          change hh.get? x.1 = none at h2
          change hh.get? y.1 = _ at z
          rw [hxy, h2] at z; cases z
  · rcases hi with ⟨o, e, ho⟩ | ⟨j, P', hj, hjn, k⟩
    · refine ⟨o, e4 a o (hs0.base e) fun ha => ?_, ho⟩
      obtain ⟨i, Q', _, hi⟩ := pick_idx hp a ha
      obtain ⟨_, _, _, _, h0⟩ := hs0.has (nth_mem hi)
      change c.V.h₀.get? a = none at h0
      rw [h0] at e; cases e
    · obtain ⟨o, e, ho, _⟩ := hs0.has (nth_mem hjn)
      refine ⟨o, e4 a o e fun ha => ?_, k o ho⟩
      obtain ⟨i, Q', hi', hi⟩ := pick_idx hp a ha
      exact hj ((adr_inj nd hjn hi) ▸ hi')
theorem call_core (ok : OkB c) {f : Addr} {b : Bool} {n : Nat} {Body : Vx → List AV → Nw → (AV → Nw → Prop) → Prop} (cal : Callee b c.V.w f n Body) (hdp : c.V.dp < 990) {Ps : List AV} {vs : List Value} (hP : AllV Ps vs) (hn : Ps.length = n) (is : List Nat) {nw₀ : Nw} (hp : is.map (nth nw) = nw₀.map some) (hnd : is.Nodup) {K : AV → Nw → Prop} {Er : Heap → Prop}
    (h : ∀ V : Vx, V.w = c.V.w → V.dp = c.V.dp + 1 → V.un = c.V.un + 3 → (∀ a P, Ro c nw is a P → ∃ o, V.h₀.get? a = some o ∧ P o) → V.Er = Er → Body V Ps nw₀ (Back nw nw₀ is K))
    {s : Shared} (hs : St c lo nw s) {Q E : Value → Shared → Prop} (q : ∀ P nw' v s', K P nw' → P v → St c lo nw' s' → Q v s')
    (er : ∀ e h' tk, Raised s.heap (adr nw₀) (c.env :: c.V.outer) Er e h' → E (.ref e) { s with heap := h', toks := tk }) : wpM b c.M c.A (call (.ref f) vs []) Q E s := by
  refine call_core0 ok cal hdp hP hn is hp hnd h hs (fun P nw' v s' hK hv hst => ?_) er
  obtain ⟨e1, Qs, e2, rfl, hlq, hK⟩ := hK
  have nd := hs.nodup
  have hlen : (adr nw₀).length = Qs.length := by
    have := congrArg List.length hp
    rw [List.length_map, List.length_map] at this
    unfold adr; rw [List.length_map, hlq, this]
  have hst2 := hst (nw.filter fun e => decide (e.1 ∉ adr nw₀)) (fun e he => by
    have := List.mem_filter.mp he
    exact ⟨this.1, of_decide_eq_true this.2⟩) (List.Nodup.sublist (List.Sublist.map _ List.filter_sublist) nd)
  refine q P _ v s' hK hv (hst2.sub (fun e he => ⟨e.2, ?_, fun _ x => x⟩) ?_)
  · rcases List.mem_append.mp he with he | he
    · rcases List.mem_append.mp he with he | he
      · exact List.mem_append_left _ (List.mem_append_left _ (List.mem_append_left _ he))
      · rcases wb_mem (pick_adr hp) nd hlq e he with q | ⟨q1, q2⟩
        · exact List.mem_append_left _ (List.mem_append_left _ (List.mem_append_right _ q))
        · exact List.mem_append_right _ (List.mem_filter.mpr ⟨q1, decide_eq_true q2⟩)
    · exact List.mem_append_left _ (List.mem_append_right _ he)
  · have ndA := hst2.nodup
    have ea : adr (e1 ++ (adr nw₀).zip Qs ++ e2 ++ nw.filter fun e => decide (e.1 ∉ adr nw₀)) = adr e1 ++ adr nw₀ ++ adr e2 ++ adr (nw.filter fun e => decide (e.1 ∉ adr nw₀)) := by
      have := zip_adr hlen
      unfold adr at this ⊢
      rw [List.map_append, List.map_append, List.map_append, this]
    rw [ea] at ndA
    have nd0 := List.nodup_append.mp ndA
    have nd1 := List.nodup_append.mp nd0.1
    have nd2 := List.nodup_append.mp nd1.1
    have cov : ∀ a ∈ adr nw, a ∈ adr nw₀ ∨ a ∈ adr (nw.filter fun e => decide (e.1 ∉ adr nw₀)) := fun a ha => by
      by_cases z : a ∈ adr nw₀
      · exact .inl z
      · obtain ⟨x, hx, rfl⟩ := List.mem_map.mp ha
        exact .inr (List.mem_map_of_mem (f := (·.1)) (List.mem_filter.mpr ⟨hx, decide_eq_true z⟩))
    unfold adr
    rw [List.map_append, List.map_append]
    have ew : (wb nw is Qs).map (·.1) = adr nw := wb_adr
    rw [ew]
    refine nodup_app (nodup_app nd2.1 nd fun a ha hb => ?_) nd1.2.1 fun a ha hb => ?_
    · rcases cov a hb with z | z
      · exact nd2.2.2 a ha a z rfl
      · exact nd0.2.2 a (List.mem_append_left _ (List.mem_append_left _ ha)) a z rfl
    · rcases List.mem_append.mp ha with ha | ha
      · exact nd1.2.2 a (List.mem_append_left _ ha) a hb rfl
      · rcases cov a ha with z | z
        · exact nd1.2.2 a (List.mem_append_right _ z) a hb rfl
        · exact nd0.2.2 a (List.mem_append_right _ hb) a z rfl
theorem keep_rest {is ks : List Nat} {k : Nat} {nw nw₀ : Nw} (hp : is.map (nth nw) = nw₀.map some) (nd : (adr nw).Nodup) (hnd : (is ++ ks).Nodup) (hk : ∀ i ∈ is ++ ks, i < k) : (∀ e ∈ ks.filterMap (nth nw) ++ nw.drop k, e ∈ nw ∧ e.1 ∉ adr nw₀) ∧ (adr (ks.filterMap (nth nw) ++ nw.drop k)).Nodup := by
  have n2 := List.nodup_append.mp hnd
  refine ⟨fun e he => ?_, Sel.nodup ⟨ks, k, n2.2.1, fun i hi => hk i (List.mem_append_right _ hi), rfl⟩ nd⟩
  have hj : ∃ j, j ∉ is ∧ nth nw j = some e := by
    rcases List.mem_append.mp he with h | h
    · obtain ⟨j, hj, ej⟩ := List.mem_filterMap.mp h
      exact ⟨j, fun q => n2.2.2 j q j hj rfl, ej⟩
    · obtain ⟨j, hj, ej⟩ := nth_drop h
      exact ⟨j, fun q => absurd (hk j (List.mem_append_left _ q)) (Nat.not_lt.mpr hj), ej⟩
  obtain ⟨j, hj, ej⟩ := hj
  refine ⟨nth_mem ej, fun q => ?_⟩
  obtain ⟨i, P, hi, ei⟩ := pick_idx hp _ q
  exact hj ((adr_inj nd (P := e.2) ej ei) ▸ hi)
noncomputable def EvN {α : Type} (c : Cx) (lo : Lo) (nw : Nw) (T : Sem α) (K : (α → Prop) → Nw → Prop) : Prop :=
  ∀ s, St c lo nw s → ∀ (Q : α → Shared → Prop) (E : Value → Shared → Prop), (∀ P nw' v s', K P nw' → P v → St c lo nw' s' → Q v s') → wpAny c.M c.A T Q E s
noncomputable def CN (c : Cx) (lo : Lo) (nw : Nw) (f : Value) (Ps : List AV) (K : AV → Nw → Prop) : Prop := ∀ vs, AllV Ps vs → EvN c lo nw (PySem.call f vs []) K
theorem CN.k {f : Value} {Ps : List AV} {K : AV → Nw → Prop} (h : CN c lo nw f Ps K) : CK c lo nw f Ps K := fun vs hvs s hs Q q => h vs hvs s hs Q _ q
theorem no_er {h h' : Heap} {mods : List Addr} {outer : List Env} {e : Addr} {P : Prop} (R : Raised h mods outer (fun _ => False) e h') : P := by
  obtain ⟨_, _, _, hF, _⟩ := R
  exact hF.elim
theorem CN.call (ok : OkB c) {f : Addr} {n : Nat} {Body : Vx → List AV → Nw → (AV → Nw → Prop) → Prop} (cal : Callee false c.V.w f n Body) (hdp : c.V.dp < 990) {Ps : List AV} (hn : Ps.length = n) (is : List Nat) {nw₀ : Nw} (hp : is.map (nth nw) = nw₀.map some) (hnd : is.Nodup) {K : AV → Nw → Prop}
    (h : ∀ V : Vx, V.w = c.V.w → V.dp = c.V.dp + 1 → V.un = c.V.un + 3 → (∀ a P, Ro c nw is a P → ∃ o, V.h₀.get? a = some o ∧ P o) → Body V Ps nw₀ (Back nw nw₀ is K)) : CN c lo nw (.ref f) Ps K := fun vs hvs s hs Q E q => by
  exact call_core ok cal hdp hvs hn is hp hnd (Er := fun _ => False) (fun V e1 e2 e3 e4 _ => h V e1 e2 e3 e4) hs q (E := E) (fun _ _ _ R => no_er R)
theorem CK.call (ok : Ok c) {f : Addr} {n : Nat} {Body : Vx → List AV → Nw → (AV → Nw → Prop) → Prop} (cal : Callee false c.V.w f n Body) (hdp : c.V.dp < 990) {Ps : List AV} (hn : Ps.length = n) (is : List Nat) {nw₀ : Nw} (hp : is.map (nth nw) = nw₀.map some) (hnd : is.Nodup) {K : AV → Nw → Prop} {Er : Heap → Prop}
    (h : ∀ V : Vx, V.w = c.V.w → V.dp = c.V.dp + 1 → V.un = c.V.un + 3 → (∀ a P, Ro c nw is a P → ∃ o, V.h₀.get? a = some o ∧ P o) → V.Er = Er → Body V Ps nw₀ (Back nw nw₀ is K))
    (er : ∀ B, (∀ e ∈ nw, e.1 ∉ adr nw₀ → ∃ o, B.get? e.1 = some o ∧ e.2 o) → Er B → c.V.Er B) : CK c lo nw (.ref f) Ps K := fun vs hvs s hs Q q => by
  refine call_core ok.toOkB cal hdp hvs hn is hp hnd h hs q (E := c.V.E) (fun e h' tk R => ok.pass lo nw s hs _ _ h' tk e R (fun a ha => ?_) fun B k hB => er B (fun e he hne => ?_) hB)
  · obtain ⟨x, hx, rfl⟩ := List.mem_map.mp ha
    exact List.mem_map_of_mem (f := (·.1)) (pick_mem hp x hx)
  · obtain ⟨A₀, B'⟩ := ok.B
    have hs1 := hs
    obtain ⟨hh, tk, m, ob, rfl, F, l, N, oo, nd⟩ := hs1
    have z := led_of B' F N (env := c.env) rfl _ (List.mem_map.mpr ⟨e, he, rfl⟩)
    exact ⟨_, k _ _ z.1 hne z.2.2, oo e he⟩
theorem CN.callX (ok : OkB c) {f : Addr} {n : Nat} {Body : Vx → List AV → Nw → (AV → Nw → Prop) → Prop} (cal : Callee false c.V.w f n Body) (hdp : c.V.dp < 990) {Ps : List AV} (hn : Ps.length = n) (is ks : List Nat) (k : Nat) {nw₀ nwr : Nw} (hp : is.map (nth nw) = nw₀.map some) {K : AV → Nw → Prop}
    (h : ∀ V : Vx, V.w = c.V.w → V.dp = c.V.dp + 1 → V.un = c.V.un + 3 → (∀ a P, Ro c nw is a P → ∃ o, V.h₀.get? a = some o ∧ P o) → Body V Ps nw₀ (fun P nw' => K P (nw' ++ nwr)))
    (hnd : autoParam ((is ++ ks).Nodup) Mine.aD) (hk : autoParam (∀ i ∈ is ++ ks, i < k) Mine.aD) (he : autoParam (ks.filterMap (nth nw) ++ nw.drop k = nwr) Mine.aR) : CN c lo nw (.ref f) Ps K := fun vs hvs s hs Q E q =>
  call_core0 ok cal hdp hvs hn is hp (List.nodup_append.mp hnd).1 (Er := fun _ => False) (fun V e1 e2 e3 e4 _ => h V e1 e2 e3 e4) hs (E := E) (fun P nw' v s' hK hv hst => q P _ v s' hK hv (by
    have z := keep_rest hp hs.nodup hnd hk
    rw [he] at z
    exact hst nwr z.1 z.2)) (fun _ _ _ R => no_er R)
theorem CK.callB (ok : Ok c) {f : Addr} {n : Nat} {Body : Vx → List AV → Nw → (AV → Nw → Prop) → Prop} (cal : Callee false c.V.w f n Body) (hdp : c.V.dp < 990) {Ps : List AV} (hn : Ps.length = n) (is ks : List Nat) (k : Nat) {nw₀ nwr : Nw} (hp : is.map (nth nw) = nw₀.map some) {K : AV → Nw → Prop} {Er : Heap → Prop}
    (h : ∀ V : Vx, V.w = c.V.w → V.dp = c.V.dp + 1 → V.un = c.V.un + 3 → (∀ a P, Ro c nw is a P → ∃ o, V.h₀.get? a = some o ∧ P o) → V.Er = Er → Body V Ps nw₀ (Back nw nw₀ is K))
    (er : ∀ B, Has B nwr → Er B → c.V.Er B)
    (hnd : autoParam ((is ++ ks).Nodup) Mine.aD) (hk : autoParam (∀ i ∈ is ++ ks, i < k) Mine.aD) (he : autoParam (ks.filterMap (nth nw) ++ nw.drop k = nwr) Mine.aR) : CK c lo nw (.ref f) Ps K := fun vs hvs s hs Q q => by
  have z := keep_rest hp hs.nodup hnd hk
  rw [he] at z
  exact CK.call ok cal hdp hn is hp (List.nodup_append.mp hnd).1 h (fun B hB hE => er B (fun e he => hB e (z.1 e he).1 (z.1 e he).2) hE) vs hvs s hs Q q
end
end Mine
end
section
open PySem PySem.W PySem.Calls PyProof.Rows
set_option maxRecDepth 100000
namespace Mine
noncomputable def P00 : Params := { strHash := fun _ => 0, shareClass := fun _ => 0, mergeTok := id, idOf := fun _ => 0, idOfShared := fun _ _ => 0, followText := fun _ => true, idOfImm := fun _ => 0 }
noncomputable def bodyF (f : Addr) : List Stmt := match (HA.hd.heap_1_39 P00).lookup f with
  | some ⟨_, _, .func fd, _⟩ => (match fd.body with | .stmts b => b | _ => [])
  | _ => []
noncomputable def scF (f : Addr) : Scope := match (HA.hd.heap_1_39 P00).lookup f with
  | some ⟨_, _, .func fd, _⟩ => fd.scope
  | _ => { kind := .function, names := [], isGenerator := false, isCoroutine := false }
noncomputable def qnF (f : Addr) : Str := match (HA.hd.heap_1_39 P00).lookup f with
  | some ⟨_, _, .func fd, _⟩ => fd.qualname
  | _ => Str.ofString ""
noncomputable def sx (b : Bool) (f : Addr) (nm : List Str) : Sx := ⟨b, qnF f, scF f, nm⟩
theorem vs1 : ∀ {vs : List Value}, vs.length = 1 → ∃ a, vs = [a]
  | [a], _ => ⟨a, rfl⟩
theorem vs2 {vs : List Value} (h : vs.length = 2) : ∃ a b, vs = [a, b] := by
  cases vs with
  | nil => cases h
  | cons a l => obtain ⟨b, rfl⟩ := vs1 (Nat.succ.inj h); exact ⟨a, b, rfl⟩
theorem vs3 {vs : List Value} (h : vs.length = 3) : ∃ a b c, vs = [a, b, c] := by
  cases vs with
  | nil => cases h
  | cons a l => obtain ⟨b, c, rfl⟩ := vs2 (Nat.succ.inj h); exact ⟨a, b, c, rfl⟩
theorem vs4 {vs : List Value} (h : vs.length = 4) : ∃ a b c d, vs = [a, b, c, d] := by
  cases vs with
  | nil => cases h
  | cons a l => obtain ⟨b, c, d, rfl⟩ := vs3 (Nat.succ.inj h); exact ⟨a, b, c, d, rfl⟩
theorem OpI.mulL {w : World} {x y : Int} (h1 : -(2 ^ 64) < x) (h2 : x < 2 ^ 64) : OpI w .Mult x y (x * y) := OpI.mul (IntMulOk.of_left (intBits_le_64 h1 h2))
theorem OpI.mulR {w : World} {x y : Int} (h1 : -(2 ^ 64) < y) (h2 : y < 2 ^ 64) : OpI w .Mult x y (x * y) := OpI.mul (IntMulOk.of_right (intBits_le_64 h1 h2))
theorem OpI.modP {w : World} {x y : Int} (h : 0 < y) : OpI w .Mod x y (x.fmod y) := OpI.mod (Int.ne_of_gt h)
theorem OpI.divP {w : World} {x y : Int} (h : 0 < y) (h2 : y < 1073741824) : OpI w .FloorDiv x y (x.fdiv y) := OpI.div (Int.ne_of_gt h) (PyProof.noPylong_small (by omega))
section
variable {c : Cx} {lo : Lo} {nw : Nw} {rest : List Stmt} {R : Fl → Lo → Nw → Prop}
theorem EE.len {x : Str} {xp pos : Pos} {e : Expr} {a : Addr} {ns : List Int} (hf : EE c lo nw (.Name x xp) (Is (.builtin "len"))) (ha : EE c lo nw e (Is (.ref a))) (hi : In c nw a (IntL ns)) (hl : ns.length ≤ 1000000)
    (he : autoParam (starEach [e] c.env = (false, eval e c.env) :: starEach [] c.env) Mine.aR)
    (hc : autoParam (eval (.Call (.Name x xp) [e] [] pos) c.env = (do callWith pos (← eval (.Name x xp) c.env) [] (backTo pos (starEach [e] c.env)) (backToKw pos (keywordEach [] c.env)))) Mine.aR) : EE c lo nw (.Call (.Name x xp) [e] [] pos) (It ns.length) := fun s hs Q E q => by
  refine Call_ (hf s hs _ _ fun v s1 hv hs1 => ?_) hc
  cases hv
  refine PyProof.Rows.callWith_builtin1 (args_cons (ha s1 hs1 _ _ fun v s2 hv hs2 => args_nil ?_) he) he rfl
  cases hv
  obtain ⟨o, e, p⟩ := hi.get hs2
  obtain ⟨vs, hl', hI⟩ := p.isList e
  exact len_ints_fit hl' hI (by omega) (q _ _ ⟨_, rfl⟩ hs2.tok)
theorem EE.iteT {t a b : Expr} {pos : Pos} {P : AV} (ht : Tv c lo nw t true) (h : EE c lo nw a P) : EE c lo nw (.IfExp t a b pos) P := EE.ite ht (fun _ => h) fun e => nomatch e
theorem EE.iteF {t a b : Expr} {pos : Pos} {P : AV} (ht : Tv c lo nw t false) (h : EE c lo nw b P) : EE c lo nw (.IfExp t a b pos) P := EE.ite ht (fun e => nomatch e) fun _ => h
theorem Tv.eqNil {a : Expr} {pos lp : Pos} {r : Addr} {ns : List Int} (ha : EE c lo nw a (Is (.ref r))) (hi : In c nw r (IntL ns)) (hu : c.V.un < 9800) (hm : autoParam (behindInMarks .Eq (.List [] lp) = false) Mine.aW) : Tv c lo nw (.Compare a [.Eq] [.List [] lp] pos) (decide (ns = [])) := fun s hs Q E q =>
  wpAny_isTrue_Compare1 (ha s hs _ _ fun v s1 hv hs1 => List_ (args_nil (by
    cases hv
    obtain ⟨m, nn, F, N, k1, k2⟩ := hs1.opn
    refine newList_K F N (fun D h' F' N' lt => ?_) (Nat.zero_le _)
    have hs2 := k2 h' s1.toks D _ (IntL []) F' N' lt ⟨[], 0, rfl, .nil⟩
    have hs3 := k1 h' s1.toks F' fun p hp => N' p (.tail _ hp)
    obtain ⟨o, e, p⟩ := hi.get hs3
    obtain ⟨vs, hl, hI⟩ := p.isList e
    have hl2 : h'.IsList D (List.toArray []) := News.isList N' (.head _)
    exact ke_eq_ints hl hl2 hI .nil (by show c.V.un + 64 < cLine; unfold cLine; lia) (wpAny_truthy_bool (q _ _ rfl hs3))))) hm
theorem EK.app {o e : Expr} {apos pos : Pos} {a : Addr} {i : Nat} {ns : List Int} {x : Int} {K : AV → Nw → Prop} (ho : EE c lo nw o (Is (.ref a))) (he : EE c lo nw e (It x)) (hi : nth nw i = some (a, IntL ns)) (hl : ns.length ≤ 1000000) (k : K (Is .none) (put nw i (a, IntL (ns ++ [x]))))
    (hs' : autoParam (starEach [e] c.env = (false, eval e c.env) :: starEach [] c.env) Mine.aR)
    {pl : Sem Bool} (hc : autoParam (eval (.Call (.Attribute o (Str.ofString "append") apos) [e] [] pos) c.env = (do
      let ov ← eval o c.env
      standAt apos.atName
      let (f, first) ← holding [ov] (getMethod ov (Str.ofString "append") pl)
      callWith pos f first (backTo pos (starEach [e] c.env)) [])) Mine.aR) : EK c lo nw (.Call (.Attribute o (Str.ofString "append") apos) [e] [] pos) K := fun s hs Q q => by
  refine MethodCall_ (pl := pl) (ho s hs _ _ fun v s1 hv hs1 => ?_) hc
  cases hv
  obtain ⟨oo, e1, ⟨vs, n, rfl, hI⟩, hL, h0⟩ := hs1.has (nth_mem hi)
  refine listMethod_K (h₀ := c.V.h₀) (L := c.V.L) (news := [(a, listOf (List.toArray vs) n)]) (its := List.toArray vs) (n := n) (fun p hp => by rw [List.mem_singleton.mp hp]; exact ⟨e1, hL, h0⟩) (.head _) F.slot_list_append F.type_list_append ?_
  refine PyProof.Rows.callWith_method1 (args_cons (he s1 hs1 _ _ fun v s2 hv hs2 => args_nil ?_) hs') hs' rfl
  obtain ⟨t, rfl⟩ := hv
  obtain ⟨m, nn, o2, g, F, N, ⟨vs2, n2, rfl, hI2⟩, hm, _, U, fin⟩ := hs2.upd hi
  refine append_K F N (U _) (fun h' F' N' => q _ _ _ _ k rfl (fin h' _ _ (IntL (ns ++ [x])) F' N' ⟨vs2 ++ [.int x t], n2 + 1, by simp, hI2.append (.cons _ _ .nil)⟩)) (by rw [sizeLine_eq, List.size_toArray, hI2.length]; lia)
end
end Mine
end
section
open PySem PySem.W PySem.Calls PyProof.Rows
set_option maxRecDepth 100000
namespace Mine
section
variable {prog : Program} {w : World} {A : Around} {s : Shared} {h₀ : Heap} {L : Addr} {m : Str → Option Value} {env : Env}
theorem compRest_of {elt : Expr} {x : Str} {scope : Scope} {cl : List (Str × Addr)} {S : List (Addr × Obj) → Prop} {P : Nat → Value → Prop} {Fin : List Value → List (Addr × Obj) → Prop} {n : Nat}
    (J : Nat → List Value → List (Addr × Obj) → Prop)
    (turn : ∀ i ys nx, i < n → J i ys nx → ∀ v I oI C oC D m₂ h tk (E' : Value → Shared → Prop), P i v → LCg.NsObj oC m₂ → m₂ x = some v → Fr h₀ L h m → News h₀ L h ((I, oI) :: (C, oC) :: (D, LCg.lst ys) :: nx) → LCg.Off3 I C D nx → ((@Ne Nat I C) ∧ (@Ne Nat I D) ∧ (@Ne Nat C D)) →
      wpAny (model prog w) A (eval elt (compEnvC scope cl C env)) (LCg.CompEnd h₀ L m { s with heap := h, toks := tk } I oI C oC D (LCg.lst ys) S (fun y nx' => J (i + 1) (ys ++ [y]) nx')) E' { s with heap := h, toks := tk })
    (fin : ∀ ys nx, J n ys nx → Fin ys nx) : ∀ k i ys nx, i + k = n → J i ys nx → LCg.CompRest prog w A h₀ L m env elt x scope cl s S P Fin k i ys nx
  | 0, i, ys, nx, e, hJ => fin ys nx (by have : i = n := by lia
                                         exact this ▸ hJ)
  | k + 1, i, ys, nx, e, hJ => fun v I oI C oC D m₂ h tk E' hP hC hx F N off ne =>
    wpAny_mono (turn i ys nx (by lia) hJ v I oI C oC D m₂ h tk E' hP hC hx F N off ne) (fun y s₂ q => by
      obtain ⟨h', tk', nx', e', F', N', o', hS, r⟩ := q
      exact ⟨h', tk', nx', e', F', N', o', hS, compRest_of J turn fin k (i + 1) (ys ++ [y]) nx' (by lia) r⟩) fun _ _ e => e
end
end Mine
end
section
open PySem PySem.W PySem.Calls PyProof.Rows
set_option maxRecDepth 100000
namespace Mine
noncomputable def Cx.fix (c : Cx) (m : Str → Option Value) : Cx := ⟨c.S, { c.V with mf := fun m' => m' = m }⟩
section
variable {c : Cx} {lo : Lo} {nw : Nw} {rest : List Stmt} {R : Fl → Lo → Nw → Prop}
theorem OkB.fix (ok : OkB c) (m : Str → Option Value) : OkB (c.fix m) := ⟨ok.fn, ok.X, ok.X0, ok.T, ok.B, ok.lk⟩
theorem EvN.call2 (ok : OkB c) {env : Env} {x : Str} {xp pos : Pos} {e1 e2 : Expr} {f : Value} {P1 P2 : AV} {K : AV → Nw → Prop} (hf : Ev c lo nw (eval (.Name x xp) env) (Is f)) (hk : keepIn (HA.hd.heap_1_39 c.V.w.params) f = true) (h1 : Ev c lo nw (eval e1 env) P1) (h2 : Ev c lo nw (eval e2 env) P2) (h : CN c lo nw f [P1, P2] K)
    (he1 : autoParam (starEach [e1, e2] env = (false, eval e1 env) :: starEach [e2] env) Mine.aR) (he2 : autoParam (starEach [e2] env = (false, eval e2 env) :: starEach [] env) Mine.aR) (hp : autoParam (((backTo pos (starEach [e2] env)).any fun x => x.1) = false) Mine.aR)
    (hc : autoParam (eval (.Call (.Name x xp) [e1, e2] [] pos) env = (do callWith pos (← eval (.Name x xp) env) [] (backTo pos (starEach [e1, e2] env)) (backToKw pos (keywordEach [] env)))) Mine.aR) :
    EvN c lo nw (eval (.Call (.Name x xp) [e1, e2] [] pos) env) K := fun s hs Q E q => by
  refine Call_ (hf s hs _ _ fun v s1 hv hs1 => ?_) hc
  cases hv
  refine callWith_K (h₀ := c.V.h₀) ok.X0 hk (args_cons (h1 s1 hs1 _ _ fun v2 s2 hv2 hs2 => args_cons (h2 s2 hs2 _ _ fun v3 s3 hv3 hs3 => args_nil ⟨?_, ?_⟩) he2) he1) he1 hp
  · obtain ⟨m, ns, F, N, _⟩ := hs3.opn
    exact ok.X0.keeps F.keep
  · rw [List.nil_append]; exact h _ (.cons hv2 (.cons hv3 .nil)) s3 hs3 Q E q
theorem EvN.binR {env : Env} {a b : Expr} {op : Operator} {pos : Pos} {K : AV → Nw → Prop} {x : Int} (ha : Ev c lo nw (eval a env) (It x)) (h : EvN c lo nw (eval b env) fun P nw2 => ∃ y, P = It y ∧ ∃ z, OpI c.V.w op x y z ∧ K (It z) nw2) : EvN c lo nw (eval (.BinOp a op b pos) env) K := fun s hs Q E q =>
  wpAny_BinOp (ha s hs _ _ fun v s1 hP hs1 => h s1 hs1 _ _ fun P' nw2 v' s2 ⟨y, eP', z, ho, k⟩ hP' hs2 => by
    subst eP'
    obtain ⟨t, rfl⟩ := hP
    obtain ⟨u, rfl⟩ := hP'
    exact ho _ _ _ _ _ _ fun t' tk => q _ _ _ _ k ⟨_, rfl⟩ hs2.tok)
theorem EvN.k {α : Type} {T : Sem α} {K : (α → Prop) → Nw → Prop} (h : EvN c lo nw T K) : EvK c lo nw T K := fun s hs Q q => h s hs Q _ q
theorem Ev.cint {env : Env} {x : Int} {k : Nat} {pos : Pos} : Ev c lo nw (eval (.Constant (.int x) k pos) env) (It x) := fun s hs Q E q => wpAny_Constant_int (q _ _ ⟨_, rfl⟩ hs.tok)
theorem Ev.cglob (ok : OkB c) {env : Env} {C : Addr} {scope : Scope} {cl : List (Str × Addr)} {x : Str} {pos : Pos} {v : Value} (e : nsIn (HA.hd.heap_1_39 c.V.w.params) mainGlobals x = some (some v)) (hg : autoParam (env.globals = mainGlobals) Mine.aR) (hk : autoParam ((compEnvC scope cl C env).scope.kind = .function) Mine.aR) (hx : autoParam ((compEnvC scope cl C env).kindOf x = some .globalImplicit) Mine.aR) (hd' : autoParam ((x == Str.ofString "__debug__") = false) Mine.aDk) :
    Ev c lo nw (eval (.Name x pos) (compEnvC scope cl C env)) (Is v) := fun s hs Q E q => by
  obtain ⟨m, ns, F, N, k1, _⟩ := hs.opn
  obtain ⟨p, loose, mean, mg, mb, _, T0⟩ := ok.T
  exact LCgL.ld_global F ok.X0 T0 e (q v s rfl hs) hg hk hx hd'
theorem Ev.ccell {env : Env} {C : Addr} {scope : Scope} {cl : List (Str × Addr)} {x : Str} {pos : Pos} {i : Nat} {a : Addr} {v : Value} (hl : cl.lookup x = some a) (hi : nth nw i = some (a, CellP v)) (hk : autoParam ((compEnvC scope cl C env).scope.kind = .function) Mine.aR) (hx : autoParam ((compEnvC scope cl C env).kindOf x = some .cell) Mine.aR) (hd' : autoParam ((x == Str.ofString "__debug__") = false) Mine.aDk) :
    Ev c lo nw (eval (.Name x pos) (compEnvC scope cl C env)) (Is v) := fun s hs Q E q => by
  obtain ⟨o2, e2, h2, h3⟩ := hs.has (nth_mem hi)
  exact kcf_cell (news := [(a, o2)]) (h₀ := c.V.h₀) (L := c.V.L) (fun p hp => by rw [List.mem_singleton.mp hp]; exact ⟨e2, h3⟩) hl (.head _) h2 (q v s rfl hs) hk hx hd'
theorem Ex.compR (ok : Ok c) {y x rn : Str} {py px rp cp pos spos : Pos} {iy : Nat} {elt e : Expr} {scope : Scope} {cl : List (Str × Addr)} (hy : nth c.S.nm iy = some y) (hr : ∀ m, EE (c.fix m) lo nw (.Name rn rp) (Is (.type "range")))
    (hsw : swapsWith (.ListComp elt [⟨.Name x px, .Call (.Name rn rp) [e] [] cp, [], 0⟩] scope pos) (some (.Name y py)) spos.line c.env = pure true)
    (hclos : closureFor scope c.env = pure cl) (hcell : ∀ z ∈ scope.names, z.2 ≠ .cell) (hkind : scope.kind = .function)
    (hnames : ∀ z ∈ scope.names, z.2 = .local → scope.names.lookup z.1 = some .local) (hx : scope.names.lookup x = some .local)
    (h : ∀ m, EvN (c.fix m) lo nw (eval e c.env) fun P nw1 => ∃ n : Int, P = It n ∧ 0 ≤ n ∧ n ≤ 1000 ∧ ∃ J : Nat → List Int → Nw → Prop, J 0 [] nw1 ∧
      (∀ I oI C oC D oD i ys nw, i < n.toNat → J i ys nw → EvN (c.fix m) lo ((I, Eo oI) :: (C, Eo oC) :: (D, Eo oD) :: nw) (eval elt (compEnvC scope cl C c.env)) fun P nw' => ∃ z nw2, P = It z ∧ Sel nw' ((I, Eo oI) :: (C, Eo oC) :: (D, Eo oD) :: nw2) ∧ J (i + 1) (ys ++ [z]) nw2) ∧
      ∀ ys nw D, J n.toNat ys nw → Ex c (put lo iy (some (Is (.ref D)))) ((D, IntL ys) :: nw) rest R)
    (he : autoParam (starEach [e] c.env = (false, eval e c.env) :: starEach [] c.env) Mine.aR)
    (hc : autoParam (eval (.Call (.Name rn rp) [e] [] cp) c.env = (do callWith cp (← eval (.Name rn rp) c.env) [] (backTo cp (starEach [e] c.env)) (backToKw cp (keywordEach [] c.env)))) Mine.aR) (hf : autoParam (∀ x, foldedSetIterable (.Call (.Name rn rp) [e] [] cp) c.env x = pure x) Mine.aIr) :
    Ex c lo nw (.Assign [.Name y py] (.ListComp elt [⟨.Name x px, .Call (.Name rn rp) [e] [] cp, [], 0⟩] scope pos) spos :: rest) R := Ex.sk fun s hs Q q => by
  obtain ⟨hh, tk0, m, ob, rfl, F, l, N, oo, nd⟩ := hs
  have l' : LocC (c.fix m) lo m := ⟨l.1, rfl⟩
  have hs1 : St (c.fix m) lo nw { c.V.s₀ with heap := hh, toks := tk0 } := ⟨hh, tk0, m, ob, rfl, F, l', N, oo, nd⟩
  have hm : ∀ {nw : Nw} {s : Shared}, St (c.fix m) lo nw s → ∃ (h : Heap) (tk : Nat) (ob : Addr → Obj), s = { c.V.s₀ with heap := h, toks := tk } ∧ Fr c.V.h₀ c.V.L h m ∧ News c.V.h₀ c.V.L h (nw.map fun e => (e.1, ob e.1)) ∧ (∀ e ∈ nw, e.2 (ob e.1)) ∧ (adr nw).Nodup := fun ⟨hh, tk0, m', ob, e, F, l, N, oo, nd⟩ => by
    have : m' = m := l.2
    subst this
    exact ⟨hh, tk0, ob, e, F, N, oo, nd⟩
  refine LCg.Assign_ListComp_U (L := c.V.L) F rfl hsw hclos hcell hkind hnames hx (ok.lk y (nth_mem hy)).1 ?_ ?_ hf
  · show (c.S.sc.kind == .class || _) = false
    rw [ok.fn]; rfl
  refine Call_ (hr m _ hs1 _ _ fun v s1 hv hs1 => ?_) hc
  cases hv
  refine PySem.Pv.callWith_type1 (args_cons (h m s1 hs1 _ _ fun P nw1 v s2 ⟨n, e, n0, n1, J, hJ, turn, done⟩ hP hs2 => args_nil ?_) he) he rfl
  subst e
  obtain ⟨t, rfl⟩ := hP
  obtain ⟨h2, tk2, ob2, rfl, F2, N2, oo2, nd2⟩ := hm hs2
  refine range1_rows F2 N2 fun h3 tk3 t1 u1 v1 hr3 F3 N3 kall => ?_
  have hn' : Builtin.Range.rangeSize 0 n 1 = ((n.toNat : Nat) : Int) := by
    have := rangeSize_nat 0 n
    rwa [Int.sub_zero] at this
  refine LCg.CompSrc.range (n := n.toNat) rfl F3 N3 hr3 (small_one (by decide) (by decide) (by lia) (by lia)) hn' (by rw [sizeLine_eq]; omega) ?_
  intro g
  refine compRest_of (fun i ysv nx => ∃ ys nw, IntsAre ysv ys ∧ J i ys nw ∧ ∃ ob : Addr → Obj, nx = nw.map (fun e => (e.1, ob e.1)) ∧ (∀ e ∈ nw, e.2 (ob e.1)) ∧ (adr nw).Nodup) ?_ ?_ _ 0 [] _ (Nat.zero_add _) ⟨[], nw1, .nil, hJ, ob2, rfl, oo2, nd2⟩
  · rintro i ysv nx hi ⟨ys, nw, hI, hJ, ob, rfl, oo, nd⟩ v I oI C oC D m₂ h tk E' hv hC hxv F N off ⟨ne1, ne2, ne3⟩
    have offm := off.mem
    have hst : St (c.fix m) lo ((I, Eo oI) :: (C, Eo oC) :: (D, Eo (LCg.lst ysv)) :: nw) { c.V.s₀ with heap := h, toks := tk } := by
      refine St.build (c := c.fix m) F l' (fun e he => ?_) ?_
      · rcases List.mem_cons.mp he with rfl | he
        · have z := N _ (.head _); exact ⟨⟨_, z.1, rfl⟩, z.2⟩
        rcases List.mem_cons.mp he with rfl | he
        · have z := N _ (.tail _ (.head _)); exact ⟨⟨_, z.1, rfl⟩, z.2⟩
        rcases List.mem_cons.mp he with rfl | he
        · have z := N _ (.tail _ (.tail _ (.head _))); exact ⟨⟨_, z.1, rfl⟩, z.2⟩
        · have z := N _ (.tail _ (.tail _ (.tail _ (List.mem_map.mpr ⟨e, he, rfl⟩))))
          exact ⟨⟨_, z.1, oo e he⟩, z.2⟩
      · have k : ∀ a ∈ adr nw, a ≠ I ∧ a ≠ C ∧ a ≠ D := fun a ha => by
          obtain ⟨x, hx, rfl⟩ := List.mem_map.mp ha
          exact offm (x.1, ob x.1) (List.mem_map.mpr ⟨x, hx, rfl⟩)
        refine List.nodup_cons.mpr ⟨fun q => ?_, List.nodup_cons.mpr ⟨fun q => ?_, List.nodup_cons.mpr ⟨fun q => ?_, nd⟩⟩⟩
        · rcases List.mem_cons.mp q with q | q
          · exact ne1 q
          rcases List.mem_cons.mp q with q | q
          · exact ne2 q
          · exact (k _ q).1 rfl
        · rcases List.mem_cons.mp q with q | q
          · exact ne3 q
          · exact (k _ q).2.1 rfl
        · exact (k _ q).2.2 rfl
    refine turn I oI C oC D _ i ys nw hi hJ _ hst _ _ fun P nw' v' s' ⟨z, nw2, eP, hsel, hJ2⟩ hP' hs' => ?_
    subst eP
    obtain ⟨t', rfl⟩ := hP'
    obtain ⟨h4, tk4, ob4, rfl, F4, N4, oo4, nd4⟩ := hm (hs'.sel hsel)
    have zI := oo4 _ (.head _)
    have zC := oo4 _ (.tail _ (.head _))
    have zD := oo4 _ (.tail _ (.tail _ (.head _)))
    have d1 := List.nodup_cons.mp nd4
    have d2 := List.nodup_cons.mp d1.2
    have d3 := List.nodup_cons.mp d2.2
    refine ⟨h4, tk4, nw2.map (fun e => (e.1, ob4 e.1)), rfl, F4, fun p hp => ?_, LCg.Off3.of fun p hp => ?_, trivial, ys ++ [z], nw2, hI.append (.cons _ _ .nil), hJ2, ob4, rfl, fun e he => oo4 e (.tail _ (.tail _ (.tail _ he))), d3.2⟩
    · rcases List.mem_cons.mp hp with rfl | hp
      · have := N4 (I, ob4 I) (.head _); rw [show ob4 I = oI from zI] at this; exact this
      rcases List.mem_cons.mp hp with rfl | hp
      · have := N4 (C, ob4 C) (.tail _ (.head _)); rw [show ob4 C = oC from zC] at this; exact this
      rcases List.mem_cons.mp hp with rfl | hp
      · have := N4 (D, ob4 D) (.tail _ (.tail _ (.head _))); rw [show ob4 D = _ from zD] at this; exact this
      · exact N4 p (.tail _ (.tail _ (.tail _ hp)))
    · obtain ⟨e, he, rfl⟩ := List.mem_map.mp hp
      have ha : e.1 ∈ adr nw2 := List.mem_map_of_mem (f := (·.1)) he
      exact ⟨fun q => d1.1 (q ▸ .tail _ (.tail _ ha)), fun q => d2.1 (q ▸ .tail _ ha), fun q => d3.1 (q ▸ ha)⟩
  · rintro ysv nx ⟨ys, nw, hI, hJ, ob, rfl, oo, nd⟩
    intro D h tk F N off
    have l3 : LocC c (put lo iy (some (Is (.ref D)))) (fun z => if z = y then some (.ref D) else m z) := ⟨l.1.store ok.nd hy rfl, ok.mf _⟩
    refine q _ _ _ (done ys nw D hJ) (St.build F l3 (fun e he => ?_) ?_)
    · rcases List.mem_cons.mp he with rfl | he
      · have z := N _ (.head _); exact ⟨⟨_, z.1, ysv, ysv.length, rfl, hI⟩, z.2⟩
      · have z := N _ (.tail _ (List.mem_map.mpr ⟨e, he, rfl⟩))
        exact ⟨⟨_, z.1, oo e he⟩, z.2⟩
    · refine List.nodup_cons.mpr ⟨fun q => ?_, nd⟩
      obtain ⟨x, hx, hxe⟩ := List.mem_map.mp q
      have := LCg.Off3.one (I := 0) (C := 0) (D := D) (l := []) trivial
      have key : ∀ {l : List (Addr × Obj)}, LCg.Off1 D l → ∀ p ∈ l, p.1 ≠ D := by
        intro l
        induction l with
        | nil => intro _ p hp; cases hp
        | cons a l ih => intro h p hp; rcases List.mem_cons.mp hp with rfl | hp; exact h.1; exact ih h.2 p hp
      exact key off _ (List.mem_map.mpr ⟨x, hx, rfl⟩) hxe
end
end Mine
end
section
open PySem PySem.W PySem.Calls PyProof.Rows
namespace Mine
noncomputable def bitI (number many : Int) (isCode : Bool) (k : Int) : Int := (number.fdiv (2 ^ (if isCode then many - 1 - k else k).toNat)).fmod 2
noncomputable def putI (number many : Int) (isCode : Bool) : List Int := (rangeKs 0 many.toNat).map (bitI number many isCode)
theorem putI_length (number many : Int) (isCode : Bool) : (putI number many isCode).length = many.toNat := by simp [putI, rangeKs_length]
noncomputable def signI (octet : Int) : List Int := if octet < 144 then putI (48 + octet) 8 true else putI (400 + octet - 144) 9 true
noncomputable def copyI (size back : Int) : List Int := putI (size - 2) 7 true ++ putI (if back < 5 then back - 1 else 4 + (back - 5).fdiv 2) 5 true ++ (if back > 4 then putI ((back - 5).fmod 2) 1 false else [])
theorem signI_length {octet : Int} : (signI octet).length = if octet < 144 then 8 else 9 := by unfold signI; split <;> simp [putI_length]
theorem signI_le (octet : Int) : (signI octet).length ≤ 9 := by rw [signI_length]; split <;> lia
theorem copyI_le (size back : Int) : (copyI size back).length ≤ 13 := by unfold copyI; simp only [List.length_append, putI_length]; split <;> simp [putI_length]
end Mine
end
section
open PySem PySem.W PySem.Calls PyProof.Rows
namespace Mine
structure WS where
  bits : List Int
  content : List Int
  back : Int
inductive Item where
  | lit (o : Int)
  | cp (size back : Int)
noncomputable def Item.enc : Item → List Int
  | .lit o => signI o
  | .cp s b => copyI s b
noncomputable def copyStep (back : Int) (c : List Int) : List Int := c ++ [c.getD (-back + (c.length : Nat)).toNat 0]
noncomputable def copyN (back : Int) : Nat → List Int → List Int
  | 0, c => c
  | n + 1, c => copyStep back (copyN back n c)
noncomputable def Item.app (c : List Int) : Item → List Int
  | .lit o => c ++ [o]
  | .cp s b => copyN b s.toNat c
noncomputable def Item.ok (c : List Int) : Item → Prop
  | .lit o => 0 ≤ o ∧ o < 256
  | .cp s b => 3 ≤ s ∧ s ≤ 10 ∧ 1 ≤ b ∧ b ≤ 8 ∧ b ≤ c.length
noncomputable def Item.far (k : Int) : Item → Int
  | .lit _ => k
  | .cp _ b => if b > k then b else k
noncomputable def Item.run (st : WS) (it : Item) : WS := ⟨st.bits ++ it.enc, it.app st.content, it.far st.back⟩
inductive Items : WS → List Item → WS → Prop
  | nil (st : WS) : Items st [] st
  | snoc {st st' : WS} {l : List Item} (it : Item) : Items st l st' → it.ok st'.content → Items st (l ++ [it]) (it.run st')
noncomputable def lastI (last : Bool) : Int := if last = true then 1 else 0
noncomputable def padI (n : Nat) : List Int := List.replicate ((-(n : Int)).fmod 8).toNat 0
noncomputable def plainBits (bits : List Int) (last : Bool) (some : List Int) : List Int :=
  (bits ++ putI (lastI last) 1 false ++ putI 0 2 false) ++ padI (bits ++ putI (lastI last) 1 false ++ putI 0 2 false).length ++ putI some.length 16 false ++ putI (65535 - some.length) 16 false ++ some.flatMap fun x => putI x 8 false
inductive BlockR (last : Bool) (st st' : WS) : Prop
  | plain (some : List Int) : some.length ≤ 5 → (∀ x ∈ some, 65 ≤ x ∧ x < 91) → st' = ⟨plainBits st.bits last some, st.content ++ some, st.back⟩ → BlockR last st st'
  | fixed (l : List Item) (st1 : WS) : l.length ≤ 5 → Items ⟨st.bits ++ putI (lastI last) 1 false ++ putI 1 2 false, st.content, st.back⟩ l st1 → st' = ⟨st1.bits ++ putI 0 7 true, st1.content, st1.back⟩ → BlockR last st st'
theorem copyStep_length (back : Int) (c : List Int) : (copyStep back c).length = c.length + 1 := by simp [copyStep]
theorem copyN_length (back : Int) : ∀ (n : Nat) (c : List Int), (copyN back n c).length = c.length + n
  | 0, _ => rfl
  | n + 1, c => by rw [copyN, copyStep_length, copyN_length back n c]; lia
theorem Item.enc_le (it : Item) : it.enc.length ≤ 13 := by
  cases it with
  | lit o => exact Nat.le_trans (signI_le o) (by decide)
  | cp s b => exact copyI_le s b
theorem Item.app_le {c : List Int} {it : Item} (h : it.ok c) : (it.app c).length ≤ c.length + 10 := by
  cases it with
  | lit o => simp [Item.app]
  | cp s b => obtain ⟨h1, h2, _⟩ := h; rw [Item.app, copyN_length]; lia
theorem Item.far_le {k : Int} {c : List Int} {it : Item} (h : it.ok c) (hk : 0 ≤ k ∧ k ≤ 8) : 0 ≤ it.far k ∧ it.far k ≤ 8 := by
  cases it with
  | lit o => exact hk
  | cp s b => obtain ⟨_, _, h3, h4, _⟩ := h; simp only [Item.far]; split <;> lia
theorem Items.le {st st' : WS} {l : List Item} (h : Items st l st') : st'.bits.length ≤ st.bits.length + 13 * l.length ∧ st'.content.length ≤ st.content.length + 10 * l.length := by
  induction h with
  | nil => simp
  | snoc it _ hok ih =>
    have h1 := it.enc_le
    have h2 := Item.app_le hok
    simp only [Item.run, List.length_append, List.length_cons, List.length_nil]
    lia
theorem Items.far {st st' : WS} {l : List Item} (h : Items st l st') (hk : 0 ≤ st.back ∧ st.back ≤ 8) : 0 ≤ st'.back ∧ st'.back ≤ 8 := by
  induction h with
  | nil => exact hk
  | snoc it _ hok ih => exact Item.far_le hok ih
theorem padI_len (n : Nat) : (padI n).length = ((-(n : Int)).fmod 8).toNat := by simp [padI]
theorem padI_le (n : Nat) : (padI n).length ≤ 7 := by
  simp only [padI, List.length_replicate]
  have := Int.fmod_lt_of_pos (-(n : Int)) (by decide : (0 : Int) < 8)
  omega
theorem flat_le (some : List Int) : (some.flatMap fun x => putI x 8 false).length = 8 * some.length := by
  induction some with
  | nil => rfl
  | cons x r ih => simp only [List.flatMap_cons, List.length_append, ih, putI_length, List.length_cons]; lia
theorem plainBits_le (bits : List Int) (last : Bool) (some : List Int) (h : some.length ≤ 5) : (plainBits bits last some).length ≤ bits.length + 90 := by
  have := padI_le (bits ++ putI (lastI last) 1 false ++ putI 0 2 false).length
  simp only [plainBits, List.length_append, putI_length, flat_le] at *
  lia
theorem BlockR.le {last : Bool} {st st' : WS} (h : BlockR last st st') : st'.bits.length ≤ st.bits.length + 100 ∧ st'.content.length ≤ st.content.length + 50 := by
  cases h with
  | plain some h1 h2 e =>
    subst e
    have := plainBits_le st.bits last some h1
    simp only [List.length_append]; lia
  | fixed l st1 h1 h2 e =>
    subst e
    have := h2.le
    simp only [List.length_append, putI_length] at *
    lia
theorem BlockR.far {last : Bool} {st st' : WS} (h : BlockR last st st') (hk : 0 ≤ st.back ∧ st.back ≤ 8) : 0 ≤ st'.back ∧ st'.back ≤ 8 := by
  cases h with
  | plain some h1 h2 e => subst e; exact hk
  | fixed l st1 h1 h2 e => subst e; exact h2.far hk
theorem Items.lit {st st' : WS} {l : List Item} {o : Int} (h : Items st l st') (ho : 0 ≤ o ∧ o < 256) : Items st (l ++ [.lit o]) (Item.run st' (.lit o)) := .snoc (.lit o) h ho
theorem Items.cp {st st' : WS} {l : List Item} {s b : Int} (h : Items st l st') (ho : 3 ≤ s ∧ s ≤ 10 ∧ 1 ≤ b ∧ b ≤ 8 ∧ b ≤ st'.content.length) : Items st (l ++ [.cp s b]) (Item.run st' (.cp s b)) := .snoc (.cp s b) h ho
end Mine
end
section
open PySem PySem.W PySem.Calls PyProof.Rows
namespace Mine
structure RS where
  a : Int
  l : Int
  m : Int
noncomputable def rdBits (ks : List Int) (st : RS) (k : Int) : Option (Int × RS) :=
  if st.m < k then
    if (ks.length : Int) ≤ st.a then none
    else some (Builtin.bitAnd (Builtin.bitOr st.l (ks.getD st.a.toNat 0 * 2 ^ st.m.toNat)) (1 * 2 ^ k.toNat - 1), ⟨st.a + 1, (Builtin.bitOr st.l (ks.getD st.a.toNat 0 * 2 ^ st.m.toNat)).fdiv (2 ^ k.toNat), st.m + 8 - k⟩)
  else some (Builtin.bitAnd st.l (1 * 2 ^ k.toNat - 1), ⟨st.a, st.l.fdiv (2 ^ k.toNat), st.m - k⟩)
end Mine
end
section
open PySem PySem.W PySem.Calls PyProof.Rows
set_option maxRecDepth 100000
namespace Mine
structure Rg where
  a1 : Addr := 0
  a2 : Addr := 0
  i1 : Int := 0
  i2 : Int := 0
  i3 : Int := 0
  l1 : List Int := []
  l2 : List Int := []
  p1 : Option AV := none
  p2 : Option AV := none
  p3 : Option AV := none
  p4 : Option AV := none
  p5 : Option AV := none
  wl : List Item := []
  ws : WS := ⟨[], [], 0⟩
  rs : RS := ⟨0, 0, 0⟩
noncomputable def TendS (nx : Nw) (L : Rg → Lo) (N : Rg → Nw) (I : Rg → Prop) (lo : Lo) (nw : Nw) : Prop := ∃ x, lo = L x ∧ Sel nw (nx ++ N x) ∧ I x
section
variable {c : Cx} {lo : Lo} {nw : Nw} {rest : List Stmt} {R : Fl → Lo → Nw → Prop}
theorem trn_imp {T T' : Lo → Nw → Prop} (h : ∀ lo nw, T lo nw → T' lo nw) {fl : Fl} {lo : Lo} {nw : Nw} (x : trn c rest R T fl lo nw) : trn c rest R T' fl lo nw := by
  cases fl with
  | next => exact h _ _ x
  | cont => exact h _ _ x
  | brk => exact x
  | ret P => exact x
theorem Ex.imp {l : List Stmt} {R R' : Fl → Lo → Nw → Prop} (h : Ex c lo nw l R) (k : ∀ fl lo nw, R fl lo nw → R' fl lo nw) : Ex c lo nw l R' := fun s hs Q q => h s hs Q fun fl lo' nw' f s' hR => q fl lo' nw' f s' (k _ _ _ hR)
theorem Lp.mk {ix : Nat} {body : List Stmt} {PP : Nat → AV} {n : Nat} {nx : Nw} (L : Rg → Lo) (N : Rg → Nw) (Inv : Nat → Rg → Prop) (x0 : Rg) (i0 : Inv 0 x0)
    (turn : ∀ I oI i x, i < n → Inv i x → Ex c (put (L x) ix (some (PP i))) ((I, Eo oI) :: nx ++ N x) body (trn c rest R (TendS ((I, Eo oI) :: nx) L N (Inv (i + 1))))) (done : ∀ x, Inv n x → Ex c (L x) (nx ++ N x) rest R) (h0 : autoParam (lo = L x0) Mine.aR) (n0 : autoParam (nw = N x0) Mine.aR) : Lp c ix body rest R PP n nx lo nw :=
  ⟨fun i lo nw => ∃ x, lo = L x ∧ nw = N x ∧ Inv i x, ⟨x0, h0, n0, i0⟩, fun I oI i lo nw hi ⟨x, e1, e2, h⟩ => by
    subst e1 e2
    exact (turn I oI i x hi h).imp fun fl lo nw z => trn_imp (fun lo nw ⟨y, e, hs, hI⟩ => ⟨N y, hs, y, e, rfl, hI⟩) z, fun lo nw ⟨x, e1, e2, h⟩ => by subst e1 e2; exact done x h⟩
theorem Ex.tendS {nx : Nw} {L : Rg → Lo} {N : Rg → Nw} {I : Rg → Prop} (x : Rg) (is : List Nat) (k : Nat) (h : I x) (hl : autoParam (lo = L x) Mine.aR) (n : autoParam (is.Nodup) Mine.aD) (hk : autoParam (∀ i ∈ is, i < k) Mine.aD) (e : autoParam (is.filterMap (nth nw) ++ nw.drop k = nx ++ N x) Mine.aR) : Ex c lo nw [] (trn c rest R (TendS nx L N I)) :=
  Ex.nil (R := trn c rest R (TendS nx L N I)) ⟨x, hl, ⟨is, k, n, hk, e⟩, h⟩
theorem EK.cat1 {a e : Expr} {p pos : Pos} {r : Addr} {ns : List Int} {x : Int} {K : AV → Nw → Prop} (ha : EE c lo nw a (Is (.ref r))) (hi : In c nw r (IntL ns)) (he : EE c lo nw e (It x)) (hl : ns.length ≤ 100000) (k : ∀ D, K (Is (.ref D)) ((D, IntL (ns ++ [x])) :: nw))
    (hs' : autoParam (starEach [e] c.env = (false, eval e c.env) :: starEach [] c.env) Mine.aR) : EK c lo nw (.BinOp a .Add (.List [e] p) pos) K := fun s hs Q q =>
  wpAny_BinOp (ha s hs _ _ fun v s1 hP hs1 => List_ (args_cons (he s1 hs1 _ _ fun v2 s2 hP2 hs2 => args_nil (by
    cases hP
    obtain ⟨t, rfl⟩ := hP2
    obtain ⟨m, nn, F, N, k1, k2⟩ := hs2.opn
    refine newList_K F N (fun D h' F' N' lt => ?_) (by show 1 ≤ sizeLine; rw [sizeLine_eq]; decide)
    have hs3 := k2 h' s2.toks D _ (IntL [x]) F' N' lt ⟨[.int x t], 0, rfl, .cons _ _ .nil⟩
    obtain ⟨o1, e1, p1⟩ := hi.get (k1 h' s2.toks F' fun p hp => N' p (.tail _ hp))
    obtain ⟨vs, l1, I1⟩ := p1.isList e1
    obtain ⟨m3, nn3, F3, N3, k13, k23⟩ := hs3.opn
    have l2 : h'.IsList D (List.toArray [Value.int x t]) := News.isList N' (.head _)
    refine kmk_add_ints F3 N3 l1 l2 I1 (.cons _ _ .nil) (fun D2 us h2 F2 N2 lt2 hI => ?_) (by rw [sizeLine_eq]; simp only [List.length_cons, List.length_nil]; lia)
    have hs4 := k23 h2 s2.toks D2 _ (IntL (ns ++ [x])) F2 N2 lt2 ⟨us, 0, rfl, hI⟩
    exact q _ _ _ _ (k D2) rfl (hs4.sub (fun e he => ⟨e.2, by
      rcases List.mem_cons.mp he with rfl | he
      · exact .head _
      · exact .tail _ (.tail _ he), fun _ x => x⟩) (by
      have z := hs4.nodup
      have d1 := List.nodup_cons.mp z
      have d2 := List.nodup_cons.mp d1.2
      exact List.nodup_cons.mpr ⟨fun q => d1.1 (.tail _ q), d2.2⟩)))) hs'))
theorem EK.cat2 {a b : Expr} {pos : Pos} {r r' : Addr} {ns ms : List Int} {K : AV → Nw → Prop} (ha : EE c lo nw a (Is (.ref r))) (hb : EE c lo nw b (Is (.ref r'))) (h1 : In c nw r (IntL ns)) (h2 : In c nw r' (IntL ms)) (hl : ns.length + ms.length ≤ 1000000) (k : ∀ D, K (Is (.ref D)) ((D, IntL (ns ++ ms)) :: nw)) : EK c lo nw (.BinOp a .Add b pos) K :=
  EK.cat (Ev.k ha ⟨r, rfl, Ev.k hb ⟨r', ns, ms, rfl, h1, h2, hl, k⟩⟩)
theorem Ex.dsetP {o e : Expr} {p pos spos : Pos} {k : Nat} {d : Addr} {x : Str} {ks : List Str} {Ps : List AV} {P : AV} (i j : Nat) (he : EE c lo nw e P) (ho : EE c lo nw o (Is (.ref d))) (hi : nth nw i = some (d, DctP c.V.w ks Ps)) (kk : Ex c lo (put nw i (d, DctP c.V.w ks (put Ps j P))) rest R) (hk : autoParam (nth ks j = some x) Mine.aR) (hl1 : autoParam (ks.length ≤ 1000) Mine.aD)
    (hw : autoParam (swapsWith e (some (.Subscript o (.Constant (.str x) k spos) p)) pos.line c.env = pure false) Mine.aR) : Ex c lo nw (.Assign [.Subscript o (.Constant (.str x) k spos) p] e pos :: rest) R :=
  Ex.dset i j hk hl1 (Ev.k he ⟨ho, hi, kk⟩) hw
end
end Mine
end
section
open PySem PySem.W PySem.Calls PyProof.Rows
set_option maxRecDepth 100000
namespace Mine
inductive Ents : List Str → List AV → List DictEntry → Prop
  | nil : Ents [] [] []
  | cons {x : Str} {P : AV} {g : Int} {u : Tok} {v : Value} {xs : List Str} {Ps : List AV} {es : List DictEntry} : P v → Ents xs Ps es → Ents (x :: xs) (P :: Ps) (⟨g, .str x u, v⟩ :: es)
noncomputable def FldP (xs : List Str) (Ps : List AV) : AO := fun o => ∃ es n, o = dictOf es n ∧ Ents xs Ps es
noncomputable abbrev InstP (C dx : Addr) : AO := Eo (instObj C dx)
noncomputable def By (arr : Array UInt8) : AV := fun v => ∃ t, v = .bytes arr t
theorem Ents.len {xs : List Str} {Ps : List AV} {es : List DictEntry} (h : Ents xs Ps es) : es.length = xs.length := by
  induction h with
  | nil => rfl
  | cons _ _ ih => exact congrArg Nat.succ ih
theorem Ents.any {xs : List Str} {Ps : List AV} {es : List DictEntry} (h : Ents xs Ps es) {x : Str} (hx : x ∉ xs) : es.find? (·.key.isStr x) = none ∧ es.any (·.refKey) = false := by
  induction h with
  | nil => exact ⟨rfl, rfl⟩
  | cons hv _ ih =>
    rename_i y P g u v xs Ps es h
    have hne : (y == x) = false := by
      have : y ≠ x := fun q => hx (q ▸ .head _)
      simpa using this
    obtain ⟨h1, h2⟩ := ih fun q => hx (.tail _ q)
    refine ⟨?_, ?_⟩
    · rw [List.find?_cons]
      show (match (y == x) with | true => _ | false => _) = _
      rw [hne]; exact h1
    · rw [List.any_cons, h2]; rfl
theorem Ents.get {xs : List Str} {Ps : List AV} {es : List DictEntry} (h : Ents xs Ps es) (nd : xs.Nodup) {i : Nat} {x : Str} {P : AV} (hx : nth xs i = some x) (hP : nth Ps i = some P) : ∃ v, getL x es = some (some v) ∧ P v := by
  have key : ∃ e, es.find? (·.key.isStr x) = some e ∧ P e.val := by
    induction h generalizing i with
    | nil => cases hx
    | cons hv _ ih =>
      rename_i y Q g u v xs Ps es h
      have n2 := List.nodup_cons.mp nd
      rw [List.find?_cons]
      cases i with
      | zero =>
        obtain rfl : y = x := Option.some.inj hx
        cases hP
        refine ⟨⟨g, .str y u, v⟩, ?_, hv⟩
        show (match (y == y) with | true => _ | false => _) = _
        rw [beq_self_eq_true]
      | succ i =>
        have hne : (y == x) = false := by
          have : y ≠ x := fun q => n2.1 (q ▸ nth_mem (l := xs) (i := i) hx)
          simpa using this
        obtain ⟨e, h1, h2⟩ := ih n2.2 (i := i) hx hP
        refine ⟨e, ?_, h2⟩
        show (match (y == x) with | true => _ | false => _) = _
        rw [hne]; exact h1
  obtain ⟨e, h1, h2⟩ := key
  exact ⟨e.val, by unfold getL; rw [h1], h2⟩
theorem Ents.at {xs : List Str} {Ps : List AV} {es : List DictEntry} (h : Ents xs Ps es) {i : Nat} {x : Str} (hx : nth xs i = some x) : ∃ P, nth Ps i = some P := by
  induction h generalizing i with
  | nil => cases hx
  | cons _ _ ih => cases i with
    | zero => exact ⟨_, rfl⟩
    | succ i => exact ih (i := i) hx
theorem Ents.none {xs : List Str} {Ps : List AV} {es : List DictEntry} (h : Ents xs Ps es) {x : Str} (hx : x ∉ xs) : getL x es = some none := by
  obtain ⟨h1, h2⟩ := h.any hx
  unfold getL
  rw [h1, h2]; rfl
theorem Ents.put {xs : List Str} {Ps : List AV} {es : List DictEntry} (h : Ents xs Ps es) (nd : xs.Nodup) {i : Nat} {x : Str} {P : AV} {v : Value} (g : Int) (key : Value) (n : Nat) (hx : nth xs i = some x) (hP : P v) : Ents xs (put Ps i P) (putL x g key v es) ∧ putN x es n = n := by
  have hany : es.any (·.key.isStr x) = true ∧ Ents xs (Mine.put Ps i P) (putL x g key v es) := by
    induction h generalizing i with
    | nil => cases hx
    | cons hv _ ih =>
      rename_i y Q g' u v' xs Ps es h
      have n2 := List.nodup_cons.mp nd
      cases i with
      | zero =>
        obtain rfl : y = x := Option.some.inj hx
        refine ⟨?_, ?_⟩
        · rw [List.any_cons]
          show (((y == y)) || _) = true
          rw [beq_self_eq_true]; rfl
        · show Ents _ _ (if (y == y) = true then _ else _)
          rw [if_pos (beq_self_eq_true y)]
          exact .cons hP h
      | succ i =>
        have hne : ¬ (y == x) = true := by
          have : y ≠ x := fun q => n2.1 (q ▸ nth_mem (l := xs) (i := i) hx)
          simpa using this
        obtain ⟨h1, h2⟩ := ih n2.2 (i := i) hx
        refine ⟨?_, ?_⟩
        · rw [List.any_cons, h1, Bool.or_true]
        · show Ents _ _ (if (y == x) = true then _ else _)
          rw [if_neg hne]
          exact .cons hv h2
  refine ⟨hany.2, ?_⟩
  unfold putN
  rw [if_pos hany.1]
noncomputable def AtOk (w : World) (C : Addr) (x : Str) : Prop := plainGet (HA.hd.heap_1_39 w.params) C x = true ∧ hasDictIn (HA.hd.heap_1_39 w.params) C = true ∧ ∃ a, findIn (HA.hd.heap_1_39 w.params) (.ref C) x = some a ∧ noGet (HA.hd.heap_1_39 w.params) a = true
noncomputable def StOk (w : World) (C : Addr) (x : Str) : Prop := findIn (HA.hd.heap_1_39 w.params) (.ref C) (Str.ofString "__setattr__") = some (some (.builtin "object.__setattr__")) ∧ plainOver (HA.hd.heap_1_39 w.params) C = true ∧ takerIn (HA.hd.heap_1_39 w.params) C x = some none ∧ hasDictIn (HA.hd.heap_1_39 w.params) C = true
noncomputable def MtOk (w : World) (C : Addr) (x : Str) (f : Addr) : Prop := plainGet (HA.hd.heap_1_39 w.params) C x = true ∧ findIn (HA.hd.heap_1_39 w.params) (.ref C) x = some (some (.ref f)) ∧ isFn (HA.hd.heap_1_39 w.params) (.ref f) = true
theorem handed_it {x : Int} : ∀ v, It x v → handedIn v = true := fun v ⟨t, e⟩ => by subst e; rfl
theorem handed_ref {a : Addr} : ∀ v, Is (.ref a) v → handedIn v = true := fun v e => by cases e; rfl
theorem handed_bool {b : Bool} : ∀ v, Is (.bool b) v → handedIn v = true := fun v e => by cases e; rfl
theorem handed_none : ∀ v, Is .none v → handedIn v = true := fun v e => by cases e; rfl
theorem handed_by {a : Array UInt8} : ∀ v, By a v → handedIn v = true := fun v ⟨t, e⟩ => by subst e; rfl
section
variable {c : Cx} {lo : Lo} {nw : Nw} {rest : List Stmt} {R : Fl → Lo → Nw → Prop}
theorem inst_at {s : Shared} (hs : St c lo nw s) {r dx C : Addr} {P : AO} (hr : In c nw r (InstP C dx)) (hd : In c nw dx P) : ∃ od, P od ∧ W.InstAt s.heap r (instObj C dx) C (some od) := by
  obtain ⟨o1, e1, rfl⟩ := hr.get hs
  obtain ⟨o2, e2, p⟩ := hd.get hs
  exact ⟨o2, p, e1, rfl, rfl, e2⟩
theorem attr_get (ok : OkB c) {r dx C : Addr} {x : Str} {xs : List Str} {Ps : List AV} {P : AV} {s : Shared} (hs : St c lo nw s) (j : Nat) (hr : In c nw r (InstP C dx)) (hd : In c nw dx (FldP xs Ps)) (at_ : AtOk c.V.w C x) (nd : xs.Nodup) (hx : nth xs j = some x) (hP : nth Ps j = some P) (hh : ∀ v, P v → handedIn v = true)
    {Q : Value → Shared → Prop} {E : Value → Shared → Prop} (q : ∀ v s', P v → St c lo nw s' → Q v s') : wpAny c.M c.A (getAttr (.ref r) x true) Q E s := by
  obtain ⟨od, ⟨es, n, rfl, hE⟩, I⟩ := inst_at hs hr hd
  obtain ⟨v, hg, hv⟩ := hE.get nd hx hP
  obtain ⟨a1, a2, a, a3, a4⟩ := at_
  obtain ⟨m, ns, F, N, k1, k2⟩ := hs.opn
  exact get_own F ok.X0 I a1 a2 a3 a4 hg (hh v hv) (q v _ hv hs.tok)
theorem EE.attr (ok : OkB c) {o : Expr} {pos : Pos} {r dx C : Addr} {x : Str} {xs : List Str} {Ps : List AV} {P : AV} (j : Nat) (ho : EE c lo nw o (Is (.ref r))) (hr : In c nw r (InstP C dx)) (hd : In c nw dx (FldP xs Ps)) (at_ : AtOk c.V.w C x) (nd : xs.Nodup) (hx : nth xs j = some x) (hP : nth Ps j = some P) (hh : ∀ v, P v → handedIn v = true)
    (he : autoParam (eval (.Attribute o x pos) c.env = (do
      let o' ← eval o c.env
      standAt pos.atName
      let r ← holding [o'] (getAttr o' x true)
      letTemporaryGo o o' r
      pure r)) Mine.aW) (ht : autoParam (∀ o' r, letTemporaryGo o o' r = pure ()) Mine.aW2) : EE c lo nw (.Attribute o x pos) P := fun s hs Q E q => by
  rw [he]
  refine wpAny_bind (ho s hs _ _ fun v s1 hv hs1 => ?_)
  cases hv
  refine wpAny_bind (wpAny_standAt (wpAny_bind (wpAny_holding (attr_get ok hs1 j hr hd at_ nd hx hP hh fun v s2 hv hs2 => ?_))))
  rw [ht]
  exact wpAny_bind (wpAny_pure (wpAny_pure (q v s2 hv hs2)))
theorem attr_set (ok : OkB c) {r dx C : Addr} {x : Str} {xs : List Str} {Ps : List AV} {P : AV} {v : Value} {s : Shared} (hs : St c lo nw s) (i j : Nat) (hr : In c nw r (InstP C dx)) (hi : nth nw i = some (dx, FldP xs Ps)) (st : StOk c.V.w C x) (nd : xs.Nodup) (hl : xs.length ≤ 1000) (hx : nth xs j = some x) (hv : P v)
    {Q : Unit → Shared → Prop} {E : Value → Shared → Prop} (q : ∀ s', St c lo (put nw i (dx, FldP xs (put Ps j P))) s' → Q () s') : wpAny c.M c.A (setAttr (.ref r) x v) Q E s := by
  obtain ⟨o1, e1, rfl⟩ := hr.get hs
  obtain ⟨m, ns, od, g, F, N, ⟨es, n, rfl, hE⟩, hm, _, U, fin⟩ := hs.upd hi
  have I : W.InstAt s.heap r (instObj C dx) C (some (dictOf es n)) := ⟨e1, rfl, rfl, (N _ hm).1⟩
  obtain ⟨P0, hP0⟩ := hE.at hx
  obtain ⟨v0, hg, _⟩ := hE.get nd hx hP0
  obtain ⟨hE2, hn⟩ := hE.put nd (PyData.keyHash c.V.w.params x) (Value.str x (s.toks + 1)) n hx hv
  obtain ⟨s1, s2, s3, s4⟩ := st
  exact set_dict F ok.X0 N I rfl s1 s2 s3 s4 (by rw [hg]; rfl) (by rw [hn]) (U _) (by rw [hE2.len]; exact hl) fun h' F' N' => q _ (fin h' _ _ _ F' N' ⟨_, n, rfl, hE2⟩)
theorem Ex.aset (ok : Ok c) {o e : Expr} {p pos : Pos} {r dx C : Addr} {x : Str} {xs : List Str} {Ps : List AV} (i j : Nat) (st : StOk c.V.w C x) (nd : xs.Nodup) (hx : nth xs j = some x)
    (h : EK c lo nw e fun P nw1 => EE c lo nw1 o (Is (.ref r)) ∧ In c nw1 r (InstP C dx) ∧ nth nw1 i = some (dx, FldP xs Ps) ∧ Ex c lo (put nw1 i (dx, FldP xs (put Ps j P))) rest R)
    (hl : autoParam (xs.length ≤ 1000) Mine.aD) (hw : autoParam (swapsWith e (some (.Attribute o x p)) pos.line c.env = pure false) Mine.aR) : Ex c lo nw (.Assign [.Attribute o x p] e pos :: rest) R :=
  Ex.sk fun s hs Q q => plainObj_wpAny_Assign_Attribute (h s hs _ fun P nw1 v s1 ⟨ho, hr, hi, kk⟩ hP hs1 => ho s1 hs1 _ _ fun ov s2 hov hs2 => by
    cases hov
    exact attr_set ok.toOkB hs2 i j hr hi st nd hl hx hP fun s' hs' => q _ _ _ kk hs') hw
theorem Ex.asetP (ok : Ok c) {o e : Expr} {p pos : Pos} {r dx C : Addr} {x : Str} {xs : List Str} {Ps : List AV} {P : AV} (i j : Nat) (he : EE c lo nw e P) (ho : EE c lo nw o (Is (.ref r))) (hr : In c nw r (InstP C dx)) (hi : nth nw i = some (dx, FldP xs Ps)) (st : StOk c.V.w C x) (nd : xs.Nodup) (kk : Ex c lo (put nw i (dx, FldP xs (put Ps j P))) rest R) (hx : autoParam (nth xs j = some x) Mine.aR)
    (hl : autoParam (xs.length ≤ 1000) Mine.aD) (hw : autoParam (swapsWith e (some (.Attribute o x p)) pos.line c.env = pure false) Mine.aR) : Ex c lo nw (.Assign [.Attribute o x p] e pos :: rest) R :=
  Ex.aset ok i j st nd hx (Ev.k he ⟨ho, hr, hi, kk⟩) hl hw
noncomputable def OpJ (w : World) (op : Operator) (x y z : Int) : Prop := ∀ (A : Around) (s : Shared) (t u : Tok) (Q : Value → Shared → Prop) (E : Value → Shared → Prop), (∀ t' tk, Q (.int z t') { s with toks := tk }) → wpAny (model PySem.Challenge.rw_pb0114_01.row.prog w) A (inplaceOp op (.int x t) (.int y u)) Q E s
theorem OpJ.add {w : World} {x y : Int} : OpJ w .Add x y (x + y) := fun _ _ _ _ _ _ q => iadd_int (q _ _)
theorem OpJ.sub {w : World} {x y : Int} : OpJ w .Sub x y (x - y) := fun _ _ _ _ _ _ q => isub_int (q _ _)
theorem Ex.aaug (ok : Ok c) {o e : Expr} {op : Operator} {p pos : Pos} {r dx C : Addr} {x : Str} {xs : List Str} {Ps : List AV} {a b z : Int} (i j : Nat) (ho : EE c lo nw o (Is (.ref r))) (he : EE c lo nw e (It b)) (hr : In c nw r (InstP C dx)) (hi : nth nw i = some (dx, FldP xs Ps)) (at_ : AtOk c.V.w C x) (st : StOk c.V.w C x) (nd : xs.Nodup) (hP : nth Ps j = some (It a)) (hop : OpJ c.V.w op a b z) (kk : Ex c lo (put nw i (dx, FldP xs (put Ps j (It z)))) rest R)
    (hx : autoParam (nth xs j = some x) Mine.aR) (hl : autoParam (xs.length ≤ 1000) Mine.aD) : Ex c lo nw (.AugAssign (.Attribute o x p) op e pos :: rest) R :=
  Ex.sk fun s hs Q q => wpAny_AugAssign_AttributeAny (ho s hs _ _ fun ov s1 hov hs1 => by
    cases hov
    refine attr_get ok.toOkB hs1 j hr (In.at hi) at_ nd hx hP handed_it fun v s2 hv hs2 => he s2 hs2 _ _ fun v' s3 hv' hs3 => ?_
    obtain ⟨t, rfl⟩ := hv
    obtain ⟨u, rfl⟩ := hv'
    exact hop _ _ _ _ _ _ fun t' tk => attr_set ok.toOkB hs3.tok i j hr hi st nd hl hx ⟨_, rfl⟩ fun s' hs' => q _ _ _ kk hs')
theorem Ex.naug (ok : Ok c) {x : Str} {e : Expr} {op : Operator} {p pos : Pos} {a b z : Int} (i : Nat) (hn : nth c.S.nm i = some x) (hP : nth lo i = some (some (It a))) (he : EE c lo nw e (It b)) (hop : OpJ c.V.w op a b z) (kk : Ex c (put lo i (some (It z))) nw rest R) : Ex c lo nw (.AugAssign (.Name x p) op e pos :: rest) R :=
  Ex.sk fun s hs Q q => wpAny_AugAssign_Name (by
    have hs0 := hs
    obtain ⟨h, tk0, m, ob, rfl, F, l, N, oo, nd⟩ := hs
    obtain ⟨v, hv, hPv⟩ := l.1 i x _ hn hP
    refine wpAny_loadName_local (env := c.env) ok.fn (ok.lk x (nth_mem hn)).1 F.ns hv ?_
    refine he _ hs0 _ _ fun v' s3 hv' hs3 => ?_
    obtain ⟨t, rfl⟩ := hPv
    obtain ⟨u, rfl⟩ := hv'
    exact hop _ _ _ _ _ _ fun t' tk => stK ok hs3.tok hn ⟨_, rfl⟩ fun s' hs' => q _ _ _ kk hs')
noncomputable def Whl (c : Cx) (lo : Lo) (nw : Nw) (test : Expr) (body rest : List Stmt) (R : Fl → Lo → Nw → Prop) : Prop := ∀ s, St c lo nw s → ∀ (Q : Flow → Shared → Prop), (∀ fl lo' nw' f s', R fl lo' nw' → fl.is f → St c lo' nw' s' → Q f s') →
  WhlM c.S.b PySem.Challenge.rw_pb0114_01.row.prog c.V.w c.A c.V.E c.env test body (nextOr (wpM c.S.b c.M c.A (execs rest c.env) Q c.V.E) Q) s
theorem Ex.whl {test : Expr} {body : List Stmt} {pos : Pos} (h : Whl c lo nw test body rest R) : Ex c lo nw (.While test body [] pos :: rest) R := fun s hs Q q => wpM_execs_cons (whlM_start (h s hs Q q))
theorem Whl.turn (ok : Ok c) {test : Expr} {body : List Stmt} (ht : TK c lo nw test fun b nw' => (b = true → Ex c lo nw' body (trn c rest R fun lo nw => Whl c lo nw test body rest R)) ∧ (b = false → Ex c lo nw' rest R)) : Whl c lo nw test body rest R := fun s hs Q q =>
  whlM_turn ok.ps (ht s hs _ fun b nw' s' hb hs' => by
    cases b with
    | false => rw [if_neg Bool.false_ne_true]; exact hb.2 rfl s' hs' Q q
    | true =>
      rw [if_pos rfl]
      refine hb.1 rfl s' hs' _ fun fl lo2 nw2 f s2 hR hf hs2 => ?_
      cases fl with
      | next => cases hf; exact hR s2 hs2 Q q
      | cont => cases hf; exact hR s2 hs2 Q q
      | brk => cases hf; exact hR s2 hs2 Q q
      | ret P => obtain ⟨v, rfl, hv⟩ := hf; exact q _ _ _ _ _ hR ⟨v, rfl, hv⟩ hs2)
end
end Mine
end
section
open PySem PySem.W PySem.Calls PyProof.Rows
set_option maxRecDepth 100000
namespace Mine
theorem gl_len (w : World) : nsIn (HA.hd.heap_1_39 w.params) mainGlobals (Str.ofString "len") = some none := by k_is
section
variable {c : Cx} {lo : Lo} {nw : Nw}
theorem EE.lenN (ok : OkB c) {xp : Pos} (hk : autoParam (c.S.sc.names.lookup (Str.ofString "len") = some .globalImplicit) Mine.aK) : EE c lo nw (.Name (Str.ofString "len") xp) (Is (.builtin "len")) := EE.blt ok (gl_len _) boot_len hk
end
theorem gl_range (w : World) : nsIn (HA.hd.heap_1_39 w.params) mainGlobals (Str.ofString "range") = some none := by k_is
section
variable {c : Cx} {lo : Lo} {nw : Nw}
theorem EE.rangeN (ok : OkB c) {xp : Pos} (hk : autoParam (c.S.sc.names.lookup (Str.ofString "range") = some .globalImplicit) Mine.aK) : EE c lo nw (.Name (Str.ofString "range") xp) (Is (.type "range")) := EE.blt ok (gl_range _) boot_range hk
end
end Mine
end
section
open PySem PySem.W PySem.Calls PyProof.Rows
set_option maxRecDepth 100000
set_option maxHeartbeats 4000000
namespace Mine
noncomputable abbrev deckN : List Str := [Str.ofString "cells", Str.ofString "at"]
@[reducible] noncomputable def DeckP (w : World) (cl : Addr) (a : Int) : AO := DctP w deckN [Is (.ref cl), It a]
noncomputable def sDraw : Sx := sx false 254 [Str.ofString "deck", Str.ofString "below", Str.ofString "at", Str.ofString "cells"]
theorem fn_draw (w : World) : Fn w 254 sDraw 2 [] (bodyF 254) := by
  refine ⟨⟨by kernel_rfl, by decide +kernel, by decide +kernel⟩, Nat.le_of_ble_eq_true rfl, ?_⟩
  refine ⟨_, _, _, _, _, _, _, _, _, _, _, _, by k_is, by (show codeIn _ _ (Str.ofString "_law_draw") = true; k_is), ?_, by decide +kernel, by kernel_rfl, by kernel_rfl⟩
  intro s vs hK h
  obtain ⟨a, b, rfl⟩ := vs2 h
  exact BindsTo.of_eq rfl
theorem draw_h {V : Vx} (ok : Ok ⟨sDraw, V⟩) (hu : V.un < 9800) {d cl : Addr} {a k : Int} {ns : List Int} (hc : ∃ o, V.h₀.get? cl = some o ∧ IntL ns o) (hl : ns.length ≤ 60) (ha : 0 ≤ a) (ha2 : a < 1000) (hk : 0 < k) (hk2 : k ≤ 100) {R : Fl → Lo → Nw → Prop}
    (kk : ∀ x lo, 0 ≤ x → x < k → R (.ret (It x)) lo [(d, DeckP V.w cl (a + 1))]) : Ex ⟨sDraw, V⟩ [some (Is (.ref d)), some (It k), none, none] [(d, DeckP V.w cl a)] (bodyF 254) R := by
  have okb := ok.toOkB
  have hi : ∀ nw, In ⟨sDraw, V⟩ nw cl (IntL ns) := fun nw => .inr hc
  have fin : ∀ (y : Int) lo, R (.ret (It (y.fmod k))) lo [(d, DeckP V.w cl (a + 1))] := fun y lo => kk _ _ (Int.fmod_nonneg_of_pos _ hk) (Int.fmod_lt_of_pos _ hk)
  refine Ex.tup ok [3, 2] rfl (EvA.p (EE.ditem 1 (EE.loc okb (i := 0) rfl rfl) (In.at (i := 0) rfl) rfl rfl) (EvA.p (EE.ditem 0 (EE.loc okb (i := 0) rfl rfl) (In.at (i := 0) rfl) rfl rfl) (EvA.nil ⟨rfl, Nat.le_of_ble_eq_true rfl, ?_⟩)))
  refine Ex.dset 0 1 rfl (by decide) (Ev.k (EE.bin (EE.loc okb (i := 2) rfl rfl) EE.int OpI.add) ⟨(EE.loc okb (i := 0) rfl rfl), rfl, ?_⟩)
  have hll : ((ns.length : Nat) : Int) ≤ 60 := by lia
  refine Ex.if1 (Tv.cmp (EE.loc okb (i := 2) rfl rfl) (EE.len (EE.lenN okb) (EE.loc okb (i := 3) rfl rfl) (hi _) (by lia)) CpI.lt) (fun h => ?_) fun h => ?_
  · exact Ex.ret (Ev.k (EE.bin (EE.item (EE.loc okb (i := 3) rfl rfl) (EE.loc okb (i := 2) rfl rfl) (hi _) ha h (by omega)) (EE.loc okb (i := 1) rfl rfl) (OpI.modP hk)) (fin _ _))
  · refine Ex.if1 (Tv.eqNil (EE.loc okb (i := 3) rfl rfl) (hi _) hu) (fun h2 => ?_) fun h2 => ?_
    · exact Ex.ret (Ev.k (EE.bin (EE.bin (EE.bin (EE.loc okb (i := 2) rfl rfl) EE.int (OpI.mulL (by lia) (by lia))) (EE.bin (EE.loc okb (i := 2) rfl rfl) EE.int (OpI.divP (by decide) (by decide))) OpI.add) (EE.loc okb (i := 1) rfl rfl) (OpI.modP hk)) (fin _ _))
    · have h3 : (0 : Int) < ns.length := by
        cases ns with
        | nil => exact absurd rfl h2
        | cons x xs => simp only [List.length_cons]; lia
      exact Ex.ret (Ev.k (EE.bin (EE.bin (EE.bin (EE.item (EE.loc okb (i := 3) rfl rfl) (EE.bin (EE.loc okb (i := 2) rfl rfl) (EE.len (EE.lenN okb) (EE.loc okb (i := 3) rfl rfl) (hi _) (by lia)) (OpI.modP h3)) (hi _) (Int.fmod_nonneg_of_pos _ h3) (Int.fmod_lt_of_pos _ h3) (Int.lt_trans (Int.fmod_lt_of_pos _ h3) (by lia))) (EE.bin (EE.loc okb (i := 2) rfl rfl) EE.int OpI.add) (OpI.divP (by omega) (by lia))) (EE.bin (EE.loc okb (i := 2) rfl rfl) EE.int (OpI.mulL (by omega) (by lia))) OpI.add) (EE.loc okb (i := 1) rfl rfl) (OpI.modP hk)) (fin _ _))
end Mine
end
section
open PySem PySem.W PySem.Calls PyProof.Rows
set_option maxRecDepth 100000
set_option maxHeartbeats 4000000
namespace Mine
theorem rangeKs_succ (i : Nat) : rangeKs 0 (i + 1) = rangeKs 0 i ++ [0 + (i : Int)] := by unfold rangeKs; rw [List.range_succ, List.map_append]; rfl
theorem gl_put (w : World) : nsIn (HA.hd.heap_1_39 w.params) mainGlobals (Str.ofString "_law_put") = some (some (.ref 261)) := by k_is
theorem kp_put (w : World) : keepIn (HA.hd.heap_1_39 w.params) (.ref 261) = true := by k_is
theorem pow2_16 : ∀ n, n < 17 → (2 : Int) ^ n < 1073741824 := by decide
noncomputable def sPut : Sx := sx false 261 [Str.ofString "bits", Str.ofString "number", Str.ofString "many", Str.ofString "is_code", Str.ofString "k"]
theorem fn_put (w : World) : Fn w 261 sPut 4 [] (bodyF 261) := by
  refine ⟨⟨by kernel_rfl, by decide +kernel, by decide +kernel⟩, Nat.le_of_ble_eq_true rfl, ?_⟩
  refine ⟨_, _, _, _, _, _, _, _, _, _, _, _, by k_is, by (show codeIn _ _ (Str.ofString "_law_put") = true; k_is), ?_, by decide +kernel, by kernel_rfl, by kernel_rfl⟩
  intro s vs hK h
  obtain ⟨a, b, c, d, rfl⟩ := vs4 h
  exact BindsTo.of_eq rfl
theorem put_h {V : Vx} (ok : Ok ⟨sPut, V⟩) {b : Addr} {ns : List Int} {number many : Int} {isCode : Bool} (hl : ns.length ≤ 10000) (hm0 : 0 ≤ many) (hm : many ≤ 16) (hnum0 : 0 ≤ number) (hnum : number < 65536) {R : Fl → Lo → Nw → Prop}
    (kk : ∀ lo, R .next lo [(b, IntL (ns ++ putI number many isCode))]) : Ex ⟨sPut, V⟩ [some (Is (.ref b)), some (It number), some (It many), some (Is (.bool isCode)), none] [(b, IntL ns)] (bodyF 261) R := by
  have okb := ok.toOkB
  refine Ex.forR1 ok (ix := 4) rfl (EE.rangeN okb) (Ev.k (EE.loc okb (i := 2) rfl rfl) ⟨many, rfl, ⟨by lia, by omega⟩, Lp.mk (fun x => [some (Is (.ref b)), some (It number), some (It many), some (Is (.bool isCode)), x.p1]) (fun x => [(b, IntL x.l1)]) (fun i x => x.l1 = ns ++ (rangeKs 0 i).map (bitI number many isCode)) { l1 := ns } (List.append_nil _).symm (fun I oI i x hi e3 => ?_) fun x e3 => ?_⟩)
  · have hi' : (i : Int) < many := by omega
    have hll : x.l1.length ≤ 1000000 := by rw [e3, List.length_append, List.length_map, rangeKs_length]; lia
    have e4 : x.l1 ++ [bitI number many isCode (0 + i)] = ns ++ (rangeKs 0 (i + 1)).map (bitI number many isCode) := by rw [e3, rangeKs_succ, List.map_append, List.append_assoc]; rfl
    have h2 : ∀ e : Int, 0 ≤ e → e ≤ 16 → (0 : Int) < 2 ^ e.toNat ∧ (2 : Int) ^ e.toNat < 1073741824 := fun e h0 h1 => ⟨Int.pow_pos (by decide), pow2_16 _ (by lia)⟩
    have hk : 0 ≤ (0 + i : Int) ∧ (0 + i : Int) ≤ 16 := by lia
    cases isCode
    · exact Ex.expr (EK.app (EE.loc okb (i := 0) rfl rfl) (EE.bin (EE.bin (EE.loc okb (i := 1) rfl rfl) (EE.bin EE.int (EE.iteF (Tv.plain (EE.loc okb (i := 3) rfl rfl)) (EE.loc okb (i := 4) rfl rfl)) (OpI.pow hk.1 (Int.le_trans hk.2 (by decide)) (by decide))) (OpI.divP (h2 _ hk.1 hk.2).1 (h2 _ hk.1 hk.2).2)) EE.int (OpI.modP (by decide))) (i := 1) rfl hll (Ex.tendS { p1 := _, l1 := _ } [0, 1] 2 e4))
    · have hk2 : 0 ≤ many - 1 - (0 + i : Int) ∧ many - 1 - (0 + i : Int) ≤ 16 := by lia
      exact Ex.expr (EK.app (EE.loc okb (i := 0) rfl rfl) (EE.bin (EE.bin (EE.loc okb (i := 1) rfl rfl) (EE.bin EE.int (EE.iteT (Tv.plain (EE.loc okb (i := 3) rfl rfl)) (EE.bin (EE.bin (EE.loc okb (i := 2) rfl rfl) EE.int OpI.sub) (EE.loc okb (i := 4) rfl rfl) OpI.sub)) (OpI.pow hk2.1 (Int.le_trans hk2.2 (by decide)) (by decide))) (OpI.divP (h2 _ hk2.1 hk2.2).1 (h2 _ hk2.1 hk2.2).2)) EE.int (OpI.modP (by decide))) (i := 1) rfl hll (Ex.tendS { p1 := _, l1 := _ } [0, 1] 2 e4))
  · rw [e3, Int.sub_zero]
    exact Ex.nil (kk _)
theorem CN.put {c : Cx} {lo : Lo} {nw : Nw} (ok : OkB c) (hdp : c.V.dp < 990) {i : Nat} {b : Addr} {ns : List Int} {number many : Int} {isCode : Bool} {K : AV → Nw → Prop} (hi : nth nw i = some (b, IntL ns)) (hl : ns.length ≤ 10000) (hm0 : 0 ≤ many) (hm : many ≤ 16) (hnum0 : 0 ≤ number) (hnum : number < 65536)
    (k : K (Is .none) (putA nw i (IntL (ns ++ putI number many isCode)))) : CN c lo nw (.ref 261) [Is (.ref b), It number, It many, Is (.bool isCode)] K :=
  CN.call ok (conM (fn_put _)) hdp rfl [i] (nw₀ := [(b, IntL ns)]) (by rw [List.map_cons, hi]; rfl) (by simp) fun V _ _ _ _ okV => put_h okV hl hm0 hm hnum0 hnum fun lo => ⟨[], [_], [], rfl, rfl, (List.append_nil _).symm ▸ k⟩
theorem EK.put {c : Cx} {lo : Lo} {nw : Nw} (ok : Ok c) (hdp : c.V.dp < 990) {xp pos : Pos} {e1 e2 e3 e4 : Expr} {i : Nat} {b : Addr} {ns : List Int} {number many : Int} {isCode : Bool} {K : AV → Nw → Prop} (h1 : EE c lo nw e1 (Is (.ref b))) (h2 : EE c lo nw e2 (It number)) (h3 : EE c lo nw e3 (It many)) (h4 : EE c lo nw e4 (Is (.bool isCode)))
    (hi : nth nw i = some (b, IntL ns)) (hl : ns.length ≤ 10000) (hm0 : 0 ≤ many) (hm : many ≤ 16) (hnum0 : 0 ≤ number) (hnum : number < 65536) (k : K (Is .none) (putA nw i (IntL (ns ++ putI number many isCode))))
    (he1 : autoParam (starEach [e1, e2, e3, e4] c.env = (false, eval e1 c.env) :: starEach [e2, e3, e4] c.env) Mine.aR) (he2 : autoParam (starEach [e2, e3, e4] c.env = (false, eval e2 c.env) :: starEach [e3, e4] c.env) Mine.aR)
    (he3 : autoParam (starEach [e3, e4] c.env = (false, eval e3 c.env) :: starEach [e4] c.env) Mine.aR) (he4 : autoParam (starEach [e4] c.env = (false, eval e4 c.env) :: starEach [] c.env) Mine.aR) (hp : autoParam (((backTo pos (starEach [e2, e3, e4] c.env)).any fun x => x.1) = false) Mine.aR)
    (hc : autoParam (eval (.Call (.Name (Str.ofString "_law_put") xp) [e1, e2, e3, e4] [] pos) c.env = (do callWith pos (← eval (.Name (Str.ofString "_law_put") xp) c.env) [] (backTo pos (starEach [e1, e2, e3, e4] c.env)) (backToKw pos (keywordEach [] c.env)))) Mine.aR)
    (hk : autoParam (c.S.sc.names.lookup (Str.ofString "_law_put") = some .globalImplicit) Mine.aK) : EK c lo nw (.Call (.Name (Str.ofString "_law_put") xp) [e1, e2, e3, e4] [] pos) K :=
  EK.callG ok (EE.glob ok.toOkB (gl_put _) hk) (kp_put _) (EvA.p h1 (EvA.p h2 (EvA.p h3 (EvA.p h4 (EvA.nil (CN.put ok.toOkB hdp hi hl hm0 hm hnum0 hnum k).k) he4) he3) he2) he1) he1 hp hc
noncomputable def sSign : Sx := sx false 268 [Str.ofString "bits", Str.ofString "octet"]
theorem fn_sign (w : World) : Fn w 268 sSign 2 [] (bodyF 268) := by
  refine ⟨⟨by kernel_rfl, by decide +kernel, by decide +kernel⟩, Nat.le_of_ble_eq_true rfl, ?_⟩
  refine ⟨_, _, _, _, _, _, _, _, _, _, _, _, by k_is, by (show codeIn _ _ (Str.ofString "_law_sign") = true; k_is), ?_, by decide +kernel, by kernel_rfl, by kernel_rfl⟩
  intro s vs hK h
  obtain ⟨a, b, rfl⟩ := vs2 h
  exact BindsTo.of_eq rfl
theorem sign_h {V : Vx} (ok : Ok ⟨sSign, V⟩) (hdp : V.dp < 990) {b : Addr} {ns : List Int} {octet : Int} (hl : ns.length ≤ 10000) (h0 : 0 ≤ octet) (h1 : octet < 256) {R : Fl → Lo → Nw → Prop} (kk : ∀ lo, R .next lo [(b, IntL (ns ++ signI octet))]) :
    Ex ⟨sSign, V⟩ [some (Is (.ref b)), some (It octet)] [(b, IntL ns)] (bodyF 268) R := by
  have okb := ok.toOkB
  unfold signI at kk
  refine Ex.ifD (Tv.cmp (EE.loc okb (i := 1) rfl rfl) EE.int CpI.lt) (fun h => ?_) fun h => ?_
  · rw [if_pos h] at kk
    exact Ex.expr (EK.put ok hdp (EE.loc okb (i := 0) rfl rfl) (EE.bin EE.int (EE.loc okb (i := 1) rfl rfl) OpI.add) EE.int EE.bool (i := 0) rfl hl (by decide) (by decide) (by lia) (by lia) (Ex.nil (R := thn _ [] R) (Ex.nil (kk _))))
  · rw [if_neg h] at kk
    exact Ex.expr (EK.put ok hdp (EE.loc okb (i := 0) rfl rfl) (EE.bin (EE.bin EE.int (EE.loc okb (i := 1) rfl rfl) OpI.add) EE.int OpI.sub) EE.int EE.bool (i := 0) rfl hl (by decide) (by decide) (by lia) (by lia) (Ex.nil (R := thn _ [] R) (Ex.nil (kk _))))
noncomputable def sCopy : Sx := sx false 275 [Str.ofString "bits", Str.ofString "size", Str.ofString "back"]
theorem fn_copy (w : World) : Fn w 275 sCopy 3 [] (bodyF 275) := by
  refine ⟨⟨by kernel_rfl, by decide +kernel, by decide +kernel⟩, Nat.le_of_ble_eq_true rfl, ?_⟩
  refine ⟨_, _, _, _, _, _, _, _, _, _, _, _, by k_is, by (show codeIn _ _ (Str.ofString "_law_copy") = true; k_is), ?_, by decide +kernel, by kernel_rfl, by kernel_rfl⟩
  intro s vs hK h
  obtain ⟨a, b, c, rfl⟩ := vs3 h
  exact BindsTo.of_eq rfl
theorem copy_h {V : Vx} (ok : Ok ⟨sCopy, V⟩) (hdp : V.dp < 990) {b : Addr} {ns : List Int} {size back : Int} (hl : ns.length ≤ 9900) (h0 : 3 ≤ size) (h1 : size ≤ 10) (h2 : 1 ≤ back) (h3 : back ≤ 8) {R : Fl → Lo → Nw → Prop} (kk : ∀ lo, R .next lo [(b, IntL (ns ++ copyI size back))]) :
    Ex ⟨sCopy, V⟩ [some (Is (.ref b)), some (It size), some (It back)] [(b, IntL ns)] (bodyF 275) R := by
  have okb := ok.toOkB
  have hl1 : (ns ++ putI (size - 2) 7 true).length ≤ 10000 := by rw [List.length_append, putI_length]; have : Int.toNat 7 = 7 := rfl; lia
  have hl2 : ∀ x, (ns ++ putI (size - 2) 7 true ++ putI x 5 true).length ≤ 10000 := fun x => by rw [List.length_append, List.length_append, putI_length, putI_length]; have : Int.toNat 7 = 7 := rfl; have : Int.toNat 5 = 5 := rfl; lia
  unfold copyI at kk
  refine Ex.expr (EK.put ok hdp (EE.loc okb (i := 0) rfl rfl) (EE.bin (EE.loc okb (i := 1) rfl rfl) EE.int OpI.sub) EE.int EE.bool (i := 0) rfl (by lia) (by decide) (by decide) (by lia) (by omega) ?_)
  by_cases hb : back < 5
  · have e2 : ¬ back > 4 := by lia
    rw [if_pos hb, if_neg e2, List.append_nil, ← List.append_assoc] at kk
    refine Ex.expr (EK.put ok hdp (EE.loc okb (i := 0) rfl rfl) (EE.iteT ((decide_eq_true hb) ▸ Tv.cmp (EE.loc okb (i := 2) rfl rfl) EE.int CpI.lt) (EE.bin (EE.loc okb (i := 2) rfl rfl) EE.int OpI.sub)) EE.int EE.bool (i := 0) rfl hl1 (by decide) (by decide) (by lia) (by lia) ?_)
    exact Ex.if1 (Tv.cmp (EE.loc okb (i := 2) rfl rfl) EE.int CpI.gt) (fun h => absurd h e2) fun _ => Ex.nil (kk _)
  · have e2 : back > 4 := by lia
    have hf : 0 ≤ (back - 5).fdiv 2 ∧ (back - 5).fdiv 2 ≤ 1 := by rw [Int.fdiv_eq_ediv_of_nonneg _ (by decide)]; omega
    have hm : 0 ≤ (back - 5).fmod 2 ∧ (back - 5).fmod 2 < 2 := ⟨Int.fmod_nonneg_of_pos _ (by decide), Int.fmod_lt_of_pos _ (by decide)⟩
    rw [if_neg hb, if_pos e2, ← List.append_assoc, ← List.append_assoc] at kk
    refine Ex.expr (EK.put ok hdp (EE.loc okb (i := 0) rfl rfl) (EE.iteF ((decide_eq_false hb) ▸ Tv.cmp (EE.loc okb (i := 2) rfl rfl) EE.int CpI.lt) (EE.bin EE.int (EE.bin (EE.bin (EE.loc okb (i := 2) rfl rfl) EE.int OpI.sub) EE.int (OpI.divP (by decide) (by decide))) OpI.add)) EE.int EE.bool (i := 0) rfl hl1 (by decide) (by decide) (by omega) (by omega) ?_)
    exact Ex.if1 (Tv.cmp (EE.loc okb (i := 2) rfl rfl) EE.int CpI.gt) (fun _ => Ex.expr (EK.put ok hdp (EE.loc okb (i := 0) rfl rfl) (EE.bin (EE.bin (EE.loc okb (i := 2) rfl rfl) EE.int OpI.sub) EE.int (OpI.modP (by decide))) EE.int EE.bool (i := 0) rfl (hl2 _) (by decide) (by decide) hm.1 (by omega) (Ex.nil (R := thn _ [] R) (Ex.nil (kk _))))) fun h => absurd e2 h
end Mine
end
section
open PySem PySem.W PySem.Calls PyProof.Rows
set_option maxRecDepth 100000
set_option maxHeartbeats 4000000
namespace Mine
theorem gl_draw (w : World) : nsIn (HA.hd.heap_1_39 w.params) mainGlobals (Str.ofString "_law_draw") = some (some (.ref 254)) := by k_is
theorem kp_draw (w : World) : keepIn (HA.hd.heap_1_39 w.params) (.ref 254) = true := by k_is
theorem gl_sign (w : World) : nsIn (HA.hd.heap_1_39 w.params) mainGlobals (Str.ofString "_law_sign") = some (some (.ref 268)) := by k_is
theorem kp_sign (w : World) : keepIn (HA.hd.heap_1_39 w.params) (.ref 268) = true := by k_is
theorem gl_copy (w : World) : nsIn (HA.hd.heap_1_39 w.params) mainGlobals (Str.ofString "_law_copy") = some (some (.ref 275)) := by k_is
theorem kp_copy (w : World) : keepIn (HA.hd.heap_1_39 w.params) (.ref 275) = true := by k_is
theorem gl_int (w : World) : nsIn (HA.hd.heap_1_39 w.params) mainGlobals (Str.ofString "int") = some none := by k_is
theorem gl_max (w : World) : nsIn (HA.hd.heap_1_39 w.params) mainGlobals (Str.ofString "max") = some none := by k_is
theorem octB (k : Nat) : 0 ≤ ([97, 98, 200, 255, 143, 144, 0] : List Int).getD k 0 ∧ ([97, 98, 200, 255, 143, 144, 0] : List Int).getD k 0 < 256 := by
  by_cases h : k < 7
  · have : k = 0 ∨ k = 1 ∨ k = 2 ∨ k = 3 ∨ k = 4 ∨ k = 5 ∨ k = 6 := by lia
    rcases this with rfl | rfl | rfl | rfl | rfl | rfl | rfl <;> decide
  · have e : ([97, 98, 200, 255, 143, 144, 0] : List Int)[k]? = none := by simp; omega
    rw [List.getD, e]; decide
section
variable {c : Cx} {lo : Lo} {nw : Nw} {rest : List Stmt} {R : Fl → Lo → Nw → Prop}
theorem CN.draw (ok : OkB c) (hdp : c.V.dp < 990) (hun : c.V.un < 9700) {i : Nat} {d cl : Addr} {a k : Int} {ns : List Int} {K : AV → Nw → Prop} (hi : nth nw i = some (d, DeckP c.V.w cl a)) (hc : Ro c nw [i] cl (IntL ns)) (hl : ns.length ≤ 60) (ha : 0 ≤ a) (ha2 : a < 1000) (hk : 0 < k) (hk2 : k ≤ 100)
    (kk : ∀ x, 0 ≤ x → x < k → K (It x) (putA nw i (DeckP c.V.w cl (a + 1)))) : CN c lo nw (.ref 254) [Is (.ref d), It k] K :=
  CN.call ok (conM (fn_draw _)) hdp rfl [i] (nw₀ := [(d, DeckP c.V.w cl a)]) (by rw [List.map_cons, hi]; rfl) (by simp) fun V e1 _ e3 ro okV => by
    rw [← e1]
    exact draw_h okV (by lia) (ro _ _ hc) hl ha ha2 hk hk2 fun x lo x0 x1 => ⟨[], [_], [], rfl, rfl, (List.append_nil _).symm ▸ e1 ▸ kk x x0 x1⟩
theorem CN.sign (ok : OkB c) (hdp : c.V.dp < 980) {i : Nat} {b : Addr} {ns : List Int} {octet : Int} {K : AV → Nw → Prop} (hi : nth nw i = some (b, IntL ns)) (hl : ns.length ≤ 10000) (h0 : 0 ≤ octet) (h1 : octet < 256) (k : K (Is .none) (putA nw i (IntL (ns ++ signI octet)))) : CN c lo nw (.ref 268) [Is (.ref b), It octet] K :=
  CN.call ok (conM (fn_sign _)) (by omega) rfl [i] (nw₀ := [(b, IntL ns)]) (by rw [List.map_cons, hi]; rfl) (by simp) fun V _ e2 _ _ okV => sign_h okV (by lia) hl h0 h1 fun lo => ⟨[], [_], [], rfl, rfl, (List.append_nil _).symm ▸ k⟩
theorem CN.copy (ok : OkB c) (hdp : c.V.dp < 980) {i : Nat} {b : Addr} {ns : List Int} {size back : Int} {K : AV → Nw → Prop} (hi : nth nw i = some (b, IntL ns)) (hl : ns.length ≤ 9900) (h0 : 3 ≤ size) (h1 : size ≤ 10) (h2 : 1 ≤ back) (h3 : back ≤ 8) (k : K (Is .none) (putA nw i (IntL (ns ++ copyI size back)))) : CN c lo nw (.ref 275) [Is (.ref b), It size, It back] K :=
  CN.call ok (conM (fn_copy _)) (by omega) rfl [i] (nw₀ := [(b, IntL ns)]) (by rw [List.map_cons, hi]; rfl) (by simp) fun V _ e2 _ _ okV => copy_h okV (by lia) hl h0 h1 h2 h3 fun lo => ⟨[], [_], [], rfl, rfl, (List.append_nil _).symm ▸ k⟩
theorem EN.draw (ok : OkB c) (hdp : c.V.dp < 990) (hun : c.V.un < 9700) {xp pos : Pos} {e1 e2 : Expr} {i : Nat} {d cl : Addr} {a k : Int} {ns : List Int} {K : AV → Nw → Prop} (h1 : EE c lo nw e1 (Is (.ref d))) (h2 : EE c lo nw e2 (It k)) (hi : nth nw i = some (d, DeckP c.V.w cl a)) (hc : Ro c nw [i] cl (IntL ns)) (hl : ns.length ≤ 60) (ha : 0 ≤ a) (ha2 : a < 1000) (hk : 0 < k) (hk2 : k ≤ 100)
    (kk : ∀ x, 0 ≤ x → x < k → K (It x) (putA nw i (DeckP c.V.w cl (a + 1))))
    (he1 : autoParam (starEach [e1, e2] c.env = (false, eval e1 c.env) :: starEach [e2] c.env) Mine.aR) (he2 : autoParam (starEach [e2] c.env = (false, eval e2 c.env) :: starEach [] c.env) Mine.aR) (hp : autoParam (((backTo pos (starEach [e2] c.env)).any fun x => x.1) = false) Mine.aR)
    (hq : autoParam (eval (.Call (.Name (Str.ofString "_law_draw") xp) [e1, e2] [] pos) c.env = (do callWith pos (← eval (.Name (Str.ofString "_law_draw") xp) c.env) [] (backTo pos (starEach [e1, e2] c.env)) (backToKw pos (keywordEach [] c.env)))) Mine.aR)
    (hk' : autoParam (c.S.sc.names.lookup (Str.ofString "_law_draw") = some .globalImplicit) Mine.aK) : EvN c lo nw (eval (.Call (.Name (Str.ofString "_law_draw") xp) [e1, e2] [] pos) c.env) K :=
  EvN.call2 ok (EE.glob ok (gl_draw _) hk') (kp_draw _) h1 h2 (CN.draw ok hdp hun hi hc hl ha ha2 hk hk2 kk) he1 he2 hp hq
theorem EE.intB {x : Str} {xp pos : Pos} {e : Expr} {b : Bool} (hf : EE c lo nw (.Name x xp) (Is (.type "int"))) (ha : EE c lo nw e (Is (.bool b)))
    (he : autoParam (starEach [e] c.env = (false, eval e c.env) :: starEach [] c.env) Mine.aR)
    (hc : autoParam (eval (.Call (.Name x xp) [e] [] pos) c.env = (do callWith pos (← eval (.Name x xp) c.env) [] (backTo pos (starEach [e] c.env)) (backToKw pos (keywordEach [] c.env)))) Mine.aR) : EE c lo nw (.Call (.Name x xp) [e] [] pos) (It (if b then 1 else 0)) := fun s hs Q E q => by
  refine Call_ (hf s hs _ _ fun v s1 hv hs1 => ?_) hc
  cases hv
  refine PySem.Pv.callWith_type1 (args_cons (ha s1 hs1 _ _ fun v s2 hv hs2 => args_nil ?_) he) he rfl
  cases hv
  exact call_int_bool (q _ _ ⟨_, rfl⟩ hs2.tok)
theorem EE.max {x : Str} {xp pos : Pos} {e1 e2 : Expr} {a b : Int} (hf : EE c lo nw (.Name x xp) (Is (.builtin "max"))) (h1 : EE c lo nw e1 (It a)) (h2 : EE c lo nw e2 (It b))
    (he1 : autoParam (starEach [e1, e2] c.env = (false, eval e1 c.env) :: starEach [e2] c.env) Mine.aR) (he2 : autoParam (starEach [e2] c.env = (false, eval e2 c.env) :: starEach [] c.env) Mine.aR) (hp : autoParam (((backTo pos (starEach [e2] c.env)).any fun x => x.1) = false) Mine.aR)
    (hc : autoParam (eval (.Call (.Name x xp) [e1, e2] [] pos) c.env = (do callWith pos (← eval (.Name x xp) c.env) [] (backTo pos (starEach [e1, e2] c.env)) (backToKw pos (keywordEach [] c.env)))) Mine.aR) : EE c lo nw (.Call (.Name x xp) [e1, e2] [] pos) (It (if b > a then b else a)) := fun s hs Q E q => by
  refine Call_ (hf s hs _ _ fun v s1 hv hs1 => ?_) hc
  cases hv
  refine PyProof.Rows.callWith_builtin1 (args_cons (h1 s1 hs1 _ _ fun v s2 hv hs2 => args_cons (h2 s2 hs2 _ _ fun v' s3 hv' hs3 => args_nil ?_) he2) he1) he1 hp
  obtain ⟨t, rfl⟩ := hv
  obtain ⟨u, rfl⟩ := hv'
  obtain ⟨m, nn, F, N, k1, k2⟩ := hs3.opn
  exact max_two_N rfl F N fun h' tk F' N' => q _ _ ⟨_, rfl⟩ (k1 h' tk F' N')
end
noncomputable abbrev wN : List Str := [Str.ofString "bits", Str.ofString "content", Str.ofString "back"]
@[reducible] noncomputable def WP (w : World) (b ct : Addr) (bk : Int) : AO := DctP w wN [Is (.ref b), Is (.ref ct), It bk]
noncomputable def sBlkL : Sx := sx false 285 [Str.ofString "w", Str.ofString "is_last", Str.ofString "is_plain", Str.ofString "k", Str.ofString "some", Str.ofString "number", Str.ofString "octet", Str.ofString "back", Str.ofString "size", Str.ofString "step"]
theorem so_block : SOk sBlkL := ⟨by kernel_rfl, by decide +kernel, by decide +kernel⟩
theorem flat_rep (n : Nat) : (List.replicate n [(0 : Int)]).flatten = List.replicate n 0 := by simp
theorem snoc_all {P : Int → Prop} {xs : List Int} {x : Int} (h : ∀ y ∈ xs, P y) (hx : P x) : ∀ y ∈ xs ++ [x], P y := fun y hy => (List.mem_append.mp hy).elim (h y) fun e => List.mem_singleton.mp e ▸ hx
theorem getD_mem {xs : List Int} {i : Nat} (hi : i < xs.length) : xs.getD i 0 ∈ xs := by rw [List.getD_eq_getElem?_getD, List.getElem?_eq_getElem hi]; exact List.getElem_mem hi
theorem flat_snoc {X bb : List Int} {xs : List Int} {i : Nat} {n : Int} (hi : i < xs.length) (h : bb = X ++ (xs.take i).flatMap fun x => putI x n false) : bb ++ putI (xs.getD i 0) n false = X ++ (xs.take (i + 1)).flatMap fun x => putI x n false := by
  rw [h, List.take_succ_eq_append_getElem hi, List.flatMap_append, List.append_assoc, List.getD_eq_getElem?_getD, List.getElem?_eq_getElem hi]; simp
theorem flatN_le (n : Int) : ∀ l : List Int, (l.flatMap fun x => putI x n false).length = n.toNat * l.length
  | [] => rfl
  | x :: l => by simp only [List.flatMap_cons, List.length_append, flatN_le n l, putI_length, List.length_cons]; rw [Nat.mul_succ]; lia
theorem flat16_le {B bb : List Int} {i : Nat} {x y : Int} (hB : B.length ≤ 1030) (h : bb = B ++ ([x, y].take i).flatMap fun x => putI x 16 false) : bb.length ≤ 1100 := by
  rw [h, List.length_append, flatN_le, List.length_take]
  rw [show Int.toNat 16 = 16 from rfl]
  simp only [List.length_cons, List.length_nil]; lia
theorem flat8_le {B bb xs : List Int} {i : Nat} (hB : B.length ≤ 1100) (hx : xs.length ≤ 5) (h : bb = B ++ (xs.take i).flatMap fun x => putI x 8 false) : bb.length ≤ 1200 := by
  rw [h, List.length_append, flatN_le, List.length_take]
  rw [show Int.toNat 8 = 8 from rfl]
  lia
theorem plain_eq {bs xs B bb bb2 : List Int} {last : Bool} (hB : bs ++ putI (lastI last) 1 false ++ putI 0 2 false ++ padI (bs ++ putI (lastI last) 1 false ++ putI 0 2 false).length = B)
    (e3 : bb = B ++ (([(xs.length : Int), 65535 - (xs.length : Int)]).take [(xs.length : Int), 65535 - (xs.length : Int)].length).flatMap fun x => putI x 16 false) (e4 : bb2 = bb ++ (xs.take xs.length).flatMap fun x => putI x 8 false) : bb2 = plainBits bs last xs := by
  rw [List.take_length] at e3 e4
  rw [e4, e3, ← hB]
  unfold plainBits
  simp only [List.flatMap_cons, List.flatMap_nil, List.append_nil, List.append_assoc]
theorem pair_b {x y : Int} {i : Nat} (hi : i < [x, y].length) (h1 : 0 ≤ x) (h2 : x < 65536) (h3 : 0 ≤ y) (h4 : y < 65536) : 0 ≤ [x, y].getD i 0 ∧ [x, y].getD i 0 < 65536 := by
  match i, hi with
  | 0, _ => exact ⟨h1, h2⟩
  | 1, _ => exact ⟨h3, h4⟩
theorem pad_small (n : Nat) : 0 ≤ (-(n : Int)).fmod 8 ∧ (-(n : Int)).fmod 8 < 8 := ⟨Int.fmod_nonneg_of_pos _ (by decide), Int.fmod_lt_of_pos _ (by decide)⟩
theorem block_plain {V : Vx} (ok : Ok ⟨sBlkL, V⟩) (hdp : V.dp < 980) (hun : V.un < 9700) (hcl : V.cl = [(Str.ofString "deck", V.L + 1)]) {cl d dw b ct : Addr} {ns bs cs : List Int} {a bk : Int} {last : Bool} (hc : ∃ o, V.h₀.get? cl = some o ∧ IntL ns o) (hl : ns.length ≤ 60) (ha : 0 ≤ a) (ha2 : a < 900)
    (hlb : bs.length ≤ 1000) (hlc : cs.length ≤ 1000) {rest : List Stmt} {K : AV → Nw → Prop} {P : AV}
    (kk : ∀ b' ct' a' some, a + 2 ≤ a' → a' ≤ a + 10 → some.length ≤ 5 → (∀ x ∈ some, 65 ≤ x ∧ x < 91) → K (Is .none) [(V.L + 1, CellP (.ref d)), (d, DeckP V.w cl a'), (dw, WP V.w b' ct' bk), (b', IntL (plainBits bs last some)), (ct', IntL (cs ++ some))]) :
    Ex ⟨sBlkL, V⟩ [some (Is (.ref dw)), some (Is (.bool last)), some P, none, none, none, none, none, none, none] [(V.L + 1, CellP (.ref d)), (d, DeckP V.w cl (a + 1)), (dw, WP V.w b ct bk), (b, IntL (bs ++ putI (lastI last) 1 false)), (ct, IntL cs)]
      (match nth (bodyF 285) 2 with | some (.If _ b _ _) => b | _ => []) (thn ⟨sBlkL, V⟩ rest fun fl _ nw' => K fl.av nw') := by
  have okb := ok.toOkB
  have hd9 : V.dp < 990 := Nat.lt_trans hdp (by decide)
  have hclo : closureFor (match (match nth (bodyF 285) 2 with | some (.If _ b _ _) => b | _ => []) with | .Assign _ (.ListComp _ _ sc _) _ :: _ => sc | _ => scF 285) (Cx.env ⟨sBlkL, V⟩) = pure [(Str.ofString "deck", V.L + 1)] := by
    show closureFor _ (envX _ _ _ _ _ V.cl) = _
    rw [hcl]; rfl
  have hlook : V.cl.lookup (Str.ofString "deck") = some (V.L + 1) := by rw [hcl]; rfl
  have hp7 := putI_length (lastI last) 1 false
  have hb1 : (bs ++ putI (lastI last) 1 false).length ≤ 1010 := by rw [List.length_append, hp7]; have : Int.toNat 1 = 1 := rfl; omega
  refine Ex.compR ok (iy := 4) rfl (fun m => EE.rangeN (okb.fix m)) rfl hclo (by decide +kernel) rfl (by decide +kernel) rfl
    (fun m => EN.draw (c := Cx.fix ⟨sBlkL, V⟩ m) (okb.fix m) (by exact Nat.lt_trans hdp (by decide)) hun (i := 1) (EE.cell (c := Cx.fix ⟨sBlkL, V⟩ m) (okb.fix m) (i := 0) hlook rfl) EE.int rfl (.inl hc) hl (by omega) (by omega) (by decide) (by decide) fun n n0 n1 => ⟨n, rfl, n0, by omega,
      fun i ys nw => ∃ a', a + 2 ≤ a' ∧ a' ≤ a + 2 + i ∧ ys.length = i ∧ (∀ y ∈ ys, 65 ≤ y ∧ y < 91) ∧ nw = [(V.L + 1, CellP (.ref d)), (d, DeckP V.w cl a'), (dw, WP V.w b ct bk), (b, IntL (bs ++ putI (lastI last) 1 false)), (ct, IntL cs)],
      ⟨a + 1 + 1, by omega, by omega, rfl, (fun y hy => nomatch hy), rfl⟩, ?_, ?_⟩)
  · rintro I oI C oC D oD i ys nw hi ⟨a', h1, h2, h3, h4, rfl⟩
    exact EvN.binR Ev.cint (EvN.call2 (c := Cx.fix ⟨sBlkL, V⟩ m) (okb.fix m) (Ev.cglob (okb.fix m) (gl_draw _)) (kp_draw _) (Ev.ccell (i := 3) rfl rfl) Ev.cint (CN.draw (okb.fix m) (Nat.lt_trans hdp (by decide)) hun (i := 4) rfl (.inl hc) hl (by omega) (by omega) (by decide) (by decide) fun z z0 z1 =>
      ⟨z, rfl, _, OpI.add, _, _, rfl, ⟨[0, 1, 2], 3, by decide, by decide, rfl⟩, a' + 1, by omega, by omega, by simp [h3], snoc_all h4 ⟨by omega, by omega⟩, rfl⟩))
  · rintro xs nw D ⟨a', h1, h2, h3, h4, rfl⟩
    have hx5 : xs.length ≤ 5 := by omega
    have hb2 : (bs ++ putI (lastI last) 1 false ++ putI 0 2 false).length ≤ 1020 := by rw [List.length_append, putI_length]; have : Int.toNat 2 = 2 := rfl; omega
    refine Ex.expr (EK.put ok hd9 (EE.ditem 0 (EE.loc okb (i := 0) rfl rfl) (In.at (i := 3) rfl) rfl rfl) EE.int EE.int EE.bool (i := 4) rfl (by omega) (by decide) (by decide) (by decide) (by decide) ?_)
    have hq := pad_small (bs ++ putI (lastI last) 1 false ++ putI 0 2 false).length
    refine Ex.dset (ks := wN) 6 0 rfl (by decide) (EK.cat (Ev.k (EE.ditem 0 (EE.loc okb (i := 0) rfl rfl) (In.at (i := 3) rfl) rfl rfl) ⟨b, rfl, EK.rep (EK.list (EvA.p EE.int (EvA.nil ⟨[0], rfl, by decide, fun a1 => ⟨a1, [0], _, rfl, In.at (i := 0) rfl, EE.bin (EE.neg (EE.len (EE.lenN okb) (EE.ditem 0 (EE.loc okb (i := 0) rfl rfl) (In.at (i := 4) rfl) rfl rfl) (In.at (i := 5) rfl) (by omega))) EE.int (OpI.modP (by decide)), hq.1, by omega, by decide, fun D2 =>
      ⟨D2, _, _, rfl, In.at (i := 6) rfl, In.at (i := 0) rfl, by rw [flat_rep, List.length_replicate]; omega, fun D3 => ⟨(EE.loc okb (i := 0) rfl rfl), rfl, ?_⟩⟩⟩⟩)))⟩))
    rw [flat_rep]
    refine Ex.sel [3, 4, 5, 6, 0, 8] 9 (nw2 := [(D, IntL xs), (V.L + 1, CellP (.ref d)), (d, DeckP V.w cl a'), (dw, WP V.w D3 ct bk), (D3, IntL (bs ++ putI (lastI last) 1 false ++ putI 0 2 false ++ padI (bs ++ putI (lastI last) 1 false ++ putI 0 2 false).length)), (ct, IntL cs)]) ?_
    have hb3 : (bs ++ putI (lastI last) 1 false ++ putI 0 2 false ++ padI (bs ++ putI (lastI last) 1 false ++ putI 0 2 false).length).length ≤ 1030 := by
      have := padI_le (bs ++ putI (lastI last) 1 false ++ putI 0 2 false).length
      rw [List.length_append]; omega
    generalize hB : bs ++ putI (lastI last) 1 false ++ putI 0 2 false ++ padI (bs ++ putI (lastI last) 1 false ++ putI 0 2 false).length = B at hb3 ⊢
    have hn0 : 0 ≤ (xs.length : Int) ∧ (xs.length : Int) < 65536 ∧ 0 ≤ 65535 - (xs.length : Int) ∧ 65535 - (xs.length : Int) < 65536 := by omega
    have hxl : xs.length ≤ 1000000 := Nat.le_trans hx5 (by decide)
    have ha7 : a' ≤ a + 10 := by omega
    clear hq hb2 hb1 h2 h3
    refine Ex.forT ok (ix := 5) rfl (xs := [(xs.length : Int), 65535 - (xs.length : Int)]) (Nat.le_of_ble_eq_true rfl) (EvA.p (EE.len (EE.lenN okb) (EE.loc okb (i := 4) rfl rfl) (In.at (i := 0) rfl) hxl) (EvA.p (EE.bin EE.int (EE.len (EE.lenN okb) (EE.loc okb (i := 4) rfl rfl) (In.at (i := 0) rfl) hxl) OpI.sub) (EvA.nil ⟨rfl, fun l o =>
      Lp.mk (fun x => [some (Is (.ref dw)), some (Is (.bool last)), some P, none, some (Is (.ref D)), x.p1, none, none, none, none]) (fun x => [(D, IntL xs), (V.L + 1, CellP (.ref d)), (d, DeckP V.w cl a'), (dw, WP V.w D3 ct bk), (D3, IntL x.l1), (ct, IntL cs)]) (fun i x => x.l1 = B ++ (([(xs.length : Int), 65535 - (xs.length : Int)]).take i).flatMap fun x => putI x 16 false)
        { l1 := B } (List.append_nil _).symm (fun I oI i x hi e3 => ?_) fun x e3 => ?_⟩)))
    · have hbb := flat16_le hb3 e3
      have hm := pair_b hi hn0.1 hn0.2.1 hn0.2.2.1 hn0.2.2.2
      exact Ex.expr (EK.put ok hd9 (EE.ditem 0 (EE.loc okb (i := 0) rfl rfl) (In.at (i := 5) rfl) rfl rfl) (EE.loc okb (i := 5) rfl rfl) EE.int EE.bool (i := 6) rfl (Nat.le_trans hbb (by decide)) (by decide) (by decide) hm.1 hm.2 (Ex.tendS { p1 := _, l1 := _ } [0, 1, 2, 3, 4, 5, 6, 7] 8 (flat_snoc hi e3)))
    · have hbb := flat16_le hb3 e3
      refine Ex.sel [1, 2, 3, 4, 5, 6] 7 (nw2 := [(D, IntL xs), (V.L + 1, CellP (.ref d)), (d, DeckP V.w cl a'), (dw, WP V.w D3 ct bk), (D3, IntL x.l1), (ct, IntL cs)]) ?_
      refine Ex.forL ok (ix := 6) rfl (fun nw' => (EE.loc okb (i := 4) rfl rfl)) fun o ho => Lp.mk (fun y => [some (Is (.ref dw)), some (Is (.bool last)), some P, none, some (Is (.ref D)), x.p1, y.p1, none, none, none]) (fun y => [(V.L + 1, CellP (.ref d)), (d, DeckP V.w cl a'), (dw, WP V.w D3 ct bk), (D3, IntL y.l1), (ct, IntL cs)]) (fun i y => y.l1 = x.l1 ++ (xs.take i).flatMap fun x => putI x 8 false)
        { l1 := x.l1 } (List.append_nil _).symm (fun I oI i y hi e4 => ?_) fun y e4 => ?_
      · have hm := h4 _ (getD_mem hi)
        have hbb2 := flat8_le hbb hx5 e4
        exact Ex.expr (EK.put ok hd9 (EE.ditem 0 (EE.loc okb (i := 0) rfl rfl) (In.at (i := 4) rfl) rfl rfl) (EE.loc okb (i := 6) rfl rfl) EE.int EE.bool (i := 5) rfl (Nat.le_trans hbb2 (by decide)) (by decide) (by decide) (Int.le_trans (by decide) hm.1) (Int.lt_trans hm.2 (by decide)) (Ex.tendS { p1 := _, l1 := _ } [0, 1, 2, 3, 4, 5, 6] 7 (flat_snoc hi e4)))
      · refine Ex.dset (ks := wN) 4 1 rfl (by decide) (EK.cat2 (EE.ditem 1 (EE.loc okb (i := 0) rfl rfl) (In.at (i := 3) rfl) rfl rfl) (EE.loc okb (i := 4) rfl rfl) (In.at (i := 5) rfl) (.inl ⟨_, .head _, fun o' ho' => ho' ▸ ho⟩) (Nat.le_trans (Nat.add_le_add hlc hx5) (by decide)) fun D4 => ⟨(EE.loc okb (i := 0) rfl rfl), rfl, ?_⟩)
        refine Ex.sel [2, 3, 4, 5, 0] 7 (nw2 := [(V.L + 1, CellP (.ref d)), (d, DeckP V.w cl a'), (dw, WP V.w D3 D4 bk), (D3, IntL y.l1), (D4, IntL (cs ++ xs))]) (Ex.ret0 ?_)
        rw [plain_eq hB e3 e4]
        exact kk D3 D4 a' xs h1 ha7 hx5 h4
theorem cpok {xs xb : Int} {n : Nat} (h1 : 0 ≤ xs) (h2 : xs < 8) (h3 : 0 ≤ xb) (h4 : xb < 8) (h : ¬ ((n : Int) < 1 + xb)) : 3 ≤ 3 + xs ∧ 3 + xs ≤ 10 ∧ 1 ≤ 1 + xb ∧ 1 + xb ≤ 8 ∧ 1 + xb ≤ n := by lia
theorem len1 {α : Type} {l : List α} {x : α} {n : Nat} (h : l.length ≤ n) : (l ++ [x]).length ≤ n + 1 := by simp; lia
theorem le1 {x : Int} (h : 0 ≤ x) : 0 ≤ x + 1 := by lia
theorem lt1k {x : Int} (h : x < 950) : x + 1 < 1000 := by omega
theorem lt2k {x : Int} (h : x < 950) : x + 1 + 1 < 1000 := by lia
theorem lo3 {a x : Int} (h : a + 2 ≤ x) : a + 2 ≤ x + 1 + 1 + 1 := by lia
theorem hi3 {a x : Int} {i : Nat} (h : x ≤ a + 2 + 3 * i) : x + 1 + 1 + 1 ≤ a + 2 + 3 * ((i + 1 : Nat) : Int) := by push_cast; lia
theorem not_lt_of {p q : Prop} [Decidable p] [Decidable q] (h : (decide p || (decide q || false)) = false) : ¬ p := fun hp => by rw [decide_eq_true hp] at h; cases h
theorem blk_room {st st' : WS} {l : List Item} {a x n : Int} {i : Nat} (h : Items st l st') (h1 : a + 2 ≤ x) (h2 : x ≤ a + 2 + 3 * i) (h3 : l.length ≤ i) (hi : i < (n - 0).toNat) (n1 : n < 6) (hb : st.bits.length ≤ 1020) (hc : st.content.length ≤ 1000) (ha : 0 ≤ a) (ha2 : a < 900) : st'.bits.length ≤ 1100 ∧ st'.content.length ≤ 1100 ∧ 0 ≤ x ∧ x < 950 ∧ i < 5 := by
  have := h.le; omega
theorem blk_step {xb xs : Int} {j : Nat} {c y : List Int} (h : y = copyN (1 + xb) j c) (hc : c.length ≤ 1100) (hj : j < (3 + xs - 0).toNat) (h8 : xs < 8) (hb : 1 + xb ≤ c.length) : y.length ≤ 2000 ∧ 1 + xb ≤ y.length := by
  rw [h, copyN_length]; omega
theorem blk_done {m : Nat} {l : List Item} {a x n : Int} {b : List Int} (h : m ≤ b.length + 13 * l.length) (h3 : l.length ≤ (n - 0).toNat) (h2 : x ≤ a + 2 + 3 * ((n - 0).toNat : Int)) (n1 : n < 6) (hb : b.length ≤ 1020) : m ≤ 10000 ∧ x ≤ a + 20 ∧ l.length ≤ 5 := by omega
noncomputable abbrev octL7 : List Int := [97, 98, 200, 255, 143, 144, 0]
theorem block_fixed {V : Vx} (ok : Ok ⟨sBlkL, V⟩) (hdp : V.dp < 980) (hun : V.un < 9700) (hcl : V.cl = [(Str.ofString "deck", V.L + 1)]) {cl d dw b ct : Addr} {ns bs cs : List Int} {a bk : Int} {last : Bool} (hc : ∃ o, V.h₀.get? cl = some o ∧ IntL ns o) (hl : ns.length ≤ 60) (ha : 0 ≤ a) (ha2 : a < 900)
    (hlb : bs.length ≤ 1000) (hlc : cs.length ≤ 1000) (hbk : 0 ≤ bk ∧ bk ≤ 8) {K : AV → Nw → Prop} {P : AV}
    (kk : ∀ ct' a' l st1, a + 2 ≤ a' → a' ≤ a + 20 → l.length ≤ 5 → Items ⟨bs ++ putI (lastI last) 1 false ++ putI 1 2 false, cs, bk⟩ l st1 → K (Is .none) [(V.L + 1, CellP (.ref d)), (d, DeckP V.w cl a'), (dw, WP V.w b ct' st1.back), (b, IntL (st1.bits ++ putI 0 7 true)), (ct', IntL st1.content)]) :
    Ex ⟨sBlkL, V⟩ [some (Is (.ref dw)), some (Is (.bool last)), some P, none, none, none, none, none, none, none] [(V.L + 1, CellP (.ref d)), (d, DeckP V.w cl (a + 1)), (dw, WP V.w b ct bk), (b, IntL (bs ++ putI (lastI last) 1 false)), (ct, IntL cs)]
      ((bodyF 285).drop 3) (fun fl _ nw' => K fl.av nw') := by
  have okb := ok.toOkB
  have hd9 : V.dp < 990 := Nat.lt_trans hdp (by decide)
  have hlook : V.cl.lookup (Str.ofString "deck") = some (V.L + 1) := by rw [hcl]; rfl
  have hb1 : (bs ++ putI (lastI last) 1 false).length ≤ 1010 := by rw [List.length_append, putI_length, show Int.toNat 1 = 1 from rfl]; lia
  have hb2 : (bs ++ putI (lastI last) 1 false ++ putI 1 2 false).length ≤ 1020 := by rw [List.length_append, putI_length, show Int.toNat 2 = 2 from rfl]; lia
  refine Ex.expr (EK.put ok hd9 (EE.ditem 0 (EE.loc okb (i := 0) rfl rfl) (In.at (i := 2) rfl) rfl rfl) EE.int EE.int EE.bool (i := 3) rfl (by lia) (by decide) (by decide) (by decide) (by decide) ?_)
  clear hb1
  refine Ex.forR1 ok (ix := 3) rfl (EE.rangeN okb) (EvN.k (EN.draw okb hd9 hun (i := 1) (EE.cell okb (i := 0) hlook rfl) EE.int rfl (.inl hc) hl (by lia) (by lia) (by decide) (by decide) fun n n0 n1 => ⟨n, rfl, ⟨by lia, by lia⟩,
    Lp.mk (fun x => [some (Is (.ref dw)), some (Is (.bool last)), some P, x.p1, none, none, x.p2, x.p3, x.p4, x.p5]) (fun x => [(V.L + 1, CellP (.ref d)), (d, DeckP V.w cl x.i1), (dw, WP V.w b x.a1 x.ws.back), (b, IntL x.ws.bits), (x.a1, IntL x.ws.content)]) (fun i x => a + 2 ≤ x.i1 ∧ x.i1 ≤ a + 2 + 3 * i ∧ x.wl.length ≤ i ∧ Items ⟨bs ++ putI (lastI last) 1 false ++ putI 1 2 false, cs, bk⟩ x.wl x.ws)
      { i1 := a + 1 + 1, a1 := ct, wl := [], ws := ⟨_, _, _⟩ } ⟨show a + 2 ≤ a + 1 + 1 by lia, show a + 1 + 1 ≤ a + 2 + 3 * ((0 : Nat) : Int) by lia, Nat.le_refl _, .nil _⟩ (fun I oI i x hi hx => ?_) fun x hx => ?_⟩))
  · obtain ⟨hl1, hl2, ha0, ha9, hi5⟩ := blk_room hx.2.2.2 hx.1 hx.2.1 hx.2.2.1 hi n1 hb2 hlc ha ha2
    have hfar := hx.2.2.2.far hbk
    refine Ex.asg ok (i := 6) rfl (EK.item (EK.list (EvA.p EE.int (EvA.p EE.int (EvA.p EE.int (EvA.p EE.int (EvA.p EE.int (EvA.p EE.int (EvA.p EE.int (EvA.nil ⟨octL7, rfl, by decide, fun a1 => ⟨a1, rfl, EvN.k (EN.draw okb hd9 hun (i := 3) (EE.cell okb (i := 2) hlook rfl) EE.int rfl (.inl hc) hl ha0 (Int.lt_trans ha9 (by decide)) (by decide) (by decide) fun xo xo0 xo1 => ⟨xo, octL7, rfl, In.at (i := 0) rfl, xo0, xo1, Int.lt_trans xo1 (by decide), ?_⟩)⟩⟩))))))))))
    have hoc := octB xo.toNat
    generalize octL7.getD xo.toNat 0 = oc at hoc
    clear xo0 xo1
    refine Ex.tup ok [8, 7] rfl (EvA.cons (EK.binR EE.int (EvN.k (EN.draw okb hd9 hun (i := 3) (EE.cell okb (i := 2) hlook rfl) EE.int rfl (.inl hc) hl (le1 ha0) (lt1k ha9) (by decide) (by decide) fun xb xb0 xb1 => ⟨xb, rfl, _, OpI.add,
      EvA.cons (EK.binR EE.int (EvN.k (EN.draw okb hd9 hun (i := 3) (EE.cell okb (i := 2) hlook rfl) EE.int rfl (.inl hc) hl (le1 (le1 ha0)) (lt2k ha9) (by decide) (by decide) fun xs xs0 xs1 => ⟨xs, rfl, _, OpI.add, EvA.nil ⟨rfl, Nat.le_of_ble_eq_true rfl, ?_⟩⟩)))⟩))))
    have hx1 : a + 2 ≤ x.i1 + 1 + 1 + 1 := lo3 hx.1
    have hx2 : x.i1 + 1 + 1 + 1 ≤ a + 2 + 3 * ((i + 1 : Nat) : Int) := hi3 hx.2.1
    refine Ex.sel [1, 2, 3, 4, 5, 6] 7 (nw2 := [(I, Eo oI), (V.L + 1, CellP (.ref d)), (d, DeckP V.w cl (x.i1 + 1 + 1 + 1)), (dw, WP V.w b x.a1 x.ws.back), (b, IntL x.ws.bits), (x.a1, IntL x.ws.content)]) ?_
    refine Ex.ifB (Tv.or (Tv.cmp (EE.loc okb (i := 7) rfl rfl) (EE.len (EE.lenN okb) (EE.ditem 1 (EE.loc okb (i := 0) rfl rfl) (In.at (i := 3) rfl) rfl rfl) (In.at (i := 5) rfl) (Nat.le_trans hl2 (by decide))) CpI.gt) fun _ => Tv.or (Tv.cmp (EE.loc okb (i := 6) rfl rfl) EE.int CpI.eq) fun _ => Tv.orN) (fun _ => ?_) (fun hb => ?_)
    · refine Ex.expr (EK.callG ok (EE.glob okb (gl_sign _)) (kp_sign _) (EvA.p (EE.ditem 0 (EE.loc okb (i := 0) rfl rfl) (In.at (i := 3) rfl) rfl rfl) (EvA.p (EE.loc okb (i := 6) rfl rfl) (EvA.nil (CN.k (CN.sign okb hdp (i := 4) rfl (Nat.le_trans hl1 (by decide)) hoc.1 hoc.2 ?_))))))
      exact Ex.dset (ks := wN) 4 1 rfl (by decide) (EK.cat1 (EE.ditem 1 (EE.loc okb (i := 0) rfl rfl) (In.at (i := 3) rfl) rfl rfl) (In.at (i := 5) rfl) (EE.loc okb (i := 6) rfl rfl) (Nat.le_trans hl2 (by decide)) fun D => ⟨(EE.loc okb (i := 0) rfl rfl), rfl, Ex.nil (R := thn _ [] _) (Ex.tendS { p1 := _, p2 := _, p3 := _, p4 := _, p5 := _, i1 := x.i1 + 1 + 1 + 1, a1 := D, wl := x.wl ++ [.lit oc], ws := Item.run x.ws (.lit oc) } [1, 2, 3, 4, 5, 0] 7 ⟨hx1, hx2, len1 hx.2.2.1, hx.2.2.2.lit hoc⟩)⟩)
    · have hb' := not_lt_of hb
      have hck := cpok xs0 xs1 xb0 xb1 hb'
      refine Ex.expr (EK.callG ok (EE.glob okb (gl_copy _)) (kp_copy _) (EvA.p (EE.ditem 0 (EE.loc okb (i := 0) rfl rfl) (In.at (i := 3) rfl) rfl rfl) (EvA.p (EE.loc okb (i := 8) rfl rfl) (EvA.p (EE.loc okb (i := 7) rfl rfl) (EvA.nil (CN.k (CN.copy okb hdp (i := 4) rfl (Nat.le_trans hl1 (by decide)) hck.1 hck.2.1 hck.2.2.1 hck.2.2.2.1 ?_)))))))
      refine Ex.dsetP (ks := wN) 3 2 (EE.max (EE.blt okb (gl_max _) boot_max) (EE.ditem 2 (EE.loc okb (i := 0) rfl rfl) (In.at (i := 3) rfl) rfl rfl) (EE.loc okb (i := 7) rfl rfl)) (EE.loc okb (i := 0) rfl rfl) rfl ?_
      refine Ex.forR1 ok (ix := 9) rfl (EE.rangeN okb) (Ev.k (EE.loc okb (i := 8) rfl rfl) ⟨3 + xs, rfl, ⟨by lia, by lia⟩, Lp.mk (fun y => [some (Is (.ref dw)), some (Is (.bool last)), some P, some (It (0 + i)), none, none, some (It oc), some (It (1 + xb)), some (It (3 + xs)), y.p1]) (fun y => [(I, Eo oI), (V.L + 1, CellP (.ref d)), (d, DeckP V.w cl (x.i1 + 1 + 1 + 1)), (dw, WP V.w b y.a1 (if 1 + xb > x.ws.back then 1 + xb else x.ws.back)), (b, IntL (x.ws.bits ++ copyI (3 + xs) (1 + xb))), (y.a1, IntL y.l1)]) (fun j y => y.l1 = copyN (1 + xb) j x.ws.content)
        { p1 := _, a1 := x.a1, l1 := x.ws.content } rfl (fun I2 oI2 j y hj hy => ?_) fun y hy => ?_⟩)
      · obtain ⟨hb10, hb11⟩ := blk_step hy hl2 hj xs1 hck.2.2.2.2
        exact Ex.dset (ks := wN) 5 1 rfl (by decide) (EK.cat1 (EE.ditem 1 (EE.loc okb (i := 0) rfl rfl) (In.at (i := 4) rfl) rfl rfl) (In.at (i := 6) rfl) (EE.itemN (EE.ditem 1 (EE.loc okb (i := 0) rfl rfl) (In.at (i := 4) rfl) rfl rfl) (EE.neg (EE.loc okb (i := 7) rfl rfl)) (In.at (i := 6) rfl) (by lia) (by lia) (by lia)) (Nat.le_trans hb10 (by decide)) fun D => ⟨(EE.loc okb (i := 0) rfl rfl), rfl, Ex.tendS { p1 := _, a1 := D, l1 := copyStep (1 + xb) y.l1 } [1, 2, 3, 4, 5, 6, 0] 8 (congrArg (copyStep (1 + xb)) hy)⟩)
      · rw [Int.sub_zero] at hy
        exact Ex.nil (R := thn _ [] _) (Ex.tendS { p1 := _, p2 := _, p3 := _, p4 := _, p5 := _, i1 := x.i1 + 1 + 1 + 1, a1 := y.a1, wl := x.wl ++ [.cp (3 + xs) (1 + xb)], ws := Item.run x.ws (.cp (3 + xs) (1 + xb)) } [0, 1, 2, 3, 4, 5] 6 ⟨hx1, hx2, len1 hx.2.2.1, hx.2.2.2.cp hck⟩ rfl (by decide) (by decide) (by rw [hy]; rfl))
  · have hle := hx.2.2.2.le.1
    obtain ⟨h7, h8, h9⟩ := blk_done hle hx.2.2.1 hx.2.1 n1 hb2
    exact Ex.expr (EK.put ok hd9 (EE.ditem 0 (EE.loc okb (i := 0) rfl rfl) (In.at (i := 2) rfl) rfl rfl) EE.int EE.int EE.bool (i := 3) rfl h7 (by decide) (by decide) (by decide) (by decide) (Ex.nil (kk x.a1 x.i1 x.wl x.ws hx.1 h8 h9 hx.2.2.2)))
end Mine
end
section
open PySem PySem.W PySem.Calls PyProof.Rows
set_option maxRecDepth 100000
set_option maxHeartbeats 4000000
namespace Mine
theorem Callee.mono {b : Bool} {w : World} {f : Addr} {n : Nat} {Body Body' : Vx → List AV → Nw → (AV → Nw → Prop) → Prop} (h : Callee b w f n Body) (k : ∀ V Ps nw₀ KR, V.w = w → Body' V Ps nw₀ KR → Body V Ps nw₀ KR) : Callee b w f n Body' := by
  intro dp un outer G s p loose mean mg mb B KX TT hdp vs Ps hP hn nw₀ ob D ho nd Er KR h'
  exact h B KX TT hdp hP hn D ho nd fun V e1 e2 e3 e4 e5 => k V Ps nw₀ KR e1 (h' V e1 e2 e3 e4 e5)
noncomputable def FnC (w : World) (f : Addr) (S : Sx) (n : Nat) (x0 : Str) (body : List Stmt) : Prop := SOk S ∧ S.b = false ∧ n ≤ S.nm.length ∧ (∀ L, cellsFrom L S.sc.names [] = [(x0, L)]) ∧ S.sc.isCoroutine = false ∧ S.sc.isGenerator = false ∧ ∃ oc od name params dV kV doc pm an cdv ct osl,
  (HA.hd.heap_1_39 w.params).lookup f = some ⟨oc, od, .func (fnOf name S.cn params body S.sc dV kV doc pm an cdv ct), osl⟩ ∧ codeIn (HA.hd.heap_1_39 w.params) cdv S.cn = true ∧
  ∀ (s : Shared) v0 vs, vs.length = n → BindsTo s (fnOf name S.cn params body S.sc dV kV doc pm an cdv ct) ⟨v0 :: vs, []⟩ ((x0, v0) :: S.nm.zip vs) ∧
    ((((x0, v0) :: S.nm.zip vs).all fun y => S.sc.names.lookup y.1 == some .local || S.sc.names.lookup y.1 == some .cell) = true) ∧
    ∀ L, bindC (envOfC S.cn S.sc L f cdv).kindOf ((x0, v0) :: S.nm.zip vs) (fun _ => none) x0 = some v0 ∧ ∀ i x v, nth S.nm i = some x → nth vs i = some v → bindL (envOfC S.cn S.sc L f cdv).kindOf ((x0, v0) :: S.nm.zip vs) (fun _ => none) x = some v
theorem cellM {w : World} {f : Addr} {S : Sx} {n : Nat} {x0 : Str} {body : List Stmt} (fc : FnC w f S n x0 body) : Callee false w f (n + 1) (fun V Ps nw₀ KR => ∀ v0 P0 Ps', Ps = P0 :: Ps' → P0 v0 → V.cl = [(x0, V.L + 1)] → Ok ⟨S, V⟩ →
    Ex ⟨S, V⟩ (Ps'.map some ++ List.replicate (S.nm.length - n) none) ((V.L + 1, CellP v0) :: nw₀) body (fun fl _ nw' => KR fl.av nw')) := by
  intro dp un outer G s p loose mean mg mb B KX TT hdp vs Ps hP hn nw₀ ob D ho nd Er KR h
  obtain ⟨so, hb, hle, hce, hco, hge, oc, od, name, params, dV, kV, doc, pm, an, cdv, ct, osl, hlk, hcd, hbi⟩ := fc
  cases hP with
  | nil => cases hn
  | @cons P0 v0 Ps vs h0 hP =>
    have hn' : Ps.length = n := Nat.succ.inj hn
    obtain ⟨hb1, hb2, hb3⟩ := hbi s v0 vs (hP.length.symm.trans hn')
    have hobj : ∀ q ∈ nw₀.map (fun e => (e.1, ob e.1)), q.1 ∈ adr nw₀ := fun q hq => by
      obtain ⟨e, he, rfl⟩ := List.mem_map.mp hq
      exact List.mem_map_of_mem (f := (·.1)) he
    have hobj2 : ∀ a ∈ adr nw₀, ∃ q ∈ nw₀.map (fun e => (e.1, ob e.1)), q.1 = a := fun a ha => by
      obtain ⟨e, he, rfl⟩ := List.mem_map.mp ha
      exact ⟨_, List.mem_map.mpr ⟨e, he, rfl⟩, rfl⟩
    have hroom : (Ar dp un (some []) outer).depth < recursionLimit := by unfold recursionLimit; exact Nat.lt_trans hdp (by decide)
    refine enterC (mods := adr nw₀) B D KX TT hlk hcd hroom hb1 hb2 (by rw [hce]; exact List.nodup_cons.mpr ⟨(fun q => nomatch q), List.nodup_nil⟩) (fun h₀ L h₁ tk cells F N Y B' X0 T0 hlt EE => ?_) hco hge so.fn
    have he : envOfC S.cn S.sc L f cdv = envX S.cn S.sc L f cdv [(x0, L + 1)] := by show envX S.cn S.sc L f cdv (cellsFrom (L + 1) S.sc.names []) = _; rw [hce]
    rw [hce] at Y
    obtain ⟨oc', rfl, dC⟩ := PyProof.Rows.CellsAre.one Y
    have dC' : oc'.data = .cell (some v0) := dC.trans (congrArg Data.cell (hb3 L).1)
    have hL : L + 1 ∉ adr nw₀ := fun q => by
      obtain ⟨e, he, hq⟩ := List.mem_map.mp q
      have := hlt _ (List.mem_map.mpr ⟨e, he, rfl⟩)
      change @LT.lt Nat _ e.1 L at this
      rw [hq] at this
      exact absurd this (Nat.not_lt.mpr (Nat.le_succ L))
    have hne : ∀ e ∈ nw₀, e.1 ≠ L + 1 := fun e he q => hL (q ▸ List.mem_map_of_mem (f := (·.1)) he)
    have hob : nw₀.map (fun e => (e.1, if e.1 = L + 1 then oc' else ob e.1)) = nw₀.map (fun e => (e.1, ob e.1)) := List.map_congr_left fun e he => by rw [if_neg (hne e he)]
    have st := startM (nw₁ := (L + 1, CellP v0) :: nw₀) (ob := fun b => if b = L + 1 then oc' else ob b) (S := S) (body := body) (dp := dp + 1) (un := un + 3) (fa := f) (cd := cdv) (KR := KR) (Er := Er) (tk := tk) so B' KX X0 TT T0 F (by
      rw [List.map_cons, hob, if_pos rfl]; exact N) (fun e he => by
      rcases List.mem_cons.mp he with rfl | he
      · show CellP v0 (if L + 1 = L + 1 then oc' else ob (L + 1)); rw [if_pos rfl]; exact dC'
      · show e.2 (if e.1 = L + 1 then oc' else ob e.1)
        rw [if_neg (hne e he)]; exact ho e he) (List.nodup_cons.mpr ⟨hL, nd⟩) (locOk_zip (S.nm.length - n) (hb3 L).2 hP (by rw [hn']; exact hle)) EE hobj hobj2 fun V e1 e2 e3 e4 e5 e6 e7 _ ok => e5 ▸ h V e1 e2 e3 (fun b o e hb => by
        rw [e4]
        exact EE.base b o e fun q => hb (by obtain ⟨x, hx, rfl⟩ := List.mem_map.mp q; exact hobj x hx)) e7 v0 P0 Ps rfl h0 (by rw [e6, e5]) ok
    rw [hb] at st
    rw [he]
    exact st
end Mine
end
section
open PySem PySem.W PySem.Calls PyProof.Rows
set_option maxRecDepth 100000
set_option maxHeartbeats 4000000
namespace Mine
theorem fn_block (w : World) : FnC w 285 sBlkL 2 (Str.ofString "deck") (bodyF 285) := by
  refine ⟨so_block, rfl, by decide, fun L => by kernel_rfl, by kernel_rfl, by kernel_rfl, _, _, _, _, _, _, _, _, _, _, _, _, by k_is, by (show codeIn _ _ (Str.ofString "_law_block") = true; k_is), fun s v0 vs h => ?_⟩
  obtain ⟨a, b, rfl⟩ := vs2 h
  refine ⟨BindsTo.of_eq rfl, by kernel_rfl, fun L => ⟨by kernel_rfl, fun i x v hx hv => ?_⟩⟩
  match i, hx, hv with
  | 0, hx, hv => cases hx; cases hv; kernel_rfl
  | 1, hx, hv => cases hx; cases hv; kernel_rfl
theorem block_h {V : Vx} (ok : Ok ⟨sBlkL, V⟩) (hdp : V.dp < 980) (hun : V.un < 9700) (hcl : V.cl = [(Str.ofString "deck", V.L + 1)]) {cl d dw b ct : Addr} {ns bs cs : List Int} {a bk : Int} {last : Bool} (hc : ∃ o, V.h₀.get? cl = some o ∧ IntL ns o) (hl : ns.length ≤ 60) (ha : 0 ≤ a) (ha2 : a < 900)
    (hlb : bs.length ≤ 1000) (hlc : cs.length ≤ 1000) (hbk : 0 ≤ bk ∧ bk ≤ 8) {K : AV → Nw → Prop}
    (kk : ∀ b' ct' a' st, a ≤ a' → a' ≤ a + 20 → BlockR last ⟨bs, cs, bk⟩ st → K (Is .none) [(V.L + 1, CellP (.ref d)), (d, DeckP V.w cl a'), (dw, WP V.w b' ct' st.back), (b', IntL st.bits), (ct', IntL st.content)]) :
    Ex ⟨sBlkL, V⟩ [some (Is (.ref dw)), some (Is (.bool last)), none, none, none, none, none, none, none, none] [(V.L + 1, CellP (.ref d)), (d, DeckP V.w cl a), (dw, WP V.w b ct bk), (b, IntL bs), (ct, IntL cs)] (bodyF 285) (fun fl _ nw' => K fl.av nw') := by
  have okb := ok.toOkB
  have hd9 : V.dp < 990 := Nat.lt_trans hdp (by decide)
  have hlook : V.cl.lookup (Str.ofString "deck") = some (V.L + 1) := by rw [hcl]; rfl
  refine Ex.asg ok (i := 2) rfl (EK.cmp (EvN.k (EN.draw okb hd9 hun (i := 1) (EE.cell okb (i := 0) hlook rfl) EE.int rfl (.inl hc) hl ha (Int.lt_trans ha2 (by decide)) (by decide) (by decide) fun x x0 x1 => ⟨x, 0, _, rfl, EE.int, CpI.eq, ?_⟩)))
  refine Ex.expr (EK.put ok hd9 (EE.ditem 0 (EE.loc okb (i := 0) rfl rfl) (In.at (i := 2) rfl) rfl rfl) (EE.intB (EE.blt okb (gl_int _) boot_int) (EE.loc okb (i := 1) rfl rfl)) EE.int EE.bool (i := 3) rfl (Nat.le_trans hlb (by decide)) (by decide) (by decide) (by cases last <;> decide) (by cases last <;> decide) ?_)
  refine Ex.ifB (Tv.plain (EE.loc okb (i := 2) rfl rfl)) (fun _ => ?_) fun _ => ?_
  · exact block_plain ok hdp hun hcl hc hl ha ha2 hlb hlc (rest := (bodyF 285).drop 3) fun b' ct' a' xs h1 h2 h3 h4 => kk b' ct' a' ⟨_, _, _⟩ (by lia) (by lia) (.plain xs h3 h4 rfl)
  · exact Ex.nil (R := thn _ ((bodyF 285).drop 3) _) (block_fixed ok hdp hun hcl hc hl ha ha2 hlb hlc hbk fun ct' a' l st1 h1 h2 h3 h4 => kk b ct' a' ⟨_, _, _⟩ (by lia) (by lia) (.fixed l st1 h3 h4 rfl))
theorem CN.block {c : Cx} {lo : Lo} {nw : Nw} (ok : OkB c) (hdp : c.V.dp < 970) (hun : c.V.un < 9600) {cl d dw b ct : Addr} {ns bs cs : List Int} {a bk : Int} {last : Bool} {K : AV → Nw → Prop} (is ks : List Nat) (k : Nat) {nwr : Nw} (hp : is.map (nth nw) = [some (d, DeckP c.V.w cl a), some (dw, WP c.V.w b ct bk), some (b, IntL bs), some (ct, IntL cs)])
    (hc : Ro c nw is cl (IntL ns)) (hl : ns.length ≤ 60) (ha : 0 ≤ a) (ha2 : a < 900) (hlb : bs.length ≤ 1000) (hlc : cs.length ≤ 1000) (hbk : 0 ≤ bk ∧ bk ≤ 8)
    (kk : ∀ ce b' ct' a' st, a ≤ a' → a' ≤ a + 20 → BlockR last ⟨bs, cs, bk⟩ st → K (Is .none) ((ce, CellP (.ref d)) :: (d, DeckP c.V.w cl a') :: (dw, WP c.V.w b' ct' st.back) :: (b', IntL st.bits) :: (ct', IntL st.content) :: nwr))
    (hnd : autoParam ((is ++ ks).Nodup) Mine.aD) (hk : autoParam (∀ i ∈ is ++ ks, i < k) Mine.aD) (he : autoParam (ks.filterMap (nth nw) ++ nw.drop k = nwr) Mine.aR) : CN c lo nw (.ref 285) [Is (.ref d), Is (.ref dw), Is (.bool last)] K :=
  CN.callX ok (cellM (fn_block _)) (Nat.lt_trans hdp (by decide)) rfl is ks k (nw₀ := [(d, DeckP c.V.w cl a), (dw, WP c.V.w b ct bk), (b, IntL bs), (ct, IntL cs)]) hp (fun V e1 e2 e3 ro v0 P0 Ps' eP hP0 ecl okV => by
    cases eP
    obtain rfl : v0 = .ref d := hP0
    rw [← e1] at kk ⊢
    exact block_h (K := fun P nw' => K P (nw' ++ nwr)) okV (by lia) (by lia) ecl (ro _ _ hc) hl ha ha2 hlb hlc hbk fun b' ct' a' st h1 h2 h3 => kk _ b' ct' a' st h1 h2 h3) hnd hk he
end Mine
end
section
open PySem PySem.W PySem.Calls PyProof.Rows
set_option maxRecDepth 100000
set_option maxHeartbeats 4000000
namespace Mine
noncomputable def CellAny : AO := fun o => ∃ v, o.data = .cell v
theorem CellP.any {v : Value} {o : Obj} (h : CellP v o) : CellAny o := ⟨_, h⟩
noncomputable def rgI (x left step : Int) : Obj := { cls := .type "range_iterator", data := .fields #[rawInt x, rawInt left, rawInt step] }
theorem nodup3 {I C D : Addr} {l : List Addr} (h1 : I ≠ C) (h2 : I ≠ D) (h3 : C ≠ D) (k : ∀ a ∈ l, a ≠ I ∧ a ≠ C ∧ a ≠ D) (nd : l.Nodup) : (I :: C :: D :: l).Nodup :=
  List.nodup_cons.mpr ⟨fun q => (List.mem_cons.mp q).elim h1 fun q => (List.mem_cons.mp q).elim h2 fun q => (k _ q).1 rfl, List.nodup_cons.mpr ⟨fun q => (List.mem_cons.mp q).elim h3 fun q => (k _ q).2.1 rfl, List.nodup_cons.mpr ⟨fun q => (k _ q).2.2 rfl, nd⟩⟩⟩
theorem off1_mem {D : Addr} : ∀ {l : List (Addr × Obj)}, LCg.Off1 D l → ∀ p ∈ l, p.1 ≠ D
  | [], _, _, h => nomatch h
  | _ :: _, x, p, h => by
    rcases List.mem_cons.mp h with rfl | h
    · exact x.1
    · exact off1_mem x.2 p h
section
variable {c : Cx} {lo : Lo} {nw : Nw} {rest : List Stmt} {R : Fl → Lo → Nw → Prop}
theorem Ex.asgC (ok : Ok c) {i : Nat} {x : Str} {a : Addr} {v0 : Value} {e : Expr} {p pos : Pos} (hl : c.V.cl.lookup x = some a) (h : EK c lo nw e fun P nw1 => ∃ v1, P = Is v1 ∧ nth nw1 i = some (a, CellP v0) ∧ Ex c lo (put nw1 i (a, CellP v1)) rest R)
    (hk : autoParam (c.S.sc.names.lookup x = some .cell) Mine.aR) (hw : autoParam (swapsWith e (some (.Name x p)) pos.line c.env = pure false) Mine.aR) : Ex c lo nw (.Assign [.Name x p] e pos :: rest) R :=
  Ex.sk fun s hs Q q => wpAny_Assign_Name (h s hs _ fun P nw1 v s1 ⟨v1, eP, hi, k⟩ hP hs1 => by
    subst eP; cases hP
    obtain ⟨m, ns, o, g, F, N, ho, hm, U, _, fin⟩ := hs1.upd hi
    exact storeX_C F N hl U ho (fun h' o' F' N' d' => q _ _ _ k (fin h' s1.toks o' _ F' N' d')) ok.fn hk) hw
theorem Ev.cown {env : Env} {C : Addr} {oC : Obj} {m₂ : Str → Option Value} {scope : Scope} {cl : List (Str × Addr)} {x : Str} {pos : Pos} {v : Value} {P : AV} {i : Nat} (hi : nth nw i = some (C, Eo oC)) (hC : LCg.NsObj oC m₂) (hx : m₂ x = some v) (hP : P v) (hk : autoParam ((compEnvC scope cl C env).scope.kind = .function) Mine.aR) (hl : autoParam ((compEnvC scope cl C env).kindOf x = some .local) Mine.aR) (hd' : autoParam ((x == Str.ofString "__debug__") = false) Mine.aDk) :
    Ev c lo nw (eval (.Name x pos) (compEnvC scope cl C env)) P := fun s hs Q E q => by
  obtain ⟨o2, e2, h2, h3⟩ := hs.has (nth_mem hi)
  cases h2
  exact LCgL.ld_own (news := [(C, oC)]) (h₀ := c.V.h₀) (L := c.V.L) (fun p hp => by rw [List.mem_singleton.mp hp]; exact ⟨e2, h3⟩) (.head _) hC hx (q v s hP hs) hk hl hd'
theorem EvN.compU (ok : OkB c) {env : Env} {x rn : Str} {px rp cp pos : Pos} {elt e : Expr} {scope : Scope} {cl : List (Str × Addr)} {n : Nat} {g : Nat → Int} {K : AV → Nw → Prop} (hr : ∀ m, Ev (c.fix m) lo nw (eval (.Name rn rp) env) (Is (.type "range"))) (he1 : ∀ m, Ev (c.fix m) lo nw (eval e env) (It n)) (hn1 : n ≤ 1000)
    (hclos : closureFor scope env = pure cl) (hcell : ∀ z ∈ scope.names, z.2 ≠ .cell) (hkind : scope.kind = .function)
    (hnames : ∀ z ∈ scope.names, z.2 = .local → scope.names.lookup z.1 = some .local) (hx : scope.names.lookup x = some .local)
    (turn : ∀ m I oI C oC D oD m₂ i v, i < n → LCg.NsObj oC m₂ → m₂ x = some v → It (0 + i) v → Ev (c.fix m) lo ((I, Eo oI) :: (C, Eo oC) :: (D, Eo oD) :: nw) (eval elt (compEnvC scope cl C env)) (It (g i)))
    (k : ∀ D, K (Is (.ref D)) ((D, IntL ((List.range n).map g)) :: nw))
    (he : autoParam (starEach [e] env = (false, eval e env) :: starEach [] env) Mine.aR)
    (hc : autoParam (eval (.Call (.Name rn rp) [e] [] cp) env = (do callWith cp (← eval (.Name rn rp) env) [] (backTo cp (starEach [e] env)) (backToKw cp (keywordEach [] env)))) Mine.aR) (hf : autoParam (∀ x, foldedSetIterable (.Call (.Name rn rp) [e] [] cp) env x = pure x) Mine.aIr) :
    EvN c lo nw (eval (.ListComp elt [⟨.Name x px, .Call (.Name rn rp) [e] [] cp, [], 0⟩] scope pos) env) K := fun s hs Q E q => by
  obtain ⟨hh, tk0, m, ob, rfl, F, l, N, oo, nd⟩ := hs
  have l' : LocC (c.fix m) lo m := ⟨l.1, rfl⟩
  have hs1 : St (c.fix m) lo nw { c.V.s₀ with heap := hh, toks := tk0 } := ⟨hh, tk0, m, ob, rfl, F, l', N, oo, nd⟩
  have hm : ∀ {nw : Nw} {s : Shared}, St (c.fix m) lo nw s → ∃ (h : Heap) (tk : Nat) (ob : Addr → Obj), s = { c.V.s₀ with heap := h, toks := tk } ∧ Fr c.V.h₀ c.V.L h m ∧ News c.V.h₀ c.V.L h (nw.map fun e => (e.1, ob e.1)) ∧ (∀ e ∈ nw, e.2 (ob e.1)) ∧ (adr nw).Nodup := fun ⟨hh, tk0, m', ob, e, F, l, N, oo, nd⟩ => by
    have : m' = m := l.2
    subst this
    exact ⟨hh, tk0, ob, e, F, N, oo, nd⟩
  refine LCg.ListComp_U (L := c.V.L) (h₀ := c.V.h₀) F hclos hcell hkind hnames hx ?_ hf
  refine Call_ (hr m _ hs1 _ _ fun v s1 hv hs1 => ?_) hc
  cases hv
  refine PySem.Pv.callWith_type1 (args_cons (he1 m s1 hs1 _ _ fun v s2 hP hs2 => args_nil ?_) he) he rfl
  obtain ⟨t, rfl⟩ := hP
  obtain ⟨h2, tk2, ob2, rfl, F2, N2, oo2, nd2⟩ := hm hs2
  refine range1_rows F2 N2 fun h3 tk3 t1 u1 v1 hr3 F3 N3 kall => ?_
  have hn' : Builtin.Range.rangeSize 0 n 1 = (n : Int) := by
    have := rangeSize_nat 0 n
    rwa [Int.sub_zero, Int.toNat_natCast] at this
  refine LCg.CompSrc.range (n := n) rfl F3 N3 hr3 (small_one (by decide) (by decide) (by omega) (by omega)) hn' (by rw [sizeLine_eq]; omega) ?_
  intro gg
  refine compRest_of (fun i ysv nx => IntsAre ysv ((List.range i).map g) ∧ ∃ ob : Addr → Obj, nx = nw.map (fun e => (e.1, ob e.1)) ∧ (∀ e ∈ nw, e.2 (ob e.1)) ∧ (adr nw).Nodup) ?_ ?_ _ 0 [] _ (Nat.zero_add _) ⟨.nil, ob2, rfl, oo2, nd2⟩
  · rintro i ysv nx hi ⟨hI, ob, rfl, oo, nd⟩ v I oI C oC D m₂ h tk E' hv hC hxv F N off ⟨ne1, ne2, ne3⟩
    have offm := off.mem
    have hst : St (c.fix m) lo ((I, Eo oI) :: (C, Eo oC) :: (D, Eo (LCg.lst ysv)) :: nw) { c.V.s₀ with heap := h, toks := tk } := by
      refine St.build (c := c.fix m) F l' (fun e he => ?_) ?_
      · rcases List.mem_cons.mp he with rfl | he
        · have z := N _ (.head _); exact ⟨⟨_, z.1, rfl⟩, z.2⟩
        rcases List.mem_cons.mp he with rfl | he
        · have z := N _ (.tail _ (.head _)); exact ⟨⟨_, z.1, rfl⟩, z.2⟩
        rcases List.mem_cons.mp he with rfl | he
        · have z := N _ (.tail _ (.tail _ (.head _))); exact ⟨⟨_, z.1, rfl⟩, z.2⟩
        · have z := N _ (.tail _ (.tail _ (.tail _ (List.mem_map.mpr ⟨e, he, rfl⟩))))
          exact ⟨⟨_, z.1, oo e he⟩, z.2⟩
      · have k : ∀ a ∈ adr nw, a ≠ I ∧ a ≠ C ∧ a ≠ D := fun a ha => by
          obtain ⟨x, hx, rfl⟩ := List.mem_map.mp ha
          exact offm (x.1, ob x.1) (List.mem_map.mpr ⟨x, hx, rfl⟩)
        exact nodup3 ne1 ne2 ne3 k nd
    refine turn m I oI C oC D _ _ i v hi hC hxv hv _ hst _ _ fun v' s' hv' hs' => ?_
    obtain ⟨t', rfl⟩ := hv'
    obtain ⟨h4, tk4, ob4, rfl, F4, N4, oo4, nd4⟩ := hm hs'
    have zI := oo4 _ (.head _)
    have zC := oo4 _ (.tail _ (.head _))
    have zD := oo4 _ (.tail _ (.tail _ (.head _)))
    have d1 := List.nodup_cons.mp nd4
    have d2 := List.nodup_cons.mp d1.2
    have d3 := List.nodup_cons.mp d2.2
    refine ⟨h4, tk4, nw.map (fun e => (e.1, ob4 e.1)), rfl, F4, fun p hp => ?_, LCg.Off3.of fun p hp => ?_, trivial, by rw [List.range_succ, List.map_append]; exact hI.append (.cons _ _ .nil), ob4, rfl, fun e he => oo4 e (.tail _ (.tail _ (.tail _ he))), d3.2⟩
    · rcases List.mem_cons.mp hp with rfl | hp
      · have z := N4 _ (.head _); dsimp only at zI z; rw [zI] at z; exact z
      rcases List.mem_cons.mp hp with rfl | hp
      · have z := N4 _ (.tail _ (.head _)); dsimp only at zC z; rw [zC] at z; exact z
      rcases List.mem_cons.mp hp with rfl | hp
      · have z := N4 _ (.tail _ (.tail _ (.head _))); dsimp only at zD z; rw [zD] at z; exact z
      · exact N4 p (.tail _ (.tail _ (.tail _ hp)))
    · obtain ⟨x, hx, rfl⟩ := List.mem_map.mp hp
      have hm2 : x.1 ∈ adr nw := List.mem_map_of_mem (f := (·.1)) hx
      exact ⟨fun q => d1.1 (q ▸ .tail _ (.tail _ hm2)), fun q => d2.1 (q ▸ .tail _ hm2), fun q => d3.1 (q ▸ hm2)⟩
  · rintro ysv nx ⟨hI, ob, rfl, oo, nd⟩ D h tk F N off
    refine q _ _ _ _ (k D) rfl (St.build F l (fun e he => ?_) ?_)
    · rcases List.mem_cons.mp he with rfl | he
      · have z := N _ (.head _); exact ⟨⟨_, z.1, ysv, _, rfl, hI⟩, z.2⟩
      · have z := N _ (.tail _ (List.mem_map.mpr ⟨e, he, rfl⟩)); exact ⟨⟨_, z.1, oo e he⟩, z.2⟩
    · refine List.nodup_cons.mpr ⟨fun z => ?_, nd⟩
      obtain ⟨x, hx, e⟩ := List.mem_map.mp z
      exact off1_mem off (x.1, ob x.1) (List.mem_map.mpr ⟨x, hx, rfl⟩) e
end
end Mine
end
section
open PySem PySem.W PySem.Calls PyProof.Rows
set_option maxRecDepth 100000
namespace Mine
noncomputable def At (h : Heap) (a : Addr) (P : AO) : Prop := ∃ o, h.get? a = some o ∧ P o
section
variable {c : Cx} {lo : Lo} {nw : Nw} {rest : List Stmt} {R : Fl → Lo → Nw → Prop}
theorem St.mod {nw2 : Nw} {s : Shared} {h' : Heap} {tk : Nat} (hs : St c lo nw s) (ms : List Addr) (hm : ∀ a ∈ ms, a ∈ adr nw) (k : ∀ b o, b ∉ ms → s.heap.get? b = some o → h'.get? b = some o)
    (e : ∀ e ∈ nw2, (e ∈ nw ∧ e.1 ∉ ms) ∨ ((∃ o, h'.get? e.1 = some o ∧ e.2 o) ∧ e.1 ∈ adr nw)) (nd : (adr nw2).Nodup) : St c lo nw2 { s with heap := h', toks := tk } := by
  have hA : ∀ a ∈ adr nw, a ≠ c.V.L ∧ c.V.h₀.get? a = none := fun a ha => by
    obtain ⟨x, hx, rfl⟩ := List.mem_map.mp ha
    obtain ⟨_, _, _, h1, h2⟩ := hs.has hx
    exact ⟨h1, h2⟩
  obtain ⟨h, tk0, m, ob, rfl, F, l, N, oo, nd0⟩ := hs
  refine St.build ⟨F.ns.at' fun o e => k _ o (fun q => (hA _ (hm _ q)).1 rfl) e, fun b o e => k b o (fun q => by rw [(hA _ (hm _ q)).2] at e; cases e) (F.keep b o e), F.above⟩ l (fun x hx => ?_) nd
  rcases e x hx with ⟨h1, h2⟩ | ⟨h1, h2⟩
  · have z := N _ (List.mem_map.mpr ⟨x, h1, rfl⟩)
    exact ⟨⟨_, k _ _ h2 z.1, oo x h1⟩, z.2⟩
  · exact ⟨h1, hA _ h2⟩
theorem Ex.lset (ok : Ok c) {o e1 e : Expr} {p pos : Pos} {a : Addr} {ns : List Int} {k x : Int} (i : Nat) (he : EE c lo nw e (It x)) (ho : EE c lo nw o (Is (.ref a))) (h1 : EE c lo nw e1 (It k)) (hi : nth nw i = some (a, IntL ns)) (k0 : 0 ≤ k) (k1 : k < ns.length) (k2 : k < 2 ^ 63)
    (kk : Ex c lo (put nw i (a, IntL (ns.set k.toNat x))) rest R) (hw : autoParam (swapsWith e (some (.Subscript o e1 p)) pos.line c.env = pure false) Mine.aR) : Ex c lo nw (.Assign [.Subscript o e1 p] e pos :: rest) R :=
  Ex.sk fun s hs Q q => wpAny_Assign_Subscript (he s hs _ _ fun v s1 hv hs1 => ho s1 hs1 _ _ fun ov s2 hov hs2 => h1 s2 hs2 _ _ fun kv s3 hk hs3 => by
    cases hov
    obtain ⟨t, rfl⟩ := hv
    obtain ⟨u, rfl⟩ := hk
    obtain ⟨m, nn, o2, g, F, N, ⟨vs, n, rfl, hI⟩, hm, _, U, fin⟩ := hs3.upd hi
    exact ksa_set F N (U _) hI k0 k1 k2 fun h' F' N' hI' _ _ => q _ _ _ kk (fin h' s3.toks _ (IntL (ns.set k.toNat x)) F' N' ⟨_, n, rfl, hI'⟩)) hw
theorem Ex.laug (ok : Ok c) {o e1 e : Expr} {op : Operator} {p pos : Pos} {a : Addr} {ns : List Int} {k y z : Int} (i : Nat) (ho : EE c lo nw o (Is (.ref a))) (h1 : EE c lo nw e1 (It k)) (he : EE c lo nw e (It y)) (hi : nth nw i = some (a, IntL ns)) (k0 : 0 ≤ k) (k1 : k < ns.length) (k2 : k < 2 ^ 63) (hop : OpJ c.V.w op (ns.getD k.toNat 0) y z)
    (kk : Ex c lo (put nw i (a, IntL (ns.set k.toNat z))) rest R) (ha : ∀ ov iv new, augStore e1 ov iv new = (do holding [new, ov, iv] (setItem ov iv new); release [new, ov, iv] []; pure .next) := by intros; rfl) : Ex c lo nw (.AugAssign (.Subscript o e1 p) op e pos :: rest) R :=
  Ex.sk fun s hs Q q => wpAny_AugAssign_SubscriptAny (ho s hs _ _ fun ov s1 hov hs1 => h1 s1 hs1 _ _ fun kv s2 hk hs2 => by
    cases hov
    obtain ⟨u, rfl⟩ := hk
    obtain ⟨o0, eo, p0⟩ := (In.at hi).get hs2
    obtain ⟨vs0, hl0, hI0⟩ := p0.isList eo
    refine getItem_intsK hl0 hI0 k0 k1 k2 fun t => he s2 hs2 _ _ fun v s3 hv hs3 => ?_
    obtain ⟨t', rfl⟩ := hv
    refine hop _ _ _ _ _ _ fun t2 tk => ?_
    have hs4 := hs3.tok (tk := tk)
    obtain ⟨m, nn, o2, g, F, N, ⟨vs, n, rfl, hI⟩, hm, _, U, fin⟩ := hs4.upd hi
    exact ksa_set F N (U _) hI k0 k1 k2 fun h' F' N' hI' _ _ => q _ _ _ kk (fin h' tk _ (IntL (ns.set k.toNat z)) F' N' ⟨_, n, rfl, hI'⟩)) ha
theorem Ex.forB (ok : Ok c) {x : Str} {px pos : Pos} {ix : Nat} {e : Expr} {body : List Stmt} (hn : nth c.S.nm ix = some x) {l : Addr} {ns : List Int} (he : EE c lo nw e (Is (.ref l))) (hl : At c.V.h₀ l (IntL ns))
    (L : Lp c ix body rest R (fun i => It (ns.getD i 0)) ns.length [] lo nw) (hf : autoParam (∀ x, foldedSetIterable e c.env x = pure x) Mine.aIr) :
    Ex c lo nw (.For (.Name x px) e body [] pos :: rest) R := fun s hs Q q =>
  wpM_execs_cons (wpM_For (by
    refine he s hs _ _ fun v s1 hv hs1 => ?_
    cases hv
    obtain ⟨o0, eo0, vs, nl, rfl, hI⟩ := hl
    have eo := hs1.base eo0
    have hl : s1.heap.IsList l (List.toArray vs) := ⟨_, eo, rfl, _, rfl⟩
    refine wpAny_pyIter_list hl ?_
    obtain ⟨J, hJ, turn, done⟩ := L
    have hnone : s1.heap.get? s1.heap.objs.size = none := by
      cases q : s1.heap.get? s1.heap.objs.size with
      | none => rfl
      | some o => exact absurd (Heap.lt_size q) (Nat.lt_irrefl _)
    have hne : l ≠ s1.heap.objs.size := fun z => by rw [z, hnone] at eo; cases eo
    have hs2 := hs1.new (o := ({ cls := .type "list_iterator", data := .fields #[.ref l, .int 0 0] } : Obj)) (P := Eo ({ cls := .type "list_iterator", data := .fields #[.ref l, .int 0 0] } : Obj)) (tk := s1.toks) (h' := Heap.push s1.heap ({ cls := .type "list_iterator", data := .fields #[.ref l, .int 0 0] } : Obj)) (fun b o e => Heap.get?_push_of_some _ e) hnone (Heap.get?_push_size _ rfl) rfl
    have W := Walks.list (prog := PySem.Challenge.rw_pb0114_01.row.prog) (w := c.V.w) (A := c.A) rfl s1.heap.objs.size l hne (List.toArray vs)
    have hsz : (List.toArray vs).size = ns.length := by rw [List.size_toArray, hI.length]
    rw [hsz] at W
    exact forW ok hn W (PP := fun i => It (ns.getD i 0)) (fun i v e => ints_nth hI (by simpa using e)) (fun i h st => by obtain ⟨⟨o, ho, _⟩, _⟩ := st; exact ⟨o, ho⟩) []
      (fun a ha => by
        rcases List.mem_cons.mp ha with rfl | ha
        · exact .inl rfl
        · rw [List.mem_singleton.mp ha]; exact .inr (.inr ⟨_, eo0⟩)) J (fun i lo nw oI hi hJ => turn _ oI i lo nw hi hJ) done q ns.length 0 lo nw _ _ (Nat.zero_add _) hs2
      ⟨⟨_, Heap.get?_push_size _ rfl, rfl, rfl⟩, hl.push _⟩ hJ) hf)
end
end Mine
end
section
open PySem PySem.W PySem.Calls PyProof.Rows
set_option maxRecDepth 100000
set_option maxHeartbeats 4000000
namespace Mine
section
variable {c : Cx} {lo : Lo} {nw : Nw} {rest : List Stmt} {R : Fl → Lo → Nw → Prop}
noncomputable abbrev dctE : Obj := { cls := .type "dict", data := .dict #[] }
theorem St.push {s : Shared} {o : Obj} (hs : St c lo nw s) (hf : autoParam (o.isFreed = false) Mine.aR) : St c lo ((s.heap.objs.size, Eo o) :: nw) { s with heap := s.heap.push o } :=
  hs.new (tk := s.toks) (fun b o e => Heap.get?_push_of_some _ e) (by
    cases q : s.heap.get? s.heap.objs.size with
    | none => rfl
    | some o => exact absurd (Heap.lt_size q) (Nat.lt_irrefl _)) (Heap.get?_push_size _ hf) rfl
theorem St.weak {s : Shared} {a : Addr} {P P' : AO} (hs : St c lo ((a, P) :: nw) s) (k : ∀ o, P o → P' o) : St c lo ((a, P') :: nw) s := hs.sub (fun e he => by
  rcases List.mem_cons.mp he with rfl | he
  · exact ⟨P, .head _, k⟩
  · exact ⟨e.2, .tail _ he, fun _ x => x⟩) hs.nodup
theorem ns_nil {h : Heap} {C : Addr} (e : h.get? C = some dctE) : h.Ns C (fun _ => none) := by
  obtain ⟨o, es, ep, e1, e2⟩ := Heap.Ns.new (h := {}) (.type "dict")
  rw [Heap.get?_push_size _ rfl] at e1
  cases e1
  exact ⟨_, es, ep, e, e2⟩
theorem cell_turn {env : Env} {elt iter : Expr} {x : Str} {px : Pos} {scope : Scope} {cl : List (Str × Addr)} {pos : Pos} {a st : Int} {n : Nat} {g : Nat → Int} {X C D I : Addr} {RR : Result → Shared → Prop}
    (hkind : scope.kind = .function) (hxr : (relabel scope env).names.lookup x = some .cell) (hsz : n ≤ sizeLine)
    (turn : ∀ i oD oI t, i < n → Ev c lo ((X, CellP (.int (a + (i : Int) * st) t)) :: (C, Eo dctE) :: (D, Eo oD) :: (I, Eo oI) :: nw) (eval elt (compEnvC scope ((x, X) :: cl) C env)) (It (g i)))
    (fin : ∀ s' ysv, IntsAre ysv ((List.range n).map g) → St c lo ((X, CellAny) :: (C, Eo dctE) :: (D, Eo (LCg.lst ysv)) :: nw) s' → RR (.ok .next) s') {s : Shared}
    (hs : St c lo ((X, CellAny) :: (C, Eo dctE) :: (D, Eo (LCg.lst [])) :: (I, Eo (rgI (a + ((0 : Nat) : Int) * st) ((n : Int) - ((0 : Nat) : Int)) st)) :: nw) s) :
    codeAny c.M c.A (.compLoop (.ListComp elt [⟨.Name x px, iter, [], 0⟩] scope pos) 0 (.ref I) (.ref D) (compEnvC scope ((x, X) :: cl) C env)) RR s := by
  refine codeAny_compLoop_tests
    (fun k s' => ∃ i ysv, i ≤ n ∧ k = n + 1 - i ∧ IntsAre ysv ((List.range i).map g) ∧ St c lo ((X, CellAny) :: (C, Eo dctE) :: (D, Eo (LCg.lst ysv)) :: (I, Eo (rgI (a + (i : Int) * st) ((n : Int) - (i : Int)) st)) :: nw) s') ?_ (n + 1)
    ⟨0, [], Nat.zero_le _, rfl, .nil, hs⟩
  rintro k s' ⟨i, ysv, hi, rfl, hI, hs'⟩
  have W := Walks.range (prog := PySem.Challenge.rw_pb0114_01.row.prog) (w := c.V.w) (A := c.A) rfl I a st n
  have eI : s'.heap.get? I = some (rgI (a + (i : Int) * st) ((n : Int) - (i : Int)) st) := by
    obtain ⟨o, e, h, _⟩ := hs'.has (.tail _ (.tail _ (.tail _ (.head _))))
    cases h; exact e
  by_cases hlt : i < n
  · refine W.item i _ _ _ hlt eI fun v h₂ tk₂ hPv hst₂ hk₂ => ?_
    obtain ⟨t, rfl⟩ := hPv
    have hs2 := hs'.set (i := 3) (P' := Eo (rgI (a + ((i + 1 : Nat) : Int) * st) ((n : Int) - ((i + 1 : Nat) : Int)) st)) (tk := tk₂) rfl (fun b o e hb => hk₂ b o (fun z => hb (List.mem_singleton.mp z)) e) hst₂ rfl
    obtain ⟨oX, eX, ⟨co, hoX⟩, _⟩ := hs2.has (.head _)
    refine wpAny_assign_Name (wpAny_storeName_cell (env := compEnvC scope ((x, X) :: cl) C env) hkind hxr (by simp [compEnvC]) ⟨oX, eX, hoX⟩ (fun h₃ hc₃ hs₃ => ?_))
    refine wpAny_tests_nil ?_
    simp only [if_true]
    obtain ⟨oX3, eX3, hX3⟩ := hc₃
    have hs3 := hs2.set (i := 0) (P' := CellP (.int (a + (i : Int) * st) t)) (tk := tk₂) (h' := h₃) rfl (fun b o e hb => hs₃.extBut b o hb e) eX3 hX3
    refine turn i _ _ t hlt _ hs3 _ _ fun y s₄ hy hs4 => ?_
    obtain ⟨ty, rfl⟩ := hy
    have eD : s₄.heap.get? D = some (LCg.lst ysv) := by
      obtain ⟨o, e, h, _⟩ := hs4.has (.tail _ (.tail _ (.head _)))
      cases h; exact e
    have hyl : ysv.length = i := by rw [hI.length, List.length_map, List.length_range]
    refine append_at (hsz := by show ysv.toArray.size ≤ sizeLine; rw [List.size_toArray, hyl]; exact Nat.le_trans hi hsz) eD fun h₅ hs₅ hD₅ => ?_
    have hs5 := (hs4.weak fun _ => CellP.any).set (i := 2) (P' := Eo (LCg.lst (ysv ++ [Value.int (g i) ty]))) (tk := s₄.toks) (h' := h₅) rfl (fun b o e hb => hs₅.extBut b o hb e) (hD₅.trans (congrArg some (LCg.lst_snoc ysv _))) rfl
    exact ⟨n + 1 - (i + 1), by omega, i + 1, ysv ++ [Value.int (g i) ty], hlt, rfl, by rw [List.range_succ, List.map_append]; exact hI.append (.cons _ _ .nil), by exact hs5⟩
  · obtain rfl : i = n := Nat.le_antisymm hi (Nat.not_lt.mp hlt)
    refine W.done _ _ _ eI fun h₂ tk₂ hk₂ => fin _ ysv hI ?_
    have nd := hs'.nodup
    have ms : ∀ e ∈ (X, CellAny) :: (C, Eo dctE) :: (D, Eo (LCg.lst ysv)) :: nw, e ∈ (X, CellAny) :: (C, Eo dctE) :: (D, Eo (LCg.lst ysv)) :: (I, Eo (rgI (a + (i : Int) * st) ((i : Int) - (i : Int)) st)) :: nw := fun e he => by
      rcases List.mem_cons.mp he with rfl | he
      · exact .head _
      rcases List.mem_cons.mp he with rfl | he
      · exact .tail _ (.head _)
      rcases List.mem_cons.mp he with rfl | he
      · exact .tail _ (.tail _ (.head _))
      · exact .tail _ (.tail _ (.tail _ (.tail _ he)))
    have sl : List.Sublist (adr ((X, CellAny) :: (C, Eo dctE) :: (D, Eo (LCg.lst ysv)) :: nw)) (adr ((X, CellAny) :: (C, Eo dctE) :: (D, Eo (LCg.lst ysv)) :: (I, Eo (rgI (a + (i : Int) * st) ((i : Int) - (i : Int)) st)) :: nw)) := .cons_cons _ (.cons_cons _ (.cons_cons _ (.cons _ (List.Sublist.refl _))))
    refine hs'.mod [I] (fun b hb => by rw [List.mem_singleton.mp hb]; exact .tail _ (.tail _ (.tail _ (.head _)))) (fun b o hb e => hk₂ b o hb e) (fun e he => .inl ⟨ms e he, fun z => ?_⟩) (nd.sublist sl)
    have hI2 := List.mem_singleton.mp z
    have h4 := List.mem_map_of_mem (f := (·.1)) he
    rw [hI2] at h4
    have n1 := List.nodup_cons.mp nd
    have n2 := List.nodup_cons.mp n1.2
    have n3 := List.nodup_cons.mp n2.2
    rcases List.mem_cons.mp h4 with q | q
    · exact n1.1 (q ▸ .tail _ (.tail _ (.head _)))
    rcases List.mem_cons.mp q with q | q
    · exact n2.1 (q ▸ .tail _ (.head _))
    rcases List.mem_cons.mp q with q | q
    · exact n3.1 (q ▸ .head _)
    · exact (List.nodup_cons.mp n3.2).1 q
theorem cell_fin {X C D : Addr} {ysv : List Value} {ys : List Int} {s' : Shared} {h'' : Heap} (hI : IntsAre ysv ys) (hs : St c lo ((X, CellAny) :: (C, Eo dctE) :: (D, Eo (LCg.lst ysv)) :: nw) s') (hb : Heap.SameBut C s'.heap h'') : St c lo ((D, IntL ys) :: nw) { s' with heap := h'' } := by
  have nd := hs.nodup
  have n1 := List.nodup_cons.mp nd
  have n2 := List.nodup_cons.mp n1.2
  have h2 : St c lo ((C, Eo dctE) :: (D, IntL ys) :: nw) s' := hs.sub (fun e he => by
    rcases List.mem_cons.mp he with rfl | he
    · exact ⟨_, .tail _ (.head _), fun _ x => x⟩
    rcases List.mem_cons.mp he with rfl | he
    · exact ⟨_, .tail _ (.tail _ (.head _)), fun o h => ⟨ysv, _, h, hI⟩⟩
    · exact ⟨e.2, .tail _ (.tail _ (.tail _ he)), fun _ x => x⟩) n1.2
  refine h2.mod (tk := s'.toks) [C] (fun b hb => by rw [List.mem_singleton.mp hb]; exact .head _) (fun b o hn e => hb.extBut b o (fun z => hn (List.mem_singleton.mpr z)) e) (fun e he => .inl ⟨.tail _ he, fun z => ?_⟩) n2.2
  exact n2.1 (List.mem_singleton.mp z ▸ List.mem_map_of_mem (f := (·.1)) he)
theorem EvN.compC {env : Env} {elt iter : Expr} {x : Str} {px : Pos} {scope : Scope} {cl : List (Str × Addr)} {pos : Pos} {a b st : Int} {n : Nat} {g : Nat → Int} {K : AV → Nw → Prop}
    (hclos : closureFor scope env = pure cl) (hkind : scope.kind = .function)
    (hnames : ∀ y ∈ scope.names, y.2 = .local → scope.names.lookup y.1 = some .local) (hxr : (relabel scope env).names.lookup x = some .cell)
    (hcf : ∀ k, cellsFrom k scope.names cl = (x, k) :: cl) (hpc : ∀ h, pushCells h scope.names = h.push { cls := .type "cell", data := .cell none })
    (hsmall : Builtin.Range.small a b st = true) (hn : Builtin.Range.rangeSize a b st = (n : Int)) (hsz : n ≤ sizeLine)
    (hit : ∀ s, St c lo nw s → ∀ (Q : Value → Shared → Prop) (E : Value → Shared → Prop), (∀ ra s' t u v, IsRange s'.heap ra a b st t u v → St c lo nw s' → Q (.ref ra) s') → wpAny c.M c.A (eval iter env) Q E s)
    (turn : ∀ X C D I i oD oI t, i < n → Ev c lo ((X, CellP (.int (a + (i : Int) * st) t)) :: (C, Eo dctE) :: (D, Eo oD) :: (I, Eo oI) :: nw) (eval elt (compEnvC scope ((x, X) :: cl) C env)) (It (g i)))
    (k : ∀ D, K (Is (.ref D)) ((D, IntL ((List.range n).map g)) :: nw)) (hf : autoParam (∀ x, foldedSetIterable iter env x = pure x) Mine.aIr) :
    EvN c lo nw (eval (.ListComp elt [⟨.Name x px, iter, [], 0⟩] scope pos) env) K := fun s hs Q E q => by
  rw [eval_ListComp]
  refine wpAny_comprehension_free (use := none) rfl hf hclos hkind hnames (hit s hs _ _ fun ra s₁ t u v hr hs1 => ?_)
  refine wpAny_pyIter_range hr hsmall ?_
  refine wpAny_newObj_type ?_
  rw [hn]
  simp only [newFunctionEnv, Option.isSome_some, if_true]
  refine wpAny_bind (wpAny_alloc (wpAny_bind (wpAny_layCells _ (fun name kind cells => by cases kind == NameKind.cell <;> simp) _ _ _ _ ?_)))
  rw [hcf, hpc, List.forIn_nil]
  refine wpAny_bind (wpAny_pure (wpAny_pure ?_))
  dsimp only
  have e0 : rgI a n st = rgI (a + ((0 : Nat) : Int) * st) ((n : Int) - ((0 : Nat) : Int)) st := by simp [rgI]
  have hs2 : St c lo _ _ := (hs1.push (o := rgI a n st)).weak (P' := Eo (rgI (a + ((0 : Nat) : Int) * st) ((n : Int) - ((0 : Nat) : Int)) st)) (fun o h => h.trans e0)
  have hs3 : St c lo _ _ := hs2.push (o := LCg.lst [])
  have hs4 : St c lo _ _ := hs3.push (o := dctE)
  have hs5 : St c lo _ _ := (hs4.push (o := { cls := .type "cell", data := .cell none })).weak (P' := CellAny) (fun o h => ⟨none, by cases h; rfl⟩)
  dsimp only at hs2 hs3 hs4 hs5
  have loop : ∀ tk : Nat, codeAny c.M c.A (.compLoop (.ListComp elt [⟨.Name x px, iter, [], 0⟩] scope pos) 0 _ _ _) (compPost c.M c.A E none Q _ _) { s₁ with heap := _, toks := tk } := fun tk => by
    refine cell_turn (x := x) (cl := cl) (a := a) (st := st) (n := n) (g := g) hkind hxr hsz (fun i oD oI t hi => turn _ _ _ _ i oD oI t hi) (fun s' ysv hI hst => ?_) (hs5.tok (tk := tk))
    obtain ⟨o, e, h, _⟩ := hst.has (.tail _ (.head _))
    cases h
    exact ⟨_, ns_nil e, fun h'' hs'' => q _ _ _ _ (k _) rfl (cell_fin hI hst hs'')⟩
  refine codeAny_compStart_list (loop _) ((Walks.range (prog := PySem.Challenge.rw_pb0114_01.row.prog) (w := c.V.w) (A := c.A) rfl _ a st n).self 0 _ _ _ ?_ (loop _))
  obtain ⟨o, e, h, _⟩ := hs5.has (.tail _ (.tail _ (.tail _ (.head _))))
  cases h
  exact e
end
end Mine
end
section
open PySem PySem.W PySem.Calls PyProof.Rows
namespace Mine
noncomputable def toBits : Nat → Int → List Int
  | 0, _ => []
  | n + 1, x => x % 2 :: toBits n (x / 2)
noncomputable def valLE : List Int → Int
  | [] => 0
  | b :: r => b + 2 * valLE r
theorem toBits_length : ∀ (n : Nat) (x : Int), (toBits n x).length = n
  | 0, _ => rfl
  | n + 1, x => by simp [toBits, toBits_length n]
theorem toBits_take : ∀ (k n : Nat) (x : Int), k ≤ n → (toBits n x).take k = toBits k x
  | 0, _, _, _ => rfl
  | k + 1, 0, _, h => by lia
  | k + 1, n + 1, x, h => by simp [toBits, toBits_take k n (x / 2) (by lia)]
theorem toBits_drop : ∀ (k n : Nat) (x : Int), k ≤ n → (toBits n x).drop k = toBits (n - k) (x / 2 ^ k)
  | 0, _, _, _ => by simp
  | k + 1, 0, _, h => by lia
  | k + 1, n + 1, x, h => by
    rw [toBits, List.drop_succ_cons, toBits_drop k n (x / 2) (by lia), Nat.add_sub_add_right, Int.ediv_ediv_of_nonneg (by decide), Int.pow_succ, Int.mul_comm]
theorem valLE_toBits : ∀ (n : Nat) (x : Int), valLE (toBits n x) = x % 2 ^ n
  | 0, x => by simp [toBits, valLE, Int.emod_one]
  | n + 1, x => by
    rw [toBits, valLE, valLE_toBits n (x / 2), Int.pow_succ, Int.mul_comm (2 ^ n) 2]
    have p : (0 : Int) < 2 ^ n := Int.pow_pos (by decide)
    generalize (2 : Int) ^ n = P at p
    have d := Int.mul_ediv_add_emod (x / 2) P
    have r0 := Int.emod_nonneg (x / 2) (Int.ne_of_gt p)
    have r1 := Int.emod_lt_of_pos (x / 2) p
    refine (((Int.ediv_emod_unique (show 0 < 2 * P by lia)).mpr ⟨?_, ?_, ?_⟩ : x / (2 * P) = (x / 2) / P ∧ x % (2 * P) = _).2).symm
    · rw [Int.mul_assoc]
      lia
    · lia
    · lia
theorem toBits_add : ∀ (m n : Nat) (l b : Int), 0 ≤ l → l < 2 ^ m → toBits (m + n) (l + b * 2 ^ m) = toBits m l ++ toBits n b
  | 0, n, l, b, h0, h1 => by
    have : l = 0 := by simp at h1; lia
    subst this; simp [toBits]
  | m + 1, n, l, b, h0, h1 => by
    have e1 : (l + b * 2 ^ (m + 1)) % 2 = l % 2 := by rw [Int.pow_succ, ← Int.mul_assoc]; lia
    have e2 : (l + b * 2 ^ (m + 1)) / 2 = l / 2 + b * 2 ^ m := by rw [Int.pow_succ, ← Int.mul_assoc]; lia
    rw [show m + 1 + n = (m + n) + 1 from by lia, toBits, toBits, e1, e2, toBits_add m n (l / 2) b (by lia) (by rw [Int.pow_succ] at h1; lia)]
    rfl
structure RI (ks : List Int) (st : RS) : Prop where
  a0 : 0 ≤ st.a
  a1 : st.a ≤ ks.length
  m0 : 0 ≤ st.m
  m1 : st.m < 8
  l0 : 0 ≤ st.l
  l1 : st.l < 2 ^ st.m.toNat
theorem RI.l2 {ks : List Int} {st : RS} (h : RI ks st) : st.l < 256 := by
  have h1 := h.l1
  have e : st.m.toNat = 0 ∨ st.m.toNat = 1 ∨ st.m.toNat = 2 ∨ st.m.toNat = 3 ∨ st.m.toNat = 4 ∨ st.m.toNat = 5 ∨ st.m.toNat = 6 ∨ st.m.toNat = 7 := by have := h.m1; lia
  rcases e with e | e | e | e | e | e | e | e <;> rw [e] at h1 <;> omega
noncomputable def rem (ks : List Int) (st : RS) : List Int := toBits st.m.toNat st.l ++ (ks.drop st.a.toNat).flatMap (toBits 8)
theorem or_add (l b : Int) (m : Nat) (h0 : 0 ≤ l) (h1 : l < 2 ^ m) (hb : 0 ≤ b) : Builtin.bitOr l (b * 2 ^ m) = l + b * 2 ^ m := by
  rw [bitOr_and]
  have : Builtin.bitAnd l (b * 2 ^ m) = 0 := by
    obtain ⟨l, rfl⟩ := Int.eq_ofNat_of_zero_le h0
    obtain ⟨b, rfl⟩ := Int.eq_ofNat_of_zero_le hb
    have e : ((b : Int) * 2 ^ m) = ((b * 2 ^ m : Nat) : Int) := by push_cast; rfl
    rw [e]
    unfold Builtin.bitAnd
    rw [decide_eq_true (Int.natCast_nonneg _), decide_eq_true (Int.natCast_nonneg _)]
    dsimp only
    rw [Int.toNat_natCast, Int.toNat_natCast]
    have h1' : l < 2 ^ m := by
      have : ((l : Nat) : Int) < ((2 ^ m : Nat) : Int) := by push_cast; exact h1
      exact Int.ofNat_lt.mp this
    have : l &&& b * 2 ^ m = 0 := by
      apply Nat.eq_of_testBit_eq
      intro i
      rw [Nat.testBit_and, Nat.testBit_mul_two_pow, Nat.zero_testBit]
      by_cases hi : m ≤ i
      · rw [Nat.testBit_lt_two_pow (Nat.lt_of_lt_of_le h1' (Nat.pow_le_pow_right (by decide) hi))]; rfl
      · simp [hi]
    rw [this]; rfl
  lia
theorem rd_none {ks : List Int} {st : RS} {k : Int} (h : RI ks st) (hk : 0 ≤ k) (hk8 : k ≤ 8) (hks : ∀ x ∈ ks, 0 ≤ x ∧ x < 256) : rdBits ks st k = none ↔ (rem ks st).length < k.toNat := by
  have lm : (toBits st.m.toNat st.l).length = st.m.toNat := toBits_length _ _
  have h0 := h.m0; have ha := h.a0
  unfold rdBits rem
  rw [List.length_append, lm]
  by_cases h1 : st.m < k
  · rw [if_pos h1]
    by_cases h2 : (ks.length : Int) ≤ st.a
    · rw [if_pos h2, List.drop_eq_nil_of_le (by lia)]
      simp only [List.flatMap_nil, List.length_nil, true_iff]; omega
    · rw [if_neg h2, List.drop_eq_getElem_cons (show st.a.toNat < ks.length by omega), List.flatMap_cons, List.length_append, toBits_length]
      constructor
      · intro e; cases e
      · intro e; omega
  · rw [if_neg h1]
    constructor
    · intro e; cases e
    · intro e; omega
theorem rd_some {ks : List Int} {st st' : RS} {k x : Int} (h : RI ks st) (hk : 0 ≤ k) (hk8 : k ≤ 8) (hks : ∀ x ∈ ks, 0 ≤ x ∧ x < 256) (e : rdBits ks st k = some (x, st')) :
    RI ks st' ∧ k.toNat ≤ (rem ks st).length ∧ x = valLE ((rem ks st).take k.toNat) ∧ rem ks st' = (rem ks st).drop k.toNat := by
  have lm : (toBits st.m.toNat st.l).length = st.m.toNat := toBits_length _ _
  have h0 := h.m0; have ha := h.a0; have hm1 := h.m1; have hl0 := h.l0; have hl1 := h.l1; have ha1 := h.a1
  have p2 : (0 : Int) < 2 ^ k.toNat := Int.pow_pos (by decide)
  unfold rdBits at e
  by_cases h1 : st.m < k
  · rw [if_pos h1] at e
    by_cases h2 : (ks.length : Int) ≤ st.a
    · rw [if_pos h2] at e; cases e
    · rw [if_neg h2] at e
      have hlt : st.a.toNat < ks.length := by lia
      have hb := hks _ (List.getElem_mem hlt)
      have eb : ks.getD st.a.toNat 0 = ks[st.a.toNat] := by simp [List.getD, List.getElem?_eq_getElem hlt]
      have ed := List.drop_eq_getElem_cons hlt
      rw [eb] at e
      generalize ks[st.a.toNat] = b at *
      rw [or_add st.l b st.m.toNat hl0 hl1 hb.1, Int.one_mul, kbt_mask, Int.fdiv_eq_ediv_of_nonneg _ (Int.le_of_lt p2)] at e
      simp only [Option.some.injEq, Prod.mk.injEq] at e
      obtain ⟨rfl, rfl⟩ := e
      have er : rem ks st = toBits (st.m.toNat + 8) (st.l + b * 2 ^ st.m.toNat) ++ (ks.drop (st.a.toNat + 1)).flatMap (toBits 8) := by
        rw [toBits_add _ _ _ _ hl0 hl1]
        unfold rem
        rw [ed, List.flatMap_cons, List.append_assoc]
      have hkm : k.toNat ≤ st.m.toNat + 8 := by lia
      have lL : (toBits (st.m.toNat + 8) (st.l + b * 2 ^ st.m.toNat)).length = st.m.toNat + 8 := toBits_length _ _
      have pm : (0 : Int) < 2 ^ st.m.toNat := Int.pow_pos (by decide)
      have hL0 : 0 ≤ st.l + b * 2 ^ st.m.toNat := Int.add_nonneg hl0 (Int.mul_nonneg hb.1 (Int.le_of_lt pm))
      have hL1 : st.l + b * 2 ^ st.m.toNat < 2 ^ (st.m.toNat + 8) := by
        rw [Int.pow_add]
        have : (b + 1) * 2 ^ st.m.toNat ≤ 256 * 2 ^ st.m.toNat := Int.mul_le_mul_of_nonneg_right (by lia) (Int.le_of_lt pm)
        rw [Int.add_mul, Int.one_mul] at this
        have e8 : (2 : Int) ^ 8 = 256 := rfl
        rw [e8, Int.mul_comm _ 256]
        lia
      refine ⟨⟨by show 0 ≤ st.a + 1; lia, by show st.a + 1 ≤ _; lia, by show 0 ≤ st.m + 8 - k; lia, by show st.m + 8 - k < 8; lia, Int.ediv_nonneg hL0 (Int.le_of_lt p2), ?_⟩, ?_, ?_, ?_⟩
      · show _ / 2 ^ k.toNat < 2 ^ (st.m + 8 - k).toNat
        apply Int.ediv_lt_of_lt_mul p2
        rw [← Int.pow_add, show (st.m + 8 - k).toNat + k.toNat = st.m.toNat + 8 by lia]; exact hL1
      · rw [er, List.length_append, lL]; lia
      · rw [er, List.take_append_of_le_length (by rw [lL]; exact hkm), toBits_take _ _ _ hkm, valLE_toBits]
      · rw [er, List.drop_append_of_le_length (by rw [lL]; exact hkm), toBits_drop _ _ _ hkm]
        unfold rem
        show toBits (st.m + 8 - k).toNat _ ++ List.flatMap _ (ks.drop (st.a + 1).toNat) = _
        rw [show (st.m + 8 - k).toNat = st.m.toNat + 8 - k.toNat by omega, show (st.a + 1).toNat = st.a.toNat + 1 by lia]
  · rw [if_neg h1] at e
    rw [Int.one_mul, kbt_mask, Int.fdiv_eq_ediv_of_nonneg _ (Int.le_of_lt p2)] at e
    simp only [Option.some.injEq, Prod.mk.injEq] at e
    obtain ⟨rfl, rfl⟩ := e
    have hkm : k.toNat ≤ st.m.toNat := by lia
    refine ⟨⟨ha, ha1, by show 0 ≤ st.m - k; lia, by show st.m - k < 8; lia, Int.ediv_nonneg hl0 (Int.le_of_lt p2), ?_⟩, ?_, ?_, ?_⟩
    · show st.l / 2 ^ k.toNat < 2 ^ (st.m - k).toNat
      apply Int.ediv_lt_of_lt_mul p2
      rw [← Int.pow_add, show (st.m - k).toNat + k.toNat = st.m.toNat by omega]; exact hl1
    · unfold rem; rw [List.length_append, lm]; lia
    · unfold rem; rw [List.take_append_of_le_length (by rw [lm]; exact hkm), toBits_take _ _ _ hkm, valLE_toBits]
    · unfold rem
      rw [List.drop_append_of_le_length (by rw [lm]; exact hkm), toBits_drop _ _ _ hkm]
      show toBits (st.m - k).toNat _ ++ _ = _
      rw [show (st.m - k).toNat = st.m.toNat - k.toNat by omega]
end Mine
end
section
open PySem PySem.W PySem.Calls PyProof.Rows
namespace Mine
noncomputable def nsGo (counts signs ks : List Int) : Nat → Nat → Int → Int → Int → RS → Option (Int × RS)
  | 0, _, _, _, _, _ => none
  | n + 1, len, code, first, ahead, st =>
    match rdBits ks st 1 with
    | none => none
    | some (b, st1) =>
      if code * 2 + b < first + counts.getD len 0 then some (signs.getD (ahead + (code * 2 + b) - first).toNat 0, st1)
      else nsGo counts signs ks n (len + 1) (code * 2 + b) ((first + counts.getD len 0) * 2) (ahead + counts.getD len 0) st1
noncomputable def nextSign (counts signs ks : List Int) (st : RS) : Option (Int × RS) := nsGo counts signs ks 15 1 0 0 0 st
end Mine
end
section
open PySem PySem.W PySem.Calls PyProof.Rows
set_option maxRecDepth 100000
set_option maxHeartbeats 4000000
namespace Mine
noncomputable abbrev rdN : List Str := [Str.ofString "octets", Str.ofString "at", Str.ofString "left", Str.ofString "many"]
theorem rdN_nd : rdN.Nodup := by decide +kernel
noncomputable abbrev rdV (arr : Array UInt8) (st : RS) : List AV := [By arr, It st.a, It st.l, It st.m]
@[reducible] noncomputable def RdP (arr : Array UInt8) (st : RS) : AO := FldP rdN (rdV arr st)
theorem at109 (w : World) {j : Nat} {x : Str} (h : nth rdN j = some x) : AtOk w 109 x := by
  match j, h with
  | 0, h => cases h; exact ⟨by k_is, by k_is, _, by k_is, by k_is⟩
  | 1, h => cases h; exact ⟨by k_is, by k_is, _, by k_is, by k_is⟩
  | 2, h => cases h; exact ⟨by k_is, by k_is, _, by k_is, by k_is⟩
  | 3, h => cases h; exact ⟨by k_is, by k_is, _, by k_is, by k_is⟩
theorem st109 (w : World) {j : Nat} {x : Str} (h : nth rdN j = some x) : StOk w 109 x := by
  match j, h with
  | 0, h => cases h; exact ⟨by k_is, by k_is, by k_is, by k_is⟩
  | 1, h => cases h; exact ⟨by k_is, by k_is, by k_is, by k_is⟩
  | 2, h => cases h; exact ⟨by k_is, by k_is, by k_is, by k_is⟩
  | 3, h => cases h; exact ⟨by k_is, by k_is, by k_is, by k_is⟩
theorem rd_handed {arr : Array UInt8} {st : RS} {j : Nat} {P : AV} (h : nth (rdV arr st) j = some P) : ∀ v, P v → handedIn v = true := by
  match j, h with
  | 0, h => cases h; exact handed_by
  | 1, h => cases h; exact handed_it
  | 2, h => cases h; exact handed_it
  | 3, h => cases h; exact handed_it
theorem gl_bad (w : World) : nsIn (HA.hd.heap_1_39 w.params) mainGlobals (Str.ofString "BadBits") = some (some (.ref 45)) := by k_is
theorem kp_bad (w : World) : keepIn (HA.hd.heap_1_39 w.params) (.ref 45) = true := by k_is
theorem byte_b {arr : Array UInt8} {ks : List Int} (hb : KBw.bInts arr = ks) (i : Nat) : 0 ≤ ks.getD i 0 ∧ ks.getD i 0 < 256 := by
  subst hb
  by_cases h : i < (KBw.bInts arr).length
  · have hm : (KBw.bInts arr).getD i 0 ∈ KBw.bInts arr := by rw [List.getD_eq_getElem?_getD, List.getElem?_eq_getElem h]; exact List.getElem_mem h
    unfold KBw.bInts at hm ⊢
    obtain ⟨c, _, e⟩ := List.mem_map.mp hm
    rw [← e]
    have := c.toNat_lt
    lia
  · rw [List.getD_eq_getElem?_getD, List.getElem?_eq_none (Nat.not_lt.mp h)]; exact ⟨Int.le_refl _, by decide⟩
theorem byte_shl {arr : Array UInt8} {ks : List Int} (hb : KBw.bInts arr = ks) {i : Nat} {m : Int} (hm : m < 8) : (Builtin.Int.intBits (ks.getD i 0) : Int) + m ≤ 2 ^ 27 := by
  have := byte_b hb i
  exact kbm_shl (intBits_le_64 (by omega) (by omega)) (by lia) (by decide)
section
variable {c : Cx} {lo : Lo} {nw : Nw} {rest : List Stmt} {R : Fl → Lo → Nw → Prop}
theorem EE.rd (ok : OkB c) (j : Nat) {o : Expr} {pos : Pos} {r dx : Addr} {x : Str} {arr : Array UInt8} {st : RS} {P : AV} (ho : EE c lo nw o (Is (.ref r))) (hr : In c nw r (InstP 109 dx)) (hd : In c nw dx (RdP arr st)) (hx : autoParam (nth rdN j = some x) Mine.aR) (hP : autoParam (nth (rdV arr st) j = some P) Mine.aR)
    (he : autoParam (eval (.Attribute o x pos) c.env = (do
      let o' ← eval o c.env
      standAt pos.atName
      let r ← holding [o'] (getAttr o' x true)
      letTemporaryGo o o' r
      pure r)) Mine.aW) (ht : autoParam (∀ o' r, letTemporaryGo o o' r = pure ()) Mine.aW2) : EE c lo nw (.Attribute o x pos) P :=
  EE.attr ok j ho hr hd (at109 _ hx) rdN_nd hx hP (rd_handed hP) he ht
theorem EE.lenB {x : Str} {xp pos : Pos} {e : Expr} {arr : Array UInt8} {ks : List Int} (hf : EE c lo nw (.Name x xp) (Is (.builtin "len"))) (ha : EE c lo nw e (By arr)) (hk : KBw.bInts arr = ks) (hl : ks.length ≤ 1000000)
    (he : autoParam (starEach [e] c.env = (false, eval e c.env) :: starEach [] c.env) Mine.aR)
    (hc : autoParam (eval (.Call (.Name x xp) [e] [] pos) c.env = (do callWith pos (← eval (.Name x xp) c.env) [] (backTo pos (starEach [e] c.env)) (backToKw pos (keywordEach [] c.env)))) Mine.aR) : EE c lo nw (.Call (.Name x xp) [e] [] pos) (It ks.length) := fun s hs Q E q => by
  refine Call_ (hf s hs _ _ fun v s1 hv hs1 => ?_) hc
  cases hv
  refine PyProof.Rows.callWith_builtin1 (args_cons (ha s1 hs1 _ _ fun v s2 hv hs2 => args_nil ?_) he) he rfl
  obtain ⟨t, rfl⟩ := hv
  exact KBw.len_K hk (Nat.le_trans hl (by decide)) (q _ _ ⟨_, rfl⟩ hs2.tok)
theorem EE.itemB {o e : Expr} {pos : Pos} {arr : Array UInt8} {ks : List Int} {k : Int} (ho : EE c lo nw o (By arr)) (he : EE c lo nw e (It k)) (hb : KBw.bInts arr = ks) (hl : ks.length ≤ 1000000) (k0 : 0 ≤ k) (k1 : k < ks.length)
    (h1 : autoParam (∀ t u, subscripted e false (.bytes arr t) (.int k u) = operate [.bytes arr t, .int k u] (getItem (.bytes arr t) (.int k u))) Mine.aW2) (h2 : autoParam (∀ t r, letTemporaryGo o (.bytes arr t) r = pure ()) Mine.aW2) : EE c lo nw (.Subscript o e pos) (It (ks.getD k.toNat 0)) := fun s hs Q E q =>
  Subscript_ (ho s hs _ _ fun v s1 hv hs1 => he s1 hs1 _ _ fun v' s2 hv' hs2 => by
    obtain ⟨t, rfl⟩ := hv
    obtain ⟨u, rfl⟩ := hv'
    exact KBw.item_K hb (Nat.le_trans hl (by decide)) k0 k1 (fun t' k _ _ => q _ _ ⟨t', rfl⟩ hs2.tok) (h1 _ _) (h2 _))
theorem Ex.bad (ok : Ok c) (hdp : c.V.dp < 895) {xp mp cp pos : Pos} {msg : Str} {k : Nat} (her : ∀ B, Has B nw → c.V.Er B) (hk : autoParam (c.S.sc.names.lookup (Str.ofString "BadBits") = some .globalImplicit) Mine.aK) :
    Ex c lo nw (.Raise (some (.Call (.Name (Str.ofString "BadBits") xp) [.Constant (.str msg) k mp] [] cp)) none pos :: rest) R := fun s hs Q q =>
  wpM_execs_any (bad_Raise rfl (Call_ (EE.glob ok.toOkB (gl_bad _) hk (by decide +kernel) s hs _ _ fun v s1 hv hs1 => by
    cases hv
    refine callWith_K (h₀ := c.V.h₀) ok.X0 (kp_bad _) (args_cons (Constant_str (args_nil ?_)) rfl) rfl rfl
    have hs2 := hs1.tok (tk := s1.toks + 1)
    obtain ⟨p, loose, mean, mg, mb, TT, T0⟩ := ok.T
    obtain ⟨A₀, B⟩ := ok.B
    obtain ⟨m, ns, F, N, k1, k2⟩ := hs2.opn
    refine ⟨ok.X0.keeps F.keep, ?_⟩
    exact bb_made (s := { s1 with toks := s1.toks + 1 }) B F N ok.X TT rfl ok.fn hdp fun h' tk e t d kall hnew he => ok.bad lo nw _ hs2 her h' tk e t d kall hnew he)))
end
noncomputable def sBits : Sx := sx false 92 [Str.ofString "self", Str.ofString "many", Str.ofString "found"]
theorem fn_bits (w : World) : Fn w 92 sBits 2 [] (bodyF 92) := by
  refine ⟨⟨by kernel_rfl, by decide +kernel, by decide +kernel⟩, Nat.le_of_ble_eq_true rfl, ?_⟩
  refine ⟨_, _, _, _, _, _, _, _, _, _, _, _, by k_is, by (show codeIn _ _ (Str.ofString "BitReader.bits") = true; k_is), ?_, by decide +kernel, by kernel_rfl, by kernel_rfl⟩
  intro s vs hK h
  obtain ⟨a, b, rfl⟩ := vs2 h
  exact BindsTo.of_eq rfl
theorem bits_h {V : Vx} (ok : Ok ⟨sBits, V⟩) (hdp : V.dp < 890) {r dx : Addr} {arr : Array UInt8} {ks : List Int} {st : RS} {k : Int} (hr : ∃ o, V.h₀.get? r = some o ∧ InstP 109 dx o) (hb : KBw.bInts arr = ks) (hlen : ks.length ≤ 2000) (hR : RI ks st) (hk : 0 ≤ k) (hk2 : k ≤ 2) {K : AV → Nw → Prop}
    (kk : ∀ x st', rdBits ks st k = some (x, st') → K (It x) [(dx, RdP arr st')]) (her : rdBits ks st k = none → ∀ B, Has B [(dx, RdP arr st)] → V.Er B) : Ex ⟨sBits, V⟩ [some (Is (.ref r)), some (It k), none] [(dx, RdP arr st)] (bodyF 92) (fun fl _ nw' => K fl.av nw') := by
  have okb := ok.toOkB
  have q1 := hR.a0; have q2 := hR.a1; have q3 := hR.l0; have q4 := hR.l2; have q5 := hR.m0; have q6 := hR.m1
  have hri : ∀ nw, In ⟨sBits, V⟩ nw r (InstP 109 dx) := fun _ => .inr hr
  have fin : ∀ st2 : RS, (∀ x st', (Builtin.bitAnd st2.l (1 * 2 ^ k.toNat - 1), (⟨st2.a, st2.l.fdiv (2 ^ k.toNat), st2.m - k⟩ : RS)) = (x, st') → K (It x) [(dx, RdP arr st')]) → ¬ (st2.m < k) → 
      Whl ⟨sBits, V⟩ [some (Is (.ref r)), some (It k), none] [(dx, RdP arr st2)] (match nth (bodyF 92) 0 with | some (.While t _ _ _) => t | _ => .Constant .none 0 default) (match nth (bodyF 92) 0 with | some (.While _ b _ _) => b | _ => []) ((bodyF 92).drop 1) (fun fl _ nw' => K fl.av nw') := fun st2 kk hm => by
    refine Whl.turn ok (TK.of (Tv.cmp (EE.rd okb 3 (EE.loc okb (i := 0) rfl rfl) (hri _) (In.at (i := 0) rfl)) (EE.loc okb (i := 1) rfl rfl) CpI.lt) ⟨fun e => absurd (of_decide_eq_true e) hm, fun _ => ?_⟩)
    refine Ex.asg ok (i := 2) rfl (Ev.k (EE.bin (EE.rd okb 2 (EE.loc okb (i := 0) rfl rfl) (hri _) (In.at (i := 0) rfl)) (EE.bin (EE.bin EE.int (EE.loc okb (i := 1) rfl rfl) (OpI.shl hk (kbm_shl (intBits_le_64 (by decide) (by decide)) (by omega) (by decide)))) EE.int OpI.sub) OpI.and) ?_)
    refine Ex.asetP ok 0 2 (EE.bin (EE.rd okb 2 (EE.loc okb (i := 0) rfl rfl) (hri _) (In.at (i := 0) rfl)) (EE.loc okb (i := 1) rfl rfl) (OpI.shr hk)) (EE.loc okb (i := 0) rfl rfl) (hri _) rfl (st109 _ (j := 2) rfl) rdN_nd ?_
    refine Ex.aaug ok 0 3 (EE.loc okb (i := 0) rfl rfl) (EE.loc okb (i := 1) rfl rfl) (hri _) rfl (at109 _ (j := 3) rfl) (st109 _ (j := 3) rfl) rdN_nd rfl OpJ.sub ?_
    exact Ex.ret (Ev.k (EE.loc okb (i := 2) rfl rfl) (kk _ _ rfl))
  by_cases hc : st.m < k
  · refine Ex.whl (Whl.turn ok (TK.of (Tv.cmp (EE.rd okb 3 (EE.loc okb (i := 0) rfl rfl) (hri _) (In.at (i := 0) rfl)) (EE.loc okb (i := 1) rfl rfl) CpI.lt) ⟨fun _ => ?_, fun e => absurd hc (of_decide_eq_false e)⟩))
    refine Ex.if1 (Tv.cmp (EE.rd okb 1 (EE.loc okb (i := 0) rfl rfl) (hri _) (In.at (i := 0) rfl)) (EE.lenB (EE.lenN okb) (EE.rd okb 0 (EE.loc okb (i := 0) rfl rfl) (hri _) (In.at (i := 0) rfl)) hb (by omega)) CpI.ge) (fun h => ?_) fun h => ?_
    · exact Ex.bad ok (Nat.lt_trans hdp (by decide)) (her (by unfold rdBits; rw [if_pos hc, if_pos h]))
    · have hlt : st.a < ks.length := Int.not_le.mp h
      refine Ex.asetP ok 0 2 (EE.bin (EE.rd okb 2 (EE.loc okb (i := 0) rfl rfl) (hri _) (In.at (i := 0) rfl)) (EE.bin (EE.itemB (EE.rd okb 0 (EE.loc okb (i := 0) rfl rfl) (hri _) (In.at (i := 0) rfl)) (EE.rd okb 1 (EE.loc okb (i := 0) rfl rfl) (hri _) (In.at (i := 0) rfl)) hb (by omega) q1 hlt) (EE.rd okb 3 (EE.loc okb (i := 0) rfl rfl) (hri _) (In.at (i := 0) rfl)) (OpI.shl q5 (byte_shl hb q6))) OpI.or) (EE.loc okb (i := 0) rfl rfl) (hri _) rfl (st109 _ (j := 2) rfl) rdN_nd ?_
      refine Ex.aaug ok 0 1 (EE.loc okb (i := 0) rfl rfl) EE.int (hri _) rfl (at109 _ (j := 1) rfl) (st109 _ (j := 1) rfl) rdN_nd rfl OpJ.add ?_
      refine Ex.aaug ok 0 3 (EE.loc okb (i := 0) rfl rfl) EE.int (hri _) rfl (at109 _ (j := 3) rfl) (st109 _ (j := 3) rfl) rdN_nd rfl OpJ.add ?_
      refine Ex.nil (R := trn _ _ _ _) (fin ⟨_, _, _⟩ (fun x st' e => kk x st' ?_) (show ¬ (st.m + 8 < k) by omega))
      unfold rdBits; rw [if_pos hc, if_neg h]; exact congrArg some e
  · refine Ex.whl (fin st (fun x st' e => kk x st' ?_) hc)
    unfold rdBits; rw [if_neg hc]; exact congrArg some e
end Mine
end
section
open PySem PySem.W PySem.Calls PyProof.Rows
set_option maxRecDepth 100000
set_option maxHeartbeats 4000000
namespace Mine
section
variable {c : Cx} {lo : Lo} {nw : Nw} {rest : List Stmt} {R : Fl → Lo → Nw → Prop}
theorem meth_get (ok : OkB c) {r dx C f : Addr} {x : Str} {xs : List Str} {Ps : List AV} {pl : Sem Bool} {s : Shared} (hs : St c lo nw s) (hr : In c nw r (InstP C dx)) (hdx : In c nw dx (FldP xs Ps)) (mt : MtOk c.V.w C x f) (hx : x ∉ xs) {Q : Value × List Value → Shared → Prop} {E : Value → Shared → Prop} (q : Q (.ref f, [.ref r]) s) :
    wpAny c.M c.A (getMethod (.ref r) x pl) Q E s := by
  obtain ⟨od, ⟨es, n, rfl, hE⟩, I⟩ := inst_at hs hr hdx
  obtain ⟨m, ns, F, N, k1, k2⟩ := hs.opn
  exact method_inst F ok.X0 I mt.1 mt.2.1 mt.2.2 (hE.none hx) q
theorem EK.meth0 (ok : Ok c) {o : Expr} {x : Str} {apos pos : Pos} {r dx C f : Addr} {xs : List Str} {Ps : List AV} {K : AV → Nw → Prop} (ho : EE c lo nw o (Is (.ref r))) (hr : In c nw r (InstP C dx)) (hdx : In c nw dx (FldP xs Ps)) (mt : MtOk c.V.w C x f) (kp : keepIn (HA.hd.heap_1_39 c.V.w.params) (.ref f) = true) (hx : x ∉ xs) (h : CK c lo nw (.ref f) [Is (.ref r)] K)
    {pl : Sem Bool} (hc : autoParam (eval (.Call (.Attribute o x apos) [] [] pos) c.env = (do
      let ov ← eval o c.env
      standAt apos.atName
      let (f, first) ← holding [ov] (getMethod ov x pl)
      callWith pos f first (backTo pos (starEach [] c.env)) [])) Mine.aR) : EK c lo nw (.Call (.Attribute o x apos) [] [] pos) K := fun s hs Q q => by
  refine MethodCall_ (pl := pl) (ho s hs _ _ fun v s1 hv hs1 => ?_) hc
  cases hv
  refine meth_get ok.toOkB hs1 hr hdx mt hx ?_
  obtain ⟨m, ns, F, N, _⟩ := hs1.opn
  refine callWith_K0 (K := HA.hd.heap_1_39 c.V.w.params) (ok.X0.keeps F.keep) kp ?_
  exact h _ (.cons rfl .nil) s1 hs1 Q q
theorem EK.meth (ok : Ok c) {o e : Expr} {es : List Expr} {x : Str} {apos pos : Pos} {r dx C f : Addr} {xs : List Str} {Ps : List AV} {K : AV → Nw → Prop} (ho : EE c lo nw o (Is (.ref r))) (hr : In c nw r (InstP C dx)) (hdx : In c nw dx (FldP xs Ps)) (mt : MtOk c.V.w C x f) (kp : keepIn (HA.hd.heap_1_39 c.V.w.params) (.ref f) = true) (hx : x ∉ xs) (h : EvA c lo nw pos (e :: es) fun Ps nw1 => CK c lo nw1 (.ref f) (Is (.ref r) :: Ps) K)
    (he : autoParam (starEach (e :: es) c.env = (false, eval e c.env) :: starEach es c.env) Mine.aR) (hp : autoParam (((backTo pos (starEach es c.env)).any fun x => x.1) = false) Mine.aR)
    {pl : Sem Bool} (hc : autoParam (eval (.Call (.Attribute o x apos) (e :: es) [] pos) c.env = (do
      let ov ← eval o c.env
      standAt apos.atName
      let (f, first) ← holding [ov] (getMethod ov x pl)
      callWith pos f first (backTo pos (starEach (e :: es) c.env)) [])) Mine.aR) : EK c lo nw (.Call (.Attribute o x apos) (e :: es) [] pos) K := fun s hs Q q => by
  refine MethodCall_ (pl := pl) (ho s hs _ _ fun v s1 hv hs1 => ?_) hc
  cases hv
  refine meth_get ok.toOkB hs1 hr hdx mt hx ?_
  refine callWith_K (h₀ := c.V.h₀) ok.X0 kp (h s1 hs1 _ fun Ps nw1 vs s2 h2 hPs hs2 => ⟨?_, ?_⟩) he hp
  · obtain ⟨m, ns, F, N, _⟩ := hs2.opn
    exact ok.X0.keeps F.keep
  · exact h2 _ (.cons rfl hPs) s2 hs2 Q q
noncomputable def ByI (ks : List Int) : AV := fun v => ∃ arr t, v = .bytes arr t ∧ KBw.bInts arr = ks
theorem clip_eq {n : Nat} {a : Int} (h0 : 0 ≤ a) (h1 : a ≤ n) : clipAt n a = a.toNat := by
  obtain ⟨b, rfl⟩ := Int.eq_ofNat_of_zero_le h0
  rw [clipAt_nat]
  simp only [Int.toNat_natCast]
  lia
theorem EE.sliceB {o e1 e2 : Expr} {pos p : Pos} {arr : Array UInt8} {ks : List Int} {a b : Int} (ho : EE c lo nw o (By arr)) (h1 : EE c lo nw e1 (It a)) (h2 : EE c lo nw e2 (It b)) (hb : KBw.bInts arr = ks) (hl : ks.length ≤ 1000000) (ha : 0 ≤ a) (hab : a ≤ b) (hbl : b ≤ ks.length)
    (hs1 : ∀ t (z : Addr), subscripted (.Slice (some e1) (some e2) Option.none p) false (.bytes arr t) (.ref z) = operate [.ref z, .bytes arr t] (getItem (.bytes arr t) (.ref z))) (hs2 : ∀ t r, letTemporaryGo o (.bytes arr t) r = pure ()) :
    EE c lo nw (.Subscript o (.Slice (some e1) (some e2) Option.none p) pos) (ByI ((ks.drop a.toNat).take (b - a).toNat)) := fun s hs Q E q =>
  Subscript_ (ho s hs _ _ fun v s1 hv hs1' => wpAny_Slice (evalPart_some_step (h1 s1 hs1' _ _ fun v1 s2 hv1 hs2' => evalPart_some_step (h2 s2 hs2' _ _ fun v2 s3 hv2 hs3 => evalPart_none_step (by
    obtain ⟨t, rfl⟩ := hv
    obtain ⟨u1, rfl⟩ := hv1
    obtain ⟨u2, rfl⟩ := hv2
    obtain ⟨m, ns, F, N, k1, k2⟩ := hs3.opn
    refine KBc.slice_K F N hb (.int a u1) (.int b u2) (Nat.le_trans hl (by decide)) (fun h' t' k F' N' e => q _ _ ⟨_, _, rfl, ?_⟩ (k1 h' k F' N')) (hs1 _ _) (hs2 _)
    rw [e]
    show List.take (clipAt ks.length b - clipAt ks.length a) (List.drop (clipAt ks.length a) ks) = _
    rw [clip_eq (by lia) hbl, clip_eq ha (by lia), show b.toNat - a.toNat = (b - a).toNat by omega])))))
end
noncomputable def sAlign : Sx := sx false 99 [Str.ofString "self"]
theorem fn_align (w : World) : Fn w 99 sAlign 1 [] (bodyF 99) := by
  refine ⟨⟨by kernel_rfl, by decide +kernel, by decide +kernel⟩, Nat.le_of_ble_eq_true rfl, ?_⟩
  refine ⟨_, _, _, _, _, _, _, _, _, _, _, _, by k_is, by (show codeIn _ _ (Str.ofString "BitReader.align") = true; k_is), ?_, by decide +kernel, by kernel_rfl, by kernel_rfl⟩
  intro s vs hK h
  obtain ⟨a, rfl⟩ := vs1 h
  exact BindsTo.of_eq rfl
theorem align_h {V : Vx} (ok : Ok ⟨sAlign, V⟩) {r dx : Addr} {arr : Array UInt8} {st : RS} (hr : ∃ o, V.h₀.get? r = some o ∧ InstP 109 dx o) {K : AV → Nw → Prop} (kk : K (Is .none) [(dx, RdP arr ⟨st.a, 0, 0⟩)]) : Ex ⟨sAlign, V⟩ [some (Is (.ref r))] [(dx, RdP arr st)] (bodyF 99) (fun fl _ nw' => K fl.av nw') := by
  have okb := ok.toOkB
  refine Ex.asetP ok 0 2 EE.int (EE.loc okb (i := 0) rfl rfl) (.inr hr) rfl (st109 _ (j := 2) rfl) rdN_nd ?_
  refine Ex.asetP ok 0 3 EE.int (EE.loc okb (i := 0) rfl rfl) (.inr hr) rfl (st109 _ (j := 3) rfl) rdN_nd ?_
  exact Ex.nil kk
theorem mt_align (w : World) : MtOk w 109 (Str.ofString "align") 99 := ⟨by k_is, by k_is, by k_is⟩
theorem kp_align (w : World) : keepIn (HA.hd.heap_1_39 w.params) (.ref 99) = true := by k_is
noncomputable def sRaw : Sx := sx false 106 [Str.ofString "self", Str.ofString "many", Str.ofString "found"]
theorem fn_raw (w : World) : Fn w 106 sRaw 2 [] (bodyF 106) := by
  refine ⟨⟨by kernel_rfl, by decide +kernel, by decide +kernel⟩, Nat.le_of_ble_eq_true rfl, ?_⟩
  refine ⟨_, _, _, _, _, _, _, _, _, _, _, _, by k_is, by (show codeIn _ _ (Str.ofString "BitReader.raw") = true; k_is), ?_, by decide +kernel, by kernel_rfl, by kernel_rfl⟩
  intro s vs hK h
  obtain ⟨a, b, rfl⟩ := vs2 h
  exact BindsTo.of_eq rfl
theorem raw_h {V : Vx} (ok : Ok ⟨sRaw, V⟩) (hdp : V.dp < 890) {r dx : Addr} {arr : Array UInt8} {ks : List Int} {st : RS} {k : Int} (hr : ∃ o, V.h₀.get? r = some o ∧ InstP 109 dx o) (hb : KBw.bInts arr = ks) (hlen : ks.length ≤ 2000) (ha : 0 ≤ st.a) (hk : 0 ≤ k) (hk2 : k ≤ 5) {K : AV → Nw → Prop}
    (kk : st.a + k ≤ ks.length → K (ByI ((ks.drop st.a.toNat).take k.toNat)) [(dx, RdP arr ⟨st.a + k, 0, 0⟩)]) (her : ks.length < st.a + k → ∀ B, Has B [(dx, RdP arr ⟨st.a, 0, 0⟩)] → V.Er B) : Ex ⟨sRaw, V⟩ [some (Is (.ref r)), some (It k), none] [(dx, RdP arr st)] (bodyF 106) (fun fl _ nw' => K fl.av nw') := by
  have okb := ok.toOkB
  have hri : ∀ nw, In ⟨sRaw, V⟩ nw r (InstP 109 dx) := fun _ => .inr hr
  refine Ex.expr (EK.meth0 ok (EE.loc okb (i := 0) rfl rfl) (hri _) (In.at (i := 0) rfl) (mt_align _) (kp_align _) (by decide +kernel) (CN.k (CN.call okb (conM (fn_align _)) (Nat.lt_trans hdp (by decide)) rfl [0] (nw₀ := [(dx, RdP arr st)]) rfl (by decide) fun V' e1 e2 e3 ro okV => align_h okV (ro _ _ (.inl hr)) ⟨[], [_], [], rfl, rfl, ?_⟩)))
  refine Ex.if1 (Tv.cmp (EE.bin (EE.rd okb 1 (EE.loc okb (i := 0) rfl rfl) (hri _) (In.at (i := 0) rfl)) (EE.loc okb (i := 1) rfl rfl) OpI.add) (EE.lenB (EE.lenN okb) (EE.rd okb 0 (EE.loc okb (i := 0) rfl rfl) (hri _) (In.at (i := 0) rfl)) hb (by lia)) CpI.gt) (fun h => ?_) fun h => ?_
  · exact Ex.bad ok (Nat.lt_trans hdp (by decide)) (her h)
  · have hle : st.a + k ≤ ks.length := Int.not_lt.mp h
    have e : (st.a + k - st.a).toNat = k.toNat := by lia
    refine Ex.asg ok (i := 2) rfl (Ev.k (EE.sliceB (EE.rd okb 0 (EE.loc okb (i := 0) rfl rfl) (hri _) (In.at (i := 0) rfl)) (EE.rd okb 1 (EE.loc okb (i := 0) rfl rfl) (hri _) (In.at (i := 0) rfl)) (EE.bin (EE.rd okb 1 (EE.loc okb (i := 0) rfl rfl) (hri _) (In.at (i := 0) rfl)) (EE.loc okb (i := 1) rfl rfl) OpI.add) hb (by lia) ha (by lia) hle (fun _ _ => by with_unfolding_all rfl) (fun _ _ => by with_unfolding_all rfl)) ?_)
    refine Ex.aaug ok 0 1 (EE.loc okb (i := 0) rfl rfl) (EE.loc okb (i := 1) rfl rfl) (hri _) rfl (at109 _ (j := 1) rfl) (st109 _ (j := 1) rfl) rdN_nd rfl OpJ.add ?_
    rw [e]
    exact Ex.ret (Ev.k (EE.loc okb (i := 2) rfl rfl) (kk hle))
theorem mt_bits (w : World) : MtOk w 109 (Str.ofString "bits") 92 := ⟨by k_is, by k_is, by k_is⟩
theorem kp_bits (w : World) : keepIn (HA.hd.heap_1_39 w.params) (.ref 92) = true := by k_is
theorem mt_raw (w : World) : MtOk w 109 (Str.ofString "raw") 106 := ⟨by k_is, by k_is, by k_is⟩
theorem kp_raw (w : World) : keepIn (HA.hd.heap_1_39 w.params) (.ref 106) = true := by k_is
section
variable {c : Cx} {lo : Lo} {nw : Nw} {rest : List Stmt} {R : Fl → Lo → Nw → Prop}
theorem CK.bits (ok : Ok c) (hdp : c.V.dp < 880) {i : Nat} (ks' : List Nat) (k' : Nat) {nwr : Nw} {r dx : Addr} {arr : Array UInt8} {ks : List Int} {st : RS} {k : Int} {K : AV → Nw → Prop} (hi : nth nw i = some (dx, RdP arr st)) (hr : Ro c nw [i] r (InstP 109 dx)) (hb : KBw.bInts arr = ks) (hlen : ks.length ≤ 2000) (hR : RI ks st) (hk : 0 ≤ k) (hk2 : k ≤ 2)
    (kk : ∀ x st', rdBits ks st k = some (x, st') → K (It x) (putA nw i (RdP arr st'))) (er : rdBits ks st k = none → ∀ B, Has B ((dx, RdP arr st) :: nwr) → c.V.Er B)
    (hnd : autoParam (([i] ++ ks').Nodup) Mine.aD) (hkk : autoParam (∀ j ∈ [i] ++ ks', j < k') Mine.aD) (he : autoParam (ks'.filterMap (nth nw) ++ nw.drop k' = nwr) Mine.aR) : CK c lo nw (.ref 92) [Is (.ref r), It k] K :=
  CK.callB ok (conM (fn_bits _)) (Nat.lt_trans hdp (by decide)) rfl [i] ks' k' (nw₀ := [(dx, RdP arr st)]) (by rw [List.map_cons, hi]; rfl) (Er := fun B => rdBits ks st k = none ∧ Has B [(dx, RdP arr st)]) (fun V e1 e2 e3 ro e5 okV =>
    bits_h okV (by lia) (ro _ _ hr) hb hlen hR hk hk2 (fun x st' e => ⟨[], [_], [], rfl, rfl, (List.append_nil _).symm ▸ kk x st' e⟩) fun e B hB => by rw [e5]; exact ⟨e, hB⟩) (fun B h1 h2 => er h2.1 B fun e he => by
      rcases List.mem_cons.mp he with rfl | he
      · exact h2.2 _ (.head _)
      · exact h1 e he) hnd hkk he
theorem CK.raw (ok : Ok c) (hdp : c.V.dp < 880) {i : Nat} (ks' : List Nat) (k' : Nat) {nwr : Nw} {r dx : Addr} {arr : Array UInt8} {ks : List Int} {st : RS} {k : Int} {K : AV → Nw → Prop} (hi : nth nw i = some (dx, RdP arr st)) (hr : Ro c nw [i] r (InstP 109 dx)) (hb : KBw.bInts arr = ks) (hlen : ks.length ≤ 2000) (ha : 0 ≤ st.a) (hk : 0 ≤ k) (hk2 : k ≤ 5)
    (kk : st.a + k ≤ ks.length → K (ByI ((ks.drop st.a.toNat).take k.toNat)) (putA nw i (RdP arr ⟨st.a + k, 0, 0⟩))) (er : ks.length < st.a + k → ∀ B, Has B nwr → c.V.Er B)
    (hnd : autoParam (([i] ++ ks').Nodup) Mine.aD) (hkk : autoParam (∀ j ∈ [i] ++ ks', j < k') Mine.aD) (he : autoParam (ks'.filterMap (nth nw) ++ nw.drop k' = nwr) Mine.aR) : CK c lo nw (.ref 106) [Is (.ref r), It k] K :=
  CK.callB ok (conM (fn_raw _)) (Nat.lt_trans hdp (by decide)) rfl [i] ks' k' (nw₀ := [(dx, RdP arr st)]) (by rw [List.map_cons, hi]; rfl) (Er := fun B => (ks.length : Int) < st.a + k) (fun V e1 e2 e3 ro e5 okV =>
    raw_h okV (by lia) (ro _ _ hr) hb hlen ha hk hk2 (fun e => ⟨[], [_], [], rfl, rfl, (List.append_nil _).symm ▸ kk e⟩) fun e B hB => by rw [e5]; exact e) (fun B h1 h2 => er h2 B h1) hnd hkk he
theorem EK.bits (ok : Ok c) (hdp : c.V.dp < 880) {i : Nat} (ks' : List Nat) (k' : Nat) {nwr : Nw} {o e : Expr} {apos pos : Pos} {r dx : Addr} {arr : Array UInt8} {ks : List Int} {st : RS} {k : Int} {K : AV → Nw → Prop} (ho : EE c lo nw o (Is (.ref r))) (he' : EE c lo nw e (It k)) (hi : nth nw i = some (dx, RdP arr st)) (hri : In c nw r (InstP 109 dx)) (hr : Ro c nw [i] r (InstP 109 dx)) (hb : KBw.bInts arr = ks) (hlen : ks.length ≤ 2000) (hR : RI ks st) (hk : 0 ≤ k) (hk2 : k ≤ 2)
    (kk : ∀ x st', rdBits ks st k = some (x, st') → K (It x) (putA nw i (RdP arr st'))) (er : rdBits ks st k = none → ∀ B, Has B ((dx, RdP arr st) :: nwr) → c.V.Er B)
    (hnd : autoParam (([i] ++ ks').Nodup) Mine.aD) (hkk : autoParam (∀ j ∈ [i] ++ ks', j < k') Mine.aD) (he : autoParam (ks'.filterMap (nth nw) ++ nw.drop k' = nwr) Mine.aR)
    (hs' : autoParam (starEach [e] c.env = (false, eval e c.env) :: starEach [] c.env) Mine.aR)
    {pl : Sem Bool} (hc : autoParam (eval (.Call (.Attribute o (Str.ofString "bits") apos) [e] [] pos) c.env = (do
      let ov ← eval o c.env
      standAt apos.atName
      let (f, first) ← holding [ov] (getMethod ov (Str.ofString "bits") pl)
      callWith pos f first (backTo pos (starEach [e] c.env)) [])) Mine.aR) : EK c lo nw (.Call (.Attribute o (Str.ofString "bits") apos) [e] [] pos) K :=
  EK.meth ok ho hri (In.at hi) (mt_bits _) (kp_bits _) (by decide +kernel) (EvA.p he' (EvA.nil (CK.bits ok hdp ks' k' hi hr hb hlen hR hk hk2 kk er hnd hkk he)) hs') hs' rfl hc
end
end Mine
end
section
open PySem PySem.W PySem.Calls PyProof.Rows
set_option maxRecDepth 100000
namespace Mine
section
variable {c : Cx} {lo : Lo} {nw : Nw} {rest : List Stmt} {R : Fl → Lo → Nw → Prop}
theorem names_in2 (ok : Ok c) {Q : Unit → Shared → Prop} {E : Value → Shared → Prop} (xs : List (Str × Pos)) : ∀ {is : List Nat} {Ps : List AV} {vs : List Value} {lo : Lo} {s : Shared}, St c lo nw s → is.map (nth c.S.nm) = xs.map (fun x => some x.1) → AllV Ps vs → vs.length = xs.length → (∀ s', St c (puts lo is Ps) nw s' → Q () s') →
    wpAny c.M c.A (assignInOrder (xs.map fun x => assign (.Name x.1 x.2) c.env) vs) Q E s := by
  induction xs with
  | nil =>
    intro is Ps vs lo s hs hi hP hl q
    cases vs with
    | cons v vs => cases hl
    | nil =>
      cases hP
      cases is <;> exact wpAny_pure (q _ hs)
  | cons x xs ih =>
    intro is Ps vs lo s hs hi hP hl q
    cases is with
    | nil => cases hi
    | cons i is =>
      cases hP with
      | nil => cases hl
      | cons hP hPs =>
        have hx' := List.cons.inj hi
        exact assignInOrder_cons (PyProof.Rows.assign_Name (stK ok hs hx'.1 hP fun s' hs' => ih hs' hx'.2 hPs (Nat.succ.inj hl) q))
theorem tup_store (ok : Ok c) {elts : List Expr} {k : Nat} {tpos : Pos} {xs : List (Str × Pos)} {is : List Nat} {Ps : List AV} {vs : List Value} {t : Addr} {s : Shared} (hs : St c lo nw s) (hT : IsTup s.heap t (List.toArray vs)) (hi : is.map (nth c.S.nm) = xs.map (fun x => some x.1)) (hP : AllV Ps vs) (hl : Ps.length = xs.length)
    (h1 : (assignEach elts c.env).map (·.2) = xs.map fun x => assign (.Name x.1 x.2) c.env) (h2 : (assignEach elts c.env).findIdx? (·.1) = none) {Q : Unit → Shared → Prop} {E : Value → Shared → Prop} (q : ∀ s', St c (puts lo is Ps) nw s' → Q () s') : wpAny c.M c.A (assign (.Tuple elts k tpos) c.env (.ref t)) Q E s := by
  obtain ⟨m, ns, F, N, k1, k2⟩ := hs.opn
  have hlen := hP.length
  refine unpackN_ F N hT rfl (by rw [List.size_toArray, ← hlen, hl, ← List.length_map (f := (·.2)), h1, List.length_map]) h2 fun h' F' N' => ?_
  rw [h1]
  exact names_in2 ok xs (k1 h' s.toks F' N') hi hP (by show vs.length = _; rw [← hlen, hl]) q
theorem Ex.tupC (ok : Ok c) {elts es : List Expr} {k k' : Nat} {tpos vpos pos : Pos} (is : List Nat) (xs : List (Str × Pos)) (hi : is.map (nth c.S.nm) = xs.map (fun x => some x.1))
    (h : EvA c lo nw vpos es fun Ps nw1 => Ps.length = xs.length ∧ Ps.length ≤ 1000 ∧ Ex c (puts lo is Ps) nw1 rest R)
    (h1 : autoParam ((assignEach elts c.env).map (·.2) = xs.map (fun x => assign (.Name x.1 x.2) c.env)) Mine.aR) (h2 : autoParam ((assignEach elts c.env).findIdx? (·.1) = none) Mine.aR)
    (hs' : autoParam (swapsWithSole [.Tuple elts k tpos] (.Tuple es k' vpos) pos.line c.env = pure false) Mine.aR) (hw : autoParam (swappedStores [.Tuple elts k tpos] (.Tuple es k' vpos) c.env = pure none) Mine.aR) : Ex c lo nw (.Assign [.Tuple elts k tpos] (.Tuple es k' vpos) pos :: rest) R :=
  Ex.sk fun s hs Q q => Assign_Tuple (Tuple_ (h s hs _ fun Ps nw1 vs s1 ⟨hl, hm, kk⟩ hPs hs1 => by
    obtain ⟨m, ns, F, N, k1, k2⟩ := hs1.opn
    have hlen := hPs.length
    refine kup_newTuple F N (fun D h' F' N' lt => ?_) (by rw [sizeLine_eq]; lia)
    have hs2 := k1 h' s1.toks F' (fun p hp => N' p (.tail _ hp))
    exact tup_store ok hs2 (News.isTup N' (.head _)) hi hPs hl h1 h2 fun s' hs' => q _ _ _ kk hs')) hs' hw
theorem enumO {h : Heap} {e it : Addr} {i : Int} {old : Value} (x : IsEnum h e it i old) : ∃ o, h.get? e = some o := ⟨_, x⟩
theorem forE_go (ok : Ok c) {elts : List Expr} {k : Nat} {tpos : Pos} {body : List Stmt} {ia ib : Nat} {xs : List (Str × Pos)} (hi : [ia, ib].map (nth c.S.nm) = xs.map (fun x => some x.1)) (h1 : (assignEach elts c.env).map (·.2) = xs.map fun x => assign (.Name x.1 x.2) c.env) (h2 : (assignEach elts c.env).findIdx? (·.1) = none)
    {E I l : Addr} {ns : List Int} {vs : List Value} (hI : IntsAre vs ns) (hEI : E ≠ I) (hlE : l ≠ E) (hlI : l ≠ I) (hl : ∃ o, c.V.h₀.get? l = some o) (J : Nat → Lo → Nw → Prop) {Q : Flow → Shared → Prop}
    (turn : ∀ i lo nw oE oI, i < ns.length → J i lo nw → Ex c (put (put lo ia (some (It i))) ib (some (It (ns.getD i 0)))) ((E, Eo oE) :: (I, Eo oI) :: nw) body (trn c rest R (Tend [(E, Eo oE), (I, Eo oI)] (J (i + 1)))))
    (done : ∀ lo nw, J ns.length lo nw → Ex c lo nw rest R) (q : ∀ fl lo' nw' f s', R fl lo' nw' → fl.is f → St c lo' nw' s' → Q f s') :
    ∀ k' i lo nw s oE oI, i + k' = ns.length → St c lo ((E, Eo oE) :: (I, Eo oI) :: nw) s → ((∃ old, IsEnum s.heap E I i old) ∧ s.heap.IsListIter I l i ∧ s.heap.IsList l (List.toArray vs)) → J i lo nw →
      ForM c.S.b PySem.Challenge.rw_pb0114_01.row.prog c.V.w c.A c.V.E c.env (.Tuple elts k tpos) (.ref E) body (nextOr (wpM c.S.b c.M c.A (execs rest c.env) Q c.V.E) Q) s := by
  have W := WalksT.enumerate (prog := PySem.Challenge.rw_pb0114_01.row.prog) (w := c.V.w) (A := c.A) rfl E I l hEI hlE hlI (List.toArray vs)
  have hsz : (List.toArray vs).size = ns.length := by rw [List.size_toArray, hI.length]
  rw [hsz] at W
  have two : ∀ {nw : Nw} {oE oI : Obj} {a : Addr}, a ∈ [E, I] → a ∈ adr ((E, Eo oE) :: (I, Eo oI) :: nw) := fun ha => by
    rcases List.mem_cons.mp ha with rfl | ha
    · exact .head _
    · rw [List.mem_singleton.mp ha]; exact .tail _ (.head _)
  intro k'
  induction k' with
  | zero =>
    intro i lo nw s oE oI e hs hst hJ
    obtain rfl : i = ns.length := by lia
    refine forM_turn ok.ps (W.done _ _ _ hst fun h' tk' hk => ?_)
    have n1 := List.nodup_cons.mp hs.nodup
    have n2 := List.nodup_cons.mp n1.2
    refine done _ _ hJ _ (hs.mod [E, I] (fun a ha => two ha) hk (fun e he => .inl ⟨.tail _ (.tail _ he), fun z => ?_⟩) n2.2) Q q
    have he' : e.1 ∈ adr nw := List.mem_map_of_mem (f := (·.1)) he
    rcases List.mem_cons.mp z with z | z
    · exact n1.1 (z ▸ .tail _ he')
    · exact n2.1 (List.mem_singleton.mp z ▸ he')
  | succ k' ih =>
    intro i lo nw s oE oI e hs hst hJ
    refine forM_turn ok.ps (W.item i _ _ _ (by lia) hst fun T vals h' tk hP _ hT hM hk => ?_)
    have hTn : T ∉ [E, I] := W.apart _ _ _ hM
    dsimp only
    refine W.go _ _ _ _ _ _ _ _ hM fun h2' hst2 hk2 => ?_
    obtain ⟨t, x, hx, rfl⟩ := hP
    have n1 := List.nodup_cons.mp hs.nodup
    have n2 := List.nodup_cons.mp n1.2
    obtain ⟨oE', hoE⟩ : ∃ o, h2'.get? E = some o := by obtain ⟨⟨_, z⟩, _⟩ := hst2; exact enumO z
    obtain ⟨oI', hoI⟩ : ∃ o, h2'.get? I = some o := by obtain ⟨_, ⟨o, z, _⟩, _⟩ := hst2; exact ⟨o, z⟩
    have hs1 : St c lo ((E, Eo oE') :: (I, Eo oI') :: nw) { s with heap := h2', toks := tk } := hs.mod [E, I] (fun a ha => two ha) (fun b o hb z => hk2 b o hb (hk b o hb z)) (fun e he => by
      rcases List.mem_cons.mp he with rfl | he
      · exact .inr ⟨⟨oE', hoE, rfl⟩, .head _⟩
      rcases List.mem_cons.mp he with rfl | he
      · exact .inr ⟨⟨oI', hoI, rfl⟩, .tail _ (.head _)⟩
      · refine .inl ⟨.tail _ (.tail _ he), fun z => ?_⟩
        have he' : e.1 ∈ adr nw := List.mem_map_of_mem (f := (·.1)) he
        rcases List.mem_cons.mp z with z | z
        · exact n1.1 (z ▸ .tail _ he')
        · exact n2.1 (List.mem_singleton.mp z ▸ he')) hs.nodup
    obtain ⟨oT, hoT, hTc, hTd⟩ := hT
    have hT2 : IsTup h2' T (List.toArray [.int (i : Int) t, x]) := ⟨oT, hk2 T oT hTn hoT, hTc, hTd⟩
    have hxi : It (ns.getD i 0) x := ints_nth hI (by simpa using hx)
    refine tup_store ok (Ps := [It i, It (ns.getD i 0)]) hs1 hT2 hi (.cons ⟨t, rfl⟩ (.cons hxi .nil)) (by have := congrArg List.length hi; simpa using this) h1 h2 fun s2 hs2 => ?_
    have key : ∀ {lo' : Lo} {nw' : Nw} {s' : Shared}, St c lo' ((E, Eo oE') :: (I, Eo oI') :: nw') s' → (∃ old, IsEnum s'.heap E I (i + 1 : Nat) old) ∧ s'.heap.IsListIter I l (i + 1) ∧ s'.heap.IsList l (List.toArray vs) := fun hs' => W.frame (i + 1) _ _ hst2 fun b hb o z => by
      rcases List.mem_cons.mp hb with rfl | hb
      · obtain ⟨o2, e2, h2, _⟩ := hs'.has (.head _)
        rw [hoE] at z; cases z; cases h2; exact e2
      rcases List.mem_cons.mp hb with rfl | hb
      · obtain ⟨o2, e2, h2, _⟩ := hs'.has (.tail _ (.head _))
        rw [hoI] at z; cases z; cases h2; exact e2
      · rw [List.mem_singleton.mp hb] at z ⊢
        obtain ⟨ol, hol⟩ := hl
        have := hs1.base hol
        rw [show (h2'.get? l = some o) from z] at this; cases this
        exact hs'.base hol
    refine wpM_mono (turn i lo nw oE' oI' (by lia) hJ s2 hs2 (fun f s' => ∃ fl lo' nw', trn c rest R (Tend [(E, Eo oE'), (I, Eo oI')] (J (i + 1))) fl lo' nw' ∧ fl.is f ∧ St c lo' nw' s') fun fl lo' nw' f s' h1 h2 h3 => ⟨fl, lo', nw', h1, h2, h3⟩) (fun f s4 z => ?_) fun _ _ z => z
    obtain ⟨fl, lo', nw', g1, g2, g3⟩ := z
    have fin : Tend [(E, Eo oE'), (I, Eo oI')] (J (i + 1)) lo' nw' → ForM c.S.b PySem.Challenge.rw_pb0114_01.row.prog c.V.w c.A c.V.E c.env (.Tuple elts k tpos) (.ref E) body (nextOr (wpM c.S.b c.M c.A (execs rest c.env) Q c.V.E) Q) s4 := by
      rintro ⟨nw2, hsel, hJ2⟩
      have hs4 := g3.sel hsel
      exact ih (i + 1) lo' nw2 s4 oE' oI' (by lia) hs4 (key hs4) hJ2
    cases fl with
    | next => cases g2; exact fin g1
    | cont => cases g2; exact fin g1
    | brk => cases g2; exact g1 s4 g3 Q q
    | ret P => obtain ⟨v', rfl, hv⟩ := g2; exact q _ _ _ _ _ g1 ⟨v', rfl, hv⟩ g3
theorem Ex.forE (ok : Ok c) {elts : List Expr} {k : Nat} {tpos : Pos} {rn : Str} {rp cp pos : Pos} {e : Expr} {body : List Stmt} {ia ib : Nat} (xs : List (Str × Pos)) (hi : [ia, ib].map (nth c.S.nm) = xs.map (fun x => some x.1)) (hr : EE c lo nw (.Name rn rp) (Is (.type "enumerate")))
    {l : Addr} {ns : List Int} (h : EE c lo nw e (Is (.ref l))) (hl : At c.V.h₀ l (IntL ns)) (J : Nat → Lo → Nw → Prop) (hJ : J 0 lo nw)
    (turn : ∀ E oE I oI i lo nw, i < ns.length → J i lo nw → Ex c (put (put lo ia (some (It i))) ib (some (It (ns.getD i 0)))) ((E, Eo oE) :: (I, Eo oI) :: nw) body (trn c rest R (Tend [(E, Eo oE), (I, Eo oI)] (J (i + 1)))))
    (done : ∀ lo nw, J ns.length lo nw → Ex c lo nw rest R)
    (h1 : autoParam ((assignEach elts c.env).map (·.2) = xs.map (fun x => assign (.Name x.1 x.2) c.env)) Mine.aR) (h2 : autoParam ((assignEach elts c.env).findIdx? (·.1) = none) Mine.aR)
    (he : autoParam (starEach [e] c.env = (false, eval e c.env) :: starEach [] c.env) Mine.aR)
    (hc : autoParam (eval (.Call (.Name rn rp) [e] [] cp) c.env = (do callWith cp (← eval (.Name rn rp) c.env) [] (backTo cp (starEach [e] c.env)) (backToKw cp (keywordEach [] c.env)))) Mine.aR) (hf : autoParam (∀ x, foldedSetIterable (.Call (.Name rn rp) [e] [] cp) c.env x = pure x) Mine.aIr) :
    Ex c lo nw (.For (.Tuple elts k tpos) (.Call (.Name rn rp) [e] [] cp) body [] pos :: rest) R := fun s hs Q q =>
  wpM_execs_cons (wpM_For (by
    refine Call_ (hr s hs _ _ fun v s1 hv hs1 => ?_) hc
    cases hv
    refine PySem.Pv.callWith_type1 (args_cons (h s1 hs1 _ _ fun v s2 hv hs2 => args_nil ?_) he) he rfl
    cases hv
    obtain ⟨o0, eo0, vs, nl, rfl, hI⟩ := hl
    have eo := hs2.base eo0
    have hL : s2.heap.IsList l (List.toArray vs) := ⟨_, eo, rfl, _, rfl⟩
    refine call_enumerate_list hL fun h' hE hIt hsz hk => ?_
    refine wpAny_pyIter_enum hE ?_
    have hlt : l < s2.heap.objs.size := Heap.lt_size eo
    have hnone : ∀ a, s2.heap.objs.size ≤ a → s2.heap.get? a = none := fun a ha => by
      cases q : s2.heap.get? a with
      | none => rfl
      | some o => exact absurd (Heap.lt_size q) (Nat.not_lt.mpr ha)
    obtain ⟨oE, hoE⟩ := enumO hE
    obtain ⟨oI, hoI, hIt2⟩ := hIt
    have hsg : St c lo nw { s2 with heap := h', toks := s2.toks } := hs2.grow hk
    have hA : ∀ a, s2.heap.objs.size ≤ a → a ≠ c.V.L ∧ c.V.h₀.get? a = none ∧ a ∉ adr nw := fun a ha => by
      refine ⟨fun z => ?_, ?_, fun z => ?_⟩
      · obtain ⟨m, nn, F, _⟩ := hs2.opn
        exact absurd F.ns.lt (Nat.not_lt.mpr (z ▸ ha))
      · cases q : c.V.h₀.get? a with
        | none => rfl
        | some o => have := hs2.base q; rw [hnone a ha] at this; cases this
      · obtain ⟨y, hy, rfl⟩ := List.mem_map.mp z
        obtain ⟨o', e', _⟩ := hs2.has hy
        rw [hnone _ ha] at e'; cases e'
    have nd := hs2.nodup
    have a1 := hA (s2.heap.objs.size + 1) (Nat.le_succ _)
    have a0 := hA s2.heap.objs.size (Nat.le_refl _)
    have hs3 : St c lo ((s2.heap.objs.size + 1, Eo oE) :: (s2.heap.objs.size, Eo oI) :: nw) { s2 with heap := h', toks := s2.toks } := by
      obtain ⟨hh, tk0, m, ob, es, F, l', N, oo, nd⟩ := hsg
      have e1 : hh = h' := (congrArg Shared.heap es).symm
      subst e1
      rw [es]
      refine St.build F l' (fun e he => ?_) (List.nodup_cons.mpr ⟨fun z => ?_, List.nodup_cons.mpr ⟨a0.2.2, nd⟩⟩)
      · rcases List.mem_cons.mp he with rfl | he
        · exact ⟨⟨_, hoE, rfl⟩, a1.1, a1.2.1⟩
        rcases List.mem_cons.mp he with rfl | he
        · exact ⟨⟨_, hoI, rfl⟩, a0.1, a0.2.1⟩
        · have z := N _ (List.mem_map.mpr ⟨e, he, rfl⟩)
          exact ⟨⟨_, z.1, oo e he⟩, z.2⟩
      · rcases List.mem_cons.mp z with z | z
        · exact absurd z (Nat.succ_ne_self _)
        · exact a1.2.2 z
    exact forE_go ok hi h1 h2 hI (Nat.succ_ne_self _) (Nat.ne_of_lt (Nat.lt_succ_of_lt hlt)) (Nat.ne_of_lt hlt) ⟨_, eo0⟩ J (fun i lo nw oE oI hi hJ => turn _ oE _ oI i lo nw hi hJ) done q ns.length 0 lo nw _ oE oI (Nat.zero_add _) hs3 ⟨⟨_, hE⟩, ⟨oI, hoI, hIt2⟩, ⟨_, hk _ _ eo, rfl, _, rfl⟩⟩ hJ) hf)
end
end Mine
end
section
open PySem PySem.W PySem.Calls PyProof.Rows
set_option maxRecDepth 100000
set_option maxHeartbeats 4000000
namespace Mine
theorem rd_nonneg {ks : List Int} {st st' : RS} {k x : Int} (hk : 0 ≤ k) (e : rdBits ks st k = some (x, st')) : 0 ≤ x := by
  unfold rdBits at e
  have p2 : (0 : Int) < 2 ^ k.toNat := Int.pow_pos (by decide)
  have key : ∀ y : Int, 0 ≤ Builtin.bitAnd y (1 * 2 ^ k.toNat - 1) := fun y => by rw [Int.one_mul, kbt_mask]; exact Int.emod_nonneg _ (Int.ne_of_gt p2)
  split at e
  · split at e
    · cases e
    · simp only [Option.some.injEq, Prod.mk.injEq] at e; rw [← e.1]; exact key _
  · simp only [Option.some.injEq, Prod.mk.injEq] at e; rw [← e.1]; exact key _
noncomputable def ahd (counts : List Int) : Nat → Int
  | 0 => 0
  | i + 1 => ahd counts i + counts.getD (i + 1) 0
theorem ahd_nonneg {counts : List Int} (h : ∀ i, 0 ≤ counts.getD i 0) : ∀ i, 0 ≤ ahd counts i
  | 0 => Int.le_refl _
  | i + 1 => Int.add_nonneg (ahd_nonneg h i) (h _)
noncomputable abbrev cdN : List Str := [Str.ofString "counts", Str.ofString "signs"]
theorem cdN_nd : cdN.Nodup := by decide +kernel
@[reducible] noncomputable def CdP (lc ls : Addr) : AO := FldP cdN [Is (.ref lc), Is (.ref ls)]
theorem at152 (w : World) {j : Nat} {x : Str} (h : nth cdN j = some x) : AtOk w 152 x := by
  match j, h with
  | 0, h => cases h; exact ⟨by k_is, by k_is, _, by k_is, by k_is⟩
  | 1, h => cases h; exact ⟨by k_is, by k_is, _, by k_is, by k_is⟩
theorem mt_next (w : World) : MtOk w 152 (Str.ofString "next_sign") 149 := ⟨by k_is, by k_is, by k_is⟩
theorem kp_next (w : World) : keepIn (HA.hd.heap_1_39 w.params) (.ref 149) = true := by k_is
structure CodesA (F : Addr → AO → Prop) (c : Addr) (counts signs : List Int) (cx lc ls : Addr) : Prop where
  i : F c (InstP 152 cx)
  d : F cx (CdP lc ls)
  c : F lc (IntL counts)
  s : F ls (IntL signs)
section
variable {c : Cx} {lo : Lo} {nw : Nw} {rest : List Stmt} {R : Fl → Lo → Nw → Prop}
theorem EE.globI (ok : OkB c) {x : Str} {pos : Pos} {i : Int} {t : Tok} (e : nsIn (HA.hd.heap_1_39 c.V.w.params) mainGlobals x = some (some (.int i t))) (hk : autoParam (c.S.sc.names.lookup x = some .globalImplicit) Mine.aK) (hd' : autoParam ((x == Str.ofString "__debug__") = false) Mine.aDk) : EE c lo nw (.Name x pos) (It i) :=
  Ev.imp (EE.glob ok e hk hd') fun v h => ⟨t, h⟩
theorem EE.most (ok : OkB c) {pos : Pos} (hk : autoParam (c.S.sc.names.lookup (Str.ofString "MOST_LENGTH") = some .globalImplicit) Mine.aK) : EE c lo nw (.Name (Str.ofString "MOST_LENGTH") pos) (It 15) := EE.globI ok (t := 237) (by k_is) hk
theorem EE.cd (ok : OkB c) (j : Nat) {o : Expr} {pos : Pos} {r dx lc ls : Addr} {x : Str} {a : Addr} (ho : EE c lo nw o (Is (.ref r))) (hr : In c nw r (InstP 152 dx)) (hdx : In c nw dx (CdP lc ls)) (hx : autoParam (nth cdN j = some x) Mine.aR) (hP : autoParam (nth [Is (.ref lc), Is (.ref ls)] j = some (Is (.ref a))) Mine.aR)
    (he : autoParam (eval (.Attribute o x pos) c.env = (do
      let o' ← eval o c.env
      standAt pos.atName
      let r ← holding [o'] (getAttr o' x true)
      letTemporaryGo o o' r
      pure r)) Mine.aW) (ht : autoParam (∀ o' r, letTemporaryGo o o' r = pure ()) Mine.aW2) : EE c lo nw (.Attribute o x pos) (Is (.ref a)) :=
  EE.attr ok j ho hr hdx (at152 _ hx) cdN_nd hx hP handed_ref he ht
end
theorem ns_a {x z : Int} (h1 : 0 ≤ x) (hz : 0 ≤ z) : 0 ≤ x * 2 + z := by lia
theorem ns_b {x m : Int} (h1 : 0 ≤ x) (hz : 0 ≤ m) : 0 ≤ (x + m) * 2 := by lia
theorem ns_c {c f m : Int} (h : ¬ c < f + m) : (f + m) * 2 ≤ 2 * c := by lia
theorem CodesA.mono {F F' : Addr → AO → Prop} (k : ∀ a P, F a P → F' a P) {c : Addr} {counts signs : List Int} {cx lc ls : Addr} (h : CodesA F c counts signs cx lc ls) : CodesA F' c counts signs cx lc ls := ⟨k _ _ h.i, k _ _ h.d, k _ _ h.c, k _ _ h.s⟩
noncomputable def sNext : Sx := sx false 149 [Str.ofString "self", Str.ofString "reader", Str.ofString "code", Str.ofString "first", Str.ofString "ahead", Str.ofString "length", Str.ofString "many"]
theorem fn_next (w : World) : Fn w 149 sNext 2 [] (bodyF 149) := by
  refine ⟨⟨by kernel_rfl, by decide +kernel, by decide +kernel⟩, Nat.le_of_ble_eq_true rfl, ?_⟩
  refine ⟨_, _, _, _, _, _, _, _, _, _, _, _, by k_is, by (show codeIn _ _ (Str.ofString "Codes.next_sign") = true; k_is), ?_, by decide +kernel, by kernel_rfl, by kernel_rfl⟩
  intro s vs hK h
  obtain ⟨a, b, rfl⟩ := vs2 h
  exact BindsTo.of_eq rfl
theorem next_h {V : Vx} (ok : Ok ⟨sNext, V⟩) (hdp : V.dp < 870) {r dx c cx lc ls : Addr} {arr : Array UInt8} {ks counts signs : List Int} {st : RS} (hr : At V.h₀ r (InstP 109 dx)) (hc : CodesA (At V.h₀) c counts signs cx lc ls) (hb : KBw.bInts arr = ks) (hlen : ks.length ≤ 2000) (hR : RI ks st)
    (hcl : counts.length = 16) (hc0 : ∀ i, 0 ≤ counts.getD i 0) (hsl : signs.length ≤ 300) (hs : ∀ i, i < 15 → ahd counts (i + 1) ≤ signs.length) {K : AV → Nw → Prop}
    (kk : ∀ x st', nextSign counts signs ks st = some (x, st') → RI ks st' → K (It x) [(dx, RdP arr st')]) (her : nextSign counts signs ks st = none → ∀ B, V.Er B) : Ex ⟨sNext, V⟩ [some (Is (.ref c)), some (Is (.ref r)), none, none, none, none, none] [(dx, RdP arr st)] (bodyF 149) (fun fl _ nw' => K fl.av nw') := by
  have okb := ok.toOkB
  have hri : ∀ nw, In ⟨sNext, V⟩ nw r (InstP 109 dx) := fun _ => .inr hr
  have hks : ∀ x ∈ ks, 0 ≤ x ∧ x < 256 := fun x hx => by
    obtain ⟨i, hi, e⟩ := List.getElem_of_mem hx
    have := byte_b hb i
    rwa [List.getD_eq_getElem?_getD, List.getElem?_eq_getElem hi, e] at this
  refine Ex.tupC ok [2, 3, 4] [(_, _), (_, _), (_, _)] rfl (EvA.p EE.int (EvA.p EE.int (EvA.p EE.int (EvA.nil ⟨rfl, Nat.le_of_ble_eq_true rfl, ?_⟩))))
  refine Ex.forR2 ok (ix := 5) rfl (EE.rangeN okb) EE.int (EE.bin (EE.most okb) EE.int OpI.add) (by decide) (by decide)
    (Lp.mk (fun x => [some (Is (.ref c)), some (Is (.ref r)), some (It x.i1), some (It x.i2), some (It x.i3), x.p1, x.p2]) (fun x => [(dx, RdP arr x.rs)]) (fun i x => RI ks x.rs ∧ 0 ≤ x.i1 ∧ 0 ≤ x.i2 ∧ x.i2 ≤ 2 * x.i1 ∧ x.i3 = ahd counts i ∧ nextSign counts signs ks st = nsGo counts signs ks (15 - i) (i + 1) x.i1 x.i2 x.i3 x.rs)
      { rs := st } ⟨hR, Int.le_refl _, Int.le_refl _, Int.le_refl _, rfl, rfl⟩ (fun I oI i x hi hx => ?_) fun x hx => ?_)
  · have hi : i < 15 := hi
    obtain ⟨hR', h1, h2, h3, h4, h5⟩ := hx
    refine Ex.asg ok (i := 2) rfl (EK.binR (EE.bin (EE.loc okb (i := 2) rfl rfl) EE.int (OpI.mulR (by decide) (by decide))) (EK.bits ok (by exact Nat.lt_trans hdp (by decide)) [0] 2 (EE.loc okb (i := 1) rfl rfl) EE.int (i := 1) rfl (hri _) (.inl hr) hb hlen hR' (by decide) (by decide) (fun z st2 hrd => ⟨z, rfl, _, OpI.add, ?_⟩) fun hn B _ => her (by rw [h5, show 15 - i = (14 - i) + 1 by lia, nsGo, hn]) B))
    obtain ⟨hR2, _, _, _⟩ := rd_some hR' (by decide) (by decide) hks hrd
    have hz := rd_nonneg (by decide) hrd
    have hm0 := hc0 (i + 1)
    have hah := hs i hi
    have hah0 := ahd_nonneg hc0 i
    have e1 : (1 + (i : Int)).toNat = i + 1 := by lia
    refine Ex.asg ok (i := 6) rfl (Ev.k (EE.item (EE.cd okb 0 (EE.loc okb (i := 0) rfl rfl) (.inr hc.i) (.inr hc.d)) (EE.loc okb (i := 5) rfl rfl) (.inr hc.c) (by lia) (by lia) (by lia)) ?_)
    rw [e1]
    refine Ex.if1 (Tv.cmp (EE.loc okb (i := 2) rfl rfl) (EE.bin (EE.loc okb (i := 3) rfl rfl) (EE.loc okb (i := 6) rfl rfl) OpI.add) CpI.lt) (fun h => ?_) fun h => ?_
    · have e2 : ahd counts (i + 1) = ahd counts i + counts.getD (i + 1) 0 := rfl
      refine Ex.sel [1] 2 (nw2 := [(dx, RdP arr st2)]) (Ex.ret (Ev.k (EE.item (EE.cd okb 1 (EE.loc okb (i := 0) rfl rfl) (.inr hc.i) (.inr hc.d)) (EE.bin (EE.bin (EE.loc okb (i := 4) rfl rfl) (EE.loc okb (i := 2) rfl rfl) OpI.add) (EE.loc okb (i := 3) rfl rfl) OpI.sub) (.inr hc.s) (by lia) (by lia) (by lia)) (kk _ st2 ?_ hR2)))
      rw [h5, show 15 - i = (14 - i) + 1 by lia, nsGo, hrd]
      dsimp only
      rw [if_pos h]
    · refine Ex.naug ok 4 rfl rfl (EE.loc okb (i := 6) rfl rfl) OpJ.add ?_
      refine Ex.asg ok (i := 3) rfl (Ev.k (EE.bin (EE.bin (EE.loc okb (i := 3) rfl rfl) (EE.loc okb (i := 6) rfl rfl) OpI.add) EE.int (OpI.mulR (by decide) (by decide))) ?_)
      refine Ex.tendS { i1 := x.i1 * 2 + z, i2 := (x.i2 + counts.getD (i + 1) 0) * 2, i3 := x.i3 + counts.getD (i + 1) 0, p1 := _, p2 := _, rs := st2 } [0, 1] 2 ⟨hR2, ns_a h1 hz, ns_b h2 hm0, ns_c h, by dsimp only; rw [h4]; rfl, ?_⟩
      dsimp only
      rw [h5, show 15 - i = (14 - i) + 1 by lia, nsGo, hrd]
      dsimp only
      rw [if_neg h, show 15 - (i + 1) = 14 - i by lia]
  · refine Ex.bad ok (Nat.lt_trans hdp (by decide)) fun B _ => her ?_ B
    exact hx.2.2.2.2.2
structure CdOk (counts signs : List Int) : Prop where
  cl : counts.length = 16
  c0 : ∀ i, 0 ≤ counts.getD i 0
  sl : signs.length ≤ 300
  hs : ∀ i, i < 15 → ahd counts (i + 1) ≤ signs.length
section
variable {c : Cx} {lo : Lo} {nw : Nw} {rest : List Stmt} {R : Fl → Lo → Nw → Prop}
theorem EK.next (ok : Ok c) (hdp : c.V.dp < 860) {i : Nat} (ks' : List Nat) (k' : Nat) {nwr : Nw} {o e : Expr} {apos pos : Pos} {r dx cc cx lc ls : Addr} {arr : Array UInt8} {ks counts signs : List Int} {st : RS} {K : AV → Nw → Prop} (ho : EE c lo nw o (Is (.ref cc))) (he' : EE c lo nw e (Is (.ref r))) (hi : nth nw i = some (dx, RdP arr st)) (hr : Ro c nw [i] r (InstP 109 dx))
    (hci : In c nw cc (InstP 152 cx)) (hcd : In c nw cx (CdP lc ls)) (hc : CodesA (Ro c nw [i]) cc counts signs cx lc ls) (hb : KBw.bInts arr = ks) (hlen : ks.length ≤ 2000) (hR : RI ks st) (ct : CdOk counts signs)
    (kk : ∀ x st', nextSign counts signs ks st = some (x, st') → RI ks st' → K (It x) (putA nw i (RdP arr st'))) (er : nextSign counts signs ks st = none → ∀ B, Has B nwr → c.V.Er B)
    (hnd : autoParam (([i] ++ ks').Nodup) Mine.aD) (hkk : autoParam (∀ j ∈ [i] ++ ks', j < k') Mine.aD) (he : autoParam (ks'.filterMap (nth nw) ++ nw.drop k' = nwr) Mine.aR)
    (hs' : autoParam (starEach [e] c.env = (false, eval e c.env) :: starEach [] c.env) Mine.aR)
    {pl : Sem Bool} (hc' : autoParam (eval (.Call (.Attribute o (Str.ofString "next_sign") apos) [e] [] pos) c.env = (do
      let ov ← eval o c.env
      standAt apos.atName
      let (f, first) ← holding [ov] (getMethod ov (Str.ofString "next_sign") pl)
      callWith pos f first (backTo pos (starEach [e] c.env)) [])) Mine.aR) : EK c lo nw (.Call (.Attribute o (Str.ofString "next_sign") apos) [e] [] pos) K :=
  EK.meth ok ho hci hcd (mt_next _) (kp_next _) (by decide +kernel) (EvA.p he' (EvA.nil (CK.callB ok (conM (fn_next _)) (Nat.lt_trans hdp (by decide)) rfl [i] ks' k' (nw₀ := [(dx, RdP arr st)]) (by rw [List.map_cons, hi]; rfl) (Er := fun _ => nextSign counts signs ks st = none) (fun V e1 e2 e3 ro e5 okV =>
    next_h okV (by lia) (ro _ _ hr) (hc.mono ro) hb hlen hR ct.cl ct.c0 ct.sl ct.hs (fun x st' e hR' => ⟨[], [_], [], rfl, rfl, (List.append_nil _).symm ▸ kk x st' e hR'⟩) fun e B => by rw [e5]; exact e) (fun B h1 h2 => er h2 B h1) hnd hkk he)) hs') hs' rfl hc'
end
end Mine
end
section
open PySem PySem.W PySem.Calls PyProof.Rows
set_option maxRecDepth 100000
namespace Mine
theorem Ents.app {xs : List Str} {Ps : List AV} {es : List DictEntry} (h : Ents xs Ps es) {x : Str} {P : AV} {v : Value} (g : Int) (u : Tok) (n : Nat) (hx : x ∉ xs) (hP : P v) : Ents (xs ++ [x]) (Ps ++ [P]) (putL x g (.str x u) v es) ∧ putN x es n = n + 1 := by
  have hany : es.any (·.key.isStr x) = false ∧ Ents (xs ++ [x]) (Ps ++ [P]) (putL x g (.str x u) v es) := by
    induction h with
    | nil => exact ⟨rfl, .cons hP .nil⟩
    | cons hv _ ih =>
      rename_i y Q g' u' v' xs Ps es h
      have hne : (y == x) = false := by
        have : y ≠ x := fun q => hx (q ▸ .head _)
        simpa using this
      obtain ⟨h1, h2⟩ := ih fun q => hx (.tail _ q)
      refine ⟨?_, ?_⟩
      · rw [List.any_cons, h1, Bool.or_false]; exact hne
      · show Ents _ _ (if (y == x) = true then _ else _)
        rw [hne, if_neg Bool.false_ne_true]
        exact .cons hv h2
  refine ⟨hany.2, ?_⟩
  unfold putN
  rw [hany.1]; rfl
section
variable {c : Cx} {lo : Lo} {nw : Nw} {rest : List Stmt} {R : Fl → Lo → Nw → Prop}
theorem Ex.anew (ok : Ok c) {o e : Expr} {p pos : Pos} {r dx C : Addr} {x : Str} {xs : List Str} {Ps : List AV} (i : Nat) (st : StOk c.V.w C x) (hx : x ∉ xs)
    (h : EK c lo nw e fun P nw1 => EE c lo nw1 o (Is (.ref r)) ∧ In c nw1 r (InstP C dx) ∧ nth nw1 i = some (dx, FldP xs Ps) ∧ Ex c lo (put nw1 i (dx, FldP (xs ++ [x]) (Ps ++ [P]))) rest R)
    (hl : autoParam (xs.length ≤ 999) Mine.aD) (hw : autoParam (swapsWith e (some (.Attribute o x p)) pos.line c.env = pure false) Mine.aR) : Ex c lo nw (.Assign [.Attribute o x p] e pos :: rest) R :=
  Ex.sk fun s hs Q q => plainObj_wpAny_Assign_Attribute (h s hs _ fun P nw1 v s1 ⟨ho, hr, hi, kk⟩ hP hs1 => ho s1 hs1 _ _ fun ov s2 hov hs2 => by
    cases hov
    obtain ⟨o1, e1, rfl⟩ := hr.get hs2
    obtain ⟨m, ns, od, g, F, N, ⟨es, n, rfl, hE⟩, hm, _, U, fin⟩ := hs2.upd hi
    have I : W.InstAt s2.heap r (instObj C dx) C (some (dictOf es n)) := ⟨e1, rfl, rfl, (N _ hm).1⟩
    obtain ⟨hE2, hn⟩ := hE.app (PyData.keyHash c.V.w.params x) (s2.toks + 1) n hx hP
    obtain ⟨s1, s2, s3, s4⟩ := st
    exact set_dict F ok.X0 N I rfl s1 s2 s3 s4 (by rw [hE.none hx]; rfl) (by rw [hn]) (U _) (by rw [hE2.len, List.length_append]; exact Nat.succ_le_succ hl) fun h' F' N' => q _ _ _ kk (fin h' _ _ _ F' N' ⟨_, n + 1, rfl, hE2⟩)) hw
end
theorem dpL {a b n m : Nat} (e : a = b + 1) (h : b < n) (k : n + 1 ≤ m) : a < m := by lia
theorem dpL2 {a b n m : Nat} (e : a = b + 1) (h : b < n) (k : n + 2 ≤ m) : a + 1 < m := by lia
noncomputable def BX (K : AV → Nw → Prop) (nwr : Nw) (P : AV) (nw' : Nw) : Prop := K P (nw' ++ nwr)
noncomputable def MR (C x dx : Addr) (KR : AV → Nw → Prop) (P : AV) (nw' : Nw) : Prop := (∀ v, P v → v = .none) ∧ KR (Is (.ref x)) ((x, InstP C dx) :: nw')
theorem CN.callZ {c : Cx} {lo : Lo} {nw : Nw} (ok : OkB c) {f : Addr} {n : Nat} {Body : Vx → List AV → Nw → (AV → Nw → Prop) → Prop} (cal : Callee false c.V.w f n Body) (hdp : c.V.dp < 990) {Ps : List AV} (hn : Ps.length = n) (is ks : List Nat) (k : Nat) {nw₀ nwr : Nw} (hp : is.map (nth nw) = nw₀.map some) {K : AV → Nw → Prop}
    (h : ∀ V : Vx, V.w = c.V.w → V.dp = c.V.dp + 1 → V.un = c.V.un + 3 → (∀ a P, Ro c nw is a P → ∃ o, V.h₀.get? a = some o ∧ P o) → Body V Ps nw₀ (BX K nwr))
    (hnd : autoParam ((is ++ ks).Nodup) Mine.aD) (hk : autoParam (∀ i ∈ is ++ ks, i < k) Mine.aD) (he : autoParam (ks.filterMap (nth nw) ++ nw.drop k = nwr) Mine.aR) : CN c lo nw (.ref f) Ps K := CN.callX ok cal hdp hn is ks k hp h hnd hk he
noncomputable def MakeOf (C : Addr) (Body : Vx → List AV → Nw → (AV → Nw → Prop) → Prop) (V : Vx) (Ps : List AV) (nw₀ : Nw) (KR : AV → Nw → Prop) : Prop :=
  V.dp < 980 ∧ ∀ x dx, V.h₀.get? x = some (instObj C dx) → Body { V with dp := V.dp + 1, un := V.un + 1, Er := fun _ => False } (Is (.ref x) :: Ps) ((dx, FldP [] []) :: nw₀) (MR C x dx KR)
theorem make_M {b : Bool} {prog : Program} {w : World} {A : Around} {C : Addr} {R : Result → Shared → Prop} {h : Heap} {g : Array GenState} {d : Drawn} {t : Nat} {os : OsState} {rest : List Value} {init : Value} (Y : Makes (model prog w) h C) (hi : Looks (model prog w) h (typeLookup (.ref C) (Str.ofString "__init__")) (some init))
    (hb : ∀ self, Looks (model prog w) h (bindSpecial init self) (init, [self])) (hne : (some init != some (Value.builtin "object.__init__")) = true)
    (hq : codeM b (model prog w) (A.under (.builtin "type.__call__" ⟨.ref C :: rest, []⟩)) (.call init ⟨.ref (h.objs.size + 1) :: rest, []⟩) (InitBack (h.objs.size + 1) R) ⟨(h.push emptyDict).push (instObj C h.objs.size), g, d, t, os⟩) :
    codeM b (model prog w) A (.call (.ref C) ⟨rest, []⟩) R ⟨h, g, d, t, os⟩ := by
  cases b
  · exact make_core Y hi hb (.inl hne) hq
  · exact make_coreC Y hi hb (.inl hne) hq
theorem mkM {b : Bool} {w : World} {fI C : Addr} {n : Nat} {Body : Vx → List AV → Nw → (AV → Nw → Prop) → Prop} (mk : makesIn (HA.hd.heap_1_39 w.params) C = true) (hin : findIn (HA.hd.heap_1_39 w.params) (.ref C) (Str.ofString "__init__") = some (some (.ref fI))) (ty : typeIn (HA.hd.heap_1_39 w.params) (.ref fI) = some (.type "function"))
    (cal : Callee b w fI (n + 1) Body) : Callee b w C n (MakeOf C Body) := by
  intro dp un outer G s p loose mean mg mb B KX TT hdp vs Ps hP hn nw₀ ob D ho nd Er KR h
  have KS := KX.keeps B.stays
  have hdp2 : dp + 1 < 980 := (h ⟨w, dp + 1, un + 3, outer, G, 0, 0, .none, [], s.heap, s, Er, fun _ _ => True, fun _ => True⟩ rfl rfl rfl (fun b o e _ => e) rfl).1
  obtain ⟨hh, g, dr, t, os⟩ := s
  have k : ∀ b o, hh.get? b = some o → ((hh.push emptyDict).push (instObj C hh.objs.size)).get? b = some o := fun b o e => Heap.get?_push_of_some _ (Heap.get?_push_of_some _ e)
  have hx : ((hh.push emptyDict).push (instObj C hh.objs.size)).get? (hh.objs.size + 1) = some (instObj C hh.objs.size) := by heap_get
  have hdd : ((hh.push emptyDict).push (instObj C hh.objs.size)).get? hh.objs.size = some emptyDict := by heap_get
  have no1 : ∀ a, hh.objs.size ≤ a → hh.get? a = none := fun a ha => by
    cases q : hh.get? a with
    | none => rfl
    | some o => exact absurd (Heap.lt_size q) (Nat.not_lt.mpr ha)
  have noG : ∀ a, hh.objs.size ≤ a → G.get? a = none := fun a ha => by
    cases q : G.get? a with
    | none => rfl
    | some o => have := B.stays _ _ q; dsimp only at this; rw [no1 a ha] at this; cases this
  have noF : ∀ a, hh.objs.size ≤ a → a ∉ frs outer := fun a ha q => by
    obtain ⟨_, o, ho, _⟩ := B.frames.mem q
    dsimp only at ho
    rw [no1 a ha] at ho; cases ho
  have noN : ∀ a, hh.objs.size ≤ a → a ∉ adr nw₀ := fun a ha q => by
    obtain ⟨e, he, rfl⟩ := List.mem_map.mp q
    have := (D _ (List.mem_map.mpr ⟨e, he, rfl⟩)).1
    dsimp only at this
    rw [no1 _ ha] at this; cases this
  have hxd : hh.objs.size + 1 ∉ hh.objs.size :: adr nw₀ := fun q => by
    rcases List.mem_cons.mp q with q | q
    · exact absurd q (Nat.succ_ne_self _)
    · exact noN _ (Nat.le_succ _) q
  have B2 : Below (Ar (dp + 1) (un + 1) (some []) outer) G outer ((hh.push emptyDict).push (instObj C hh.objs.size)) := ⟨rfl, fun b o e => k b o (B.stays b o e), B.frames.of_keeps fun b o e _ => ⟨o, k b o e, rfl⟩⟩
  have hob : ∀ e ∈ nw₀, (if e.1 = hh.objs.size then emptyDict else ob e.1) = ob e.1 := fun e he => if_neg fun (q : e.1 = hh.objs.size) => noN _ (Nat.le_refl _) (q ▸ List.mem_map_of_mem (f := (·.1)) he)
  refine make_M (makes_of KS mk) (looks_findIn KS hin) (fun self => bind_fn KS self ty) rfl ?_
  show codeM b _ (Ar (dp + 1) (un + 1) (some []) outer) _ _ _
  refine codeM_mono (cal (s := ⟨(hh.push emptyDict).push (instObj C hh.objs.size), g, dr, t, os⟩) B2 KX TT (by lia) (vs := .ref (hh.objs.size + 1) :: vs) (Ps := Is (.ref (hh.objs.size + 1)) :: Ps) (.cons rfl hP) (congrArg Nat.succ hn) (nw₀ := (hh.objs.size, FldP [] []) :: nw₀)
    (ob := fun a => if a = hh.objs.size then emptyDict else ob a) (fun q hq => ?_) (fun e he => ?_) (List.nodup_cons.mpr ⟨noN _ (Nat.le_refl _), nd⟩) (Er := fun _ => False)
    (KR := fun P nw' => (∀ v, P v → v = .none) ∧ KR (Is (.ref (hh.objs.size + 1))) ((hh.objs.size + 1, InstP C hh.objs.size) :: nw')) fun V e1 e2 e3 e4 e5 => ?_) fun r s' z => ?_
  · obtain ⟨e, he, rfl⟩ := List.mem_map.mp hq
    rcases List.mem_cons.mp he with rfl | he
    · dsimp only
      rw [if_pos rfl]
      exact ⟨hdd, noG _ (Nat.le_refl _), noF _ (Nat.le_refl _)⟩
    · dsimp only
      rw [hob e he]
      have := D _ (List.mem_map.mpr ⟨e, he, rfl⟩)
      exact ⟨k _ _ this.1, this.2⟩
  · rcases List.mem_cons.mp he with rfl | he
    · dsimp only
      rw [if_pos rfl]; exact ⟨[], 0, rfl, .nil⟩
    · rw [hob e he]; exact ho e he
  · have := (h { V with dp := dp + 1, un := un + 3, Er := Er } e1 rfl rfl (fun b o e hb => e4 b o (k b o e) fun q => ?_) rfl).2 (hh.objs.size + 1) hh.objs.size (e4 _ _ hx hxd)
    · obtain ⟨a1, a2, a3, a4, a5, a6, a7, a8, a9, a10, a11, a12, a13, a14⟩ := V
      dsimp only at e1 e2 e3 e4 e5 this
      subst e1 e2 e3 e5
      exact this
    · rcases List.mem_cons.mp q with rfl | q
      · dsimp only at e
        rw [no1 _ (Nat.le_refl _)] at e; cases e
      · exact hb q
  · obtain ⟨h', tk, rfl, z⟩ := z
    rcases r with e | (v | _ | _ | v)
    · cases e <;> first | exact z.elim | (obtain ⟨_, _, _, hF, _⟩ := z; exact hF.elim)
    · exact z.elim
    · exact z.elim
    · exact z.elim
    · obtain ⟨kp, P, nw', ⟨hv, hK⟩, hPv, hL, hnd⟩ := z
      have hxn : hh.objs.size + 1 ∉ adr nw' := fun q => by
        obtain ⟨e, he, q⟩ := List.mem_map.mp q
        rcases (hL e he).2 with z | z
        · rw [q] at z; exact hxd z
        · dsimp only at z; rw [q, hx] at z; cases z
      refine ⟨hv _ hPv, h', tk, rfl, fun b o e hb => kp b o (k b o e) fun q => ?_, Is (.ref (hh.objs.size + 1)), _, hK, rfl, fun e he => ?_, List.nodup_cons.mpr ⟨hxn, hnd⟩⟩
      · rcases List.mem_cons.mp q with rfl | q
        · dsimp only at e
          rw [no1 _ (Nat.le_refl _)] at e; cases e
        · exact hb q
      · rcases List.mem_cons.mp he with rfl | he
        · exact ⟨⟨_, kp _ _ hx hxd, rfl⟩, .inr (no1 _ (Nat.le_succ _))⟩
        · refine ⟨(hL e he).1, ?_⟩
          rcases (hL e he).2 with z | z
          · rcases List.mem_cons.mp z with z | z
            · exact .inr (z ▸ no1 _ (Nat.le_refl _))
            · exact .inl z
          · refine .inr ?_
            show hh.get? e.1 = none
            cases q : hh.get? e.1 with
            | none => rfl
            | some o => have := k _ _ q; dsimp only at z; rw [z] at this; cases this
end Mine
end
section
open PySem PySem.W PySem.Calls PyProof.Rows
set_option maxRecDepth 100000
namespace Mine
noncomputable def chkGo (counts : List Int) : Nat → Nat → Int → Bool
  | 0, _, free => free == 0
  | n + 1, len, free => decide (0 ≤ free * 2 - counts.getD len 0) && chkGo counts n (len + 1) (free * 2 - counts.getD len 0)
noncomputable def begGo (counts : List Int) : Nat → Nat → List Int → List Int
  | 0, _, bg => bg
  | n + 1, len, bg => begGo counts n (len + 1) (bg.set (len + 1) (bg.getD len 0 + counts.getD len 0))
noncomputable def sgGo : List Int → Int → List Int → List Int → Option (List Int)
  | [], _, _, fd => some fd
  | l :: r, sign, bg, fd =>
    if 0 < l then
      if l < 17 && decide (0 ≤ bg.getD l.toNat 0) && decide (bg.getD l.toNat 0 < fd.length) then sgGo r (sign + 1) (bg.set l.toNat (bg.getD l.toNat 0 + 1)) (fd.set (bg.getD l.toNat 0).toNat sign) else none
    else if l = 0 then sgGo r (sign + 1) bg fd else none
theorem flat_len (n : Nat) : (List.replicate n [(0 : Int)]).flatten.length = n := by simp
noncomputable def cntGo : List Int → List Int → Option (List Int)
  | [], c => some c
  | l :: r, c => if decide (0 ≤ l) && decide (l ≤ 15) then cntGo r (c.set l.toNat (c.getD l.toNat 0 + 1)) else none
noncomputable def lensL : List Int := (List.replicate (Int.toNat 144) [(8 : Int)]).flatten ++ (List.replicate (Int.toNat 112) [9]).flatten ++ (List.replicate (Int.toNat 24) [7]).flatten ++ (List.replicate (Int.toNat 8) [8]).flatten
noncomputable def lensD : List Int := (List.replicate (Int.toNat 32) [(5 : Int)]).flatten
noncomputable def countsL : List Int := [0, 0, 0, 0, 0, 0, 0, 24, 152, 112, 0, 0, 0, 0, 0, 0]
noncomputable def countsD : List Int := [0, 0, 0, 0, 0, 32, 0, 0, 0, 0, 0, 0, 0, 0, 0, 0]
noncomputable def begsL : List Int := [0, 0, 0, 0, 0, 0, 0, 0, 24, 176, 288, 288, 288, 288, 288, 288, 288]
noncomputable def begsD : List Int := [0, 0, 0, 0, 0, 0, 32, 32, 32, 32, 32, 32, 32, 32, 32, 32, 32]
noncomputable def signsL : List Int := rangeKs 256 24 ++ rangeKs 0 144 ++ rangeKs 280 8 ++ rangeKs 144 112
noncomputable def signsD : List Int := rangeKs 0 32
theorem cntL_eq : cntGo lensL (List.replicate 16 0) = some countsL := by decide +kernel
theorem cntD_eq : cntGo lensD (List.replicate 16 0) = some countsD := by decide +kernel
theorem begL_eq : begGo countsL 15 1 (List.replicate 17 0) = begsL := by decide +kernel
theorem begD_eq : begGo countsD 15 1 (List.replicate 17 0) = begsD := by decide +kernel
theorem sgL_eq : sgGo lensL 0 begsL (List.replicate 288 0) = some signsL := by decide +kernel
theorem sgD_eq : sgGo lensD 0 begsD (List.replicate 32 0) = some signsD := by decide +kernel
theorem chkL : chkGo countsL 15 1 1 = true := by decide +kernel
theorem chkD : chkGo countsD 15 1 1 = true := by decide +kernel
theorem lensL_len : lensL.length = 288 := by decide +kernel
theorem lensD_len : lensD.length = 32 := by decide +kernel
theorem signsL_len : signsL.length = 288 := by decide +kernel
theorem signsD_len : signsD.length = 32 := by decide +kernel
theorem ahdL : ∀ i, i < 15 → ahd countsL (i + 1) ≤ 288 := by decide +kernel
theorem ahdD : ∀ i, i < 15 → ahd countsD (i + 1) ≤ 32 := by decide +kernel
theorem all_getD {l : List Int} (h : ∀ x ∈ l, 0 ≤ x) (i : Nat) : 0 ≤ l.getD i 0 := by
  by_cases hi : i < l.length
  · rw [List.getD, List.getElem?_eq_getElem hi]; exact h _ (List.getElem_mem hi)
  · rw [List.getD, List.getElem?_eq_none (by omega)]; decide
theorem c0L : ∀ x ∈ countsL, 0 ≤ x := by decide +kernel
theorem c0D : ∀ x ∈ countsD, 0 ≤ x := by decide +kernel
end Mine
end
section
open PySem PySem.W PySem.Calls PyProof.Rows
set_option maxRecDepth 100000
namespace Mine
noncomputable def leastL : List Int := [3, 4, 5, 6, 7, 8, 9, 10, 11, 13, 15, 17, 19, 23, 27, 31, 35, 43, 51, 59, 67, 83, 99, 115, 131, 163, 195, 227, 259]
noncomputable def leastA (j : Nat) : Int := leastL.getD j 0
noncomputable def moreA (j : Nat) : Int := if 0 + (j : Int) < 8 then 0 else (0 + (j : Int)).fdiv 4 - 1
theorem leastA_step : ∀ j, j < 28 → leastA (j + 1) = leastA j + 1 * 2 ^ (moreA j).toNat := by decide +kernel
noncomputable def lenT (j : Nat) : Int := if j < 28 then leastA j else 258
noncomputable def lenM (j : Nat) : Int := if j < 28 then moreA j else 0
noncomputable def leastDL : List Int := [1, 2, 3, 4, 5, 7, 9, 13, 17, 25, 33, 49, 65, 97, 129, 193, 257, 385, 513, 769, 1025, 1537, 2049, 3073, 4097, 6145, 8193, 12289, 16385, 24577, 32769]
noncomputable def leastD (j : Nat) : Int := leastDL.getD j 0
noncomputable def moreD (j : Nat) : Int := if 0 + (j : Int) < 4 then 0 else (0 + (j : Int)).fdiv 2 - 1
theorem leastD_step : ∀ j, j < 30 → leastD (j + 1) = leastD j + 1 * 2 ^ (moreD j).toNat := by decide +kernel
theorem bInts_push (a : Array UInt8) (b : UInt8) : KBw.bInts (a.push b) = KBw.bInts a ++ [(b.toNat : Int)] := by simp [KBw.bInts]
theorem bInts_get {a : Array UInt8} {i : Nat} (h : i < a.size) : (KBw.bInts a)[i]? = some ((a[i].toNat : Nat) : Int) := by simp [KBw.bInts, h]
noncomputable def copyRes (ks : List Int) (st : RS) (win : Int) (n : Nat) : Option (Int × RS) :=
  match nextSign countsD signsD ks st with
  | none => none
  | some (x, st1) =>
    match rdBits ks st1 (moreD x.toNat) with
    | none => none
    | some (v, st2) => if (n : Int) < leastD x.toNat + v ∨ win < leastD x.toNat + v then none else some (leastD x.toNat + v, st2)
theorem rd_zero {ks : List Int} {st : RS} (h : RI ks st) : rdBits ks st 0 = some (0, st) := by
  unfold rdBits
  rw [if_neg (by have := h.m0; lia)]
  have e : Builtin.bitAnd st.l (1 * 2 ^ (0 : Int).toNat - 1) = 0 := by
    rw [Int.one_mul, kbt_mask]; simp [Int.emod_one]
  rw [e]
  simp
noncomputable def manyOf (stored : Int) (n : Nat) : Option Int → Int
  | none => stored
  | some k => if k - n < stored then k - n else stored
noncomputable def hdl (ks : List Int) (a : Int) : List Int := (ks.drop a.toNat).take 4
noncomputable def sto (ks : List Int) (a : Int) : Int := (hdl ks a).getD 0 0 + (hdl ks a).getD 1 0 * 256
noncomputable def tur (ks : List Int) (a : Int) : Int := (hdl ks a).getD 2 0 + (hdl ks a).getD 3 0 * 256
noncomputable def beginRes (ks : List Int) (st : RS) : Option (Bool × Option Int × RS) :=
  match rdBits ks st 1 with
  | none => none
  | some (b, st1) =>
    match rdBits ks st1 2 with
    | none => none
    | some (k, st2) =>
      if k = 0 then (if st2.a + 4 ≤ ks.length ∧ sto ks st2.a + tur ks st2.a = 65535 then some ((b == 1), some (sto ks st2.a), ⟨st2.a + 4, 0, 0⟩) else none)
      else if k = 1 then some ((b == 1), none, st2) else none
structure IS where
  rs : RS
  out : List Int
  last : Bool
  done : Bool
  inB : Bool
  stored : Int
  fx : Bool
noncomputable def stepI (ks : List Int) (win : Int) (most : Option Int) (S : IS) : Option IS :=
  if S.inB then
    match nextSign countsL signsL ks S.rs with
    | none => none
    | some (x, st1) =>
      if x < 256 then some { S with rs := st1, out := S.out ++ [x] }
      else if x = 256 then some { S with rs := st1, inB := false }
      else match copyRes ks st1 win S.out.length with
        | none => none
        | some (back, st2) => some { S with rs := st2, out := copyN back (3 + (x - 256 - 1)).toNat S.out }
  else if 0 < S.stored then
    if ks.length < S.rs.a + manyOf S.stored S.out.length most then none
    else some { S with rs := ⟨S.rs.a + manyOf S.stored S.out.length most, 0, 0⟩, out := S.out ++ (ks.drop S.rs.a.toNat).take (manyOf S.stored S.out.length most).toNat, stored := S.stored - manyOf S.stored S.out.length most }
  else if S.last then some { S with done := true }
  else match beginRes ks S.rs with
    | none => none
    | some (lst, some stv, st') => some { S with rs := st', last := lst, stored := stv }
    | some (lst, none, st') => some { S with rs := st', last := lst, inB := true, fx := true }
noncomputable def goesOn (most : Option Int) (S : IS) : Bool := !S.done && (match most with | none => true | some k => decide ((S.out.length : Int) < k))
structure Good (ks : List Int) (S : IS) : Prop where
  ri : RI ks S.rs
  len : S.out.length ≤ 2000
  st0 : 0 ≤ S.stored
  st5 : S.stored ≤ 5
  fxb : S.inB = true → S.fx = true
  sx : S.inB = true → ∀ x st', nextSign countsL signsL ks S.rs = some (x, st') → 0 ≤ x ∧ x ≤ 264
  ds : S.inB = true → ∀ x st1, nextSign countsL signsL ks S.rs = some (x, st1) → 256 < x → ∀ y st', nextSign countsD signsD ks st1 = some (y, st') → 0 ≤ y ∧ y ≤ 5
  k2 : S.inB = false → S.stored ≤ 0 → S.last = false → ∀ b st1 k st2, rdBits ks S.rs 1 = some (b, st1) → rdBits ks st1 2 = some (k, st2) → k ≠ 2
inductive Work (ks : List Int) (win : Int) (most : Option Int) : IS → Except IS IS → Prop
  | stop {S} : goesOn most S = false → S.out.length ≤ 2000 → Work ks win most S (.ok S)
  | go {S r} : goesOn most S = true → Good ks S → (stepI ks win most S = none → r = .error S) → (∀ S1, stepI ks win most S = some S1 → Work ks win most S1 r) → Work ks win most S r
theorem RI.at' {ks : List Int} {a : Int} (h0 : 0 ≤ a) (h1 : a ≤ ks.length) : RI ks ⟨a, 0, 0⟩ := ⟨h0, h1, Int.le_refl _, (by decide : (0 : Int) < 8), Int.le_refl _, (by decide : (0 : Int) < 2 ^ (0 : Int).toNat)⟩
end Mine
end
section
open PySem PySem.W PySem.Calls PyProof.Rows
namespace Mine
noncomputable def decGo (counts signs : List Int) : Nat → Nat → Int → Int → Int → List Int → Option (Int × List Int)
  | 0, _, _, _, _, _ => none
  | _ + 1, _, _, _, _, [] => none
  | n + 1, len, code, first, ahead, b :: r =>
    if code * 2 + b < first + counts.getD len 0 then some (signs.getD (ahead + (code * 2 + b) - first).toNat 0, r)
    else decGo counts signs n (len + 1) (code * 2 + b) ((first + counts.getD len 0) * 2) (ahead + counts.getD len 0) r
theorem decGo_cons {counts signs : List Int} {n len : Nat} {code first ahead b : Int} {r : List Int} : decGo counts signs (n + 1) len code first ahead (b :: r) = if code * 2 + b < first + counts.getD len 0 then some (signs.getD (ahead + (code * 2 + b) - first).toNat 0, r) else decGo counts signs n (len + 1) (code * 2 + b) ((first + counts.getD len 0) * 2) (ahead + counts.getD len 0) r := rfl
theorem decGo_append {counts signs : List Int} {ys : List Int} : ∀ {n len : Nat} {code first ahead : Int} {xs : List Int} {x : Int} {r : List Int},
    decGo counts signs n len code first ahead xs = some (x, r) → decGo counts signs n len code first ahead (xs ++ ys) = some (x, r ++ ys)
  | 0, _, _, _, _, _, _, _, h => by cases h
  | _ + 1, _, _, _, _, [], _, _, h => by cases h
  | n + 1, len, code, first, ahead, b :: xs, x, r, h => by
    rw [List.cons_append, decGo_cons]
    rw [decGo_cons] at h
    split
    · rename_i hc
      rw [if_pos hc] at h
      cases h; rfl
    · rename_i hc
      rw [if_neg hc] at h
      exact decGo_append h
theorem decGo_short {counts signs : List Int} {n len : Nat} {code first ahead : Int} {p q : List Int} {x : Int} (h : decGo counts signs n len code first ahead (p ++ q) = some (x, [])) (hq : q ≠ []) : decGo counts signs n len code first ahead p = none := by
  cases e : decGo counts signs n len code first ahead p with
  | none => rfl
  | some y =>
    obtain ⟨y, r⟩ := y
    rw [decGo_append e] at h
    simp only [Option.some.injEq, Prod.mk.injEq] at h
    exact absurd (List.append_eq_nil_iff.mp h.2).2 hq
theorem valLE_one (b : Int) : valLE [b] = b := by simp [valLE]
theorem nsGo_dec {counts signs ks : List Int} (hks : ∀ x ∈ ks, 0 ≤ x ∧ x < 256) : ∀ {n len : Nat} {code first ahead : Int} {st : RS}, RI ks st →
    (decGo counts signs n len code first ahead (rem ks st) = none → nsGo counts signs ks n len code first ahead st = none) ∧
    (∀ x r, decGo counts signs n len code first ahead (rem ks st) = some (x, r) → ∃ st', nsGo counts signs ks n len code first ahead st = some (x, st') ∧ RI ks st' ∧ rem ks st' = r)
  | 0, _, _, _, _, _, _ => ⟨fun _ => rfl, fun _ _ h => by cases h⟩
  | n + 1, len, code, first, ahead, st, hR => by
    rw [nsGo]
    cases hrd : rdBits ks st 1 with
    | none =>
      have h1 := (rd_none hR (by decide) (by decide) hks).mp hrd
      have : rem ks st = [] := by cases e : rem ks st with | nil => rfl | cons a l => rw [e] at h1; simp at h1
      rw [this]
      exact ⟨fun _ => rfl, fun _ _ h => by cases h⟩
    | some y =>
      obtain ⟨b, st1⟩ := y
      obtain ⟨hR1, hlen, hx, hrem⟩ := rd_some hR (by decide) (by decide) hks hrd
      cases e : rem ks st with
      | nil => rw [e] at hlen; simp at hlen
      | cons c l =>
        rw [e] at hx hrem
        have hb : b = c := by rw [hx]; exact valLE_one c
        have hr : rem ks st1 = l := hrem
        subst hb
        rw [decGo_cons]
        dsimp only
        split
        · exact ⟨fun h => by simp at h, fun x r h => by
            simp only [Option.some.injEq, Prod.mk.injEq] at h
            obtain ⟨rfl, rfl⟩ := h
            exact ⟨st1, rfl, hR1, hr⟩⟩
        · rw [← hr]
          exact nsGo_dec hks hR1
noncomputable def decS (counts signs : List Int) (xs : List Int) : Option (Int × List Int) := decGo counts signs 15 1 0 0 0 xs
theorem next_at {counts signs ks : List Int} (hks : ∀ x ∈ ks, 0 ≤ x ∧ x < 256) {st : RS} (hR : RI ks st) {cb X rest : List Int} {x : Int} (hc : decS counts signs cb = some (x, [])) (e : rem ks st ++ X = cb ++ rest) :
    (nextSign counts signs ks st = none ∧ (rem ks st).length < cb.length) ∨ ∃ st', nextSign counts signs ks st = some (x, st') ∧ RI ks st' ∧ rem ks st' ++ X = rest := by
  rcases List.append_eq_append_iff.mp e with ⟨as, h1, h2⟩ | ⟨bs, h1, h2⟩
  · -- cb = rem ++ as
    by_cases ha : as = []
    · subst ha
      rw [List.append_nil] at h1
      have : decGo counts signs 15 1 0 0 0 (rem ks st) = some (x, []) := h1 ▸ hc
      obtain ⟨st', h3, h4, h5⟩ := (nsGo_dec hks hR).2 _ _ this
      exact .inr ⟨st', h3, h4, by rw [h5, List.nil_append, h2, List.nil_append]⟩
    · refine .inl ⟨(nsGo_dec hks hR).1 (decGo_short (q := as) (x := x) (h1 ▸ hc) ha), ?_⟩
      rw [h1, List.length_append]
      have := List.length_pos_iff.mpr ha
      lia
  · have h3 : decGo counts signs 15 1 0 0 0 (rem ks st) = some (x, bs) := by rw [h1]; exact decGo_append hc
    obtain ⟨st', h4, h5, h6⟩ := (nsGo_dec hks hR).2 _ _ h3
    exact .inr ⟨st', h4, h5, by rw [h6, h2]⟩
theorem dec_lit : ∀ o : Nat, o < 256 → decS countsL signsL (signI o) = some ((o : Int), []) := by decide +kernel
theorem dec_end : decS countsL signsL (putI 0 7 true) = some (256, []) := by decide +kernel
theorem dec_len : ∀ k : Nat, k < 8 → decS countsL signsL (putI ((k : Int) + 1) 7 true) = some ((k : Int) + 257, []) := by decide +kernel
theorem dec_dist : ∀ k : Nat, k < 6 → decS countsD signsD (putI (k : Int) 5 true) = some ((k : Int), []) := by decide +kernel
theorem bits_at {ks : List Int} (hks : ∀ x ∈ ks, 0 ≤ x ∧ x < 256) {st : RS} (hR : RI ks st) {cb X rest : List Int} {k : Int} (hk : 0 ≤ k) (hk8 : k ≤ 8) (hc : cb.length = k.toNat) (e : rem ks st ++ X = cb ++ rest) :
    (rdBits ks st k = none ∧ (rem ks st).length < cb.length) ∨ ∃ st', rdBits ks st k = some (valLE cb, st') ∧ RI ks st' ∧ rem ks st' ++ X = rest := by
  cases hrd : rdBits ks st k with
  | none => exact .inl ⟨rfl, by rw [hc]; exact (rd_none hR hk hk8 hks).mp hrd⟩
  | some y =>
    obtain ⟨v, st'⟩ := y
    obtain ⟨h1, h2, h3, h4⟩ := rd_some hR hk hk8 hks hrd
    have e1 : (rem ks st).take k.toNat = cb := by
      have := congrArg (List.take k.toNat) e
      rwa [List.take_append_of_le_length h2, List.take_append_of_le_length (by lia), List.take_of_length_le (Nat.le_of_eq hc)] at this
    have e2 : (rem ks st).drop k.toNat ++ X = rest := by
      have := congrArg (List.drop k.toNat) e
      rwa [List.drop_append_of_le_length h2, List.drop_append_of_le_length (by lia), List.drop_eq_nil_of_le (Nat.le_of_eq hc), List.nil_append] at this
    exact .inr ⟨st', by rw [h3, e1], h1, by rw [h4, e2]⟩
theorem putI_toBits : ∀ (n : Nat) (x : Int), putI x n false = toBits n x := by
  intro n
  induction n with
  | zero => intro x; rfl
  | succ n ih =>
    intro x
    have h : ∀ (m : Nat) (y : Int), putI y m false = (List.range m).map fun (k : Nat) => y / 2 ^ k % 2 := fun m y => by
      unfold putI
      rw [Int.toNat_natCast]
      have : rangeKs 0 m = (List.range m).map fun (k : Nat) => (k : Int) := by simp [rangeKs]
      rw [this, List.map_map]
      refine List.map_congr_left fun k _ => ?_
      show (y.fdiv (2 ^ ((k : Int)).toNat)).fmod 2 = _
      rw [Int.toNat_natCast, Int.fmod_eq_emod_of_nonneg _ (by decide), Int.fdiv_eq_ediv_of_nonneg _ (Int.le_of_lt (Int.pow_pos (by decide)))]
    rw [h, toBits, ← ih, h, List.range_succ_eq_map, List.map_cons, List.map_map]
    refine List.cons_eq_cons.mpr ⟨by simp, List.map_congr_left fun k _ => ?_⟩
    show x / 2 ^ (k + 1) % 2 = x / 2 / 2 ^ k % 2
    rw [Int.ediv_ediv_of_nonneg (by decide), Int.pow_succ, Int.mul_comm]
end Mine
end
section
open PySem PySem.W PySem.Calls PyProof.Rows
namespace Mine
inductive Blk where
  | plain (sm : List Int)
  | fixed (l : List Item)
noncomputable def Blk.enc (pos : Nat) (last : Bool) : Blk → List Int
  | .plain sm => putI (lastI last) 1 false ++ (putI 0 2 false ++ (padI (pos + 3) ++ (putI sm.length 16 false ++ (putI (65535 - sm.length) 16 false ++ sm.flatMap fun x => putI x 8 false))))
  | .fixed l => putI (lastI last) 1 false ++ (putI 1 2 false ++ (l.flatMap Item.enc ++ putI 0 7 true))
noncomputable def Blk.app (c : List Int) : Blk → List Int
  | .plain sm => c ++ sm
  | .fixed l => l.foldl Item.app c
noncomputable def itemsOk : List Int → List Item → Prop
  | _, [] => True
  | c, it :: r => it.ok c ∧ itemsOk (it.app c) r
noncomputable def Blk.ok (c : List Int) : Blk → Prop
  | .plain sm => sm.length ≤ 5 ∧ ∀ x ∈ sm, 65 ≤ x ∧ x < 91
  | .fixed l => itemsOk c l
noncomputable def blksOk : List Int → List Blk → Prop
  | _, [] => True
  | c, b :: r => b.ok c ∧ blksOk (b.app c) r
noncomputable def stream : Nat → List Blk → List Int
  | _, [] => []
  | pos, b :: r => b.enc pos r.isEmpty ++ stream (pos + (b.enc pos r.isEmpty).length) r
noncomputable def Blk.its : Blk → List Item
  | .plain _ => []
  | .fixed l => l
noncomputable def Blk.size : Blk → Nat
  | .plain sm => sm.length + 1
  | .fixed l => l.length + 2
noncomputable def sizes (bs : List Blk) : Nat := (bs.map Blk.size).foldr (· + ·) 1
inductive Mode where
  | blk (bs : List Blk)
  | items (l : List Item) (bs : List Blk)
  | sto (sm : List Int) (bs : List Blk)
noncomputable def Mode.bits (pos : Nat) : Mode → List Int
  | .blk bs => stream pos bs
  | .items l bs => l.flatMap Item.enc ++ (putI 0 7 true ++ stream (pos + (l.flatMap Item.enc).length + 7) bs)
  | .sto sm bs => (sm.flatMap fun x => putI x 8 false) ++ stream (pos + 8 * sm.length) bs
noncomputable def Mode.out (c : List Int) : Mode → List Int
  | .blk bs => bs.foldl Blk.app c
  | .items l bs => bs.foldl Blk.app (l.foldl Item.app c)
  | .sto sm bs => bs.foldl Blk.app (c ++ sm)
noncomputable def Mode.ok (c : List Int) : Mode → Prop
  | .blk bs => blksOk c bs
  | .items l bs => itemsOk c l ∧ blksOk (l.foldl Item.app c) bs
  | .sto sm bs => (sm.length ≤ 5 ∧ ∀ x ∈ sm, 65 ≤ x ∧ x < 91) ∧ blksOk (c ++ sm) bs
noncomputable def Mode.its : Mode → List Item
  | .blk bs => bs.flatMap Blk.its
  | .items l bs => l ++ bs.flatMap Blk.its
  | .sto _ bs => bs.flatMap Blk.its
noncomputable def Mode.size : Mode → Nat
  | .blk bs => sizes bs
  | .items l bs => l.length + 1 + sizes bs
  | .sto sm bs => sm.length + sizes bs
noncomputable def Item.farB (win : Int) : Item → Prop
  | .lit _ => False
  | .cp _ b => win < b
noncomputable def Mode.flags (S : IS) : Mode → Prop
  | .blk bs => S.inB = false ∧ S.stored = 0 ∧ S.last = bs.isEmpty
  | .items _ bs => S.inB = true ∧ S.fx = true ∧ S.stored = 0 ∧ S.last = bs.isEmpty
  | .sto sm bs => S.inB = false ∧ S.stored = sm.length ∧ sm ≠ [] ∧ S.rs.m = 0 ∧ S.last = bs.isEmpty
structure Valid (ks X tl fin : List Int) (S : IS) (m : Mode) (pos : Nat) : Prop where
  ri : RI ks S.rs
  bits : rem ks S.rs ++ X = m.bits pos ++ tl
  len8 : (pos + (rem ks S.rs ++ X).length) % 8 = 0
  out : m.out S.out = fin
  ok : m.ok S.out
  fl : m.flags S
  done : S.done = false
  x8 : X.length = 0 ∨ X.length = 8
theorem app_grow {c : List Int} {it : Item} (h : it.ok c) : ∃ e, it.app c = c ++ e ∧ (∀ k, it = .cp k k → True) ∧ e ≠ [] := by
  cases it with
  | lit o => exact ⟨[o], rfl, fun _ _ => trivial, by simp⟩
  | cp s b =>
    have key : ∀ n, ∃ e, copyN b n c = c ++ e ∧ e.length = n := fun n => by
      induction n with
      | zero => exact ⟨[], by simp [copyN], rfl⟩
      | succ n ih =>
        obtain ⟨e, h1, h2⟩ := ih
        exact ⟨e ++ [(copyN b n c).getD (-b + ((copyN b n c).length : Nat)).toNat 0], by rw [copyN, copyStep, h1, List.append_assoc], by simp [h2]⟩
    obtain ⟨e, h1, h2⟩ := key s.toNat
    refine ⟨e, h1, fun _ _ => trivial, fun q => ?_⟩
    subst q
    have := h.1
    simp at h2
    lia
theorem items_grow : ∀ {l : List Item} {c : List Int}, itemsOk c l → ∃ e, l.foldl Item.app c = c ++ e
  | [], c, _ => ⟨[], by simp⟩
  | it :: r, c, h => by
    obtain ⟨e, h1, _⟩ := app_grow h.1
    obtain ⟨e2, h2⟩ := items_grow h.2
    exact ⟨e ++ e2, by rw [List.foldl_cons, h2, h1, List.append_assoc]⟩
theorem blk_grow {b : Blk} {c : List Int} (h : b.ok c) : ∃ e, b.app c = c ++ e := by
  cases b with
  | plain sm => exact ⟨sm, rfl⟩
  | fixed l => exact items_grow h
theorem blks_grow : ∀ {l : List Blk} {c : List Int}, blksOk c l → ∃ e, l.foldl Blk.app c = c ++ e
  | [], c, _ => ⟨[], by simp⟩
  | b :: r, c, h => by
    obtain ⟨e, h1⟩ := blk_grow h.1
    obtain ⟨e2, h2⟩ := blks_grow h.2
    exact ⟨e ++ e2, by rw [List.foldl_cons, h2, h1, List.append_assoc]⟩
theorem mode_grow {m : Mode} {c : List Int} (h : m.ok c) : ∃ e, m.out c = c ++ e := by
  cases m with
  | blk bs => exact blks_grow h
  | items l bs =>
    obtain ⟨e, h1⟩ := items_grow h.1
    obtain ⟨e2, h2⟩ := blks_grow h.2
    exact ⟨e ++ e2, by show bs.foldl Blk.app _ = _; rw [h2, h1, List.append_assoc]⟩
  | sto sm bs =>
    obtain ⟨e2, h2⟩ := blks_grow h.2
    exact ⟨sm ++ e2, by show bs.foldl Blk.app _ = _; rw [h2, List.append_assoc]⟩
theorem Valid.pre {ks X tl fin : List Int} {S : IS} {m : Mode} {pos : Nat} (V : Valid ks X tl fin S m pos) : ∃ e, fin = S.out ++ e := by
  obtain ⟨e, h⟩ := mode_grow V.ok
  exact ⟨e, V.out.symm.trans h⟩
theorem Valid.outLe {ks X tl fin : List Int} {S : IS} {m : Mode} {pos : Nat} (V : Valid ks X tl fin S m pos) : S.out.length ≤ fin.length := by
  obtain ⟨e, h⟩ := V.pre
  rw [h, List.length_append]; lia
theorem cut_of {R X a b : List Int} (e : R ++ X = a ++ b) (h : R.length < a.length) : X ≠ [] := fun q => by
  subst q
  have := congrArg List.length e
  simp at this
  lia
theorem copy_codes {s b : Int} (h1 : 1 ≤ b) (h2 : b ≤ 8) : ∃ (v : Nat) (eb : List Int), v < 6 ∧ copyI s b = putI (s - 2) 7 true ++ (putI (v : Int) 5 true ++ eb) ∧ eb.length = (moreD v).toNat ∧ 0 ≤ moreD v ∧ moreD v ≤ 8 ∧ leastD v + valLE eb = b := by
  have hb : b = 1 ∨ b = 2 ∨ b = 3 ∨ b = 4 ∨ b = 5 ∨ b = 6 ∨ b = 7 ∨ b = 8 := by lia
  have go : ∀ (b : Int) (v : Nat) (eb : List Int), v < 6 → (if b < 5 then b - 1 else 4 + (b - 5).fdiv 2) = (v : Int) → (if b > 4 then putI ((b - 5).fmod 2) 1 false else []) = eb → eb.length = (moreD v).toNat → 0 ≤ moreD v → moreD v ≤ 8 → leastD v + valLE eb = b →
      ∃ (v : Nat) (eb : List Int), v < 6 ∧ copyI s b = putI (s - 2) 7 true ++ (putI (v : Int) 5 true ++ eb) ∧ eb.length = (moreD v).toNat ∧ 0 ≤ moreD v ∧ moreD v ≤ 8 ∧ leastD v + valLE eb = b := fun b v eb a1 a2 a3 a4 a5 a6 a7 =>
    ⟨v, eb, a1, by unfold copyI; rw [a2, a3, List.append_assoc], a4, a5, a6, a7⟩
  rcases hb with rfl | rfl | rfl | rfl | rfl | rfl | rfl | rfl
  · exact go 1 0 [] (by decide) (by decide) (by decide) (by decide +kernel) (by decide +kernel) (by decide +kernel) (by decide +kernel)
  · exact go 2 1 [] (by decide) (by decide) (by decide) (by decide +kernel) (by decide +kernel) (by decide +kernel) (by decide +kernel)
  · exact go 3 2 [] (by decide) (by decide) (by decide) (by decide +kernel) (by decide +kernel) (by decide +kernel) (by decide +kernel)
  · exact go 4 3 [] (by decide) (by decide) (by decide) (by decide +kernel) (by decide +kernel) (by decide +kernel) (by decide +kernel)
  · exact go 5 4 [0] (by decide) (by decide) (by decide) (by decide +kernel) (by decide +kernel) (by decide +kernel) (by decide +kernel)
  · exact go 6 4 [1] (by decide) (by decide) (by decide) (by decide +kernel) (by decide +kernel) (by decide +kernel) (by decide +kernel)
  · exact go 7 5 [0] (by decide) (by decide) (by decide) (by decide +kernel) (by decide +kernel) (by decide +kernel) (by decide +kernel)
  · exact go 8 5 [1] (by decide) (by decide) (by decide) (by decide +kernel) (by decide +kernel) (by decide +kernel) (by decide +kernel)
end Mine
end
section
open PySem PySem.W PySem.Calls PyProof.Rows
namespace Mine
noncomputable def noCp (l : List Item) : Prop := ∀ it ∈ l, ∃ o, it = .lit o
noncomputable def farL (win : Int) (l : List Item) : Prop := ∃ it ∈ l, it.farB win
noncomputable def StepR (ks X tl fin : List Int) (win : Int) (most : Option Int) (S : IS) (m : Mode) : Prop :=
  (stepI ks win most S = none ∧ (X ≠ [] ∨ farL win m.its) ∧ (X = [] → S.out.length < fin.length)) ∨
  ∃ S1 m1 pos1, stepI ks win most S = some S1 ∧ Valid ks X tl fin S1 m1 pos1 ∧ m1.size < m.size ∧ (farL win m.its → farL win m1.its) ∧ (∀ it ∈ m1.its, it ∈ m.its) ∧ (noCp m.its → noCp m1.its) ∧ S.out.length ≤ S1.out.length ∧
    (∀ k, most = some k → (S.out.length : Int) < k → (S1.out.length : Int) ≤ k + 9 ∧ (noCp m.its → (S1.out.length : Int) ≤ k))
theorem none_cut {ks X tl fin : List Int} {win : Int} {most : Option Int} {S : IS} {m : Mode} (h : stepI ks win most S = none) (hX : X ≠ []) : StepR ks X tl fin win most S m := .inl ⟨h, .inl hX, fun q => absurd q hX⟩
theorem flat8_length (A : List Int) : (A.flatMap (toBits 8)).length = 8 * A.length := by
  induction A with
  | nil => rfl
  | cons a r ih => rw [List.flatMap_cons, List.length_append, toBits_length, ih, List.length_cons]; lia
theorem flat8_pre : ∀ {B A X R : List Int}, (∀ x ∈ A, 0 ≤ x ∧ x < 256) → (∀ x ∈ B, 0 ≤ x ∧ x < 256) → A.flatMap (toBits 8) ++ X = B.flatMap (toBits 8) ++ R → B.length ≤ A.length →
    A.take B.length = B ∧ (A.drop B.length).flatMap (toBits 8) ++ X = R
  | [], A, X, R, _, _, e, _ => ⟨by simp, by simpa using e⟩
  | b :: B, [], X, R, _, _, _, h => by simp at h
  | b :: B, a :: A, X, R, hA, hB, e, h => by
    rw [List.flatMap_cons, List.flatMap_cons, List.append_assoc, List.append_assoc] at e
    obtain ⟨e1, e2⟩ := List.append_inj e (by rw [toBits_length, toBits_length])
    have ha := hA a (.head _)
    have hb := hB b (.head _)
    have : a = b := by
      have := congrArg valLE e1
      rw [valLE_toBits, valLE_toBits, show (2 : Int) ^ 8 = 256 from rfl] at this
      rwa [Int.emod_eq_of_lt ha.1 ha.2, Int.emod_eq_of_lt hb.1 hb.2] at this
    subst this
    obtain ⟨h1, h2⟩ := flat8_pre (fun x hx => hA x (.tail _ hx)) (fun x hx => hB x (.tail _ hx)) e2 (by simpa using h)
    exact ⟨by simp [h1], by simpa using h2⟩
theorem putI8 (x : Int) : putI x 8 false = toBits 8 x := putI_toBits 8 x
theorem flatP (sm : List Int) : (sm.flatMap fun x => putI x 8 false) = sm.flatMap (toBits 8) := by simp only [putI8]
theorem toBits16 (x : Int) : toBits 16 x = [x % 256, x / 256 % 256].flatMap (toBits 8) := by
  have h1 : toBits 8 x = toBits 8 (x % 256) := by
    have := toBits_add 8 0 (x % 256) (x / 256) (Int.emod_nonneg _ (by decide)) (Int.emod_lt_of_pos _ (by decide))
    rw [show (2 : Int) ^ 8 = 256 from rfl, show x % 256 + x / 256 * 256 = x by lia] at this
    simpa [toBits] using this
  have h2 : toBits 8 (x / 256) = toBits 8 (x / 256 % 256) := by
    have := toBits_add 8 0 (x / 256 % 256) (x / 256 / 256) (Int.emod_nonneg _ (by decide)) (Int.emod_lt_of_pos _ (by decide))
    rw [show (2 : Int) ^ 8 = 256 from rfl, show x / 256 % 256 + x / 256 / 256 * 256 = x / 256 by lia] at this
    simpa [toBits] using this
  have h3 := List.take_append_drop 8 (toBits 16 x)
  rw [toBits_take 8 16 x (by decide), toBits_drop 8 16 x (by decide)] at h3
  rw [← h3, List.flatMap_cons, List.flatMap_cons, List.flatMap_nil, List.append_nil, h1]
  show _ ++ toBits 8 (x / 256) = _
  rw [h2]
theorem putI16 (x : Int) : putI x 16 false = [x % 256, x / 256 % 256].flatMap (toBits 8) := (putI_toBits 16 x).trans (toBits16 x)
theorem val_last (last : Bool) : valLE (putI (lastI last) 1 false) = lastI last ∧ (lastI last == 1) = last := by cases last <;> decide +kernel
theorem rem_len {ks : List Int} {st : RS} : (rem ks st).length = st.m.toNat + 8 * (ks.drop st.a.toNat).length := by
  unfold rem; rw [List.length_append, toBits_length, flat8_length]
theorem rem_at (ks : List Int) (a : Int) : rem ks ⟨a, 0, 0⟩ = (ks.drop a.toNat).flatMap (toBits 8) := by simp [rem, toBits]
theorem not_far_nil {win : Int} : ¬ farL win [] := fun ⟨_, h, _⟩ => nomatch h
theorem size_blk {b : Blk} {r : List Blk} : sizes (b :: r) = b.size + sizes r := by simp [sizes]
section
variable {ks X tl fin : List Int} {win : Int} {most : Option Int} {S : IS} {pos : Nat}
theorem stepI_begin (h1 : S.inB = false) (h2 : S.stored = 0) (h3 : S.last = false) : stepI ks win most S = (match beginRes ks S.rs with
    | none => none
    | some (lst, some stv, st') => some { S with rs := st', last := lst, stored := stv }
    | some (lst, none, st') => some { S with rs := st', last := lst, inB := true, fx := true }) := by
  unfold stepI
  rw [h1, h2, h3]
  rfl
theorem step_fixed (hks : ∀ x ∈ ks, 0 ≤ x ∧ x < 256) {l : List Item} {r : List Blk} (V : Valid ks X tl fin S (.blk (.fixed l :: r)) pos) : StepR ks X tl fin win most S (.blk (.fixed l :: r)) := by
  obtain ⟨ri, bits, len8, out, ok, ⟨f1, f2, f3⟩, done, x8⟩ := V
  have hst := stepI_begin (ks := ks) (win := win) (most := most) f1 f2 f3
  have e : rem ks S.rs ++ X = putI (lastI r.isEmpty) 1 false ++ (putI 1 2 false ++ ((Mode.items l r).bits (pos + 3) ++ tl)) := by
    rw [bits]
    have hl : (Blk.enc pos r.isEmpty (.fixed l)).length = 3 + (l.flatMap Item.enc).length + 7 := by
      simp only [Blk.enc, List.length_append, putI_length, show Int.toNat 1 = 1 from rfl, show Int.toNat 2 = 2 from rfl, show Int.toNat 7 = 7 from rfl]; lia
    show (Blk.enc pos r.isEmpty (.fixed l) ++ stream (pos + (Blk.enc pos r.isEmpty (.fixed l)).length) r) ++ tl = _
    rw [hl]
    show _ = putI (lastI r.isEmpty) 1 false ++ (putI 1 2 false ++ ((l.flatMap Item.enc ++ (putI 0 7 true ++ stream (pos + 3 + (l.flatMap Item.enc).length + 7) r)) ++ tl))
    simp only [Blk.enc, List.append_assoc]
    rw [show pos + (3 + (List.flatMap Item.enc l).length + 7) = pos + 3 + (List.flatMap Item.enc l).length + 7 by lia]
  unfold beginRes at hst
  rcases bits_at (k := 1) hks ri (by decide) (by decide) (by rw [putI_length]) e with ⟨h1, h2⟩ | ⟨st1, h1, ri1, e1⟩
  · rw [h1] at hst
    exact none_cut hst (cut_of e h2)
  rw [h1] at hst
  dsimp only at hst
  rcases bits_at (k := 2) hks ri1 (by decide) (by decide) (by rw [putI_length]) e1 with ⟨h3, h4⟩ | ⟨st2, h3, ri2, e2⟩
  · rw [h3] at hst
    exact none_cut hst (cut_of e1 h4)
  rw [h3, show valLE (putI 1 2 false) = 1 by decide +kernel] at hst
  dsimp only at hst
  rw [if_neg (by decide), if_pos rfl, (val_last _).1, (val_last _).2] at hst
  refine .inr ⟨_, .items l r, pos + 3, hst, ⟨ri2, e2, ?_, out, ok, ⟨rfl, rfl, f2, rfl⟩, done, x8⟩, ?_, fun h => h, fun _ h => h, fun h => h, Nat.le_refl _, fun k hk hlt => ⟨by show (S.out.length : Int) ≤ _; lia, fun _ => by show (S.out.length : Int) ≤ _; lia⟩⟩
  · have l1 := congrArg List.length e
    have l2 := congrArg List.length e2
    rw [l1] at len8
    show (pos + 3 + (rem ks st2 ++ X).length) % 8 = 0
    rw [l2]
    simp only [List.length_append, putI_length, show Int.toNat 1 = 1 from rfl, show Int.toNat 2 = 2 from rfl] at len8 ⊢
    lia
  · show l.length + 1 + sizes r < sizes (_ :: r)
    rw [size_blk]; show _ < l.length + 2 + _; lia
end
end Mine
end
section
open PySem PySem.W PySem.Calls PyProof.Rows
namespace Mine
section
variable {ks X tl fin : List Int} {win : Int} {most : Option Int} {S : IS} {pos : Nat}
theorem step_plain (hks : ∀ x ∈ ks, 0 ≤ x ∧ x < 256) {sm : List Int} {r : List Blk} (V : Valid ks X tl fin S (.blk (.plain sm :: r)) pos) : StepR ks X tl fin win most S (.blk (.plain sm :: r)) := by
  obtain ⟨ri, bits, len8, out, ok, ⟨f1, f2, f3⟩, done, x8⟩ := V
  have hst := stepI_begin (ks := ks) (win := win) (most := most) f1 f2 f3
  obtain ⟨⟨ok1, ok2⟩, okr⟩ := ok
  have hd : putI (sm.length : Int) 16 false ++ putI (65535 - (sm.length : Int)) 16 false = [(sm.length : Int), 0, 255 - (sm.length : Int), 255].flatMap (toBits 8) := by
    rw [putI16, putI16, ← List.flatMap_append]
    congr 1
    simp only [List.cons_append, List.nil_append, List.cons.injEq, and_true]
    lia
  have e : rem ks S.rs ++ X = putI (lastI r.isEmpty) 1 false ++ (putI 0 2 false ++ (padI (pos + 3) ++ ([(sm.length : Int), 0, 255 - (sm.length : Int), 255].flatMap (toBits 8) ++ ((Mode.sto sm r).bits (pos + 3 + (padI (pos + 3)).length + 32) ++ tl)))) := by
    rw [bits]
    have hl : (Blk.enc pos r.isEmpty (.plain sm)).length = 3 + (padI (pos + 3)).length + 32 + 8 * sm.length := by
      simp only [Blk.enc, List.length_append, putI_length, flat_le, show Int.toNat 1 = 1 from rfl, show Int.toNat 2 = 2 from rfl, show Int.toNat 16 = 16 from rfl]; lia
    show (Blk.enc pos r.isEmpty (.plain sm) ++ stream (pos + (Blk.enc pos r.isEmpty (.plain sm)).length) r) ++ tl = _
    rw [hl, ← hd]
    show _ = putI (lastI r.isEmpty) 1 false ++ (putI 0 2 false ++ (padI (pos + 3) ++ ((putI (sm.length : Int) 16 false ++ putI (65535 - (sm.length : Int)) 16 false) ++ (((sm.flatMap fun x => putI x 8 false) ++ stream (pos + 3 + (padI (pos + 3)).length + 32 + 8 * sm.length) r) ++ tl))))
    simp only [Blk.enc, List.append_assoc]
    rw [show pos + (3 + (padI (pos + 3)).length + 32 + 8 * sm.length) = pos + 3 + (padI (pos + 3)).length + 32 + 8 * sm.length by lia]
  unfold beginRes at hst
  rcases bits_at (k := 1) hks ri (by decide) (by decide) (by rw [putI_length]) e with ⟨h1, h2⟩ | ⟨st1, h1, ri1, e1⟩
  · rw [h1] at hst
    exact none_cut hst (cut_of e h2)
  rw [h1] at hst
  dsimp only at hst
  rcases bits_at (k := 2) hks ri1 (by decide) (by decide) (by rw [putI_length]) e1 with ⟨h3, h4⟩ | ⟨st2, h3, ri2, e2⟩
  · rw [h3] at hst
    exact none_cut hst (cut_of e1 h4)
  rw [h3, show valLE (putI 0 2 false) = 0 by decide +kernel] at hst
  dsimp only at hst
  rw [if_pos rfl, (val_last _).1, (val_last _).2] at hst
  -- the pad is what the reader drops
  have l1 := congrArg List.length e
  have l2 := congrArg List.length e2
  have hpad : st2.m.toNat = (padI (pos + 3)).length := by
    have q1 := ri2.m0; have q2 := ri2.m1
    have hr := rem_len (ks := ks) (st := st2)
    rw [l1] at len8
    rw [List.length_append, hr] at l2
    simp only [List.length_append, putI_length, show Int.toNat 1 = 1 from rfl, show Int.toNat 2 = 2 from rfl] at len8 l2
    rw [padI_len]
    have hf : (-((pos + 3 : Nat) : Int)).fmod 8 = (-((pos + 3 : Nat) : Int)) % 8 := Int.fmod_eq_emod_of_nonneg _ (by decide)
    rw [hf]
    rcases x8 with x8 | x8 <;> omega
  have hY : (ks.drop st2.a.toNat).flatMap (toBits 8) ++ X = [(sm.length : Int), 0, 255 - (sm.length : Int), 255].flatMap (toBits 8) ++ ((Mode.sto sm r).bits (pos + 3 + (padI (pos + 3)).length + 32) ++ tl) := by
    have e3 := e2
    unfold rem at e3
    rw [List.append_assoc] at e3
    exact (List.append_inj e3 (by rw [toBits_length, hpad])).2
  have qa := ri2.a0; have qb := ri2.a1
  have hdk : ∀ x ∈ ks.drop st2.a.toNat, 0 ≤ x ∧ x < 256 := fun x hx => hks x (List.mem_of_mem_drop hx)
  by_cases h4 : 4 ≤ (ks.drop st2.a.toNat).length
  · obtain ⟨t1, t2⟩ := flat8_pre hdk (fun x hx => by
      simp only [List.mem_cons, List.not_mem_nil, or_false] at hx
      rcases hx with rfl | rfl | rfl | rfl <;> lia) hY h4
    have t1' : (ks.drop st2.a.toNat).take 4 = [(sm.length : Int), 0, 255 - (sm.length : Int), 255] := t1
    have t2' : (ks.drop (st2.a + 4).toNat).flatMap (toBits 8) ++ X = (Mode.sto sm r).bits (pos + 3 + (padI (pos + 3)).length + 32) ++ tl := by
      have : ks.drop (st2.a + 4).toNat = (ks.drop st2.a.toNat).drop 4 := by rw [List.drop_drop]; congr 1; lia
      rw [this]; exact t2
    have hs : sto ks st2.a = sm.length := by unfold sto hdl; rw [t1']; show (sm.length : Int) + 0 * 256 = _; lia
    have ht : tur ks st2.a = 65535 - sm.length := by unfold tur hdl; rw [t1']; show 255 - (sm.length : Int) + 255 * 256 = _; lia
    rw [List.length_drop] at h4
    rw [if_pos ⟨by lia, by rw [hs, ht]; lia⟩, hs] at hst
    dsimp only at hst
    have ri3 : RI ks ⟨st2.a + 4, 0, 0⟩ := RI.at' (by lia) (by lia)
    have hlen3 : (pos + 3 + (padI (pos + 3)).length + 32 + (rem ks ⟨st2.a + 4, 0, 0⟩ ++ X).length) % 8 = 0 := by
      have l3 := congrArg List.length hY
      rw [rem_at, t2']
      rw [l1] at len8
      simp only [List.length_append, putI_length, flat8_length, List.length_cons, List.length_nil, show Int.toNat 1 = 1 from rfl, show Int.toNat 2 = 2 from rfl] at len8 ⊢
      lia
    by_cases hsm : sm = []
    · subst hsm
      refine .inr ⟨_, .blk r, pos + 3 + (padI (pos + 3)).length + 32, hst, ⟨ri3, by rw [rem_at, t2']; rfl, hlen3, ?_, ?_, ⟨f1, rfl, rfl⟩, done, x8⟩, ?_, fun h => h, fun _ h => h, fun h => h, Nat.le_refl _, fun k hk hlt => ⟨by show (S.out.length : Int) ≤ _; lia, fun _ => by show (S.out.length : Int) ≤ _; lia⟩⟩
      · rw [← out]; show r.foldl Blk.app S.out = r.foldl Blk.app (S.out ++ []); rw [List.append_nil]
      · have : Blk.app S.out (.plain []) = S.out := List.append_nil _
        rw [this] at okr; exact okr
      · show sizes r < sizes (_ :: r); rw [size_blk]; show _ < 0 + 1 + _; lia
    · refine .inr ⟨_, .sto sm r, pos + 3 + (padI (pos + 3)).length + 32, hst, ⟨ri3, by rw [rem_at, t2'], hlen3, out, ⟨⟨ok1, ok2⟩, okr⟩, ⟨f1, rfl, hsm, rfl, rfl⟩, done, x8⟩, ?_, fun h => h, fun _ h => h, fun h => h, Nat.le_refl _, fun k hk hlt => ⟨by show (S.out.length : Int) ≤ _; lia, fun _ => by show (S.out.length : Int) ≤ _; lia⟩⟩
      show sm.length + sizes r < sizes (_ :: r); rw [size_blk]; show _ < sm.length + 1 + _; lia
  · rw [if_neg (by rw [List.length_drop] at h4; omega)] at hst
    dsimp only at hst
    exact none_cut hst (cut_of hY (by rw [flat8_length, flat8_length]; simp only [List.length_cons, List.length_nil]; lia))
theorem stepI_in (h1 : S.inB = true) : stepI ks win most S = (match nextSign countsL signsL ks S.rs with
    | none => none
    | some (x, st1) =>
      if x < 256 then some { S with rs := st1, out := S.out ++ [x] }
      else if x = 256 then some { S with rs := st1, inB := false }
      else match copyRes ks st1 win S.out.length with
        | none => none
        | some (back, st2) => some { S with rs := st2, out := copyN back (3 + (x - 256 - 1)).toNat S.out }) := by
  unfold stepI
  rw [h1]
  rfl
theorem step_end (hks : ∀ x ∈ ks, 0 ≤ x ∧ x < 256) {r : List Blk} (V : Valid ks X tl fin S (.items [] r) pos) : StepR ks X tl fin win most S (.items [] r) := by
  obtain ⟨ri, bits, len8, out, ok, ⟨f1, f2, f3, f4⟩, done, x8⟩ := V
  have hst := stepI_in (ks := ks) (win := win) (most := most) f1
  have e : rem ks S.rs ++ X = putI 0 7 true ++ ((Mode.blk r).bits (pos + 7) ++ tl) := by
    rw [bits]
    show ([] ++ (putI 0 7 true ++ stream (pos + 0 + 7) r)) ++ tl = _
    rw [List.nil_append, List.append_assoc]; rfl
  rcases next_at hks ri dec_end e with ⟨h1, h2⟩ | ⟨st1, h1, ri1, e1⟩
  · rw [h1] at hst
    exact none_cut hst (cut_of e h2)
  rw [h1] at hst
  dsimp only at hst
  rw [if_neg (by decide), if_pos rfl] at hst
  refine .inr ⟨_, .blk r, pos + 7, hst, ⟨ri1, e1, ?_, out, ok.2, ⟨rfl, f3, f4⟩, done, x8⟩, ?_, fun h => h, fun _ h => h, fun h => h, Nat.le_refl _, fun k hk hlt => ⟨by show (S.out.length : Int) ≤ _; lia, fun _ => by show (S.out.length : Int) ≤ _; lia⟩⟩
  · have l1 := congrArg List.length e
    have l2 := congrArg List.length e1
    rw [l1] at len8
    show (pos + 7 + (rem ks st1 ++ X).length) % 8 = 0
    rw [l2]
    simp only [List.length_append, putI_length, show Int.toNat 7 = 7 from rfl] at len8 ⊢
    lia
  · show sizes r < 0 + 1 + sizes r; lia
theorem step_lit (hks : ∀ x ∈ ks, 0 ≤ x ∧ x < 256) {o : Int} {l : List Item} {r : List Blk} (V : Valid ks X tl fin S (.items (.lit o :: l) r) pos) : StepR ks X tl fin win most S (.items (.lit o :: l) r) := by
  obtain ⟨ri, bits, len8, out, ⟨⟨ok1, ok2⟩, okr⟩, ⟨f1, f2, f3, f4⟩, done, x8⟩ := V
  obtain ⟨oo, rfl⟩ := Int.eq_ofNat_of_zero_le ok1.1
  have hst := stepI_in (ks := ks) (win := win) (most := most) f1
  have e : rem ks S.rs ++ X = signI (oo : Int) ++ ((Mode.items l r).bits (pos + (signI (oo : Int)).length) ++ tl) := by
    rw [bits]
    show ((signI (oo : Int) ++ l.flatMap Item.enc) ++ (putI 0 7 true ++ stream (pos + (signI (oo : Int) ++ l.flatMap Item.enc).length + 7) r)) ++ tl = signI (oo : Int) ++ ((l.flatMap Item.enc ++ (putI 0 7 true ++ stream (pos + (signI (oo : Int)).length + (l.flatMap Item.enc).length + 7) r)) ++ tl)
    simp only [List.append_assoc, List.length_append, Nat.add_assoc]
  rcases next_at hks ri (dec_lit oo (by have := ok1.2; lia)) e with ⟨h1, h2⟩ | ⟨st1, h1, ri1, e1⟩
  · rw [h1] at hst
    exact none_cut hst (cut_of e h2)
  rw [h1] at hst
  dsimp only at hst
  rw [if_pos ok1.2] at hst
  refine .inr ⟨_, .items l r, pos + (signI (oo : Int)).length, hst, ⟨ri1, e1, ?_, out, ⟨ok2, okr⟩, ⟨f1, f2, f3, f4⟩, done, x8⟩, ?_, fun ⟨it, h1, h2⟩ => ?_, fun _ h => .tail _ h, fun h it hi => h it (.tail _ hi), ?_, fun k hk hlt => ⟨?_, fun _ => ?_⟩⟩
  · have l1 := congrArg List.length e
    have l2 := congrArg List.length e1
    rw [l1] at len8
    show (pos + _ + (rem ks st1 ++ X).length) % 8 = 0
    rw [l2]
    simp only [List.length_append] at len8 ⊢
    lia
  · show l.length + 1 + sizes r < (l.length + 1) + 1 + sizes r; lia
  · rcases List.mem_cons.mp h1 with rfl | h1
    · exact absurd h2 id
    · exact ⟨it, h1, h2⟩
  · simp
  · simp only [List.length_append, List.length_cons, List.length_nil]; lia
  · simp only [List.length_append, List.length_cons, List.length_nil]; lia
end
end Mine
end
section
open PySem PySem.W PySem.Calls PyProof.Rows
namespace Mine
section
variable {ks X tl fin : List Int} {win : Int} {most : Option Int} {S : IS} {pos : Nat}
theorem step_cp (hks : ∀ x ∈ ks, 0 ≤ x ∧ x < 256) {s b : Int} {l : List Item} {r : List Blk} (V : Valid ks X tl fin S (.items (.cp s b :: l) r) pos) : StepR ks X tl fin win most S (.items (.cp s b :: l) r) := by
  have V0 := V
  obtain ⟨ri, bits, len8, out, ⟨⟨ok1, ok2⟩, okr⟩, ⟨f1, f2, f3, f4⟩, done, x8⟩ := V
  obtain ⟨s1, s2, b1, b2, b3⟩ := ok1
  obtain ⟨k, rfl⟩ : ∃ k : Nat, s = (k : Int) + 3 := ⟨(s - 3).toNat, by omega⟩
  have hk8 : k < 8 := by lia
  obtain ⟨v, eb, hv, hcp, hel, m0, m8, hlb⟩ := copy_codes (s := (k : Int) + 3) b1 b2
  have hst := stepI_in (ks := ks) (win := win) (most := most) f1
  have hcl : (copyI ((k : Int) + 3) b).length = 7 + 5 + eb.length := by
    rw [hcp]; simp only [List.length_append, putI_length, show Int.toNat 7 = 7 from rfl, show Int.toNat 5 = 5 from rfl]; lia
  have e : rem ks S.rs ++ X = putI ((k : Int) + 1) 7 true ++ (putI (v : Int) 5 true ++ (eb ++ ((Mode.items l r).bits (pos + (7 + 5 + eb.length)) ++ tl))) := by
    rw [bits]
    show ((copyI ((k : Int) + 3) b ++ l.flatMap Item.enc) ++ (putI 0 7 true ++ stream (pos + (copyI ((k : Int) + 3) b ++ l.flatMap Item.enc).length + 7) r)) ++ tl = putI ((k : Int) + 1) 7 true ++ (putI (v : Int) 5 true ++ (eb ++ ((l.flatMap Item.enc ++ (putI 0 7 true ++ stream (pos + (7 + 5 + eb.length) + (l.flatMap Item.enc).length + 7) r)) ++ tl)))
    rw [List.length_append, hcl, hcp, show (k : Int) + 3 - 2 = (k : Int) + 1 by lia]
    simp only [List.append_assoc, Nat.add_assoc]
  have hstrict : S.out.length < fin.length := by
    obtain ⟨e1, h1, _, h3⟩ := app_grow (c := S.out) (it := .cp ((k : Int) + 3) b) ⟨s1, s2, b1, b2, b3⟩
    obtain ⟨e2, h4⟩ := items_grow ok2
    obtain ⟨e3, h5⟩ := blks_grow okr
    have : fin = S.out ++ (e1 ++ (e2 ++ e3)) := by
      rw [← out]
      show r.foldl Blk.app (List.foldl Item.app S.out (_ :: l)) = _
      rw [h5, List.foldl_cons, h4, h1]; simp only [List.append_assoc]
    rw [this]
    have := List.length_pos_iff.mpr h3
    simp only [List.length_append]; lia
  rcases next_at hks ri (dec_len k hk8) e with ⟨h1, h2⟩ | ⟨st1, h1, ri1, e1⟩
  · rw [h1] at hst
    exact none_cut hst (cut_of e h2)
  rw [h1] at hst
  dsimp only at hst
  rw [if_neg (by lia), if_neg (by lia)] at hst
  unfold copyRes at hst
  rcases next_at hks ri1 (dec_dist v hv) e1 with ⟨h3, h4⟩ | ⟨st2, h3, ri2, e2⟩
  · rw [h3] at hst
    exact none_cut hst (cut_of e1 h4)
  rw [h3] at hst
  dsimp only at hst
  rw [Int.toNat_natCast] at hst
  rcases bits_at (k := moreD v) hks ri2 m0 m8 hel e2 with ⟨h5, h6⟩ | ⟨st3, h5, ri3, e3⟩
  · rw [h5] at hst
    exact none_cut hst (cut_of e2 h6)
  rw [h5] at hst
  dsimp only at hst
  rw [hlb] at hst
  by_cases hfar : win < b
  · rw [if_pos (.inr hfar)] at hst
    exact .inl ⟨hst, .inr ⟨_, .head _, hfar⟩, fun _ => hstrict⟩
  rw [if_neg (by lia)] at hst
  dsimp only at hst
  rw [show (3 + ((k : Int) + 257 - 256 - 1)).toNat = ((k : Int) + 3).toNat by lia] at hst
  have hgl : (copyN b ((k : Int) + 3).toNat S.out).length = S.out.length + ((k : Int) + 3).toNat := copyN_length _ _ _
  refine .inr ⟨_, .items l r, pos + (7 + 5 + eb.length), hst, ⟨ri3, e3, ?_, out, ⟨ok2, okr⟩, ⟨f1, f2, f3, f4⟩, done, x8⟩, ?_, fun ⟨it, h1, h2⟩ => ?_, fun _ h => .tail _ h, fun h => ?_, ?_, fun k' hk' hlt => ⟨?_, fun h => ?_⟩⟩
  · have l1 := congrArg List.length e
    have l2 := congrArg List.length e3
    rw [l1] at len8
    show (pos + _ + (rem ks st3 ++ X).length) % 8 = 0
    rw [l2]
    simp only [List.length_append, putI_length, show Int.toNat 7 = 7 from rfl, show Int.toNat 5 = 5 from rfl] at len8 ⊢
    lia
  · show l.length + 1 + sizes r < (l.length + 1) + 1 + sizes r; lia
  · rcases List.mem_cons.mp h1 with rfl | h1
    · exact absurd h2 hfar
    · exact ⟨it, h1, h2⟩
  · obtain ⟨o, ho⟩ := h _ (.head _); cases ho
  · rw [hgl]; lia
  · rw [hgl]; lia
  · obtain ⟨o, ho⟩ := h _ (.head _); cases ho
theorem manyOf_facts {st : Int} {n : Nat} {most : Option Int} (h0 : 0 < st) (hm : ∀ k, most = some k → (n : Int) < k) : 0 < manyOf st n most ∧ manyOf st n most ≤ st ∧ ∀ k, most = some k → (n : Int) + manyOf st n most ≤ k := by
  cases most with
  | none => exact ⟨h0, Int.le_refl _, fun k hk => nomatch hk⟩
  | some k =>
    have := hm k rfl
    simp only [manyOf]
    split
    · exact ⟨by lia, by lia, fun k' hk' => by cases hk'; lia⟩
    · exact ⟨by lia, by lia, fun k' hk' => by cases hk'; omega⟩
theorem step_sto (hks : ∀ x ∈ ks, 0 ≤ x ∧ x < 256) {sm : List Int} {r : List Blk} (hm : ∀ k, most = some k → (S.out.length : Int) < k) (V : Valid ks X tl fin S (.sto sm r) pos) : StepR ks X tl fin win most S (.sto sm r) := by
  obtain ⟨ri, bits, len8, out, ⟨⟨ok1, ok2⟩, okr⟩, ⟨f1, f2, f3, f4, f5⟩, done, x8⟩ := V
  have hpos : 0 < sm.length := List.length_pos_iff.mpr f3
  have h0 : (0 : Int) < S.stored := by rw [f2]; lia
  obtain ⟨q1, q2, q3⟩ := manyOf_facts h0 hm
  have hst : stepI ks win most S = (if ks.length < S.rs.a + manyOf S.stored S.out.length most then none
    else some { S with rs := ⟨S.rs.a + manyOf S.stored S.out.length most, 0, 0⟩, out := S.out ++ (ks.drop S.rs.a.toNat).take (manyOf S.stored S.out.length most).toNat, stored := S.stored - manyOf S.stored S.out.length most }) := by
    unfold stepI
    rw [if_neg (by rw [f1]; exact Bool.false_ne_true), if_pos h0]
  generalize manyOf S.stored S.out.length most = n at *
  obtain ⟨n, rfl⟩ := Int.eq_ofNat_of_zero_le (Int.le_of_lt q1)
  have hn : n ≤ sm.length := by lia
  have hrem : rem ks S.rs = (ks.drop S.rs.a.toNat).flatMap (toBits 8) := by unfold rem; rw [f4]; rfl
  have e : (ks.drop S.rs.a.toNat).flatMap (toBits 8) ++ X = (sm.take n).flatMap (toBits 8) ++ ((sm.drop n).flatMap (toBits 8) ++ (stream (pos + 8 * sm.length) r ++ tl)) := by
    rw [← hrem, bits]
    show ((sm.flatMap fun x => putI x 8 false) ++ stream (pos + 8 * sm.length) r) ++ tl = _
    rw [flatP, ← List.append_assoc ((sm.take n).flatMap _), ← List.flatMap_append, List.take_append_drop, List.append_assoc]
  have qa := ri.a0; have qb := ri.a1
  by_cases hc : (ks.length : Int) < S.rs.a + n
  · rw [if_pos hc] at hst
    refine none_cut hst (cut_of e ?_)
    rw [flat8_length, flat8_length, List.length_take, List.length_drop]; omega
  rw [if_neg hc] at hst
  have hdk : ∀ x ∈ ks.drop S.rs.a.toNat, 0 ≤ x ∧ x < 256 := fun x hx => hks x (List.mem_of_mem_drop hx)
  have hl : (sm.take n).length = n := by rw [List.length_take]; lia
  obtain ⟨t1, t2⟩ := flat8_pre hdk (fun x hx => by have := ok2 x (List.mem_of_mem_take hx); lia) e (by rw [hl, List.length_drop]; omega)
  rw [hl] at t1 t2
  rw [Int.toNat_natCast, t1] at hst
  have ri3 : RI ks ⟨S.rs.a + n, 0, 0⟩ := RI.at' (by lia) (by lia)
  have t2' : (ks.drop (S.rs.a + n).toNat).flatMap (toBits 8) ++ X = (sm.drop n).flatMap (toBits 8) ++ (stream (pos + 8 * sm.length) r ++ tl) := by
    have : ks.drop (S.rs.a + n).toNat = (ks.drop S.rs.a.toNat).drop n := by rw [List.drop_drop]; congr 1; lia
    rw [this]; exact t2
  have hlen3 : (pos + 8 * n + (rem ks ⟨S.rs.a + n, 0, 0⟩ ++ X).length) % 8 = 0 := by
    have l1 := congrArg List.length e
    rw [rem_at, t2']
    rw [hrem, l1] at len8
    simp only [List.length_append, flat8_length, hl] at len8 ⊢
    lia
  have hfin : r.foldl Blk.app ((S.out ++ sm.take n) ++ sm.drop n) = fin := by rw [List.append_assoc, List.take_append_drop]; exact out
  have hok : blksOk ((S.out ++ sm.take n) ++ sm.drop n) r := by rw [List.append_assoc, List.take_append_drop]; exact okr
  have hol : (S.out ++ sm.take n).length = S.out.length + n := by rw [List.length_append, hl]
  by_cases hall : n = sm.length
  · have hd : sm.drop n = [] := by rw [hall]; exact List.drop_length
    rw [hd, List.append_nil] at hfin hok
    refine .inr ⟨_, .blk r, pos + 8 * n, hst, ⟨ri3, ?_, hlen3, hfin, hok, ⟨f1, by show S.stored - (n : Int) = 0; lia, f5⟩, done, x8⟩, ?_, fun h => h, fun _ h => h, fun h => h, ?_, fun k hk hlt => ⟨?_, fun _ => ?_⟩⟩
    · rw [rem_at, t2', hd, hall]; rfl
    · show sizes r < sm.length + sizes r; lia
    · show S.out.length ≤ (S.out ++ sm.take n).length; lia
    · show ((S.out ++ sm.take n).length : Int) ≤ _; have := q3 k hk; lia
    · show ((S.out ++ sm.take n).length : Int) ≤ _; have := q3 k hk; lia
  · refine .inr ⟨_, .sto (sm.drop n) r, pos + 8 * n, hst, ⟨ri3, ?_, hlen3, hfin, ⟨⟨by rw [List.length_drop]; lia, fun x hx => ok2 x (List.mem_of_mem_drop hx)⟩, hok⟩, ⟨f1, by show S.stored - (n : Int) = ((sm.drop n).length : Nat); rw [List.length_drop]; lia, fun q => by have := List.drop_eq_nil_iff.mp q; lia, rfl, f5⟩, done, x8⟩, ?_, fun h => h, fun _ h => h, fun h => h, ?_, fun k hk hlt => ⟨?_, fun _ => ?_⟩⟩
    · rw [rem_at, t2']
      show _ = (((sm.drop n).flatMap fun x => putI x 8 false) ++ stream (pos + 8 * n + 8 * (sm.drop n).length) r) ++ tl
      rw [flatP, List.append_assoc, List.length_drop, show pos + 8 * n + 8 * (sm.length - n) = pos + 8 * sm.length by lia]
    · show (sm.drop n).length + sizes r < sm.length + sizes r; rw [List.length_drop]; lia
    · show S.out.length ≤ (S.out ++ sm.take n).length; lia
    · show ((S.out ++ sm.take n).length : Int) ≤ _; have := q3 k hk; lia
    · show ((S.out ++ sm.take n).length : Int) ≤ _; have := q3 k hk; lia
theorem step_any (hks : ∀ x ∈ ks, 0 ≤ x ∧ x < 256) {m : Mode} (hm : ∀ k, most = some k → (S.out.length : Int) < k) (hne : m ≠ .blk []) (V : Valid ks X tl fin S m pos) : StepR ks X tl fin win most S m := by
  cases m with
  | blk bs =>
    cases bs with
    | nil => exact absurd rfl hne
    | cons b r =>
      cases b with
      | plain sm => exact step_plain hks V
      | fixed l => exact step_fixed hks V
  | items l r =>
    cases l with
    | nil => exact step_end hks V
    | cons it l =>
      cases it with
      | lit o => exact step_lit hks V
      | cp s b => exact step_cp hks V
  | sto sm r => exact step_sto hks hm V
theorem stepI_fin (h1 : S.inB = false) (h2 : S.stored = 0) (h3 : S.last = true) : stepI ks win most S = some { S with done := true } := by
  unfold stepI
  rw [h1, h2, h3]
  rfl
theorem good_of (hks : ∀ x ∈ ks, 0 ≤ x ∧ x < 256) (hfl : fin.length ≤ 2000) {m : Mode} (V : Valid ks X tl fin S m pos) : Good ks S := by
  have hol := V.outLe
  obtain ⟨ri, bits, len8, out, ok, fl, done, x8⟩ := V
  have key : ∀ (l : List Item) (r : List Blk), m = .items l r → (∀ x st', nextSign countsL signsL ks S.rs = some (x, st') → 0 ≤ x ∧ x ≤ 264) ∧ (∀ x st1, nextSign countsL signsL ks S.rs = some (x, st1) → 256 < x → ∀ y st', nextSign countsD signsD ks st1 = some (y, st') → 0 ≤ y ∧ y ≤ 5) := by
    rintro l r rfl
    obtain ⟨ok1, okr⟩ := ok
    cases l with
    | nil =>
      have e : rem ks S.rs ++ X = putI 0 7 true ++ ((Mode.blk r).bits (pos + 7) ++ tl) := by
        rw [bits]
        show ([] ++ (putI 0 7 true ++ stream (pos + 0 + 7) r)) ++ tl = _
        rw [List.nil_append, List.append_assoc]; rfl
      rcases next_at hks ri dec_end e with ⟨h1, _⟩ | ⟨st1, h1, _, _⟩
      · rw [h1]; exact ⟨fun _ _ h => (nomatch h), fun _ _ h => (nomatch h)⟩
      · rw [h1]
        exact ⟨fun x st' h => by cases h; lia, fun x st' h hx => by cases h; lia⟩
    | cons it l =>
      cases it with
      | lit o =>
        obtain ⟨oo, rfl⟩ := Int.eq_ofNat_of_zero_le ok1.1.1
        have h256 := ok1.1.2
        have e : rem ks S.rs ++ X = signI (oo : Int) ++ (l.flatMap Item.enc ++ ((putI 0 7 true ++ stream (pos + (signI (oo : Int) ++ l.flatMap Item.enc).length + 7) r) ++ tl)) := by
          rw [bits]
          show ((signI (oo : Int) ++ l.flatMap Item.enc) ++ (putI 0 7 true ++ stream (pos + (signI (oo : Int) ++ l.flatMap Item.enc).length + 7) r)) ++ tl = _
          simp only [List.append_assoc]
        rcases next_at hks ri (dec_lit oo (by lia)) e with ⟨h1, _⟩ | ⟨st1, h1, _, _⟩
        · rw [h1]; exact ⟨fun _ _ h => (nomatch h), fun _ _ h => (nomatch h)⟩
        · rw [h1]
          exact ⟨fun x st' h => by cases h; lia, fun x st' h hx => by cases h; lia⟩
      | cp s b =>
        obtain ⟨s1, s2, b1, b2, b3⟩ := ok1.1
        obtain ⟨k, rfl⟩ : ∃ k : Nat, s = (k : Int) + 3 := ⟨(s - 3).toNat, by omega⟩
        have hk8 : k < 8 := by lia
        obtain ⟨v, eb, hv, hcp, _⟩ := copy_codes (s := (k : Int) + 3) b1 b2
        have e : rem ks S.rs ++ X = putI ((k : Int) + 1) 7 true ++ (putI (v : Int) 5 true ++ (eb ++ (l.flatMap Item.enc ++ ((putI 0 7 true ++ stream (pos + (copyI ((k : Int) + 3) b ++ l.flatMap Item.enc).length + 7) r) ++ tl)))) := by
          rw [bits]
          show ((copyI ((k : Int) + 3) b ++ l.flatMap Item.enc) ++ (putI 0 7 true ++ stream (pos + (copyI ((k : Int) + 3) b ++ l.flatMap Item.enc).length + 7) r)) ++ tl = _
          rw [hcp, show (k : Int) + 3 - 2 = (k : Int) + 1 by lia]
          simp only [List.append_assoc]
        rcases next_at hks ri (dec_len k hk8) e with ⟨h1, _⟩ | ⟨st1, h1, ri1, e1⟩
        · rw [h1]; exact ⟨fun _ _ h => (nomatch h), fun _ _ h => (nomatch h)⟩
        · rw [h1]
          refine ⟨fun x st' h => by cases h; lia, fun x st' h hx => ?_⟩
          cases h
          rcases next_at hks ri1 (dec_dist v hv) e1 with ⟨h3, _⟩ | ⟨st2, h3, _, _⟩
          · rw [h3]; exact fun _ _ h => nomatch h
          · rw [h3]; exact fun y st' h => by cases h; lia
  refine ⟨ri, by lia, ?_, ?_, fun h => ?_, fun h => ?_, fun h => ?_, fun h1 h2 h3 => ?_⟩
  · cases m with
    | blk bs => rw [fl.2.1]; lia
    | items l r => rw [fl.2.2.1]; lia
    | sto sm r => rw [fl.2.1]; lia
  · cases m with
    | blk bs => rw [fl.2.1]; lia
    | items l r => rw [fl.2.2.1]; lia
    | sto sm r => rw [fl.2.1]; have := ok.1.1; lia
  · cases m with
    | blk bs => rw [fl.1] at h; cases h
    | items l r => exact fl.2.1
    | sto sm r => rw [fl.1] at h; cases h
  · cases m with
    | blk bs => rw [fl.1] at h; cases h
    | items l r => exact (key l r rfl).1
    | sto sm r => rw [fl.1] at h; cases h
  · cases m with
    | blk bs => rw [fl.1] at h; cases h
    | items l r => exact (key l r rfl).2
    | sto sm r => rw [fl.1] at h; cases h
  · cases m with
    | items l r => rw [fl.1] at h1; cases h1
    | sto sm r => have := List.length_pos_iff.mpr fl.2.2.1; rw [fl.2.1] at h2; lia
    | blk bs =>
      cases bs with
      | nil => rw [fl.2.2] at h3; cases h3
      | cons b r =>
        have go : ∀ (kd : Int) (rest : List Int), (kd = 0 ∨ kd = 1) → rem ks S.rs ++ X = putI (lastI r.isEmpty) 1 false ++ (putI kd 2 false ++ rest) → ∀ b st1 k st2, rdBits ks S.rs 1 = some (b, st1) → rdBits ks st1 2 = some (k, st2) → k ≠ 2 := by
          intro kd rest hkd e b st1 k st2 h1 h2
          rcases bits_at (k := 1) hks ri (by decide) (by decide) (by rw [putI_length]) e with ⟨h3, _⟩ | ⟨st1', h3, ri1, e1⟩
          · rw [h3] at h1; cases h1
          rw [h3] at h1
          cases h1
          rcases bits_at (k := 2) hks ri1 (by decide) (by decide) (by rw [putI_length]) e1 with ⟨h4, _⟩ | ⟨st2', h4, _, _⟩
          · rw [h4] at h2; cases h2
          rw [h4] at h2
          cases h2
          rcases hkd with rfl | rfl <;> decide +kernel
        cases b with
        | plain sm =>
          refine go 0 (padI (pos + 3) ++ (putI sm.length 16 false ++ (putI (65535 - sm.length) 16 false ++ ((sm.flatMap fun x => putI x 8 false) ++ (stream (pos + (Blk.enc pos r.isEmpty (.plain sm)).length) r ++ tl))))) (.inl rfl) ?_
          rw [bits]
          show (Blk.enc pos r.isEmpty (.plain sm) ++ stream (pos + (Blk.enc pos r.isEmpty (.plain sm)).length) r) ++ tl = _
          generalize stream (pos + (Blk.enc pos r.isEmpty (.plain sm)).length) r = zz
          simp only [Blk.enc, List.append_assoc]
        | fixed l =>
          refine go 1 (l.flatMap Item.enc ++ (putI 0 7 true ++ (stream (pos + (Blk.enc pos r.isEmpty (.fixed l)).length) r ++ tl))) (.inr rfl) ?_
          rw [bits]
          show (Blk.enc pos r.isEmpty (.fixed l) ++ stream (pos + (Blk.enc pos r.isEmpty (.fixed l)).length) r) ++ tl = _
          generalize stream (pos + (Blk.enc pos r.isEmpty (.fixed l)).length) r = zz
          simp only [Blk.enc, List.append_assoc]
end
end Mine
end
section
open PySem PySem.W PySem.Calls PyProof.Rows
namespace Mine
section
variable {ks X tl fin : List Int} {win : Int} {most : Option Int}
noncomputable def DoneS (ks X tl fin : List Int) (S : IS) : Prop := S.done = true ∧ S.out = fin ∧ RI ks S.rs ∧ rem ks S.rs ++ X = tl
noncomputable def RunR (ks X tl fin : List Int) (win : Int) (most : Option Int) (S : IS) (m : Mode) : Except IS IS → Prop
  | .ok S' => goesOn most S' = false ∧ S.out.length ≤ S'.out.length ∧ (∀ k, most = some k → ((S'.out.length : Int) ≤ k + 9 ∨ S'.out.length = S.out.length) ∧ (noCp m.its → (S'.out.length : Int) ≤ k ∨ S'.out.length = S.out.length)) ∧
      ((∃ m' pos', Valid ks X tl fin S' m' pos' ∧ (∀ it ∈ m'.its, it ∈ m.its) ∧ (noCp m.its → noCp m'.its)) ∨ (DoneS ks X tl fin S' ∧ ¬ farL win m.its))
  | .error S' => (X ≠ [] ∨ farL win m.its) ∧ S'.done = false ∧ (∃ e, fin = S'.out ++ e) ∧ (X = [] → S'.out.length < fin.length)
theorem RunR.back {S S1 : IS} {m m1 : Mode} (h1 : farL win m.its → farL win m1.its) (hsub : ∀ it ∈ m1.its, it ∈ m.its) (h2 : noCp m.its → noCp m1.its) (h3 : S.out.length ≤ S1.out.length)
    (h4 : ∀ k, most = some k → (S1.out.length : Int) ≤ k + 9 ∧ (noCp m.its → (S1.out.length : Int) ≤ k)) : ∀ {r : Except IS IS}, RunR ks X tl fin win most S1 m1 r → RunR ks X tl fin win most S m r
  | .ok S', ⟨a, b, c, d⟩ => by
    refine ⟨a, by lia, fun k hk => ⟨?_, fun hn => ?_⟩, ?_⟩
    · have := (h4 k hk).1
      rcases (c k hk).1 with q | q <;> lia
    · have := (h4 k hk).2 hn
      rcases (c k hk).2 (h2 hn) with q | q <;> lia
    · rcases d with ⟨m', pos', V, d1, d2⟩ | ⟨d1, d2⟩
      · exact .inl ⟨m', pos', V, fun it hi => hsub it (d1 it hi), fun h => d2 (h2 h)⟩
      · exact .inr ⟨d1, fun h => d2 (h1 h)⟩
  | .error S', ⟨a, b, c, d⟩ => ⟨a.imp id fun ⟨it, hi, hf⟩ => ⟨it, hsub it hi, hf⟩, b, c, d⟩
theorem run_of (hks : ∀ x ∈ ks, 0 ≤ x ∧ x < 256) (hfl : fin.length ≤ 2000) (hX : X ≠ [] → tl.length < 8) : ∀ (n : Nat) {S : IS} {m : Mode} {pos : Nat}, m.size ≤ n → Valid ks X tl fin S m pos → ∃ r, Work ks win most S r ∧ RunR ks X tl fin win most S m r := by
  intro n
  induction n with
  | zero =>
    intro S m pos hn V
    exfalso
    have hs : ∀ bs, 0 < sizes bs := fun bs => by
      induction bs with
      | nil => simp [sizes]
      | cons b r ih => rw [size_blk]; lia
    cases m with
    | blk bs => have := hs bs; simp only [Mode.size] at hn; lia
    | items l bs => have := hs bs; simp only [Mode.size] at hn; lia
    | sto sm bs => have := hs bs; simp only [Mode.size] at hn; lia
  | succ n ih =>
    intro S m pos hn V
    cases hg : goesOn most S with
    | false =>
      exact ⟨.ok S, .stop hg (by have := V.outLe; lia), hg, Nat.le_refl _, fun k _ => ⟨.inr rfl, fun _ => .inr rfl⟩, .inl ⟨m, pos, V, fun _ h => h, fun h => h⟩⟩
    | true =>
      have hm : ∀ k, most = some k → (S.out.length : Int) < k := fun k hk => by subst hk; simpa [goesOn, V.done] using hg
      have hgood := good_of hks hfl V
      by_cases hne : m = .blk []
      · subst hne
        obtain ⟨f1, f2, f3⟩ := V.fl
        have hst := stepI_fin (ks := ks) (win := win) (most := most) f1 f2 (by rw [f3]; rfl)
        have hb := V.bits
        rw [show (Mode.blk []).bits pos = [] from rfl, List.nil_append] at hb
        refine ⟨.ok { S with done := true }, .go hg hgood (fun h => by rw [hst] at h; cases h) (fun S1 h => by
          rw [hst] at h; cases h
          exact .stop rfl (by show S.out.length ≤ 2000; have := V.outLe; lia)), rfl, Nat.le_refl _, fun k _ => ⟨.inr rfl, fun _ => .inr rfl⟩, .inr ⟨⟨rfl, V.out, V.ri, hb⟩, not_far_nil⟩⟩
      · rcases step_any (most := most) (win := win) hks hm hne V with ⟨h1, h2, h3⟩ | ⟨S1, m1, pos1, h1, V1, h2, h3, hsub, h4, h5, h6⟩
        · exact ⟨.error S, .go hg hgood (fun _ => rfl) (fun S1 h => by rw [h1] at h; cases h), h2, V.done, V.pre, h3⟩
        · obtain ⟨r, hw, hr⟩ := ih (by lia) V1
          exact ⟨r, .go hg hgood (fun h => by rw [h1] at h; cases h) (fun S2 h => by rw [h1] at h; cases h; exact hw), hr.back h3 hsub h4 h5 (fun k hk => h6 k hk (hm k hk))⟩
noncomputable def OkS (ks tl fin : List Int) (win : Int) (nc : Prop) (S : IS) : Prop :=
  (∃ m pos, Valid ks [] tl fin S m pos ∧ ¬ farL win m.its ∧ (nc → noCp m.its)) ∨ DoneS ks [] tl fin S
theorem DoneS.stop {S : IS} (h : DoneS ks X tl fin S) (hfl : fin.length ≤ 2000) : Work ks win most S (.ok S) := .stop (by simp [goesOn, h.1]) (by rw [h.2.1]; exact hfl)
theorem work_none {nc : Prop} {S : IS} (hks : ∀ x ∈ ks, 0 ≤ x ∧ x < 256) (hfl : fin.length ≤ 2000) (h : OkS ks tl fin win nc S) : ∃ S', Work ks win none S (.ok S') ∧ DoneS ks [] tl fin S' := by
  rcases h with ⟨m, pos, V, h1, h2⟩ | h
  · obtain ⟨r, hw, hr⟩ := run_of (most := none) (win := win) hks hfl (fun q => absurd rfl q) _ (Nat.le_refl _) V
    cases r with
    | error S' => exact absurd hr.1 (fun q => q.elim (fun q => q rfl) h1)
    | ok S' =>
      obtain ⟨a, _, _, d⟩ := hr
      rcases d with ⟨m', pos', V', _⟩ | ⟨d, _⟩
      · simp [goesOn, V'.done] at a
      · exact ⟨S', hw, d⟩
  · exact ⟨S, h.stop hfl, h⟩
theorem work_some {nc : Prop} {S : IS} {k : Int} (hks : ∀ x ∈ ks, 0 ≤ x ∧ x < 256) (hfl : fin.length ≤ 2000) (h : OkS ks tl fin win nc S) : ∃ S', Work ks win (some k) S (.ok S') ∧ OkS ks tl fin win nc S' ∧ (∃ e, fin = S'.out ++ e) ∧
    S.out.length ≤ S'.out.length ∧ (k ≤ S'.out.length ∨ S'.out.length = fin.length) ∧ ((S'.out.length : Int) ≤ k + 9 ∨ S'.out.length = S.out.length) ∧ (nc → (S'.out.length : Int) ≤ k ∨ S'.out.length = S.out.length) := by
  rcases h with ⟨m, pos, V, h1, h2⟩ | h
  · obtain ⟨r, hw, hr⟩ := run_of (most := some k) (win := win) hks hfl (fun q => absurd rfl q) _ (Nat.le_refl _) V
    cases r with
    | error S' => exact absurd hr.1 (fun q => q.elim (fun q => q rfl) h1)
    | ok S' =>
      obtain ⟨a, b, c, d⟩ := hr
      have c := c k rfl
      refine ⟨S', hw, ?_, ?_, b, ?_, c.1, fun hn => c.2 (h2 hn)⟩
      · rcases d with ⟨m', pos', V', d1, d2⟩ | ⟨d, _⟩
        · exact .inl ⟨m', pos', V', fun ⟨it, hi, hf⟩ => h1 ⟨it, d1 it hi, hf⟩, fun hn => d2 (h2 hn)⟩
        · exact .inr d
      · rcases d with ⟨m', pos', V', d1, d2⟩ | ⟨d, _⟩
        · exact V'.pre
        · exact ⟨[], by rw [d.2.1, List.append_nil]⟩
      · rcases d with ⟨m', pos', V', d1, d2⟩ | ⟨d, _⟩
        · simp [goesOn, V'.done] at a
          exact .inl a
        · exact .inr (by rw [d.2.1])
  · exact ⟨S, h.stop hfl, .inr h, ⟨[], by rw [h.2.1, List.append_nil]⟩, Nat.le_refl _, .inr (by rw [h.2.1]), .inr rfl, fun _ => .inr rfl⟩
theorem work_bad {S : IS} {m : Mode} {pos : Nat} (hks : ∀ x ∈ ks, 0 ≤ x ∧ x < 256) (hfl : fin.length ≤ 2000) (V : Valid ks X tl fin S m pos) (hX : X ≠ [] → tl.length < 8) (hb : X ≠ [] ∨ farL win m.its) :
    ∃ Se, Work ks win none S (.error Se) ∧ Se.done = false ∧ (∃ e, fin = Se.out ++ e) ∧ (X = [] → Se.out.length < fin.length) := by
  obtain ⟨r, hw, hr⟩ := run_of (most := none) (win := win) hks hfl hX _ (Nat.le_refl _) V
  cases r with
  | error S' => exact ⟨S', hw, hr.2⟩
  | ok S' =>
    exfalso
    obtain ⟨a, _, _, d⟩ := hr
    rcases d with ⟨m', pos', V', _⟩ | ⟨d, d2⟩
    · simp [goesOn, V'.done] at a
    · rcases hb with hb | hb
      · have h1 := hX hb
        have h2 := congrArg List.length d.2.2.2
        have h3 := V.x8
        have := List.length_pos_iff.mpr hb
        simp only [List.length_append] at h2
        lia
      · exact d2 hb
end
end Mine
end
section
open PySem PySem.W PySem.Calls PyProof.Rows
namespace Mine
noncomputable def sF : Nat → List Blk → List Int
  | _, [] => []
  | pos, b :: r => b.enc pos false ++ sF (pos + (b.enc pos false).length) r
theorem sF_snoc (b : Blk) : ∀ (bs : List Blk) (pos : Nat), sF pos (bs ++ [b]) = sF pos bs ++ b.enc (pos + (sF pos bs).length) false
  | [], pos => by simp [sF]
  | a :: r, pos => by
    rw [List.cons_append, sF, sF, sF_snoc b r, List.append_assoc, List.length_append, Nat.add_assoc]
theorem stream_snoc (b : Blk) : ∀ (bs : List Blk) (pos : Nat), stream pos (bs ++ [b]) = sF pos bs ++ b.enc (pos + (sF pos bs).length) true
  | [], pos => by simp [stream, sF]
  | a :: r, pos => by
    rw [List.cons_append, stream, sF, stream_snoc b r, List.append_assoc, List.length_append, Nat.add_assoc]
    have : (r ++ [b]).isEmpty = false := by cases r <;> rfl
    rw [this]
theorem itemsOk_snoc (it : Item) : ∀ (l : List Item) (c : List Int), itemsOk c l → it.ok (l.foldl Item.app c) → itemsOk c (l ++ [it])
  | [], c, _, h => ⟨h, trivial⟩
  | a :: r, c, h1, h => ⟨h1.1, itemsOk_snoc it r _ h1.2 h⟩
theorem blksOk_snoc (b : Blk) : ∀ (l : List Blk) (c : List Int), blksOk c l → b.ok (l.foldl Blk.app c) → blksOk c (l ++ [b])
  | [], c, _, h => ⟨h, trivial⟩
  | a :: r, c, h1, h => ⟨h1.1, blksOk_snoc b r _ h1.2 h⟩
noncomputable def farP (back0 back : Int) (l : List Item) : Prop := (∀ win, win < back ↔ win < back0 ∨ farL win l) ∧ back0 ≤ back ∧ (0 ≤ back0 → back = 0 → noCp l)
theorem farP_nil (b : Int) : farP b b [] := ⟨fun win => ⟨.inl, fun h => h.elim id fun q => absurd q not_far_nil⟩, Int.le_refl _, fun _ _ _ h => nomatch h⟩
theorem farL_append {win : Int} {a b : List Item} : farL win (a ++ b) ↔ farL win a ∨ farL win b :=
  ⟨fun ⟨it, h1, h2⟩ => (List.mem_append.mp h1).elim (fun q => .inl ⟨it, q, h2⟩) fun q => .inr ⟨it, q, h2⟩, fun h => h.elim (fun ⟨it, h1, h2⟩ => ⟨it, List.mem_append_left _ h1, h2⟩) fun ⟨it, h1, h2⟩ => ⟨it, List.mem_append_right _ h1, h2⟩⟩
theorem farP.app {a b c : Int} {l r : List Item} (h1 : farP a b l) (h2 : farP b c r) : farP a c (l ++ r) := by
  refine ⟨fun win => ?_, Int.le_trans h1.2.1 h2.2.1, fun h0 hc it hi => ?_⟩
  · rw [h2.1, h1.1, farL_append, or_assoc]
  · have hb : b = 0 := by have := h1.2.1; have := h2.2.1; lia
    exact (List.mem_append.mp hi).elim (h1.2.2 h0 hb it) (h2.2.2 (by lia) hc it)
theorem farP_one (k : Int) {it : Item} {c : List Int} (h : it.ok c) : farP k (it.far k) [it] := by
  cases it with
  | lit o =>
    refine ⟨fun win => ⟨.inl, fun h => h.elim id fun ⟨it, h1, h2⟩ => ?_⟩, Int.le_refl _, fun _ _ it hi => ⟨o, List.mem_singleton.mp hi⟩⟩
    rw [List.mem_singleton.mp h1] at h2; exact h2.elim
  | cp s b =>
    obtain ⟨_, _, b1, _⟩ := h
    have e : Item.far k (.cp s b) = if b > k then b else k := rfl
    rw [e]
    refine ⟨fun win => ⟨fun h => ?_, fun h => ?_⟩, by split <;> lia, fun h0 hb => ?_⟩
    · split at h
      · exact .inr ⟨_, .head _, h⟩
      · exact .inl h
    · rcases h with h | ⟨it, h1, h2⟩
      · split <;> lia
      · rw [List.mem_singleton.mp h1] at h2
        have : win < b := h2
        split <;> omega
    · split at hb <;> lia
theorem items_sum {st st' : WS} {l : List Item} (h : Items st l st') : st'.bits = st.bits ++ l.flatMap Item.enc ∧ st'.content = l.foldl Item.app st.content ∧ itemsOk st.content l ∧ farP st.back st'.back l := by
  induction h with
  | nil => exact ⟨by simp, rfl, trivial, farP_nil _⟩
  | snoc it _ hok ih =>
    obtain ⟨h1, h2, h3, h4⟩ := ih
    refine ⟨?_, ?_, itemsOk_snoc it _ _ h3 (h2 ▸ hok), h4.app (farP_one _ hok)⟩
    · show _ ++ it.enc = _
      rw [h1, List.flatMap_append, List.append_assoc]; simp
    · show it.app _ = _
      rw [h2, List.foldl_append]; rfl
theorem blk_of {last : Bool} {st st' : WS} (h : BlockR last st st') : ∃ b : Blk, st'.bits = st.bits ++ b.enc st.bits.length last ∧ st'.content = b.app st.content ∧ b.ok st.content ∧ farP st.back st'.back b.its := by
  cases h with
  | plain sm h1 h2 e =>
    subst e
    refine ⟨.plain sm, ?_, rfl, ⟨h1, h2⟩, farP_nil _⟩
    show plainBits st.bits last sm = _
    have hl : (st.bits ++ putI (lastI last) 1 false ++ putI 0 2 false).length = st.bits.length + 3 := by
      simp only [List.length_append, putI_length, show Int.toNat 1 = 1 from rfl, show Int.toNat 2 = 2 from rfl]
    unfold plainBits
    rw [hl]
    simp only [Blk.enc, List.append_assoc]
  | fixed l st1 h1 h2 e =>
    subst e
    obtain ⟨g1, g2, g3, g4⟩ := items_sum h2
    refine ⟨.fixed l, ?_, g2, g3, g4⟩
    show st1.bits ++ _ = _
    rw [g1]
    simp only [Blk.enc, List.append_assoc]
structure Wr (st : WS) (bs : List Blk) : Prop where
  bits : st.bits = sF 0 bs
  cont : st.content = bs.foldl Blk.app []
  ok : blksOk [] bs
  far : farP 0 st.back (bs.flatMap Blk.its)
theorem Wr.nil : Wr ⟨[], [], 0⟩ [] := ⟨rfl, rfl, trivial, farP_nil _⟩
theorem Wr.next {st st' : WS} {bs : List Blk} {last : Bool} (W : Wr st bs) (h : BlockR last st st') : ∃ b, st'.bits = sF 0 bs ++ b.enc (sF 0 bs).length last ∧ st'.content = (bs ++ [b]).foldl Blk.app [] ∧ blksOk [] (bs ++ [b]) ∧ farP 0 st'.back ((bs ++ [b]).flatMap Blk.its) := by
  obtain ⟨b, h1, h2, h3, h4⟩ := blk_of h
  refine ⟨b, by rw [h1, W.bits], ?_, blksOk_snoc b _ _ W.ok (W.cont ▸ h3), ?_⟩
  · rw [h2, W.cont, List.foldl_append]; rfl
  · rw [List.flatMap_append]
    have : List.flatMap Blk.its [b] = b.its := by simp
    rw [this]
    exact W.far.app h4
theorem Wr.more {st st' : WS} {bs : List Blk} (W : Wr st bs) (h : BlockR false st st') : ∃ b, Wr st' (bs ++ [b]) := by
  obtain ⟨b, h1, h2, h3, h4⟩ := W.next h
  exact ⟨b, ⟨by rw [h1, sF_snoc, Nat.zero_add], h2, h3, h4⟩⟩
structure Wrote (st : WS) (bs : List Blk) : Prop where
  bits : st.bits = stream 0 bs
  cont : st.content = bs.foldl Blk.app []
  ok : blksOk [] bs
  far : farP 0 st.back (bs.flatMap Blk.its)
  ne : bs ≠ []
theorem Wr.last {st st' : WS} {bs : List Blk} (W : Wr st bs) (h : BlockR true st st') : ∃ b, Wrote st' (bs ++ [b]) := by
  obtain ⟨b, h1, h2, h3, h4⟩ := W.next h
  exact ⟨b, ⟨by rw [h1, stream_snoc, Nat.zero_add], h2, h3, h4, by simp⟩⟩
noncomputable def is01 (l : List Int) : Prop := ∀ x ∈ l, x = 0 ∨ x = 1
theorem is01.app {a b : List Int} (h1 : is01 a) (h2 : is01 b) : is01 (a ++ b) := fun x hx => (List.mem_append.mp hx).elim (h1 x) (h2 x)
theorem is01_put (n m : Int) (c : Bool) : is01 (putI n m c) := fun x hx => by
  obtain ⟨k, _, rfl⟩ := List.mem_map.mp hx
  unfold bitI
  have h1 := Int.emod_nonneg (n.fdiv (2 ^ (if c = true then m - 1 - k else k).toNat)) (by decide : (2 : Int) ≠ 0)
  have h2 := Int.emod_lt_of_pos (n.fdiv (2 ^ (if c = true then m - 1 - k else k).toNat)) (by decide : (0 : Int) < 2)
  rw [Int.fmod_eq_emod_of_nonneg _ (by decide)]
  omega
theorem is01_pad (n : Nat) : is01 (padI n) := fun x hx => .inl (List.eq_of_mem_replicate hx)
theorem is01_flat {α : Type} (f : α → List Int) (l : List α) (h : ∀ a, is01 (f a)) : is01 (l.flatMap f) := fun x hx => by
  obtain ⟨a, _, h2⟩ := List.mem_flatMap.mp hx
  exact h a x h2
theorem is01_enc (it : Item) : is01 it.enc := by
  cases it with
  | lit o =>
    show is01 (signI o)
    unfold signI
    split <;> exact is01_put _ _ _
  | cp s b =>
    show is01 (copyI s b)
    unfold copyI
    refine ((is01_put _ _ _).app (is01_put _ _ _)).app ?_
    split
    · exact is01_put _ _ _
    · exact fun x hx => nomatch hx
theorem is01_blk (b : Blk) (pos : Nat) (last : Bool) : is01 (b.enc pos last) := by
  cases b with
  | plain sm => exact (is01_put _ _ _).app ((is01_put _ _ _).app ((is01_pad _).app ((is01_put _ _ _).app ((is01_put _ _ _).app (is01_flat _ _ fun x => is01_put _ _ _)))))
  | fixed l => exact (is01_put _ _ _).app ((is01_put _ _ _).app ((is01_flat _ _ is01_enc).app (is01_put _ _ _)))
theorem is01_stream : ∀ (bs : List Blk) (pos : Nat), is01 (stream pos bs)
  | [], _ => fun x hx => nomatch hx
  | b :: r, pos => (is01_blk _ _ _).app (is01_stream r _)
theorem toBits_val : ∀ (n : Nat) (l : List Int), l.length = n → is01 l → toBits n (valLE l) = l
  | 0, [], _, _ => rfl
  | n + 1, b :: r, h, h01 => by
    have hb := h01 b (.head _)
    have ih := toBits_val n r (by simpa using h) fun x hx => h01 x (.tail _ hx)
    rw [toBits, valLE]
    have e1 : (b + 2 * valLE r) % 2 = b := by lia
    have e2 : (b + 2 * valLE r) / 2 = valLE r := by lia
    rw [e1, e2, ih]
theorem valLE_bound : ∀ (l : List Int), is01 l → 0 ≤ valLE l ∧ valLE l < 2 ^ l.length
  | [], _ => ⟨Int.le_refl _, by decide⟩
  | b :: r, h => by
    have hb := h b (.head _)
    have ih := valLE_bound r fun x hx => h x (.tail _ hx)
    rw [valLE, List.length_cons, Int.pow_succ]
    omega
noncomputable def octs : Nat → List Int → List Int
  | 0, _ => []
  | n + 1, l => valLE (l.take 8) :: octs n (l.drop 8)
noncomputable def padded (bits : List Int) : List Int := bits ++ padI bits.length
noncomputable def octE (bits : List Int) : List Int := octs ((padded bits).length / 8) (padded bits)
theorem octs_len : ∀ (n : Nat) (l : List Int), (octs n l).length = n
  | 0, _ => rfl
  | n + 1, l => by rw [octs, List.length_cons, octs_len n]
theorem octs_snoc : ∀ (n : Nat) (l : List Int), octs (n + 1) l = octs n l ++ [valLE ((l.drop (8 * n)).take 8)]
  | 0, l => by simp [octs]
  | n + 1, l => by
    rw [octs, octs_snoc n, octs, List.cons_append, List.drop_drop]
    rw [show 8 + 8 * n = 8 * (n + 1) by lia]
theorem octs_bits : ∀ (n : Nat) (l : List Int), l.length = 8 * n → is01 l → (octs n l).flatMap (toBits 8) = l
  | 0, l, h, _ => by rw [List.length_eq_zero_iff.mp h]; rfl
  | n + 1, l, h, h01 => by
    rw [octs, List.flatMap_cons, octs_bits n _ (by rw [List.length_drop, h]; lia) fun x hx => h01 x (List.mem_of_mem_drop hx), toBits_val 8 _ (by rw [List.length_take, h]; lia) fun x hx => h01 x (List.mem_of_mem_take hx), List.take_append_drop]
theorem octs_byte : ∀ (n : Nat) (l : List Int), is01 l → ∀ x ∈ octs n l, 0 ≤ x ∧ x < 256
  | 0, _, _, x, hx => nomatch hx
  | n + 1, l, h, x, hx => by
    rw [octs] at hx
    rcases List.mem_cons.mp hx with rfl | hx
    · have := valLE_bound (l.take 8) fun x hx => h x (List.mem_of_mem_take hx)
      have h8 : (l.take 8).length ≤ 8 := by rw [List.length_take]; lia
      have h2 : (2 : Int) ^ (l.take 8).length ≤ 2 ^ 8 := by
        have : (l.take 8).length = 0 ∨ (l.take 8).length = 1 ∨ (l.take 8).length = 2 ∨ (l.take 8).length = 3 ∨ (l.take 8).length = 4 ∨ (l.take 8).length = 5 ∨ (l.take 8).length = 6 ∨ (l.take 8).length = 7 ∨ (l.take 8).length = 8 := by lia
        rcases this with e | e | e | e | e | e | e | e | e <;> rw [e] <;> decide
      exact ⟨this.1, Int.lt_of_lt_of_le this.2 h2⟩
    · exact octs_byte n _ (fun x hx => h x (List.mem_of_mem_drop hx)) x hx
theorem padded_len (bits : List Int) : (padded bits).length % 8 = 0 ∧ (padded bits).length < bits.length + 8 ∧ bits.length ≤ (padded bits).length := by
  unfold padded
  rw [List.length_append, padI_len, Int.fmod_eq_emod_of_nonneg _ (by decide)]
  omega
theorem is01_padded {bits : List Int} (h : is01 bits) : is01 (padded bits) := h.app (is01_pad _)
theorem octE_bits {bits : List Int} (h : is01 bits) : (octE bits).flatMap (toBits 8) = padded bits := octs_bits _ _ (by have := (padded_len bits).1; lia) (is01_padded h)
theorem octE_byte {bits : List Int} (h : is01 bits) : ∀ x ∈ octE bits, 0 ≤ x ∧ x < 256 := octs_byte _ _ (is01_padded h)
theorem octE_len (bits : List Int) : (octE bits).length = (padded bits).length / 8 := octs_len _ _
noncomputable def s0 (begin : Int) : IS := ⟨⟨begin, 0, 0⟩, [], false, false, false, 0, false⟩
theorem Wrote.b01 {st : WS} {bs : List Blk} (W : Wrote st bs) : is01 st.bits := W.bits ▸ is01_stream _ _
theorem Wrote.size {st : WS} {bs : List Blk} (W : Wrote st bs) : 0 < (octE st.bits).length := by
  have h := padded_len st.bits
  have : 0 < st.bits.length := by
    rw [W.bits]
    cases bs with
    | nil => exact absurd rfl W.ne
    | cons b r =>
      rw [stream, List.length_append]
      cases b with
      | plain sm => simp only [Blk.enc, List.length_append, putI_length, show Int.toNat 1 = 1 from rfl]; lia
      | fixed l => simp only [Blk.enc, List.length_append, putI_length, show Int.toNat 1 = 1 from rfl]; lia
  rw [octE_len]; lia
theorem drop_rep (n : Nat) (l : List Int) : (List.replicate n (255 : Int) ++ l).drop (n : Int).toNat = l := by
  rw [Int.toNat_natCast, List.drop_left' (List.length_replicate)]
theorem valid_whole {st : WS} {bs : List Blk} (W : Wrote st bs) (n : Nat) : ∃ tl, Valid (List.replicate n 255 ++ octE st.bits ++ [122, 122]) [] tl st.content (s0 n) (.blk bs) 0 ∧ 16 ≤ tl.length ∧ tl.length < 24 := by
  have e : rem (List.replicate n 255 ++ octE st.bits ++ [122, 122]) (s0 n).rs = stream 0 bs ++ (padI st.bits.length ++ [(122 : Int), 122].flatMap (toBits 8)) := by
    show rem _ ⟨(n : Int), 0, 0⟩ = _
    rw [rem_at, List.append_assoc, drop_rep, List.flatMap_append, octE_bits W.b01]
    unfold padded
    rw [List.append_assoc, W.bits]
  have hl := rem_len (ks := List.replicate n 255 ++ octE st.bits ++ [122, 122]) (st := (s0 n).rs)
  refine ⟨_, ⟨RI.at' (by lia) (by simp; lia), by rw [List.append_nil, e]; rfl, ?_, W.cont.symm, W.ok, ⟨rfl, rfl, ?_⟩, rfl, .inl rfl⟩, ?_, ?_⟩
  · rw [List.append_nil, hl]; show (0 + (0 + _)) % 8 = 0; lia
  · cases bs with
    | nil => exact absurd rfl W.ne
    | cons b r => rfl
  · rw [List.length_append, flat8_length]; simp only [List.length_cons, List.length_nil]; lia
  · rw [List.length_append, flat8_length]; have := padI_le st.bits.length; simp only [List.length_cons, List.length_nil]; lia
theorem valid_cut {st : WS} {bs : List Blk} (W : Wrote st bs) (n : Nat) : ∃ X tl, Valid (List.replicate n 255 ++ (octE st.bits).dropLast) X tl st.content (s0 n) (.blk bs) 0 ∧ X ≠ [] ∧ tl.length < 8 := by
  have hne : octE st.bits ≠ [] := List.length_pos_iff.mp W.size
  have e : rem (List.replicate n 255 ++ (octE st.bits).dropLast) (s0 n).rs ++ toBits 8 ((octE st.bits).getLast hne) = stream 0 bs ++ padI st.bits.length := by
    show rem _ ⟨(n : Int), 0, 0⟩ ++ _ = _
    rw [rem_at, drop_rep]
    have : toBits 8 ((octE st.bits).getLast hne) = [(octE st.bits).getLast hne].flatMap (toBits 8) := by simp
    rw [this, ← List.flatMap_append, List.dropLast_concat_getLast, octE_bits W.b01]
    unfold padded
    rw [W.bits]
  have hl := rem_len (ks := List.replicate n 255 ++ (octE st.bits).dropLast) (st := (s0 n).rs)
  refine ⟨_, _, ⟨RI.at' (by lia) (by simp only [List.length_append, List.length_replicate]; lia), by rw [e]; rfl, ?_, W.cont.symm, W.ok, ⟨rfl, rfl, ?_⟩, rfl, .inr (toBits_length _ _)⟩, ?_, ?_⟩
  · rw [List.length_append, hl, toBits_length]; show (0 + (0 + _ + 8)) % 8 = 0; lia
  · cases bs with
    | nil => exact absurd rfl W.ne
    | cons b r => rfl
  · intro q; have := congrArg List.length q; rw [toBits_length] at this; simp at this
  · have := padI_le st.bits.length; lia
theorem done_place {ks tl fin : List Int} {S : IS} (h : DoneS ks [] tl fin S) (h1 : 16 ≤ tl.length) (h2 : tl.length < 24) : S.rs.a = (ks.length : Int) - 2 := by
  obtain ⟨_, _, ri, e⟩ := h
  have := congrArg List.length e
  rw [List.append_nil, rem_len, List.length_drop] at this
  have q1 := ri.m0; have q2 := ri.m1; have q3 := ri.a0; have q4 := ri.a1
  omega
end Mine
end
section
open PySem PySem.W PySem.Calls PyProof.Rows
set_option maxRecDepth 100000
set_option maxHeartbeats 4000000
namespace Mine
theorem gl_sum (w : World) : nsIn (HA.hd.heap_1_39 w.params) mainGlobals (Str.ofString "sum") = some none := by k_is
theorem gl_bytes (w : World) : nsIn (HA.hd.heap_1_39 w.params) mainGlobals (Str.ofString "bytes") = some none := by k_is
section
variable {c : Cx} {lo : Lo} {nw : Nw} {env : Env}
theorem EK.byL (ok : OkB c) {xp pos : Pos} {e : Expr} {K : AV → Nw → Prop} (h : EK c lo nw e fun P nw1 => ∃ a ns, P = Is (.ref a) ∧ In c nw1 a (IntL ns) ∧ KBa.In ns ∧ ns.length ≤ 1000000 ∧ K (By (byteArr ns)) nw1)
    (he : autoParam (starEach [e] c.env = (false, eval e c.env) :: starEach [] c.env) Mine.aR)
    (hc : autoParam (eval (.Call (.Name (Str.ofString "bytes") xp) [e] [] pos) c.env = (do callWith pos (← eval (.Name (Str.ofString "bytes") xp) c.env) [] (backTo pos (starEach [e] c.env)) (backToKw pos (keywordEach [] c.env)))) Mine.aR) (hk : autoParam (c.S.sc.names.lookup (Str.ofString "bytes") = some .globalImplicit) Mine.aK) : EK c lo nw (.Call (.Name (Str.ofString "bytes") xp) [e] [] pos) K := fun s hs Q q => by
  refine Call_ (EE.blt ok (gl_bytes _) boot_bytes hk (by decide +kernel) (by decide +kernel) s hs _ _ fun v s1 hv hs1 => ?_) hc
  cases hv
  refine PySem.Pv.callWith_type1 (args_cons (h s1 hs1 _ fun P nw1 v s2 ⟨a, ns, eP, hi, hin, hl, k⟩ hv hs2 => args_nil ?_) he) he rfl
  subst eP; cases hv
  obtain ⟨m, nn, F, N, k1, k2⟩ := hs2.opn
  obtain ⟨oo, eo, p⟩ := hi.get hs2
  obtain ⟨vs, hl', hI⟩ := p.isList eo
  exact KBa.make_K F N rfl hl' hI hin (by lia) fun h' t' tk F' N' _ => q _ _ _ _ k ⟨_, rfl⟩ (k1 h' tk F' N')
theorem Ev.cblt (ok : OkB c) {C : Addr} {scope : Scope} {cl : List (Str × Addr)} {x : Str} {pos : Pos} {v : Value} (e : nsIn (HA.hd.heap_1_39 c.V.w.params) mainGlobals x = some none) (eb : bootBuiltins x = some v) (hn : autoParam (x ≠ Str.ofString "__name__") Mine.aDk) (hg : autoParam (env.globals = mainGlobals) Mine.aR) (hb : autoParam (env.builtins = builtinsNs) Mine.aR) (hk : autoParam ((compEnvC scope cl C env).scope.kind = .function) Mine.aR) (hx : autoParam ((compEnvC scope cl C env).kindOf x = some .globalImplicit) Mine.aR) (hd' : autoParam ((x == Str.ofString "__debug__") = false) Mine.aDk) :
    Ev c lo nw (eval (.Name x pos) (compEnvC scope cl C env)) (Is v) := fun s hs Q E q => by
  obtain ⟨m, ns, F, N, k1, _⟩ := hs.opn
  obtain ⟨p, loose, mean, mg, mb, _, T0⟩ := ok.T
  exact LCgL.ld_built F ok.X0 T0 e eb hn (q v s rfl hs) hg hb hk hx hd'
theorem Ev.ccellI {C : Addr} {scope : Scope} {cl : List (Str × Addr)} {x : Str} {pos : Pos} {i : Nat} {a : Addr} {y : Int} {t : Tok} (hl : cl.lookup x = some a) (hi : nth nw i = some (a, CellP (.int y t))) (hk : autoParam ((compEnvC scope cl C env).scope.kind = .function) Mine.aR) (hx : autoParam ((compEnvC scope cl C env).kindOf x = some .cell) Mine.aR) (hd' : autoParam ((x == Str.ofString "__debug__") = false) Mine.aDk) :
    Ev c lo nw (eval (.Name x pos) (compEnvC scope cl C env)) (It y) := (Ev.ccell hl hi hk hx hd').imp fun v h => ⟨t, h⟩
theorem Ev.bin {a b : Expr} {op : Operator} {pos : Pos} {x y z : Int} (ha : Ev c lo nw (eval a env) (It x)) (hb : Ev c lo nw (eval b env) (It y)) (ho : OpI c.V.w op x y z) : Ev c lo nw (eval (.BinOp a op b pos) env) (It z) := fun s hs Q E q =>
  wpAny_BinOp (ha s hs _ _ fun _ s1 ⟨t, e⟩ hs1 => hb s1 hs1 _ _ fun _ s2 ⟨u, e'⟩ hs2 => by subst e; subst e'; exact ho _ _ _ _ _ _ fun t' tk => q _ _ ⟨_, rfl⟩ hs2.tok)
theorem Ev.item {o e : Expr} {pos : Pos} {a : Addr} {k : Int} {ns : List Int} (ho : Ev c lo nw (eval o env) (Is (.ref a))) (he : Ev c lo nw (eval e env) (It k)) (hi : In c nw a (IntL ns)) (k0 : 0 ≤ k) (k1 : k < ns.length) (k2 : k < 2 ^ 63)
    (h1 : autoParam (∀ u, subscripted e false (.ref a) (.int k u) = operate [.ref a, .int k u] (getItem (.ref a) (.int k u))) Mine.aW1) : Ev c lo nw (eval (.Subscript o e pos) env) (It (ns.getD k.toNat 0)) := fun s hs Q E q =>
  Subscript_ (ho s hs _ _ fun v s1 hv hs1 => he s1 hs1 _ _ fun v' s2 hv' hs2 => by
    cases hv
    obtain ⟨u, rfl⟩ := hv'
    obtain ⟨oo, eo, p⟩ := hi.get hs2
    obtain ⟨vs, hl, hI⟩ := p.isList eo
    exact item_anyK hl hI k0 k1 k2 (fun t => q _ _ ⟨t, rfl⟩ hs2) (h1 _))
theorem Ev.sum {x : Str} {xp pos : Pos} {e : Expr} {ns : List Int} (hf : Ev c lo nw (eval (.Name x xp) env) (Is (.builtin "sum"))) (h : EvN c lo nw (eval e env) fun P nw1 => ∃ D, P = Is (.ref D) ∧ nw1 = (D, IntL ns) :: nw)
    (he : autoParam (starEach [e] env = (false, eval e env) :: starEach [] env) Mine.aR)
    (hc : autoParam (eval (.Call (.Name x xp) [e] [] pos) env = (do callWith pos (← eval (.Name x xp) env) [] (backTo pos (starEach [e] env)) (backToKw pos (keywordEach [] env)))) Mine.aR) : Ev c lo nw (eval (.Call (.Name x xp) [e] [] pos) env) (It ns.sum) := fun s hs Q E q => by
  refine Call_ (hf s hs _ _ fun v s1 hv hs1 => ?_) hc
  cases hv
  refine PyProof.Rows.callWith_builtin1 (args_cons (h s1 hs1 _ _ fun P nw1 v s2 ⟨D, eP, en⟩ hv hs2 => args_nil ?_) he) he rfl
  subst eP en; cases hv
  obtain ⟨o, eo, p, _⟩ := hs2.has (.head _)
  obtain ⟨vs, hl, hI⟩ := p.isList eo
  have hs3 : St c lo nw s2 := hs2.sub (fun e he => ⟨e.2, .tail _ he, fun _ x => x⟩) (List.nodup_cons.mp hs2.nodup).2
  obtain ⟨m, nn, F, N, k1, k2⟩ := hs3.opn
  exact sumK rfl F N hl hI fun h' tk t' F' N' => q _ _ ⟨_, rfl⟩ (k1 h' tk F' N')
theorem it_range3 {rn : Str} {rp cp : Pos} {e1 e2 e3 : Expr} {a b st : Int} (hr : EE c lo nw (.Name rn rp) (Is (.type "range"))) (h1 : EE c lo nw e1 (It a)) (h2 : EE c lo nw e2 (It b)) (h3 : EE c lo nw e3 (It st)) (hst : st ≠ 0) (hp : Builtin.divisionGoesByPylong (b - a) st = false)
    (he : autoParam (starEach [e1, e2, e3] c.env = (false, eval e1 c.env) :: starEach [e2, e3] c.env) Mine.aR) (he2 : autoParam (starEach [e2, e3] c.env = (false, eval e2 c.env) :: starEach [e3] c.env) Mine.aR) (he3 : autoParam (starEach [e3] c.env = (false, eval e3 c.env) :: starEach [] c.env) Mine.aR) (hp' : autoParam (((backTo cp (starEach [e2, e3] c.env)).any fun x => x.1) = false) Mine.aR)
    (hc : autoParam (eval (.Call (.Name rn rp) [e1, e2, e3] [] cp) c.env = (do callWith cp (← eval (.Name rn rp) c.env) [] (backTo cp (starEach [e1, e2, e3] c.env)) (backToKw cp (keywordEach [] c.env)))) Mine.aR) :
    ∀ s, St c lo nw s → ∀ (Q : Value → Shared → Prop) (E : Value → Shared → Prop), (∀ ra s' t u v, IsRange s'.heap ra a b st t u v → St c lo nw s' → Q (.ref ra) s') → wpAny c.M c.A (eval (.Call (.Name rn rp) [e1, e2, e3] [] cp) c.env) Q E s := fun s hs Q E q => by
  refine Call_ (hr s hs _ _ fun v s1 hv hs1 => ?_) hc
  cases hv
  refine PySem.Pv.callWith_type1 (args_cons (h1 s1 hs1 _ _ fun v1 s2 hv1 hs2 => args_cons (h2 s2 hs2 _ _ fun v2 s3 hv2 hs3 => args_cons (h3 s3 hs3 _ _ fun v3 s4 hv3 hs4 => args_nil ?_) he3) he2) he) he hp'
  obtain ⟨t1, rfl⟩ := hv1
  obtain ⟨t2, rfl⟩ := hv2
  obtain ⟨t3, rfl⟩ := hv3
  obtain ⟨m, ns, F, N, k1, k2⟩ := hs4.opn
  exact range3_rows F N hst (fun h' tk t u v hr F' N' kall => q _ _ t u v hr (hs4.grow kall)) (.inl hp)
end
end Mine
end
section
open PySem PySem.W PySem.Calls PyProof.Rows
set_option maxRecDepth 100000
set_option maxHeartbeats 4000000
namespace Mine
theorem ct_nd : [Str.ofString "counts"].Nodup := by decide +kernel
noncomputable abbrev CtP (lc : Addr) : AO := FldP [Str.ofString "counts"] [Is (.ref lc)]
section
variable {c : Cx} {lo : Lo} {nw : Nw} {rest : List Stmt} {R : Fl → Lo → Nw → Prop}
theorem EE.ct (ok : OkB c) {o : Expr} {pos : Pos} {r dx lc : Addr} (ho : EE c lo nw o (Is (.ref r))) (hr : In c nw r (InstP 152 dx)) (hdx : In c nw dx (CtP lc))
    (he : autoParam (eval (.Attribute o (Str.ofString "counts") pos) c.env = (do
      let o' ← eval o c.env
      standAt pos.atName
      let r ← holding [o'] (getAttr o' (Str.ofString "counts") true)
      letTemporaryGo o o' r
      pure r)) Mine.aW) (ht : autoParam (∀ o' r, letTemporaryGo o o' r = pure ()) Mine.aW2) : EE c lo nw (.Attribute o (Str.ofString "counts") pos) (Is (.ref lc)) :=
  EE.attr ok 0 ho hr hdx (at152 _ (j := 0) rfl) ct_nd rfl rfl handed_ref he ht
end
noncomputable def sCheck : Sx := sx false 135 [Str.ofString "self", Str.ofString "is_distance", Str.ofString "can_be_lone", Str.ofString "free", Str.ofString "many", Str.ofString "length"]
theorem fn_check (w : World) : Fn w 135 sCheck 3 [] (bodyF 135) := by
  refine ⟨⟨by kernel_rfl, by decide +kernel, by decide +kernel⟩, Nat.le_of_ble_eq_true rfl, ?_⟩
  refine ⟨_, _, _, _, _, _, _, _, _, _, _, _, by k_is, by (show codeIn _ _ (Str.ofString "Codes.check") = true; k_is), ?_, by decide +kernel, by kernel_rfl, by kernel_rfl⟩
  intro s vs hK h
  obtain ⟨a, b, c, rfl⟩ := vs3 h
  exact BindsTo.of_eq rfl
theorem chk_end {counts : List Int} {n : Nat} {x : Int} (h : chkGo counts 0 n x = true) : x = 0 := eq_of_beq (show (x == 0) = true from h)
theorem chk_step {counts : List Int} {n l : Nat} {x : Int} (h : chkGo counts (n + 1) l x = true) : 0 ≤ x * 2 - counts.getD l 0 ∧ chkGo counts n (l + 1) (x * 2 - counts.getD l 0) = true := by
  have h' := Bool.and_eq_true_iff.mp (show (decide (0 ≤ x * 2 - counts.getD l 0) && chkGo counts n (l + 1) (x * 2 - counts.getD l 0)) = true from h)
  exact ⟨of_decide_eq_true h'.1, h'.2⟩
theorem check_h {V : Vx} (ok : Ok ⟨sCheck, V⟩) {c cx lc : Addr} {counts : List Int} {P1 P2 : AV} (hc : At V.h₀ c (InstP 152 cx)) (hx : At V.h₀ cx (CtP lc)) (hl : At V.h₀ lc (IntL counts)) (hcl : counts.length = 16) (hgo : chkGo counts 15 1 1 = true)
    {K : AV → Nw → Prop} (kk : K (Is .none) []) : Ex ⟨sCheck, V⟩ [some (Is (.ref c)), some P1, some P2, none, none, none] [] (bodyF 135) (fun fl _ nw' => K fl.av nw') := by
  have okb := ok.toOkB
  refine Ex.tupC ok [3, 4] [(_, _), (_, _)] rfl (EvA.p EE.int (EvA.p EE.int (EvA.nil ⟨rfl, Nat.le_of_ble_eq_true rfl, ?_⟩)))
  refine Ex.forR2 ok (ix := 5) rfl (EE.rangeN okb) EE.int (EE.bin (EE.most okb) EE.int OpI.add) (by decide) (by decide)
    (Lp.mk (fun x => [some (Is (.ref c)), some P1, some P2, some (It x.i1), some (It x.i2), x.p1]) (fun x => []) (fun i x => chkGo counts (15 - i) (i + 1) x.i1 = true)
      { i1 := 1, i2 := 0 } hgo (fun I oI i x hi hx' => ?_) fun x hx' => ?_)
  · have hi : i < 15 := hi
    rw [show 15 - i = (14 - i) + 1 by lia] at hx'
    obtain ⟨g1, g2⟩ := chk_step hx'
    have e1 : (1 + (i : Int)).toNat = i + 1 := by lia
    have q1 : (0 : Int) ≤ 1 + i := by lia
    have q2 : (1 + (i : Int)) < counts.length := by lia
    have q3 : (1 + (i : Int)) < 2 ^ 63 := by lia
    refine Ex.asg ok (i := 3) rfl (Ev.k (EE.bin (EE.bin (EE.loc okb (i := 3) rfl rfl) EE.int (OpI.mulR (by decide) (by decide))) (EE.item (EE.ct okb (EE.loc okb (i := 0) rfl rfl) (.inr hc) (.inr hx)) (EE.loc okb (i := 5) rfl rfl) (.inr hl) q1 q2 q3) OpI.sub) ?_)
    rw [e1]
    refine Ex.naug ok 4 rfl rfl (EE.item (EE.ct okb (EE.loc okb (i := 0) rfl rfl) (.inr hc) (.inr hx)) (EE.loc okb (i := 5) rfl rfl) (.inr hl) q1 q2 q3) OpJ.add ?_
    refine Ex.if1 (Tv.cmp (EE.loc okb (i := 3) rfl rfl) EE.int CpI.lt) (fun h => absurd g1 (Int.not_le.mpr h)) fun h => ?_
    exact Ex.tendS { i1 := _, i2 := _, p1 := _ } [0] 1 (by dsimp only; rw [show 15 - (i + 1) = 14 - i by lia]; exact g2)
  · have e := chk_end hx'
    refine Ex.if1 (Tv.cmp (EE.loc okb (i := 3) rfl rfl) EE.int CpI.eq) (fun h => Ex.ret0 kk) fun h => absurd e h
end Mine
end
section
open PySem PySem.W PySem.Calls PyProof.Rows
set_option maxRecDepth 100000
set_option maxHeartbeats 4000000
namespace Mine
theorem gl_enum (w : World) : nsIn (HA.hd.heap_1_39 w.params) mainGlobals (Str.ofString "enumerate") = some none := by k_is
theorem boot_enum : bootBuiltins (Str.ofString "enumerate") = some (.type "enumerate") := by decide +kernel
section
variable {c : Cx} {lo : Lo} {nw : Nw} {rest : List Stmt} {R : Fl → Lo → Nw → Prop}
theorem EE.enumN (ok : OkB c) {xp : Pos} (hk : autoParam (c.S.sc.names.lookup (Str.ofString "enumerate") = some .globalImplicit) Mine.aK) : EE c lo nw (.Name (Str.ofString "enumerate") xp) (Is (.type "enumerate")) := EE.blt ok (gl_enum _) boot_enum hk
theorem EK.rep1 {e b : Expr} {p pos : Pos} {v x : Int} {K : AV → Nw → Prop} (he : EE c lo nw e (It v)) (hb : ∀ D, EE c lo ((D, IntL [v]) :: nw) b (It x)) (x0 : 0 ≤ x) (x1 : x < 100000) (k : ∀ D, K (Is (.ref D)) ((D, IntL (List.replicate x.toNat [v]).flatten) :: nw))
    (hs' : autoParam (starEach [e] c.env = (false, eval e c.env) :: starEach [] c.env) Mine.aR) : EK c lo nw (.BinOp (.List [e] p) .Mult b pos) K := fun s hs Q q =>
  EK.rep (K := fun P nw' => ∃ D Dt, P = Is (.ref D) ∧ nw' = (D, IntL (List.replicate x.toNat [v]).flatten) :: (Dt, IntL [v]) :: nw) (EK.list (EvA.p he (EvA.nil ⟨[v], rfl, Nat.le_of_ble_eq_true rfl, fun a => ⟨a, [v], x, rfl, In.at (i := 0) rfl, hb a, x0, x1, Nat.le_of_ble_eq_true rfl, fun D => ⟨D, a, rfl, rfl⟩⟩⟩) hs')) s hs Q
    fun P nw' v' s' ⟨D, Dt, e1, e2⟩ hP hs2 => q _ _ _ _ (k D) (e1 ▸ hP) ((e2 ▸ hs2).sel ⟨[0], 2, by decide, by decide, rfl⟩)
end
theorem sg_step {l : Int} {r : List Int} {i : Int} {bg fd res : List Int} (h : sgGo (l :: r) i bg fd = some res) : (0 < l ∧ l < 17 ∧ 0 ≤ bg.getD l.toNat 0 ∧ bg.getD l.toNat 0 < fd.length ∧ sgGo r (i + 1) (bg.set l.toNat (bg.getD l.toNat 0 + 1)) (fd.set (bg.getD l.toNat 0).toNat i) = some res) ∨ (¬ 0 < l ∧ sgGo r (i + 1) bg fd = some res) := by
  rw [sgGo] at h
  split at h
  · rename_i h0
    split at h
    · rename_i hc
      rw [Bool.and_eq_true, Bool.and_eq_true] at hc
      exact .inl ⟨h0, of_decide_eq_true hc.1.1, of_decide_eq_true hc.1.2, of_decide_eq_true hc.2, h⟩
    · cases h
  · rename_i h0
    split at h
    · exact .inr ⟨h0, h⟩
    · cases h
noncomputable def sSorted : Sx := sx false 142 [Str.ofString "self", Str.ofString "lengths", Str.ofString "begins", Str.ofString "length", Str.ofString "found", Str.ofString "sign"]
theorem fn_sorted (w : World) : Fn w 142 sSorted 2 [] (bodyF 142) := by
  refine ⟨⟨by kernel_rfl, by decide +kernel, by decide +kernel⟩, Nat.le_of_ble_eq_true rfl, ?_⟩
  refine ⟨_, _, _, _, _, _, _, _, _, _, _, _, by k_is, by (show codeIn _ _ (Str.ofString "Codes.sorted_signs") = true; k_is), ?_, by decide +kernel, by kernel_rfl, by kernel_rfl⟩
  intro s vs hK h
  obtain ⟨a, b, rfl⟩ := vs2 h
  exact BindsTo.of_eq rfl
theorem sorted_h {V : Vx} (ok : Ok ⟨sSorted, V⟩) {c cx lc l : Addr} {counts lens bgs res : List Int} (hc : At V.h₀ c (InstP 152 cx)) (hx : At V.h₀ cx (CtP lc)) (hl : At V.h₀ lc (IntL counts)) (hll : At V.h₀ l (IntL lens)) (hcl : counts.length = 16) (hln : lens.length ≤ 300)
    (hbg : begGo counts 15 1 (List.replicate 17 0) = bgs) (hN0 : 0 ≤ bgs.getD 16 0) (hN : bgs.getD 16 0 ≤ 300) (hgo : sgGo lens 0 bgs (List.replicate (bgs.getD 16 0).toNat 0) = some res)
    {K : AV → Nw → Prop} (kk : ∀ D E nb, K (Is (.ref D)) [(D, IntL res), (E, IntL nb)]) : Ex ⟨sSorted, V⟩ [some (Is (.ref c)), some (Is (.ref l)), none, none, none, none] [] (bodyF 142) (fun fl _ nw' => K fl.av nw') := by
  have okb := ok.toOkB
  refine Ex.asg ok (i := 2) rfl (EK.rep1 EE.int (fun D => EE.bin (EE.most okb) EE.int OpI.add) (by decide) (by decide) fun Db => ?_)
  refine Ex.forR2 ok (ix := 3) rfl (EE.rangeN okb) EE.int (EE.bin (EE.most okb) EE.int OpI.add) (by decide) (by decide)
    (Lp.mk (fun x => [some (Is (.ref c)), some (Is (.ref l)), some (Is (.ref Db)), x.p1, none, none]) (fun x => [(Db, IntL x.l1)]) (fun i x => x.l1.length = 17 ∧ begGo counts (15 - i) (i + 1) x.l1 = bgs)
      { l1 := (List.replicate 17 [(0 : Int)]).flatten } ⟨rfl, hbg⟩ (fun I oI i x hi hx' => ?_) fun x hx' => ?_)
  · have hi : i < 15 := hi
    obtain ⟨h1, h2⟩ := hx'
    rw [show 15 - i = (14 - i) + 1 by lia, begGo] at h2
    have e1 : (1 + (i : Int)).toNat = i + 1 := by lia
    have e2 : (1 + (i : Int) + 1).toNat = i + 2 := by lia
    have q1 : (0 : Int) ≤ 1 + i := by lia
    have q2 : (1 + (i : Int)) < counts.length := by lia
    have q3 : (1 + (i : Int)) < 2 ^ 63 := by lia
    have q4 : (1 + (i : Int)) < x.l1.length := by lia
    refine Ex.lset ok 1 (EE.bin (EE.item (EE.loc okb (i := 2) rfl rfl) (EE.loc okb (i := 3) rfl rfl) (In.at (i := 1) rfl) q1 q4 q3) (EE.item (EE.ct okb (EE.loc okb (i := 0) rfl rfl) (.inr hc) (.inr hx)) (EE.loc okb (i := 3) rfl rfl) (.inr hl) q1 q2 q3) OpI.add) (EE.loc okb (i := 2) rfl rfl) (EE.bin (EE.loc okb (i := 3) rfl rfl) EE.int OpI.add) rfl (by lia) (by lia) (by lia) ?_
    rw [e1, e2]
    exact Ex.tendS { l1 := x.l1.set (i + 2) (x.l1.getD (i + 1) 0 + counts.getD (i + 1) 0), p1 := _ } [0, 1] 2 ⟨by rw [List.length_set]; exact h1, by rw [show 15 - (i + 1) = 14 - i by lia]; exact h2⟩
  · obtain ⟨h1, h2⟩ := hx'
    have h2 : x.l1 = bgs := h2
    obtain ⟨bg, hbg'⟩ : ∃ bg, bg = x.l1 := ⟨_, rfl⟩
    rw [← hbg'] at h1 h2 ⊢
    subst h2
    have hlen : (16 : Int) < bg.length := by omega
    refine Ex.asg ok (i := 4) rfl (EK.rep1 EE.int (fun D => EE.item (EE.loc okb (i := 2) rfl rfl) (EE.bin (EE.most okb) EE.int OpI.add) (In.at (i := 1) rfl) (by decide) hlen (by decide)) hN0 (Int.lt_of_le_of_lt hN (by decide)) fun Df => ?_)
    refine Ex.forE ok (ia := 5) (ib := 3) [(_, _), (_, _)] rfl (EE.enumN okb) (EE.loc okb (i := 1) rfl rfl) hll
      (fun i lo nw => ∃ (bg fd : List Int) (p1 p2 : Option AV), lo = [some (Is (.ref c)), some (Is (.ref l)), some (Is (.ref Db)), p1, some (Is (.ref Df)), p2] ∧ nw = [(Df, IntL fd), (Db, IntL bg)] ∧ bg.length = 17 ∧ fd.length ≤ 300 ∧ sgGo (lens.drop i) i bg fd = some res)
      ⟨bg, _, _, _, rfl, rfl, h1, by rw [flat_len]; exact Int.toNat_le.mpr hN, by rw [List.drop_zero, ← hgo]; simp⟩ (fun E oE I oI i lo nw hi ⟨bg, fd, p1, p2, e1, e2, h1, h3, h4⟩ => ?_) fun lo nw ⟨bg, fd, p1, p2, e1, e2, h1, h3, h4⟩ => ?_
    · subst e1 e2
      rw [List.drop_eq_getElem_cons hi] at h4
      have hg : lens.getD i 0 = lens[i] := by rw [List.getD_eq_getElem?_getD, List.getElem?_eq_getElem hi]; rfl
      rw [hg]
      generalize lens[i] = len at h4
      rcases sg_step h4 with ⟨g0, g1, g2, g3, g4⟩ | ⟨g0, g4⟩
      · have q4 : len < bg.length := by lia
        have q5 : len < 2 ^ 63 := by lia
        refine Ex.if1 (Tv.cmp (EE.loc okb (i := 3) rfl rfl) EE.int CpI.gt) (fun _ => ?_) fun h => absurd g0 h
        refine Ex.lset ok 2 (EE.loc okb (i := 5) rfl rfl) (EE.loc okb (i := 4) rfl rfl) (EE.item (EE.loc okb (i := 2) rfl rfl) (EE.loc okb (i := 3) rfl rfl) (In.at (i := 3) rfl) (Int.le_of_lt g0) q4 q5) rfl g2 g3 (by lia) ?_
        refine Ex.laug ok 3 (EE.loc okb (i := 2) rfl rfl) (EE.loc okb (i := 3) rfl rfl) EE.int rfl (Int.le_of_lt g0) q4 q5 OpJ.add ?_
        refine Ex.nil (R := thn _ _ _) ?_
        refine Ex.tend (nw2 := [(Df, IntL _), (Db, IntL _)]) [0, 1, 2, 3] 4 ?_
        exact ⟨_, _, _, _, rfl, rfl, by rw [List.length_set]; exact h1, by rw [List.length_set]; exact h3, g4⟩
      · refine Ex.if1 (Tv.cmp (EE.loc okb (i := 3) rfl rfl) EE.int CpI.gt) (fun h => absurd h g0) fun _ => ?_
        refine Ex.tend (nw2 := [(Df, IntL _), (Db, IntL _)]) [0, 1, 2, 3] 4 ?_
        exact ⟨_, _, _, _, rfl, rfl, h1, h3, g4⟩
    · subst e1 e2
      rw [List.drop_length, sgGo] at h4
      cases h4
      exact Ex.ret (Ev.k (EE.loc okb (i := 4) rfl rfl) (kk Df Db bg))
end Mine
end
section
open PySem PySem.W PySem.Calls PyProof.Rows
set_option maxRecDepth 100000
set_option maxHeartbeats 4000000
namespace Mine
noncomputable def Sl {α : Type} (K : (α → Prop) → Nw → Prop) (P : α → Prop) (nw : Nw) : Prop := ∃ nw2, Sel nw nw2 ∧ K P nw2
noncomputable def TupP (Ps : List AV) : AO := fun o => o.cls = .type "tuple" ∧ ∃ vs n, o.data = .seq (List.toArray vs) n ∧ AllV Ps vs
section
variable {c : Cx} {lo : Lo} {nw : Nw} {rest : List Stmt} {R : Fl → Lo → Nw → Prop}
theorem EvK.sl {α : Type} {T : Sem α} {K : (α → Prop) → Nw → Prop} (h : EvK c lo nw T (Sl K)) : EvK c lo nw T K := fun s hs Q q => h s hs Q fun P nw' v s' ⟨nw2, hsel, hK⟩ hP hs' => q P nw2 v s' hK hP (hs'.sel hsel)
theorem Sl.mk {α : Type} {K : (α → Prop) → Nw → Prop} {P : α → Prop} {nw nw2 : Nw} (is : List Nat) (k : Nat) (h : K P nw2) (n : autoParam (is.Nodup) Mine.aD) (hk : autoParam (∀ i ∈ is, i < k) Mine.aD) (e : autoParam (is.filterMap (nth nw) ++ nw.drop k = nw2) Mine.aR) : Sl K P nw := ⟨nw2, ⟨is, k, n, hk, e⟩, h⟩
theorem EK.tup {es : List Expr} {k : Nat} {pos : Pos} {K : AV → Nw → Prop} (h : EvA c lo nw pos es fun Ps nw1 => Ps.length ≤ 1000 ∧ ∀ D, K (Is (.ref D)) ((D, TupP Ps) :: nw1)) : EK c lo nw (.Tuple es k pos) K := fun s hs Q q =>
  Tuple_ (h s hs _ fun Ps nw1 vs s1 ⟨hl, kk⟩ hPs hs1 => by
    obtain ⟨m, ns, F, N, k1, k2⟩ := hs1.opn
    exact kup_newTuple F N (fun D h' F' N' lt => q _ _ _ _ (kk D) rfl (k2 h' s1.toks D _ (TupP Ps) F' N' lt ⟨rfl, vs, _, rfl, hPs⟩)) (by rw [sizeLine_eq, ← hPs.length]; exact Nat.le_trans hl (by decide)))
end
theorem st152 (w : World) {j : Nat} {x : Str} (h : nth cdN j = some x) : StOk w 152 x := by
  match j, h with
  | 0, h => cases h; exact ⟨by k_is, by k_is, by k_is, by k_is⟩
  | 1, h => cases h; exact ⟨by k_is, by k_is, by k_is, by k_is⟩
theorem mt_check (w : World) : MtOk w 152 (Str.ofString "check") 135 := ⟨by k_is, by k_is, by k_is⟩
theorem kp_check (w : World) : keepIn (HA.hd.heap_1_39 w.params) (.ref 135) = true := by k_is
theorem mt_sorted (w : World) : MtOk w 152 (Str.ofString "sorted_signs") 142 := ⟨by k_is, by k_is, by k_is⟩
theorem kp_sorted (w : World) : keepIn (HA.hd.heap_1_39 w.params) (.ref 142) = true := by k_is
theorem mk152 (w : World) : makesIn (HA.hd.heap_1_39 w.params) 152 = true := by k_is
theorem in152 (w : World) : findIn (HA.hd.heap_1_39 w.params) (.ref 152) (Str.ofString "__init__") = some (some (.ref 128)) := by k_is
theorem ty128 (w : World) : typeIn (HA.hd.heap_1_39 w.params) (.ref 128) = some (.type "function") := by k_is
theorem gl_codes (w : World) : nsIn (HA.hd.heap_1_39 w.params) mainGlobals (Str.ofString "Codes") = some (some (.ref 152)) := by k_is
theorem kp_codes (w : World) : keepIn (HA.hd.heap_1_39 w.params) (.ref 152) = true := by k_is
theorem cnt_step {l : Int} {r cnt res : List Int} (h : cntGo (l :: r) cnt = some res) : 0 ≤ l ∧ l ≤ 15 ∧ cntGo r (cnt.set l.toNat (cnt.getD l.toNat 0 + 1)) = some res := by
  change (if (decide (0 ≤ l) && decide (l ≤ 15)) = true then cntGo r (cnt.set l.toNat (cnt.getD l.toNat 0 + 1)) else none) = some res at h
  split at h
  · rename_i hc
    rw [Bool.and_eq_true] at hc
    exact ⟨of_decide_eq_true hc.1, of_decide_eq_true hc.2, h⟩
  · cases h
structure LenOk (lens counts signs : List Int) : Prop where
  ln : lens.length ≤ 300
  cnt : cntGo lens (List.replicate 16 0) = some counts
  cl : counts.length = 16
  z : counts.set 0 0 = counts
  chk : chkGo counts 15 1 1 = true
  srt : ∃ bgs, begGo counts 15 1 (List.replicate 17 0) = bgs ∧ 0 ≤ bgs.getD 16 0 ∧ bgs.getD 16 0 ≤ 300 ∧ sgGo lens 0 bgs (List.replicate (bgs.getD 16 0).toNat 0) = some signs
theorem lenOkL : LenOk lensL countsL signsL := ⟨by rw [lensL_len]; decide, cntL_eq, rfl, rfl, chkL, begsL, begL_eq, by decide, by decide, sgL_eq⟩
theorem lenOkD : LenOk lensD countsD signsD := ⟨by rw [lensD_len]; decide, cntD_eq, rfl, rfl, chkD, begsD, begD_eq, by decide, by decide, sgD_eq⟩
noncomputable def sCinit : Sx := sx false 128 [Str.ofString "self", Str.ofString "lengths", Str.ofString "is_distance", Str.ofString "can_be_lone", Str.ofString "length"]
theorem fn_cinit2 (w : World) : Fn w 128 sCinit 2 [.bool false, .bool true] (bodyF 128) := by
  refine ⟨⟨by kernel_rfl, by decide +kernel, by decide +kernel⟩, Nat.le_of_ble_eq_true rfl, ?_⟩
  refine ⟨_, _, _, _, _, _, _, _, _, _, _, _, by k_is, by (show codeIn _ _ (Str.ofString "Codes.__init__") = true; k_is), ?_, by decide +kernel, by kernel_rfl, by kernel_rfl⟩
  intro s vs hK h
  obtain ⟨a, b, rfl⟩ := vs2 h
  exact kp_binds hK (fun _ => rfl)
theorem fn_cinit3 (w : World) : Fn w 128 sCinit 3 [.bool true] (bodyF 128) := by
  refine ⟨⟨by kernel_rfl, by decide +kernel, by decide +kernel⟩, Nat.le_of_ble_eq_true rfl, ?_⟩
  refine ⟨_, _, _, _, _, _, _, _, _, _, _, _, by k_is, by (show codeIn _ _ (Str.ofString "Codes.__init__") = true; k_is), ?_, by decide +kernel, by kernel_rfl, by kernel_rfl⟩
  intro s vs hK h
  obtain ⟨a, b, c, rfl⟩ := vs3 h
  exact kp_binds hK (fun _ => rfl)
theorem cinit_h {V : Vx} (ok : Ok ⟨sCinit, V⟩) (hdp : V.dp < 900) {c cx l : Addr} {lens counts signs : List Int} {P1 P2 : AV} (hc : At V.h₀ c (InstP 152 cx)) (hll : At V.h₀ l (IntL lens)) (hL : LenOk lens counts signs)
    {K : AV → Nw → Prop} (kk : ∀ ls E nb lc, K (Is .none) [(ls, IntL signs), (E, IntL nb), (lc, IntL counts), (cx, CdP lc ls)]) : Ex ⟨sCinit, V⟩ [some (Is (.ref c)), some (Is (.ref l)), some P1, some P2, none] [(cx, FldP [] [])] (bodyF 128) (fun fl _ nw' => K fl.av nw') := by
  have okb := ok.toOkB
  have hci : ∀ nw, In ⟨sCinit, V⟩ nw c (InstP 152 cx) := fun _ => .inr hc
  obtain ⟨hln, hcnt, hcl, hz, hchk, bgs, hbg, hN0, hN, hsg⟩ := hL
  refine Ex.anew ok 1 (st152 _ (j := 0) rfl) (by decide) (EK.rep1 EE.int (fun D => EE.bin (EE.most okb) EE.int OpI.add) (by decide) (by decide) fun Dc => ⟨(EE.loc okb (i := 0) rfl rfl), hci _, rfl, ?_⟩)
  refine Ex.forB ok (ix := 4) rfl (EE.loc okb (i := 1) rfl rfl) hll
    (Lp.mk (fun x => [some (Is (.ref c)), some (Is (.ref l)), some P1, some P2, x.p1]) (fun x => [(Dc, IntL x.l1), (cx, CtP Dc)]) (fun i x => x.l1.length = 16 ∧ cntGo (lens.drop i) x.l1 = some counts)
      { l1 := (List.replicate 16 [(0 : Int)]).flatten } ⟨rfl, hcnt⟩ (fun I oI i x hi hx' => ?_) fun x hx' => ?_)
  · obtain ⟨h1, h2⟩ := hx'
    rw [List.drop_eq_getElem_cons hi] at h2
    have hg : lens.getD i 0 = lens[i] := by rw [List.getD_eq_getElem?_getD, List.getElem?_eq_getElem hi]; rfl
    rw [hg]
    generalize lens[i] = len at h2
    obtain ⟨g0, g1, g2⟩ := cnt_step h2
    have q1 : len < x.l1.length := by lia
    have q2 : len < 2 ^ 63 := by lia
    refine Ex.ifB (Tv.or (Tv.cmp (EE.loc okb (i := 4) rfl rfl) EE.int CpI.lt) fun _ => Tv.or (Tv.cmp (EE.loc okb (i := 4) rfl rfl) (EE.most okb) CpI.gt) fun _ => Tv.orN) (fun h => ?_) fun _ => Ex.nil (R := thn _ _ _) ?_
    · rw [decide_eq_false (Int.not_lt.mpr g0), decide_eq_false (Int.not_lt.mpr g1)] at h; cases h
    · refine Ex.laug ok 1 (EE.ct okb (EE.loc okb (i := 0) rfl rfl) (hci _) (In.at (i := 2) rfl)) (EE.loc okb (i := 4) rfl rfl) EE.int rfl g0 q1 q2 OpJ.add ?_
      exact Ex.tendS { l1 := x.l1.set len.toNat (x.l1.getD len.toNat 0 + 1), p1 := _ } [0, 1, 2] 3 ⟨by rw [List.length_set]; exact h1, g2⟩
  · obtain ⟨h1, h2⟩ := hx'
    rw [List.drop_length] at h2
    change some x.l1 = some counts at h2
    have h2 := Option.some.inj h2
    refine Ex.lset ok 0 EE.int (EE.ct okb (EE.loc okb (i := 0) rfl rfl) (hci _) (In.at (i := 1) rfl)) EE.int rfl (by decide) (by lia) (by decide) ?_
    rw [h2, show counts.set (0 : Int).toNat 0 = counts from hz]
    refine Ex.expr (EK.meth ok (EE.loc okb (i := 0) rfl rfl) (hci _) (In.at (i := 1) rfl) (mt_check _) (kp_check _) (by decide +kernel) (EvA.p (EE.loc okb (i := 2) rfl rfl) (EvA.p (EE.loc okb (i := 3) rfl rfl) (EvA.nil (CN.k (CN.callZ okb (conM (fn_check _)) (Nat.lt_trans hdp (by decide)) rfl [] [0, 1] 2 (nw₀ := []) rfl fun V' e1 e2 e3 ro okV =>
      check_h okV (P1 := P1) (P2 := P2) (ro _ _ (.inl hc)) (ro _ _ (Ro.at 1 rfl)) (ro _ _ (Ro.at 0 rfl)) hcl hchk ?_))))))
    refine Ex.anew ok (xs := [Str.ofString "counts"]) (Ps := [Is (.ref Dc)]) 3 (st152 _ (j := 1) rfl) (by decide +kernel) (EK.meth ok (EE.loc okb (i := 0) rfl rfl) (hci _) (In.at (i := 1) rfl) (mt_sorted _) (kp_sorted _) (by decide +kernel) (EvA.p (EE.loc okb (i := 1) rfl rfl) (EvA.nil (CN.k (CN.callZ okb (conM (fn_sorted _)) (Nat.lt_trans hdp (by decide)) rfl [] [0, 1] 2 (nw₀ := []) rfl fun V' e1 e2 e3 ro okV =>
      sorted_h okV (ro _ _ (.inl hc)) (ro _ _ (Ro.at 1 rfl)) (ro _ _ (Ro.at 0 rfl)) (ro _ _ (.inl hll)) hcl hln hbg hN0 hN hsg fun D E nb => ⟨(EE.loc okb (i := 0) rfl rfl), hci _, rfl, ?_⟩)))))
    exact Ex.nil (kk D E nb Dc)
noncomputable def sFixed : Sx := sx false 163 [Str.ofString "lengths"]
theorem fn_fixed (w : World) : Fn w 163 sFixed 0 [] (bodyF 163) := by
  refine ⟨⟨by kernel_rfl, by decide +kernel, by decide +kernel⟩, Nat.le_of_ble_eq_true rfl, ?_⟩
  refine ⟨_, _, _, _, _, _, _, _, _, _, _, _, by k_is, by (show codeIn _ _ (Str.ofString "fixed_codes") = true; k_is), ?_, by decide +kernel, by kernel_rfl, by kernel_rfl⟩
  intro s vs hK h
  cases vs with
  | nil => exact BindsTo.of_eq rfl
  | cons => cases h
noncomputable abbrev fixT (t c1 ls1 lc1 x1 c2 ls2 lc2 x2 : Addr) : Nw := [(t, TupP [Is (.ref c1), Is (.ref c2)]), (c2, InstP 152 x2), (ls2, IntL signsD), (lc2, IntL countsD), (x2, CdP lc2 ls2), (c1, InstP 152 x1), (ls1, IntL signsL), (lc1, IntL countsL), (x1, CdP lc1 ls1)]
theorem fixed_h {V : Vx} (ok : Ok ⟨sFixed, V⟩) (hdp : V.dp < 850) {K : AV → Nw → Prop} (kk : ∀ t c1 ls1 lc1 x1 c2 ls2 lc2 x2, K (Is (.ref t)) (fixT t c1 ls1 lc1 x1 c2 ls2 lc2 x2)) : Ex ⟨sFixed, V⟩ [none] [] (bodyF 163) (fun fl _ nw' => K fl.av nw') := by
  have okb := ok.toOkB
  refine Ex.asg ok (i := 0) rfl (EK.cat (EK.cat (EK.cat (EK.rep1 EE.int (fun _ => EE.int) (by decide) (by decide) fun D1 => ⟨D1, rfl, EK.rep1 EE.int (fun _ => EE.int) (by decide) (by decide) fun D2 => ⟨D2, _, _, rfl, In.at (i := 1) rfl, In.at (i := 0) rfl, by decide +kernel, fun D3 => ⟨D3, rfl, EK.rep1 EE.int (fun _ => EE.int) (by decide) (by decide) fun D4 => ⟨D4, _, _, rfl, In.at (i := 1) rfl, In.at (i := 0) rfl, by decide +kernel, fun D5 => ⟨D5, rfl, EK.rep1 EE.int (fun _ => EE.int) (by decide) (by decide) fun D6 => ⟨D6, _, _, rfl, In.at (i := 1) rfl, In.at (i := 0) rfl, by decide +kernel, fun D7 => ?_⟩⟩⟩⟩⟩⟩))))
  refine Ex.sel [0] 7 (nw2 := [(D7, IntL lensL)]) ?_
  refine Ex.ret (EvK.sl (EK.tup (EvA.cons (EK.callG ok (EE.glob okb (gl_codes _) (by kernel_rfl)) (kp_codes _) (EvA.p (EE.loc okb (i := 0) rfl rfl) (EvA.nil (CN.k (CN.callZ okb (mkM (mk152 _) (in152 _) (ty128 _) (conM (fn_cinit2 _))) (Nat.lt_trans hdp (by decide)) rfl [] [0] 1 (nw₀ := []) rfl fun V' e1 e2 e3 ro =>
    ⟨dpL e2 hdp (by decide), fun x dx hx okV => cinit_h okV (P1 := Is (.bool false)) (P2 := Is (.bool true)) (dpL2 e2 hdp (by decide)) ⟨_, hx, rfl⟩ (ro _ _ (Ro.at 0 rfl)) lenOkL fun ls1 E1 nb1 lc1 => ⟨fun _ h => h, ?_⟩⟩))))) )))
  refine EvA.cons (EK.callG ok (EE.glob okb (gl_codes _) (by kernel_rfl)) (kp_codes _) (EvA.cons (EK.rep1 EE.int (fun _ => EE.int) (by decide) (by decide) fun D8 => EvA.p EE.bool (EvA.nil (CN.k (CN.callZ okb (mkM (mk152 _) (in152 _) (ty128 _) (conM (fn_cinit3 _))) (Nat.lt_trans hdp (by decide)) rfl [] [0, 1, 2, 3, 4, 5, 6] 7 (nw₀ := []) rfl fun V2 f1 f2 f3 ro2 =>
    ⟨dpL f2 hdp (by decide), fun x2 dx2 hx2 okV2 => cinit_h okV2 (P1 := Is (.bool true)) (P2 := Is (.bool true)) (dpL2 f2 hdp (by decide)) ⟨_, hx2, rfl⟩ (ro2 _ _ (Ro.at 0 rfl)) lenOkD fun ls2 E2 nb2 lc2 => ⟨fun _ h => h, ?_⟩⟩)))))) 
  exact EvA.nil ⟨Nat.le_of_ble_eq_true rfl, fun t => Sl.mk [0, 1, 2, 4, 5, 7, 8, 10, 11] 13 (kk t x ls1 lc1 dx x2 ls2 lc2 dx2)⟩
end Mine
end
section
open PySem PySem.W PySem.Calls PyProof.Rows
set_option maxRecDepth 100000
set_option maxHeartbeats 4000000
namespace Mine
theorem size8 {n : Nat} (h : n ≤ 4000) : Builtin.Range.rangeSize 0 ((8 * n : Nat) : Int) 8 = (n : Int) := by
  unfold Builtin.Range.rangeSize
  rw [if_pos (by decide)]
  split <;> omega
theorem small8 {n : Nat} (h : n ≤ 4000) : Builtin.Range.small 0 ((8 * n : Nat) : Int) 8 = true := by
  unfold Builtin.Range.small
  rw [size8 h]
  generalize hN : ((8 * n : Nat) : Int) = N
  have h1 : 0 ≤ N := by omega
  have h2 : N ≤ 32000 := by omega
  clear hN
  simp only [Builtin.Range.rangeFitsLong, Bool.and_eq_true, Bool.or_eq_true, decide_eq_true_eq, beq_iff_eq, show (8 : Int) > 0 by decide, if_true]
  refine ⟨⟨⟨⟨⟨?_, ?_⟩, ?_, ?_⟩, ?_, ?_⟩, ?_, ?_⟩, .inr ⟨?_, ?_⟩⟩ <;> lia
theorem pow8 : ∀ k, k < 8 → (2 : Int) ^ k ≤ 128 := by decide
theorem sum_mul2 (f : Nat → Int) : ∀ l : List Nat, (l.map fun j => 2 * f j).sum = 2 * (l.map f).sum
  | [] => rfl
  | a :: l => by rw [List.map_cons, List.sum_cons, sum_mul2 f l, List.map_cons, List.sum_cons, Int.mul_add]
theorem valLE_sum : ∀ (n : Nat) (l : List Int), l.length = n → ((List.range n).map fun j => l.getD j 0 * 2 ^ j).sum = valLE l
  | 0, l, h => by rw [List.length_eq_zero_iff.mp h]; rfl
  | n + 1, l, h => by
    match l, h with
    | a :: l, h =>
      rw [List.range_succ_eq_map, List.map_cons, List.sum_cons, List.map_map, valLE, ← valLE_sum n l (Nat.succ.inj h)]
      have e : ((fun j => (a :: l).getD j 0 * 2 ^ j) ∘ Nat.succ) = fun j => 2 * (l.getD j 0 * 2 ^ j) := by
        funext j
        show (a :: l).getD (j + 1) 0 * 2 ^ (j + 1) = _
        rw [List.getD_cons_succ, Int.pow_succ]; simp only [Int.mul_comm, Int.mul_left_comm]
      rw [e, sum_mul2]
      show a * 2 ^ 0 + _ = _
      rw [Int.pow_zero, Int.mul_one]
theorem sum8 {P : List Int} {i : Nat} (h : 8 * i + 8 ≤ P.length) : ((List.range 8).map fun j => P.getD (8 * i + j) 0 * 2 ^ j).sum = valLE ((P.drop (8 * i)).take 8) := by
  rw [← valLE_sum 8 _ (by rw [List.length_take, List.length_drop]; omega)]
  refine congrArg List.sum (List.map_congr_left fun j hj => ?_)
  have hj := List.mem_range.mp hj
  rw [List.getD_eq_getElem?_getD, List.getD_eq_getElem?_getD, List.getElem?_take_of_lt hj, List.getElem?_drop]
theorem octs_range : ∀ (n : Nat) {P : List Int}, 8 * n ≤ P.length → (List.range n).map (fun i => ((List.range 8).map fun j => P.getD (8 * i + j) 0 * 2 ^ j).sum) = octs n P
  | 0, _, _ => rfl
  | n + 1, P, h => by rw [show List.range (n + 1) = List.range n ++ [n] from List.range_succ, List.map_append, octs_range n (by omega), octs_snoc, List.map_cons, List.map_nil, sum8 (by omega)]
noncomputable def sOctL : Sx := sx false 280 []
theorem fn_oct (w : World) : FnC w 280 sOctL 0 (Str.ofString "bits") (bodyF 280) := by
  refine ⟨⟨by kernel_rfl, by decide +kernel, by decide +kernel⟩, rfl, Nat.le_refl _, fun L => by kernel_rfl, by kernel_rfl, by kernel_rfl, _, _, _, _, _, _, _, _, _, _, _, _, by k_is, by (show codeIn _ _ (Str.ofString "_law_octets") = true; k_is), fun s v0 vs h => ?_⟩
  obtain rfl := List.length_eq_zero_iff.mp h
  exact ⟨BindsTo.of_eq rfl, by kernel_rfl, fun L => ⟨by kernel_rfl, fun i x v hx hv => nomatch hv⟩⟩
theorem oct_h {V : Vx} (ok : Ok ⟨sOctL, V⟩) (hdp : V.dp < 880) (hcl : V.cl = [(Str.ofString "bits", V.L + 1)]) {b : Addr} {bs : List Int} (hl : bs.length ≤ 1000) (h01 : is01 bs) {K : AV → Nw → Prop}
    (kk : ∀ arr, KBw.bInts arr = octE bs → K (By arr) [(b, IntL bs)]) :
    Ex ⟨sOctL, V⟩ [] [(V.L + 1, CellP (.ref b)), (b, IntL bs)] (bodyF 280) (fun fl _ nw' => K fl.av nw') := by
  obtain ⟨vw, vdp, vun, vout, vG, vL, vfa, vcd, vcl, vh, vs, vEr, vE, vmf⟩ := V
  dsimp only at hcl hdp kk
  subst hcl
  have okb := ok.toOkB
  have hq := pad_small bs.length
  have hpl := padded_len bs
  refine Ex.asgC ok (i := 3) rfl (EK.cat (Ev.k (EE.cell okb (i := 0) rfl rfl) ⟨b, rfl, EK.rep (EK.list (EvA.p EE.int (EvA.nil ⟨[0], rfl, by decide, fun a1 => ⟨a1, [0], _, rfl, In.at (i := 0) rfl, EE.bin (EE.neg (EE.len (EE.lenN okb) (EE.cell okb (i := 1) rfl rfl) (In.at (i := 2) rfl) (by omega))) EE.int (OpI.modP (by decide)), hq.1, by omega, by decide, fun D2 =>
      ⟨D2, _, _, rfl, In.at (i := 3) rfl, In.at (i := 0) rfl, by rw [flat_rep, List.length_replicate]; omega, fun D3 => ⟨_, rfl, rfl, ?_⟩⟩⟩⟩)))⟩))
  have hp01 := is01_padded h01
  rw [flat_rep]
  refine Ex.sel [3, 0, 4] 5 (nw2 := [(vL + 1, CellP (.ref D3)), (D3, IntL (padded bs)), (b, IntL bs)]) ?_
  obtain ⟨n, hn⟩ : ∃ n, (padded bs).length = 8 * n := ⟨(padded bs).length / 8, by omega⟩
  have hn2 : n ≤ 200 := by omega
  have hoE : octs n (padded bs) = octE bs := by unfold octE; rw [hn, Nat.mul_div_cancel_left _ (by decide)]
  generalize padded bs = P at hp01 hn hoE hpl
  have hP9 : P.length ≤ 1000000 := by omega
  have hr := octs_range n (P := P) (by omega)
  refine Ex.ret (EvK.sl (EK.byL okb (EvN.k (EvN.compC (a := 0) (b := (P.length : Int)) (st := 8) (n := n) (g := fun i => ((List.range 8).map fun j => P.getD (8 * i + j) 0 * 2 ^ j).sum) rfl rfl (by decide +kernel) (by kernel_rfl) (fun k => by kernel_rfl) (fun h => by kernel_rfl) (by rw [hn]; exact small8 (by omega)) (by rw [hn]; exact size8 (by omega)) (by rw [sizeLine_eq]; omega)
    (it_range3 (EE.rangeN okb) EE.int (EE.len (EE.lenN okb) (EE.cell okb (i := 0) rfl rfl) (In.at (i := 1) rfl) hP9) EE.int (by decide) (PyProof.noPylong_small (by decide))) (fun X C D I i oD oI t hi => ?_) fun D => ⟨D, _, rfl, In.at (i := 0) rfl, ?_, ?_, ?_⟩))))
  · refine Ev.sum (Ev.cblt okb (gl_sum _) boot_sum) (EvN.compU okb (n := 8) (g := fun j => P.getD (8 * i + j) 0 * 2 ^ j) (fun m => Ev.cblt (okb.fix m) (gl_range _) boot_range) (fun m => Ev.cint) (by decide) rfl (by decide +kernel) rfl (by decide +kernel) rfl (fun m I2 oI2 C2 oC2 D2 oD2 m2 j v hj hC hx hv => ?_) fun D => ⟨D, rfl, rfl⟩)
    have e1 : ((0 + (i : Int) * 8) + (0 + (j : Int))).toNat = 8 * i + j := by omega
    have e2 : (0 + (j : Int)).toNat = j := by omega
    have hp := pow8 j hj
    have hp0 : (0 : Int) < 2 ^ j := Int.pow_pos (by decide)
    have e : P.getD (8 * i + j) 0 * 2 ^ j = P.getD ((0 + (i : Int) * 8) + (0 + (j : Int))).toNat 0 * 2 ^ (0 + (j : Int)).toNat := by rw [e1, e2]
    rw [e]
    exact Ev.bin (Ev.item (Ev.ccell (i := 7) rfl rfl) (Ev.bin (Ev.ccellI (i := 3) rfl rfl) (Ev.cown (i := 1) rfl hC hx hv) OpI.add) (In.at (i := 8) rfl) (by omega) (by omega) (by omega)) (Ev.bin Ev.cint (Ev.cown (i := 1) rfl hC hx hv) (OpI.pow (by omega) (by omega) (by decide))) (OpI.mulR (by rw [e2]; omega) (by rw [e2]; omega))
  · rw [hr]; exact octs_byte _ _ hp01
  · rw [hr, octs_len]; omega
  · rw [hr]
    exact Sl.mk [3] 4 (kk _ ((KBa.ints_make (octs_byte _ _ hp01)).trans hoE))
noncomputable def OctB (V : Vx) (Ps : List AV) (nw₀ : Nw) (KR : AV → Nw → Prop) : Prop := V.dp < 880 ∧ ∃ b bs, Ps = [Is (.ref b)] ∧ nw₀ = [(b, IntL bs)] ∧ bs.length ≤ 1000 ∧ is01 bs ∧ ∀ arr, KBw.bInts arr = octE bs → KR (By arr) [(b, IntL bs)]
theorem octM (w : World) : Callee false w 280 1 OctB := Callee.mono (cellM (fn_oct w)) fun V Ps nw₀ KR e1 ⟨h1, b, bs, e2, e3, hl, h01, k⟩ v0 P0 Ps' eP h0 hcl ok => by
  subst e2 e3
  cases eP
  cases h0
  exact @oct_h _ ok h1 hcl _ _ hl h01 _ k
end Mine
end
section
open PySem PySem.W PySem.Calls PyProof.Rows
set_option maxRecDepth 100000
set_option maxHeartbeats 4000000
namespace Mine
inductive PairsOk : List Str → List AV → List (Value × Value) → Prop
  | nil : PairsOk [] [] []
  | cons {x : Str} {t : Tok} {P : AV} {v : Value} {ks : List Str} {Ps : List AV} {vs : List (Value × Value)} : P v → PairsOk ks Ps vs → PairsOk (x :: ks) (P :: Ps) ((.str x t, v) :: vs)
theorem PairsOk.str {ks : List Str} {Ps : List AV} {vs : List (Value × Value)} (h : PairsOk ks Ps vs) : allStrKeys vs = true ∧ strPairs vs = ks.zip (vs.map (·.2)) ∧ AllV Ps (vs.map (·.2)) ∧ ks.length = (vs.map (·.2)).length := by
  induction h with
  | nil => exact ⟨rfl, rfl, .nil, rfl⟩
  | @cons x t P v ks Ps vs hP _ ih => exact ⟨ih.1, congrArg ((x, v) :: ·) ih.2.1, .cons hP ih.2.2.1, congrArg Nat.succ ih.2.2.2⟩
noncomputable def DctE (w : World) : AO := fun o => o.IsDictOf (strKind PySem.Challenge.rw_pb0114_01.row.prog w) []
noncomputable def EvP (c : Cx) (lo : Lo) (nw : Nw) (pos : Pos) (keys : List (Option Expr)) (es : List Expr) (K : List Str → List AV → Nw → Prop) : Prop :=
  ∀ s, St c lo nw s → ∀ (Q : List (Value × Value) → Shared → Prop), (∀ ks Ps nw' vs s', K ks Ps nw' → PairsOk ks Ps vs → St c lo nw' s' → Q vs s') → wpAny c.M c.A (evalPairs (pairTrees keys es c.env pos)) Q c.V.E s
section
variable {c : Cx} {lo : Lo} {nw : Nw} {env : Env}
theorem EvP.nil {pos : Pos} {K : List Str → List AV → Nw → Prop} (h : K [] [] nw) : EvP c lo nw pos [] [] K := fun s hs Q q => pairTrees_nil_walk (q _ _ _ _ _ h .nil hs)
theorem EvP.cons {pos p : Pos} {x : Str} {k : Nat} {e : Expr} {keys : List (Option Expr)} {es : List Expr} {K : List Str → List AV → Nw → Prop} (h : EK c lo nw e fun P nw1 => EvP c lo nw1 pos keys es fun ks Ps nw2 => K (x :: ks) (P :: Ps) nw2) : EvP c lo nw pos (some (.Constant (.str x) k p) :: keys) (e :: es) K := fun s hs Q q =>
  pairTrees_cons_walk (Constant_str (h _ (hs.tok (tk := s.toks + 1)) _ fun P nw1 v s1 h1 hP hs1 => h1 s1 hs1 _ fun ks Ps nw2 vs s2 h2 hPs hs2 => q _ _ _ _ _ h2 (.cons hP hPs) hs2))
theorem EK.dctG (ok : OkB c) {pos : Pos} {keys : List (Option Expr)} {es : List Expr} {K : AV → Nw → Prop} (h : ∀ d, EvP c lo ((d, DctE c.V.w) :: nw) pos keys es fun ks Ps nw1 => ∃ i, nth nw1 i = some (d, DctE c.V.w) ∧ ks.Nodup ∧ K (Is (.ref d)) (Mine.put nw1 i (d, DctP c.V.w ks Ps)))
    (hk : autoParam ((strLits keys && keys.all (·.isSome) && Nat.beq keys.length es.length && Nat.ble 1 keys.length && Nat.ble keys.length 15) = true) Mine.aK) : EK c lo nw (.Dict keys es pos) K := fun s hs Q q => by
  simp only [Bool.and_eq_true] at hk
  obtain ⟨⟨⟨⟨h1, h2⟩, h3⟩, h4⟩, h5⟩ := hk
  have h3 := Nat.eq_of_beq_eq_true h3
  have h4 : keys ≠ [] := fun e => by subst e; cases h4
  have h5 := Nat.le_of_ble_eq_true h5
  obtain ⟨m, ns, F, N, k1, k2⟩ := hs.opn
  obtain ⟨p, loose, mean, mg, mb, _, T0⟩ := ok.T
  refine kdn_str h1 F N (Top.nolimit T0) h2 h3 h4 h5 fun d h' o F' N' lt lo' hd => ?_
  have hs1 := k2 h' s.toks d o (DctE c.V.w) F' N' lt hd
  refine h d _ hs1 _ fun ks Ps nw1 vs s2 ⟨i, hi, hn, kk⟩ hPs hs2 => ?_
  obtain ⟨a1, a2, a3, a4⟩ := hPs.str
  obtain ⟨m6, ns6, o6, g, F6, N6, hd6, _, U, _, fin⟩ := hs2.upd hi
  exact kdn_made_str F6 N6 U hd6 a1 (by rw [a2, zip_keys a4]; exact hn) fun h' o' F' N' hd' => q _ _ _ _ kk rfl (fin h' _ o' _ F' N' ⟨vs.map (·.2), a2 ▸ hd', a3, a4⟩)
theorem EvN.sliceL {o e : Expr} {pos p : Pos} {a : Addr} {ns : List Int} {b : Int} {K : AV → Nw → Prop} (ho : Ev c lo nw (eval o env) (Is (.ref a))) (he : Ev c lo nw (eval e env) (It b)) (hi : ∀ s, St c lo nw s → ∃ vs, s.heap.IsList a (List.toArray vs) ∧ IntsAre vs ns) (hb : 0 ≤ b) (hl : ns.length ≤ 1000000) (k : ∀ D, K (Is (.ref D)) ((D, IntL (ns.take b.toNat)) :: nw))
    (hs1 : autoParam (∀ (z : Addr), subscripted (.Slice Option.none (some e) Option.none p) false (.ref a) (.ref z) = operate [.ref z, .ref a] (getItem (.ref a) (.ref z))) Mine.aW1) (ht : autoParam (∀ r, letTemporaryGo o (.ref a) r = pure ()) Mine.aW1) : EvN c lo nw (eval (.Subscript o (.Slice Option.none (some e) Option.none p) pos) env) K := fun s hs Q E q =>
  Subscript_ (ho s hs _ _ fun v s1 hv hs1' => wpAny_Slice (evalPart_none_step (evalPart_some_step (he s1 hs1' _ _ fun v2 s2 hv2 hs2' => evalPart_none_step (by
    cases hv
    obtain ⟨u2, rfl⟩ := hv2
    obtain ⟨m, nn, F, N, k1, k2⟩ := hs2'.opn
    obtain ⟨vs, hl', hI⟩ := hi s2 hs2'
    refine kms_slice_lit F N hl' .none (.int b u2) (zs := vs.take b.toNat) ?_ (fun D h' F' N' lt => q _ _ _ _ (k D) rfl (k2 h' s2.toks D _ (IntL (ns.take b.toNat)) F' N' lt ⟨_, 0, rfl, hI.take b.toNat⟩)) (hs1 _) ht (by rw [sizeLine_eq, List.size_toArray, hI.length]; omega)
    show (vs.drop 0).take (kms_hi (some b) vs.length - 0) = _
    rw [List.drop_zero, Nat.sub_zero]
    show vs.take (if b < 0 then _ else min b.toNat vs.length) = _
    rw [if_neg (by omega)]
    exact (List.take_eq_take_min).symm)))))
theorem In.lst {a : Addr} {ns : List Int} (h : In c nw a (IntL ns)) : ∀ s, St c lo nw s → ∃ vs, s.heap.IsList a (List.toArray vs) ∧ IntsAre vs ns := fun s hs => by
  obtain ⟨o, e, p⟩ := h.get hs
  exact p.isList e
theorem Ev.int {x : Str} {xp pos : Pos} {e : Expr} {z : Int} (hf : Ev c lo nw (eval (.Name x xp) env) (Is (.type "int"))) (ha : Ev c lo nw (eval e env) (It z))
    (he : autoParam (starEach [e] env = (false, eval e env) :: starEach [] env) Mine.aR)
    (hc : autoParam (eval (.Call (.Name x xp) [e] [] pos) env = (do callWith pos (← eval (.Name x xp) env) [] (backTo pos (starEach [e] env)) (backToKw pos (keywordEach [] env)))) Mine.aR) : Ev c lo nw (eval (.Call (.Name x xp) [e] [] pos) env) (It z) := fun s hs Q E q => by
  refine Call_ (hf s hs _ _ fun v s1 hv hs1 => ?_) hc
  cases hv
  refine PySem.Pv.callWith_type1 (args_cons (ha s1 hs1 _ _ fun v s2 hv hs2 => args_nil ?_) he) he rfl
  obtain ⟨t, rfl⟩ := hv
  exact call_int_int (q _ _ ⟨_, rfl⟩ hs2)
theorem EvN.compL (ok : OkB c) {env : Env} {x : Str} {px pos : Pos} {elt iter : Expr} {scope : Scope} {cl : List (Str × Addr)} {ns : List Int} {g : Int → Int} {K : AV → Nw → Prop} (hit : ∀ m, EvN (c.fix m) lo nw (eval iter env) fun P nw1 => ∃ l, P = Is (.ref l) ∧ nw1 = (l, IntL ns) :: nw) (hn1 : ns.length ≤ 1000)
    (hclos : closureFor scope env = pure cl) (hcell : ∀ z ∈ scope.names, z.2 ≠ .cell) (hkind : scope.kind = .function)
    (hnames : ∀ z ∈ scope.names, z.2 = .local → scope.names.lookup z.1 = some .local) (hx : scope.names.lookup x = some .local)
    (turn : ∀ m l o I oI C oC D oD m₂ z v, LCg.NsObj oC m₂ → m₂ x = some v → It z v → Ev (c.fix m) lo ((I, Eo oI) :: (C, Eo oC) :: (D, Eo oD) :: (l, Eo o) :: nw) (eval elt (compEnvC scope cl C env)) (It (g z)))
    (k : ∀ D l, K (Is (.ref D)) ((D, IntL (ns.map g)) :: (l, IntL ns) :: nw)) (hf : autoParam (∀ x, foldedSetIterable iter env x = pure x) Mine.aIr) :
    EvN c lo nw (eval (.ListComp elt [⟨.Name x px, iter, [], 0⟩] scope pos) env) K := fun s hs Q E q => by
  obtain ⟨hh, tk0, m, ob, rfl, F, l, N, oo, nd⟩ := hs
  have l' : LocC (c.fix m) lo m := ⟨l.1, rfl⟩
  have hs1 : St (c.fix m) lo nw { c.V.s₀ with heap := hh, toks := tk0 } := ⟨hh, tk0, m, ob, rfl, F, l', N, oo, nd⟩
  have hm : ∀ {nw : Nw} {s : Shared}, St (c.fix m) lo nw s → ∃ (h : Heap) (tk : Nat) (ob : Addr → Obj), s = { c.V.s₀ with heap := h, toks := tk } ∧ Fr c.V.h₀ c.V.L h m ∧ News c.V.h₀ c.V.L h (nw.map fun e => (e.1, ob e.1)) ∧ (∀ e ∈ nw, e.2 (ob e.1)) ∧ (adr nw).Nodup := fun ⟨hh, tk0, m', ob, e, F, l, N, oo, nd⟩ => by
    have : m' = m := l.2
    subst this
    exact ⟨hh, tk0, ob, e, F, N, oo, nd⟩
  refine LCg.ListComp_U (L := c.V.L) (h₀ := c.V.h₀) F hclos hcell hkind hnames hx (hit m _ hs1 _ _ fun P nw1 v s1 ⟨la, eP, en⟩ hv hs1 => ?_) hf
  subst eP en; cases hv
  obtain ⟨o0, ⟨its, n0, rfl, hI0⟩, hs2⟩ := hs1.exact
  obtain ⟨h2, tk2, ob2, rfl, F2, N2, oo2, nd2⟩ := hm hs2
  have hl0 := hI0.length
  have hsz : (List.toArray its).size = ns.length := by rw [List.size_toArray, hl0]
  have e0 : ob2 la = listOf (List.toArray its) n0 := oo2 _ (.head _)
  have N3 : News c.V.h₀ c.V.L h2 ((la, listOf (List.toArray its) n0) :: nw.map fun e => (e.1, ob2 e.1)) := by
    have z := N2
    rw [List.map_cons] at z
    dsimp only at z
    rw [e0] at z
    exact z
  refine LCg.CompSrc.ledger (k := n0) rfl F2 N3 (.head _) (by rw [hsz, sizeLine_eq]; omega) ?_
  intro gg
  rw [hsz]
  refine compRest_of (fun i ysv nx => IntsAre ysv ((ns.take i).map g) ∧ ∃ ob : Addr → Obj, nx = (la, listOf (List.toArray its) n0) :: nw.map (fun e => (e.1, ob e.1)) ∧ (∀ e ∈ nw, e.2 (ob e.1)) ∧ (adr ((la, IntL ns) :: nw)).Nodup) ?_ ?_ _ 0 [] _ (Nat.zero_add _) ⟨.nil, ob2, rfl, fun e he => oo2 e (.tail _ he), nd2⟩
  · rintro i ysv nx hi ⟨hI, ob, rfl, oo, nd⟩ v I oI C oC D m₂ h tk E' hv hC hxv F N off ⟨ne1, ne2, ne3⟩
    have offm := off.mem
    have hst : St (c.fix m) lo ((I, Eo oI) :: (C, Eo oC) :: (D, Eo (LCg.lst ysv)) :: (la, Eo (listOf (List.toArray its) n0)) :: nw) { c.V.s₀ with heap := h, toks := tk } := by
      refine St.build (c := c.fix m) F l' (fun e he => ?_) ?_
      · rcases List.mem_cons.mp he with rfl | he
        · have z := N _ (.head _); exact ⟨⟨_, z.1, rfl⟩, z.2⟩
        rcases List.mem_cons.mp he with rfl | he
        · have z := N _ (.tail _ (.head _)); exact ⟨⟨_, z.1, rfl⟩, z.2⟩
        rcases List.mem_cons.mp he with rfl | he
        · have z := N _ (.tail _ (.tail _ (.head _))); exact ⟨⟨_, z.1, rfl⟩, z.2⟩
        rcases List.mem_cons.mp he with rfl | he
        · have z := N _ (.tail _ (.tail _ (.tail _ (.head _)))); exact ⟨⟨_, z.1, rfl⟩, z.2⟩
        · have z := N _ (.tail _ (.tail _ (.tail _ (.tail _ (List.mem_map.mpr ⟨e, he, rfl⟩)))))
          exact ⟨⟨_, z.1, oo e he⟩, z.2⟩
      · have k : ∀ a ∈ adr ((la, IntL ns) :: nw), a ≠ I ∧ a ≠ C ∧ a ≠ D := fun a ha => by
          rcases List.mem_cons.mp ha with rfl | ha
          · exact offm _ (.head _)
          · obtain ⟨x, hx, rfl⟩ := List.mem_map.mp ha
            exact offm (x.1, ob x.1) (.tail _ (List.mem_map.mpr ⟨x, hx, rfl⟩))
        exact nodup3 ne1 ne2 ne3 k nd
    have hz : It (ns.getD i 0) v := ints_nth hI0 (by simpa using hv)
    refine turn m la _ I oI C oC D _ _ _ v hC hxv hz _ hst _ _ fun v' s' hv' hs' => ?_
    obtain ⟨t', rfl⟩ := hv'
    obtain ⟨h4, tk4, ob4, rfl, F4, N4, oo4, nd4⟩ := hm hs'
    have zI := oo4 _ (.head _)
    have zC := oo4 _ (.tail _ (.head _))
    have zD := oo4 _ (.tail _ (.tail _ (.head _)))
    have zl := oo4 _ (.tail _ (.tail _ (.tail _ (.head _))))
    have d1 := List.nodup_cons.mp nd4
    have d2 := List.nodup_cons.mp d1.2
    have d3 := List.nodup_cons.mp d2.2
    refine ⟨h4, tk4, (la, listOf (List.toArray its) n0) :: nw.map (fun e => (e.1, ob4 e.1)), rfl, F4, fun p hp => ?_, LCg.Off3.of fun p hp => ?_, .inr ⟨_, .head _, rfl, _, rfl⟩, by rw [List.take_succ_eq_append_getElem hi, List.map_append, List.getD_eq_getElem?_getD, List.getElem?_eq_getElem hi]; exact hI.append (.cons _ _ .nil), ob4, rfl, fun e he => oo4 e (.tail _ (.tail _ (.tail _ (.tail _ he)))), d3.2⟩
    · rcases List.mem_cons.mp hp with rfl | hp
      · have z := N4 _ (.head _); dsimp only at zI z; rw [zI] at z; exact z
      rcases List.mem_cons.mp hp with rfl | hp
      · have z := N4 _ (.tail _ (.head _)); dsimp only at zC z; rw [zC] at z; exact z
      rcases List.mem_cons.mp hp with rfl | hp
      · have z := N4 _ (.tail _ (.tail _ (.head _))); dsimp only at zD z; rw [zD] at z; exact z
      rcases List.mem_cons.mp hp with rfl | hp
      · have z := N4 _ (.tail _ (.tail _ (.tail _ (.head _)))); dsimp only at zl z; rw [zl] at z; exact z
      · exact N4 p (.tail _ (.tail _ (.tail _ (.tail _ hp))))
    · have hm2 : p.1 ∈ adr ((la, IntL ns) :: nw) := by
        rcases List.mem_cons.mp hp with rfl | hp
        · exact .head _
        · obtain ⟨x, hx, rfl⟩ := List.mem_map.mp hp
          exact .tail _ (List.mem_map_of_mem (f := (·.1)) hx)
      exact ⟨fun q => d1.1 (q ▸ .tail _ (.tail _ hm2)), fun q => d2.1 (q ▸ .tail _ hm2), fun q => d3.1 (q ▸ hm2)⟩
  · rintro ysv nx ⟨hI, ob, rfl, oo, nd⟩ D h tk F N off
    rw [List.take_length] at hI
    refine q _ _ _ _ (k D la) rfl (St.build F l (fun e he => ?_) ?_)
    · rcases List.mem_cons.mp he with rfl | he
      · have z := N _ (.head _); exact ⟨⟨_, z.1, ysv, _, rfl, hI⟩, z.2⟩
      rcases List.mem_cons.mp he with rfl | he
      · have z := N _ (.tail _ (.head _)); exact ⟨⟨_, z.1, its, _, rfl, hI0⟩, z.2⟩
      · have z := N _ (.tail _ (.tail _ (List.mem_map.mpr ⟨e, he, rfl⟩))); exact ⟨⟨_, z.1, oo e he⟩, z.2⟩
    · refine List.nodup_cons.mpr ⟨fun z => ?_, nd⟩
      rcases List.mem_cons.mp z with z | z
      · exact off1_mem off (la, _) (.head _) z.symm
      · obtain ⟨x, hx, e⟩ := List.mem_map.mp z
        exact off1_mem off (x.1, ob x.1) (.tail _ (List.mem_map.mpr ⟨x, hx, rfl⟩)) e
end
noncomputable def sDeck : Sx := sx false 247 [Str.ofString "script"]
theorem fn_deck (w : World) : Fn w 247 sDeck 1 [] (bodyF 247) := by
  refine ⟨⟨by kernel_rfl, by decide +kernel, by decide +kernel⟩, Nat.le_of_ble_eq_true rfl, ?_⟩
  refine ⟨_, _, _, _, _, _, _, _, _, _, _, _, by k_is, by (show codeIn _ _ (Str.ofString "_law_deck") = true; k_is), ?_, by decide +kernel, by kernel_rfl, by kernel_rfl⟩
  intro s vs hK h
  obtain ⟨a, rfl⟩ := vs1 h
  exact BindsTo.of_eq rfl
theorem gl_int' (w : World) : nsIn (HA.hd.heap_1_39 w.params) mainGlobals (Str.ofString "int") = some none := by k_is
theorem deck_h {V : Vx} (ok : Ok ⟨sDeck, V⟩) {b : Addr} {bs : List Int} (hl : bs.length ≤ 1000) {K : AV → Nw → Prop} (kk : ∀ d cl ns, ns.length ≤ 60 → K (Is (.ref d)) [(d, DeckP V.w cl 0), (cl, IntL ns), (b, IntL bs)]) :
    Ex ⟨sDeck, V⟩ [some (Is (.ref b))] [(b, IntL bs)] (bodyF 247) (fun fl _ nw' => K fl.av nw') := by
  have okb := ok.toOkB
  refine @Ex.ret _ _ _ _ _ _ _ (@EvK.sl _ _ _ _ _ _ (@EK.dctG _ _ _ okb _ _ _ _ (fun d => @EvP.cons _ _ _ _ _ _ _ _ _ _ _ (EvN.k (EvN.compL okb (ns := bs.take 60) (g := fun z => z.fmod 1000000007) (fun m => EvN.sliceL (EE.loc (okb.fix m) (i := 0) rfl rfl) Ev.cint (In.lst (In.at (i := 1) rfl)) (by decide) (by omega) fun D => ⟨D, rfl, rfl⟩) (by rw [List.length_take]; omega) rfl (by decide +kernel) rfl (by decide +kernel) rfl
    (fun m l o I oI C oC D oD m2 z v hC hx hv => Ev.bin (Ev.int (Ev.cblt (okb.fix m) (gl_int' _) boot_int) (Ev.cown (i := 1) rfl hC hx hv)) Ev.cint (OpI.modP (by decide))) fun D l => @EvP.cons _ _ _ _ _ _ _ _ _ _ _ (Ev.k EE.int (@EvP.nil _ _ _ _ _ ⟨2, rfl, by decide +kernel, Sl.mk [2, 0, 3] 4 (kk d D _ ?_)⟩))))) (by kernel_rfl)))
  rw [List.length_map, List.length_take]; omega
noncomputable def DeckB (V : Vx) (Ps : List AV) (nw₀ : Nw) (KR : AV → Nw → Prop) : Prop := ∃ b bs, Ps = [Is (.ref b)] ∧ nw₀ = [(b, IntL bs)] ∧ bs.length ≤ 60 ∧ ∀ d cl ns, ns.length ≤ 60 → KR (Is (.ref d)) [(d, DeckP V.w cl 0), (cl, IntL ns), (b, IntL bs)]
theorem deckM (w : World) : Callee false w 247 1 DeckB := Callee.mono (conM (fn_deck w)) fun V Ps nw₀ KR e1 ⟨b, bs, e2, e3, hl, k⟩ ok => by
  subst e2 e3
  exact @deck_h _ ok _ _ (by omega) _ k
end Mine
end
section
open PySem PySem.W PySem.Calls PyProof.Rows
set_option maxRecDepth 100000
set_option maxHeartbeats 4000000
namespace Mine
theorem gl_longest (w : World) : ∃ t, nsIn (HA.hd.heap_1_39 w.params) mainGlobals (Str.ofString "LONGEST") = some (some (.int 258 t)) := ⟨_, by k_is⟩
theorem gl_mostd (w : World) : ∃ t, nsIn (HA.hd.heap_1_39 w.params) mainGlobals (Str.ofString "MOST_DISTANCES") = some (some (.int 30 t)) := ⟨_, by k_is⟩
theorem gl_ends (w : World) : ∃ t, nsIn (HA.hd.heap_1_39 w.params) mainGlobals (Str.ofString "END_SIGN") = some (some (.int 256 t)) := ⟨_, by k_is⟩
noncomputable def RefR (as : List Addr) : AO := fun o => ∃ n, o = listOf (List.toArray (as.reverse.map Value.ref)) n
noncomputable def tabR (lst mr : Nat → Int) : List Addr → Nw
  | [] => []
  | a :: as => (a, TupP [It (lst as.length), It (mr as.length)]) :: tabR lst mr as
theorem tabR_congr {lst mr lst' mr' : Nat → Int} : ∀ {as : List Addr}, (∀ j, j < as.length → lst j = lst' j ∧ mr j = mr' j) → tabR lst mr as = tabR lst' mr' as
  | [], _ => rfl
  | a :: as, h => by
    show (a, TupP [It (lst as.length), It (mr as.length)]) :: tabR lst mr as = (a, TupP [It (lst' as.length), It (mr' as.length)]) :: tabR lst' mr' as
    rw [(h as.length (Nat.lt_succ_self _)).1, (h as.length (Nat.lt_succ_self _)).2, tabR_congr (as := as) fun j hj => h j (Nat.lt_succ_of_lt hj)]
noncomputable def TabA (F : Addr → AO → Prop) (l : Addr) (lst mr : Nat → Int) (n : Nat) : Prop := ∃ as : List Addr, as.length = n ∧ F l (RefR as) ∧ ∀ j, j < n → ∃ a, as.reverse[j]? = some a ∧ F a (TupP [It (lst j), It (mr j)])
theorem tabR_mem {lst mr : Nat → Int} : ∀ {as : List Addr} {j : Nat}, j < as.length → ∃ a, as.reverse[j]? = some a ∧ (a, TupP [It (lst j), It (mr j)]) ∈ tabR lst mr as
  | [], j, h => absurd h (Nat.not_lt_zero _)
  | a :: as, j, h => by
    rw [List.reverse_cons]
    by_cases e : j < as.length
    · obtain ⟨b, h1, h2⟩ := tabR_mem (lst := lst) (mr := mr) (as := as) e
      exact ⟨b, by rw [List.getElem?_append_left (by rw [List.length_reverse]; exact e)]; exact h1, .tail _ h2⟩
    · have : j = as.length := Nat.le_antisymm (Nat.le_of_lt_succ h) (Nat.not_lt.mp e)
      subst this
      exact ⟨a, by rw [List.getElem?_append_right (by rw [List.length_reverse]; exact Nat.le_refl _), List.length_reverse, Nat.sub_self]; rfl, .head _⟩
theorem TabA.mono {F F' : Addr → AO → Prop} (k : ∀ a P, F a P → F' a P) {l : Addr} {lst mr : Nat → Int} {n : Nat} (h : TabA F l lst mr n) : TabA F' l lst mr n := by
  obtain ⟨as, h1, h2, h3⟩ := h
  exact ⟨as, h1, k _ _ h2, fun j hj => by obtain ⟨a, e, h⟩ := h3 j hj; exact ⟨a, e, k _ _ h⟩⟩
section
variable {c : Cx} {lo : Lo} {nw : Nw} {rest : List Stmt} {R : Fl → Lo → Nw → Prop}
theorem EE.globX (ok : OkB c) {x : Str} {pos : Pos} {i : Int} (e : ∃ t, nsIn (HA.hd.heap_1_39 c.V.w.params) mainGlobals x = some (some (.int i t))) (hk : autoParam (c.S.sc.names.lookup x = some .globalImplicit) Mine.aK) (hd' : autoParam ((x == Str.ofString "__debug__") = false) Mine.aDk) : EE c lo nw (.Name x pos) (It i) := by
  obtain ⟨t, e⟩ := e
  exact EE.globI ok e hk hd'
theorem EK.emp {pos : Pos} {K : AV → Nw → Prop} (k : ∀ a, K (Is (.ref a)) ((a, RefR []) :: nw)) : EK c lo nw (.List [] pos) K := fun s hs Q q =>
  List_ (args_nil (by
    obtain ⟨m, ns, F, N, k1, k2⟩ := hs.opn
    exact newList_K F N (fun D h' F' N' lt => q _ _ _ _ (k D) rfl (k2 h' s.toks D _ (RefR []) F' N' lt ⟨0, rfl⟩)) (Nat.zero_le _)))
theorem EK.appR {o e : Expr} {apos pos : Pos} {a : Addr} (i : Nat) {as : List Addr} {K : AV → Nw → Prop} (ho : EE c lo nw o (Is (.ref a))) (ha : In c nw a (RefR as)) (hl : as.length ≤ 1000) (he : EK c lo nw e fun P nw1 => ∃ D, P = Is (.ref D) ∧ nth nw1 i = some (a, RefR as) ∧ K (Is .none) (Mine.put nw1 i (a, RefR (D :: as))))
    (hs' : autoParam (starEach [e] c.env = (false, eval e c.env) :: starEach [] c.env) Mine.aR)
    {pl : Sem Bool} (hc : autoParam (eval (.Call (.Attribute o (Str.ofString "append") apos) [e] [] pos) c.env = (do
      let ov ← eval o c.env
      standAt apos.atName
      let (f, first) ← holding [ov] (getMethod ov (Str.ofString "append") pl)
      callWith pos f first (backTo pos (starEach [e] c.env)) [])) Mine.aR) : EK c lo nw (.Call (.Attribute o (Str.ofString "append") apos) [e] [] pos) K := fun s hs Q q => by
  refine MethodCall_ (pl := pl) (ho s hs _ _ fun v s1 hv hs1 => ?_) hc
  cases hv
  obtain ⟨oo, e1, n, rfl⟩ := ha.get hs1
  have hT : s1.TypeIs (.ref a) "list" := ⟨_, e1, rfl⟩
  refine getMethod_builtin hT F.plainAttrs_list F.slot_list_append F.type_list_append (fun b hb => by cases hb; exact ⟨_, e1, rfl⟩) ?_
  refine PyProof.Rows.callWith_method1 (args_cons (he s1 hs1 _ fun P nw1 v s2 ⟨D, ep, hi, k⟩ hP hs2 => args_nil ?_) hs') hs' rfl
  subst ep; cases hP
  obtain ⟨m, nn, o2, g, F, N, ⟨n2, rfl⟩, hm, _, U, fin⟩ := hs2.upd hi
  exact append_K F N (U _) (fun h' F' N' => q _ _ _ _ k rfl (fin h' _ _ (RefR (D :: as)) F' N' ⟨n2 + 1, by simp⟩)) (by rw [sizeLine_eq, List.size_toArray, List.length_map, List.length_reverse]; lia)
end
theorem moreA_b : ∀ j, j < 28 → 0 ≤ moreA j ∧ moreA j ≤ 5 := by decide +kernel
theorem moreD_b : ∀ j, j < 30 → 0 ≤ moreD j ∧ moreD j ≤ 13 := by decide +kernel
theorem shl_ok {w : World} {y : Int} (h : 0 ≤ y) (h2 : y ≤ 13) : OpI w .LShift 1 y (1 * 2 ^ y.toNat) := OpI.shl h (by
  have : (Builtin.Int.intBits 1 : Int) = 1 := by decide +kernel
  rw [this]
  exact Int.le_trans (Int.add_le_add_left h2 1) (by decide))
noncomputable def sLens : Sx := sx false 55 [Str.ofString "found", Str.ofString "least", Str.ofString "sign", Str.ofString "more"]
theorem fn_lens (w : World) : Fn w 55 sLens 0 [] (bodyF 55) := by
  refine ⟨⟨by kernel_rfl, by decide +kernel, by decide +kernel⟩, Nat.le_of_ble_eq_true rfl, ?_⟩
  refine ⟨_, _, _, _, _, _, _, _, _, _, _, _, by k_is, by (show codeIn _ _ (Str.ofString "inflate_lengths") = true; k_is), ?_, by decide +kernel, by kernel_rfl, by kernel_rfl⟩
  intro s vs hK h
  cases vs with
  | nil => exact BindsTo.of_eq rfl
  | cons => cases h
theorem lens_h {V : Vx} (ok : Ok ⟨sLens, V⟩) {K : AV → Nw → Prop} (kk : ∀ D as, as.length = 29 → K (Is (.ref D)) ((D, RefR as) :: tabR lenT lenM as)) : Ex ⟨sLens, V⟩ [none, none, none, none] [] (bodyF 55) (fun fl _ nw' => K fl.av nw') := by
  have okb := ok.toOkB
  refine Ex.tup ok [1, 0] rfl (EvA.cons (EK.emp fun Df => EvA.p EE.int (EvA.nil ⟨rfl, Nat.le_of_ble_eq_true rfl, ?_⟩)))
  refine Ex.forR1 ok (ix := 2) rfl (EE.rangeN okb) (Ev.k EE.int ⟨28, rfl, by decide, fun i lo nw => ∃ as P1 P2, as.length = i ∧ lo = [some (Is (.ref Df)), some (It (leastA i)), P1, P2] ∧ nw = (Df, RefR as) :: tabR leastA moreA as, ⟨[], _, _, rfl, rfl, rfl⟩, fun I oI i lo nw hi ⟨as, P1, P2, e0, e1, e2⟩ => ?_, fun lo nw ⟨as, P1, P2, e0, e1, e2⟩ => ?_⟩)
  · subst e1 e2
    have hi : i < 28 := hi
    have hb := moreA_b i hi
    have hst := leastA_step i hi
    refine Ex.asg ok (i := 3) (x := Str.ofString "more") rfl (Ev.k (P := It (moreA i)) (EE.ite (Tv.cmp (EE.loc okb (i := 2) rfl rfl) EE.int CpI.lt) (fun h => by rw [show moreA i = 0 from if_pos (of_decide_eq_true h)]; exact EE.int) (fun h => by rw [show moreA i = _ from if_neg (of_decide_eq_false h)]; exact EE.bin (EE.bin (EE.loc okb (i := 2) rfl rfl) EE.int (OpI.divP (by decide) (by decide))) EE.int OpI.sub)) ?_)
    refine Ex.expr (EK.appR 2 (EE.loc okb (i := 0) rfl rfl) (In.at (i := 1) rfl) (by lia) (EK.tup (EvA.p (EE.loc okb (i := 1) rfl rfl) (EvA.p (EE.loc okb (i := 3) rfl rfl) (EvA.nil ⟨Nat.le_of_ble_eq_true rfl, fun Dt => ⟨Dt, rfl, rfl, ?_⟩⟩)))))
    refine Ex.asg ok (i := 1) rfl (Ev.k (EE.bin (EE.loc okb (i := 1) rfl rfl) (EE.bin EE.int (EE.loc okb (i := 3) rfl rfl) (shl_ok hb.1 (Int.le_trans hb.2 (by decide)))) OpI.add) ?_)
    rw [← hst]
    subst e0
    exact Ex.tend (nw2 := (Df, RefR (Dt :: as)) :: tabR leastA moreA (Dt :: as)) [1, 2, 0] 3 ⟨Dt :: as, _, _, rfl, rfl, rfl⟩
  · subst e1 e2
    refine Ex.expr (EK.appR 1 (EE.loc okb (i := 0) rfl rfl) (In.at (i := 0) rfl) (by rw [e0]; decide) (EK.tup (EvA.p (EE.globX okb (gl_longest _)) (EvA.p EE.int (EvA.nil ⟨Nat.le_of_ble_eq_true rfl, fun Dt => ⟨Dt, rfl, rfl, ?_⟩⟩)))))
    have e0 : as.length = 28 := e0
    have hc := tabR_congr (lst := leastA) (mr := moreA) (lst' := lenT) (mr' := lenM) (as := as) fun j hj => ⟨(if_pos (e0 ▸ hj)).symm, (if_pos (e0 ▸ hj)).symm⟩
    refine Ex.sel [1, 0] 2 (nw2 := (Df, RefR (Dt :: as)) :: tabR lenT lenM (Dt :: as)) (Ex.ret (Ev.k (EE.loc okb (i := 0) rfl rfl) (kk Df (Dt :: as) (congrArg Nat.succ e0)))) (by decide) (by decide) ?_
    show _ :: (Dt, TupP [It 258, It 0]) :: tabR leastA moreA as = _ :: (Dt, TupP [It (lenT as.length), It (lenM as.length)]) :: tabR lenT lenM as
    rw [hc, e0]
    rfl
noncomputable def sDists : Sx := sx false 62 [Str.ofString "found", Str.ofString "least", Str.ofString "sign", Str.ofString "more"]
theorem fn_dists (w : World) : Fn w 62 sDists 0 [] (bodyF 62) := by
  refine ⟨⟨by kernel_rfl, by decide +kernel, by decide +kernel⟩, Nat.le_of_ble_eq_true rfl, ?_⟩
  refine ⟨_, _, _, _, _, _, _, _, _, _, _, _, by k_is, by (show codeIn _ _ (Str.ofString "inflate_distances") = true; k_is), ?_, by decide +kernel, by kernel_rfl, by kernel_rfl⟩
  intro s vs hK h
  cases vs with
  | nil => exact BindsTo.of_eq rfl
  | cons => cases h
theorem dists_h {V : Vx} (ok : Ok ⟨sDists, V⟩) {K : AV → Nw → Prop} (kk : ∀ D as, as.length = 30 → K (Is (.ref D)) ((D, RefR as) :: tabR leastD moreD as)) : Ex ⟨sDists, V⟩ [none, none, none, none] [] (bodyF 62) (fun fl _ nw' => K fl.av nw') := by
  have okb := ok.toOkB
  refine Ex.tup ok [1, 0] rfl (EvA.cons (EK.emp fun Df => EvA.p EE.int (EvA.nil ⟨rfl, Nat.le_of_ble_eq_true rfl, ?_⟩)))
  refine Ex.forR1 ok (ix := 2) rfl (EE.rangeN okb) (Ev.k (EE.globX okb (gl_mostd _)) ⟨30, rfl, by decide, fun i lo nw => ∃ as P1 P2, as.length = i ∧ lo = [some (Is (.ref Df)), some (It (leastD i)), P1, P2] ∧ nw = (Df, RefR as) :: tabR leastD moreD as, ⟨[], _, _, rfl, rfl, rfl⟩, fun I oI i lo nw hi ⟨as, P1, P2, e0, e1, e2⟩ => ?_, fun lo nw ⟨as, P1, P2, e0, e1, e2⟩ => ?_⟩)
  · subst e1 e2
    have hi : i < 30 := hi
    have hb := moreD_b i hi
    have hst := leastD_step i hi
    refine Ex.asg ok (i := 3) (x := Str.ofString "more") rfl (Ev.k (P := It (moreD i)) (EE.ite (Tv.cmp (EE.loc okb (i := 2) rfl rfl) EE.int CpI.lt) (fun h => by rw [show moreD i = 0 from if_pos (of_decide_eq_true h)]; exact EE.int) (fun h => by rw [show moreD i = _ from if_neg (of_decide_eq_false h)]; exact EE.bin (EE.bin (EE.loc okb (i := 2) rfl rfl) EE.int (OpI.divP (by decide) (by decide))) EE.int OpI.sub)) ?_)
    refine Ex.expr (EK.appR 2 (EE.loc okb (i := 0) rfl rfl) (In.at (i := 1) rfl) (by lia) (EK.tup (EvA.p (EE.loc okb (i := 1) rfl rfl) (EvA.p (EE.loc okb (i := 3) rfl rfl) (EvA.nil ⟨Nat.le_of_ble_eq_true rfl, fun Dt => ⟨Dt, rfl, rfl, ?_⟩⟩)))))
    refine Ex.asg ok (i := 1) rfl (Ev.k (EE.bin (EE.loc okb (i := 1) rfl rfl) (EE.bin EE.int (EE.loc okb (i := 3) rfl rfl) (shl_ok hb.1 hb.2)) OpI.add) ?_)
    rw [← hst]
    subst e0
    exact Ex.tend (nw2 := (Df, RefR (Dt :: as)) :: tabR leastD moreD (Dt :: as)) [1, 2, 0] 3 ⟨Dt :: as, _, _, rfl, rfl, rfl⟩
  · subst e1 e2
    exact Ex.ret (Ev.k (EE.loc okb (i := 0) rfl rfl) (kk Df as e0))
end Mine
end
section
open PySem PySem.W PySem.Calls PyProof.Rows
set_option maxRecDepth 100000
namespace Mine
section
variable {M : Model} {A : Around} {E : Value → Shared → Prop} {s : Shared} {env : Env}
theorem wpC_Assign_Name {x pos' value pos} {Q : Flow → Shared → Prop}
    (h : wpC M A (eval value env) (fun v s₁ => wpAny M A (storeName env x v) (fun _ => Q .next) E s₁) E s)
    (hs : autoParam (swapsWith value (some (.Name x pos')) pos.line env = pure false) Mine.aR) :
    wpC M A (exec (.Assign [.Name x pos'] value pos) env) Q E s := by
  rw [exec_Assign_Name env x pos' value pos hs]
  refine wpC_bind (wpC_standAt (wpC_bind (wpC_mono h (fun v s₁ h₁ => wpC_of_any ?_) fun _ _ x => x)))
  exact wpAny_bind (wpAny_standAt (wpAny_bind (wpAny_bindName (wpAny_mono h₁ (fun _ _ x => wpAny_pure x) fun _ _ x => x))))
theorem wpC_Assign_Attr {o attr pos' value pos} {Q : Flow → Shared → Prop}
    (h : wpC M A (eval value env) (fun v s₁ => wpAny M A (eval o env) (fun ov s₂ => wpAny M A (setAttr ov attr v) (fun _ => Q .next) E s₂) E s₁) E s)
    (hs : autoParam (swapsWith value (some (.Attribute o attr pos')) pos.line env = pure false) Mine.aR) :
    wpC M A (exec (.Assign [.Attribute o attr pos'] value pos) env) Q E s := fun Γ p hΓ hn hC => by
  simp only [plainObj_exec_Assign_Attribute o attr pos' value pos hs, assign_Attribute, Sem.wp_bind', Sem.wp_holding, Sem.wp_cmd_standAt, Sem.wp_release, Sem.wp_pure']
  exact Sem.wp_mono M Γ _ (fun v p₁ s₁ h₁ => Sem.wp_mono M Γ _ (fun ov _ s₂ h₂ => h₂ Γ _ hΓ) (fun _ _ _ h' => h') _ _ (h₁ Γ p₁ hΓ)) (fun _ _ _ h' => h') _ _ (h Γ _ hΓ hn hC)
theorem wpC_Assign_swapped {elts k tpos value pos} {names : List Str} {Q : Flow → Shared → Prop}
    (h : wpC M A (eval value env) (fun v s₁ => wpAny M A (unpackItems v names.length none) (fun items s₂ =>
      wpAny M A (assignInOrder (names.reverse.map fun n => bindName env n) items.reverse) (fun _ => Q .next) E s₂) E s₁) E s)
    (hs : autoParam (swapsWithSole [.Tuple elts k tpos] value pos.line env = pure false) Mine.aR)
    (hw : autoParam (swappedStores [.Tuple elts k tpos] value env = pure (some names)) Mine.aR) :
    wpC M A (exec (.Assign [.Tuple elts k tpos] value pos) env) Q E s := by
  rw [exec_Assign]
  refine wpC_bind (wpC_standAt ?_)
  rw [hs]
  refine wpC_bind (wpC_pure ?_)
  rw [if_neg (by decide)]
  refine wpC_bind (wpC_mono h (fun v s₁ h₁ => wpC_of_any ?_) fun _ _ x => x)
  rw [hw]
  refine wpAny_bind (wpAny_pure ?_)
  show wpAny M A (do rule "assign.swapped-stores"; let items ← unpackItems v names.length none; assignInOrder (names.reverse.map fun n => bindName env n) items.reverse; pure .next) Q E s₁
  exact wpAny_bind (wpAny_rule (wpAny_bind (wpAny_mono h₁ (fun items s₂ h₂ => wpAny_bind (wpAny_mono h₂ (fun _ _ x => wpAny_pure x) fun _ _ x => x)) fun _ _ x => x)))
theorem wpC_And {x y : Expr} {rest : List Expr} {pos : Pos} {Q : Value → Shared → Prop}
    (h : wpC M A (eval x env) (fun v s₁ => wpAny M A (truthy v) (fun t s₂ => if t then wpAny M A (eval (.BoolOp .And (y :: rest) pos) env) Q E s₂ else Q v s₂) E s₁) E s) :
    wpC M A (eval (.BoolOp .And (x :: y :: rest) pos) env) Q E s := by
  rw [arm_eval_BoolOp]
  show wpC M A (do
    let v ← eval x env
    standAt pos
    let t ← holding [v] (truthy v)
    match BoolOp.And, t with
    | .And, false | .Or, true => pure v
    | _, _ => boolOp pos .And (evalEach (y :: rest) env)) Q E s
  refine wpC_bind (wpC_mono h (fun v s₁ h₁ => wpC_of_any ?_) fun _ _ x => x)
  refine wpAny_bind (wpAny_standAt (wpAny_bind (wpAny_holding (wpAny_mono h₁ (fun t s₂ h₂ => ?_) fun _ _ x => x))))
  cases t with
  | true => exact h₂
  | false => exact wpAny_pure h₂
theorem wpC_Tuple2 {x y : Expr} {k pos} {Q : Value → Shared → Prop}
    (h : wpC M A (eval x env) (fun v s₁ => wpAny M A (eval y env) (fun u s₂ => wpAny M A (newTuple [v, u]) Q E s₂) E s₁) E s)
    (he : autoParam (starEach [x, y] env = [(false, eval x env), (false, eval y env)]) Mine.aR) :
    wpC M A (eval (.Tuple [x, y] k pos) env) Q E s := by
  rw [arm_eval_Tuple]
  refine wpC_bind (wpC_standAt ?_)
  rw [he]
  show wpC M A (do newTuple (← spliced [(false, eval x env), (false, eval y env)])) Q E s
  have hsp : wpC M A (spliced [(false, eval x env), (false, eval y env)]) (fun vs s' => wpC M A (newTuple vs) Q E s') E s := by
    rw [spliced]
    refine wpC_bind (wpC_mono h (fun v s₁ h₁ => wpC_of_any ?_) fun _ _ x => x)
    simp only [Bool.false_eq_true, if_false]
    refine wpAny_bind (wpAny_pure (wpAny_bind (wpAny_holding (Calls.spliced_cons (wpAny_mono h₁ (fun u s₂ h₂ => Calls.spliced_nil (wpAny_pure ?_)) fun _ _ x => x)))))
    exact wpC_of_any h₂
  exact wpC_bind hsp
end
section
variable {M : Model} {A : Around} {E : Value → Shared → Prop} {s : Shared} {env : Env} {pos : Pos} {first : List Value} {Q : Value → Shared → Prop}
theorem wpC_callWith_K {K : Frag} {f : Value} {args : List (Bool × Sem Value)} (hk : keepIn K f = true)
    (h : wpAny M A (evalArgs f true args []) (fun x s₁ => (K.In s₁.heap ∧ True) ∧ wpC M A (call f (first ++ x.pos) x.kw) Q E s₁) E s) (hplain : autoParam (args.any (·.1) = false) Mine.aR) :
    wpC M A (callWith pos f first args []) Q E s := by
  unfold callWith
  refine wpC_bind (wpC_holding (wpC_of_any (wpAny_mono h (fun x s₁ h₁ => wpC_bind (wpC_standAt ?_)) fun _ _ x => x)))
  obtain ⟨k, hk', L⟩ := looks_keep (M := M) hk h₁.1.1
  rw [hplain]
  refine wpC_bind (wpC_of_any (L.here ?_))
  have tail : ∀ {t : Sem Value}, wpC M A t Q E s₁ → wpC M A (t >>= fun r => holding [r] point >>= fun _ => pure r) Q E s₁ :=
    fun ht => wpC_bind (wpC_mono ht (fun r s₂ hr => wpC_bind (wpC_holding (wpC_point (wpC_pure hr)))) fun _ _ x => x)
  have marked (mk : Value) : wpC M A (callMarked mk f (first ++ x.pos) x.kw) Q E s₁ := by unfold callMarked; exact wpC_keep h₁.2
  rcases hk' with rfl | rfl <;> dsimp only <;> first | exact tail h₁.2 | (by_cases hb : args.length + 2 * ([] : List (Option Str × Sem Value)).length > 30; (rw [if_pos hb]; exact tail h₁.2); (rw [if_neg hb]; exact tail (marked _)))
theorem wpC_K_args {K : Frag} {f : Value} {e : Expr} {rest : List Expr} (hk : keepIn K f = true)
    (h : wpAny M A (spliced (backTo pos (starEach (e :: rest) env))) (fun vs s₁ => (K.In s₁.heap ∧ True) ∧ wpC M A (call f (first ++ vs) []) Q E s₁) E s)
    (he : autoParam (backTo pos (starEach (e :: rest) env) = (false, eval e env) :: backTo pos (starEach rest env)) Mine.aR) (hplain : autoParam ((backTo pos (starEach (e :: rest) env)).any (·.1) = false) Mine.aR) :
    wpC M A (callWith pos f first (backTo pos (starEach (e :: rest) env)) []) Q E s := by
  refine wpC_callWith_K hk ?_ hplain
  rw [he] at h ⊢
  exact evalArgs_plain h
theorem wpC_K_none {K : Frag} {f : Value} (hk : keepIn K f = true) (ho : K.In s.heap) (h : wpC M A (call f (first ++ []) []) Q E s) :
    wpC M A (callWith pos f first (backTo pos (starEach [] env)) []) Q E s :=
  wpC_callWith_K hk (evalArgs_nil3 (show _ ∧ _ from ⟨⟨ho, trivial⟩, h⟩)) rfl
theorem wpC_ty_none {T : String} (h : wpC M A (call (.type T) (first ++ []) []) Q E s) :
    wpC M A (callWith pos (.type T) first (backTo pos (starEach [] env)) []) Q E s := by
  have hh : wpAny M A (evalArgs (.type T) true (backTo pos (starEach [] env)) []) (fun x s₁ => wpC M A (call (.type T) (first ++ x.pos) x.kw) Q E s₁) E s := evalArgs_nil3 h
  unfold callWith
  refine wpC_bind (wpC_holding (wpC_of_any (wpAny_mono hh (fun x s₁ h₁ => wpC_bind (wpC_standAt ?_)) fun _ _ x => x)))
  refine wpC_bind (m := keeperOf (.type T)) (wpC_pure ?_)
  exact wpC_bind (wpC_mono h₁ (fun r s₂ hr => wpC_bind (wpC_holding (wpC_point (wpC_pure hr)))) fun _ _ x => x)
end
end Mine
end
section
open PySem PySem.W PySem.Calls PyProof.Rows
set_option maxRecDepth 100000
set_option maxHeartbeats 4000000
namespace Mine
theorem wpM_ofC {α : Type} {b : Bool} {M : Model} {A : Around} {t : Sem α} {Q : α → Shared → Prop} {E : Value → Shared → Prop} {s : Shared} (hb : b = true) (h : wpC M A t Q E s) : wpM b M A t Q E s := by subst hb; exact h
noncomputable def BaP (out : List Int) : AO := fun o => ∃ arr, o = baO arr ∧ KBw.bInts arr = out
noncomputable def EvT {α : Type} (c : Cx) (lo : Lo) (nw : Nw) (T : Sem α) (K : (α → Prop) → Nw → Prop) : Prop :=
  ∀ s, St c lo nw s → ∀ (Q : α → Shared → Prop), (∀ P nw' v s', K P nw' → P v → St c lo nw' s' → Q v s') → wpC c.M c.A T Q c.V.E s
noncomputable def CT (c : Cx) (lo : Lo) (nw : Nw) (f : Value) (Ps : List AV) (K : AV → Nw → Prop) : Prop := ∀ vs, AllV Ps vs → EvT c lo nw (PySem.call f vs []) K
section
variable {c : Cx} {lo : Lo} {nw : Nw} {rest : List Stmt} {R : Fl → Lo → Nw → Prop}
theorem Ex.exprT (hb : c.S.b = true) {e : Expr} {pos : Pos} (h : EvT c lo nw (eval e c.env) fun _ nw1 => Ex c lo nw1 rest R) (hi : autoParam (interactive c.env = false) Mine.aR) (hw : autoParam (swapsWith e Option.none pos.line c.env = pure false) Mine.aR) : Ex c lo nw (.Expr e pos :: rest) R := fun s hs Q q =>
  wpM_execs_cons (wpM_ofC hb (wpC_Expr (h s hs _ fun P nw' v s' k hP hs' => k s' hs' Q q) hi hw))
theorem ET.meth0 (ok : Ok c) {o : Expr} {x : Str} {apos pos : Pos} {r dx C f : Addr} {xs : List Str} {Ps : List AV} {K : AV → Nw → Prop} (ho : EE c lo nw o (Is (.ref r))) (hr : In c nw r (InstP C dx)) (hdx : In c nw dx (FldP xs Ps)) (mt : MtOk c.V.w C x f) (kp : keepIn (HA.hd.heap_1_39 c.V.w.params) (.ref f) = true) (hx : x ∉ xs) (h : CT c lo nw (.ref f) [Is (.ref r)] K)
    {pl : Sem Bool} (hc : autoParam (eval (.Call (.Attribute o x apos) [] [] pos) c.env = (do
      let ov ← eval o c.env
      standAt apos.atName
      let (f, first) ← holding [ov] (getMethod ov x pl)
      callWith pos f first (backTo pos (starEach [] c.env)) [])) Mine.aR) : EvT c lo nw (eval (.Call (.Attribute o x apos) [] [] pos) c.env) K := fun s hs Q q => by
  refine wpC_MethodCall (pl := pl) (ho s hs _ _ fun v s1 hv hs1 => ?_) hc
  cases hv
  refine meth_get ok.toOkB hs1 hr hdx mt hx ?_
  obtain ⟨m, ns, F, N, _⟩ := hs1.opn
  exact wpC_K_none (K := HA.hd.heap_1_39 c.V.w.params) kp (ok.X0.keeps F.keep) (h _ (.cons rfl .nil) s1 hs1 Q q)
theorem ET.meth (ok : Ok c) {o e : Expr} {es : List Expr} {x : Str} {apos pos : Pos} {r dx C f : Addr} {xs : List Str} {Ps : List AV} {K : AV → Nw → Prop} (ho : EE c lo nw o (Is (.ref r))) (hr : In c nw r (InstP C dx)) (hdx : In c nw dx (FldP xs Ps)) (mt : MtOk c.V.w C x f) (kp : keepIn (HA.hd.heap_1_39 c.V.w.params) (.ref f) = true) (hx : x ∉ xs) (h : EvA c lo nw pos (e :: es) fun Ps nw1 => CT c lo nw1 (.ref f) (Is (.ref r) :: Ps) K)
    (he : autoParam (backTo pos (starEach (e :: es) c.env) = (false, eval e c.env) :: backTo pos (starEach es c.env)) Mine.aR) (hp : autoParam ((backTo pos (starEach (e :: es) c.env)).any (·.1) = false) Mine.aR)
    {pl : Sem Bool} (hc : autoParam (eval (.Call (.Attribute o x apos) (e :: es) [] pos) c.env = (do
      let ov ← eval o c.env
      standAt apos.atName
      let (f, first) ← holding [ov] (getMethod ov x pl)
      callWith pos f first (backTo pos (starEach (e :: es) c.env)) [])) Mine.aR) : EvT c lo nw (eval (.Call (.Attribute o x apos) (e :: es) [] pos) c.env) K := fun s hs Q q => by
  refine wpC_MethodCall (pl := pl) (ho s hs _ _ fun v s1 hv hs1 => ?_) hc
  cases hv
  refine meth_get ok.toOkB hs1 hr hdx mt hx ?_
  refine wpC_K_args (K := HA.hd.heap_1_39 c.V.w.params) kp (h s1 hs1 _ fun Ps nw1 vs s2 h2 hPs hs2 => ⟨⟨?_, trivial⟩, ?_⟩) he hp
  · obtain ⟨m, ns, F, N, _⟩ := hs2.opn
    exact ok.X0.keeps F.keep
  · exact h2 _ (.cons rfl hPs) s2 hs2 Q q
theorem CT.callB (ok : Ok c) {f : Addr} {n : Nat} {Body : Vx → List AV → Nw → (AV → Nw → Prop) → Prop} (cal : Callee true c.V.w f n Body) (hdp : c.V.dp < 990) {Ps : List AV} (hn : Ps.length = n) (is ks : List Nat) (k : Nat) {nw₀ nwr : Nw} (hp : is.map (nth nw) = nw₀.map some) {K : AV → Nw → Prop} {Er : Heap → Prop}
    (h : ∀ V : Vx, V.w = c.V.w → V.dp = c.V.dp + 1 → V.un = c.V.un + 3 → (∀ a P, Ro c nw is a P → ∃ o, V.h₀.get? a = some o ∧ P o) → V.Er = Er → Body V Ps nw₀ (Back nw nw₀ is K))
    (er : ∀ B, Has B nwr → Er B → c.V.Er B)
    (hnd : autoParam ((is ++ ks).Nodup) Mine.aD) (hk : autoParam (∀ i ∈ is ++ ks, i < k) Mine.aD) (he : autoParam (ks.filterMap (nth nw) ++ nw.drop k = nwr) Mine.aR) : CT c lo nw (.ref f) Ps K := fun vs hvs s hs Q q => by
  have z := keep_rest hp hs.nodup hnd hk
  rw [he] at z
  refine call_core ok.toOkB cal hdp hvs hn is hp (List.nodup_append.mp hnd).1 h hs q (E := c.V.E) (fun e h' tk R => ok.pass lo nw s hs _ _ h' tk e R (fun a ha => ?_) fun B k hB => er B (fun e he => ?_) hB)
  · obtain ⟨x, hx, rfl⟩ := List.mem_map.mp ha
    exact List.mem_map_of_mem (f := (·.1)) (pick_mem hp x hx)
  · obtain ⟨A₀, B'⟩ := ok.B
    have hs1 := hs
    obtain ⟨hh, tk, m, ob, rfl, F, l, N, oo, nd⟩ := hs1
    have y := led_of B' F N (env := c.env) rfl _ (List.mem_map.mpr ⟨e, (z.1 e he).1, rfl⟩)
    exact ⟨_, k _ _ y.1 (z.1 e he).2 y.2.2, oo e (z.1 e he).1⟩
theorem Ex.baApp (hb : c.S.b = true) {o e : Expr} {apos cp pos : Pos} {a : Addr} {out : List Int} {x : Int} (i : Nat) (ho : EE c lo nw o (Is (.ref a))) (he : EE c lo nw e (It x)) (hi : nth nw i = some (a, BaP out)) (x0 : 0 ≤ x) (x1 : x < 256) (hl : out.length < 1000000) (k : Ex c lo (put nw i (a, BaP (out ++ [x]))) rest R)
    (hs1' : autoParam (backTo cp (starEach [e] c.env) = (false, eval e c.env) :: backTo cp (starEach [] c.env)) Mine.aR) (hs2' : autoParam (starEach [e] c.env = (false, eval e c.env) :: starEach [] c.env) Mine.aR) (hp : autoParam ((backTo cp (starEach [e] c.env)).any (·.1) = false) Mine.aR)
    {pl : Sem Bool} (hc : autoParam (eval (.Call (.Attribute o (Str.ofString "append") apos) [e] [] cp) c.env = (do
      let ov ← eval o c.env
      standAt apos.atName
      let (f, first) ← holding [ov] (getMethod ov (Str.ofString "append") pl)
      callWith cp f first (backTo cp (starEach [e] c.env)) [])) Mine.aR)
    (hin : autoParam (interactive c.env = false) Mine.aR) (hw : autoParam (swapsWith (.Call (.Attribute o (Str.ofString "append") apos) [e] [] cp) Option.none pos.line c.env = pure false) Mine.aR) :
    Ex c lo nw (.Expr (.Call (.Attribute o (Str.ofString "append") apos) [e] [] cp) pos :: rest) R := Ex.exprT hb (fun s hs Q q => by
  refine wpC_MethodCall (pl := pl) (ho s hs _ _ fun v s1 hv hs1 => ?_) hc
  cases hv
  obtain ⟨_, e1, ⟨arr1, rfl, _⟩, _⟩ := hs1.has (nth_mem hi)
  refine getMethod_builtin ⟨_, e1, rfl⟩ ba_plain ba_slot_append ba_type_append (fun b hb => by cases hb; exact ⟨_, e1, rfl⟩) ?_
  refine wpC_bi_args (args_cons (he s1 hs1 _ _ fun v s2 hv hs2 => args_nil ?_) hs2') hs1' hp
  obtain ⟨t, rfl⟩ := hv
  obtain ⟨m, nn, o2, g, F, N, ⟨arr, rfl, hA⟩, hm, U, _, fin⟩ := hs2.upd hi
  have hsz : arr.size < 1000000 := by rw [← hA] at hl; simpa [KBw.bInts] using hl
  refine ba_append_F rfl F N U x0 x1 hsz fun h' F' N' => q _ _ _ _ k rfl (fin h' _ _ (BaP (out ++ [x])) F' N' ⟨_, rfl, ?_⟩)
  rw [bInts_push, hA]
  congr 2
  have : x.toNat.toUInt8.toNat = x.toNat := by
    show (UInt8.ofNat x.toNat).toNat = x.toNat
    rw [UInt8.toNat_ofNat']; lia
  lia) hin hw
theorem Ex.baExt (hb : c.S.b = true) {o e : Expr} {apos cp pos : Pos} {a : Addr} {out : List Int} (i : Nat) (ho : EE c lo nw o (Is (.ref a))) (hia : In c nw a (BaP out)) (he : EK c lo nw e fun P nw1 => ∃ xs, P = ByI xs ∧ nth nw1 i = some (a, BaP out) ∧ out.length + xs.length ≤ 1000000 ∧ Ex c lo (put nw1 i (a, BaP (out ++ xs))) rest R)
    (hs1' : autoParam (backTo cp (starEach [e] c.env) = (false, eval e c.env) :: backTo cp (starEach [] c.env)) Mine.aR) (hs2' : autoParam (starEach [e] c.env = (false, eval e c.env) :: starEach [] c.env) Mine.aR) (hp : autoParam ((backTo cp (starEach [e] c.env)).any (·.1) = false) Mine.aR)
    {pl : Sem Bool} (hc : autoParam (eval (.Call (.Attribute o (Str.ofString "extend") apos) [e] [] cp) c.env = (do
      let ov ← eval o c.env
      standAt apos.atName
      let (f, first) ← holding [ov] (getMethod ov (Str.ofString "extend") pl)
      callWith cp f first (backTo cp (starEach [e] c.env)) [])) Mine.aR)
    (hin : autoParam (interactive c.env = false) Mine.aR) (hw : autoParam (swapsWith (.Call (.Attribute o (Str.ofString "extend") apos) [e] [] cp) Option.none pos.line c.env = pure false) Mine.aR) :
    Ex c lo nw (.Expr (.Call (.Attribute o (Str.ofString "extend") apos) [e] [] cp) pos :: rest) R := Ex.exprT hb (fun s hs Q q => by
  refine wpC_MethodCall (pl := pl) (ho s hs _ _ fun v s1 hv hs1 => ?_) hc
  cases hv
  obtain ⟨_, e1, ⟨arr1, rfl, _⟩⟩ := hia.get hs1
  refine getMethod_builtin ⟨_, e1, rfl⟩ ba_plain ba_slot_extend ba_type_extend (fun b hb => by cases hb; exact ⟨_, e1, rfl⟩) ?_
  refine wpC_bi_args (args_cons (he s1 hs1 _ fun P nw1 v s2 ⟨xs, ep, hi, hl, k⟩ hP hs2 => args_nil ?_) hs2') hs1' hp
  subst ep
  obtain ⟨more, t, rfl, hM⟩ := hP
  obtain ⟨m, nn, o2, g, F, N, ⟨arr, rfl, hA⟩, hm, U, _, fin⟩ := hs2.upd hi
  have hsz : arr.size + more.size ≤ 1000000 := by rw [← hA, ← hM] at hl; simpa [KBw.bInts] using hl
  refine ba_extend_F rfl F N U hsz fun h' F' N' => q _ _ _ _ k rfl (fin h' _ _ (BaP (out ++ xs)) F' N' ⟨_, rfl, ?_⟩)
  rw [← hA, ← hM]; simp [KBw.bInts]) hin hw
theorem EE.lenBa {x : Str} {xp pos : Pos} {e : Expr} {a : Addr} {out : List Int} (hf : EE c lo nw (.Name x xp) (Is (.builtin "len"))) (ha : EE c lo nw e (Is (.ref a))) (hi : In c nw a (BaP out)) (hl : out.length ≤ 1000000)
    (he : autoParam (starEach [e] c.env = (false, eval e c.env) :: starEach [] c.env) Mine.aR)
    (hc : autoParam (eval (.Call (.Name x xp) [e] [] pos) c.env = (do callWith pos (← eval (.Name x xp) c.env) [] (backTo pos (starEach [e] c.env)) (backToKw pos (keywordEach [] c.env)))) Mine.aR) : EE c lo nw (.Call (.Name x xp) [e] [] pos) (It out.length) := fun s hs Q E q => by
  refine Call_ (hf s hs _ _ fun v s1 hv hs1 => ?_) hc
  cases hv
  refine PyProof.Rows.callWith_builtin1 (args_cons (ha s1 hs1 _ _ fun v s2 hv hs2 => args_nil ?_) he) he rfl
  cases hv
  obtain ⟨o, e, arr, rfl, hA⟩ := hi.get hs2
  have hsz : arr.size = out.length := by rw [← hA]; simp [KBw.bInts]
  refine ba_len e (by omega) (q _ _ ⟨_, by rw [hsz]⟩ ?_)
  exact (hs2.tok (tk := s2.toks + 1 + 1))
theorem EE.lenR {x : Str} {xp pos : Pos} {e : Expr} {a : Addr} {as : List Addr} (hf : EE c lo nw (.Name x xp) (Is (.builtin "len"))) (ha : EE c lo nw e (Is (.ref a))) (hi : In c nw a (RefR as)) (hl : as.length ≤ 1000000)
    (he : autoParam (starEach [e] c.env = (false, eval e c.env) :: starEach [] c.env) Mine.aR)
    (hc : autoParam (eval (.Call (.Name x xp) [e] [] pos) c.env = (do callWith pos (← eval (.Name x xp) c.env) [] (backTo pos (starEach [e] c.env)) (backToKw pos (keywordEach [] c.env)))) Mine.aR) : EE c lo nw (.Call (.Name x xp) [e] [] pos) (It as.length) := fun s hs Q E q => by
  refine Call_ (hf s hs _ _ fun v s1 hv hs1 => ?_) hc
  cases hv
  refine PyProof.Rows.callWith_builtin1 (args_cons (ha s1 hs1 _ _ fun v s2 hv hs2 => args_nil ?_) he) he rfl
  cases hv
  obtain ⟨o, e, n, rfl⟩ := hi.get hs2
  have hsz : (List.toArray (as.reverse.map Value.ref)).size = as.length := by simp
  refine len_list (items := List.toArray (as.reverse.map Value.ref)) ⟨_, e, rfl, n, rfl⟩ (by rw [hsz]; lia) (q _ _ ⟨_, by rw [hsz]⟩ hs2.tok)
theorem Ex.tabPair (ok : Ok c) {elts : List Expr} {k : Nat} {tpos spos pos : Pos} {o e : Expr} {l : Addr} {lst mr : Nat → Int} {n : Nat} {j : Int} (is : List Nat) (xs : List (Str × Pos)) (hi : is.map (nth c.S.nm) = xs.map (fun x => some x.1)) (hl2 : xs.length = 2) (hT : TabA (In c nw) l lst mr n) (ho : EE c lo nw o (Is (.ref l))) (he : EE c lo nw e (It j)) (j0 : 0 ≤ j) (j1 : j < n) (hn : n ≤ 1000)
    (kk : Ex c (puts lo is [It (lst j.toNat), It (mr j.toNat)]) nw rest R)
    (h1 : autoParam ((assignEach elts c.env).map (·.2) = xs.map (fun x => assign (.Name x.1 x.2) c.env)) Mine.aR) (h2 : autoParam ((assignEach elts c.env).findIdx? (·.1) = Option.none) Mine.aR)
    (h3 : autoParam (∀ u, subscripted e false (.ref l) (.int j u) = operate [.ref l, .int j u] (getItem (.ref l) (.int j u))) Mine.aW1)
    (hs' : autoParam (swapsWithSole [.Tuple elts k tpos] (.Subscript o e spos) pos.line c.env = pure false) Mine.aR) (hw : autoParam (swappedStores [.Tuple elts k tpos] (.Subscript o e spos) c.env = pure Option.none) Mine.aR) : Ex c lo nw (.Assign [.Tuple elts k tpos] (.Subscript o e spos) pos :: rest) R :=
  Ex.sk fun s hs Q q => Assign_Tuple (Subscript_ (ho s hs _ _ fun v s1 hv hs1 => he s1 hs1 _ _ fun v' s2 hv' hs2 => by
    cases hv
    obtain ⟨u, rfl⟩ := hv'
    obtain ⟨as, e0, hl, hit⟩ := hT
    obtain ⟨a, ea, ha⟩ := hit j.toNat (by lia)
    obtain ⟨oo, eo, n2, rfl⟩ := hl.get hs2
    obtain ⟨ot, et, tc, vs, n3, td, hvs⟩ := ha.get hs2
    have hL : s2.heap.IsList l (List.toArray (as.reverse.map Value.ref)) := ⟨_, eo, rfl, n2, rfl⟩
    refine tail_any hL.typeIs slot_list_getitem.lookup (wpAny_getItem_list hL j0 (by lia) (x := .ref a) (by rw [List.getElem?_toArray, List.getElem?_map, ea]; rfl) ?_) (h3 u)
    exact tup_store ok hs2 ⟨ot, et, tc, n3, td⟩ hi hvs hl2.symm h1 h2 fun s' hs' => q _ _ _ kk hs')) hs' hw
theorem Tv.isN {a : Expr} {k : Nat} {np pos : Pos} {P : AV} {b : Bool} (ha : EE c lo nw a P) (hP : ∀ v, P v → (v == Value.none) = b) (hm : autoParam (behindInMarks .Is (.Constant .none k np) = false) Mine.aW) : Tv c lo nw (.Compare a [.Is] [.Constant .none k np] pos) b := fun s hs Q E q =>
  wpAny_isTrue_Compare1 (ha s hs _ _ fun v s1 hv hs1 => wpAny_Constant_none (is_none_gen (wpAny_truthy_bool (q _ _ (hP v hv) hs1)))) hm
theorem Tv.notN {a : Expr} {k : Nat} {np pos : Pos} {P : AV} {b : Bool} (ha : EE c lo nw a P) (hP : ∀ v, P v → (!(v == Value.none)) = b) (hm : autoParam (behindInMarks .IsNot (.Constant .none k np) = false) Mine.aW) : Tv c lo nw (.Compare a [.IsNot] [.Constant .none k np] pos) b := fun s hs Q E q =>
  wpAny_isTrue_Compare1 (ha s hs _ _ fun v s1 hv hs1 => wpAny_Constant_none (isnot_none_gen (wpAny_truthy_bool (q _ _ (hP v hv) hs1)))) hm
end
end Mine
end
section
open PySem PySem.W PySem.Calls PyProof.Rows
set_option maxRecDepth 100000
set_option maxHeartbeats 4000000
namespace Mine
noncomputable abbrev infN : List Str := [Str.ofString "reader", Str.ofString "window", Str.ofString "content", Str.ofString "is_last", Str.ofString "is_done", Str.ofString "literal", Str.ofString "distance", Str.ofString "stored", Str.ofString "lengths", Str.ofString "distances", Str.ofString "fixed"]
theorem infN_nd : infN.Nodup := by decide +kernel
@[reducible] noncomputable def infP (rd ba ll ld : Addr) (win : Int) (la dn : Bool) (lit dis : Value) (sto : Int) (fx : Value) : AO := FldP infN [Is (.ref rd), It win, Is (.ref ba), Is (.bool la), Is (.bool dn), Is lit, Is dis, It sto, Is (.ref ll), Is (.ref ld), Is fx]
theorem at238 (w : World) {j : Nat} {x : Str} (h : nth infN j = some x) : AtOk w 238 x := by
  match j, h with
  | 0, h => cases h; exact ⟨by k_is, by k_is, _, by k_is, by k_is⟩
  | 1, h => cases h; exact ⟨by k_is, by k_is, _, by k_is, by k_is⟩
  | 2, h => cases h; exact ⟨by k_is, by k_is, _, by k_is, by k_is⟩
  | 3, h => cases h; exact ⟨by k_is, by k_is, _, by k_is, by k_is⟩
  | 4, h => cases h; exact ⟨by k_is, by k_is, _, by k_is, by k_is⟩
  | 5, h => cases h; exact ⟨by k_is, by k_is, _, by k_is, by k_is⟩
  | 6, h => cases h; exact ⟨by k_is, by k_is, _, by k_is, by k_is⟩
  | 7, h => cases h; exact ⟨by k_is, by k_is, _, by k_is, by k_is⟩
  | 8, h => cases h; exact ⟨by k_is, by k_is, _, by k_is, by k_is⟩
  | 9, h => cases h; exact ⟨by k_is, by k_is, _, by k_is, by k_is⟩
  | 10, h => cases h; exact ⟨by k_is, by k_is, _, by k_is, by k_is⟩
theorem st238 (w : World) {j : Nat} {x : Str} (h : nth infN j = some x) : StOk w 238 x := by
  match j, h with
  | 0, h => cases h; exact ⟨by k_is, by k_is, by k_is, by k_is⟩
  | 1, h => cases h; exact ⟨by k_is, by k_is, by k_is, by k_is⟩
  | 2, h => cases h; exact ⟨by k_is, by k_is, by k_is, by k_is⟩
  | 3, h => cases h; exact ⟨by k_is, by k_is, by k_is, by k_is⟩
  | 4, h => cases h; exact ⟨by k_is, by k_is, by k_is, by k_is⟩
  | 5, h => cases h; exact ⟨by k_is, by k_is, by k_is, by k_is⟩
  | 6, h => cases h; exact ⟨by k_is, by k_is, by k_is, by k_is⟩
  | 7, h => cases h; exact ⟨by k_is, by k_is, by k_is, by k_is⟩
  | 8, h => cases h; exact ⟨by k_is, by k_is, by k_is, by k_is⟩
  | 9, h => cases h; exact ⟨by k_is, by k_is, by k_is, by k_is⟩
  | 10, h => cases h; exact ⟨by k_is, by k_is, by k_is, by k_is⟩
section
variable {c : Cx} {lo : Lo} {nw : Nw} {rest : List Stmt} {R : Fl → Lo → Nw → Prop}
theorem EE.inf (ok : OkB c) (j : Nat) {o : Expr} {pos : Pos} {it d : Addr} {Ps : List AV} {P : AV} {x : Str} (ho : EE c lo nw o (Is (.ref it))) (hit : In c nw it (InstP 238 d)) (hd : In c nw d (FldP infN Ps)) (hh : ∀ v, P v → handedIn v = true) (hx : autoParam (nth infN j = some x) Mine.aR) (hP : autoParam (nth Ps j = some P) Mine.aR)
    (he : autoParam (eval (.Attribute o x pos) c.env = (do
      let o' ← eval o c.env
      standAt pos.atName
      let r ← holding [o'] (getAttr o' x true)
      letTemporaryGo o o' r
      pure r)) Mine.aW) (ht : autoParam (∀ o' r, letTemporaryGo o o' r = pure ()) Mine.aW2) : EE c lo nw (.Attribute o x pos) P :=
  EE.attr ok j ho hit hd (at238 _ hx) infN_nd hx hP hh he ht
theorem EE.itemBa {o e : Expr} {pos : Pos} {a : Addr} {out : List Int} {k : Int} (ho : EE c lo nw o (Is (.ref a))) (he : EE c lo nw e (It k)) (hi : In c nw a (BaP out)) (k0 : 0 ≤ k) (k1 : k < out.length) (hl : out.length ≤ 100000)
    (h1 : autoParam (∀ u, subscripted e false (.ref a) (.int k u) = operate [.ref a, .int k u] (getItem (.ref a) (.int k u))) Mine.aW1) : EE c lo nw (.Subscript o e pos) (It (out.getD k.toNat 0)) := fun s hs Q E q =>
  Subscript_ (ho s hs _ _ fun v s1 hv hs1 => he s1 hs1 _ _ fun v' s2 hv' hs2 => by
    cases hv
    obtain ⟨u, rfl⟩ := hv'
    obtain ⟨oo, eo, arr, rfl, hA⟩ := hi.get hs2
    have hz : arr.size = out.length := by rw [← hA]; simp [KBw.bInts]
    have hk : k.toNat < arr.size := by omega
    have e2 : out.getD k.toNat 0 = ((arr[k.toNat].toNat : Nat) : Int) := by rw [← hA, List.getD_eq_getElem?_getD, bInts_get hk]; rfl
    refine tail_any (T := "bytearray") ⟨_, eo, rfl⟩ ba_slot_getitem.lookup (ba_getItem eo k0 (by lia) (by lia) ?_) (h1 u)
    exact q _ _ ⟨_, by rw [e2]⟩ hs2.tok)
theorem Ex.baOut {l : List Stmt} {i : Nat} {a : Addr} {out : List Int} (hi : nth nw i = some (a, BaP out)) (h : (∀ j, 0 ≤ out.getD j 0 ∧ out.getD j 0 < 256) → Ex c lo nw l R) : Ex c lo nw l R := fun s hs Q q => by
  obtain ⟨_, _, ⟨arr, rfl, hA⟩, _⟩ := hs.has (nth_mem hi)
  exact h (byte_b hA) s hs Q q
end
theorem hasS {B : Heap} {nw nw2 : Nw} (h : Has B nw) (k : ∀ e ∈ nw2, e ∈ nw) : Has B nw2 := fun e he => h e (k e he)
theorem copyN_len {b : Int} {out : List Int} : ∀ n, (copyN b n out).length = out.length + n
  | 0 => rfl
  | n + 1 => by rw [copyN, copyStep, List.length_append, copyN_len n]; rfl
theorem lenT_small {n : Int} (h0 : 0 ≤ n) (h7 : n ≤ 7) : lenT n.toNat = 3 + n ∧ lenM n.toNat = 0 := by
  have : n = 0 ∨ n = 1 ∨ n = 2 ∨ n = 3 ∨ n = 4 ∨ n = 5 ∨ n = 6 ∨ n = 7 := by lia
  rcases this with rfl | rfl | rfl | rfl | rfl | rfl | rfl | rfl <;> decide
theorem leastD_small {n : Int} (h0 : 0 ≤ n) (h5 : n ≤ 5) : 1 ≤ leastD n.toNat ∧ leastD n.toNat ≤ 7 ∧ 0 ≤ moreD n.toNat ∧ moreD n.toNat ≤ 2 := by
  have : n = 0 ∨ n = 1 ∨ n = 2 ∨ n = 3 ∨ n = 4 ∨ n = 5 := by lia
  rcases this with rfl | rfl | rfl | rfl | rfl | rfl <;> decide
theorem ctD : CdOk countsD signsD := ⟨rfl, all_getD c0D, by rw [signsD_len]; decide, fun i hi => by rw [signsD_len]; exact ahdD i hi⟩
theorem ctL : CdOk countsL signsL := ⟨rfl, all_getD c0L, by rw [signsL_len]; decide, fun i hi => by rw [signsL_len]; exact ahdL i hi⟩
theorem copyRes_eq {ks : List Int} {st st1 st2 : RS} {win x v : Int} {n : Nat} (h1 : nextSign countsD signsD ks st = some (x, st1)) (h2 : rdBits ks st1 (moreD x.toNat) = some (v, st2)) : copyRes ks st win n = if (n : Int) < leastD x.toNat + v ∨ win < leastD x.toNat + v then none else some (leastD x.toNat + v, st2) := by
  unfold copyRes
  rw [h1]
  dsimp only
  rw [h2]
theorem copyRes_none1 {ks : List Int} {st : RS} {win : Int} {n : Nat} (h1 : nextSign countsD signsD ks st = none) : copyRes ks st win n = none := by
  unfold copyRes
  rw [h1]
theorem copyRes_none2 {ks : List Int} {st st1 : RS} {win x : Int} {n : Nat} (h1 : nextSign countsD signsD ks st = some (x, st1)) (h2 : rdBits ks st1 (moreD x.toNat) = none) : copyRes ks st win n = none := by
  unfold copyRes
  rw [h1]
  dsimp only
  rw [h2]
theorem gl_min (w : World) : nsIn (HA.hd.heap_1_39 w.params) mainGlobals (Str.ofString "min") = some none := by k_is
noncomputable def sTell : Sx := sx true 235 [Str.ofString "self", Str.ofString "number", Str.ofString "least", Str.ofString "more", Str.ofString "length", Str.ofString "sign", Str.ofString "back", Str.ofString "begin", Str.ofString "spot"]
theorem fn_tell (w : World) : Fn w 235 sTell 2 [] (bodyF 235) := by
  refine ⟨⟨by kernel_rfl, by decide +kernel, by decide +kernel⟩, Nat.le_of_ble_eq_true rfl, ?_⟩
  refine ⟨_, _, _, _, _, _, _, _, _, _, _, _, by k_is, by (show codeIn _ _ (Str.ofString "Inflater.tell_copy") = true; k_is), ?_, by decide +kernel, by kernel_rfl, by kernel_rfl⟩
  intro s vs hK h
  obtain ⟨a, b, rfl⟩ := vs2 h
  exact BindsTo.of_eq rfl
theorem tell_h {V : Vx} (ok : Ok ⟨sTell, V⟩) (hdp : V.dp < 850) {it d rd dx ba ll ld c2 cx2 lc2 ls2 : Addr} {arr : Array UInt8} {ks out : List Int} {st : RS} {win stored number : Int} {la dn : Bool} {lit fx : Value} (hit : At V.h₀ it (InstP 238 d)) (hrd : At V.h₀ rd (InstP 109 dx)) (hll : TabA (At V.h₀) ll lenT lenM 29) (hld : TabA (At V.h₀) ld leastD moreD 30) (hc2 : CodesA (At V.h₀) c2 countsD signsD cx2 lc2 ls2)
    (hb : KBw.bInts arr = ks) (hlen : ks.length ≤ 2000) (hks : ∀ x ∈ ks, 0 ≤ x ∧ x < 256) (hR : RI ks st) (hn0 : 0 ≤ number) (hn7 : number ≤ 7) (hout : out.length ≤ 2000) (hds : ∀ x st', nextSign countsD signsD ks st = some (x, st') → 0 ≤ x ∧ x ≤ 5)
    {K : AV → Nw → Prop} (kk : ∀ back st2, copyRes ks st win out.length = some (back, st2) → RI ks st2 → K (Is .none) [(d, infP rd ba ll ld win la dn lit (.ref c2) stored fx), (dx, RdP arr st2), (ba, BaP (copyN back (3 + number).toNat out))])
    (her : copyRes ks st win out.length = none → ∀ B, Has B [(d, infP rd ba ll ld win la dn lit (.ref c2) stored fx), (ba, BaP out)] → V.Er B) :
    Ex ⟨sTell, V⟩ [some (Is (.ref it)), some (It number), none, none, none, none, none, none, none] [(d, infP rd ba ll ld win la dn lit (.ref c2) stored fx), (dx, RdP arr st), (ba, BaP out)] (bodyF 235) (fun fl _ nw' => K fl.av nw') := by
  have okb := ok.toOkB
  have hdp2 := hdp
  have hiI : ∀ nw, In ⟨sTell, V⟩ nw it (InstP 238 d) := fun _ => .inr hit
  have hrI : ∀ nw, In ⟨sTell, V⟩ nw rd (InstP 109 dx) := fun _ => .inr hrd
  obtain ⟨eT, eM⟩ := lenT_small hn0 hn7
  obtain ⟨as, ha1, ha2, _⟩ := id hll
  obtain ⟨bs, hb1, hb2, _⟩ := id hld
  refine Ex.if1 (Tv.cmp (EE.loc okb (i := 1) rfl rfl) (EE.lenR (EE.lenN okb) (EE.inf okb 8 (EE.loc okb (i := 0) rfl rfl) (hiI _) (In.at (i := 0) rfl) handed_ref) (.inr ha2) (by rw [ha1]; decide)) CpI.ge) (fun h => absurd h (by rw [ha1]; lia)) fun _ => ?_
  refine Ex.tabPair ok [2, 3] [(_, _), (_, _)] rfl rfl (hll.mono fun _ _ => .inr) (EE.inf okb 8 (EE.loc okb (i := 0) rfl rfl) (hiI _) (In.at (i := 0) rfl) handed_ref) (EE.loc okb (i := 1) rfl rfl) hn0 (by lia) (by decide) ?_
  rw [eT, eM]
  refine Ex.asg ok (i := 4) rfl (EK.binR (EE.loc okb (i := 2) rfl rfl) (EK.bits ok (by exact Nat.lt_trans hdp (by decide)) [0, 2] 3 (EE.inf okb 0 (EE.loc okb (i := 0) rfl rfl) (hiI _) (In.at (i := 0) rfl) handed_ref) (EE.loc okb (i := 3) rfl rfl) (i := 1) rfl (hrI _) (.inl hrd) hb hlen hR (by decide) (by decide) (fun x st' e0 => ?_) (fun e0 => by rw [rd_zero hR] at e0; cases e0)))
  rw [rd_zero hR] at e0
  cases e0
  refine ⟨0, rfl, _, OpI.add, ?_⟩
  refine Ex.asg ok (i := 5) rfl (EK.next ok (Nat.lt_trans hdp (by decide)) [0, 2] 3 (EE.inf okb 6 (EE.loc okb (i := 0) rfl rfl) (hiI _) (In.at (i := 0) rfl) handed_ref) (EE.inf okb 0 (EE.loc okb (i := 0) rfl rfl) (hiI _) (In.at (i := 0) rfl) handed_ref) (i := 1) rfl (.inl hrd) (.inr hc2.i) (.inr hc2.d) (hc2.mono fun _ _ => .inl) hb hlen hR ctD (fun x st1 h1 hR1 => ?_) (fun e0 => her (copyRes_none1 e0)))
  obtain ⟨x0, x5⟩ := hds x st1 h1
  obtain ⟨l1, l7, m0, m2⟩ := leastD_small x0 x5
  refine Ex.if1 (Tv.cmp (EE.loc okb (i := 5) rfl rfl) (EE.lenR (EE.lenN okb) (EE.inf okb 9 (EE.loc okb (i := 0) rfl rfl) (hiI _) (In.at (i := 0) rfl) handed_ref) (.inr hb2) (by rw [hb1]; decide)) CpI.ge) (fun h => absurd h (by rw [hb1]; omega)) fun _ => ?_
  refine Ex.tabPair ok [2, 3] [(_, _), (_, _)] rfl rfl (hld.mono fun _ _ => .inr) (EE.inf okb 9 (EE.loc okb (i := 0) rfl rfl) (hiI _) (In.at (i := 0) rfl) handed_ref) (EE.loc okb (i := 5) rfl rfl) x0 (by lia) (by decide) ?_
  refine Ex.asg ok (i := 6) rfl (EK.binR (EE.loc okb (i := 2) rfl rfl) (EK.bits ok (by exact Nat.lt_trans hdp (by decide)) [0, 2] 3 (EE.inf okb 0 (EE.loc okb (i := 0) rfl rfl) (hiI _) (In.at (i := 0) rfl) handed_ref) (EE.loc okb (i := 3) rfl rfl) (i := 1) rfl (hrI _) (.inl hrd) hb hlen hR1 m0 m2 (fun v st2 h2 => ?_) (fun e0 B hB => her (copyRes_none2 h1 e0) B (hasS hB fun e he => .tail _ he))))
  have hv := rd_nonneg m0 h2
  have hR2 := (rd_some hR1 m0 (Int.le_trans m2 (by decide)) hks h2).1
  refine ⟨v, rfl, _, OpI.add, ?_⟩
  have hcr := copyRes_eq (win := win) (n := out.length) h1 h2
  have hb1' : 1 ≤ leastD x.toNat + v := by lia
  generalize leastD x.toNat + v = bk at hcr hb1' ⊢
  refine Ex.ifB (Tv.or (Tv.cmp (EE.loc okb (i := 6) rfl rfl) (EE.lenBa (EE.lenN okb) (EE.inf okb 2 (EE.loc okb (i := 0) rfl rfl) (hiI _) (In.at (i := 0) rfl) handed_ref) (In.at (i := 2) rfl) (Nat.le_trans hout (by decide))) CpI.gt) fun _ => Tv.or (Tv.cmp (EE.loc okb (i := 6) rfl rfl) (EE.inf okb 1 (EE.loc okb (i := 0) rfl rfl) (hiI _) (In.at (i := 0) rfl) handed_it) CpI.gt) fun _ => Tv.orN) (fun h => ?_) fun h => Ex.nil (R := thn _ _ _) ?_
  · have hc : (out.length : Int) < bk ∨ win < bk := by simpa using h
    rw [if_pos hc] at hcr
    exact Ex.bad ok (Nat.lt_trans hdp (by decide)) fun B hB => her hcr B (hasS hB fun e he => by
      rcases List.mem_cons.mp he with rfl | he
      · exact .head _
      · exact .tail _ (.tail _ he))
  have hc : ¬ ((out.length : Int) < bk ∨ win < bk) := by
    intro hc
    have : (decide ((out.length : Int) < bk) || (decide (win < bk) || false)) = true := by simpa using hc
    rw [this] at h; cases h
  rw [if_neg hc] at hcr
  have hc1 : bk ≤ out.length := by omega
  clear hc h
  refine Ex.asg ok (i := 7) rfl (Ev.k (EE.bin (EE.lenBa (EE.lenN okb) (EE.inf okb 2 (EE.loc okb (i := 0) rfl rfl) (hiI _) (In.at (i := 0) rfl) handed_ref) (In.at (i := 2) rfl) (Nat.le_trans hout (by decide))) (EE.loc okb (i := 6) rfl rfl) OpI.sub) ?_)
  have en : ((out.length : Int) - bk + (3 + number + 0) - ((out.length : Int) - bk)).toNat = (3 + number).toNat := by lia
  refine Ex.forR2 ok (ix := 8) rfl (EE.rangeN okb) (EE.loc okb (i := 7) rfl rfl) (EE.bin (EE.loc okb (i := 7) rfl rfl) (EE.loc okb (i := 4) rfl rfl) OpI.add) (by lia) (by lia)
    (Lp.mk (fun y => [some (Is (.ref it)), some (It number), some (It (leastD x.toNat)), some (It (moreD x.toNat)), some (It (3 + number + 0)), some (It x), some (It bk), some (It (out.length - bk)), y.p1]) (fun y => [(d, infP rd ba ll ld win la dn lit (.ref c2) stored fx), (dx, RdP arr st2), (ba, BaP y.l1)]) (fun i y => y.l1 = copyN bk i out)
      { l1 := out } rfl (fun I oI i y hi hy => ?_) fun y hy => ?_)
  · rw [en] at hi
    have hl := copyN_len (b := bk) (out := out) i
    rw [← hy] at hl
    have hi2 : (i : Int) < 3 + number := by omega
    have e1 : ((out.length : Int) - bk + i).toNat = (-bk + (y.l1.length : Nat)).toNat := by rw [hl]; lia
    refine Ex.baOut (i := 3) rfl fun hby => ?_
    refine Ex.baApp rfl 3 (EE.inf okb 2 (EE.loc okb (i := 0) rfl rfl) (hiI _) (In.at (i := 1) rfl) handed_ref) (EE.itemBa (EE.inf okb 2 (EE.loc okb (i := 0) rfl rfl) (hiI _) (In.at (i := 1) rfl) handed_ref) (EE.loc okb (i := 8) rfl rfl) (In.at (i := 3) rfl) (by lia) (by lia) (by lia)) rfl (hby _).1 (hby _).2 (by lia) ?_
    rw [e1]
    exact Ex.tendS { l1 := y.l1 ++ [y.l1.getD (-bk + (y.l1.length : Nat)).toNat 0], p1 := _ } [0, 1, 2, 3] 4 (by dsimp only; rw [copyN, copyStep, ← hy])
  · rw [en] at hy
    refine Ex.nil ?_
    have := kk bk st2 hcr hR2
    rw [← hy] at this
    exact this
end Mine
end
section
open PySem PySem.W PySem.Calls PyProof.Rows
set_option maxRecDepth 100000
set_option maxHeartbeats 4000000
namespace Mine
noncomputable def mostA : Option Int → AV
  | none => Is .none
  | some k => It k
theorem mt_tell (w : World) : MtOk w 238 (Str.ofString "tell_copy") 235 := ⟨by k_is, by k_is, by k_is⟩
theorem kp_tell (w : World) : keepIn (HA.hd.heap_1_39 w.params) (.ref 235) = true := by k_is
theorem mt_stored (w : World) : MtOk w 238 (Str.ofString "tell_stored") 221 := ⟨by k_is, by k_is, by k_is⟩
theorem kp_stored (w : World) : keepIn (HA.hd.heap_1_39 w.params) (.ref 221) = true := by k_is
theorem mt_sign (w : World) : MtOk w 238 (Str.ofString "tell_sign") 228 := ⟨by k_is, by k_is, by k_is⟩
theorem kp_tsign (w : World) : keepIn (HA.hd.heap_1_39 w.params) (.ref 228) = true := by k_is
noncomputable def sStored : Sx := sx true 221 [Str.ofString "self", Str.ofString "most", Str.ofString "many"]
theorem fn_stored (w : World) : Fn w 221 sStored 2 [] (bodyF 221) := by
  refine ⟨⟨by kernel_rfl, by decide +kernel, by decide +kernel⟩, Nat.le_of_ble_eq_true rfl, ?_⟩
  refine ⟨_, _, _, _, _, _, _, _, _, _, _, _, by k_is, by (show codeIn _ _ (Str.ofString "Inflater.tell_stored") = true; k_is), ?_, by decide +kernel, by kernel_rfl, by kernel_rfl⟩
  intro s vs hK h
  obtain ⟨a, b, rfl⟩ := vs2 h
  exact BindsTo.of_eq rfl
theorem stored_h {V : Vx} (ok : Ok ⟨sStored, V⟩) (hdp : V.dp < 850) {it d rd dx ba ll ld : Addr} {arr : Array UInt8} {ks out : List Int} {st : RS} {win stored : Int} {la dn : Bool} {lit dis fx : Value} {most : Option Int} (hit : At V.h₀ it (InstP 238 d)) (hrd : At V.h₀ rd (InstP 109 dx))
    (hb : KBw.bInts arr = ks) (hlen : ks.length ≤ 2000) (ha : 0 ≤ st.a) (hm0 : 0 ≤ manyOf stored out.length most) (hm5 : manyOf stored out.length most ≤ 5) (hout : out.length ≤ 2000)
    {K : AV → Nw → Prop} (kk : st.a + manyOf stored out.length most ≤ ks.length → K (Is .none) [(d, infP rd ba ll ld win la dn lit dis (stored - manyOf stored out.length most) fx), (dx, RdP arr ⟨st.a + manyOf stored out.length most, 0, 0⟩), (ba, BaP (out ++ (ks.drop st.a.toNat).take (manyOf stored out.length most).toNat))])
    (her : ks.length < st.a + manyOf stored out.length most → ∀ B, Has B [(d, infP rd ba ll ld win la dn lit dis stored fx), (ba, BaP out)] → V.Er B) :
    Ex ⟨sStored, V⟩ [some (Is (.ref it)), some (mostA most), none] [(d, infP rd ba ll ld win la dn lit dis stored fx), (dx, RdP arr st), (ba, BaP out)] (bodyF 221) (fun fl _ nw' => K fl.av nw') := by
  have okb := ok.toOkB
  have hiI : ∀ nw, In ⟨sStored, V⟩ nw it (InstP 238 d) := fun _ => .inr hit
  have hrI : ∀ nw, In ⟨sStored, V⟩ nw rd (InstP 109 dx) := fun _ => .inr hrd
  have fin : ∀ m, m = manyOf stored out.length most → Ex ⟨sStored, V⟩ [some (Is (.ref it)), some (mostA most), some (It m)] [(d, infP rd ba ll ld win la dn lit dis stored fx), (dx, RdP arr st), (ba, BaP out)] ((bodyF 221).drop 2) (fun fl _ nw' => K fl.av nw') := fun m hm => by
    subst hm
    refine Ex.baExt rfl 2 (EE.inf okb 2 (EE.loc okb (i := 0) rfl rfl) (hiI _) (In.at (i := 0) rfl) handed_ref) (In.at (i := 2) rfl) (EK.meth ok (EE.inf okb 0 (EE.loc okb (i := 0) rfl rfl) (hiI _) (In.at (i := 0) rfl) handed_ref) (hrI _) (In.at (i := 1) rfl) (mt_raw _) (kp_raw _) (by decide +kernel) (EvA.p (EE.loc okb (i := 2) rfl rfl) (EvA.nil (CK.raw ok (Nat.lt_trans hdp (by decide)) (i := 1) [0, 2] 3 rfl (.inl hrd) hb hlen ha hm0 hm5 (fun e => ⟨_, rfl, rfl, ?_, ?_⟩) her))))
    · rw [List.length_take]; omega
    · exact Ex.aaug ok 0 7 (EE.loc okb (i := 0) rfl rfl) (EE.loc okb (i := 2) rfl rfl) (hiI _) rfl (at238 _ (j := 7) rfl) (st238 _ (j := 7) rfl) infN_nd rfl OpJ.sub (Ex.nil (kk e))
  refine Ex.asg ok (i := 2) rfl (Ev.k (EE.inf okb 7 (EE.loc okb (i := 0) rfl rfl) (hiI _) (In.at (i := 0) rfl) handed_it) ?_)
  cases most with
  | none => exact Ex.ifB (b := false) (Tv.notN (EE.loc okb (i := 1) rfl rfl) fun v hv => by cases hv; rfl) (fun h => nomatch h) fun _ => Ex.nil (R := thn _ _ _) (fin _ rfl)
  | some k =>
    refine Ex.ifB (b := true) (Tv.notN (EE.loc okb (i := 1) rfl rfl) fun v ⟨t, e⟩ => by cases e; rfl) (fun _ => ?_) (fun h => nomatch h)
    refine Ex.asg ok (i := 2) rfl (EK.callB (EE.blt okb (gl_min _) boot_min) (EvA.p (EE.loc okb (i := 2) rfl rfl) (EvA.p (EE.bin (EE.loc okb (i := 1) rfl rfl) (EE.lenBa (EE.lenN okb) (EE.inf okb 2 (EE.loc okb (i := 0) rfl rfl) (hiI _) (In.at (i := 0) rfl) handed_ref) (In.at (i := 2) rfl) (Nat.le_trans hout (by decide))) OpI.sub) (EvA.nil (CK.min ?_)))))
    exact Ex.nil (R := thn _ _ _) (fin _ rfl)
noncomputable def sTsign : Sx := sx true 228 [Str.ofString "self", Str.ofString "sign"]
theorem fn_tsign (w : World) : Fn w 228 sTsign 1 [] (bodyF 228) := by
  refine ⟨⟨by kernel_rfl, by decide +kernel, by decide +kernel⟩, Nat.le_of_ble_eq_true rfl, ?_⟩
  refine ⟨_, _, _, _, _, _, _, _, _, _, _, _, by k_is, by (show codeIn _ _ (Str.ofString "Inflater.tell_sign") = true; k_is), ?_, by decide +kernel, by kernel_rfl, by kernel_rfl⟩
  intro s vs hK h
  obtain ⟨a, rfl⟩ := vs1 h
  exact BindsTo.of_eq rfl
theorem tsign_h {V : Vx} (ok : Ok ⟨sTsign, V⟩) (hdp : V.dp < 840) {it d rd dx ba ll ld c1 cx1 lc1 ls1 c2 cx2 lc2 ls2 : Addr} {arr : Array UInt8} {ks out : List Int} {st : RS} {win stored : Int} {la dn : Bool} {fx : Value} (hit : At V.h₀ it (InstP 238 d)) (hrd : At V.h₀ rd (InstP 109 dx)) (hll : TabA (At V.h₀) ll lenT lenM 29) (hld : TabA (At V.h₀) ld leastD moreD 30)
    (hc1 : CodesA (At V.h₀) c1 countsL signsL cx1 lc1 ls1) (hc2 : CodesA (At V.h₀) c2 countsD signsD cx2 lc2 ls2)
    (hb : KBw.bInts arr = ks) (hlen : ks.length ≤ 2000) (hks : ∀ x ∈ ks, 0 ≤ x ∧ x < 256) (hR : RI ks st) (hout : out.length ≤ 2000) (hsx : ∀ x st', nextSign countsL signsL ks st = some (x, st') → 0 ≤ x ∧ x ≤ 264)
    (hds : ∀ x st1, nextSign countsL signsL ks st = some (x, st1) → 256 < x → ∀ y st', nextSign countsD signsD ks st1 = some (y, st') → 0 ≤ y ∧ y ≤ 5)
    {K : AV → Nw → Prop} (k1 : ∀ x st1, nextSign countsL signsL ks st = some (x, st1) → x < 256 → RI ks st1 → K (Is .none) [(d, infP rd ba ll ld win la dn (.ref c1) (.ref c2) stored fx), (dx, RdP arr st1), (ba, BaP (out ++ [x]))])
    (k2 : ∀ x st1, nextSign countsL signsL ks st = some (x, st1) → x = 256 → RI ks st1 → K (Is .none) [(d, infP rd ba ll ld win la dn .none .none stored fx), (dx, RdP arr st1), (ba, BaP out)])
    (k3 : ∀ x st1, nextSign countsL signsL ks st = some (x, st1) → 256 < x → ∀ back st2, copyRes ks st1 win out.length = some (back, st2) → RI ks st2 → K (Is .none) [(d, infP rd ba ll ld win la dn (.ref c1) (.ref c2) stored fx), (dx, RdP arr st2), (ba, BaP (copyN back (3 + (x - 256 - 1)).toNat out))])
    (her : (nextSign countsL signsL ks st = none ∨ ∃ x st1, nextSign countsL signsL ks st = some (x, st1) ∧ 256 < x ∧ copyRes ks st1 win out.length = none) → ∀ B, Has B [(d, infP rd ba ll ld win la dn (.ref c1) (.ref c2) stored fx), (ba, BaP out)] → V.Er B) :
    Ex ⟨sTsign, V⟩ [some (Is (.ref it)), none] [(d, infP rd ba ll ld win la dn (.ref c1) (.ref c2) stored fx), (dx, RdP arr st), (ba, BaP out)] (bodyF 228) (fun fl _ nw' => K fl.av nw') := by
  have okb := ok.toOkB
  have hiI : ∀ nw, In ⟨sTsign, V⟩ nw it (InstP 238 d) := fun _ => .inr hit
  have hrI : ∀ nw, In ⟨sTsign, V⟩ nw rd (InstP 109 dx) := fun _ => .inr hrd
  refine Ex.asg ok (i := 1) rfl (EK.next ok (Nat.lt_trans hdp (by decide)) [0, 2] 3 (EE.inf okb 5 (EE.loc okb (i := 0) rfl rfl) (hiI _) (In.at (i := 0) rfl) handed_ref) (EE.inf okb 0 (EE.loc okb (i := 0) rfl rfl) (hiI _) (In.at (i := 0) rfl) handed_ref) (i := 1) rfl (.inl hrd) (.inr hc1.i) (.inr hc1.d) (hc1.mono fun _ _ => .inl) hb hlen hR ctL (fun x st1 h1 hR1 => ?_) (fun e0 => her (.inl e0)))
  obtain ⟨x0, x5⟩ := hsx x st1 h1
  refine Ex.ifD (Tv.cmp (EE.loc okb (i := 1) rfl rfl) (EE.globX okb (gl_ends _)) CpI.lt) (fun h => ?_) fun h => ?_
  · exact Ex.baApp rfl 2 (EE.inf okb 2 (EE.loc okb (i := 0) rfl rfl) (hiI _) (In.at (i := 0) rfl) handed_ref) (EE.loc okb (i := 1) rfl rfl) rfl x0 h (Nat.lt_of_le_of_lt hout (by decide)) (Ex.nil (R := thn _ _ _) (Ex.nil (k1 x st1 h1 h hR1)))
  refine Ex.ifD (Tv.cmp (EE.loc okb (i := 1) rfl rfl) (EE.globX okb (gl_ends _)) CpI.eq) (fun h => ?_) fun h2 => ?_
  · refine Ex.asetP ok 0 5 EE.none (EE.loc okb (i := 0) rfl rfl) (hiI _) rfl (st238 _ (j := 5) rfl) infN_nd ?_
    refine Ex.asetP ok 0 6 EE.none (EE.loc okb (i := 0) rfl rfl) (hiI _) rfl (st238 _ (j := 6) rfl) infN_nd ?_
    exact Ex.nil (R := thn _ _ _) (Ex.nil (R := thn _ _ _) (Ex.nil (k2 x st1 h1 h hR1)))
  have h3 : 256 < x := by lia
  refine Ex.exprT rfl (ET.meth ok (EE.loc okb (i := 0) rfl rfl) (hiI _) (In.at (i := 0) rfl) (mt_tell _) (kp_tell _) (by decide +kernel) (EvA.p (EE.bin (EE.bin (EE.loc okb (i := 1) rfl rfl) (EE.globX okb (gl_ends _)) OpI.sub) EE.int OpI.sub) (EvA.nil (CT.callB ok (conM (fn_tell _)) (Nat.lt_trans hdp (by decide)) rfl [0, 1, 2] [] 3 (nw₀ := [(d, infP rd ba ll ld win la dn (.ref c1) (.ref c2) stored fx), (dx, RdP arr st1), (ba, BaP out)]) rfl
    (Er := fun B => copyRes ks st1 win out.length = none ∧ Has B [(d, infP rd ba ll ld win la dn (.ref c1) (.ref c2) stored fx), (ba, BaP out)]) (fun V' e1 e2 e3 ro e5 okV => tell_h okV (dpL e2 hdp (by decide)) (ro _ _ (.inl hit)) (ro _ _ (.inl hrd)) (hll.mono fun a P h => ro a P (.inl h)) (hld.mono fun a P h => ro a P (.inl h)) (hc2.mono fun a P h => ro a P (.inl h)) hb hlen hks hR1 (by lia) (by lia) hout (hds x st1 h1 h3)
      (fun back st2 h4 hR2 => ⟨[], [_, _, _], [], rfl, rfl, Ex.nil (R := thn _ _ _) (Ex.nil (R := thn _ _ _) (Ex.nil (k3 x st1 h1 h3 back st2 h4 hR2)))⟩) fun e B hB => by rw [e5]; exact ⟨e, hB⟩) fun B _ hE => her (.inr ⟨x, st1, h1, h3, hE.1⟩) B hE.2))))
end Mine
end
section
open PySem PySem.W PySem.Calls PyProof.Rows
set_option maxRecDepth 100000
set_option maxHeartbeats 4000000
namespace Mine
theorem mt_bstored (w : World) : MtOk w 238 (Str.ofString "begin_stored") 214 := ⟨by k_is, by k_is, by k_is⟩
theorem kp_bstored (w : World) : keepIn (HA.hd.heap_1_39 w.params) (.ref 214) = true := by k_is
theorem gl_fixed (w : World) : nsIn (HA.hd.heap_1_39 w.params) mainGlobals (Str.ofString "fixed_codes") = some (some (.ref 163)) := by k_is
theorem kp_fixed (w : World) : keepIn (HA.hd.heap_1_39 w.params) (.ref 163) = true := by k_is
section
variable {c : Cx} {lo : Lo} {nw : Nw} {rest : List Stmt} {R : Fl → Lo → Nw → Prop}
theorem EE.itemBI {o e : Expr} {pos : Pos} {ks : List Int} {k : Int} (ho : EE c lo nw o (ByI ks)) (he : EE c lo nw e (It k)) (hl : ks.length ≤ 1000000) (k0 : 0 ≤ k) (k1 : k < ks.length)
    (h1 : autoParam (∀ arr t u, subscripted e false (.bytes arr t) (.int k u) = operate [.bytes arr t, .int k u] (getItem (.bytes arr t) (.int k u))) Mine.aW3) (h2 : autoParam (∀ arr t r, letTemporaryGo o (.bytes arr t) r = pure ()) Mine.aW3) : EE c lo nw (.Subscript o e pos) (It (ks.getD k.toNat 0)) := fun s hs Q E q =>
  Subscript_ (ho s hs _ _ fun v s1 hv hs1 => he s1 hs1 _ _ fun v' s2 hv' hs2 => by
    obtain ⟨arr, t, rfl, hb⟩ := hv
    obtain ⟨u, rfl⟩ := hv'
    exact KBw.item_K hb (Nat.le_trans hl (by decide)) k0 k1 (fun t' k _ _ => q _ _ ⟨t', rfl⟩ hs2.tok) (h1 _ _ _) (h2 _ _))
theorem EK.callG0 (ok : Ok c) {x : Str} {xp pos : Pos} {f : Value} {K : AV → Nw → Prop} (hf : EE c lo nw (.Name x xp) (Is f)) (hk : keepIn (HA.hd.heap_1_39 c.V.w.params) f = true) (h : CK c lo nw f [] K)
    (hc : autoParam (eval (.Call (.Name x xp) [] [] pos) c.env = (do callWith pos (← eval (.Name x xp) c.env) [] (backTo pos (starEach [] c.env)) (backToKw pos (keywordEach [] c.env)))) Mine.aR) :
    EK c lo nw (.Call (.Name x xp) [] [] pos) K := fun s hs Q q => by
  refine Call_ (hf s hs _ _ fun v s1 hv hs1 => ?_) hc
  cases hv
  obtain ⟨m, ns, F, N, _⟩ := hs1.opn
  refine callWith_K0 (K := HA.hd.heap_1_39 c.V.w.params) (ok.X0.keeps F.keep) hk ?_
  exact h _ .nil s1 hs1 Q q
theorem Ex.attr2 (ok : Ok c) {o1 o2 e : Expr} {x y : Str} {p1 p2 tpos pos : Pos} {k : Nat} {r d C t : Addr} {xs : List Str} {Ps : List AV} {P1 P2 : AV} (i j1 j2 : Nat) (he : EE c lo nw e (Is (.ref t))) (ht : In c nw t (TupP [P1, P2])) (h1 : ∀ nw, EE c lo nw o1 (Is (.ref r))) (h2 : ∀ nw, EE c lo nw o2 (Is (.ref r))) (hr : ∀ nw, In c nw r (InstP C d)) (hi : nth nw i = some (d, FldP xs Ps)) (hi2 : nth (put nw i (d, FldP xs (put Ps j1 P1))) i = some (d, FldP xs (put Ps j1 P1)))
    (s1 : StOk c.V.w C x) (s2 : StOk c.V.w C y) (nd : xs.Nodup) (hx : nth xs j1 = some x) (hy : nth xs j2 = some y) (hl : xs.length ≤ 1000)
    (kk : Ex c lo (put (put nw i (d, FldP xs (put Ps j1 P1))) i (d, FldP xs (put (put Ps j1 P1) j2 P2))) rest R)
    (ha : autoParam ((assignEach [.Attribute o1 x p1, .Attribute o2 y p2] c.env).map (·.2) = [assign (.Attribute o1 x p1) c.env, assign (.Attribute o2 y p2) c.env]) Mine.aR) (hb : autoParam ((assignEach [.Attribute o1 x p1, .Attribute o2 y p2] c.env).findIdx? (·.1) = none) Mine.aR)
    (hs' : autoParam (swapsWithSole [.Tuple [.Attribute o1 x p1, .Attribute o2 y p2] k tpos] e pos.line c.env = pure false) Mine.aR) (hw : autoParam (swappedStores [.Tuple [.Attribute o1 x p1, .Attribute o2 y p2] k tpos] e c.env = pure none) Mine.aR) :
    Ex c lo nw (.Assign [.Tuple [.Attribute o1 x p1, .Attribute o2 y p2] k tpos] e pos :: rest) R :=
  Ex.sk fun s hs Q q => Assign_Tuple (he s hs _ _ fun v s1' hv hs1 => by
    cases hv
    obtain ⟨ot, et, tc, vs, n, td, hvs⟩ := ht.get hs1
    have hlen := hvs.length
    obtain ⟨m, ns, F, N, k1, k2⟩ := hs1.opn
    refine unpackN_ F N (show IsTup s1'.heap t (List.toArray vs) from ⟨ot, et, tc, n, td⟩) rfl (by have := congrArg List.length ha; rw [List.length_map] at this; rw [this, List.size_toArray, ← hlen]; rfl) hb fun h' F' N' => ?_
    rw [ha]
    have hs2 := k1 h' s1'.toks F' N'
    cases hvs with
    | cons hv1 hvs =>
      cases hvs with
      | cons hv2 hvs =>
        cases hvs
        refine assignInOrder_cons (kas_attr (h1 _ _ hs2 _ _ fun ov s3 hov hs3 => ?_))
        cases hov
        refine attr_set ok.toOkB hs3 i j1 (hr _) hi s1 nd hl hx hv1 fun s4 hs4 => ?_
        refine assignInOrder_cons (kas_attr (h2 _ _ hs4 _ _ fun ov s5 hov hs5 => ?_))
        cases hov
        exact attr_set ok.toOkB hs5 i j2 (hr _) hi2 s2 nd hl hy hv2 fun s6 hs6 => wpAny_pure (q _ _ _ kk hs6)) hs' hw
end
noncomputable def sBstored : Sx := sx false 214 [Str.ofString "self", Str.ofString "head", Str.ofString "many", Str.ofString "turned"]
theorem fn_bstored (w : World) : Fn w 214 sBstored 1 [] (bodyF 214) := by
  refine ⟨⟨by kernel_rfl, by decide +kernel, by decide +kernel⟩, Nat.le_of_ble_eq_true rfl, ?_⟩
  refine ⟨_, _, _, _, _, _, _, _, _, _, _, _, by k_is, by (show codeIn _ _ (Str.ofString "Inflater.begin_stored") = true; k_is), ?_, by decide +kernel, by kernel_rfl, by kernel_rfl⟩
  intro s vs hK h
  obtain ⟨a, rfl⟩ := vs1 h
  exact BindsTo.of_eq rfl
theorem bstored_h {V : Vx} (ok : Ok ⟨sBstored, V⟩) (hdp : V.dp < 850) {it d rd dx ba ll ld : Addr} {arr : Array UInt8} {ks : List Int} {st : RS} {win stored : Int} {la dn : Bool} {lit dis fx : Value} (hit : At V.h₀ it (InstP 238 d)) (hrd : At V.h₀ rd (InstP 109 dx))
    (hb : KBw.bInts arr = ks) (hlen : ks.length ≤ 2000) (ha : 0 ≤ st.a)
    {K : AV → Nw → Prop} (kk : st.a + 4 ≤ ks.length → sto ks st.a + tur ks st.a = 65535 → K (Is .none) [(d, infP rd ba ll ld win la dn lit dis (sto ks st.a) fx), (dx, RdP arr ⟨st.a + 4, 0, 0⟩)])
    (her : ¬ (st.a + 4 ≤ ks.length ∧ sto ks st.a + tur ks st.a = 65535) → ∀ B, Has B [(d, infP rd ba ll ld win la dn lit dis stored fx)] → V.Er B) :
    Ex ⟨sBstored, V⟩ [some (Is (.ref it)), none, none, none] [(d, infP rd ba ll ld win la dn lit dis stored fx), (dx, RdP arr st)] (bodyF 214) (fun fl _ nw' => K fl.av nw') := by
  have okb := ok.toOkB
  have hiI : ∀ nw, In ⟨sBstored, V⟩ nw it (InstP 238 d) := fun _ => .inr hit
  have hrI : ∀ nw, In ⟨sBstored, V⟩ nw rd (InstP 109 dx) := fun _ => .inr hrd
  refine Ex.asg ok (i := 1) rfl (EK.meth ok (EE.inf okb 0 (EE.loc okb (i := 0) rfl rfl) (hiI _) (In.at (i := 0) rfl) handed_ref) (hrI _) (In.at (i := 1) rfl) (mt_raw _) (kp_raw _) (by decide +kernel) (EvA.p EE.int (EvA.nil (CK.raw ok (Nat.lt_trans hdp (by decide)) (i := 1) [0] 2 rfl (.inl hrd) hb hlen ha (by decide) (by decide) (fun e => ?_) fun e => her fun h => absurd h.1 (Int.not_le.mpr e)))))
  have hl : (hdl ks st.a).length = 4 := by unfold hdl; rw [List.length_take, List.length_drop]; lia
  have h4 : ∀ (k : Int), k < 4 → k < ((ks.drop st.a.toNat).take (4 : Int).toNat).length := fun k hk => by show k < (hdl ks st.a).length; rw [hl]; exact hk
  have h5 : ((ks.drop st.a.toNat).take (4 : Int).toNat).length ≤ 1000000 := by show (hdl ks st.a).length ≤ 1000000; rw [hl]; decide
  refine Ex.tup ok [3, 2] rfl (EvA.p (P := It (sto ks st.a)) (EE.bin (EE.itemBI (EE.loc okb (i := 1) rfl rfl) EE.int h5 (by decide) (h4 _ (by decide))) (EE.bin (EE.itemBI (EE.loc okb (i := 1) rfl rfl) EE.int h5 (by decide) (h4 _ (by decide))) EE.int (OpI.mulR (by decide) (by decide))) OpI.add)
    (EvA.p (P := It (tur ks st.a)) (EE.bin (EE.itemBI (EE.loc okb (i := 1) rfl rfl) EE.int h5 (by decide) (h4 _ (by decide))) (EE.bin (EE.itemBI (EE.loc okb (i := 1) rfl rfl) EE.int h5 (by decide) (h4 _ (by decide))) EE.int (OpI.mulR (by decide) (by decide))) OpI.add) (EvA.nil ⟨rfl, Nat.le_of_ble_eq_true rfl, ?_⟩)))
  refine Ex.if1 (Tv.cmp (EE.bin (EE.loc okb (i := 2) rfl rfl) (EE.loc okb (i := 3) rfl rfl) OpI.add) EE.int CpI.ne) (fun h => ?_) fun h => ?_
  · exact Ex.bad ok (Nat.lt_trans hdp (by decide)) fun B hB => her (fun z => h z.2) B (hasS hB fun e he => by rw [List.mem_singleton.mp he]; exact .head _)
  · exact Ex.asetP ok 0 7 (EE.loc okb (i := 2) rfl rfl) (EE.loc okb (i := 0) rfl rfl) (hiI _) rfl (st238 _ (j := 7) rfl) infN_nd (Ex.nil (kk e (Decidable.not_not.mp h)))
end Mine
end
section
open PySem PySem.W PySem.Calls PyProof.Rows
set_option maxRecDepth 100000
set_option maxHeartbeats 4000000
namespace Mine
theorem beq1 (b : Int) : (b == 1) = decide (b = 1) := by by_cases h : b = 1 <;> simp [h]
theorem br_none1 {ks : List Int} {st : RS} (h : rdBits ks st 1 = none) : beginRes ks st = none := by unfold beginRes; rw [h]
theorem br_none2 {ks : List Int} {st st1 : RS} {b : Int} (h : rdBits ks st 1 = some (b, st1)) (h2 : rdBits ks st1 2 = none) : beginRes ks st = none := by unfold beginRes; rw [h]; dsimp only; rw [h2]
theorem br_some {ks : List Int} {st st1 st2 : RS} {b k : Int} (h : rdBits ks st 1 = some (b, st1)) (h2 : rdBits ks st1 2 = some (k, st2)) :
    beginRes ks st = if k = 0 then (if st2.a + 4 ≤ ks.length ∧ sto ks st2.a + tur ks st2.a = 65535 then some (decide (b = 1), some (sto ks st2.a), ⟨st2.a + 4, 0, 0⟩) else none) else if k = 1 then some (decide (b = 1), none, st2) else none := by
  unfold beginRes
  rw [h]
  dsimp only
  rw [h2]
  dsimp only
  rw [beq1]
theorem RI.raw {ks : List Int} {st : RS} {k : Int} (h : RI ks st) (hk : 0 ≤ k) (h1 : st.a + k ≤ ks.length) : RI ks ⟨st.a + k, 0, 0⟩ := ⟨Int.add_nonneg h.a0 hk, h1, Int.le_refl _, (by decide : (0 : Int) < 8), Int.le_refl _, (by decide : (0 : Int) < 2 ^ (0 : Int).toNat)⟩
noncomputable def sBlock : Sx := sx false 207 [Str.ofString "self", Str.ofString "kind"]
theorem fn_bblock (w : World) : Fn w 207 sBlock 1 [] (bodyF 207) := by
  refine ⟨⟨by kernel_rfl, by decide +kernel, by decide +kernel⟩, Nat.le_of_ble_eq_true rfl, ?_⟩
  refine ⟨_, _, _, _, _, _, _, _, _, _, _, _, by k_is, by (show codeIn _ _ (Str.ofString "Inflater.begin_block") = true; k_is), ?_, by decide +kernel, by kernel_rfl, by kernel_rfl⟩
  intro s vs hK h
  obtain ⟨a, rfl⟩ := vs1 h
  exact BindsTo.of_eq rfl
theorem bblock_h {V : Vx} (ok : Ok ⟨sBlock, V⟩) (hdp : V.dp < 840) {it d rd dx ba ll ld c1 c2 : Addr} {arr : Array UInt8} {ks : List Int} {st : RS} {win stored : Int} {la dn : Bool} {lit dis fx : Value} (hit : At V.h₀ it (InstP 238 d)) (hrd : At V.h₀ rd (InstP 109 dx))
    (hb : KBw.bInts arr = ks) (hlen : ks.length ≤ 2000) (hks : ∀ x ∈ ks, 0 ≤ x ∧ x < 256) (hR : RI ks st) (hk2 : ∀ b st1 k st2, rdBits ks st 1 = some (b, st1) → rdBits ks st1 2 = some (k, st2) → k ≠ 2) (hfx : fx = .none ∨ ∃ t, fx = .ref t ∧ At V.h₀ t (TupP [Is (.ref c1), Is (.ref c2)]))
    {K : AV → Nw → Prop} (kk1 : ∀ la' sv st', beginRes ks st = some (la', some sv, st') → RI ks st' → K (Is .none) [(d, infP rd ba ll ld win la' dn lit dis sv fx), (dx, RdP arr st')])
    (kk2 : ∀ la' st' t, beginRes ks st = some (la', none, st') → RI ks st' → fx = .ref t → K (Is .none) [(d, infP rd ba ll ld win la' dn (.ref c1) (.ref c2) stored fx), (dx, RdP arr st')])
    (kk3 : ∀ la' st', beginRes ks st = some (la', none, st') → RI ks st' → fx = .none → ∀ t c1 ls1 lc1 x1 c2 ls2 lc2 x2, K (Is .none) (fixT t c1 ls1 lc1 x1 c2 ls2 lc2 x2 ++ [(d, infP rd ba ll ld win la' dn (.ref c1) (.ref c2) stored (.ref t)), (dx, RdP arr st')]))
    (her : beginRes ks st = none → ∀ B la', Has B [(d, infP rd ba ll ld win la' dn lit dis stored fx)] → V.Er B) :
    Ex ⟨sBlock, V⟩ [some (Is (.ref it)), none] [(d, infP rd ba ll ld win la dn lit dis stored fx), (dx, RdP arr st)] (bodyF 207) (fun fl _ nw' => K fl.av nw') := by
  have okb := ok.toOkB
  have hiI : ∀ nw, In ⟨sBlock, V⟩ nw it (InstP 238 d) := fun _ => .inr hit
  have hrI : ∀ nw, In ⟨sBlock, V⟩ nw rd (InstP 109 dx) := fun _ => .inr hrd
  refine Ex.aset ok 0 3 (st238 _ (j := 3) rfl) infN_nd rfl (EK.cmp (EK.bits ok (by exact Nat.lt_trans hdp (by decide)) [0] 2 (EE.inf okb 0 (EE.loc okb (i := 0) rfl rfl) (hiI _) (In.at (i := 0) rfl) handed_ref) EE.int (i := 1) rfl (hrI _) (.inl hrd) hb hlen hR (by decide) (by decide) (fun b st1 h1 => ⟨b, 1, _, rfl, EE.int, CpI.eq, (EE.loc okb (i := 0) rfl rfl), hiI _, rfl, ?_⟩) (fun e0 B hB => her (br_none1 e0) B la (hasS hB fun e he => .tail _ he))))
  have hR1 := (rd_some hR (by decide) (by decide) hks h1).1
  refine Ex.asg ok (i := 1) rfl (EK.bits ok (by exact Nat.lt_trans hdp (by decide)) [0] 2 (EE.inf okb 0 (EE.loc okb (i := 0) rfl rfl) (hiI _) (In.at (i := 0) rfl) handed_ref) EE.int (i := 1) rfl (hrI _) (.inl hrd) hb hlen hR1 (by decide) (by decide) (fun k st2 h2 => ?_) (fun e0 B hB => her (br_none2 h1 e0) B _ (hasS hB fun e he => .tail _ he)))
  have hR2 := (rd_some hR1 (by decide) (by decide) hks h2).1
  have hk := hk2 _ _ _ _ h1 h2
  have hbr := br_some h1 h2
  have hs0 : ∀ B (P : AO), Has B [(d, infP rd ba ll ld win (decide (b = 1)) dn lit dis stored fx), (dx, P)] → Has B [(d, infP rd ba ll ld win (decide (b = 1)) dn lit dis stored fx)] := fun B P hB => hasS hB fun e he => by rw [List.mem_singleton.mp he]; exact .head _
  refine Ex.ifD (Tv.cmp (EE.loc okb (i := 1) rfl rfl) EE.int CpI.eq) (fun h => ?_) fun h => ?_
  · rw [if_pos h] at hbr
    refine Ex.expr (EK.meth0 ok (EE.loc okb (i := 0) rfl rfl) (hiI _) (In.at (i := 0) rfl) (mt_bstored _) (kp_bstored _) (by decide +kernel) (CK.callB ok (conM (fn_bstored _)) (Nat.lt_trans hdp (by decide)) rfl [0, 1] [] 2 (nw₀ := [(d, infP rd ba ll ld win (decide (b = 1)) dn lit dis stored fx), (dx, RdP arr st2)]) rfl
      (Er := fun B => ¬ (st2.a + 4 ≤ ks.length ∧ sto ks st2.a + tur ks st2.a = 65535) ∧ Has B [(d, infP rd ba ll ld win (decide (b = 1)) dn lit dis stored fx)]) (fun V' e1 e2 e3 ro e5 okV => bstored_h okV (dpL e2 hdp (by decide)) (ro _ _ (.inl hit)) (ro _ _ (.inl hrd)) hb hlen hR2.a0
        (fun g1 g2 => ⟨[], [_, _], [], rfl, rfl, Ex.nil (R := thn _ _ _) (Ex.nil (kk1 _ _ _ (by rw [hbr, if_pos ⟨g1, g2⟩]) (hR2.raw (by decide) g1)))⟩) fun e B hB => by rw [e5]; exact ⟨e, hB⟩) fun B _ hE => her (by rw [hbr, if_neg hE.1]) B _ hE.2))
  rw [if_neg h] at hbr
  refine Ex.ifD (Tv.cmp (EE.loc okb (i := 1) rfl rfl) EE.int CpI.eq) (fun h => ?_) fun h => ?_
  · rw [if_pos h] at hbr
    rcases hfx with rfl | ⟨t, rfl, hT⟩
    · refine Ex.ifB (b := true) (Tv.isN (EE.inf okb 10 (EE.loc okb (i := 0) rfl rfl) (hiI _) (In.at (i := 0) rfl) handed_none) fun v hv => by cases hv; rfl) (fun _ => ?_) (fun h => nomatch h)
      refine Ex.aset ok 9 10 (st238 _ (j := 10) rfl) infN_nd rfl (EK.callG0 ok (EE.glob okb (gl_fixed _) (by kernel_rfl)) (kp_fixed _) (CN.k (CN.callZ okb (conM (fn_fixed _)) (Nat.lt_trans hdp (by decide)) rfl [] [0, 1] 2 (nw₀ := []) rfl fun V' e1 e2 e3 ro okV => fixed_h okV (dpL e2 hdp (by decide)) fun t c1 ls1 lc1 x1 c2 ls2 lc2 x2 => ⟨(EE.loc okb (i := 0) rfl rfl), hiI _, rfl, ?_⟩)))
      refine Ex.nil (R := thn _ _ _) ?_
      refine Ex.attr2 ok 9 5 6 (EE.inf okb 10 (EE.loc okb (i := 0) rfl rfl) (hiI _) (In.at (i := 9) rfl) handed_ref) (In.at (i := 0) rfl) (fun _ => (EE.loc okb (i := 0) rfl rfl)) (fun _ => (EE.loc okb (i := 0) rfl rfl)) hiI rfl rfl (st238 _ (j := 5) rfl) (st238 _ (j := 6) rfl) infN_nd rfl rfl (by decide) ?_
      exact Ex.nil (R := thn _ _ _) (Ex.nil (R := thn _ _ _) (Ex.nil (kk3 _ _ hbr hR2 rfl t c1 ls1 lc1 x1 c2 ls2 lc2 x2)))
    · refine Ex.ifB (b := false) (Tv.isN (EE.inf okb 10 (EE.loc okb (i := 0) rfl rfl) (hiI _) (In.at (i := 0) rfl) handed_ref) fun v hv => by cases hv; rfl) (fun h => nomatch h) (fun _ => Ex.nil (R := thn _ _ _) ?_)
      refine Ex.attr2 ok 0 5 6 (EE.inf okb 10 (EE.loc okb (i := 0) rfl rfl) (hiI _) (In.at (i := 0) rfl) handed_ref) (.inr hT) (fun _ => (EE.loc okb (i := 0) rfl rfl)) (fun _ => (EE.loc okb (i := 0) rfl rfl)) hiI rfl rfl (st238 _ (j := 5) rfl) (st238 _ (j := 6) rfl) infN_nd rfl rfl (by decide) ?_
      exact Ex.nil (R := thn _ _ _) (Ex.nil (R := thn _ _ _) (Ex.nil (kk2 _ _ t hbr hR2 rfl)))
  rw [if_neg h] at hbr
  refine Ex.ifD (Tv.cmp (EE.loc okb (i := 1) rfl rfl) EE.int CpI.eq) (fun h => absurd h hk) fun h => ?_
  exact Ex.bad ok (Nat.lt_trans hdp (by decide)) fun B hB => her hbr B _ (hs0 B _ hB)
end Mine
end
section
open PySem PySem.W PySem.Calls PyProof.Rows
set_option maxRecDepth 100000
set_option maxHeartbeats 4000000
namespace Mine
theorem mt_bblock (w : World) : MtOk w 238 (Str.ofString "begin_block") 207 := ⟨by k_is, by k_is, by k_is⟩
theorem kp_bblock (w : World) : keepIn (HA.hd.heap_1_39 w.params) (.ref 207) = true := by k_is
section
variable {c : Cx} {lo : Lo} {nw : Nw} {rest : List Stmt} {R : Fl → Lo → Nw → Prop}
theorem Tv.and {a : Expr} {rest : List Expr} {pos : Pos} {x y : Bool} (ha : Tv c lo nw a x) (hb : x = true → Tv c lo nw (.BoolOp .And rest pos) y) : Tv c lo nw (.BoolOp .And (a :: rest) pos) (x && y) := fun s hs Q E q =>
  isTrue_and (ha s hs _ _ fun v s1 hv hs1 => by
    subst hv
    cases v
    · exact q _ _ rfl hs1
    · exact hb rfl s1 hs1 Q E q)
theorem Tv.andN {pos : Pos} : Tv c lo nw (.BoolOp .And [] pos) true := fun s hs Q E q => isTrue_and_nil (q _ _ rfl hs)
theorem Tv.not {a : Expr} {pos : Pos} {x : Bool} (ha : Tv c lo nw a x) : Tv c lo nw (.UnaryOp .Not a pos) (!x) := fun s hs Q E q => isTrue_not (ha s hs _ _ fun v s1 hv hs1 => q _ _ (by rw [hv]) hs1)
end
noncomputable def FxF (F : Addr → AO → Prop) (inB fxb : Bool) (lit dis fx : Value) : Prop :=
  (fxb = false ∧ inB = false ∧ fx = .none ∧ lit = .none ∧ dis = .none) ∨
  (fxb = true ∧ ∃ t c1 cx1 lc1 ls1 c2 cx2 lc2 ls2, fx = .ref t ∧ F t (TupP [Is (.ref c1), Is (.ref c2)]) ∧ CodesA F c1 countsL signsL cx1 lc1 ls1 ∧ CodesA F c2 countsD signsD cx2 lc2 ls2 ∧ ((inB = true ∧ lit = .ref c1 ∧ dis = .ref c2) ∨ (inB = false ∧ lit = .none ∧ dis = .none)))
theorem FxF.mono {F F' : Addr → AO → Prop} (k : ∀ a P, F a P → F' a P) {inB fxb : Bool} {lit dis fx : Value} (h : FxF F inB fxb lit dis fx) : FxF F' inB fxb lit dis fx := by
  rcases h with h | ⟨h0, t, c1, cx1, lc1, ls1, c2, cx2, lc2, ls2, h1, h2, h3, h4, h5⟩
  · exact .inl h
  · exact .inr ⟨h0, t, c1, cx1, lc1, ls1, c2, cx2, lc2, ls2, h1, k _ _ h2, h3.mono k, h4.mono k, h5⟩
noncomputable abbrev TlF (F : Addr → AO → Prop) (T : Nw) (a : Addr) (P : AO) : Prop := F a P ∨ (a, P) ∈ T
theorem Back.of {nw nw₀ : Nw} {is : List Nat} {K : AV → Nw → Prop} {P : AV} (Qs : List AO) (hl : Qs.length = is.length) (h : K P (wb nw is Qs)) : Back nw nw₀ is K P ((adr nw₀).zip Qs) := ⟨[], Qs, [], (List.append_nil _).symm, hl, by rw [List.append_nil]; exact h⟩
theorem Back.ofL {nw nw₀ : Nw} {is : List Nat} {K : AV → Nw → Prop} {P : AV} (e1 : Nw) (Qs : List AO) (hl : Qs.length = is.length) (h : K P (e1 ++ wb nw is Qs)) : Back nw nw₀ is K P (e1 ++ (adr nw₀).zip Qs) := ⟨e1, Qs, [], (List.append_nil _).symm, hl, by rw [List.append_nil]; exact h⟩
theorem nth_of_mem {α : Type} : ∀ {l : List α} {x : α}, x ∈ l → ∃ j, nth l j = some x
  | a :: l, x, h => by
    rcases List.mem_cons.mp h with rfl | h
    · exact ⟨0, rfl⟩
    · obtain ⟨j, e⟩ := nth_of_mem h
      exact ⟨j + 1, e⟩
theorem TlF.ro {c : Cx} {F : Addr → AO → Prop} (hF : ∀ a P, F a P → At c.V.h₀ a P) {T : Nw} {e1 e2 e3 : Addr × AO} {is : List Nat} (hi : ∀ i ∈ is, i < 3) {a : Addr} {P : AO} (h : TlF F T a P) : Ro c (e1 :: e2 :: e3 :: T) is a P := by
  rcases h with h | h
  · exact .inl (hF a P h)
  · obtain ⟨j, e⟩ := nth_of_mem h
    exact .inr ⟨j + 3, P, fun q => absurd (hi _ q) (by lia), e, fun _ x => x⟩
noncomputable abbrev infW (d dx ba rd ll ld : Addr) (arr : Array UInt8) (win : Int) (S : IS) (lit dis fx : Value) (T : Nw) : Nw := (d, infP rd ba ll ld win S.last S.done lit dis S.stored fx) :: (dx, RdP arr S.rs) :: (ba, BaP S.out) :: T
theorem manyOf_b {S : IS} {most : Option Int} (hg : goesOn most S = true) (h : 0 < S.stored) (h5 : S.stored ≤ 5) : 0 ≤ manyOf S.stored S.out.length most ∧ manyOf S.stored S.out.length most ≤ 5 := by
  cases most with
  | none => exact ⟨Int.le_of_lt h, h5⟩
  | some k =>
    have hk : (S.out.length : Int) < k := by unfold goesOn at hg; rw [Bool.and_eq_true] at hg; exact of_decide_eq_true hg.2
    unfold manyOf
    dsimp only
    split <;> lia
theorem st_none1 {ks : List Int} {win : Int} {most : Option Int} {S : IS} (hI : S.inB = true) (h : nextSign countsL signsL ks S.rs = none ∨ ∃ x st1, nextSign countsL signsL ks S.rs = some (x, st1) ∧ 256 < x ∧ copyRes ks st1 win S.out.length = none) : stepI ks win most S = none := by
  unfold stepI
  rw [if_pos hI]
  rcases h with h | ⟨x, st1, h1, h2, h3⟩
  · rw [h]
  · rw [h1]; dsimp only; rw [if_neg (by lia), if_neg (by lia), h3]
noncomputable def sWork : Sx := sx true 200 [Str.ofString "self", Str.ofString "most"]
theorem fn_work2 (w : World) : Fn w 200 sWork 2 [] (bodyF 200) := by
  refine ⟨⟨by kernel_rfl, by decide +kernel, by decide +kernel⟩, Nat.le_of_ble_eq_true rfl, ?_⟩
  refine ⟨_, _, _, _, _, _, _, _, _, _, _, _, by k_is, by (show codeIn _ _ (Str.ofString "Inflater.work") = true; k_is), ?_, by decide +kernel, by kernel_rfl, by kernel_rfl⟩
  intro s vs hK h
  obtain ⟨a, b, rfl⟩ := vs2 h
  exact kp_binds hK (fun _ => rfl)
theorem fn_work1 (w : World) : Fn w 200 sWork 1 [.none] (bodyF 200) := by
  refine ⟨⟨by kernel_rfl, by decide +kernel, by decide +kernel⟩, Nat.le_of_ble_eq_true rfl, ?_⟩
  refine ⟨_, _, _, _, _, _, _, _, _, _, _, _, by k_is, by (show codeIn _ _ (Str.ofString "Inflater.work") = true; k_is), ?_, by decide +kernel, by kernel_rfl, by kernel_rfl⟩
  intro s vs hK h
  obtain ⟨a, rfl⟩ := vs1 h
  exact kp_binds hK (fun _ => rfl)
theorem wtest_h {V : Vx} (ok : Ok ⟨sWork, V⟩) {it d dx ba rd ll ld : Addr} {arr : Array UInt8} {win : Int} {most : Option Int} (hit : At V.h₀ it (InstP 238 d)) {S : IS} {lit dis fx : Value} {T : Nw} (hl : S.out.length ≤ 2000) {p1 p2 p3 p4 p5 p6 p7 p8 p9 p10 p11 p12 p13 p14 : Pos} {k : Nat} :
    Tv ⟨sWork, V⟩ [some (Is (.ref it)), some (mostA most)] (infW d dx ba rd ll ld arr win S lit dis fx T) (.BoolOp .And [.UnaryOp .Not (.Attribute (.Name (Str.ofString "self") p1) (Str.ofString "is_done") p2) p3, .BoolOp .Or [.Compare (.Name (Str.ofString "most") p4) [.Is] [.Constant .none k p5] p6, .Compare (.Call (.Name (Str.ofString "len") p7) [.Attribute (.Name (Str.ofString "self") p8) (Str.ofString "content") p9] [] p10) [.Lt] [.Name (Str.ofString "most") p11] p12] p13] p14) (goesOn most S) := by
  have okb := ok.toOkB
  have hiI : ∀ nw, In ⟨sWork, V⟩ nw it (InstP 238 d) := fun _ => .inr hit
  cases most with
  | none =>
    have := Tv.and (pos := p14) (rest := [.BoolOp .Or [.Compare (.Name (Str.ofString "most") p4) [.Is] [.Constant .none k p5] p6, .Compare (.Call (.Name (Str.ofString "len") p7) [.Attribute (.Name (Str.ofString "self") p8) (Str.ofString "content") p9] [] p10) [.Lt] [.Name (Str.ofString "most") p11] p12] p13]) (Tv.not (pos := p3) (Tv.plain (EE.inf (c := ⟨sWork, V⟩) (lo := [some (Is (.ref it)), some (mostA Option.none)]) (nw := infW d dx ba rd ll ld arr win S lit dis fx T) (pos := p2) okb 4 (EE.loc okb (i := 0) (pos := p1) rfl rfl) (hiI _) (In.at (i := 0) rfl) handed_bool))) fun _ =>
      Tv.and (y := true) (Tv.or (x := true) (y := false) (Tv.isN (EE.loc okb (i := 1) rfl rfl) fun v hv => by cases hv; rfl) fun h => nomatch h) fun _ => Tv.andN
    rw [show goesOn Option.none S = (!S.done && ((true || false) && true)) by unfold goesOn; simp]
    exact this
  | some m =>
    have := Tv.and (pos := p14) (rest := [.BoolOp .Or [.Compare (.Name (Str.ofString "most") p4) [.Is] [.Constant .none k p5] p6, .Compare (.Call (.Name (Str.ofString "len") p7) [.Attribute (.Name (Str.ofString "self") p8) (Str.ofString "content") p9] [] p10) [.Lt] [.Name (Str.ofString "most") p11] p12] p13]) (Tv.not (pos := p3) (Tv.plain (EE.inf (c := ⟨sWork, V⟩) (lo := [some (Is (.ref it)), some (mostA (some m))]) (nw := infW d dx ba rd ll ld arr win S lit dis fx T) (pos := p2) okb 4 (EE.loc okb (i := 0) (pos := p1) rfl rfl) (hiI _) (In.at (i := 0) rfl) handed_bool))) fun _ =>
      Tv.and (y := true) (Tv.or (x := false) (y := decide ((S.out.length : Int) < m) || false) (Tv.isN (EE.loc okb (i := 1) rfl rfl) fun v ⟨t, e⟩ => by cases e; rfl) fun _ => Tv.or (Tv.cmp (EE.lenBa (EE.lenN okb) (EE.inf okb 2 (EE.loc okb (i := 0) rfl rfl) (hiI _) (In.at (i := 0) rfl) handed_ref) (In.at (i := 2) rfl) (Nat.le_trans hl (by decide))) (EE.loc okb (i := 1) rfl rfl) CpI.lt) fun _ => Tv.orN) fun _ => Tv.andN
    rw [show goesOn (some m) S = (!S.done && ((false || (decide ((S.out.length : Int) < m) || false)) && true)) by unfold goesOn; simp]
    exact this
theorem work_h {V : Vx} (ok : Ok ⟨sWork, V⟩) {F₀ : Addr → AO → Prop} (hF₀ : ∀ a P, F₀ a P → At V.h₀ a P) (hdp : V.dp < 830) {it d rd dx ba ll ld : Addr} {arr : Array UInt8} {ks : List Int} {win : Int} {most : Option Int} (hit : At V.h₀ it (InstP 238 d)) (hrd : At V.h₀ rd (InstP 109 dx)) (hll : TabA (At V.h₀) ll lenT lenM 29) (hld : TabA (At V.h₀) ld leastD moreD 30)
    (hb : KBw.bInts arr = ks) (hlen : ks.length ≤ 2000) (hks : ∀ x ∈ ks, 0 ≤ x ∧ x < 256) {r : Except IS IS} {K : AV → Nw → Prop}
    (kk : ∀ S' T lit dis fx, r = .ok S' → FxF (TlF F₀ T) S'.inB S'.fx lit dis fx → K (Is .none) (infW d dx ba rd ll ld arr win S' lit dis fx T))
    (her : ∀ S', r = .error S' → ∀ B la lit dis fx, Has B [(d, infP rd ba ll ld win la S'.done lit dis S'.stored fx), (ba, BaP S'.out)] → V.Er B)
    {S : IS} (hw : Work ks win most S r) {T : Nw} {lit dis fx : Value} (hf : FxF (TlF F₀ T) S.inB S.fx lit dis fx) :
    Ex ⟨sWork, V⟩ [some (Is (.ref it)), some (mostA most)] (infW d dx ba rd ll ld arr win S lit dis fx T) (bodyF 200) (fun fl _ nw' => K fl.av nw') := by
  have okb := ok.toOkB
  have hiI : ∀ nw, In ⟨sWork, V⟩ nw it (InstP 238 d) := fun _ => .inr hit
  have hrI : ∀ nw, In ⟨sWork, V⟩ nw rd (InstP 109 dx) := fun _ => .inr hrd
  refine Ex.whl ?_
  induction hw generalizing T lit dis fx with
  | @stop S hg hl => exact Whl.turn ok (TK.of (wtest_h ok hit hl) ⟨fun h => absurd (hg.symm.trans h) (by decide), fun _ => Ex.nil (kk S T lit dis fx rfl hf)⟩)
  | @go S r hg hgood hEr hN ih =>
    have hst : ∀ {S1}, stepI ks win most S = some S1 → ∀ {T lit dis fx}, FxF (TlF F₀ T) S1.inB S1.fx lit dis fx → _ := fun h => ih _ h kk her
    refine Whl.turn ok (TK.of (wtest_h ok hit hgood.len) ⟨fun _ => ?_, fun h => absurd (hg.symm.trans h) (by decide)⟩)
    have hR := hgood.ri
    by_cases hI : S.inB = true
    · obtain h | ⟨h0, t, c1, cx1, lc1, ls1, c2, cx2, lc2, ls2, rfl, h2, h3, h4, h5⟩ := hf
      · exact absurd (hI.symm.trans h.2.1) (by decide)
      have h5 : lit = .ref c1 ∧ dis = .ref c2 := by
        rcases h5 with h5 | h5
        · exact h5.2
        · exact absurd (hI.symm.trans h5.1) (by decide)
      obtain ⟨rfl, rfl⟩ := h5
      refine Ex.ifB (b := true) (Tv.notN (EE.inf okb 5 (EE.loc okb (i := 0) rfl rfl) (hiI _) (In.at (i := 0) rfl) handed_ref) fun v hv => by cases hv; rfl) (fun _ => ?_) (fun h => nomatch h)
      refine Ex.exprT rfl (ET.meth0 ok (EE.loc okb (i := 0) rfl rfl) (hiI _) (In.at (i := 0) rfl) (mt_sign _) (kp_tsign _) (by decide +kernel) (CT.callB ok (conM (fn_tsign _)) (Nat.lt_trans hdp (by decide)) rfl [0, 1, 2] [] 3 (nw₀ := [(d, infP rd ba ll ld win S.last S.done (.ref c1) (.ref c2) S.stored (.ref t)), (dx, RdP arr S.rs), (ba, BaP S.out)]) rfl
        (Er := fun B => (nextSign countsL signsL ks S.rs = none ∨ ∃ x st1, nextSign countsL signsL ks S.rs = some (x, st1) ∧ 256 < x ∧ copyRes ks st1 win S.out.length = none) ∧ Has B [(d, infP rd ba ll ld win S.last S.done (.ref c1) (.ref c2) S.stored (.ref t)), (ba, BaP S.out)])
        (fun V' e1 e2 e3 ro e5 okV => tsign_h okV (dpL e2 hdp (by decide)) (ro _ _ (.inl hit)) (ro _ _ (.inl hrd)) (hll.mono fun a P h => ro a P (.inl h)) (hld.mono fun a P h => ro a P (.inl h)) (h3.mono fun a P h => ro a P (h.ro hF₀ (by decide))) (h4.mono fun a P h => ro a P (h.ro hF₀ (by decide))) hb hlen hks hR hgood.len (hgood.sx hI) (hgood.ds hI)
          (fun x st1 g1 g2 g3 => Back.of [_, _, _] rfl (Ex.nil (R := thn _ _ _) (Ex.nil (R := trn _ _ _ _) (hst (S1 := { S with rs := st1, out := S.out ++ [x] }) (by unfold stepI; rw [if_pos hI, g1]; dsimp only; rw [if_pos g2]) (.inr ⟨h0, t, c1, cx1, lc1, ls1, c2, cx2, lc2, ls2, rfl, h2, h3, h4, .inl ⟨hI, rfl, rfl⟩⟩)))))
          (fun x st1 g1 g2 g3 => Back.of [_, _, _] rfl (Ex.nil (R := thn _ _ _) (Ex.nil (R := trn _ _ _ _) (hst (S1 := { S with rs := st1, inB := false }) (by unfold stepI; rw [if_pos hI, g1]; dsimp only; rw [if_neg (by lia), if_pos g2]) (.inr ⟨h0, t, c1, cx1, lc1, ls1, c2, cx2, lc2, ls2, rfl, h2, h3, h4, .inr ⟨rfl, rfl, rfl⟩⟩)))))
          (fun x st1 g1 g2 back st2 g4 g5 => Back.of [_, _, _] rfl (Ex.nil (R := thn _ _ _) (Ex.nil (R := trn _ _ _ _) (hst (S1 := { S with rs := st2, out := copyN back (3 + (x - 256 - 1)).toNat S.out }) (by unfold stepI; rw [if_pos hI, g1]; dsimp only; rw [if_neg (by lia), if_neg (by lia), g4]) (.inr ⟨h0, t, c1, cx1, lc1, ls1, c2, cx2, lc2, ls2, rfl, h2, h3, h4, .inl ⟨hI, rfl, rfl⟩⟩)))))
          fun e B hB => by rw [e5]; exact ⟨e, hB⟩)
        fun B _ hE => her S (hEr (st_none1 hI hE.1)) B S.last _ _ _ hE.2))
    · have hnI := hI
      have hI := Bool.eq_false_iff.mpr hI
      have hld' : lit = .none ∧ dis = .none := by
        rcases hf with ⟨_, _, _, h1, h2⟩ | ⟨_, _, _, _, _, _, _, _, _, _, _, _, _, _, h5⟩
        · exact ⟨h1, h2⟩
        · rcases h5 with h5 | h5
          · exact absurd (hI.symm.trans h5.1) (by decide)
          · exact h5.2
      obtain ⟨rfl, rfl⟩ := hld'
      refine Ex.ifB (b := false) (Tv.notN (EE.inf okb 5 (EE.loc okb (i := 0) rfl rfl) (hiI _) (In.at (i := 0) rfl) handed_none) fun v hv => by cases hv; rfl) (fun h => nomatch h) (fun _ => ?_)
      refine Ex.ifD (Tv.cmp (EE.inf okb 7 (EE.loc okb (i := 0) rfl rfl) (hiI _) (In.at (i := 0) rfl) handed_it) EE.int CpI.gt) (fun hs => ?_) fun hs => ?_
      · obtain ⟨hm0, hm5⟩ := manyOf_b hg hs hgood.st5
        refine Ex.exprT rfl (ET.meth ok (EE.loc okb (i := 0) rfl rfl) (hiI _) (In.at (i := 0) rfl) (mt_stored _) (kp_stored _) (by decide +kernel) (EvA.p (EE.loc okb (i := 1) rfl rfl) (EvA.nil (CT.callB ok (conM (fn_stored _)) (Nat.lt_trans hdp (by decide)) rfl [0, 1, 2] [] 3 (nw₀ := [(d, infP rd ba ll ld win S.last S.done .none .none S.stored fx), (dx, RdP arr S.rs), (ba, BaP S.out)]) rfl
          (Er := fun B => (ks.length : Int) < S.rs.a + manyOf S.stored S.out.length most ∧ Has B [(d, infP rd ba ll ld win S.last S.done .none .none S.stored fx), (ba, BaP S.out)])
          (fun V' e1 e2 e3 ro e5 okV => stored_h okV (dpL e2 hdp (by decide)) (ro _ _ (.inl hit)) (ro _ _ (.inl hrd)) hb hlen hR.a0 hm0 hm5 hgood.len
            (fun g => Back.of [_, _, _] rfl (Ex.nil (R := thn _ _ _) (Ex.nil (R := thn _ _ _) (Ex.nil (R := trn _ _ _ _) (hst (S1 := { S with rs := ⟨S.rs.a + manyOf S.stored S.out.length most, 0, 0⟩, out := S.out ++ (ks.drop S.rs.a.toNat).take (manyOf S.stored S.out.length most).toNat, stored := S.stored - manyOf S.stored S.out.length most }) (by unfold stepI; rw [if_neg hnI, if_pos hs, if_neg (by lia)]) hf)))))
            fun e B hB => by rw [e5]; exact ⟨e, hB⟩)
          fun B _ hE => her S (hEr (by unfold stepI; rw [if_neg hnI, if_pos hs, if_pos hE.1])) B S.last _ _ _ hE.2))))
      refine Ex.ifB (b := S.last) (Tv.plain (EE.inf okb 3 (EE.loc okb (i := 0) rfl rfl) (hiI _) (In.at (i := 0) rfl) handed_bool)) (fun hl => ?_) fun hl => ?_
      · refine Ex.asetP ok 0 4 EE.bool (EE.loc okb (i := 0) rfl rfl) (hiI _) rfl (st238 _ (j := 4) rfl) infN_nd ?_
        exact Ex.nil (R := thn _ _ _) (Ex.nil (R := thn _ _ _) (Ex.nil (R := thn _ _ _) (Ex.nil (R := trn _ _ _ _) (hst (S1 := { S with done := true }) (by unfold stepI; rw [if_neg hnI, if_neg hs, hl, if_pos rfl]) hf))))
      obtain ⟨c1, c2, hfx, k2F⟩ : ∃ c1 c2, (fx = .none ∨ ∃ t, fx = .ref t ∧ TlF F₀ T t (TupP [Is (.ref c1), Is (.ref c2)])) ∧ ∀ t, fx = .ref t → FxF (TlF F₀ T) true true (.ref c1) (.ref c2) fx := by
        rcases hf with ⟨_, _, h1, _⟩ | ⟨_, t, c1, cx1, lc1, ls1, c2, cx2, lc2, ls2, h1, h2, h3, h4, h5⟩
        · exact ⟨0, 0, .inl h1, fun t h => by rw [h1] at h; cases h⟩
        · exact ⟨c1, c2, .inr ⟨t, h1, h2⟩, fun _ _ => .inr ⟨rfl, t, c1, cx1, lc1, ls1, c2, cx2, lc2, ls2, h1, h2, h3, h4, .inl ⟨rfl, rfl, rfl⟩⟩⟩
      have hstep : ∀ {S1}, (match beginRes ks S.rs with
          | none => none
          | some (lst, some stv, st') => some { S with rs := st', last := lst, stored := stv }
          | some (lst, none, st') => some { S with rs := st', last := lst, inB := true, fx := true }) = S1 → stepI ks win most S = S1 := fun h => by unfold stepI; rw [if_neg hnI, if_neg hs, hl, if_neg Bool.false_ne_true, ← h] <;> rfl
      refine Ex.expr (EK.meth0 ok (EE.loc okb (i := 0) rfl rfl) (hiI _) (In.at (i := 0) rfl) (mt_bblock _) (kp_bblock _) (by decide +kernel) (CK.callB ok (conM (fn_bblock _)) (Nat.lt_trans hdp (by decide)) rfl [0, 1] [2] 3 (nwr := (ba, BaP S.out) :: T) (nw₀ := [(d, infP rd ba ll ld win S.last S.done .none .none S.stored fx), (dx, RdP arr S.rs)]) rfl
        (Er := fun B => beginRes ks S.rs = none ∧ ∃ la', Has B [(d, infP rd ba ll ld win la' S.done .none .none S.stored fx)])
        (fun V' e1 e2 e3 ro e5 okV => bblock_h okV (dpL e2 hdp (by decide)) (ro _ _ (.inl hit)) (ro _ _ (.inl hrd)) hb hlen hks hR (hgood.k2 hI (Int.not_lt.mp hs) hl) (hfx.imp_right fun ⟨t, h1, h2⟩ => ⟨t, h1, ro _ _ (h2.ro hF₀ (by decide))⟩)
          (fun la' sv st' g1 g2 => Back.of [_, _] rfl (Ex.nil (R := thn _ _ _) (Ex.nil (R := thn _ _ _) (Ex.nil (R := thn _ _ _) (Ex.nil (R := trn _ _ _ _) (hst (S1 := { S with rs := st', last := la', stored := sv }) (hstep (by rw [g1])) hf))))))
          (fun la' st' t g1 g2 g3 => Back.of [_, _] rfl (Ex.nil (R := thn _ _ _) (Ex.nil (R := thn _ _ _) (Ex.nil (R := thn _ _ _) (Ex.nil (R := trn _ _ _ _) (hst (S1 := { S with rs := st', last := la', inB := true, fx := true }) (hstep (by rw [g1])) (k2F t g3)))))))
          (fun la' st' g1 g2 g3 t c1 ls1 lc1 x1 c2 ls2 lc2 x2 => Back.ofL (fixT t c1 ls1 lc1 x1 c2 ls2 lc2 x2) [_, _] rfl (Ex.sel [9, 10, 11, 0, 1, 2, 3, 4, 5, 6, 7, 8] 12 (nw2 := infW d dx ba rd ll ld arr win { S with rs := st', last := la', inB := true, fx := true } (.ref c1) (.ref c2) (.ref t) (fixT t c1 ls1 lc1 x1 c2 ls2 lc2 x2 ++ T)) (Ex.nil (R := thn _ _ _) (Ex.nil (R := thn _ _ _) (Ex.nil (R := thn _ _ _) (Ex.nil (R := trn _ _ _ _) (hst (S1 := { S with rs := st', last := la', inB := true, fx := true }) (hstep (by rw [g1]))
            (.inr ⟨rfl, t, c1, x1, lc1, ls1, c2, x2, lc2, ls2, rfl, .inr (nth_mem (i := 0) rfl), ⟨.inr (nth_mem (i := 5) rfl), .inr (nth_mem (i := 8) rfl), .inr (nth_mem (i := 7) rfl), .inr (nth_mem (i := 6) rfl)⟩, ⟨.inr (nth_mem (i := 1) rfl), .inr (nth_mem (i := 4) rfl), .inr (nth_mem (i := 3) rfl), .inr (nth_mem (i := 2) rfl)⟩, .inl ⟨rfl, rfl, rfl⟩⟩))))))))
          fun e B la' hB => by rw [e5]; exact ⟨e, la', hB⟩)
        fun B hB hE => by
          obtain ⟨e, la', hE⟩ := hE
          exact her S (hEr (hstep (by rw [e]))) B la' _ _ _ fun x hx => by
            rcases List.mem_cons.mp hx with rfl | hx
            · exact hE _ (.head _)
            · rw [List.mem_singleton.mp hx]; exact hB _ (.head _)))
end Mine
end
section
open PySem PySem.W PySem.Calls PyProof.Rows
set_option maxRecDepth 100000
set_option maxHeartbeats 4000000
namespace Mine
theorem mk109 (w : World) : makesIn (HA.hd.heap_1_39 w.params) 109 = true := by k_is
theorem in109 (w : World) : findIn (HA.hd.heap_1_39 w.params) (.ref 109) (Str.ofString "__init__") = some (some (.ref 77)) := by k_is
theorem ty77 (w : World) : typeIn (HA.hd.heap_1_39 w.params) (.ref 77) = some (.type "function") := by k_is
theorem gl_reader (w : World) : nsIn (HA.hd.heap_1_39 w.params) mainGlobals (Str.ofString "BitReader") = some (some (.ref 109)) := by k_is
theorem kp_reader (w : World) : keepIn (HA.hd.heap_1_39 w.params) (.ref 109) = true := by k_is
theorem mk238 (w : World) : makesIn (HA.hd.heap_1_39 w.params) 238 = true := by k_is
theorem in238 (w : World) : findIn (HA.hd.heap_1_39 w.params) (.ref 238) (Str.ofString "__init__") = some (some (.ref 192)) := by k_is
theorem ty192 (w : World) : typeIn (HA.hd.heap_1_39 w.params) (.ref 192) = some (.type "function") := by k_is
theorem gl_lens (w : World) : nsIn (HA.hd.heap_1_39 w.params) mainGlobals (Str.ofString "inflate_lengths") = some (some (.ref 55)) := by k_is
theorem kp_lens (w : World) : keepIn (HA.hd.heap_1_39 w.params) (.ref 55) = true := by k_is
theorem gl_dists (w : World) : nsIn (HA.hd.heap_1_39 w.params) mainGlobals (Str.ofString "inflate_distances") = some (some (.ref 62)) := by k_is
theorem kp_dists (w : World) : keepIn (HA.hd.heap_1_39 w.params) (.ref 62) = true := by k_is
theorem gl_ba (w : World) : nsIn (HA.hd.heap_1_39 w.params) mainGlobals (Str.ofString "bytearray") = some none := by k_is
theorem boot_ba : bootBuiltins (Str.ofString "bytearray") = some (.type "bytearray") := by decide +kernel
noncomputable def BY (K : AV → Nw → Prop) (nwr : Nw) (P : AV) (nw' : Nw) : Prop := K P (nwr ++ nw')
section
variable {c : Cx} {lo : Lo} {nw : Nw} {rest : List Stmt} {R : Fl → Lo → Nw → Prop}
theorem St.swap {X Y : Nw} {s : Shared} (hs : St c lo (X ++ Y) s) : St c lo (Y ++ X) s := hs.sub (fun e he => ⟨e.2, (List.mem_append.mp he).elim (fun h => List.mem_append_right _ h) (fun h => List.mem_append_left _ h), fun _ x => x⟩) (by
  have nd := hs.nodup
  unfold adr at nd ⊢
  rw [List.map_append] at nd ⊢
  have n2 := List.nodup_append.mp nd
  exact nodup_app n2.2.1 n2.1 fun a ha hb => n2.2.2 a hb a ha rfl)
theorem CN.callY (ok : OkB c) {f : Addr} {n : Nat} {Body : Vx → List AV → Nw → (AV → Nw → Prop) → Prop} (cal : Callee false c.V.w f n Body) (hdp : c.V.dp < 990) {Ps : List AV} (hn : Ps.length = n) (is ks : List Nat) (k : Nat) {nw₀ nwr : Nw} (hp : is.map (nth nw) = nw₀.map some) {K : AV → Nw → Prop}
    (h : ∀ V : Vx, V.w = c.V.w → V.dp = c.V.dp + 1 → V.un = c.V.un + 3 → (∀ a P, Ro c nw is a P → ∃ o, V.h₀.get? a = some o ∧ P o) → Body V Ps nw₀ (BY K nwr))
    (hnd : autoParam ((is ++ ks).Nodup) Mine.aD) (hk : autoParam (∀ i ∈ is ++ ks, i < k) Mine.aD) (he : autoParam (ks.filterMap (nth nw) ++ nw.drop k = nwr) Mine.aR) : CN c lo nw (.ref f) Ps K := fun vs hvs s hs Q E q =>
  call_core0 ok cal hdp hvs hn is hp (List.nodup_append.mp hnd).1 (Er := fun _ => False) (fun V e1 e2 e3 e4 _ => h V e1 e2 e3 e4) hs (E := E) (fun P nw' v s' hK hv hst => q P _ v s' hK hv (by
    have z := keep_rest hp hs.nodup hnd hk
    rw [he] at z
    exact (hst nwr z.1 z.2).swap)) (fun _ _ _ R => no_er R)
theorem ET.ba (ok : OkB c) {xp pos : Pos} {K : AV → Nw → Prop} (k : ∀ a, K (Is (.ref a)) ((a, BaP []) :: nw)) (hk : autoParam (c.S.sc.names.lookup (Str.ofString "bytearray") = some .globalImplicit) Mine.aK) : EvT c lo nw (eval (.Call (.Name (Str.ofString "bytearray") xp) [] [] pos) c.env) K := fun s hs Q q =>
  wpC_NameCall (EE.blt ok (gl_ba _) boot_ba hk (by decide +kernel) (by decide +kernel) s hs _ _ fun v s1 hv hs1 => by
    cases hv
    exact wpC_ty_none (ba_make rfl fun h' a kp hn _ e => q _ _ _ _ (k a) rfl (hs1.new (tk := s1.toks) kp hn e ⟨#[], rfl, rfl⟩)))
theorem Ex.anewT (ok : Ok c) (hb : c.S.b = true) {o e : Expr} {p pos : Pos} {r dx C : Addr} {x : Str} {xs : List Str} {Ps : List AV} (i : Nat) (st : StOk c.V.w C x) (hx : x ∉ xs)
    (h : EvT c lo nw (eval e c.env) fun P nw1 => EE c lo nw1 o (Is (.ref r)) ∧ In c nw1 r (InstP C dx) ∧ nth nw1 i = some (dx, FldP xs Ps) ∧ Ex c lo (put nw1 i (dx, FldP (xs ++ [x]) (Ps ++ [P]))) rest R)
    (hl : autoParam (xs.length ≤ 999) Mine.aD) (hw : autoParam (swapsWith e (some (.Attribute o x p)) pos.line c.env = pure false) Mine.aR) : Ex c lo nw (.Assign [.Attribute o x p] e pos :: rest) R := fun s hs Q q =>
  wpM_execs_cons (wpM_ofC hb (wpC_Assign_Attr (h s hs _ fun P nw1 v s1 ⟨ho, hr, hi, kk⟩ hP hs1 => ho s1 hs1 _ _ fun ov s2 hov hs2 => by
    cases hov
    obtain ⟨o1, e1, rfl⟩ := hr.get hs2
    obtain ⟨m, ns, od, g, F, N, ⟨es, n, rfl, hE⟩, hm, _, U, fin⟩ := hs2.upd hi
    have I : W.InstAt s2.heap r (instObj C dx) C (some (dictOf es n)) := ⟨e1, rfl, rfl, (N _ hm).1⟩
    obtain ⟨hE2, hn⟩ := hE.app (PyData.keyHash c.V.w.params x) (s2.toks + 1) n hx hP
    obtain ⟨t1, t2, t3, t4⟩ := st
    exact set_dict F ok.X0 N I rfl t1 t2 t3 t4 (by rw [hE.none hx]; rfl) (by rw [hn]) (U _) (by rw [hE2.len, List.length_append]; exact Nat.succ_le_succ hl) fun h' F' N' => kk _ (fin h' _ _ _ F' N' ⟨_, n + 1, rfl, hE2⟩) Q q) hw))
end
noncomputable def sRinit : Sx := sx false 77 [Str.ofString "self", Str.ofString "octets", Str.ofString "at"]
theorem fn_rinit (w : World) : Fn w 77 sRinit 3 [] (bodyF 77) := by
  refine ⟨⟨by kernel_rfl, by decide +kernel, by decide +kernel⟩, Nat.le_of_ble_eq_true rfl, ?_⟩
  refine ⟨_, _, _, _, _, _, _, _, _, _, _, _, by k_is, by (show codeIn _ _ (Str.ofString "BitReader.__init__") = true; k_is), ?_, by decide +kernel, by kernel_rfl, by kernel_rfl⟩
  intro s vs hK h
  obtain ⟨a, b, c, rfl⟩ := vs3 h
  exact kp_binds hK (fun _ => rfl)
theorem rinit_h {V : Vx} (ok : Ok ⟨sRinit, V⟩) {r dx : Addr} {arr : Array UInt8} {a : Int} (hr : At V.h₀ r (InstP 109 dx)) {K : AV → Nw → Prop} (kk : K (Is .none) [(dx, RdP arr ⟨a, 0, 0⟩)]) : Ex ⟨sRinit, V⟩ [some (Is (.ref r)), some (By arr), some (It a)] [(dx, FldP [] [])] (bodyF 77) (fun fl _ nw' => K fl.av nw') := by
  have okb := ok.toOkB
  refine Ex.anew ok (xs := []) (Ps := []) 0 (st109 _ (j := 0) rfl) (by decide +kernel) (Ev.k (EE.loc okb (i := 1) rfl rfl) ⟨(EE.loc okb (i := 0) rfl rfl), .inr hr, rfl, ?_⟩)
  refine Ex.anew ok (xs := [Str.ofString "octets"]) (Ps := [By arr]) 0 (st109 _ (j := 1) rfl) (by decide +kernel) (Ev.k (EE.loc okb (i := 2) rfl rfl) ⟨(EE.loc okb (i := 0) rfl rfl), .inr hr, rfl, ?_⟩)
  refine Ex.anew ok (xs := [Str.ofString "octets", Str.ofString "at"]) (Ps := [By arr, It a]) 0 (st109 _ (j := 2) rfl) (by decide +kernel) (Ev.k EE.int ⟨(EE.loc okb (i := 0) rfl rfl), .inr hr, rfl, ?_⟩)
  refine Ex.anew ok (xs := [Str.ofString "octets", Str.ofString "at", Str.ofString "left"]) (Ps := [By arr, It a, It 0]) 0 (st109 _ (j := 3) rfl) (by decide +kernel) (Ev.k EE.int ⟨(EE.loc okb (i := 0) rfl rfl), .inr hr, rfl, ?_⟩)
  exact Ex.nil kk
end Mine
end
section
open PySem PySem.W PySem.Calls PyProof.Rows
set_option maxRecDepth 100000
set_option maxHeartbeats 400000
namespace Mine
noncomputable def sIinit : Sx := sx true 192 [Str.ofString "self", Str.ofString "octets", Str.ofString "at", Str.ofString "window"]
theorem fn_iinit (w : World) : Fn w 192 sIinit 4 [] (bodyF 192) := by
  refine ⟨⟨by kernel_rfl, by decide +kernel, by decide +kernel⟩, Nat.le_of_ble_eq_true rfl, ?_⟩
  refine ⟨_, _, _, _, _, _, _, _, _, _, _, _, by k_is, by (show codeIn _ _ (Str.ofString "Inflater.__init__") = true; k_is), ?_, by decide +kernel, by kernel_rfl, by kernel_rfl⟩
  intro s vs hK h
  obtain ⟨a, b, c, d, rfl⟩ := vs4 h
  exact kp_binds hK (fun _ => rfl)
theorem tab_of {lst mr : Nat → Int} {as : List Addr} {l : Addr} {n : Nat} {X : Nw} (h : as.length = n) (k : ∀ e ∈ (l, RefR as) :: tabR lst mr as, e ∈ X) : TabA (fun a P => (a, P) ∈ X) l lst mr n :=
  ⟨as, h, k _ (.head _), fun j hj => by obtain ⟨a, e, hm⟩ := tabR_mem (lst := lst) (mr := mr) (h ▸ hj); exact ⟨a, e, k _ (.tail _ hm)⟩⟩
theorem iinit_h {V : Vx} (ok : Ok ⟨sIinit, V⟩) (hdp : V.dp < 830) {it d : Addr} {arr : Array UInt8} {a win : Int} (hit : At V.h₀ it (InstP 238 d))
    {K : AV → Nw → Prop} (kk : ∀ rd dx ba ll ld X, TabA (fun a P => (a, P) ∈ X) ll lenT lenM 29 → TabA (fun a P => (a, P) ∈ X) ld leastD moreD 30 → K (Is .none) ((ba, BaP []) :: (rd, InstP 109 dx) :: (dx, RdP arr ⟨a, 0, 0⟩) :: (d, infP rd ba ll ld win false false .none .none 0 .none) :: X)) :
    Ex ⟨sIinit, V⟩ [some (Is (.ref it)), some (By arr), some (It a), some (It win)] [(d, FldP [] [])] (bodyF 192) (fun fl _ nw' => K fl.av nw') := by
  have okb := ok.toOkB
  have hiI : ∀ nw, In ⟨sIinit, V⟩ nw it (InstP 238 d) := fun _ => .inr hit
  refine Ex.anew ok (r := it) (dx := d) (xs := []) (Ps := []) 2 (st238 _ (j := 0) rfl) (by decide +kernel) (EK.callG ok (EE.glob okb (gl_reader _) (by kernel_rfl)) (kp_reader _) (EvA.p (EE.loc okb (i := 1) rfl rfl) (EvA.p (EE.loc okb (i := 2) rfl rfl) (EvA.nil (CN.k (CN.callZ okb (mkM (mk109 _) (in109 _) (ty77 _) (conM (fn_rinit _))) (Nat.lt_trans hdp (by decide)) rfl [] [0] 1 (nw₀ := []) rfl fun V' e1 e2 e3 ro =>
    ⟨dpL e2 hdp (by decide), fun rd dx hx okV => rinit_h okV ⟨_, hx, rfl⟩ ⟨fun _ h => h, ?_⟩⟩))))))
  refine ⟨(EE.loc okb (i := 0) rfl rfl), hiI _, rfl, ?_⟩
  refine Ex.anew ok (r := it) (dx := d) (xs := [Str.ofString "reader"]) (Ps := [Is (.ref rd)]) 2 (st238 _ (j := 1) rfl) (by decide +kernel) (Ev.k (EE.loc okb (i := 3) rfl rfl) ⟨(EE.loc okb (i := 0) rfl rfl), hiI _, rfl, ?_⟩)
  refine Ex.anewT ok rfl (r := it) (dx := d) (xs := [Str.ofString "reader", Str.ofString "window"]) (Ps := [Is (.ref rd), It win]) 3 (st238 _ (j := 2) rfl) (by decide +kernel) (ET.ba okb fun ba => ⟨(EE.loc okb (i := 0) rfl rfl), hiI _, rfl, ?_⟩)
  refine Ex.anew ok (r := it) (dx := d) (xs := [Str.ofString "reader", Str.ofString "window", Str.ofString "content"]) (Ps := [Is (.ref rd), It win, Is (.ref ba)]) 3 (st238 _ (j := 3) rfl) (by decide +kernel) (Ev.k EE.bool ⟨(EE.loc okb (i := 0) rfl rfl), hiI _, rfl, ?_⟩)
  refine Ex.anew ok (r := it) (dx := d) (xs := [Str.ofString "reader", Str.ofString "window", Str.ofString "content", Str.ofString "is_last"]) (Ps := [Is (.ref rd), It win, Is (.ref ba), Is (.bool false)]) 3 (st238 _ (j := 4) rfl) (by decide +kernel) (Ev.k EE.bool ⟨(EE.loc okb (i := 0) rfl rfl), hiI _, rfl, ?_⟩)
  refine Ex.anew ok (r := it) (dx := d) (xs := [Str.ofString "reader", Str.ofString "window", Str.ofString "content", Str.ofString "is_last", Str.ofString "is_done"]) (Ps := [Is (.ref rd), It win, Is (.ref ba), Is (.bool false), Is (.bool false)]) 3 (st238 _ (j := 5) rfl) (by decide +kernel) (Ev.k EE.none ⟨(EE.loc okb (i := 0) rfl rfl), hiI _, rfl, ?_⟩)
  refine Ex.anew ok (r := it) (dx := d) (xs := [Str.ofString "reader", Str.ofString "window", Str.ofString "content", Str.ofString "is_last", Str.ofString "is_done", Str.ofString "literal"]) (Ps := [Is (.ref rd), It win, Is (.ref ba), Is (.bool false), Is (.bool false), Is .none]) 3 (st238 _ (j := 6) rfl) (by decide +kernel) (Ev.k EE.none ⟨(EE.loc okb (i := 0) rfl rfl), hiI _, rfl, ?_⟩)
  refine Ex.anew ok (r := it) (dx := d) (xs := [Str.ofString "reader", Str.ofString "window", Str.ofString "content", Str.ofString "is_last", Str.ofString "is_done", Str.ofString "literal", Str.ofString "distance"]) (Ps := [Is (.ref rd), It win, Is (.ref ba), Is (.bool false), Is (.bool false), Is .none, Is .none]) 3 (st238 _ (j := 7) rfl) (by decide +kernel) (Ev.k EE.int ⟨(EE.loc okb (i := 0) rfl rfl), hiI _, rfl, ?_⟩)
  refine Ex.anew ok (r := it) (dx := d) (xs := [Str.ofString "reader", Str.ofString "window", Str.ofString "content", Str.ofString "is_last", Str.ofString "is_done", Str.ofString "literal", Str.ofString "distance", Str.ofString "stored"]) (Ps := [Is (.ref rd), It win, Is (.ref ba), Is (.bool false), Is (.bool false), Is .none, Is .none, It 0]) 3 (st238 _ (j := 8) rfl) (by decide +kernel) (EK.callG0 ok (EE.glob okb (gl_lens _) (by kernel_rfl)) (kp_lens _) (CN.k (CN.callY okb (conM (fn_lens _)) (Nat.lt_trans hdp (by decide)) rfl [] [0, 1, 2, 3] 4 (nwr := (ba, BaP []) :: (rd, InstP 109 dx) :: (dx, RdP arr ⟨a, 0, 0⟩) :: (d, FldP [Str.ofString "reader", Str.ofString "window", Str.ofString "content", Str.ofString "is_last", Str.ofString "is_done", Str.ofString "literal", Str.ofString "distance", Str.ofString "stored"] [Is (.ref rd), It win, Is (.ref ba), Is (.bool false), Is (.bool false), Is .none, Is .none, It 0]) :: []) (nw₀ := []) rfl fun V' e1 e2 e3 ro okV => lens_h okV fun ll as hl => ⟨(EE.loc okb (i := 0) rfl rfl), hiI _, rfl, ?_⟩)))
  refine Ex.anew ok (r := it) (dx := d) (xs := [Str.ofString "reader", Str.ofString "window", Str.ofString "content", Str.ofString "is_last", Str.ofString "is_done", Str.ofString "literal", Str.ofString "distance", Str.ofString "stored", Str.ofString "lengths"]) (Ps := [Is (.ref rd), It win, Is (.ref ba), Is (.bool false), Is (.bool false), Is .none, Is .none, It 0, Is (.ref ll)]) 3 (st238 _ (j := 9) rfl) (by decide +kernel) (EK.callG0 ok (EE.glob okb (gl_dists _) (by kernel_rfl)) (kp_dists _) (CN.k (CN.callY okb (conM (fn_dists _)) (Nat.lt_trans hdp (by decide)) rfl [] [0, 1, 2, 3] 4 (nwr := (ba, BaP []) :: (rd, InstP 109 dx) :: (dx, RdP arr ⟨a, 0, 0⟩) :: (d, FldP [Str.ofString "reader", Str.ofString "window", Str.ofString "content", Str.ofString "is_last", Str.ofString "is_done", Str.ofString "literal", Str.ofString "distance", Str.ofString "stored", Str.ofString "lengths"] [Is (.ref rd), It win, Is (.ref ba), Is (.bool false), Is (.bool false), Is .none, Is .none, It 0, Is (.ref ll)]) :: (ll, RefR as) :: tabR lenT lenM as) (nw₀ := []) rfl fun V' e1 e2 e3 ro okV => dists_h okV fun ld bs hl2 => ⟨(EE.loc okb (i := 0) rfl rfl), hiI _, rfl, ?_⟩)))
  refine Ex.anew ok (r := it) (dx := d) (xs := [Str.ofString "reader", Str.ofString "window", Str.ofString "content", Str.ofString "is_last", Str.ofString "is_done", Str.ofString "literal", Str.ofString "distance", Str.ofString "stored", Str.ofString "lengths", Str.ofString "distances"]) (Ps := [Is (.ref rd), It win, Is (.ref ba), Is (.bool false), Is (.bool false), Is .none, Is .none, It 0, Is (.ref ll), Is (.ref ld)]) 3 (st238 _ (j := 10) rfl) (by decide +kernel) (Ev.k EE.none ⟨(EE.loc okb (i := 0) rfl rfl), hiI _, rfl, ?_⟩)
  exact Ex.nil (kk rd dx ba ll ld (((ll, RefR as) :: tabR lenT lenM as) ++ ((ld, RefR bs) :: tabR leastD moreD bs)) (tab_of hl fun e he => List.mem_append_left _ he) (tab_of hl2 fun e he => List.mem_append_right _ he))
end Mine
end
section
open PySem PySem.W PySem.Calls PyProof.Rows
set_option maxRecDepth 100000
namespace Mine
section
variable {prog : Program} {w : World} {A : Around} {E : Value → Shared → Prop} {s : Shared} {env : Env}
theorem wpC_Try {body orelse : List Stmt} {h₀ : ExceptHandler} {hs : List ExceptHandler} {pos : Pos} {Q : Flow → Shared → Prop}
    (h : wpC (model prog w) A (execs body env) (fun f s₁ => match f with | .next => wpC (model prog w) A (execs orelse env) Q E s₁ | f => Q f s₁)
      (fun e s₁ => wpAny (model prog w) A (noteFrame e env) (fun _ s₂ => wpAny (model prog w) A (setFlight e none) (fun _ s₃ => wpAny (model prog w) A (handleBy e env (h₀ :: hs)) Q E s₃) E s₂) E s₁) s) :
    wpC (model prog w) A (exec (.Try body (h₀ :: hs) orelse [] pos) env) Q E s := by
  rw [arm_exec_Try]
  refine wpC_bind (wpC_standAt ?_)
  unfold tryStmt
  rw [if_pos (show List.isEmpty ([] : List Stmt) = true from rfl)]
  refine wpC_bind (wpC_attempt (wpC_mono h (fun f s₁ h₁ => ?_) fun e s₁ h₁ => ?_))
  · cases f <;> first | exact h₁ | exact wpC_pure h₁
  · exact wpC_of_any (wpAny_bind (wpAny_mono h₁ (fun _ _ h₂ => wpAny_bind h₂) fun _ _ x => x))
end
noncomputable def PostS (s : Shared) (mods : List Addr) (outer : List Env) (Pok : Value → Heap → Prop) (r : Result) (s' : Shared) : Prop :=
  ∃ h' tk, s' = { s with heap := h', toks := tk } ∧ match r with
    | .ok (.ret v) => (∀ b o, s.heap.get? b = some o → b ∉ mods → b ∉ frs outer → h'.get? b = some o) ∧ SlotsOn (frs outer) s.heap h' ∧ Pok v h'
    | _ => False
theorem funFrames_none {h B : Heap} : ∀ {l : List Env}, h.FunFrames B l → ∀ a ∈ frs l, B.get? a = none
  | [], _, a, ha => nomatch ha
  | env :: r, ⟨_, ⟨L, o, hf, hn, _⟩, hr⟩, a, ha => by
    rw [frs_cons hf] at ha
    rcases List.mem_cons.mp ha with rfl | ha
    · exact hn
    · exact funFrames_none hr a ha
section
variable {prog : Program} {w : World} {A : Around} {s : Shared} {G : Heap} {outer : List Env} {K : Frag} {p : Program} {loose : List Str} {mean : ExcName → Option Value} {mg mb : Str → Option Value}
  {name qual : Str} {params : Arguments} {body : List Stmt} {scope : Scope} {dV kV doc pm cdv ct oc : Value} {an od : Option Addr} {osl : Array (Option Value)} {f : Addr} {args : Args} {binds : List (Str × Value)} {objs : List (Addr × Obj)}
  {R : Result → Shared → Prop}
theorem enterR (mods : List Addr) (B : Below A G outer s.heap) (D : Led G outer s.heap objs) (KX : K.In G) (TT : Top p loose mean mg mb G)
    (ho : K.lookup f = some ⟨oc, od, .func (fnOf name qual params body scope dV kV doc pm an cdv ct), osl⟩) (hcd : codeIn K cdv qual = true) (hroom : A.depth < recursionLimit)
    (hbind : BindsTo s (fnOf name qual params body scope dV kV doc pm an cdv ct) args binds) (hloc : ∀ y ∈ binds, scope.names.lookup y.1 = some .local)
    (h : ∀ h₀ L h₁, Fr h₀ L h₁ (fun y => binds.reverse.lookup y) → News h₀ L h₁ objs → Below A G outer h₀ → K.In h₀ → Top p loose mean mg mb h₀ → (∀ q ∈ objs, q.1 < L) → Ends s objs mods outer h₀ L →
      wpC (model prog w) (A.deeper (envOf qual scope L f cdv)) (execs body (envOf qual scope L f cdv))
        (fun fl s' => R (.ok (.ret (match fl with | .ret v => v | _ => .none))) s')
        (fun e s' => wpAny (model prog w) (A.deeper (envOf qual scope L f cdv)) (leaving (envOf qual scope L f cdv) e) (fun _ s'' => R (.error e) s'') (fun e' s'' => R (.error e') s'') s')
        { s with heap := h₁, toks := s.toks + binds.length })
    (hcell : ∀ x ∈ scope.names, x.2 ≠ .cell) (hco : autoParam (scope.isCoroutine = false) Mine.aR) (hgen : autoParam (scope.isGenerator = false) Mine.aR) (hk : autoParam (scope.kind = .function) Mine.aR) :
    codeC (model prog w) A (.call (.ref f) args) R s := by
  have nm : ∀ b o, G.get? b = some o → b ∉ objs.map (·.1) := fun b o e q => by
    obtain ⟨p, hp, rfl⟩ := List.mem_map.mp q
    rw [(D p hp).2.1] at e; cases e
  have st : G.StaysIn (hideAll s.heap (objs.map (·.1))) := fun b o e => hideAll_get _ (B.stays b o e) (nm b o e)
  have B' : Below A G outer (hideAll s.heap (objs.map (·.1))) := ⟨B.stack, st, funFrames_hideAll B.frames fun env he b hb hf => by
    obtain ⟨p, hp, rfl⟩ := List.mem_map.mp hb
    exact (D p hp).2.2 (List.mem_filterMap.mpr ⟨env, he, hf⟩)⟩
  refine codeC_call_def (fd := fnOf name qual params body scope dV kV doc pm an cdv ct) (body := body) (binds := binds) hroom (B.stays _ _ (KX _ _ ho)) rfl (TT.nolimit.keeps B.stays) (codeRec_of (KX.keeps B.stays) hcd) rfl hbind hcell hloc (fun h₁ hns hk₁ => ?_) hco hgen hk
  refine h _ s.heap.objs.size h₁ ⟨hns, fun b o e => hk₁ b o (of_hideAll _ e), Nat.le_of_eq (hideAll_size _ _)⟩
    (fun q hq => ⟨hk₁ _ _ (D q hq).1, Nat.ne_of_lt (Heap.lt_size (D q hq).1), hideAll_none _ (List.mem_map_of_mem hq)⟩) B' (KX.keeps st) (TT.keeps st) (fun q hq => Heap.lt_size (D q hq).1) ⟨?_, Nat.le_refl _, fun b o e hb => hideAll_get _ e hb, fun b o e hb => hideAll_get _ e fun q => by
    obtain ⟨p, hp, rfl⟩ := List.mem_map.mp q
    exact (D p hp).2.2 hb⟩
  intro h' m' news' F' N' hn b o e hb
  by_cases hm : b ∈ objs.map (·.1)
  · obtain ⟨q, hq, rfl⟩ := List.mem_map.mp hm
    have := (D q hq).1
    rw [this] at e
    cases e
    exact (N' q (hn q hq hb)).1
  · exact F'.keep b o (hideAll_get _ e hm)
end
theorem bad_name (w : World) : nsIn (HA.hd.heap_1_39 w.params) mainGlobals (Str.ofString "BadBits") = some (some (.ref 45)) := by k_is
section
variable {prog : Program} {w : World} {A A₀ : Around} {G h₀ h : Heap} {outer : List Env} {name : Str} {scope : Scope} {a : Addr} {cd : Value} {L : Addr} {m : Str → Option Value} {mods : List Addr} {s' : Shared} {P : Heap → Prop}
  {p : Program} {loose : List Str} {mean : ExcName → Option Value} {mg mb : Str → Option Value} {np pos : Pos} {b₀ : Stmt} {suite : List Stmt} {rest : List ExceptHandler} {Q : Flow → Shared → Prop} {E : Value → Shared → Prop} {e : Addr}
theorem catch_bad (K : Below A₀ G outer h₀) (F : Fr h₀ L h m) (hm : ∀ b o, h₀.get? b = some o → b ∉ mods) (R : Raised h mods (envOf name scope L a cd :: outer) P e s'.heap) (KX : (HA.hd.heap_1_39 w.params).In G) (TT : Top p loose mean mg mb G)
    (k : ∀ h' B, P B → (∀ b o, h.get? b = some o → b ∉ mods → b ∉ frs (envOf name scope L a cd :: outer) → B.get? b = some o) → B.StaysIn h' → (∀ b ∈ frs (envOf name scope L a cd :: outer), B.get? b = none) → SlotsOn (frs (envOf name scope L a cd :: outer)) h h' →
      Fr (hideAll h₀ (frs outer)) L h' m → (HA.hd.heap_1_39 w.params).In (hideAll h₀ (frs outer)) → Top p loose mean mg mb (hideAll h₀ (frs outer)) →
      wpAny (model prog w) ((A₀.deeper (envOf name scope L a cd)).mark (some (.ref e))) (execs (b₀ :: suite) (envOf name scope L a cd)) Q E { s' with heap := h' })
    (hk : autoParam (scope.kind = .function) Mine.aR) (hx : autoParam ((envOf name scope L a cd).kindOf (Str.ofString "BadBits") = some .globalImplicit) Mine.aR)
    (hE : PassesOwnAt (model prog w) ((A₀.deeper (envOf name scope L a cd)).mark (some (.ref e))) (A₀.deeper (envOf name scope L a cd)) (envOf name scope L a cd) E := by passes_own) :
    wpAny (model prog w) (A₀.deeper (envOf name scope L a cd)) (noteFrame (.ref e) (envOf name scope L a cd))
      (fun _ s₂ => wpAny (model prog w) (A₀.deeper (envOf name scope L a cd)) (setFlight (.ref e) none) (fun _ s₃ =>
        wpAny (model prog w) (A₀.deeper (envOf name scope L a cd)) (handleBy (.ref e) (envOf name scope L a cd) (.ExceptHandler (some (.Name (Str.ofString "BadBits") np)) none (b₀ :: suite) pos :: rest)) Q E s₃) E s₂) E s' := by
  obtain ⟨B, a0, k1, k2, hfl, ks⟩ := R
  have fL : frs (envOf name scope L a cd :: outer) = L :: frs outer := frs_cons rfl
  have hnone := funFrames_none hfl.2.2.1
  have Ghid : G.StaysIn (hideAll h₀ (frs outer)) := fun b o e1 => hideAll_get _ (K.stays b o e1) fun q => by rw [funFrames_none K.frames b q] at e1; cases e1
  have hB0 : (hideAll h₀ (frs outer)).StaysIn B := fun b o e1 => by
    have e2 := of_hideAll _ e1
    refine k1 b o (F.keep b o e2) (hm b o e2) fun q => ?_
    rw [fL] at q
    rcases List.mem_cons.mp q with rfl | q
    · exact absurd (Nat.lt_of_lt_of_le (Heap.lt_size e2) F.above) (Nat.lt_irrefl _)
    · rw [hideAll_none _ q] at e1; cases e1
  have KH := KX.keeps Ghid
  have TH := TT.keeps Ghid
  have FH : ∀ {h₅ : Heap}, B.StaysIn h₅ → s'.heap.UpToSlots h₅ → Fr (hideAll h₀ (frs outer)) L h₅ m := fun {h₅} st up => by
    obtain ⟨oL, es, ep, hL, hdL, rr⟩ := F.ns
    have hLm : L ∈ frs (envOf name scope L a cd :: outer) := by rw [fL]; exact .head _
    obtain ⟨sl, e3⟩ := ks L oL hL hLm (fun vs q => by rw [hdL] at q; cases q)
    obtain ⟨sl2, e4⟩ := up L _ e3 (fun vs q => by dsimp only at q; rw [hdL] at q; cases q)
    exact ⟨⟨_, es, ep, e4, hdL, rr⟩, fun b o e1 => st b o (hB0 b o e1), by rw [hideAll_size]; exact F.above⟩
  refine wpAny_looks_onW (Around.frames_deeper K.stack) rfl hfl fun h₄ hheld₄ hsm₄ => ?_
  refine wpAny_landsW hheld₄ fun h₅ hheld hsm₅' => ?_
  have hsm₅ := hsm₄.trans hsm₅'
  have F₅ := FH hheld.1 hsm₅
  obtain ⟨ob, hob, hobc⟩ := hheld.there
  refine wpAny_handleBy_cons (codeAny_handlers_test (name_K F₅ KH (topRead_of TH) (bad_name w) ?_ hk hx (by decide))) (by intro q; cases q)
  refine wpAny_excMatches_sub_self (F₅.keep _ _ (KH _ _ (look45 w))) hob hobc rfl (codeAny_handlers_suite ?_)
  refine lands_againW hheld fun h₆ hfl₆ hsm₆ => ?_
  have hsm := hsm₅.trans hsm₆
  refine wpAny_passesOwnAt hE (k h₆ B k2 k1 hfl₆.1 hnone (fun b o e1 hb hd => ?_) (FH hfl₆.1 hsm) KH TH)
  obtain ⟨sl, e3⟩ := ks b o e1 hb hd
  obtain ⟨sl2, e4⟩ := hsm b _ e3 hd
  exact ⟨sl2, e4⟩
end
end Mine
end
section
open PySem PySem.W PySem.Calls PyProof.Rows
set_option maxRecDepth 100000
set_option maxHeartbeats 4000000
namespace Mine
theorem mt_work (w : World) : MtOk w 238 (Str.ofString "work") 200 := ⟨by k_is, by k_is, by k_is⟩
theorem kp_work (w : World) : keepIn (HA.hd.heap_1_39 w.params) (.ref 200) = true := by k_is
theorem caughtN {A : Around} {G h0 h h2 B : Heap} {L : Addr} {m : Str → Option Value} {outer : List Env} {fr : List Addr} {T : List (Addr × Obj)}
    (KB : Below A G outer h0) (F : Fr h0 L h m) (hfr : fr = L :: frs outer) (kB : B.StaysIn h2) (ks : SlotsOn fr h h2) (hT : ∀ p ∈ T, B.get? p.1 = some p.2 ∧ p.1 ≠ L ∧ h0.get? p.1 = none) :
    ∃ T2, News (hideAll h0 (frs outer)) L h2 (T ++ T2) ∧ (∀ b o, h0.get? b = some o → b ∈ frs outer → (∀ vs, o.data ≠ .fields vs) → ∃ sl, (b, { o with slots := sl }) ∈ T2) := by
  subst hfr
  have hid : ∀ a, h0.get? a = none → (hideAll h0 (frs outer)).get? a = none := fun a ha => by
    cases z : (hideAll h0 (frs outer)).get? a with
    | none => rfl
    | some o => have := of_hideAll _ z; rw [ha] at this; cases this
  refine ⟨(frs outer).filterMap (fun b => (h2.get? b).map fun o => (b, o)), fun p hp => ?_, fun b o e hb hdd => ?_⟩
  · rcases List.mem_append.mp hp with hp | hp
    · have z := hT p hp
      exact ⟨kB _ _ z.1, z.2.1, hid _ z.2.2⟩
    · obtain ⟨b, hb, e⟩ := List.mem_filterMap.mp hp
      obtain ⟨o, ho, rfl⟩ := Option.map_eq_some_iff.mp e
      obtain ⟨_, o2, ho2, _⟩ := KB.frames.mem hb
      exact ⟨ho, fun q => absurd (Nat.lt_of_lt_of_le (Heap.lt_size ho2) F.above) (by dsimp only at q; rw [q]; exact Nat.lt_irrefl _), hideAll_none _ hb⟩
  · obtain ⟨sl, e2⟩ := ks b o (F.keep _ _ e) (.tail _ hb) hdd
    exact ⟨sl, List.mem_filterMap.mpr ⟨b, hb, by rw [e2]; rfl⟩⟩
theorem stK2 {c : Cx} {lo : Lo} {nw : Nw} (ok : OkB c) (nd : c.S.nm.Nodup) (mf : ∀ m, c.V.mf m) {i : Nat} {x : Str} {v : Value} {P : AV} {s : Shared} {Q : Unit → Shared → Prop} {E : Value → Shared → Prop} (hs : St c lo nw s) (hn : nth c.S.nm i = some x) (hP : P v) (q : ∀ s', St c (put lo i (some P)) nw s' → Q () s') : wpAny c.M c.A (storeName c.env x v) Q E s := by
  obtain ⟨h, tk0, m, ob, rfl, F, l, N, oo, ndd⟩ := hs
  exact storeX_L F N (fun h' F' N' => q _ ⟨h', _, _, ob, rfl, F', ⟨l.1.store nd hn hP, mf _⟩, N', oo, ndd⟩) ok.fn (ok.lk x (nth_mem hn)).1
noncomputable def RefOk (d ba rd ll ld : Addr) (win : Int) (Se : IS) (h' : Heap) : Prop := ∃ la lit dis fx, At h' d (infP rd ba ll ld win la Se.done lit dis Se.stored fx) ∧ At h' ba (BaP Se.out)
noncomputable def sRef : Sx := sx true 292 [Str.ofString "it", Str.ofString "refused"]
theorem fn_ref (w : World) : Fn w 292 sRef 1 [] (bodyF 292) := by
  refine ⟨⟨by kernel_rfl, by decide +kernel, by decide +kernel⟩, Nat.le_of_ble_eq_true rfl, ?_⟩
  refine ⟨_, _, _, _, _, _, _, _, _, _, _, _, by k_is, by (show codeIn _ _ (Str.ofString "_law_is_refused") = true; k_is), ?_, by decide +kernel, by kernel_rfl, by kernel_rfl⟩
  intro s vs hK h
  obtain ⟨a, rfl⟩ := vs1 h
  exact BindsTo.of_eq rfl
theorem refused_M {w : World} {dp un : Nat} {s : Shared} {G : Heap} {outer : List Env} {p : Program} {loose : List Str} {mean : ExcName → Option Value} {mg mb : Str → Option Value} (B : Below (Ar dp un (some []) outer) G outer s.heap) (KX : (HA.hd.heap_1_39 w.params).In G) (TT : Top p loose mean mg mb G) (hdp : dp < 800)
    {it d rd dx ba ll ld : Addr} {arr : Array UInt8} {ks : List Int} {win : Int} {S Se : IS} {lit dis fx : Value} {ob : Addr → Obj}
    (D : Led G outer s.heap ((infW d dx ba rd ll ld arr win S lit dis fx []).map fun e => (e.1, ob e.1))) (ho : ∀ e ∈ infW d dx ba rd ll ld arr win S lit dis fx [], e.2 (ob e.1)) (nd : (adr (infW d dx ba rd ll ld arr win S lit dis fx [])).Nodup)
    (hit : At (hideAll s.heap [d, dx, ba]) it (InstP 238 d)) (hrd : At (hideAll s.heap [d, dx, ba]) rd (InstP 109 dx)) (hll : TabA (At (hideAll s.heap [d, dx, ba])) ll lenT lenM 29) (hld : TabA (At (hideAll s.heap [d, dx, ba])) ld leastD moreD 30) (hf : FxF (At (hideAll s.heap [d, dx, ba])) S.inB S.fx lit dis fx)
    (hb : KBw.bInts arr = ks) (hlen : ks.length ≤ 2000) (hks : ∀ x ∈ ks, 0 ≤ x ∧ x < 256) (hw : Work ks win none S (.error Se)) :
    codeC (model PySem.Challenge.rw_pb0114_01.row.prog w) (Ar dp un (some []) outer) (.call (.ref 292) ⟨[.ref it], []⟩) (PostS s [d, dx, ba] outer (fun v h' => v = .bool true ∧ RefOk d ba rd ll ld win Se h')) s := by
  obtain ⟨so, hnl, oc, od, name, params, dV, kV, doc, pm, an, cdv, ct, osl, hlk, hcd, hbi, hcell, hco, hge⟩ := fn_ref w
  have KS := KX.keeps B.stays
  have hroom : (Ar dp un (some []) outer).depth < recursionLimit := by unfold recursionLimit; exact Nat.lt_trans hdp (by decide)
  refine enterR [d, dx, ba] B D KX TT hlk hcd hroom (hbi s [.ref it] KS rfl) (fun y hy => (so.lk y.1 (List.of_mem_zip hy).1).1) (fun h₀ L h₁ F N B' X0 T0 l1 En => ?_) hcell hco hge so.fn
  have up : ∀ a P, At (hideAll s.heap [d, dx, ba]) a P → At h₀ a P := fun a P ⟨o, e, p⟩ => ⟨o, En.base a o (of_hideAll _ e) (fun q => by
    rw [hideAll_none _ (show a ∈ [d, dx, ba] from q)] at e; cases e), p⟩
  obtain ⟨c, hc⟩ : ∃ c : Cx, c = ⟨sRef, ⟨w, dp + 1, un + 3, outer, G, L, 292, cdv, [], h₀, s, fun _ => False, fun _ _ => True, fun _ => True⟩⟩ := ⟨_, rfl⟩
  have okb : OkB c := by subst hc; exact ⟨so.fn, KX, X0, ⟨p, loose, mean, mg, mb, TT, T0⟩, ⟨_, B'⟩, fun x hx => so.lk x hx⟩
  have hs0 : St c [some (Is (.ref it)), none] (infW d dx ba rd ll ld arr win S lit dis fx []) { s with heap := h₁, toks := s.toks + (sRef.nm.zip ([Value.ref it] ++ [])).length } := by
    subst hc
    exact ⟨h₁, _, _, ob, rfl, F, ⟨locOk_zip (Ps := [Is (.ref it)]) 1 (fun i x v hx hv => lookup_zip so.nd hx hv) (.cons rfl .nil) (Nat.le_of_ble_eq_true rfl), trivial⟩, N, ho, nd⟩
  subst hc
  refine wpC_execs_any (wpAny_Assign_Name (PyProof.Rows.Constant_bool (stK2 okb so.nd (fun _ => trivial) hs0 (i := 1) (x := Str.ofString "refused") rfl rfl fun s1 hs1 => ?_)) rfl)
  refine wpC_execs_cons (wpC_Try (wpC_execs_cons (wpC_Expr (wpC_MethodCall (EE.loc okb (i := 0) rfl rfl s1 hs1 _ _ fun v s2 hv hs2 => ?_)))))
  cases hv
  refine meth_get okb hs2 (.inr (up _ _ hit)) (In.at (i := 0) rfl) (mt_work _) (by decide +kernel) ?_
  obtain ⟨m2, ns2, F2, N2, _⟩ := hs2.opn
  refine wpC_K_none (K := HA.hd.heap_1_39 w.params) (kp_work _) (X0.keeps F2.keep) ?_
  refine call_core (b := true) okb (conM (fn_work1 w)) (Nat.lt_of_lt_of_le (Nat.succ_lt_succ hdp) (by decide)) (.cons (P := Is (.ref it)) rfl .nil) rfl [0, 1, 2] (nw₀ := infW d dx ba rd ll ld arr win S lit dis fx []) rfl (by decide) (K := fun _ _ => False) (Er := fun B => ∃ la lit dis fx, Has B [(d, infP rd ba ll ld win la Se.done lit dis Se.stored fx), (ba, BaP Se.out)])
    (fun V' e1 e2 e3 ro e5 okV => work_h (most := none) (F₀ := At V'.h₀) okV (fun _ _ h => h) (by have := e2; dsimp only at this; lia) (ro _ _ (.inl (up _ _ hit))) (ro _ _ (.inl (up _ _ hrd))) (hll.mono fun a P h => ro a P (.inl (up a P h))) (hld.mono fun a P h => ro a P (.inl (up a P h))) hb hlen hks (fun S' T lit dis fx hr _ => nomatch hr) (fun S' hr B la lit dis fx hB => by cases hr; rw [e5]; exact ⟨la, lit, dis, fx, hB⟩) hw (hf.mono fun a P h => .inl (ro a P (.inl (up a P h))))) hs2 (fun P nw' v s' hK _ _ => hK.elim) (fun e h' tk R => ?_)
  obtain ⟨_, _, _, dL, d0⟩ := hs2.has (nth_mem (i := 0) rfl)
  obtain ⟨_, _, _, xL, x0⟩ := hs2.has (nth_mem (i := 1) rfl)
  obtain ⟨_, _, _, bL, b0⟩ := hs2.has (nth_mem (i := 2) rfl)
  have hmods : ∀ b o, h₀.get? b = some o → b ∉ [d, dx, ba] := fun b o e q => by
    rcases List.mem_cons.mp q with rfl | q
    · change h₀.get? b = none at d0; rw [d0] at e; cases e
    rcases List.mem_cons.mp q with rfl | q
    · change h₀.get? b = none at x0; rw [x0] at e; cases e
    · rw [List.mem_singleton.mp q] at e; change h₀.get? ba = none at b0; rw [b0] at e; cases e
  refine catch_bad (A₀ := Ar dp un (some []) outer) B' F2 hmods R KX TT fun h2 BB hPB kB st kn ks2 F6 X6 T6 => ?_
  obtain ⟨la, lit', dis', fx', hB⟩ := hPB
  obtain ⟨od, ed, pd⟩ := hB _ (.head _)
  obtain ⟨ob', eb, pb⟩ := hB _ (.tail _ (.head _))
  obtain ⟨T2, N6, hfs⟩ := caughtN (T := [(d, od), (ba, ob')]) B' F2 (frs_cons rfl) st ks2 (fun p hp => by
    rcases List.mem_cons.mp hp with rfl | hp
    · exact ⟨ed, dL, d0⟩
    · rw [List.mem_singleton.mp hp]; exact ⟨eb, bL, b0⟩)
  refine wpAny_execs_cons (wpAny_Assign_Name (PyProof.Rows.Constant_bool (storeX_L (x := Str.ofString "refused") F6 N6 (fun h3 F7 N7 => wpAny_execs_nil ?_) so.fn (so.lk _ (nth_mem (i := 1) rfl)).1)) rfl)
  refine wpC_execs_any (wpAny_Return_some (nameX_L (v := .bool true) F7 (if_pos rfl) ?_ so.fn (so.lk _ (nth_mem (i := 1) rfl)).1 (so.lk _ (nth_mem (i := 1) rfl)).2))
  obtain ⟨hh2, tk2, _, _, e2, _⟩ := hs2
  subst e2
  refine ⟨h3, _, rfl, fun b o e nm nf => F7.keep _ _ (hideAll_get _ (En.base _ _ e nm) nf), fun b o e hb hd => ?_, rfl, la, lit', dis', fx', ⟨od, (N7 _ (.head _)).1, pd⟩, ⟨ob', (N7 _ (.tail _ (.head _))).1, pb⟩⟩
  obtain ⟨sl, h⟩ := hfs b o (En.frk b o e hb) hb hd
  exact ⟨sl, (N7 _ (.tail _ (.tail _ h))).1⟩
end Mine
end
section
open PySem PySem.W PySem.Calls PyProof.Rows
set_option maxRecDepth 100000
set_option maxHeartbeats 4000000
namespace Mine
noncomputable def sPlace : Sx := sx false 84 [Str.ofString "self"]
theorem fn_place (w : World) : Fn w 84 sPlace 1 [] (bodyF 84) := by
  refine ⟨⟨by kernel_rfl, by decide +kernel, by decide +kernel⟩, Nat.le_of_ble_eq_true rfl, ?_⟩
  refine ⟨_, _, _, _, _, _, _, _, _, _, _, _, by k_is, by (show codeIn _ _ (Str.ofString "BitReader.place") = true; k_is), ?_, by decide +kernel, by kernel_rfl, by kernel_rfl⟩
  intro s vs hK h
  obtain ⟨a, rfl⟩ := vs1 h
  exact BindsTo.of_eq rfl
theorem place_h {V : Vx} (ok : Ok ⟨sPlace, V⟩) {r dx : Addr} {arr : Array UInt8} {st : RS} (hr : At V.h₀ r (InstP 109 dx)) (hx : At V.h₀ dx (RdP arr st)) {K : AV → Nw → Prop} (kk : K (It st.a) []) : Ex ⟨sPlace, V⟩ [some (Is (.ref r))] [] (bodyF 84) (fun fl _ nw' => K fl.av nw') := by
  have okb := ok.toOkB
  exact Ex.ret (Ev.k (EE.rd okb 1 (EE.loc okb (i := 0) rfl rfl) (.inr hr) (.inr hx)) kk)
theorem prop_place (w : World) : ∃ p rest, findIn (HA.hd.heap_1_39 w.params) (.ref 109) (Str.ofString "place") = some (some (.ref p)) ∧ specialIn (HA.hd.heap_1_39 w.params) (.ref p) (Str.ofString "__get__") = some (some (.builtin "property.__get__")) ∧ takesIn (HA.hd.heap_1_39 w.params) (.ref p) = some true ∧ recIn (HA.hd.heap_1_39 w.params) p "property" = some (.ref 84 :: rest) :=
  ⟨_, _, by k_is, by k_is, by k_is, by k_is⟩
theorem pg_place (w : World) : plainGet (HA.hd.heap_1_39 w.params) 109 (Str.ofString "place") = true := by k_is
section
variable {c : Cx} {lo : Lo} {nw : Nw} {rest : List Stmt} {R : Fl → Lo → Nw → Prop}
theorem EE.place (ok : OkB c) (hdp : c.V.dp < 900) {o : Expr} {pos : Pos} {r dx : Addr} {arr : Array UInt8} {st : RS} (ho : EE c lo nw o (Is (.ref r))) (hr : In c nw r (InstP 109 dx)) (hx : In c nw dx (RdP arr st))
    (he : autoParam (eval (.Attribute o (Str.ofString "place") pos) c.env = (do
      let o' ← eval o c.env
      standAt pos.atName
      let r ← holding [o'] (getAttr o' (Str.ofString "place") true)
      letTemporaryGo o o' r
      pure r)) Mine.aW) : EE c lo nw (.Attribute o (Str.ofString "place") pos) (It st.a) := fun s hs Q E q => by
  rw [he]
  refine wpAny_bind (ho s hs _ _ fun v s1 hv hs1 => ?_)
  cases hv
  refine wpAny_bind (wpAny_standAt (wpAny_bind (wpAny_holding ?_)))
  obtain ⟨od, pd, I⟩ := inst_at hs1 hr hx
  obtain ⟨p, rest, a1, a2, a3, a4⟩ := prop_place c.V.w
  obtain ⟨m, ns, F, N, k1, k2⟩ := hs1.opn
  obtain ⟨oi, ei, pi⟩ := hr.get hs1
  obtain ⟨ox, ex, px⟩ := hx.get hs1
  refine get_prop F ok.X0 I (pg_place _) (at109 _ (j := 1) rfl).2.1 a1 a2 a3 a4 ?_
  obtain ⟨p, loose, mean, mg, mb, TT, T0⟩ := ok.T
  obtain ⟨A₀, B⟩ := ok.B
  show codeAny _ (Ar c.V.dp (c.V.un + 1) (some []) (c.env :: c.V.outer)) _ _ _
  refine codeAny_mono (conM (fn_place c.V.w) (s := { s1 with toks := s1.toks + 1 }) (below_push (A' := Ar c.V.dp (c.V.un + 1) (some []) (c.env :: c.V.outer)) B F rfl ok.fn rfl) ok.X TT (Nat.lt_trans hdp (by decide)) (vs := [.ref r]) (Ps := [Is (.ref r)]) (.cons rfl .nil) rfl (nw₀ := []) (ob := fun _ => { cls := .none, data := .plain }) Led.nil (fun _ h => nomatch h) List.nodup_nil (Er := fun _ => False) (KR := fun P nw' => P = It st.a)
    fun V e1 e2 e3 e4 e5 okV => place_h okV (K := fun P nw' => P = It st.a) ⟨oi, e4 _ _ ei (fun h => nomatch h), pi⟩ ⟨ox, e4 _ _ ex (fun h => nomatch h), px⟩ rfl) fun r' s' z => ?_
  obtain ⟨h', tk', rfl, z⟩ := z
  rcases r' with e | (v | _ | _ | v)
  · cases e <;> first | exact z.elim | exact no_er z
  · exact z.elim
  · exact z.elim
  · exact z.elim
  · obtain ⟨kp, P, nw', rfl, ⟨t, rfl⟩, _⟩ := z
    refine wpAny_of_eq (a := .int st.a t) rfl ?_
    refine wpAny_bind (wpAny_letTemporaryGo (wpAny_pure (q _ _ ⟨t, rfl⟩ ?_)))
    exact hs1.grow (fun b o e => kp b o e (fun h => nomatch h))
end
end Mine
end
section
open PySem PySem.W PySem.Calls PyProof.Rows
set_option maxRecDepth 100000
set_option maxHeartbeats 4000000
namespace Mine
section
variable {c : Cx} {lo : Lo} {nw : Nw} {rest : List Stmt} {R : Fl → Lo → Nw → Prop}
theorem roHide {is : List Nat} {nw₀ : Nw} {s : Shared} (hs : St c lo nw s) (hp : is.map (nth nw) = nw₀.map some) {a : Addr} {P : AO} (h : Ro c nw is a P) : At (hideAll s.heap (adr nw₀)) a P := by
  rcases h with ⟨o, e, p⟩ | ⟨j, P', hj, ej, k⟩
  · refine ⟨o, hideAll_get _ (hs.base e) fun q => ?_, p⟩
    obtain ⟨i, Q', _, hi⟩ := pick_idx hp a q
    obtain ⟨_, _, _, _, h0⟩ := hs.has (nth_mem hi)
    dsimp only at h0
    rw [h0] at e; cases e
  · obtain ⟨o, e, p, _⟩ := hs.has (nth_mem ej)
    refine ⟨o, hideAll_get _ e fun q => ?_, k o p⟩
    obtain ⟨i, Q', hi, ei⟩ := pick_idx hp a q
    exact hj ((adr_inj hs.nodup ej ei) ▸ hi)
theorem CT.refused (ok : OkB c) (hout : frs c.V.outer = []) (hdp : c.V.dp < 800) (is ks : List Nat) (k : Nat) {nwr : Nw} {it d rd dx ba ll ld : Addr} {arr : Array UInt8} {kb : List Int} {win : Int} {S Se : IS} {lit dis fx : Value} {K : AV → Nw → Prop} (hp : is.map (nth nw) = (infW d dx ba rd ll ld arr win S lit dis fx []).map some)
    (hit : Ro c nw is it (InstP 238 d)) (hrd : Ro c nw is rd (InstP 109 dx)) (hll : TabA (Ro c nw is) ll lenT lenM 29) (hld : TabA (Ro c nw is) ld leastD moreD 30) (hf : FxF (Ro c nw is) S.inB S.fx lit dis fx) (hb : KBw.bInts arr = kb) (hlen : kb.length ≤ 2000) (hks : ∀ x ∈ kb, 0 ≤ x ∧ x < 256) (hw : Work kb win none S (.error Se))
    (kk : ∀ la lit dis fx, K (Is (.bool true)) ((d, infP rd ba ll ld win la Se.done lit dis Se.stored fx) :: (ba, BaP Se.out) :: nwr))
    (hnd : autoParam ((is ++ ks).Nodup) Mine.aD) (hk : autoParam (∀ i ∈ is ++ ks, i < k) Mine.aD) (he : autoParam (ks.filterMap (nth nw) ++ nw.drop k = nwr) Mine.aR) : CT c lo nw (.ref 292) [Is (.ref it)] K := fun vs hvs s hs Q q => by
  cases hvs with
  | cons h1 h2 =>
    cases h2; cases h1
    have z := keep_rest hp hs.nodup hnd hk
    rw [he] at z
    have hs0 := hs
    have ndw : (adr (infW d dx ba rd ll ld arr win S lit dis fx [])).Nodup := by rw [← fm_pick hp]; exact nodup_fm hs.nodup (List.nodup_append.mp hnd).1
    have hm0 := pick_mem hp
    obtain ⟨p, loose, mean, mg, mb, TT, T0⟩ := ok.T
    obtain ⟨A₀, B⟩ := ok.B
    obtain ⟨hh, tk, m, ob, rfl, F, l, N, oo, nd⟩ := hs
    have hsub : ∀ x ∈ (infW d dx ba rd ll ld arr win S lit dis fx []).map (fun e => (e.1, ob e.1)), x ∈ nw.map (fun e => (e.1, ob e.1)) := fun x hx => by
      obtain ⟨e, he, rfl⟩ := List.mem_map.mp hx
      exact List.mem_map.mpr ⟨e, hm0 e he, rfl⟩
    have ro : ∀ a P, Ro c nw is a P → At (hideAll hh [d, dx, ba]) a P := fun a P h => roHide hs0 hp h
    have con := refused_M (w := c.V.w) (s := { c.V.s₀ with heap := hh, toks := tk }) (below_push (A' := Ar c.V.dp c.V.un (some []) (c.env :: c.V.outer)) B F rfl ok.fn rfl) ok.X TT hdp ((led_of B F N (env := c.env) rfl).sub hsub) (fun e he => oo e (hm0 e he)) ndw (ro _ _ hit) (ro _ _ hrd) (hll.mono ro) (hld.mono ro) (hf.mono ro) hb hlen hks hw
    refine wpC_call (codeC_mono con fun r s' y => ?_)
    obtain ⟨h', tk', rfl, y⟩ := y
    rcases r with e | (v | _ | _ | v)
    · exact y.elim
    · exact y.elim
    · exact y.elim
    · exact y.elim
    obtain ⟨kp, sl, rfl, la, lit', dis', fx', ⟨od, ed, pd⟩, ⟨ob', eb, pb⟩⟩ := y
    have hfr : frs (c.env :: c.V.outer) = [c.V.L] := by rw [frs_cons (L := c.V.L) rfl, hout]
    have hN0 : ∀ e ∈ nw, e.1 ≠ c.V.L ∧ c.V.h₀.get? e.1 = none := fun e he => (N _ (List.mem_map.mpr ⟨e, he, rfl⟩)).2
    have h0 : ∀ a ∈ [d, dx, ba], a ≠ c.V.L ∧ c.V.h₀.get? a = none := fun a ha => by
      obtain ⟨x, hx, rfl⟩ := List.mem_map.mp (show a ∈ adr (infW d dx ba rd ll ld arr win S lit dis fx []) from ha)
      exact hN0 x (hm0 x hx)
    have F' : Fr c.V.h₀ c.V.L h' m := by
      refine ⟨?_, fun b o e => kp _ _ (F.keep b o e) (fun q => ?_) ?_, F.above⟩
      · obtain ⟨oL, es, ep, hL, hd', r⟩ := F.ns
        obtain ⟨sl, e2⟩ := sl c.V.L oL hL (by rw [hfr]; exact List.mem_singleton.mpr rfl) (by rw [hd']; intro vs x; cases x)
        exact ⟨_, es, ep, e2, hd', r⟩
      · rw [(h0 b q).2] at e; cases e
      · rw [hfr, List.mem_singleton]
        exact Nat.ne_of_lt (Nat.lt_of_lt_of_le (Heap.lt_size e) F.above)
    refine q _ _ _ _ (kk la lit' dis' fx') rfl (St.build F' l (fun e he => ?_) ?_)
    · rcases List.mem_cons.mp he with rfl | he
      · exact ⟨⟨od, ed, pd⟩, h0 _ (.head _)⟩
      rcases List.mem_cons.mp he with rfl | he
      · exact ⟨⟨ob', eb, pb⟩, h0 _ (.tail _ (.tail _ (.head _)))⟩
      · have z1 := z.1 e he
        have zN := N _ (List.mem_map.mpr ⟨e, z1.1, rfl⟩)
        exact ⟨⟨_, kp _ _ zN.1 z1.2 (by rw [hfr, List.mem_singleton]; exact zN.2.1), oo e z1.1⟩, zN.2⟩
    · have nin : ∀ a ∈ [d, dx, ba], a ∉ adr nwr := fun a ha q => by
        obtain ⟨x, hx, rfl⟩ := List.mem_map.mp q
        exact (z.1 x hx).2 ha
      refine List.nodup_cons.mpr ⟨fun q => ?_, List.nodup_cons.mpr ⟨nin ba (.tail _ (.tail _ (.head _))), z.2⟩⟩
      rcases List.mem_cons.mp q with q | q
      · have := (List.nodup_cons.mp ndw).1
        exact this (q ▸ .tail _ (.head _))
      · exact nin d (.head _) q
end
end Mine
end
section
open PySem PySem.W PySem.Calls PyProof.Rows
namespace Mine
noncomputable def byteL (l : List Int) : Prop := ∀ x ∈ l, 0 ≤ x ∧ x < 256
theorem byteL_app {a b : List Int} (h1 : byteL a) (h2 : byteL b) : byteL (a ++ b) := fun x hx => (List.mem_append.mp hx).elim (h1 x) (h2 x)
theorem byteL_getD {a : List Int} (h : byteL a) (k : Nat) : 0 ≤ a.getD k 0 ∧ a.getD k 0 < 256 := by
  by_cases hk : k < a.length
  · have e : a.getD k 0 = a[k] := by simp [List.getD, List.getElem?_eq_getElem hk]
    rw [e]; exact h _ (List.getElem_mem hk)
  · have e : a.getD k 0 = 0 := by simp [List.getD, List.getElem?_eq_none (Nat.le_of_not_lt hk)]
    rw [e]; decide
theorem byteL_copy {b : Int} : ∀ (n : Nat) {c : List Int}, byteL c → byteL (copyN b n c)
  | 0, _, h => h
  | n + 1, c, h => byteL_app (byteL_copy n h) fun x hx => by rw [List.mem_singleton.mp hx]; exact byteL_getD (byteL_copy n h) _
theorem byteL_item {it : Item} {c : List Int} (h : byteL c) (ok : it.ok c) : byteL (it.app c) := by
  cases it with
  | lit o => exact byteL_app h fun x hx => by rw [List.mem_singleton.mp hx]; exact ok
  | cp s b => exact byteL_copy _ h
theorem byteL_items : ∀ {l : List Item} {c : List Int}, byteL c → itemsOk c l → byteL (l.foldl Item.app c)
  | [], _, h, _ => h
  | it :: l, c, h, ok => byteL_items (l := l) (c := it.app c) (byteL_item h ok.1) ok.2
theorem byteL_blk {b : Blk} {c : List Int} (h : byteL c) (ok : b.ok c) : byteL (b.app c) := by
  cases b with
  | plain sm => exact byteL_app h fun x hx => by have := ok.2 x hx; omega
  | fixed l => exact byteL_items h ok
theorem byteL_blks : ∀ {l : List Blk} {c : List Int}, byteL c → blksOk c l → byteL (l.foldl Blk.app c)
  | [], _, h, _ => h
  | b :: l, c, h, ok => byteL_blks (l := l) (c := b.app c) (byteL_blk h ok.1) ok.2
theorem Wrote.bytes {st : WS} {bs : List Blk} (W : Wrote st bs) : byteL st.content := W.cont ▸ byteL_blks (fun x hx => nomatch hx) W.ok
theorem byteL_rep (n : Nat) {k : Int} (h : 0 ≤ k ∧ k < 256) : byteL (List.replicate n k) := fun x hx => by rw [List.eq_of_mem_replicate hx]; exact h
theorem whole_bytes {st : WS} {bs : List Blk} (W : Wrote st bs) (n : Nat) : byteL (List.replicate n 255 ++ octE st.bits ++ [122, 122]) :=
  byteL_app (byteL_app (byteL_rep n ⟨by decide, by decide⟩) (octE_byte W.b01)) fun x hx => by
    simp only [List.mem_cons, List.not_mem_nil, or_false] at hx
    rcases hx with rfl | rfl <;> decide
theorem cut_bytes {st : WS} {bs : List Blk} (W : Wrote st bs) (n : Nat) : byteL (List.replicate n 255 ++ (octE st.bits).dropLast) :=
  byteL_app (byteL_rep n ⟨by decide, by decide⟩) fun x hx => octE_byte W.b01 x (List.dropLast_subset _ hx)
theorem law_far {st : WS} {bs : List Blk} (W : Wrote st bs) {n : Nat} {win : Int} (hc : st.content.length ≤ 2000) (h0 : 0 ≤ win) (hf : win < st.back) :
    ∃ Se, Work (List.replicate n 255 ++ octE st.bits ++ [122, 122]) win none (s0 n) (.error Se) ∧ (∃ e, st.content = Se.out ++ e) ∧ Se.out.length < st.content.length := by
  obtain ⟨tl, V, _⟩ := valid_whole W n
  obtain ⟨Se, h1, _, h3, h4⟩ := work_bad (win := win) (whole_bytes W n) hc V (fun q => absurd rfl q) (.inr (((W.far.1 win).mp hf).resolve_left (by lia)))
  exact ⟨Se, h1, h3, h4 rfl⟩
theorem law_cut {st : WS} {bs : List Blk} (W : Wrote st bs) {n : Nat} {win : Int} (hc : st.content.length ≤ 2000) :
    ∃ Se, Work (List.replicate n 255 ++ (octE st.bits).dropLast) win none (s0 n) (.error Se) ∧ Se.done = false ∧ (∃ e, st.content = Se.out ++ e) := by
  obtain ⟨X, tl, V, h1, h2⟩ := valid_cut W n
  obtain ⟨Se, a, b, c, _⟩ := work_bad (win := win) (cut_bytes W n) hc V (fun _ => h2) (.inl h1)
  exact ⟨Se, a, b, c⟩
noncomputable def LawS (st : WS) (n : Nat) (win : Int) (S : IS) : Prop := ∃ tl, 16 ≤ tl.length ∧ tl.length < 24 ∧ OkS (List.replicate n 255 ++ octE st.bits ++ [122, 122]) tl st.content win (st.back = 0) S
theorem law_start {st : WS} {bs : List Blk} (W : Wrote st bs) {n : Nat} {win : Int} (hf : ¬ win < st.back) : LawS st n win (s0 n) := by
  obtain ⟨tl, V, h1, h2⟩ := valid_whole W n
  exact ⟨tl, h1, h2, .inl ⟨_, _, V, fun h => hf ((W.far.1 win).mpr (.inr h)), W.far.2.2 (Int.le_refl _)⟩⟩
theorem LawS.some {st : WS} {bs : List Blk} {n : Nat} {win : Int} {S : IS} (h : LawS st n win S) (W : Wrote st bs) (hc : st.content.length ≤ 2000) (k : Int) :
    ∃ S', Work (List.replicate n 255 ++ octE st.bits ++ [122, 122]) win (some k) S (.ok S') ∧ LawS st n win S' ∧ (∃ e, st.content = S'.out ++ e) ∧ S.out.length ≤ S'.out.length ∧ (k ≤ S'.out.length ∨ S'.out.length = st.content.length) ∧
      ((S'.out.length : Int) ≤ k + 9 ∨ S'.out.length = S.out.length) ∧ (st.back = 0 → (S'.out.length : Int) ≤ k ∨ S'.out.length = S.out.length) := by
  obtain ⟨tl, h1, h2, h⟩ := h
  obtain ⟨S', a, b, c⟩ := work_some (k := k) (whole_bytes W n) hc h
  exact ⟨S', a, ⟨tl, h1, h2, b⟩, c⟩
theorem LawS.none {st : WS} {bs : List Blk} {n : Nat} {win : Int} {S : IS} (h : LawS st n win S) (W : Wrote st bs) (hc : st.content.length ≤ 2000) :
    ∃ S', Work (List.replicate n 255 ++ octE st.bits ++ [122, 122]) win none S (.ok S') ∧ S'.out = st.content ∧ S'.done = true ∧ S'.rs.a = (n : Int) + (octE st.bits).length := by
  obtain ⟨tl, h1, h2, h⟩ := h
  obtain ⟨S', a, b⟩ := work_none (whole_bytes W n) hc h
  refine ⟨S', a, b.2.1, b.1, ?_⟩
  rw [done_place b h1 h2]
  simp only [List.length_append, List.length_replicate, List.length_cons, List.length_nil]
  lia
theorem turn_tests {o0 o1 c k : Int} (h0 : o0 ≤ o1) (hc : o1 ≤ c) (h1 : k ≤ o1 ∨ o1 = c) (h2 : o1 ≤ k + 9 ∨ o1 = o0) : ¬ o1 < (if c < k then c else k) ∧ ¬ o1 > (if k + 9 > o0 then k + 9 else o0) := by
  constructor <;> split <;> omega
theorem turn_last {o0 o1 c k : Int} (h0 : o0 ≤ o1) (hc : o1 ≤ c) (h1 : k ≤ o1 ∨ o1 = c) (h2 : o1 ≤ k ∨ o1 = o0) : o1 = (if (if c < k then c else k) > o0 then (if c < k then c else k) else o0) := by
  split <;> split at * <;> lia
theorem content_pre {fin out e : List Int} (h : fin = out ++ e) : fin.take out.length = out ∧ out.length ≤ fin.length := by
  subst h; simp
end Mine
end
section
open PySem PySem.W PySem.Calls PyProof.Rows
set_option maxRecDepth 100000
set_option maxHeartbeats 4000000
namespace Mine
theorem bInts_inj {a b : Array UInt8} (h : KBw.bInts a = KBw.bInts b) : a = b := by
  unfold KBw.bInts at h
  apply Array.ext'
  have : ∀ {l r : List UInt8}, (l.map fun c => (c.toNat : Int)) = r.map (fun c => (c.toNat : Int)) → l = r := by
    intro l
    induction l with
    | nil => intro r h; cases r with | nil => rfl | cons _ _ => simp at h
    | cons x l ih =>
      intro r h
      cases r with
      | nil => simp at h
      | cons y r =>
        simp only [List.map_cons, List.cons.injEq] at h
        rw [ih h.2]
        have : x.toNat = y.toNat := by lia
        rw [UInt8.toNat_inj.mp this]
  exact this h
theorem win_ok (k : Nat) : 0 ≤ ([8, 8, 8, 3] : List Int).getD k 0 ∧ ([8, 8, 8, 3] : List Int).getD k 0 ≤ 8 := by
  by_cases h : k < 4
  · have : k = 0 ∨ k = 1 ∨ k = 2 ∨ k = 3 := by lia
    rcases this with rfl | rfl | rfl | rfl <;> decide
  · have e : ([8, 8, 8, 3] : List Int)[k]? = none := by simp; omega
    rw [List.getD, e]; decide
theorem gl_inf (w : World) : nsIn (HA.hd.heap_1_39 w.params) mainGlobals (Str.ofString "Inflater") = some (some (.ref 238)) := by k_is
theorem kp_inf (w : World) : keepIn (HA.hd.heap_1_39 w.params) (.ref 238) = true := by k_is
theorem gl_refu (w : World) : nsIn (HA.hd.heap_1_39 w.params) mainGlobals (Str.ofString "_law_is_refused") = some (some (.ref 292)) := by k_is
theorem kp_refu (w : World) : keepIn (HA.hd.heap_1_39 w.params) (.ref 292) = true := by k_is
theorem gl_loct (w : World) : nsIn (HA.hd.heap_1_39 w.params) mainGlobals (Str.ofString "_law_octets") = some (some (.ref 280)) := by k_is
theorem kp_loct (w : World) : keepIn (HA.hd.heap_1_39 w.params) (.ref 280) = true := by k_is
theorem gl_ldeck (w : World) : nsIn (HA.hd.heap_1_39 w.params) mainGlobals (Str.ofString "_law_deck") = some (some (.ref 247)) := by k_is
theorem kp_ldeck (w : World) : keepIn (HA.hd.heap_1_39 w.params) (.ref 247) = true := by k_is
theorem gl_lblk (w : World) : nsIn (HA.hd.heap_1_39 w.params) mainGlobals (Str.ofString "_law_block") = some (some (.ref 285)) := by k_is
theorem kp_lblk (w : World) : keepIn (HA.hd.heap_1_39 w.params) (.ref 285) = true := by k_is
section
variable {c : Cx} {lo : Lo} {nw : Nw} {rest : List Stmt} {R : Fl → Lo → Nw → Prop}
theorem EE.byBa (ok : OkB c) {xp pos : Pos} {e : Expr} {a : Addr} {out : List Int} (ha : EE c lo nw e (Is (.ref a))) (hi : In c nw a (BaP out)) (hl : out.length ≤ 1000000)
    (he : autoParam (starEach [e] c.env = (false, eval e c.env) :: starEach [] c.env) Mine.aR)
    (hc : autoParam (eval (.Call (.Name (Str.ofString "bytes") xp) [e] [] pos) c.env = (do callWith pos (← eval (.Name (Str.ofString "bytes") xp) c.env) [] (backTo pos (starEach [e] c.env)) (backToKw pos (keywordEach [] c.env)))) Mine.aR) (hk : autoParam (c.S.sc.names.lookup (Str.ofString "bytes") = some .globalImplicit) Mine.aK) : EE c lo nw (.Call (.Name (Str.ofString "bytes") xp) [e] [] pos) (ByI out) := fun s hs Q E q => by
  refine Call_ (EE.blt ok (gl_bytes _) boot_bytes hk (by decide +kernel) (by decide +kernel) s hs _ _ fun v s1 hv hs1 => ?_) hc
  cases hv
  refine PySem.Pv.callWith_type1 (args_cons (ha s1 hs1 _ _ fun v s2 hv hs2 => args_nil ?_) he) he rfl
  cases hv
  obtain ⟨o, e, arr, rfl, hA⟩ := hi.get hs2
  have hsz : arr.size = out.length := by rw [← hA]; simp [KBw.bInts]
  exact ba_bytes e (by rw [sizeLine_eq]; lia) (q _ _ ⟨arr, _, rfl, hA⟩ hs2.tok)
theorem EE.byI {e : Expr} {arr : Array UInt8} {ks : List Int} (h : EE c lo nw e (By arr)) (hk : KBw.bInts arr = ks) : EE c lo nw e (ByI ks) := h.imp fun v ⟨t, e⟩ => ⟨arr, t, e, hk⟩
theorem EE.byC {x : List UInt8} {k : Nat} {pos : Pos} : EE c lo nw (.Constant (.bytes x) k pos) (By x.toArray) := fun s hs Q E q => Constant_bytes (q _ _ ⟨_, rfl⟩ hs.tok)
theorem EK.addB {a b : Expr} {pos : Pos} {p r : Array UInt8} {K : AV → Nw → Prop} (ha : EK c lo nw a fun P nw1 => P = By p ∧ EE c lo nw1 b (By r) ∧ (KBw.bInts p).length + (KBw.bInts r).length ≤ 1000000 ∧ K (By (p ++ r)) nw1) : EK c lo nw (.BinOp a .Add b pos) K := fun s hs Q q =>
  wpAny_BinOp (ha s hs _ fun P nw1 v s1 ⟨eP, hb, hl, k⟩ hv hs1 => hb s1 hs1 _ _ fun v2 s2 hv2 hs2 => by
    subst eP
    obtain ⟨t, rfl⟩ := hv
    obtain ⟨u, rfl⟩ := hv2
    exact KBa.add_K rfl rfl (by lia) fun t' tk _ => q _ _ _ _ k ⟨_, rfl⟩ hs2.tok)
theorem EE.addB {a b : Expr} {pos : Pos} {p r : Array UInt8} (ha : EE c lo nw a (By p)) (hb : EE c lo nw b (By r)) (hl : (KBw.bInts p).length + (KBw.bInts r).length ≤ 1000000) : EE c lo nw (.BinOp a .Add b pos) (By (p ++ r)) := fun s hs Q E q =>
  wpAny_BinOp (ha s hs _ _ fun v s1 hv hs1 => hb s1 hs1 _ _ fun v2 s2 hv2 hs2 => by
    obtain ⟨t, rfl⟩ := hv
    obtain ⟨u, rfl⟩ := hv2
    exact KBa.add_K rfl rfl (by lia) fun t' tk _ => q _ _ ⟨_, rfl⟩ hs2.tok)
theorem EE.cutB {o e : Expr} {pos p : Pos} {arr : Array UInt8} {b : Int} (ho : EE c lo nw o (By arr)) (he : EE c lo nw e (It b)) (hl : (KBw.bInts arr).length ≤ 1000000)
    (hs1 : autoParam (∀ t (z : Addr), subscripted (.Slice Option.none (some e) Option.none p) false (.bytes arr t) (.ref z) = operate [.ref z, .bytes arr t] (getItem (.bytes arr t) (.ref z))) Mine.aW2) (ht : autoParam (∀ t r, letTemporaryGo o (.bytes arr t) r = pure ()) Mine.aW2) :
    EE c lo nw (.Subscript o (.Slice Option.none (some e) Option.none p) pos) (By (KBy.picked arr Option.none (some b))) := fun s hs Q E q =>
  Subscript_ (ho s hs _ _ fun v s1 hv hs1' => wpAny_Slice (evalPart_none_step (evalPart_some_step (he s1 hs1' _ _ fun v2 s2 hv2 hs2' => evalPart_none_step (by
    obtain ⟨t, rfl⟩ := hv
    obtain ⟨u2, rfl⟩ := hv2
    obtain ⟨m, ns, F, N, k1, k2⟩ := hs2'.opn
    exact KBc.slice_K F N rfl .none (.int b u2) (Nat.le_trans hl (by decide)) (fun h' t' k F' N' e => q _ _ ⟨_, rfl⟩ (k1 h' k F' N')) (hs1 _ _) (ht _))))))
theorem EE.preB {o e : Expr} {pos p : Pos} {arr : Array UInt8} {ks : List Int} {b : Nat} (ho : EE c lo nw o (By arr)) (he : EE c lo nw e (It b)) (hk : KBw.bInts arr = ks) (hl : ks.length ≤ 1000000)
    (hs1 : autoParam (∀ t (z : Addr), subscripted (.Slice Option.none (some e) Option.none p) false (.bytes arr t) (.ref z) = operate [.ref z, .bytes arr t] (getItem (.bytes arr t) (.ref z))) Mine.aW2) (ht : autoParam (∀ t r, letTemporaryGo o (.bytes arr t) r = pure ()) Mine.aW2) :
    EE c lo nw (.Subscript o (.Slice Option.none (some e) Option.none p) pos) (ByI (ks.take b)) := (EE.cutB ho he (by rw [hk]; exact hl) hs1 ht).byI (by
  rw [KBc.ints_picked hk]
  show List.take (clipAt ks.length (b : Int) - 0) (List.drop 0 ks) = _
  rw [List.drop_zero, Nat.sub_zero, clipAt_nat, ← List.take_eq_take_min])
theorem EE.lenBI {x : Str} {xp pos : Pos} {e : Expr} {ks : List Int} (hf : EE c lo nw (.Name x xp) (Is (.builtin "len"))) (ha : EE c lo nw e (ByI ks)) (hl : ks.length ≤ 1000000)
    (he : autoParam (starEach [e] c.env = (false, eval e c.env) :: starEach [] c.env) Mine.aR)
    (hc : autoParam (eval (.Call (.Name x xp) [e] [] pos) c.env = (do callWith pos (← eval (.Name x xp) c.env) [] (backTo pos (starEach [e] c.env)) (backToKw pos (keywordEach [] c.env)))) Mine.aR) : EE c lo nw (.Call (.Name x xp) [e] [] pos) (It ks.length) := fun s hs Q E q => by
  refine Call_ (hf s hs _ _ fun v s1 hv hs1 => ?_) hc
  cases hv
  refine PyProof.Rows.callWith_builtin1 (args_cons (ha s1 hs1 _ _ fun v s2 hv hs2 => args_nil ?_) he) he rfl
  obtain ⟨arr, t, rfl, hk⟩ := hv
  exact KBw.len_K hk (by lia) (q _ _ ⟨_, rfl⟩ hs2.tok)
theorem arr_beq {a b : Array UInt8} {ks ls : List Int} (ha : KBw.bInts a = ks) (hb : KBw.bInts b = ls) : (a.toList == b.toList) = decide (ks = ls) := by
  by_cases h : ks = ls
  · rw [decide_eq_true h, show a = b from bInts_inj (ha.trans (h.trans hb.symm))]; exact beq_self_eq_true _
  · rw [decide_eq_false h]
    refine beq_eq_false_iff_ne.mpr fun q => h ?_
    rw [← ha, ← hb, Array.ext' q]
theorem EE.eqB {a b : Expr} {pos : Pos} {ks ls : List Int} (ha : EE c lo nw a (ByI ks)) (hb : EE c lo nw b (ByI ls)) (hm : autoParam (behindInMarks .Eq b = false) Mine.aW) : EE c lo nw (.Compare a [.Eq] [b] pos) (Is (.bool (decide (ks = ls)))) := fun s hs Q E q =>
  wpAny_Compare1 (ha s hs _ _ fun v s1 hv hs1 => hb s1 hs1 _ _ fun v2 s2 hv2 hs2 => by
    obtain ⟨p, t, rfl, hp⟩ := hv
    obtain ⟨r, u, rfl, hr⟩ := hv2
    exact eq_bytes (q _ _ (by rw [arr_beq hp hr]; rfl) hs2)) hm
theorem Tv.neB {a b : Expr} {pos : Pos} {ks ls : List Int} (ha : EE c lo nw a (ByI ks)) (hb : EE c lo nw b (ByI ls)) (hm : autoParam (behindInMarks .NotEq b = false) Mine.aW) : Tv c lo nw (.Compare a [.NotEq] [b] pos) (!(decide (ks = ls))) := fun s hs Q E q =>
  wpAny_isTrue_Compare1 (ha s hs _ _ fun v s1 hv hs1 => hb s1 hs1 _ _ fun v2 s2 hv2 hs2 => by
    obtain ⟨p, t, rfl, hp⟩ := hv
    obtain ⟨r, u, rfl, hr⟩ := hv2
    exact ne_bytes (wpAny_truthy_bool (q _ _ (by show (!(p.toList == r.toList)) = _; rw [arr_beq hp hr]) hs2))) hm
theorem EE.cmp {a b : Expr} {op : CmpOp} {pos : Pos} {x y : Int} {r : Bool} (ha : EE c lo nw a (It x)) (hb : EE c lo nw b (It y)) (ho : CpI c.V.w op x y r) (hm : autoParam (behindInMarks op b = false) Mine.aW) : EE c lo nw (.Compare a [op] [b] pos) (Is (.bool r)) := fun s hs Q E q =>
  wpAny_Compare1 (ha s hs _ _ fun v s1 ⟨t, e⟩ hs1 => hb s1 hs1 _ _ fun v2 s2 ⟨u, e'⟩ hs2 => by subst e; subst e'; exact ho _ _ _ _ _ _ (q _ _ rfl hs2)) hm
theorem EE.not {a : Expr} {pos : Pos} {b : Bool} (ha : EE c lo nw a (Is (.bool b))) : EE c lo nw (.UnaryOp .Not a pos) (Is (.bool (!b))) := fun s hs Q E q =>
  UnaryOp_ (ha s hs _ _ fun v s1 hv hs1 => by cases hv; exact not_of (wpAny_truthy_bool (q _ _ rfl hs1)))
theorem EE.and1 {a : Expr} {pos : Pos} {P : AV} (ha : EE c lo nw a P) : EE c lo nw (.BoolOp .And [a] pos) P := fun s hs Q E q => BoolOp_one (ha s hs Q E q)
theorem EE.and {a b : Expr} {rest : List Expr} {pos : Pos} {P : AV} (ha : EE c lo nw a (Is (.bool true))) (hb : EE c lo nw (.BoolOp .And (b :: rest) pos) P) : EE c lo nw (.BoolOp .And (a :: b :: rest) pos) P := fun s hs Q E q =>
  BoolOp_and (ha s hs _ _ fun v s1 hv hs1 => by cases hv; exact wpAny_truthy_bool (by rw [if_pos rfl]; exact hb s1 hs1 Q E q))
theorem EE.min {x : Str} {xp pos : Pos} {e1 e2 : Expr} {a b : Int} (hf : EE c lo nw (.Name x xp) (Is (.builtin "min"))) (h1 : EE c lo nw e1 (It a)) (h2 : EE c lo nw e2 (It b))
    (he1 : autoParam (starEach [e1, e2] c.env = (false, eval e1 c.env) :: starEach [e2] c.env) Mine.aR) (he2 : autoParam (starEach [e2] c.env = (false, eval e2 c.env) :: starEach [] c.env) Mine.aR) (hp : autoParam (((backTo pos (starEach [e2] c.env)).any fun x => x.1) = false) Mine.aR)
    (hc : autoParam (eval (.Call (.Name x xp) [e1, e2] [] pos) c.env = (do callWith pos (← eval (.Name x xp) c.env) [] (backTo pos (starEach [e1, e2] c.env)) (backToKw pos (keywordEach [] c.env)))) Mine.aR) : EE c lo nw (.Call (.Name x xp) [e1, e2] [] pos) (It (if b < a then b else a)) := fun s hs Q E q => by
  refine Call_ (hf s hs _ _ fun v s1 hv hs1 => ?_) hc
  cases hv
  refine PyProof.Rows.callWith_builtin1 (args_cons (h1 s1 hs1 _ _ fun v s2 hv hs2 => args_cons (h2 s2 hs2 _ _ fun v' s3 hv' hs3 => args_nil ?_) he2) he1) he1 hp
  obtain ⟨t, rfl⟩ := hv
  obtain ⟨u, rfl⟩ := hv'
  obtain ⟨m, nn, F, N, k1, k2⟩ := hs3.opn
  exact min_two_N rfl F N fun h' tk F' N' => q _ _ ⟨_, rfl⟩ (k1 h' tk F' N')
end
end Mine
end
section
open PySem PySem.W PySem.Calls PyProof.Rows
set_option maxRecDepth 100000
set_option maxHeartbeats 4000000
namespace Mine
section
variable {c : Cx} {lo : Lo} {nw : Nw} {rest : List Stmt} {R : Fl → Lo → Nw → Prop}
theorem ET.callG (ok : OkB c) {x : Str} {xp pos : Pos} {e : Expr} {es : List Expr} {f : Value} {K : AV → Nw → Prop} (hf : EE c lo nw (.Name x xp) (Is f)) (hk : keepIn (HA.hd.heap_1_39 c.V.w.params) f = true) (h : EvA c lo nw pos (e :: es) fun Ps nw1 => CT c lo nw1 f Ps K)
    (he : autoParam (backTo pos (starEach (e :: es) c.env) = (false, eval e c.env) :: backTo pos (starEach es c.env)) Mine.aR) (hp : autoParam ((backTo pos (starEach (e :: es) c.env)).any (·.1) = false) Mine.aR) : EvT c lo nw (eval (.Call (.Name x xp) (e :: es) [] pos) c.env) K := fun s hs Q q =>
  wpC_NameCall (hf s hs _ _ fun v s1 hv hs1 => by
    cases hv
    refine wpC_K_args (K := HA.hd.heap_1_39 c.V.w.params) hk (h s1 hs1 _ fun Ps nw1 vs s2 h2 hPs hs2 => ⟨⟨?_, trivial⟩, ?_⟩) he hp
    · obtain ⟨m, ns, F, N, _⟩ := hs2.opn
      exact ok.X0.keeps F.keep
    · exact h2 _ hPs s2 hs2 Q q)
theorem Ex.asgT (ok : Ok c) (hb : c.S.b = true) {i : Nat} {x : Str} {e : Expr} {p pos : Pos} (hn : nth c.S.nm i = some x) (h : EvT c lo nw (eval e c.env) fun P nw1 => Ex c (put lo i (some P)) nw1 rest R) (hw : autoParam (swapsWith e (some (.Name x p)) pos.line c.env = pure false) Mine.aR) : Ex c lo nw (.Assign [.Name x p] e pos :: rest) R := fun s hs Q q =>
  wpM_execs_cons (wpM_ofC hb (wpC_Assign_Name (h s hs _ fun P nw' v s' k hP hs' => stK ok hs' hn hP fun s'' hs'' => k s'' hs'' Q q) hw))
theorem Ex.retT (hb : c.S.b = true) {e : Expr} {pos : Pos} (h : EvT c lo nw (eval e c.env) fun P nw1 => R (.ret P) lo nw1) : Ex c lo nw (.Return (some e) pos :: rest) R := fun s hs Q q =>
  wpM_execs_cons (wpM_ofC hb (wpC_Return (h s hs _ fun P nw' v s' k hP hs' => q _ _ _ _ _ k ⟨v, rfl, hP⟩ hs')))
theorem ET.and {x y : Expr} {es : List Expr} {pos : Pos} {P2 : AV} {K : AV → Nw → Prop} (h : EvT c lo nw (eval x c.env) fun P nw1 => P = Is (.bool true) ∧ EE c lo nw1 (.BoolOp .And (y :: es) pos) P2 ∧ K P2 nw1) : EvT c lo nw (eval (.BoolOp .And (x :: y :: es) pos) c.env) K := fun s hs Q q =>
  wpC_And (h s hs _ fun P nw1 v s1 ⟨eP, hb, k⟩ hP hs1 => by
    subst eP; cases hP
    exact wpAny_truthy_bool (by rw [if_pos rfl]; exact hb s1 hs1 _ _ fun v2 s2 hv2 hs2 => q _ _ _ _ k hv2 hs2))
theorem Ex.tupT (ok : Ok c) (hb : c.S.b = true) {elts : List Expr} {x y : Expr} {k k' : Nat} {tpos vpos pos : Pos} {names : List Str} (is : List Nat) (hi : is.map (nth c.S.nm) = names.reverse.map some) {P2 : AV}
    (h : EvT c lo nw (eval x c.env) fun P nw1 => names.length = 2 ∧ EE c lo nw1 y P2 ∧ Ex c (puts lo is [P2, P]) nw1 rest R)
    (he : autoParam (starEach [x, y] c.env = [(false, eval x c.env), (false, eval y c.env)]) Mine.aR) (hs1 : autoParam (swapsWithSole [.Tuple elts k tpos] (.Tuple [x, y] k' vpos) pos.line c.env = pure false) Mine.aR) (hw : autoParam (swappedStores [.Tuple elts k tpos] (.Tuple [x, y] k' vpos) c.env = pure (some names)) Mine.aR) : Ex c lo nw (.Assign [.Tuple elts k tpos] (.Tuple [x, y] k' vpos) pos :: rest) R := fun s hs Q q =>
  wpM_execs_cons (wpM_ofC hb (wpC_Assign_swapped (wpC_Tuple2 (h s hs _ fun P nw1 v s1 ⟨hl, h2, kk⟩ hP hs1 => h2 s1 hs1 _ _ fun u s2 hu hs2 => by
    obtain ⟨m, ns, F, N, k1, k2⟩ := hs2.opn
    refine kup_newTuple F N (fun D h' F' N' lt => ?_) (by rw [sizeLine_eq]; exact (by decide : 2 ≤ 16777216))
    refine unpackItemsN_ F' N' (News.isTup N' (.head _)) rfl (by rw [hl]; rfl) fun h'' F'' N'' => ?_
    have hs3 := k1 h'' s2.toks F'' (fun p hp => N'' p (.tail _ hp))
    exact names_in ok names.reverse hs3 hi (Ps := [P2, P]) (.cons hu (.cons hP .nil)) ((show names.reverse.length = 2 by rw [List.length_reverse]; exact hl).symm) fun s' hs' => kk s' hs' Q q) he) hs1 hw))
theorem CT.callY (ok : OkB c) {f : Addr} {n : Nat} {Body : Vx → List AV → Nw → (AV → Nw → Prop) → Prop} (cal : Callee true c.V.w f n Body) (hdp : c.V.dp < 990) {Ps : List AV} (hn : Ps.length = n) (is ks : List Nat) (k : Nat) {nw₀ nwr : Nw} (hp : is.map (nth nw) = nw₀.map some) {K : AV → Nw → Prop}
    (h : ∀ V : Vx, V.w = c.V.w → V.dp = c.V.dp + 1 → V.un = c.V.un + 3 → (∀ a P, Ro c nw is a P → ∃ o, V.h₀.get? a = some o ∧ P o) → Body V Ps nw₀ (BY K nwr))
    (hnd : autoParam ((is ++ ks).Nodup) Mine.aD) (hk : autoParam (∀ i ∈ is ++ ks, i < k) Mine.aD) (he : autoParam (ks.filterMap (nth nw) ++ nw.drop k = nwr) Mine.aR) : CT c lo nw (.ref f) Ps K := fun vs hvs s hs Q q =>
  call_core0 (b := true) ok cal hdp hvs hn is hp (List.nodup_append.mp hnd).1 (Er := fun _ => False) (fun V e1 e2 e3 e4 _ => h V e1 e2 e3 e4) hs (E := c.V.E) (fun P nw' v s' hK hv hst => q P _ v s' hK hv (by
    have z := keep_rest hp hs.nodup hnd hk
    rw [he] at z
    exact (hst nwr z.1 z.2).swap)) (fun _ _ _ R => no_er R)
noncomputable abbrev MemF (T : Nw) (a : Addr) (P : AO) : Prop := (a, P) ∈ T
noncomputable abbrev infT (it d rd dx ba ll ld : Addr) (arr : Array UInt8) (a win : Int) (X : Nw) : Nw := (it, InstP 238 d) :: (ba, BaP []) :: (rd, InstP 109 dx) :: (dx, RdP arr ⟨a, 0, 0⟩) :: (d, infP rd ba ll ld win false false .none .none 0 .none) :: X
theorem CT.inf (ok : OkB c) (hdp : c.V.dp < 820) {arr : Array UInt8} {a win : Int} (ks : List Nat) (k : Nat) {nwr : Nw} {K : AV → Nw → Prop} (kk : ∀ it d rd dx ba ll ld X, TabA (MemF X) ll lenT lenM 29 → TabA (MemF X) ld leastD moreD 30 → K (Is (.ref it)) (nwr ++ infT it d rd dx ba ll ld arr a win X))
    (hnd : autoParam (([] ++ ks).Nodup) Mine.aD) (hk : autoParam (∀ i ∈ [] ++ ks, i < k) Mine.aD) (he : autoParam (ks.filterMap (nth nw) ++ nw.drop k = nwr) Mine.aR) : CT c lo nw (.ref 238) [By arr, It a, It win] K :=
  CT.callY ok (mkM (mk238 _) (in238 _) (ty192 _) (conM (fn_iinit _))) (Nat.lt_trans hdp (by decide)) rfl [] ks k (nw₀ := []) rfl (fun V' e1 e2 e3 ro => ⟨dpL e2 hdp (by decide), fun it d hit okV => iinit_h okV (dpL2 e2 hdp (by decide)) ⟨_, hit, rfl⟩ fun rd dx ba ll ld X h1 h2 => ⟨fun _ h => h, kk it d rd dx ba ll ld X h1 h2⟩⟩) hnd hk he
section
variable {F₀ : Addr → AO → Prop} {is : List Nat} {it d rd dx ba ll ld : Addr} {arr : Array UInt8} {kb : List Int} {win : Int} {most : Option Int} {S S' : IS} {lit dis fx : Value} {K : AV → Nw → Prop}
theorem work_b {V : Vx} (hF₀ : ∀ a P, F₀ a P → Ro c nw is a P) (hdp : c.V.dp < 820) (hp : is.map (nth nw) = (infW d dx ba rd ll ld arr win S lit dis fx []).map some)
    (hit : Ro c nw is it (InstP 238 d)) (hrd : Ro c nw is rd (InstP 109 dx)) (hll : TabA F₀ ll lenT lenM 29) (hld : TabA F₀ ld leastD moreD 30) (hf : FxF F₀ S.inB S.fx lit dis fx) (hb : KBw.bInts arr = kb) (hlen : kb.length ≤ 2000) (hks : ∀ x ∈ kb, 0 ≤ x ∧ x < 256) (hw : Work kb win most S (.ok S'))
    (kk : ∀ T lit dis fx, FxF (TlF F₀ T) S'.inB S'.fx lit dis fx → K (Is .none) (wb nw is [infP rd ba ll ld win S'.last S'.done lit dis S'.stored fx, RdP arr S'.rs, BaP S'.out] ++ T))
    (e2 : V.dp = c.V.dp + 1) (ro : ∀ a P, Ro c nw is a P → ∃ o, V.h₀.get? a = some o ∧ P o) (okV : Ok ⟨sWork, V⟩) : Ex ⟨sWork, V⟩ [some (Is (.ref it)), some (mostA most)] (infW d dx ba rd ll ld arr win S lit dis fx []) (bodyF 200) (fun fl _ nw' => Back nw (infW d dx ba rd ll ld arr win S lit dis fx []) is K fl.av nw') := by
  have h3 : 3 = is.length := by have := congrArg List.length hp; simpa using this.symm
  exact work_h (F₀ := F₀) (r := .ok S') okV (fun a P h => ro a P (hF₀ a P h)) (dpL e2 hdp (by decide)) (ro _ _ hit) (ro _ _ hrd) (hll.mono fun a P h => ro a P (hF₀ a P h)) (hld.mono fun a P h => ro a P (hF₀ a P h)) hb hlen hks (K := Back nw (infW d dx ba rd ll ld arr win S lit dis fx []) is K)
    (fun S2 T lit dis fx hr h => by cases hr; exact ⟨[], [_, _, _], T, rfl, h3, kk T lit dis fx h⟩) (fun S2 hr => nomatch hr) hw (hf.mono fun a P h => .inl h)
theorem CT.work2 (ok : Ok c) (hdp : c.V.dp < 820) (hF₀ : ∀ a P, F₀ a P → Ro c nw is a P) (hp : is.map (nth nw) = (infW d dx ba rd ll ld arr win S lit dis fx []).map some)
    (hit : Ro c nw is it (InstP 238 d)) (hrd : Ro c nw is rd (InstP 109 dx)) (hll : TabA F₀ ll lenT lenM 29) (hld : TabA F₀ ld leastD moreD 30) (hf : FxF F₀ S.inB S.fx lit dis fx) (hb : KBw.bInts arr = kb) (hlen : kb.length ≤ 2000) (hks : ∀ x ∈ kb, 0 ≤ x ∧ x < 256) (hw : Work kb win most S (.ok S'))
    (kk : ∀ T lit dis fx, FxF (TlF F₀ T) S'.inB S'.fx lit dis fx → K (Is .none) (wb nw is [infP rd ba ll ld win S'.last S'.done lit dis S'.stored fx, RdP arr S'.rs, BaP S'.out] ++ T))
    (hnd : autoParam ((is ++ []).Nodup) Mine.aD) (hk : autoParam (∀ i ∈ is ++ [], i < 20) Mine.aD) : CT c lo nw (.ref 200) [Is (.ref it), mostA most] K :=
  CT.callB ok (conM (fn_work2 _)) (Nat.lt_trans hdp (by decide)) rfl is [] 20 hp (Er := fun _ => False) (fun V' e1 e2 e3 ro e5 okV => work_b hF₀ hdp hp hit hrd hll hld hf hb hlen hks hw kk e2 ro okV) (fun _ _ h => h.elim) hnd hk
theorem CT.work1 (ok : Ok c) (hdp : c.V.dp < 820) (hF₀ : ∀ a P, F₀ a P → Ro c nw is a P) (hp : is.map (nth nw) = (infW d dx ba rd ll ld arr win S lit dis fx []).map some)
    (hit : Ro c nw is it (InstP 238 d)) (hrd : Ro c nw is rd (InstP 109 dx)) (hll : TabA F₀ ll lenT lenM 29) (hld : TabA F₀ ld leastD moreD 30) (hf : FxF F₀ S.inB S.fx lit dis fx) (hb : KBw.bInts arr = kb) (hlen : kb.length ≤ 2000) (hks : ∀ x ∈ kb, 0 ≤ x ∧ x < 256) (hw : Work kb win none S (.ok S'))
    (kk : ∀ T lit dis fx, FxF (TlF F₀ T) S'.inB S'.fx lit dis fx → K (Is .none) (wb nw is [infP rd ba ll ld win S'.last S'.done lit dis S'.stored fx, RdP arr S'.rs, BaP S'.out] ++ T))
    (hnd : autoParam ((is ++ []).Nodup) Mine.aD) (hk : autoParam (∀ i ∈ is ++ [], i < 20) Mine.aD) : CT c lo nw (.ref 200) [Is (.ref it)] K :=
  CT.callB ok (conM (fn_work1 _)) (Nat.lt_trans hdp (by decide)) rfl is [] 20 hp (Er := fun _ => False) (fun V' e1 e2 e3 ro e5 okV => work_b (most := none) hF₀ hdp hp hit hrd hll hld hf hb hlen hks hw kk e2 ro okV) (fun _ _ h => h.elim) hnd hk
end
theorem Tv.orF {a : Expr} {es : List Expr} {pos : Pos} {x : Bool} (ha : Tv c lo nw a x) (hx : x = false) (hb : Tv c lo nw (.BoolOp .Or es pos) false) : Tv c lo nw (.BoolOp .Or (a :: es) pos) false := by subst hx; exact Tv.or ha fun _ => hb
theorem Tv.andF {a : Expr} {es : List Expr} {pos : Pos} {x : Bool} (ha : Tv c lo nw a x) (hb : x = true → Tv c lo nw (.BoolOp .And es pos) false) : Tv c lo nw (.BoolOp .And (a :: es) pos) false := by
  have := Tv.and ha hb
  rwa [Bool.and_false] at this
theorem Tv.and1 {a : Expr} {pos : Pos} {x : Bool} (ha : Tv c lo nw a x) : Tv c lo nw (.BoolOp .And [a] pos) x := by
  have := Tv.and ha (fun _ => Tv.andN (pos := pos))
  rwa [Bool.and_true] at this
theorem Ex.if0 {test : Expr} {body : List Stmt} {pos : Pos} (ht : Tv c lo nw test false) (h : Ex c lo nw rest R) : Ex c lo nw (.If test body [] pos :: rest) R := Ex.ifB ht (fun h => nomatch h) fun _ => Ex.nil (R := thn c rest R) h
end
end Mine
end
section
open PySem PySem.W PySem.Calls PyProof.Rows
set_option maxRecDepth 100000
set_option maxHeartbeats 4000000
namespace Mine
noncomputable def bodyOf : Stmt → List Stmt
  | .FunctionDef _ _ b _ _ _ _ _ _ _ => b
  | _ => []
noncomputable def scopeOf : Stmt → Scope
  | .FunctionDef _ _ _ _ _ _ sc _ _ _ => sc
  | _ => { kind := .function, names := [], isGenerator := false, isCoroutine := false }
noncomputable def ifOf : Stmt → List Stmt
  | .If _ b _ _ => b
  | _ => []
noncomputable def forOf : Stmt → List Stmt
  | .For _ _ b _ _ => b
  | _ => []
noncomputable def lastOf : List Stmt → Stmt
  | [] => .Pass default
  | s :: r => match r with
    | [] => s
    | _ :: _ => lastOf r
noncomputable def hdOf : List Stmt → Stmt
  | [] => .Pass default
  | s :: _ => s
noncomputable def lawStmt : Stmt := lastOf PySem.Challenge.pw_pb0114_01.main.body
noncomputable def bodyL : List Stmt := bodyOf lawStmt
noncomputable def sLaw : Sx := ⟨true, Str.ofString "law", scopeOf lawStmt, [Str.ofString "script", Str.ofString "deck", Str.ofString "w", Str.ofString "window", Str.ofString "many", Str.ofString "k", Str.ofString "octets", Str.ofString "due", Str.ofString "begin", Str.ofString "packed", Str.ofString "it", Str.ofString "ahead", Str.ofString "turn", Str.ofString "most", Str.ofString "was", Str.ofString "told", Str.ofString "cut"]⟩
theorem so_law : SOk sLaw := ⟨by kernel_rfl, by decide +kernel, by decide +kernel⟩
theorem Ro.tl {c : Cx} {T pre : Nw} {is : List Nat} {a : Addr} {P : AO} (hi : ∀ i ∈ is, i < pre.length) (h : (a, P) ∈ T) : Ro c (pre ++ T) is a P := by
  obtain ⟨j, e⟩ := nth_of_mem h
  have key : ∀ pre : Nw, nth (pre ++ T) (j + pre.length) = some (a, P) := by
    intro pre
    induction pre with
    | nil => exact e
    | cons x pre ih => exact ih
  exact .inr ⟨j + pre.length, P, fun q => absurd (hi _ q) (by lia), key pre, fun _ x => x⟩
theorem EE.bt {c : Cx} {lo : Lo} {nw : Nw} {e : Expr} {p : Prop} [Decidable p] (h : EE c lo nw e (Is (.bool (decide p)))) (hp : p) : EE c lo nw e (Is (.bool true)) := by
  rw [decide_eq_true hp] at h; exact h
theorem Tv.no {c : Cx} {lo : Lo} {nw : Nw} {e : Expr} {p : Prop} [Decidable p] (h : Tv c lo nw e (decide p)) (hp : ¬p) : Tv c lo nw e false := by
  rw [decide_eq_false hp] at h; exact h
theorem lst_base {c : Cx} {lo : Lo} {nw : Nw} {lx : Addr} {zs : List Int} (h : ∃ vs, c.V.h₀.IsList lx (List.toArray vs) ∧ IntsAre vs zs) : ∀ s, St c lo nw s → ∃ vs, s.heap.IsList lx (List.toArray vs) ∧ IntsAre vs zs := fun s hs => by
  obtain ⟨vs, ⟨o, e, p⟩, hI⟩ := h
  exact ⟨vs, ⟨o, hs.base e, p⟩, hI⟩
variable {V : Vx}
theorem law_a (ok : Ok ⟨sLaw, V⟩) (hdp : V.dp < 800) (hun : V.un < 8000) {lx : Addr} {zs : List Int} (hs : ∃ vs, V.h₀.IsList lx (List.toArray vs) ∧ IntsAre vs zs) (hz : zs.length ≤ 63) {R : Fl → Lo → Nw → Prop}
    (next : ∀ d cl dw b ct ns win mn, ns.length ≤ 60 → 0 ≤ win → win ≤ 8 → 1 ≤ mn → mn ≤ 3 → Ex ⟨sLaw, V⟩ [some (Is (.ref lx)), some (Is (.ref d)), some (Is (.ref dw)), some (It win), some (It mn), none, none, none, none, none, none, none, none, none, none, none, none] [(d, DeckP V.w cl 2), (cl, IntL ns), (dw, WP V.w b ct 0), (b, IntL []), (ct, IntL [])] (bodyL.drop 4) R) :
    Ex ⟨sLaw, V⟩ [some (Is (.ref lx)), none, none, none, none, none, none, none, none, none, none, none, none, none, none, none, none] [] bodyL R := by
  have okb := ok.toOkB
  have hd9 : V.dp < 990 := Nat.lt_trans hdp (by decide)
  have hu9 : V.un < 9700 := Nat.lt_trans hun (by decide)
  refine Ex.asg ok (i := 1) rfl (EK.callG ok (EE.glob okb (gl_ldeck _) (by kernel_rfl)) (kp_ldeck _) (EvA.cons (EvN.k (EvN.sliceL (EE.loc okb (i := 0) rfl rfl) EE.int (lst_base hs) (by decide) (by lia) fun D => EvA.nil (CN.k (CN.callZ okb (deckM _) hd9 rfl [0] [] 1 (nwr := []) (nw₀ := [(D, IntL (zs.take 48))]) rfl fun V' e1 e2 e3 ro => ⟨D, _, rfl, rfl, by rw [List.length_take]; lia, fun d cl ns hl => ?_⟩))))))
  rw [e1]
  refine @Ex.sel _ _ _ _ _ [(d, DeckP V.w cl 0), (cl, IntL ns)] [0, 1] 3 ?_ (by decide) (by decide) rfl
  refine @Ex.asg _ _ _ _ _ ok 2 _ _ _ _ rfl (@EK.dctG _ _ _ okb _ _ _ _ (fun dw => @EvP.cons _ _ _ _ _ _ _ _ _ _ _ (@EK.list _ _ _ _ _ _ (@EvA.nil _ _ _ _ _ ⟨[], rfl, by decide, fun b => @EvP.cons _ _ _ _ _ _ _ _ _ _ _ (@EK.list _ _ _ _ _ _ (@EvA.nil _ _ _ _ _ ⟨[], rfl, by decide, fun ct => @EvP.cons _ _ _ _ _ _ _ _ _ _ _ (Ev.k EE.int (@EvP.nil _ _ _ _ _ ⟨2, rfl, by decide +kernel, ?_⟩))⟩))⟩))) (by kernel_rfl)) (by rfl)
  refine Ex.asg ok (i := 3) rfl (EK.item (EK.list (EvA.p EE.int (EvA.p EE.int (EvA.p EE.int (EvA.p EE.int (EvA.nil ⟨[8, 8, 8, 3], rfl, by decide, fun a1 => ⟨a1, rfl, EvN.k (EN.draw okb hd9 hu9 (i := 4) (EE.loc okb (i := 1) rfl rfl) EE.int rfl (Ro.at 5 rfl) hl (by decide) (by decide) (by decide) (by decide) fun x x0 x1 => ⟨x, [8, 8, 8, 3], rfl, In.at (i := 0) rfl, x0, x1, Int.lt_trans x1 (by decide), ?_⟩)⟩⟩)))))))
  have hw := win_ok x.toNat
  generalize ([8, 8, 8, 3] : List Int).getD x.toNat 0 = win at hw
  refine Ex.asg ok (i := 4) rfl (EK.binR EE.int (EvN.k (EN.draw okb hd9 hu9 (i := 4) (EE.loc okb (i := 1) rfl rfl) EE.int rfl (Ro.at 5 rfl) hl (by decide) (by decide) (by decide) (by decide) fun y y0 y1 => ⟨y, rfl, _, OpI.add, ?_⟩)))
  exact Ex.sel [4, 5, 3, 2, 1] 6 (nw2 := [(d, DeckP V.w cl 2), (cl, IntL ns), (dw, WP V.w b ct 0), (b, IntL []), (ct, IntL [])]) (next d cl dw b ct ns win (1 + y) hl hw.1 hw.2 (by lia) (by lia))
noncomputable def BlkI (a : Int) (mn i : Nat) (x : Rg) : Prop := a ≤ x.i1 ∧ x.i1 ≤ a + 20 * i ∧ x.ws.bits.length ≤ 100 * i ∧ x.ws.content.length ≤ 50 * i ∧ (0 ≤ x.ws.back ∧ x.ws.back ≤ 8) ∧ ∃ bs, (i < mn → Wr x.ws bs) ∧ (i = mn → Wrote x.ws bs)
theorem BlkI.zero {mn : Nat} (b ct : Addr) (h : 1 ≤ mn) : BlkI 2 mn 0 { a1 := b, a2 := ct, i1 := 2 } := ⟨show (2 : Int) ≤ 2 by decide, show (2 : Int) ≤ 2 + 20 * ((0 : Nat) : Int) by decide, Nat.le_refl _, Nat.le_refl _, ⟨show (0 : Int) ≤ 0 by decide, show (0 : Int) ≤ 8 by decide⟩, [], fun _ => Wr.nil, fun h => by lia⟩
theorem BlkI.step {a a' : Int} {mn i : Nat} {x : Rg} {st : WS} (h : BlkI a mn i x) (hi : i < mn) (h1 : x.i1 ≤ a') (h2 : a' ≤ x.i1 + 20) (hbr : BlockR (decide (0 + (i : Int) + 1 = mn)) x.ws st) (y : Rg) (e1 : y.i1 = a') (e2 : y.ws = st) : BlkI a mn (i + 1) y := by
  obtain ⟨g1, g2, g3, g4, g5, bs, g6, g7⟩ := h
  have hle := hbr.le
  subst e1 e2
  refine ⟨by lia, by push_cast; lia, by lia, by lia, hbr.far g5, ?_⟩
  by_cases h : i + 1 = mn
  · rw [decide_eq_true (by lia)] at hbr
    obtain ⟨b, hb⟩ := (g6 hi).last hbr
    exact ⟨_, fun q => by lia, fun _ => hb⟩
  · rw [decide_eq_false (by lia)] at hbr
    obtain ⟨b, hb⟩ := (g6 hi).more hbr
    exact ⟨_, fun _ => hb, fun q => absurd q h⟩
theorem law_b (ok : Ok ⟨sLaw, V⟩) (hdp : V.dp < 800) (hun : V.un < 8000) {d cl dw b ct : Addr} {ns : List Int} {win : Int} {mn : Nat} {P0 : Option AV} (hl : ns.length ≤ 60) (hm1 : 1 ≤ mn) (hm3 : mn ≤ 3) {R : Fl → Lo → Nw → Prop}
    (next : ∀ b ct a st bs p5, 2 ≤ a → a ≤ 62 → st.bits.length ≤ 300 → st.content.length ≤ 150 → Wrote st bs → Ex ⟨sLaw, V⟩ [P0, some (Is (.ref d)), some (Is (.ref dw)), some (It win), some (It mn), p5, none, none, none, none, none, none, none, none, none, none, none] [(d, DeckP V.w cl a), (cl, IntL ns), (dw, WP V.w b ct st.back), (b, IntL st.bits), (ct, IntL st.content)] (bodyL.drop 5) R) :
    Ex ⟨sLaw, V⟩ [P0, some (Is (.ref d)), some (Is (.ref dw)), some (It win), some (It mn), none, none, none, none, none, none, none, none, none, none, none, none] [(d, DeckP V.w cl 2), (cl, IntL ns), (dw, WP V.w b ct 0), (b, IntL []), (ct, IntL [])] (bodyL.drop 4) R := by
  have okb := ok.toOkB
  refine Ex.forR1 ok (ix := 5) rfl (EE.rangeN okb) (Ev.k (EE.loc okb (i := 4) rfl rfl) ⟨mn, rfl, ⟨by lia, by lia⟩, Lp.mk (fun x => [P0, some (Is (.ref d)), some (Is (.ref dw)), some (It win), some (It mn), x.p1, none, none, none, none, none, none, none, none, none, none, none]) (fun x => [(d, DeckP V.w cl x.i1), (cl, IntL ns), (dw, WP V.w x.a1 x.a2 x.ws.back), (x.a1, IntL x.ws.bits), (x.a2, IntL x.ws.content)]) (BlkI 2 mn)
    { a1 := b, a2 := ct, i1 := 2 } (BlkI.zero b ct hm1) (fun I oI i x hi hx => ?_) fun x hx => ?_⟩)
  · rw [Int.sub_zero, Int.toNat_natCast] at hi
    obtain ⟨g1, g2, g3, g4, g5, _⟩ := id hx
    exact Ex.expr (EK.callG ok (EE.glob okb (gl_lblk _) (by kernel_rfl)) (kp_lblk _) (EvA.p (EE.loc okb (i := 1) rfl rfl) (EvA.p (EE.loc okb (i := 2) rfl rfl) (EvA.p (EE.cmp (EE.bin (EE.loc okb (i := 5) rfl rfl) EE.int OpI.add) (EE.loc okb (i := 4) rfl rfl) CpI.eq) (EvA.nil (CN.k (CN.block okb (Nat.lt_trans hdp (by decide)) (Nat.lt_trans hun (by decide)) [1, 3, 4, 5] [0, 2] 6 (nwr := [(I, Eo oI), (cl, IntL ns)]) rfl (Ro.at 2 rfl) hl (by lia) (by lia) (by lia) (by lia) g5
      fun ce b' ct' a' st h1 h2 h3 => Ex.tendS { p1 := _, a1 := b', a2 := ct', i1 := a', ws := st } [5, 1, 6, 2, 3, 4] 7 (hx.step hi h1 h2 h3 _ rfl rfl))))))))
  · rw [Int.sub_zero, Int.toNat_natCast] at hx
    obtain ⟨g1, g2, g3, g4, g5, bs, _, g7⟩ := hx
    exact next _ _ _ _ bs _ g1 (by lia) (by lia) (by lia) (g7 rfl)
end Mine
end
section
open PySem PySem.W PySem.Calls PyProof.Rows
set_option maxRecDepth 100000
set_option maxHeartbeats 4000000
namespace Mine
variable {V : Vx}
theorem law_far2 (ok : Ok ⟨sLaw, V⟩) (hdp : V.dp < 800) (hout : frs V.outer = []) {win : Int} {n : Nat} {pa da : Array UInt8} {st : WS} {bs : List Blk} {p0 p1 p2 p4 p5 p6 p10 p11 p12 p13 p14 p15 p16 : Option AV} {R : Fl → Lo → Nw → Prop}
    (hpa : KBw.bInts pa = List.replicate n 255 ++ octE st.bits) (hda : KBw.bInts da = st.content) (W : Wrote st bs) (hb : st.bits.length ≤ 300) (hc : st.content.length ≤ 150) (hn : n < 3) (hw0 : 0 ≤ win) (hw : win < st.back) (fin : ∀ lo nw, R (.ret (Is (.bool true))) lo nw) :
    Ex ⟨sLaw, V⟩ [p0, p1, p2, some (It win), p4, p5, p6, some (By da), some (It n), some (By pa), p10, p11, p12, p13, p14, p15, p16] [] (ifOf (hdOf (bodyL.drop 8))) R := by
  have okb := ok.toOkB
  have hpl := congrArg List.length hpa
  rw [List.length_append, List.length_replicate, octE_len] at hpl
  have hp8 := padded_len st.bits
  have hdl := congrArg List.length hda
  obtain ⟨Se, hwk, ⟨e, he⟩, hlt⟩ := law_far W (n := n) (by lia) hw0 hw
  have hpre := content_pre he
  have happ : KBw.bInts (pa ++ [122, 122].toArray) = List.replicate n 255 ++ octE st.bits ++ [122, 122] := KBw.ints_app hpa rfl
  refine Ex.asgT ok rfl (i := 10) rfl (ET.callG okb (EE.glob okb (gl_inf _) (by kernel_rfl)) (kp_inf _) (EvA.p (EE.addB (EE.loc okb (i := 9) rfl rfl) EE.byC (by rw [hpl]; show _ + 2 ≤ _; lia)) (EvA.p (EE.loc okb (i := 8) rfl rfl) (EvA.p (EE.loc okb (i := 3) rfl rfl) (EvA.nil (CT.inf okb (Nat.lt_trans hdp (by decide)) [] 0 (nwr := []) fun it d rd dx ba ll ld X h1 h2 => ?_))))))
  refine Ex.retT rfl (ET.and (ET.callG okb (EE.glob okb (gl_refu _) (by kernel_rfl)) (kp_refu _) (EvA.p (EE.loc okb (i := 10) rfl rfl) (EvA.nil (CT.refused okb hout hdp [4, 3, 1] [0] 5 (S := s0 n) (nwr := (it, InstP 238 d) :: X) rfl (Ro.at 0 rfl) (Ro.at 2 rfl) (h1.mono fun a P h => Ro.tl (pre := [_, _, _, _, _]) (show ∀ i ∈ [4, 3, 1], i < 5 by decide) h) (h2.mono fun a P h => Ro.tl (pre := [_, _, _, _, _]) (show ∀ i ∈ [4, 3, 1], i < 5 by decide) h) (.inl ⟨rfl, rfl, rfl, rfl, rfl⟩) happ
    (by rw [List.length_append, List.length_append, List.length_replicate, octE_len]; show _ + 2 ≤ _; lia) (whole_bytes W n) hwk fun la lit dis fx => ⟨rfl, ?_, fin _ _⟩)))))
  exact EE.and (EE.bt (EE.eqB (EE.preB (EE.loc okb (i := 7) rfl rfl) (EE.lenBa (EE.lenN okb) (EE.inf okb 2 (EE.loc okb (i := 10) rfl rfl) (In.at (i := 2) rfl) (In.at (i := 0) rfl) handed_ref) (In.at (i := 1) rfl) (by lia)) hda (by lia)) (EE.byBa okb (EE.inf okb 2 (EE.loc okb (i := 10) rfl rfl) (In.at (i := 2) rfl) (In.at (i := 0) rfl) handed_ref) (In.at (i := 1) rfl) (by lia))) hpre.1)
    (EE.and1 (EE.bt (EE.cmp (EE.lenBa (EE.lenN okb) (EE.inf okb 2 (EE.loc okb (i := 10) rfl rfl) (In.at (i := 2) rfl) (In.at (i := 0) rfl) handed_ref) (In.at (i := 1) rfl) (by lia)) (EE.lenBI (EE.lenN okb) (EE.byI (EE.loc okb (i := 7) rfl rfl) hda) (by lia)) CpI.lt) (by lia)))
theorem law_c (ok : Ok ⟨sLaw, V⟩) (hdp : V.dp < 800) (hun : V.un < 8000) (hout : frs V.outer = []) {d cl dw b ct : Addr} {ns : List Int} {a win mn : Int} {P0 p5 : Option AV} {st : WS} {bs : List Blk} (hl : ns.length ≤ 60) (ha : 2 ≤ a) (ha2 : a ≤ 62) (hb : st.bits.length ≤ 300) (hc : st.content.length ≤ 150) (W : Wrote st bs) (hw0 : 0 ≤ win) {R : Fl → Lo → Nw → Prop}
    (fin : ∀ lo nw, R (.ret (Is (.bool true))) lo nw)
    (next : ∀ b ct (n : Nat) pa da p6, n < 3 → KBw.bInts pa = List.replicate n 255 ++ octE st.bits → KBw.bInts da = st.content → ¬ win < st.back →
      Ex ⟨sLaw, V⟩ [P0, some (Is (.ref d)), some (Is (.ref dw)), some (It win), some (It mn), p5, p6, some (By da), some (It n), some (By pa), none, none, none, none, none, none, none] [(d, DeckP V.w cl (a + 1)), (cl, IntL ns), (dw, WP V.w b ct st.back)] (bodyL.drop 9) R) :
    Ex ⟨sLaw, V⟩ [P0, some (Is (.ref d)), some (Is (.ref dw)), some (It win), some (It mn), p5, none, none, none, none, none, none, none, none, none, none, none] [(d, DeckP V.w cl a), (cl, IntL ns), (dw, WP V.w b ct st.back), (b, IntL st.bits), (ct, IntL st.content)] (bodyL.drop 5) R := by
  have okb := ok.toOkB
  have hd9 : V.dp < 990 := Nat.lt_trans hdp (by decide)
  have hu9 : V.un < 9700 := Nat.lt_trans hun (by decide)
  have hby : KBa.In st.content := W.bytes
  refine Ex.tup ok [7, 6] rfl (EvA.cons (EK.callG ok (EE.glob okb (gl_loct _) (by kernel_rfl)) (kp_loct _) (EvA.p (EE.ditem 0 (EE.loc okb (i := 2) rfl rfl) (In.at (i := 2) rfl) rfl rfl) (EvA.nil (CN.k (CN.callZ okb (octM _) hd9 rfl [3] [0, 1, 2, 4] 5 (nwr := [(d, DeckP V.w cl a), (cl, IntL ns), (dw, WP V.w b ct st.back), (ct, IntL st.content)]) (nw₀ := [(b, IntL st.bits)]) rfl fun V' e1 e2 e3 ro => ⟨dpL e2 hdp (by decide), b, _, rfl, rfl, by lia, W.b01, fun oa hoa =>
    EvA.cons (EK.byL okb (Ev.k (EE.ditem 1 (EE.loc okb (i := 2) rfl rfl) (In.at (i := 3) rfl) rfl rfl) ⟨ct, st.content, rfl, In.at (i := 4) rfl, hby, by lia, EvA.nil ⟨rfl, Nat.le_of_ble_eq_true rfl, ?_⟩⟩))⟩))))))
  have hda := KBa.ints_make hby
  generalize byteArr st.content = da at hda
  have hol := congrArg List.length hoa
  rw [octE_len] at hol
  have hp8 := padded_len st.bits
  refine Ex.asg ok (i := 8) rfl (EvN.k (EN.draw okb hd9 hu9 (i := 1) (EE.loc okb (i := 1) rfl rfl) EE.int rfl (Ro.at 2 rfl) hl (by lia) (by lia) (by decide) (by decide) fun x x0 x1 => ?_))
  obtain ⟨n, rfl⟩ := Int.eq_ofNat_of_zero_le x0
  have hn : n < 3 := by lia
  have hfl : (List.replicate (n : Int).toNat [(255 : Int)]).flatten = List.replicate n 255 := by simp
  have hin : KBa.In (List.replicate n 255) := byteL_rep _ ⟨by decide, by decide⟩
  have hmk := KBa.ints_make hin
  have hlm := congrArg List.length hmk
  rw [List.length_replicate] at hlm
  refine Ex.asg ok (i := 9) rfl (EK.addB (EK.byL okb (EK.rep (EK.list (EvA.p EE.int (EvA.nil ⟨[255], rfl, by decide, fun a1 => ⟨a1, [255], n, rfl, In.at (i := 0) rfl, (EE.loc okb (i := 8) rfl rfl), x0, Int.lt_trans x1 (by decide), by decide, fun D2 => ⟨D2, List.replicate n 255, rfl, hfl ▸ In.at (i := 0) rfl, hin, by rw [List.length_replicate]; lia, rfl, (EE.loc okb (i := 6) rfl rfl), by lia, ?_⟩⟩⟩))))))
  have hpa : KBw.bInts (byteArr (List.replicate n 255) ++ oa) = List.replicate n 255 ++ octE st.bits := KBw.ints_app hmk hoa
  generalize byteArr (List.replicate n 255) ++ oa = pa at hpa
  refine Ex.ifD (Tv.cmp (EE.ditem 2 (EE.loc okb (i := 2) rfl rfl) (In.at (i := 5) rfl) rfl rfl) (EE.loc okb (i := 3) rfl rfl) CpI.gt) (fun hlt => ?_) fun hlt => ?_
  · exact Ex.sel [] 7 (nw2 := []) (law_far2 ok hdp hout hpa hda W hb hc hn hw0 hlt fin)
  · exact Ex.nil (R := thn _ _ _) (Ex.sel [3, 4, 5] 7 (nw2 := [(d, DeckP V.w cl (a + 1)), (cl, IntL ns), (dw, WP V.w b ct st.back)]) (next b ct n pa da _ hn hpa hda hlt))
end Mine
end
section
open PySem PySem.W PySem.Calls PyProof.Rows
set_option maxRecDepth 100000
set_option maxHeartbeats 4000000
namespace Mine
structure Tn where
  st : WS
  n : Nat
  win : Int
  mn : Int
  da : Array UInt8
  pa : Array UInt8
  arr : Array UInt8
  ns : List Int
  dk : Addr
  cl : Addr
  dw : Addr
  b : Addr
  ct : Addr
  it : Addr
  d : Addr
  rd : Addr
  dx : Addr
  ba : Addr
  ll : Addr
  ld : Addr
  P0 : Option AV
  p5 : Option AV
  p6 : Option AV
structure Tm where
  S : IS
  T : Nw
  lit : Value
  dis : Value
  fx : Value
  a : Int
  ah : Int
  p12 : Option AV
  p13 : Option AV
  p14 : Option AV
  p15 : Option AV
noncomputable def Tn.lo (x : Tn) (y : Tm) : Lo := [x.P0, some (Is (.ref x.dk)), some (Is (.ref x.dw)), some (It x.win), some (It x.mn), x.p5, x.p6, some (By x.da), some (It x.n), some (By x.pa), some (Is (.ref x.it)), some (It y.ah), y.p12, y.p13, y.p14, y.p15, none]
noncomputable def Tn.nw (w : World) (x : Tn) (y : Tm) : Nw := (x.dk, DeckP w x.cl y.a) :: (x.cl, IntL x.ns) :: (x.dw, WP w x.b x.ct x.st.back) :: (x.it, InstP 238 x.d) :: (x.ba, BaP y.S.out) :: (x.rd, InstP 109 x.dx) :: (x.dx, RdP x.arr y.S.rs) :: (x.d, infP x.rd x.ba x.ll x.ld x.win y.S.last y.S.done y.lit y.dis y.S.stored y.fx) :: y.T
noncomputable def TnJ (x : Tn) (i : Nat) (y : Tm) : Prop := TabA (MemF y.T) x.ll lenT lenM 29 ∧ TabA (MemF y.T) x.ld leastD moreD 30 ∧ FxF (MemF y.T) y.S.inB y.S.fx y.lit y.dis y.fx ∧ LawS x.st x.n x.win y.S ∧ (∃ e, x.st.content = y.S.out ++ e) ∧ 0 ≤ y.a ∧ y.a ≤ 100 + i ∧ 0 ≤ y.ah ∧ y.ah ≤ 3 * i
structure TnOk (x : Tn) (bs : List Blk) : Prop where
  W : Wrote x.st bs
  hb : x.st.bits.length ≤ 300
  hc : x.st.content.length ≤ 150
  hn : x.n < 3
  hl : x.ns.length ≤ 60
  hpa : KBw.bInts x.pa = List.replicate x.n 255 ++ octE x.st.bits
  hda : KBw.bInts x.da = x.st.content
  harr : KBw.bInts x.arr = List.replicate x.n 255 ++ octE x.st.bits ++ [122, 122]
theorem TnOk.len {x : Tn} {bs : List Blk} (h : TnOk x bs) : (List.replicate x.n (255 : Int) ++ octE x.st.bits ++ [122, 122]).length ≤ 100 := by
  have hp8 := padded_len x.st.bits
  have := h.hb
  have := h.hn
  rw [List.length_append, List.length_append, List.length_replicate, octE_len]
  show _ + 2 ≤ _
  lia
variable {V : Vx}
theorem law_t (ok : Ok ⟨sLaw, V⟩) (hdp : V.dp < 800) (hun : V.un < 8000) {x : Tn} {bs : List Blk} (hx : TnOk x bs) {i : Nat} (hi : i < 3) {y : Tm} (hy : TnJ x i y) {I : Addr} {oI : Obj} {R : Fl → Lo → Nw → Prop}
    (next : ∀ y' : Tm, TnJ x (i + 1) y' → R .next (x.lo y') ((I, Eo oI) :: x.nw V.w y')) :
    Ex ⟨sLaw, V⟩ (put (x.lo y) 12 (some (It (0 + i)))) ((I, Eo oI) :: x.nw V.w y) (forOf (hdOf (bodyL.drop 10))) R := by
  have okb := ok.toOkB
  have hd9 : V.dp < 990 := Nat.lt_trans hdp (by decide)
  have hu9 : V.un < 9700 := Nat.lt_trans hun (by decide)
  obtain ⟨st, n, win, mn, da, pa, arr, ns, dk, cl, dw, b, ct, it, d, rd, dx, ba, ll, ld, P0, p5, p6⟩ := x
  obtain ⟨S, T, lit, dis, fx, a, ah, p12, p13, p14, p15⟩ := y
  obtain ⟨W, hb, hc, hn, hl, hpa, hda, harr⟩ := id hx
  have hlen := hx.len
  obtain ⟨h1, h2, h3, hS, ⟨e, he⟩, ha0, ha1, hh0, hh1⟩ := hy
  dsimp only at W hb hc hn hl hpa hda harr hlen h1 h2 h3 hS he ha0 ha1 hh0 hh1
  have hol := (content_pre he).2
  have ha9 : a < 1000 := by lia
  have hS9 : S.out.length ≤ 1000000 := by lia
  refine Ex.asg ok (i := 13) rfl (EK.binR (EE.loc okb (i := 11) rfl rfl) (EvN.k (EN.draw okb hd9 hu9 (i := 1) (EE.loc okb (i := 1) rfl rfl) EE.int rfl (Ro.at 2 rfl) hl ha0 ha9 (by decide) (by decide) fun z z0 z1 => ⟨z, rfl, _, OpI.add, ?_⟩)))
  obtain ⟨S', hwk, hS', ⟨e', he'⟩, u1, u2, u3, u4⟩ := hS.some W (by lia) (ah + z)
  have hpre := content_pre he'
  have hT9 : S'.out.length ≤ 1000000 := by lia
  have hD9 : st.content.length ≤ 1000000 := by lia
  have q1 : 0 ≤ a + 1 := by lia
  have q2 : a + 1 ≤ 100 + ((i + 1 : Nat) : Int) := by lia
  have q3 : 0 ≤ ah + z := by lia
  have q4 : ah + z ≤ 3 * ((i + 1 : Nat) : Int) := by lia
  refine Ex.asg ok (i := 14) rfl (Ev.k (EE.lenBa (EE.lenN okb) (EE.inf okb 2 (EE.loc okb (i := 10) rfl rfl) (In.at (i := 4) rfl) (In.at (i := 8) rfl) handed_ref) (In.at (i := 5) rfl) hS9) ?_)
  refine Ex.exprT rfl (ET.meth ok (EE.loc okb (i := 10) rfl rfl) (In.at (i := 4) rfl) (In.at (i := 8) rfl) (mt_work _) (kp_work _) (by decide +kernel) (EvA.p (EE.loc okb (i := 13) rfl rfl) (EvA.nil (CT.work2 (most := some (ah + z)) (F₀ := MemF T) (S := S) (is := [8, 7, 5]) ok (Nat.lt_trans hdp (by decide)) (fun a P h => Ro.tl (pre := [_, _, _, _, _, _, _, _, _]) (show ∀ i ∈ [8, 7, 5], i < 9 by decide) h) rfl (Ro.at 4 rfl) (Ro.at 6 rfl) h1 h2 h3 harr (Nat.le_trans hlen (by decide)) (whole_bytes W n) hwk fun T' lit' dis' fx' hf' => ?_))))
  refine Ex.asg ok (i := 15) rfl (Ev.k (EE.byBa okb (EE.inf okb 2 (EE.loc okb (i := 10) rfl rfl) (In.at (i := 4) rfl) (In.at (i := 8) rfl) handed_ref) (In.at (i := 5) rfl) hT9) ?_)
  have t1 := turn_tests (o0 := S.out.length) (o1 := S'.out.length) (c := st.content.length) (k := ah + z) (by lia) (by lia) (by lia) (by lia)
  refine Ex.if0 (Tv.orF (Tv.neB (EE.loc okb (i := 15) rfl rfl) (EE.preB (EE.loc okb (i := 7) rfl rfl) (EE.lenBI (EE.lenN okb) (EE.loc okb (i := 15) rfl rfl) hT9) hda hD9)) (by rw [decide_eq_true hpre.1.symm]; rfl)
    (Tv.orF (Tv.cmp (EE.lenBI (EE.lenN okb) (EE.loc okb (i := 15) rfl rfl) hT9) (EE.min (EE.blt okb (gl_min _) boot_min) (EE.loc okb (i := 13) rfl rfl) (EE.lenBI (EE.lenN okb) (EE.byI (EE.loc okb (i := 7) rfl rfl) hda) hD9)) CpI.lt) (decide_eq_false t1.1)
      (Tv.orF (Tv.cmp (EE.lenBI (EE.lenN okb) (EE.loc okb (i := 15) rfl rfl) hT9) (EE.max (EE.blt okb (gl_max _) boot_max) (EE.loc okb (i := 14) rfl rfl) (EE.bin (EE.loc okb (i := 13) rfl rfl) EE.int OpI.add)) CpI.gt) (decide_eq_false t1.2) Tv.orN))) ?_
  refine Ex.if0 (Tv.andF (Tv.cmp (EE.ditem 2 (EE.loc okb (i := 2) rfl rfl) (In.at (i := 3) rfl) rfl rfl) EE.int CpI.eq) fun hb0 => Tv.and1 ?_) ?_
  · have t2 := turn_last (o0 := S.out.length) (o1 := S'.out.length) (c := st.content.length) (k := ah + z) (by lia) (by lia) (by omega) (by have := u4 (of_decide_eq_true hb0); omega)
    exact Tv.no (Tv.cmp (EE.lenBI (EE.lenN okb) (EE.loc okb (i := 15) rfl rfl) hT9) (EE.max (EE.blt okb (gl_max _) boot_max) (EE.loc okb (i := 14) rfl rfl) (EE.min (EE.blt okb (gl_min _) boot_min) (EE.loc okb (i := 13) rfl rfl) (EE.lenBI (EE.lenN okb) (EE.byI (EE.loc okb (i := 7) rfl rfl) hda) hD9))) CpI.ne) fun h => h t2
  refine Ex.asg ok (i := 11) rfl (Ev.k (EE.loc okb (i := 13) rfl rfl) (Ex.nil ?_))
  refine next ⟨S', T ++ T', lit', dis', fx', a + 1, ah + z, _, _, _, _⟩ ⟨h1.mono fun a P h => List.mem_append_left _ h, h2.mono fun a P h => List.mem_append_left _ h, hf'.mono fun a P h => h.elim (List.mem_append_left _) (List.mem_append_right _), hS', ⟨e', he'⟩, q1, q2, q3, q4⟩
end Mine
end
section
open PySem PySem.W PySem.Calls PyProof.Rows
set_option maxRecDepth 100000
set_option maxHeartbeats 4000000
namespace Mine
theorem cut_last {n5 : Nat} {os q : List Int} (h0 : 0 < os.length) (h : q = ((List.replicate n5 255 ++ os).drop (Option.elim none 0 (clipAt (List.replicate n5 255 ++ os).length))).take (Option.elim (some (-1)) (List.replicate n5 255 ++ os).length (clipAt (List.replicate n5 255 ++ os).length) - Option.elim none 0 (clipAt (List.replicate n5 255 ++ os).length))) :
    q = List.replicate n5 255 ++ os.dropLast := by
  have hl : (List.replicate n5 (255 : Int) ++ os).length = n5 + os.length := by simp
  have e : clipAt (List.replicate n5 (255 : Int) ++ os).length (-1) = (List.replicate n5 (255 : Int) ++ os).length - 1 := by
    have := clipAt_cast (List.replicate n5 (255 : Int) ++ os).length (-1)
    rw [hl] at this ⊢
    rw [if_pos (by decide)] at this
    omega
  rw [h]
  simp only [Option.elim, List.drop_zero, Nat.sub_zero]
  rw [e, ← List.dropLast_eq_take, List.dropLast_append_of_ne_nil (List.length_pos_iff.mp h0)]
theorem Ex.drop0 {c : Cx} {lo : Lo} {nw : Nw} {l : List Stmt} {R : Fl → Lo → Nw → Prop} (h : Ex c lo [] l R) : Ex c lo nw l R := fun s hs Q q => h s (hs.sub (fun e he => nomatch he) List.nodup_nil) Q q
theorem EE.notF {c : Cx} {lo : Lo} {nw : Nw} {a : Expr} {pos : Pos} (ha : EE c lo nw a (Is (.bool false))) : EE c lo nw (.UnaryOp .Not a pos) (Is (.bool true)) := EE.not ha
variable {V : Vx}
theorem law_cut2 (ok : Ok ⟨sLaw, V⟩) (hdp : V.dp < 800) (hout : frs V.outer = []) {win : Int} {n : Nat} {pa da : Array UInt8} {st : WS} {bs : List Blk} {p0 p1 p2 p4 p5 p6 p10 p11 p12 p13 p14 p15 p16 : Option AV} {R : Fl → Lo → Nw → Prop}
    (hpa : KBw.bInts pa = List.replicate n 255 ++ octE st.bits) (hda : KBw.bInts da = st.content) (W : Wrote st bs) (hb : st.bits.length ≤ 300) (hc : st.content.length ≤ 150) (hn : n < 3) (fin : ∀ lo nw, R (.ret (Is (.bool true))) lo nw) :
    Ex ⟨sLaw, V⟩ [p0, p1, p2, some (It win), p4, p5, p6, some (By da), some (It n), some (By pa), p10, p11, p12, p13, p14, p15, p16] [] (bodyL.drop 13) R := by
  have okb := ok.toOkB
  have hol := octE_len st.bits
  have hp8 := padded_len st.bits
  have hpl := congrArg List.length hpa
  rw [List.length_append, List.length_replicate] at hpl
  obtain ⟨Se, hwk, hdn, ⟨e, he⟩⟩ := law_cut W (n := n) (win := win) (by lia)
  have hpre := content_pre he
  have hcut := cut_last W.size (KBc.ints_picked hpa none (some (-1)))
  have hS9 : Se.out.length ≤ 1000000 := by lia
  have hD9 : st.content.length ≤ 1000000 := by lia
  refine Ex.asgT ok rfl (i := 16) rfl (ET.callG okb (EE.glob okb (gl_inf _) (by kernel_rfl)) (kp_inf _) (EvA.p (EE.cutB (EE.loc okb (i := 9) rfl rfl) (EE.neg EE.int) (by lia)) (EvA.p (EE.loc okb (i := 8) rfl rfl) (EvA.p (EE.loc okb (i := 3) rfl rfl) (EvA.nil (CT.inf okb (Nat.lt_trans hdp (by decide)) [] 0 (nwr := []) fun it d rd dx ba ll ld X h1 h2 => ?_))))))
  generalize KBy.picked pa none (some (-1)) = pc at hcut
  refine Ex.retT rfl (ET.and (ET.callG okb (EE.glob okb (gl_refu _) (by kernel_rfl)) (kp_refu _) (EvA.p (EE.loc okb (i := 16) rfl rfl) (EvA.nil (CT.refused okb hout hdp [4, 3, 1] [0] 5 (S := s0 n) (nwr := (it, InstP 238 d) :: X) rfl (Ro.at 0 rfl) (Ro.at 2 rfl) (h1.mono fun a P h => Ro.tl (pre := [_, _, _, _, _]) (show ∀ i ∈ [4, 3, 1], i < 5 by decide) h) (h2.mono fun a P h => Ro.tl (pre := [_, _, _, _, _]) (show ∀ i ∈ [4, 3, 1], i < 5 by decide) h) (.inl ⟨rfl, rfl, rfl, rfl, rfl⟩) hcut
    (by rw [List.length_append, List.length_replicate, List.length_dropLast]; lia) (cut_bytes W n) hwk fun la lit dis fx => ⟨rfl, ?_, fin _ _⟩)))))
  rw [hdn]
  exact EE.and (EE.notF (EE.inf okb 4 (EE.loc okb (i := 16) rfl rfl) (In.at (i := 2) rfl) (In.at (i := 0) rfl) handed_bool)) (EE.and1 (EE.bt (EE.eqB (EE.preB (EE.loc okb (i := 7) rfl rfl) (EE.lenBa (EE.lenN okb) (EE.inf okb 2 (EE.loc okb (i := 16) rfl rfl) (In.at (i := 2) rfl) (In.at (i := 0) rfl) handed_ref) (In.at (i := 1) rfl) hS9) hda hD9) (EE.byBa okb (EE.inf okb 2 (EE.loc okb (i := 16) rfl rfl) (In.at (i := 2) rfl) (In.at (i := 0) rfl) handed_ref) (In.at (i := 1) rfl) hS9)) hpre.1))
theorem law_e (ok : Ok ⟨sLaw, V⟩) (hdp : V.dp < 800) (hout : frs V.outer = []) {x : Tn} {bs : List Blk} (hx : TnOk x bs) {y : Tm} (hy : TnJ x 3 y) {R : Fl → Lo → Nw → Prop} (fin : ∀ lo nw, R (.ret (Is (.bool true))) lo nw) :
    Ex ⟨sLaw, V⟩ (x.lo y) (x.nw V.w y) (bodyL.drop 11) R := by
  have okb := ok.toOkB
  have hlen := hx.len
  obtain ⟨st, n, win, mn, da, pa, arr, ns, dk, cl, dw, b, ct, it, d, rd, dx, ba, ll, ld, P0, p5, p6⟩ := x
  obtain ⟨S, T, lit, dis, fx, a, ah, p12, p13, p14, p15⟩ := y
  obtain ⟨W, hb, hc, hn, hl, hpa, hda, harr⟩ := hx
  obtain ⟨h1, h2, h3, hS, ⟨e, he⟩, ha0, ha1, hh0, hh1⟩ := hy
  dsimp only at W hb hc hn hl hpa hda harr hlen h1 h2 h3 hS he
  obtain ⟨S', hwk, g1, g2, g3⟩ := hS.none W (by lia)
  have hD9 : st.content.length ≤ 1000000 := by lia
  have hT9 : S'.out.length ≤ 1000000 := by rw [g1]; exact hD9
  have hol := octE_len st.bits
  have hp8 := padded_len st.bits
  have hpl : (List.replicate n (255 : Int) ++ octE st.bits).length = n + (octE st.bits).length := by rw [List.length_append, List.length_replicate]
  have hP9 : (List.replicate n (255 : Int) ++ octE st.bits).length ≤ 1000000 := by lia
  have hpl2 : S'.rs.a = ((List.replicate n (255 : Int) ++ octE st.bits).length : Int) := by lia
  refine Ex.exprT rfl (ET.meth0 ok (EE.loc okb (i := 10) rfl rfl) (In.at (i := 3) rfl) (In.at (i := 7) rfl) (mt_work _) (kp_work _) (by decide +kernel) (CT.work1 (F₀ := MemF T) (S := S) (is := [7, 6, 4]) ok (Nat.lt_trans hdp (by decide)) (fun a P h => Ro.tl (pre := [_, _, _, _, _, _, _, _]) (show ∀ i ∈ [7, 6, 4], i < 8 by decide) h) rfl (Ro.at 3 rfl) (Ro.at 5 rfl) h1 h2 h3 harr (Nat.le_trans hlen (by decide)) (whole_bytes W n) hwk fun T' lit' dis' fx' hf' => ?_))
  refine Ex.if0 (Tv.orF (Tv.neB (EE.byBa okb (EE.inf okb 2 (EE.loc okb (i := 10) rfl rfl) (In.at (i := 3) rfl) (In.at (i := 7) rfl) handed_ref) (In.at (i := 4) rfl) hT9) (EE.byI (EE.loc okb (i := 7) rfl rfl) hda)) (by rw [decide_eq_true g1]; rfl)
    (Tv.orF (Tv.not (Tv.plain (EE.inf okb 4 (EE.loc okb (i := 10) rfl rfl) (In.at (i := 3) rfl) (In.at (i := 7) rfl) handed_bool))) (by rw [g2]; rfl)
      (Tv.orF (Tv.cmp (EE.place okb (Nat.lt_trans hdp (by decide)) (EE.inf okb 0 (EE.loc okb (i := 10) rfl rfl) (In.at (i := 3) rfl) (In.at (i := 7) rfl) handed_ref) (In.at (i := 5) rfl) (In.at (i := 6) rfl)) (EE.lenBI (EE.lenN okb) (EE.byI (EE.loc okb (i := 9) rfl rfl) hpa) hP9) CpI.ne) (decide_eq_false fun h => h hpl2) Tv.orN))) ?_
  exact Ex.drop0 (law_cut2 ok hdp hout hpa hda W hb hc hn fin)
theorem law_d (ok : Ok ⟨sLaw, V⟩) (hdp : V.dp < 800) (hun : V.un < 8000) (hout : frs V.outer = []) {dk cl dw b ct : Addr} {ns : List Int} {a win mn : Int} {n : Nat} {pa da : Array UInt8} {P0 p5 p6 : Option AV} {st : WS} {bs : List Blk} (hl : ns.length ≤ 60) (ha : 0 ≤ a) (ha2 : a ≤ 100) (hb : st.bits.length ≤ 300) (hc : st.content.length ≤ 150) (W : Wrote st bs) (hn : n < 3)
    (hpa : KBw.bInts pa = List.replicate n 255 ++ octE st.bits) (hda : KBw.bInts da = st.content) (hw : ¬ win < st.back) {R : Fl → Lo → Nw → Prop} (fin : ∀ lo nw, R (.ret (Is (.bool true))) lo nw) :
    Ex ⟨sLaw, V⟩ [P0, some (Is (.ref dk)), some (Is (.ref dw)), some (It win), some (It mn), p5, p6, some (By da), some (It n), some (By pa), none, none, none, none, none, none, none] [(dk, DeckP V.w cl a), (cl, IntL ns), (dw, WP V.w b ct st.back)] (bodyL.drop 9) R := by
  have okb := ok.toOkB
  have hpl := congrArg List.length hpa
  rw [List.length_append, List.length_replicate, octE_len] at hpl
  have hp8 := padded_len st.bits
  have hP9 : (KBw.bInts pa).length + (KBw.bInts [(122 : UInt8), 122].toArray).length ≤ 1000000 := by rw [hpl]; show _ + 2 ≤ _; lia
  refine Ex.tupT ok rfl [11, 10] rfl (ET.callG okb (EE.glob okb (gl_inf _) (by kernel_rfl)) (kp_inf _) (EvA.p (EE.addB (EE.loc okb (i := 9) rfl rfl) EE.byC hP9) (EvA.p (EE.loc okb (i := 8) rfl rfl) (EvA.p (EE.loc okb (i := 3) rfl rfl) (EvA.nil (CT.inf okb (Nat.lt_trans hdp (by decide)) [0, 1, 2] 3 (nwr := [(dk, DeckP V.w cl a), (cl, IntL ns), (dw, WP V.w b ct st.back)]) fun it d rd dx ba ll ld X h1 h2 => ⟨rfl, EE.int, ?_⟩))))))
  obtain ⟨x, ex⟩ : ∃ x : Tn, x = ⟨st, n, win, mn, da, pa, pa ++ [122, 122].toArray, ns, dk, cl, dw, b, ct, it, d, rd, dx, ba, ll, ld, P0, p5, p6⟩ := ⟨_, rfl⟩
  have hx : TnOk x bs := by subst ex; exact ⟨W, hb, hc, hn, hl, hpa, hda, KBw.ints_app hpa rfl⟩
  have j0 : TnJ x 0 ⟨s0 n, X, .none, .none, .none, a, 0, none, none, none, none⟩ := by
    subst ex
    exact ⟨h1, h2, .inl ⟨rfl, rfl, rfl, rfl, rfl⟩, law_start W hw, ⟨st.content, rfl⟩, ha, Int.le_trans ha2 (by decide), Int.le_refl _, Int.le_refl _⟩
  have e0 : Ex ⟨sLaw, V⟩ (x.lo ⟨s0 n, X, .none, .none, .none, a, 0, none, none, none, none⟩) (x.nw V.w ⟨s0 n, X, .none, .none, .none, a, 0, none, none, none, none⟩) (bodyL.drop 10) R := by
    refine Ex.forR1 ok (ix := 12) rfl (EE.rangeN okb) (Ev.k EE.int ⟨3, rfl, ⟨by decide, by decide⟩, fun i lo nw => ∃ y, lo = x.lo y ∧ nw = x.nw V.w y ∧ TnJ x i y, ⟨_, rfl, rfl, j0⟩, fun I oI i lo nw hi ⟨y, e1, e2, hy⟩ => ?_, fun lo nw ⟨y, e1, e2, hy⟩ => ?_⟩)
    · subst e1 e2
      exact law_t ok hdp hun hx (Nat.lt_of_lt_of_le hi (by decide)) hy fun y' hy' => ⟨x.nw V.w y', ⟨[0], 1, by decide, by decide, rfl⟩, y', rfl, rfl, hy'⟩
    · subst e1 e2
      exact law_e ok hdp hout hx (y := y) hy fin
  subst ex
  exact e0
theorem law_x (ok : Ok ⟨sLaw, V⟩) (hdp : V.dp < 800) (hun : V.un < 8000) (hout : frs V.outer = []) {lx : Addr} {zs : List Int} (hs : ∃ vs, V.h₀.IsList lx (List.toArray vs) ∧ IntsAre vs zs) (hz : zs.length ≤ 63) {R : Fl → Lo → Nw → Prop} (fin : ∀ lo nw, R (.ret (Is (.bool true))) lo nw) :
    Ex ⟨sLaw, V⟩ [some (Is (.ref lx)), none, none, none, none, none, none, none, none, none, none, none, none, none, none, none, none] [] bodyL R := by
  refine law_a ok hdp hun hs hz fun d cl dw b ct ns win mn hl w0 w1 m0 m1 => ?_
  obtain ⟨k, rfl⟩ : ∃ k : Nat, mn = k := ⟨mn.toNat, by lia⟩
  refine law_b ok hdp hun hl (by lia) (by lia) fun b ct a st bs p5 a0 a1 hb hc W => ?_
  refine law_c ok hdp hun hout hl a0 a1 hb hc W w0 fin fun b ct n pa da p6 hn hpa hda hw => ?_
  exact law_d ok hdp hun hout hl (by lia) (by lia) hb hc W hn hpa hda hw fin
end Mine
end
section
open PySem PySem.W PySem.Calls PyProof.Rows
set_option maxRecDepth 1000000
set_option maxRecDepth 100000
set_option maxHeartbeats 4000000
namespace Mine
theorem law_post (ar : List WData) : PySem.Challenge.rw_pb0114_01.row.claim.post ar (WData.bool true) ar = true := by
  first | kernel_rfl | with_unfolding_all rfl
noncomputable def top.tw4213018616267185653 : Nat := 0
noncomputable def top.tw4047667213573674445 : Nat := 0
noncomputable def top.tw2464713573024523455 : Nat := 0
noncomputable def top.tw17081178143035459574 : Nat := 0
noncomputable def top.tw5667650583090716360 : Nat := 0
noncomputable def top.tw14823308797102314842 : Nat := 0
noncomputable def top.tw7008692893051332821 : Nat := 0
noncomputable def top.tw18034075008235765660 : Nat := 0
noncomputable def top.tw775762912060472103 : Nat := 0
noncomputable def top.tw1617357707322924660 : Nat := 0
noncomputable def top.tw6127594578889010139 : Nat := 0
noncomputable def top.tw11133666699803404755 : Nat := 0
noncomputable def top.tw11334350811105764591 : Nat := 0
noncomputable def top.tw5244899138074338376 : Nat := 0
noncomputable def top.tw1869187583165140508 : Nat := 0
noncomputable def top.tw3730354652608582461 : Nat := 0
noncomputable def top.tw8679839319945467846 : Nat := 0
noncomputable def top.tw908825868028484722 : Nat := 0
noncomputable def top.tw1814787853859245837 : Nat := 0
noncomputable def top.tw11922380849998532372 : Nat := 0
noncomputable def top.tw453181688931711583 : Nat := 0
noncomputable def top.tw16123964013534891561 : Nat := 0
noncomputable def top.tw13345470168829271861 : Nat := 0
noncomputable def top.tw13369591340354186047 : Nat := 0
noncomputable def top.tw3019106374644219109 : Nat := 0
noncomputable def top.tw16439428074185983240 : Nat := 0
noncomputable def top.tw6333448901615975916 : Nat := 0
noncomputable def top.tw8321918168302905379 : Nat := 0
noncomputable def top.tw11858546649754279707 : Nat := 0
noncomputable def top.tw14371913498598963198 : Nat := 0
noncomputable def top.tw16058212318047004132 : Nat := 0
noncomputable def top.tw5225153198818245361 : Nat := 0
noncomputable def top.tw390997316461189296 : Nat := 0
noncomputable def top.tw8735323631387419056 : Nat := 0
noncomputable def top.tw8645369167282567922 : Nat := 0
noncomputable def top.tw1284575025550258836 : Nat := 0
noncomputable def top.tw13272337422414781067 : Nat := 0
noncomputable def top.tw13359135706311490777 : Nat := 0
noncomputable def top.tw11762496359356365647 : Nat := 0
noncomputable def top.tw2985252069258134486 : Nat := 0
noncomputable def top.tw8139039716903228087 : Nat := 0
noncomputable def top.tw12425085872883035938 : Nat := 0
noncomputable def top.tw5088376156974544275 : Nat := 0
noncomputable def top.tw1149218181149386328 : Nat := 0
noncomputable def top.tw18064794426631996164 : Nat := 0
noncomputable def top.tw7847650389618582240 : Nat := 0
noncomputable def top.tw14901070454687303710 : Nat := 0
noncomputable def top.tw16580785732701462914 : Nat := 0
noncomputable def top.tw10006222313960134694 : Nat := 0
noncomputable def top.tw1275901062530889299 : Nat := 0
noncomputable def top.tw12342655685612074800 : Nat := 0
noncomputable def top.tw14826035006057030972 : Nat := 0
noncomputable def top.tw10936122117785486979 : Nat := 0
noncomputable def top.tw9961057766049560675 : Nat := 0
noncomputable def top.tw16759092144687519636 : Nat := 0
noncomputable def top.tw15092371282622821202 : Nat := 0
noncomputable def top.tw1676862907878916244 : Nat := 0
noncomputable def top.tw14263998999751124003 : Nat := 0
noncomputable def top.tw10259684700174049546 : Nat := 0
noncomputable def top.tw4551080515912023512 : Nat := 0
noncomputable def top.tw6431110157172167083 : Nat := 0
noncomputable def top.tw2126296398998916975 : Nat := 0
noncomputable def top.tw6919701780365589675 : Nat := 0
noncomputable def top.tw15976228082101565994 : Nat := 0
noncomputable def top.tw18085771088847121727 : Nat := 0
noncomputable def top.tw9301576168388766275 : Nat := 0
noncomputable def top.tw216529984938456764 : Nat := 0
noncomputable def top.tw5476889619067714990 : Nat := 0
noncomputable def top.tw17810072253543177317 : Nat := 0
noncomputable def top.tw3623408313619004113 : Nat := 0
noncomputable def top.tw13928562000808390012 : Nat := 0
noncomputable def top.tw17323899518341599180 : Nat := 0
noncomputable def top.tw5058314954733539658 : Nat := 0
noncomputable def top.tw4713442408853163898 : Nat := 0
noncomputable def top.tw8265191368974092141 : Nat := 0
noncomputable def top.tw14142502885225118848 : Nat := 0
noncomputable def top.tw2822501910515967889 : Nat := 0
noncomputable def top.tw877433047237710547 : Nat := 0
noncomputable def top.tw1585457916280141200 : Nat := 0
noncomputable def top.tw2731995056826638727 : Nat := 0
noncomputable def top.tw15058813355848621054 : Nat := 0
noncomputable def top.tw9063741608606530840 : Nat := 0
noncomputable def top.tw6438537300738474071 : Nat := 0
noncomputable def top.tw14168018189251442112 : Nat := 0
noncomputable def top.tw15503665604740900718 : Nat := 0
noncomputable def top.tw5581607755468803823 : Nat := 0
noncomputable def top.tw6664487174759623829 : Nat := 0
noncomputable def top.tw2835187731363253809 : Nat := 0
noncomputable def top.tw14402358008270493973 : Nat := 0
noncomputable def top.tw11459358961799972967 : Nat := 0
noncomputable def top.tw8184561461823581802 : Nat := 0
noncomputable def top.tw11423202765487971197 : Nat := 0
noncomputable def top.tw11960245374511038805 : Nat := 0
noncomputable def top.tw9059672392935016618 : Nat := 0
noncomputable def top.tw4655869559712951663 : Nat := 0
noncomputable def top.tw7429413206186439793 : Nat := 0
noncomputable def top.tw16155163154822807229 : Nat := 0
noncomputable def top.tw9601329371697537090 : Nat := 0
noncomputable def top.tw16782997733028217545 : Nat := 0
noncomputable def top.tw13177472732611162249 : Nat := 0
noncomputable def top.tw728428047077509346 : Nat := 0
noncomputable def top.tw7990429038631628895 : Nat := 0
noncomputable def top.tw72247145696351765 : Nat := 0
noncomputable def top.tw2145171640123136144 : Nat := 0
noncomputable def top.tw5118827330378232414 : Nat := 0
noncomputable def top.tw17565814175750979855 : Nat := 0
noncomputable def top.tw16900427199656544559 : Nat := 0
noncomputable def top.tw2581206410525282061 : Nat := 0
noncomputable def top.tw2057334267981633021 : Nat := 0
noncomputable def top.tw1886144042066472794 : Nat := 0
noncomputable def top.tw620129878449983639 : Nat := 0
noncomputable def top.tw14459580976405569124 : Nat := 0
noncomputable def top.tw9614876229902214918 : Nat := 0
noncomputable def top.tw6286779285267259847 : Nat := 0
noncomputable def top.tw5766051744304087583 : Nat := 0
noncomputable def top.tw10404823597219466188 : Nat := 0
noncomputable def top.tw4859757453598101857 : Nat := 0
noncomputable def top.tw5105846836358774362 : Nat := 0
noncomputable def top.tw9800703332001039478 : Nat := 0
noncomputable def top.tw14608685727046917156 : Nat := 0
noncomputable def top.tw15985961358823992270 : Nat := 0
noncomputable def top.tw14917401599646851644 : Nat := 0
noncomputable def top.tw5597187220613765494 : Nat := 0
noncomputable def top.tw10090393231696489298 : Nat := 0
noncomputable def top.tw2732273902793177162 : Nat := 0
noncomputable def top.tw11430207588045935325 : Nat := 0
noncomputable def top.tw4159251561096739476 : Nat := 0
noncomputable def top.tw10773188271377071773 : Nat := 0
noncomputable def top.tw4186445540838780016 : Nat := 0
noncomputable def top.tw11822869849415110333 : Nat := 0
noncomputable def top.tw18164388396756303480 : Nat := 0
noncomputable def top.tw2249405535684624136 : Nat := 0
noncomputable def top.tw2812155379371279736 : Nat := 0
noncomputable def top.tw6749217079512962374 : Nat := 0
noncomputable def top.tw6885214360128481674 : Nat := 0
noncomputable def top.tw5303079699428457377 : Nat := 0
noncomputable def top.tw1732150942055357024 : Nat := 0
noncomputable def top.tw6187478851450931391 : Nat := 0
noncomputable def top.tw15878805988109762761 : Nat := 0
noncomputable def top.tw9335426496214029073 : Nat := 0
noncomputable def top.tw18086089286151905521 : Nat := 0
noncomputable def top.tw6240723676877644813 : Nat := 0
noncomputable def top.tw13120753694373217308 : Nat := 0
noncomputable def top.tw5155950481276406077 : Nat := 0
noncomputable def top.tw16795567611416646642 : Nat := 0
noncomputable def top.tw2218668502564051296 : Nat := 0
noncomputable def top.tw16541100652227675460 : Nat := 0
noncomputable def top.tw8538268897159353584 : Nat := 0
noncomputable def top.tw11279390925490393535 : Nat := 0
noncomputable def top.tw17886615442053742456 : Nat := 0
noncomputable def top.tw2287823674025257028 : Nat := 0
noncomputable def top.tw5278709424875269971 : Nat := 0
noncomputable def top.tw3561193834555079511 : Nat := 0
noncomputable def top.tw17355269125676882429 : Nat := 0
noncomputable def top.tw11546936639936008217 : Nat := 0
noncomputable def top.tw10915162052029792233 : Nat := 0
noncomputable def top.tw14796646475526232899 : Nat := 0
noncomputable def top.tw6491118196486620199 : Nat := 0
noncomputable def top.tw105208000716104510 : Nat := 0
noncomputable def top.tw1492452104121835379 : Nat := 0
noncomputable def top.tw9378254376102152143 : Nat := 0
noncomputable def top.tw6859976401760118174 : Nat := 0
noncomputable def top.tw17470836177267949868 : Nat := 0
noncomputable def top.tw10956490626425055710 : Nat := 0
noncomputable def top.tw13896958669275611876 : Nat := 0
noncomputable def top.tw4498253355057717688 : Nat := 0
noncomputable def top.tw1139600151236580504 : Nat := 0
noncomputable def top.tw13303987763403120937 : Nat := 0
noncomputable def top.tw13889484949932952446 : Nat := 0
noncomputable def top.tw12622177474791663080 : Nat := 0
noncomputable def top.tw8892184565913893157 : Nat := 0
noncomputable def top.tw637196487639823708 : Nat := 0
noncomputable def top.tw16196420915677631385 : Nat := 0
noncomputable def top.tw16273406610938067001 : Nat := 0
noncomputable def top.tw9759319705405543751 : Nat := 0
noncomputable def top.tw17315540178315561739 : Nat := 0
noncomputable def top.tw12535971307161669396 : Nat := 0
noncomputable def top.tw12643491718579748851 : Nat := 0
noncomputable def top.tw1047907039808853306 : Nat := 0
noncomputable def top.tw6898770573198911631 : Nat := 0
noncomputable def top.tw15860264024139754761 : Nat := 0
noncomputable def top.tw4299629679881509495 : Nat := 0
noncomputable def top.tw12540527436937284434 : Nat := 0
noncomputable def top.tw12317137736924338119 : Nat := 0
noncomputable def top.tw1245559373397905713 : Nat := 0
noncomputable def top.tw12376051458212225564 : Nat := 0
noncomputable def top.tw16420938139371093754 : Nat := 0
noncomputable def top.tw10996937224433265937 : Nat := 0
noncomputable def top.tw18186074749648716422 : Nat := 0
noncomputable def top.tw788273225186049534 : Nat := 0
noncomputable def top.tw12318557346453588183 : Nat := 0
noncomputable def top.tw9763683289113042340 : Nat := 0
noncomputable def top.tw16325430554902658873 : Nat := 0
noncomputable def top.tw2443449257678562572 : Nat := 0
noncomputable def top.tw15683283827167961885 : Nat := 0
noncomputable def top.tw15361541807878343388 : Nat := 0
noncomputable def top.tw14987219478266130788 : Nat := 0
noncomputable def top.tw10005945817407372193 : Nat := 0
noncomputable def top.tw2867133514656366558 : Nat := 0
noncomputable def top.tw17492772389151264855 : Nat := 0
noncomputable def top.tw5969682004907312646 : Nat := 0
noncomputable def top.tw814325599930780420 : Nat := 0
noncomputable def top.tw14597223018079223185 : Nat := 0
noncomputable def top.tw9631074621892390191 : Nat := 0
noncomputable def top.tw1088946173253831356 : Nat := 0
noncomputable def top.tw17428532607074087071 : Nat := 0
noncomputable def top.tw342308947776675178 : Nat := 0
noncomputable def top.tw4205137553216949640 : Nat := 0
noncomputable def top.tw14282377253939248939 : Nat := 0
noncomputable def top.tw9059832203979395877 : Nat := 0
noncomputable def top.tw956942650209027819 : Nat := 0
noncomputable def top.tw15240379268576122478 : Nat := 0
noncomputable def top.tw3210909881063332861 : Nat := 0
noncomputable def top.tw8363718466572441477 : Nat := 0
noncomputable def top.tw17469865338272021226 : Nat := 0
noncomputable def top.tw12787338502077490372 : Nat := 0
noncomputable def top.tw12718909917080609646 : Nat := 0
noncomputable def top.tw15169761463676818070 : Nat := 0
noncomputable def top.tw12094960947251128927 : Nat := 0
noncomputable def top.tw6756868429301003459 : Nat := 0
noncomputable def top.tw16044733080236030384 : Nat := 0
noncomputable def top.tw17555251805378815213 : Nat := 0
noncomputable def top.tw8810280945414196856 : Nat := 0
noncomputable def top.tw13822267516522204269 : Nat := 0
noncomputable def top.tw670521403031812673 : Nat := 0
noncomputable def top.tw8507776931139520737 : Nat := 0
noncomputable def top.tw10648311167861321448 : Nat := 0
noncomputable def top.tw1483126911874232274 : Nat := 0
noncomputable def top.tw370947364307004932 : Nat := 0
noncomputable def top.tw13264354339760550358 : Nat := 0
noncomputable def top.tw987869383939708018 : Nat := 0
noncomputable def top.tw12958502747184954254 : Nat := 0
noncomputable def top.tw795583310449317561 : Nat := 0
noncomputable def top.tw9229161468869434483 : Nat := 0
noncomputable def top.tw1400011881503588481 : Nat := 0
noncomputable def top.tw5889316905344633881 : Nat := 0
noncomputable def top.tw2782073688633401757 : Nat := 0
noncomputable def top.tw8443935842833279946 : Nat := 0
noncomputable def top.tw9503340733035011235 : Nat := 0
noncomputable def top.tw2741389259953327712 : Nat := 0
noncomputable def top.tw16204670001084760307 : Nat := 0
noncomputable def top.tw339143206060000330 : Nat := 0
noncomputable def top.tw13889309363888878346 : Nat := 0
noncomputable def top.tw7414872774492366064 : Nat := 0
noncomputable def top.tw4166218997396506358 : Nat := 0
noncomputable def top.tw7458633546980236471 : Nat := 0
noncomputable def top.tw14390669486469195807 : Nat := 0
noncomputable def top.tw1142415686869020238 : Nat := 0
noncomputable def top.tw10448899703829047738 : Nat := 0
noncomputable def top.tw14611434983143301774 : Nat := 0
noncomputable def top.tw2514443458684651071 : Nat := 0
noncomputable def top.tw10187264123177260123 : Nat := 0
noncomputable def top.tw5523086135645875356 : Nat := 0
noncomputable def top.tw14084254815424685500 : Nat := 0
noncomputable def top.tw12385144161495827662 : Nat := 0
noncomputable def top.tw517144808224063464 : Nat := 0
noncomputable def top.tw12012865196380796599 : Nat := 0
noncomputable def top.tw11334415319851112604 : Nat := 0
noncomputable def top.tw13160728816969591200 : Nat := 0
noncomputable def top.tw2007660962349395123 : Nat := 0
noncomputable def top.tw2988451766255067171 : Nat := 0
noncomputable def top.tw575894324575664597 : Nat := 0
noncomputable def top.tw15362295582089109014 : Nat := 0
noncomputable def top.tw5868845118606482295 : Nat := 0
noncomputable def top.tw14861896470697024400 : Nat := 0
noncomputable def top.tw14372152842798730730 : Nat := 0
noncomputable def top.tw7855079511596107753 : Nat := 0
noncomputable def top.tw15177526630643400193 : Nat := 0
noncomputable def top.tw864819663365544661 : Nat := 0
noncomputable def top.tw3776753064480771068 : Nat := 0
noncomputable def top.tw6761616313442571491 : Nat := 0
noncomputable def top.tw4571971715460732019 : Nat := 0
noncomputable def top.tw15569959144833144457 : Nat := 0
noncomputable def top.tw9768079942903668216 : Nat := 0
noncomputable def top.tw6370870915552960936 : Nat := 0
noncomputable def top.tw9108098604805947806 : Nat := 0
noncomputable def top.tw224697296320739780 : Nat := 0
noncomputable def top.tw14020629218432114621 : Nat := 0
noncomputable def top.tw8345894832289464959 : Nat := 0
noncomputable def top.tw17486766287000646611 : Nat := 0
noncomputable def top.tw7673058066778466091 : Nat := 0
noncomputable def top.tw14533951869480809633 : Nat := 0
noncomputable def top.tw15747283374172101067 : Nat := 0
set_option Elab.async true in
theorem top : PySem.Challenge.rw_pb0114_01.Holds := by
  w_on
  o_law
  k_head
  (case hw => w_witness2)
  k_fill
  intro w s₀ s₁ mg mb G Y fa o pm cd doc dV kV ho hd hcd hD hmg hg args vals as hpre hlay hrd hwl hlo
  have KX : (Mine.HA.hd.heap_1_39 w.params).In s₁.heap := kIn_of Y
  have X := (Ground.X G).1
  have V := (Ground.X G).2
  try w_nolog (first | (have GL := glob_more (Ground.glob G (by first | k_qdec | decide +kernel) (by first | k_qdec | decide +kernel)) V) | (have GL := glob_more (Ground.glob G (by decide +kernel)) V))
  refine Ground.open G ?_
  intro T B D TE TW
  try (refine guard_noD D (by decide +kernel) ?_; clear D)
  obtain ⟨_, _, M⟩ := bmod_of_top T
  have TA := at_of_top T
  try (obtain ⟨_, _, he, B0⟩ := based_of_top T rfl hmg ho hd; have he' : cd = _ := he; subst he'; clear he)
  clear hmg
  wrow_args hpre hlay hrd hwl hlo
  rename Heap.IsList _ _ _ => hL
  rename IntsAre _ _ => hI
  have K0 := below_caller s₁.heap
  have good : ∀ (ar : List WData) h' tk, (∀ b o, s₁.heap.get? b = some o → h'.get? b = some o) → GoodWG PySem.Challenge.rw_pb0114_01.row.claim (classAt s₀.heap) (ExcName.means s₀.heap) ar s₁ (.ok (.ret (.bool true))) { s₁ with heap := h', toks := tk } := fun ar h' tk hk =>
    GoodW.toG ⟨.inl ⟨.bool true, .bool true, [], rfl, fun _ => rfl, .bool true, law_post ar, fun _ => ⟨List.nodup_nil, fun a ha => nomatch ha⟩⟩, hk, rfl, hg⟩
  refine ⟨good _ s₁.heap s₁.toks fun _ _ e => e, ?_⟩
  refine wpC_call (codeC_mono (R := PostH s₁ [] [] (fun P _ => P = Is (.bool true)) (fun _ => False)) ?_ fun r s' z => ?_)
  rotate_left
  · obtain ⟨h', tk, rfl, z⟩ := z
    rcases r with e | (v | _ | _ | v)
    · cases e <;> first | exact z.elim | exact no_er z
    · exact z.elim
    · exact z.elim
    · exact z.elim
    · obtain ⟨kp, P, nw', rfl, rfl, _⟩ := z
      exact good _ h' tk fun b o e => kp b o e (fun h => nomatch h)
  rename ¬ (63 : Int) < _ => hz
  clear good K0
  obtain rfl : dV = .none := hD.pos_none rfl
  obtain rfl : kV = .none := hD.kw_none rfl
  refine codeC_call_def (binds := [(Str.ofString "script", .ref _)]) (by unfold recursionLimit; decide) ho hd T.nolimit hcd rfl (BindsTo.of_eq rfl) (by dsimp only [docDef]; decide) (locs rfl) (fun h₁ hns hk₁ => ?_) rfl rfl rfl
  refine startM (S := sLaw) (A := []) (dp := 1 + claimMargin + 1) (un := 4 + 3) (outer := []) (nw₁ := []) (ob := fun _ => { cls := .none, data := .plain }) (lo₀ := [some (Is (.ref _)), none, none, none, none, none, none, none, none, none, none, none, none, none, none, none, none]) (objs := []) so_law (below_caller s₁.heap) KX KX T T ⟨hns, hk₁, Nat.le_refl _⟩ (fun p hp => nomatch hp) (fun e he => nomatch he) List.nodup_nil
    (locOk_zip (Ps := [Is (.ref _)]) 16 (fun i x v hx hv => lookup_zip (vs := [.ref _]) so_law.nd hx hv) (.cons rfl .nil) (Nat.le_of_ble_eq_true rfl)) ⟨fun F' N' hn b o e hb => F'.keep b o e, Nat.le_refl _, fun b o e _ => e, fun b o e _ => e⟩ (fun q hq => nomatch hq) (fun a ha => nomatch ha)
    fun V e1 e2 e3 e4 e5 e6 e7 e8 ok => law_x ok (by rw [e2]; decide) (by rw [e3]; decide) (by rw [e8]; rfl) ⟨_, e4.symm ▸ hL, hI⟩ (by omega) fun lo nw => rfl
end Mine
end
theorem PySem.Challenge.cw_pb0114_01_holds : PySem.Challenge.rw_pb0114_01.Holds :=
  Mine.top
