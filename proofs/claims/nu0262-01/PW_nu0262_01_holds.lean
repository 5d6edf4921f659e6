import PyProof.Rows.All
import Wide.All
import OpenK.AllK
import Wide.FinOn
import Lean
import PySem.Challenge.RW_nu0262_01
open PySem PySem.W PyProof.Rows PySem.Calls PySem.Spec
set_option linter.all false
set_option compiler.extract_closed false
set_option genSizeOf false
set_option genInjectivity false
set_option Elab.async false
set_option maxRecDepth 100000
set_option maxHeartbeats 16000000
namespace Mine

-- Head
open_top hd for PySem.Challenge.rw_nu0262_01


-- Enter
theorem enter {prog : Program} {w : World} {A : Around} {s : Shared} {Q E : Value → Shared → Prop} {name qual : Str} {params : Arguments} {body : List Stmt} {scope : Scope}
    {dV kV doc pm cdv ct oc : Value} {an od : Option Addr} {osl : Array (Option Value)} {f : Addr} {args : List Value} {binds : List (Str × Value)} {base : Heap} {K : Frag}
    {p : Program} {loose : List Str} {mean : ExcName → Option Value} {mg mb : Str → Option Value} {news : List (Addr × Obj)}
    (X : K.In base) (T : Top p loose mean mg mb base) (hb : ∀ b o, base.get? b = some o → s.heap.get? b = some o) (hsz : base.objs.size ≤ s.heap.objs.size)
    (N : ∀ q ∈ news, s.heap.get? q.1 = some q.2 ∧ base.get? q.1 = none)
    (ho : K.lookup f = some ⟨oc, od, .func (fnOf name qual params body scope dV kV doc pm an cdv ct), osl⟩) (hcd : codeIn K cdv qual = true) (hroom : A.depth < recursionLimit)
    (hbind : BindsTo s (fnOf name qual params body scope dV kV doc pm an cdv ct) ⟨args, []⟩ binds) (hloc : ∀ y ∈ binds, scope.names.lookup y.1 = some .local)
    (hco : scope.isCoroutine = false) (hgen : scope.isGenerator = false) (hk : scope.kind = .function) (hcell : ∀ x ∈ scope.names, x.2 ≠ .cell)
    (h : ∀ L h₁, L = s.heap.objs.size → Fr base L h₁ (fun y => binds.reverse.lookup y) → News base L h₁ news →
      wpAny (model prog w) (A.deeper (envOf qual scope L f cdv)) (execs body (envOf qual scope L f cdv))
        (fun fl s' => Q (match fl with | .ret v => v | _ => .none) s') (fun _ _ => False)
        { s with heap := h₁, toks := s.toks + binds.length }) :
    wpAny (model prog w) A (call (.ref f) args) Q E s := by
  refine wpAny_call (codeAny_call_def (fd := fnOf name qual params body scope dV kV doc pm an cdv ct) (body := body) (binds := binds) hroom (hb _ _ (X _ _ ho)) rfl (T.nolimit.keeps hb) (codeRec_of (X.keeps hb) hcd) rfl hbind hcell hloc (fun h₁ hns hk₁ => ?_) hco hgen hk)
  refine wpAny_mono (h _ h₁ rfl ⟨hns, fun b o e => hk₁ b o (hb _ _ e), hsz⟩ (fun q hq => ⟨hk₁ _ _ (N q hq).1, Nat.ne_of_lt (Heap.lt_size (N q hq).1), (N q hq).2⟩)) (fun fl s' hl => hl) (fun _ _ x => x.elim)

theorem enterC {prog : Program} {w : World} {A : Around} {s : Shared} {Q E : Value → Shared → Prop} {name qual : Str} {params : Arguments} {body : List Stmt} {scope : Scope}
    {dV kV doc pm cdv ct oc : Value} {an od : Option Addr} {osl : Array (Option Value)} {f : Addr} {args : List Value} {binds : List (Str × Value)} {base : Heap} {K : Frag}
    {p : Program} {loose : List Str} {mean : ExcName → Option Value} {mg mb : Str → Option Value} {news : List (Addr × Obj)}
    (X : K.In base) (T : Top p loose mean mg mb base) (hb : ∀ b o, base.get? b = some o → s.heap.get? b = some o) (hsz : base.objs.size ≤ s.heap.objs.size)
    (N : ∀ q ∈ news, s.heap.get? q.1 = some q.2 ∧ base.get? q.1 = none)
    (ho : K.lookup f = some ⟨oc, od, .func (fnOf name qual params body scope dV kV doc pm an cdv ct), osl⟩) (hcd : codeIn K cdv qual = true) (hroom : A.depth < recursionLimit)
    (hbind : BindsTo s (fnOf name qual params body scope dV kV doc pm an cdv ct) ⟨args, []⟩ binds)
    (hkind : (binds.all fun y => scope.names.lookup y.1 == some .local || scope.names.lookup y.1 == some .cell) = true)
    (hnd : ((cellsFrom 0 scope.names []).map (·.1)).Nodup)
    (hco : scope.isCoroutine = false) (hgen : scope.isGenerator = false) (hk : scope.kind = .function)
    (h : ∀ L h₁ tk cells, L = s.heap.objs.size → Fr base L h₁ (bindL (envOfC qual scope L f cdv).kindOf binds fun _ => none) → News base L h₁ (cells ++ news) →
      CellsAre (bindC (envOfC qual scope L f cdv).kindOf binds fun _ => none) (cellsFrom (L + 1) scope.names []) cells → (∀ q ∈ news, q.1 < L) →
      wpAny (model prog w) (A.deeper (envOfC qual scope L f cdv)) (execs body (envOfC qual scope L f cdv))
        (fun fl s' => Q (match fl with | .ret v => v | _ => .none) s') (fun _ _ => False)
        { s with heap := h₁, toks := tk }) :
    wpAny (model prog w) A (call (.ref f) args) Q E s := by
  refine wpAny_call (codeAny_call_function hroom (hb _ _ (X _ _ ho)) rfl hco hgen rfl (codeRec_of (X.keeps hb) hcd) (hbind _ _ _ _ ?_))
  refine wpAny_newFunctionEnv_cells hk (kindsX hkind _) fun env' he s' x => ?_
  subst he
  refine ⟨(T.nolimit.keeps hb).keeps x.toInCall.keep, codeAny_func ?_⟩
  obtain ⟨h₁, tk, rfl, _⟩ := x.done
  have hk₁ := x.toInCall.keep
  obtain ⟨cells, NC, Y⟩ := Cl.news (h₀ := s.heap) (Nat.le_refl _) fun n c hm => ⟨x.cell n c (lookup_of_mem_nodup (cellsFrom_names scope.names 0 (s.heap.objs.size + 1) [] [] rfl ▸ hnd) hm), x.above n c hm⟩
  refine wpAny_mono (h _ h₁ tk cells rfl ⟨x.toInCall.ns, fun b o e => hk₁ b o (hb _ _ e), hsz⟩ (fun q hq => ?_) Y fun q hq => Heap.lt_size (N q hq).1) (fun fl s' hl => hl) (fun _ _ y => y.elim)
  rcases List.mem_append.mp hq with hq | hq
  · refine ⟨(NC q hq).1, (NC q hq).2.1, ?_⟩
    cases e : base.get? q.1 with
    | none => rfl
    | some o => have := hb _ _ e; rw [(NC q hq).2.2] at this; cases this
  · exact ⟨hk₁ _ _ (N q hq).1, Nat.ne_of_lt (Heap.lt_size (N q hq).1), (N q hq).2⟩
theorem my_item {prog : Program} {w : World} {A : Around} {s : Shared} {E : Value → Shared → Prop} {base : Heap} {L : Addr} {m : Str → Option Value} {value slice : Expr} {t : Addr} {l : List Value} {k : Int} {u : Tok} {j : Nat} {x : Value} {Q : Value → Shared → Prop}
    (ht : IsTup base t l.toArray) (F : Fr base L s.heap m)
    (hlo : -(2 ^ 63) ≤ k) (hhi : k < 2 ^ 63) (hj : seqIndex? k l.length = some j) (hx : l[j]? = some x) (h : Q x s)
    (hs : subscripted slice false (.ref t) (.int k u) = operate [.ref t, .int k u] (getItem (.ref t) (.int k u)) := by with_unfolding_all rfl) :
    wpAny (model prog w) A (subscriptTail value slice (.ref t) (.int k u)) Q E s := item_tupleT (ht.keeps F.keep) hlo hhi hj hx h hs
noncomputable def Stop (P : Prop) : Prop := P
theorem Stop.mk {P : Prop} (h : Stop P) : P := h
theorem Stop.of {P : Prop} (h : P) : Stop P := h
theorem stop_call {M : Model} {A : Around} {a : Addr} {xs : List Value} {Q : Value → Shared → Prop} {E : Value → Shared → Prop} {s : Shared} (h : Stop (wpAny M A (call (.ref a) xs) Q E s)) : wpAny M A (call (.ref a) xs) Q E s := h
theorem stop_comp {M : Model} {A : Around} {e : Expr} {g : List Comprehension} {sc : Scope} {p : Pos} {env : Env} {Q : Value → Shared → Prop} {E : Value → Shared → Prop} {s : Shared} (h : Stop (wpAny M A (eval (.ListComp e g sc p) env) Q E s)) : wpAny M A (eval (.ListComp e g sc p) env) Q E s := h
theorem stop_eq {M : Model} {A : Around} {a b : Addr} {Q : Value → Shared → Prop} {E : Value → Shared → Prop} {s : Shared} (h : Stop (wpAny M A (compareOp .Eq (.ref a) (.ref b)) Q E s)) : wpAny M A (compareOp .Eq (.ref a) (.ref b)) Q E s := h
theorem stop_ne {M : Model} {A : Around} {a b : Addr} {Q : Value → Shared → Prop} {E : Value → Shared → Prop} {s : Shared} (h : Stop (wpAny M A (compareOp .NotEq (.ref a) (.ref b)) Q E s)) : wpAny M A (compareOp .NotEq (.ref a) (.ref b)) Q E s := h
theorem stop_for {M : Model} {A : Around} {t i : Expr} {b o : List Stmt} {p : Pos} {env : Env} {Q : Flow → Shared → Prop} {E : Value → Shared → Prop} {s : Shared} (h : Stop (wpAny M A (exec (.For t i b o p) env) Q E s)) : wpAny M A (exec (.For t i b o p) env) Q E s := h
theorem stop_add {M : Model} {A : Around} {a b : Addr} {Q : Value → Shared → Prop} {E : Value → Shared → Prop} {s : Shared} (h : Stop (wpAny M A (binaryOp .Add (.ref a) (.ref b)) Q E s)) : wpAny M A (binaryOp .Add (.ref a) (.ref b)) Q E s := h
theorem my_ite_f {a b : Str} {P Q : Prop} {inst : Decidable ((a == b) = true)} (e : (a == b) = false) (h : Q) : @ite Prop ((a == b) = true) inst P Q := by
  rw [if_neg (by rw [e]; decide)]; exact h
theorem my_ite_t {a b : Str} {P Q : Prop} {inst : Decidable ((a == b) = true)} (e : (a == b) = true) (h : P) : @ite Prop ((a == b) = true) inst P Q := by
  rw [if_pos e]; exact h

theorem wpAny_gen {α : Type} {M : Model} {A : Around} {m : Sem α} {Q : α → Shared → Prop} {E : Value → Shared → Prop} {s : Shared} (h : ∀ P : α → Shared → Prop, (∀ a s', Q a s' → P a s') → wpAny M A m P E s) : wpAny M A m Q E s := h Q fun _ _ x => x
theorem room0 {d a c e : Nat} (h : d + a < c) (k : Nat.ble c e = true) : d < e := by have := Nat.le_of_ble_eq_true k; omega
theorem room0x {d x a c e : Nat} (h : d + x + a < c) (k : Nat.ble c e = true) : d < e := by have := Nat.le_of_ble_eq_true k; omega
theorem room1 {d a b c m : Nat} (h : d + a < c) (k : Nat.ble (m + b) a = true) : d + m + b < c := by have := Nat.le_of_ble_eq_true k; omega
theorem room1x {d x a b c m : Nat} (h : d + x + a < c) (k : Nat.ble (m + b) a = true) : d + m + x + b < c := by have := Nat.le_of_ble_eq_true k; omega
theorem room2 {d a c m e : Nat} (h : d + a < c) (k : (Nat.ble m a && Nat.ble c e) = true) : d + m < e := by
  rw [Bool.and_eq_true] at k
  have := Nat.le_of_ble_eq_true k.1; have := Nat.le_of_ble_eq_true k.2; omega
theorem room2x {d x a c m e : Nat} (h : d + x + a < c) (k : (Nat.ble m a && Nat.ble c e) = true) : d + m < e := by
  rw [Bool.and_eq_true] at k
  have := Nat.le_of_ble_eq_true k.1; have := Nat.le_of_ble_eq_true k.2; omega
theorem room3 {d a b c m e : Nat} (h : d + a < c) (k : Nat.ble (c + (m + b)) e = true) : d + m + b < e := by have := Nat.le_of_ble_eq_true k; omega
theorem room3x {d x a b c m e : Nat} (h : d + x + a < c) (k : Nat.ble (c + (m + b)) e = true) : d + m + b < e := by have := Nat.le_of_ble_eq_true k; omega

local macro_rules | `(tactic| walk_at "ROOM") => `(tactic| first | exact room0 (by assumption) rfl | exact room0x (by assumption) rfl | exact room1 (by assumption) rfl | exact room1x (by assumption) rfl | exact room2 (by assumption) rfl | exact room2x (by assumption) rfl | exact room3 (by assumption) rfl | exact room3x (by assumption) rfl | omega)
local macro_rules | `(tactic| walk_at "ite") => `(tactic| with_reducible (first | refine my_ite_f (by first | assumption | decide) ?_ | refine my_ite_t (by decide) ?_))
local macro_rules | `(tactic| walk_at "subscriptTail") => `(tactic| ((with_reducible show wpAny _ _ (subscriptTail _ _ (Value.ref _) (Value.int _ _)) _ _ _); refine my_item (by assumption) (by assumption) (by decide) (by decide) (by rfl) (by rfl) ?_))
local macro_rules | `(tactic| walk_at "call ref") => `(tactic| with_reducible refine stop_call ?_)
local macro_rules | `(tactic| walk_at "eval ListComp") => `(tactic| with_reducible refine stop_comp ?_)
local macro_rules | `(tactic| walk_at "exec Assign cons ListComp") => `(tactic| refine wpAny_Assign_Name ?_)
local macro_rules | `(tactic| walk_at "pyIter ref") => `(tactic| ((with_reducible show wpAny _ _ (pyIter (Value.ref _)) (fun it s₂ => CompAt _ _ _ _ _ _ _ _ _ _ it s₂) _ _); refine Stop.mk ?_))
local macro_rules | `(tactic| walk_at "pyIter ref") => `(tactic| ((with_reducible show wpAny _ _ (pyIter (Value.ref _)) (fun it s₂ => Comp2Ex _ _ _ _ _ _ _ _ _ _ _ _ it s₂) _ _); refine Stop.mk ?_))
local macro_rules | `(tactic| walk_at "compareOp Eq ref ref") => `(tactic| with_reducible refine stop_eq ?_)
local macro_rules | `(tactic| walk_at "compareOp NotEq ref ref") => `(tactic| with_reducible refine stop_ne ?_)
local macro_rules | `(tactic| walk_at "exec For Name Call cons nil") => `(tactic| with_reducible refine stop_for ?_)
local macro_rules | `(tactic| walk_at "exec For Name Name cons nil") => `(tactic| with_reducible refine stop_for ?_)
local macro_rules | `(tactic| walk_at "exec For Name Subscript cons nil") => `(tactic| with_reducible refine stop_for ?_)
local macro_rules | `(tactic| walk_at "pyIter ref") => `(tactic| ((with_reducible show wpAny _ _ (pyIter (Value.ref _)) (fun it s₂ => codeAny _ _ (Code.forLoop _ it _ _ _) _ s₂) _ _); refine Stop.mk ?_))
local macro_rules | `(tactic| walk_at "binaryOp Add ref ref") => `(tactic| with_reducible refine stop_add ?_)
local macro_rules | `(tactic| walk_at "call builtin:list.append") => `(tactic| ((with_reducible show wpAny _ _ (call (Value.builtin _) [Value.ref _, _]) _ _ _); refine Stop.mk ?_))
local macro_rules | `(tactic| walk_at "MY") => `(tactic| repeat' (first | (k_unfold; (try dsimp only)) | (dsimp only; walk1) | walk1))

-- FrPut
theorem Fr.toF {base h : Heap} {L : Addr} {m m' : Str → Option Value} (F : Fr base L h m) (e : ∀ y, m y = m' y) : Fr base L h m' := by
  rw [show m' = m from funext fun y => (e y).symm]; exact F
theorem Fr.p0k1 {base h : Heap} {L : Addr} {m : Str → Option Value} {x1 : Str} {v1 : Value} (F : Fr base L h m) (h1 : m x1 = some v1) : Fr base L h (fun y => if y = x1 then some v1 else m y) := by
  refine Fr.toF F fun y => ?_
  by_cases e1 : y = x1
  · rw [if_pos e1, e1, h1]
  rw [if_neg e1]
theorem Fr.p0k2 {base h : Heap} {L : Addr} {m : Str → Option Value} {x1 x2 : Str} {v1 v2 : Value} (F : Fr base L h m) (h1 : m x1 = some v1) (h2 : m x2 = some v2) : Fr base L h (fun y => if y = x1 then some v1 else if y = x2 then some v2 else m y) := by
  refine Fr.toF F fun y => ?_
  by_cases e1 : y = x1
  · rw [if_pos e1, e1, h1]
  rw [if_neg e1]
  by_cases e2 : y = x2
  · rw [if_pos e2, e2, h2]
  rw [if_neg e2]
theorem Fr.p0k3 {base h : Heap} {L : Addr} {m : Str → Option Value} {x1 x2 x3 : Str} {v1 v2 v3 : Value} (F : Fr base L h m) (h1 : m x1 = some v1) (h2 : m x2 = some v2) (h3 : m x3 = some v3) : Fr base L h (fun y => if y = x1 then some v1 else if y = x2 then some v2 else if y = x3 then some v3 else m y) := by
  refine Fr.toF F fun y => ?_
  by_cases e1 : y = x1
  · rw [if_pos e1, e1, h1]
  rw [if_neg e1]
  by_cases e2 : y = x2
  · rw [if_pos e2, e2, h2]
  rw [if_neg e2]
  by_cases e3 : y = x3
  · rw [if_pos e3, e3, h3]
  rw [if_neg e3]
theorem Fr.p0k4 {base h : Heap} {L : Addr} {m : Str → Option Value} {x1 x2 x3 x4 : Str} {v1 v2 v3 v4 : Value} (F : Fr base L h m) (h1 : m x1 = some v1) (h2 : m x2 = some v2) (h3 : m x3 = some v3) (h4 : m x4 = some v4) : Fr base L h (fun y => if y = x1 then some v1 else if y = x2 then some v2 else if y = x3 then some v3 else if y = x4 then some v4 else m y) := by
  refine Fr.toF F fun y => ?_
  by_cases e1 : y = x1
  · rw [if_pos e1, e1, h1]
  rw [if_neg e1]
  by_cases e2 : y = x2
  · rw [if_pos e2, e2, h2]
  rw [if_neg e2]
  by_cases e3 : y = x3
  · rw [if_pos e3, e3, h3]
  rw [if_neg e3]
  by_cases e4 : y = x4
  · rw [if_pos e4, e4, h4]
  rw [if_neg e4]
theorem Fr.p0k5 {base h : Heap} {L : Addr} {m : Str → Option Value} {x1 x2 x3 x4 x5 : Str} {v1 v2 v3 v4 v5 : Value} (F : Fr base L h m) (h1 : m x1 = some v1) (h2 : m x2 = some v2) (h3 : m x3 = some v3) (h4 : m x4 = some v4) (h5 : m x5 = some v5) : Fr base L h (fun y => if y = x1 then some v1 else if y = x2 then some v2 else if y = x3 then some v3 else if y = x4 then some v4 else if y = x5 then some v5 else m y) := by
  refine Fr.toF F fun y => ?_
  by_cases e1 : y = x1
  · rw [if_pos e1, e1, h1]
  rw [if_neg e1]
  by_cases e2 : y = x2
  · rw [if_pos e2, e2, h2]
  rw [if_neg e2]
  by_cases e3 : y = x3
  · rw [if_pos e3, e3, h3]
  rw [if_neg e3]
  by_cases e4 : y = x4
  · rw [if_pos e4, e4, h4]
  rw [if_neg e4]
  by_cases e5 : y = x5
  · rw [if_pos e5, e5, h5]
  rw [if_neg e5]
theorem Fr.p1k1 {base h : Heap} {L : Addr} {m : Str → Option Value} {z1 : Str} {w1 : Option Value} {x1 : Str} {v1 : Value} (F : Fr base L h (fun y => if y = z1 then w1 else m y)) (h1 : m x1 = some v1) : Fr base L h (fun y => if y = z1 then w1 else if y = x1 then some v1 else m y) := by
  refine Fr.toF F fun y => ?_
  by_cases q1 : y = z1
  · simp only [if_pos q1]
  simp only [if_neg q1]
  by_cases e1 : y = x1
  · rw [if_pos e1, e1, h1]
  rw [if_neg e1]
theorem Fr.p1k2 {base h : Heap} {L : Addr} {m : Str → Option Value} {z1 : Str} {w1 : Option Value} {x1 x2 : Str} {v1 v2 : Value} (F : Fr base L h (fun y => if y = z1 then w1 else m y)) (h1 : m x1 = some v1) (h2 : m x2 = some v2) : Fr base L h (fun y => if y = z1 then w1 else if y = x1 then some v1 else if y = x2 then some v2 else m y) := by
  refine Fr.toF F fun y => ?_
  by_cases q1 : y = z1
  · simp only [if_pos q1]
  simp only [if_neg q1]
  by_cases e1 : y = x1
  · rw [if_pos e1, e1, h1]
  rw [if_neg e1]
  by_cases e2 : y = x2
  · rw [if_pos e2, e2, h2]
  rw [if_neg e2]
theorem Fr.p1k3 {base h : Heap} {L : Addr} {m : Str → Option Value} {z1 : Str} {w1 : Option Value} {x1 x2 x3 : Str} {v1 v2 v3 : Value} (F : Fr base L h (fun y => if y = z1 then w1 else m y)) (h1 : m x1 = some v1) (h2 : m x2 = some v2) (h3 : m x3 = some v3) : Fr base L h (fun y => if y = z1 then w1 else if y = x1 then some v1 else if y = x2 then some v2 else if y = x3 then some v3 else m y) := by
  refine Fr.toF F fun y => ?_
  by_cases q1 : y = z1
  · simp only [if_pos q1]
  simp only [if_neg q1]
  by_cases e1 : y = x1
  · rw [if_pos e1, e1, h1]
  rw [if_neg e1]
  by_cases e2 : y = x2
  · rw [if_pos e2, e2, h2]
  rw [if_neg e2]
  by_cases e3 : y = x3
  · rw [if_pos e3, e3, h3]
  rw [if_neg e3]
theorem Fr.p1k4 {base h : Heap} {L : Addr} {m : Str → Option Value} {z1 : Str} {w1 : Option Value} {x1 x2 x3 x4 : Str} {v1 v2 v3 v4 : Value} (F : Fr base L h (fun y => if y = z1 then w1 else m y)) (h1 : m x1 = some v1) (h2 : m x2 = some v2) (h3 : m x3 = some v3) (h4 : m x4 = some v4) : Fr base L h (fun y => if y = z1 then w1 else if y = x1 then some v1 else if y = x2 then some v2 else if y = x3 then some v3 else if y = x4 then some v4 else m y) := by
  refine Fr.toF F fun y => ?_
  by_cases q1 : y = z1
  · simp only [if_pos q1]
  simp only [if_neg q1]
  by_cases e1 : y = x1
  · rw [if_pos e1, e1, h1]
  rw [if_neg e1]
  by_cases e2 : y = x2
  · rw [if_pos e2, e2, h2]
  rw [if_neg e2]
  by_cases e3 : y = x3
  · rw [if_pos e3, e3, h3]
  rw [if_neg e3]
  by_cases e4 : y = x4
  · rw [if_pos e4, e4, h4]
  rw [if_neg e4]
theorem Fr.p1k5 {base h : Heap} {L : Addr} {m : Str → Option Value} {z1 : Str} {w1 : Option Value} {x1 x2 x3 x4 x5 : Str} {v1 v2 v3 v4 v5 : Value} (F : Fr base L h (fun y => if y = z1 then w1 else m y)) (h1 : m x1 = some v1) (h2 : m x2 = some v2) (h3 : m x3 = some v3) (h4 : m x4 = some v4) (h5 : m x5 = some v5) : Fr base L h (fun y => if y = z1 then w1 else if y = x1 then some v1 else if y = x2 then some v2 else if y = x3 then some v3 else if y = x4 then some v4 else if y = x5 then some v5 else m y) := by
  refine Fr.toF F fun y => ?_
  by_cases q1 : y = z1
  · simp only [if_pos q1]
  simp only [if_neg q1]
  by_cases e1 : y = x1
  · rw [if_pos e1, e1, h1]
  rw [if_neg e1]
  by_cases e2 : y = x2
  · rw [if_pos e2, e2, h2]
  rw [if_neg e2]
  by_cases e3 : y = x3
  · rw [if_pos e3, e3, h3]
  rw [if_neg e3]
  by_cases e4 : y = x4
  · rw [if_pos e4, e4, h4]
  rw [if_neg e4]
  by_cases e5 : y = x5
  · rw [if_pos e5, e5, h5]
  rw [if_neg e5]
theorem Fr.p2k1 {base h : Heap} {L : Addr} {m : Str → Option Value} {z1 z2 : Str} {w1 w2 : Option Value} {x1 : Str} {v1 : Value} (F : Fr base L h (fun y => if y = z1 then w1 else if y = z2 then w2 else m y)) (h1 : m x1 = some v1) : Fr base L h (fun y => if y = z1 then w1 else if y = z2 then w2 else if y = x1 then some v1 else m y) := by
  refine Fr.toF F fun y => ?_
  by_cases q1 : y = z1
  · simp only [if_pos q1]
  simp only [if_neg q1]
  by_cases q2 : y = z2
  · simp only [if_pos q2]
  simp only [if_neg q2]
  by_cases e1 : y = x1
  · rw [if_pos e1, e1, h1]
  rw [if_neg e1]
theorem Fr.p2k2 {base h : Heap} {L : Addr} {m : Str → Option Value} {z1 z2 : Str} {w1 w2 : Option Value} {x1 x2 : Str} {v1 v2 : Value} (F : Fr base L h (fun y => if y = z1 then w1 else if y = z2 then w2 else m y)) (h1 : m x1 = some v1) (h2 : m x2 = some v2) : Fr base L h (fun y => if y = z1 then w1 else if y = z2 then w2 else if y = x1 then some v1 else if y = x2 then some v2 else m y) := by
  refine Fr.toF F fun y => ?_
  by_cases q1 : y = z1
  · simp only [if_pos q1]
  simp only [if_neg q1]
  by_cases q2 : y = z2
  · simp only [if_pos q2]
  simp only [if_neg q2]
  by_cases e1 : y = x1
  · rw [if_pos e1, e1, h1]
  rw [if_neg e1]
  by_cases e2 : y = x2
  · rw [if_pos e2, e2, h2]
  rw [if_neg e2]
theorem Fr.p2k3 {base h : Heap} {L : Addr} {m : Str → Option Value} {z1 z2 : Str} {w1 w2 : Option Value} {x1 x2 x3 : Str} {v1 v2 v3 : Value} (F : Fr base L h (fun y => if y = z1 then w1 else if y = z2 then w2 else m y)) (h1 : m x1 = some v1) (h2 : m x2 = some v2) (h3 : m x3 = some v3) : Fr base L h (fun y => if y = z1 then w1 else if y = z2 then w2 else if y = x1 then some v1 else if y = x2 then some v2 else if y = x3 then some v3 else m y) := by
  refine Fr.toF F fun y => ?_
  by_cases q1 : y = z1
  · simp only [if_pos q1]
  simp only [if_neg q1]
  by_cases q2 : y = z2
  · simp only [if_pos q2]
  simp only [if_neg q2]
  by_cases e1 : y = x1
  · rw [if_pos e1, e1, h1]
  rw [if_neg e1]
  by_cases e2 : y = x2
  · rw [if_pos e2, e2, h2]
  rw [if_neg e2]
  by_cases e3 : y = x3
  · rw [if_pos e3, e3, h3]
  rw [if_neg e3]
theorem Fr.p2k4 {base h : Heap} {L : Addr} {m : Str → Option Value} {z1 z2 : Str} {w1 w2 : Option Value} {x1 x2 x3 x4 : Str} {v1 v2 v3 v4 : Value} (F : Fr base L h (fun y => if y = z1 then w1 else if y = z2 then w2 else m y)) (h1 : m x1 = some v1) (h2 : m x2 = some v2) (h3 : m x3 = some v3) (h4 : m x4 = some v4) : Fr base L h (fun y => if y = z1 then w1 else if y = z2 then w2 else if y = x1 then some v1 else if y = x2 then some v2 else if y = x3 then some v3 else if y = x4 then some v4 else m y) := by
  refine Fr.toF F fun y => ?_
  by_cases q1 : y = z1
  · simp only [if_pos q1]
  simp only [if_neg q1]
  by_cases q2 : y = z2
  · simp only [if_pos q2]
  simp only [if_neg q2]
  by_cases e1 : y = x1
  · rw [if_pos e1, e1, h1]
  rw [if_neg e1]
  by_cases e2 : y = x2
  · rw [if_pos e2, e2, h2]
  rw [if_neg e2]
  by_cases e3 : y = x3
  · rw [if_pos e3, e3, h3]
  rw [if_neg e3]
  by_cases e4 : y = x4
  · rw [if_pos e4, e4, h4]
  rw [if_neg e4]
theorem Fr.p2k5 {base h : Heap} {L : Addr} {m : Str → Option Value} {z1 z2 : Str} {w1 w2 : Option Value} {x1 x2 x3 x4 x5 : Str} {v1 v2 v3 v4 v5 : Value} (F : Fr base L h (fun y => if y = z1 then w1 else if y = z2 then w2 else m y)) (h1 : m x1 = some v1) (h2 : m x2 = some v2) (h3 : m x3 = some v3) (h4 : m x4 = some v4) (h5 : m x5 = some v5) : Fr base L h (fun y => if y = z1 then w1 else if y = z2 then w2 else if y = x1 then some v1 else if y = x2 then some v2 else if y = x3 then some v3 else if y = x4 then some v4 else if y = x5 then some v5 else m y) := by
  refine Fr.toF F fun y => ?_
  by_cases q1 : y = z1
  · simp only [if_pos q1]
  simp only [if_neg q1]
  by_cases q2 : y = z2
  · simp only [if_pos q2]
  simp only [if_neg q2]
  by_cases e1 : y = x1
  · rw [if_pos e1, e1, h1]
  rw [if_neg e1]
  by_cases e2 : y = x2
  · rw [if_pos e2, e2, h2]
  rw [if_neg e2]
  by_cases e3 : y = x3
  · rw [if_pos e3, e3, h3]
  rw [if_neg e3]
  by_cases e4 : y = x4
  · rw [if_pos e4, e4, h4]
  rw [if_neg e4]
  by_cases e5 : y = x5
  · rw [if_pos e5, e5, h5]
  rw [if_neg e5]


-- Comp

noncomputable def TupO (o : Obj) : Prop := o.cls = .type "tuple" ∧ ∃ xs n, o.data = .seq xs n

section
variable {prog : Program} {w : World} {A : Around} {R : Result → Shared → Prop} {s : Shared}


noncomputable def TurnEnd (s : Shared) (M : List Addr) (h : Heap) (P : Heap → Shared → Prop) (s' : Shared) : Prop :=
  ∃ h' tk', s' = { s with heap := h', toks := tk' } ∧ (∀ b o, b ∉ M → h.get? b = some o → h'.get? b = some o) ∧ P h' s'
theorem TurnEnd.intro {s : Shared} {M : List Addr} {h h' : Heap} {tk' : Nat} {P : Heap → Shared → Prop} (hk : ∀ b o, b ∉ M → h.get? b = some o → h'.get? b = some o) (p : P h' { s with heap := h', toks := tk' }) : TurnEnd s M h P { s with heap := h', toks := tk' } :=
  ⟨h', tk', rfl, hk, p⟩
noncomputable def Kept (h₀ : Heap) (M wr Cs : List Addr) (D : Addr) (h : Heap) : Prop := ∀ b o, b ∉ M → b ∉ wr → b ∉ Cs → b ≠ D → h₀.get? b = some o → h.get? b = some o

inductive LoopI (s : Shared) (n c : Nat) (St : Nat → Heap → Prop) (D : Addr) (Bd : Heap → Option Value → Prop) (J : Nat → List Value → Heap → Prop) (K : Heap → Prop) : Nat → Shared → Prop
  | mk (i : Nat) (h : Heap) (tk : Nat) (u : Option Value) (ys : List Value) (hi : i ≤ n) (hys : ys.length ≤ c + i) (hst : St i h) (hacc : h.PlainList D (List.toArray ys)) (hn : Bd h u) (hj : J i ys h) (hk : K h) :
    LoopI s n c St D Bd J K (n + 1 - i) { s with heap := h, toks := tk }
theorem dn {i n : Nat} (h : i < n) : n + 1 - (i + 1) < n + 1 - i := by omega
theorem comp_turn {elt : Expr} {x : Str} {px : Pos} {ifs : List Expr} {I D : Addr} {fp wr : List Addr} {n c : Nat} {P : Nat → Value → Prop} {St : Nat → Heap → Prop}
    {cenv : Env} (W : Walks prog w A I fp wr n P St) (Cs M : List Addr) (N₂ : Nat) (Bd : Heap → Option Value → Prop) (J : Nat → List Value → Heap → Prop)
    (hBd : ∀ h h' u, Bd h u → (∀ b ∈ Cs, ∀ o, h.get? b = some o → h'.get? b = some o) → Bd h' u)
    (hasg : ∀ v u (s : Shared) (Q : Unit → Shared → Prop) E, Bd s.heap u → (∀ h' tk, Bd h' (some v) → (∀ b o, b ∉ Cs → s.heap.get? b = some o → h'.get? b = some o) → Q () { s with heap := h', toks := tk }) →
      wpAny (model prog w) A (assign (.Name x px) cenv v) Q E s)
    (hCf : ∀ b ∈ Cs, b ∉ fp) (hDC : D ∉ Cs) (hDf : D ∉ fp) (hM : ∀ b ∈ M, b ∉ fp ∧ b ∉ Cs ∧ b ≠ D)
    (hshW : ∀ i h, St i h → ∀ b ∈ wr, ∀ o, h.get? b = some o → ¬ TupO o) (hshC : ∀ h u, Bd h u → ∀ b ∈ Cs, ∀ o, h.get? b = some o → ¬ TupO o)
    (hlow : ∀ b ∈ Cs, N₂ ≤ b) (hlowD : N₂ ≤ D)
    (hJ : ∀ i ys h h', J i ys h → (∀ b o, (TupO o ∨ (b < N₂ ∧ b ∉ wr)) → h.get? b = some o → h'.get? b = some o) → J i ys h')
    (hturn : ∀ i v ys h tk, i < n → P i v → Bd h (some v) → (∀ b o, b ∉ M → b ∉ wr → b ∉ Cs → b ≠ D → s.heap.get? b = some o → h.get? b = some o) → J i ys h →
      wpAny (model prog w) A (forIn ifs true fun c r => if r = true then do let ok ← isTrue c cenv (eval c cenv); pure (ForInStep.yield ok) else pure (ForInStep.yield r))
        (fun ok s₃ => TurnEnd s M h (fun h₃ s₃ =>
          if ok = true then wpAny (model prog w) A (eval elt cenv) (fun y s₄ => TurnEnd s M h₃ (fun h₄ _ => J (i + 1) (ys ++ [y]) h₄) s₄) (fun _ _ => False) s₃
          else J (i + 1) ys h₃) s₃) (fun _ _ => False) { s with heap := h, toks := tk })
    (hR : ∀ h' tk u ys, Bd h' u → h'.PlainList D ys.toArray → J n ys h' → (∀ b o, b ∉ M → b ∉ wr → b ∉ Cs → b ≠ D → s.heap.get? b = some o → h'.get? b = some o) → R (.ok .next) { s with heap := h', toks := tk })
    (hsz : c + n ≤ sizeLine) : ∀ k s', LoopI s n c St D Bd J (Kept s.heap M wr Cs D) k s' → wpAny (model prog w) A (pyNext (.ref I)) (fun r s₁ => match r with
      | none => R (.ok .next) s₁
      | some v => wpAny (model prog w) A (assign (.Name x px) cenv v) (fun _ s₂ =>
          wpAny (model prog w) A (forIn ifs true fun c r => if r = true then do let ok ← isTrue c cenv (eval c cenv); pure (ForInStep.yield ok) else pure (ForInStep.yield r)) (fun ok s₃ =>
            if ok = true then wpAny (model prog w) A (eval elt cenv) (fun x s₄ =>
              wpAny (model prog w) A (call (.builtin "list.append") [.ref D, x]) (fun _ s₅ => ∃ m, m < k ∧ LoopI s n c St D Bd J (Kept s.heap M wr Cs D) m s₅) (notedBy (model prog w) A cenv fun e s' => R (.error e) s') s₄) (notedBy (model prog w) A cenv fun e s' => R (.error e) s') s₃
            else ∃ m, m < k ∧ LoopI s n c St D Bd J (Kept s.heap M wr Cs D) m s₃) (notedBy (model prog w) A cenv fun e s' => R (.error e) s') s₂) (notedBy (model prog w) A cenv fun e s' => R (.error e) s') s₁) (notedBy (model prog w) A cenv fun e s' => R (.error e) s') s' := by
  rintro _ _ ⟨i, H, tk, u, ys, hi, hys, hst', hacc', hn', hj', hk⟩
  have hCw : ∀ b ∈ Cs, b ∉ wr := fun b hb h => hCf b hb (W.sub _ h)
  have hDw : D ∉ wr := fun h => hDf (W.sub _ h)
  have hMw : ∀ b ∈ M, b ∉ wr := fun b hb h => (hM b hb).1 (W.sub _ h)
  by_cases hlt : i < n
  · refine W.item i _ _ _ hlt hst' fun v h₁ tk₁ hPv hst₁ hk₁ => ?_
    have hj₁ : J i ys h₁ := hJ i ys H h₁ hj' fun b o hc e => hk₁ b o (by
      rcases hc with ht | ⟨_, hw⟩
      · exact fun hb => hshW i H hst' b hb o e ht
      · exact hw) e
    refine hasg v u { s with heap := h₁, toks := tk₁ } _ _ (hBd _ _ _ hn' fun b hb o e => hk₁ b o (hCw b hb) e) fun h₂ tk₂ hn₂ hk₂ => ?_
    have hst₂ : St (i + 1) h₂ := W.frame _ _ _ hst₁ fun b hb o e => hk₂ b o (fun h => hCf b h hb) e
    have hBd₁ : Bd h₁ u := hBd _ _ _ hn' fun b hb o e => hk₁ b o (hCw b hb) e
    have hj₂ : J i ys h₂ := hJ i ys h₁ h₂ hj₁ fun b o hc e => hk₂ b o (by
      rcases hc with ht | ⟨hlt, _⟩
      · exact fun hb => hshC h₁ u hBd₁ b hb o e ht
      · exact fun hb => Nat.lt_irrefl _ (Nat.lt_of_lt_of_le hlt (hlow b hb))) e
    have hacc₂ : h₂.PlainList D ys.toArray := (hacc'.at fun o e => hk₁ D o hDw e).at fun o e => hk₂ D o hDC e
    have hkk : ∀ b o, b ∉ M → b ∉ wr → b ∉ Cs → b ≠ D → s.heap.get? b = some o → h₂.get? b = some o := fun b o a1 a2 a3 a4 e => hk₂ b o a3 (hk₁ b o a2 (hk b o a1 a2 a3 a4 e))
    refine wpAny_mono (hturn i v ys h₂ tk₂ hlt hPv hn₂ hkk hj₂) (fun ok s₃ h₃ => ?_) fun _ _ e => e.elim
    obtain ⟨h₃, tk₃, rfl, hk₃, hc⟩ := h₃
    have hst₃ : St (i + 1) h₃ := W.frame _ _ _ hst₂ fun b hb o e => hk₃ b o (fun h => (hM b h).1 hb) e
    have hacc₃ : h₃.PlainList D ys.toArray := hacc₂.at fun o e => hk₃ D o (fun h => (hM D h).2.2 rfl) e
    have hn₃ : Bd h₃ (some v) := hBd _ _ _ hn₂ fun b hb o e => hk₃ b o (fun h => (hM b h).2.1 hb) e
    cases ok with
    | false =>
      simp only [Bool.false_eq_true, if_false] at hc ⊢
      exact ⟨_, dn hlt, .mk (i + 1) h₃ tk₃ _ ys hlt (Nat.le_succ_of_le hys) hst₃ hacc₃ hn₃ hc fun b o a1 a2 a3 a4 e => hk₃ b o a1 (hkk b o a1 a2 a3 a4 e)⟩
    | true =>
      simp only [if_true] at hc ⊢
      refine wpAny_mono hc (fun y s₄ h₄ => ?_) fun _ _ e => e.elim
      obtain ⟨h₄, tk₄, rfl, hk₄, hj₄⟩ := h₄
      have hst₄ : St (i + 1) h₄ := W.frame _ _ _ hst₃ fun b hb o e => hk₄ b o (fun h => (hM b h).1 hb) e
      have hacc₄ : h₄.PlainList D ys.toArray := hacc₃.at fun o e => hk₄ D o (fun h => (hM D h).2.2 rfl) e
      have hn₄ : Bd h₄ (some v) := hBd _ _ _ hn₃ fun b hb o e => hk₄ b o (fun h => (hM b h).2.1 hb) e
      refine wpAny_list_append_plain (hsz := by rw [List.size_toArray]; exact Nat.le_of_lt (Nat.lt_of_le_of_lt hys (Nat.lt_of_lt_of_le (Nat.add_lt_add_left hlt _) hsz))) hacc₄ fun h₅ hl₅ hs₅ => ?_
      have hkD : ∀ b o, b ≠ D → h₄.get? b = some o → h₅.get? b = some o := fun b o hb e => hs₅.extBut b o hb e
      refine ⟨_, dn hlt, .mk (i + 1) h₅ tk₄ (some v) (ys ++ [y]) hlt (by rw [List.length_append]; exact Nat.succ_le_succ hys) (W.frame _ _ _ hst₄ fun b hb o e => hkD b o (fun h => hDf (h ▸ hb)) e) (by rw [List.push_toArray] at hl₅; exact hl₅)
        (hBd _ _ _ hn₄ fun b hb o e => hkD b o (fun h => hDC (h ▸ hb)) e) (hJ _ _ _ _ hj₄ fun b o hc e => hkD b o ?_ e) fun b o a1 a2 a3 a4 e => hkD b o a4 (hk₄ b o a1 (hk₃ b o a1 (hkk b o a1 a2 a3 a4 e)))⟩
      rintro rfl
      rcases hc with ht | ⟨hlt, _⟩
      · obtain ⟨nn, hD⟩ := hacc₄
        rw [hD] at e; cases e; exact absurd ht.1 (by simp)
      · exact Nat.lt_irrefl _ (Nat.lt_of_lt_of_le hlt hlowD)
  · have hin : i = n := Nat.le_antisymm hi (Nat.le_of_not_lt hlt)
    subst hin
    refine W.done _ _ _ hst' fun h₁ tk₁ hk₁ => ?_
    refine hR h₁ tk₁ u ys (hBd _ _ _ hn' fun b hb o e => hk₁ b o (hCw b hb) e) (hacc'.at fun o e => hk₁ D o hDw e) (hJ _ _ _ _ hj' fun b o hc e => hk₁ b o ?_ e) fun b o a1 a2 a3 a4 e => hk₁ b o a2 (hk b o a1 a2 a3 a4 e)
    rcases hc with ht | ⟨_, hw⟩
    · exact fun hb => hshW _ H hst' b hb o e ht
    · exact hw
end

noncomputable def SeqO (o : Obj) : Prop := ∃ xs n, o.data = .seq xs n
theorem TupO.seq {o : Obj} (h : TupO o) : SeqO o := h.2
theorem ns_not_seq {h : Heap} {C : Addr} {m : Str → Option Value} (hn : h.Ns C m) : ∀ o, h.get? C = some o → ¬ SeqO o := by
  rintro o e ⟨xs, n, hd⟩
  obtain ⟨o', es, ep, ho, hdd, _⟩ := hn
  rw [ho] at e; cases e; rw [hdd] at hd; cases hd
theorem ns_not_tup {h : Heap} {C : Addr} {m : Str → Option Value} (hn : h.Ns C m) : ∀ o, h.get? C = some o → ¬ TupO o := fun o e t => ns_not_seq hn o e t.seq
theorem cell_not_tup {h : Heap} {C : Addr} {u : Option Value} (hn : h.IsCell C u) : ∀ o, h.get? C = some o → ¬ TupO o := by
  rintro o e ⟨_, xs, n, hd⟩
  obtain ⟨o', ho, hdd⟩ := hn
  rw [ho] at e; cases e; rw [hdd] at hd; cases hd

section
variable {prog : Program} {w : World} {A : Around} {E : Value → Shared → Prop} {env : Env} {s : Shared}

inductive CompAt (prog : Program) (w : World) (A : Around) (env : Env) (scope : Scope) (cl : List (Str × Addr)) (x : Str) (ifs : List Expr) (elt : Expr) (Q : Value → Shared → Prop) : Value → Shared → Prop
  | mk {I : Addr} {fp wr : List Addr} {n : Nat} {P : Nat → Value → Prop} {St : Nat → Heap → Prop} {M : List Addr} {J : Nat → List Value → Heap → Prop} {s₂ : Shared}
    (W : Walks prog w A I fp wr n P St)
    (hsz : n ≤ sizeLine)
    (hst : St 0 s₂.heap)
    (hfp : ∀ b ∈ fp, b < s₂.heap.objs.size)
    (hM : ∀ b ∈ M, b < s₂.heap.objs.size ∧ b ∉ fp)
    (hsh : ∀ i h, St i h → ∀ b ∈ wr, ∀ o, h.get? b = some o → ¬ TupO o)
    (hJ : ∀ i ys h h', J i ys h → (∀ b o, (TupO o ∨ (b < s₂.heap.objs.size ∧ b ∉ wr)) → h.get? b = some o → h'.get? b = some o) → J i ys h')
    (hj : J 0 [] s₂.heap)
    (hturn : ∀ C i v ys h tk m, i < n → P i v → s₂.heap.objs.size ≤ C → h.Ns C m → m x = some v → (∀ b o, b ∉ M → b ∉ wr → s₂.heap.get? b = some o → h.get? b = some o) → J i ys h →
      wpAny (model prog w) A (forIn ifs true fun c r => if r = true then do let ok ← isTrue c (compEnvC scope cl C env) (eval c (compEnvC scope cl C env)); pure (ForInStep.yield ok) else pure (ForInStep.yield r))
        (fun ok s₃ => TurnEnd s₂ M h (fun h₃ s₃ => if ok = true then wpAny (model prog w) A (eval elt (compEnvC scope cl C env)) (fun y s₄ => TurnEnd s₂ M h₃ (fun h₄ _ => J (i + 1) (ys ++ [y]) h₄) s₄) (fun _ _ => False) s₃
          else J (i + 1) ys h₃) s₃) (fun _ _ => False) { s₂ with heap := h, toks := tk })
    (hdone : ∀ D h' tk ys, s₂.heap.get? D = none → h'.PlainList D (List.toArray ys) → J n ys h' → (∀ b o, b ∉ M → b ∉ wr → s₂.heap.get? b = some o → h'.get? b = some o) → Q (.ref D) { s₂ with heap := h', toks := tk }) : CompAt prog w A env scope cl x ifs elt Q (.ref I) s₂

theorem comp_gen {elt iter : Expr} {x : Str} {px : Pos} {ifs : List Expr} {scope : Scope} {cl : List (Str × Addr)} {pos : Pos} {Q : Value → Shared → Prop}
    (hclos : closureFor scope env = pure cl) (hcell : ∀ y ∈ scope.names, y.2 ≠ .cell) (hkind : scope.kind = .function)
    (hnames : ∀ y ∈ scope.names, y.2 = .local → scope.names.lookup y.1 = some .local) (hx : scope.names.lookup x = some .local)
    (hs : ∀ x, foldedSetIterable iter env x = pure x)
    (h : wpAny (model prog w) A (eval iter env) (fun xv s₁ => wpAny (model prog w) A (pyIter xv) (fun it s₂ => CompAt prog w A env scope cl x ifs elt Q it s₂) E s₁) E s) :
    wpAny (model prog w) A (eval (.ListComp elt [⟨.Name x px, iter, ifs, 0⟩] scope pos) env) Q E s := by
  rw [eval_ListComp]
  refine wpAny_comprehension_free (use := none) rfl hs hclos hkind hnames (wpAny_mono h (fun xv s₁ h₁ => wpAny_mono h₁ (fun it s₂ h₂ => ?_) fun _ _ e => e) fun _ _ e => e)
  obtain @⟨I, fp, wr, n, P, St, M, J, s₂, W, hsz, hst, hfp, hM, hsh, hJ, hj, hturn, hdone⟩ := h₂
  refine wpAny_newObj_type (wpAny_newFunctionEnv hcell (by intro y hy; simp at hy) (fun h₁ hns₁ hsb₁ => ?_) hkind)
  dsimp only at hns₁ hsb₁ ⊢
  generalize hH2 : s₂.heap.push { cls := .type "list", dict := none, data := .seq ([] : List Value).toArray } = H2 at hns₁ hsb₁ ⊢
  have hC : H2.objs.size = s₂.heap.objs.size + 1 := by rw [← hH2, Heap.size_push]
  have hDC : s₂.heap.objs.size ≠ H2.objs.size := by rw [hC]; exact Nat.ne_of_lt (Nat.lt_succ_self _)
  have hCle : s₂.heap.objs.size ≤ H2.objs.size := by rw [hC]; exact Nat.le_succ _
  have below : ∀ b, b < s₂.heap.objs.size → b ≠ H2.objs.size ∧ b ≠ s₂.heap.objs.size := fun b hb => ⟨by rw [hC]; exact Nat.ne_of_lt (Nat.lt_succ_of_lt hb), Nat.ne_of_lt hb⟩
  have hDf : s₂.heap.objs.size ∉ fp := fun hm => Nat.lt_irrefl _ (hfp _ hm)
  have hCf : H2.objs.size ∉ fp := fun hm => by have := hfp _ hm; rw [hC] at this; exact Nat.lt_irrefl _ (Nat.lt_of_succ_lt this)
  have old : ∀ b o, s₂.heap.get? b = some o → h₁.get? b = some o := fun b o e => hsb₁.extBut b o (below b (Heap.lt_size e)).1 (Heap.get?_push_of_some _ (hH2 ▸ Heap.get?_push_of_some _ e))
  have hacc : h₁.PlainList s₂.heap.objs.size #[] := ⟨_, hsb₁.extBut _ _ hDC (Heap.get?_push_of_some _ (hH2 ▸ Heap.get?_push_size _ rfl))⟩
  have hst₁ : St 0 h₁ := W.frame _ _ _ hst fun b _ o e => old b o e
  have fresh : ∀ a, s₂.heap.objs.size ≤ a → s₂.heap.get? a = none := fun a ha => Heap.get?_none_of_le ha
  have loop : ∀ s₃ : Shared, s₃ = { s₂ with heap := h₁, toks := s₂.toks + ([] : List (Str × Value)).length } →
      codeAny (model prog w) A (.compLoop (.ListComp elt [⟨.Name x px, iter, ifs, 0⟩] scope pos) 0 (.ref I) (.ref s₂.heap.objs.size) (compEnvC scope cl H2.objs.size env))
        (compPost (model prog w) A E none Q (.ref s₂.heap.objs.size) H2.objs.size) s₃ := by
    rintro s₃ rfl
    refine codeAny_compLoop_tests _ (comp_turn (s := { s₂ with heap := h₁ }) (c := 0) (cenv := compEnvC scope cl H2.objs.size env) W [H2.objs.size] M s₂.heap.objs.size (fun h u => ∃ m, h.Ns H2.objs.size m ∧ m x = u) J ?_ ?_ ?_ ?_ hDf ?_ hsh ?_ ?_ (Nat.le_refl _) hJ ?_ ?_ (by rw [Nat.zero_add]; exact hsz)) (n + 1)
      (.mk 0 h₁ _ _ [] (Nat.zero_le _) (Nat.zero_le _) hst₁ hacc ⟨_, hns₁, rfl⟩ (hJ _ _ _ _ hj fun b o _ e => old b o e) fun _ _ _ _ _ _ e => e)
    · rintro h h' u ⟨m, hm, hx'⟩ hk
      exact ⟨m, hm.at' fun o e => hk _ (by simp) o e, hx'⟩
    · rintro v u s Q E ⟨m, hm, _⟩ hQ
      exact wpAny_assign_Name (wpAny_storeName_local (lookup_relabel_local hx) hm (fun h₂ hn₂ hs₂ => hQ h₂ _ ⟨_, hn₂, by simp⟩ fun b o hb e => hs₂.extBut b o (fun q => hb (by rw [q]; exact List.mem_singleton.mpr rfl)) e) (by simp [compEnvC, relabel, hkind]))
    · intro b hb; rw [List.mem_singleton.mp hb]; exact hCf
    · intro hb; exact hDC (List.mem_singleton.mp hb)
    · intro b hb
      have := below b (hM b hb).1
      exact ⟨(hM b hb).2, fun q => this.1 (List.mem_singleton.mp q), this.2⟩
    · rintro h u ⟨m, hm, _⟩ b hb o e; rw [List.mem_singleton.mp hb] at e; exact ns_not_tup hm o e
    · intro b hb; rw [List.mem_singleton.mp hb]; exact hCle
    · rintro i v ys h tk hi hP ⟨m, hm, hxm⟩ hk hj'
      exact hturn _ i v ys h tk m hi hP hCle hm hxm (fun b o a1 a2 e => hk b o a1 a2 (fun q => (below b (Heap.lt_size e)).1 (List.mem_singleton.mp q)) (below b (Heap.lt_size e)).2 (old b o e)) hj'
    · rintro h' tk u ys ⟨m, hm, hxm⟩ hpl hj' hk
      refine ⟨m, hm, fun h'' hs'' => ?_⟩
      have hkC : ∀ b o, b ≠ H2.objs.size → h'.get? b = some o → h''.get? b = some o := fun b o hb e => hs''.extBut b o hb e
      refine hdone _ h'' tk ys (fresh _ (Nat.le_refl _)) (hpl.at fun o e => hkC _ o hDC e) (hJ _ _ _ _ hj' fun b o hc e => hkC b o ?_ e) fun b o a1 a2 e => hkC b o (below b (Heap.lt_size e)).1 (hk b o a1 a2 (fun q => (below b (Heap.lt_size e)).1 (List.mem_singleton.mp q)) (below b (Heap.lt_size e)).2 (old b o e))
      rintro rfl
      rcases hc with ht | ⟨hlt, _⟩
      · exact ns_not_tup hm o e ht
      · exact Nat.lt_irrefl _ (Nat.lt_of_lt_of_le hlt hCle)
  exact codeAny_compStart_list (loop _ rfl) (W.self 0 _ _ _ hst₁ (loop _ rfl))
end


-- Reads

noncomputable def Sub (h h' : Heap) : Prop := ∀ b o, h.get? b = some o → h'.get? b = some o
theorem Sub.rfl {h : Heap} : Sub h h := fun _ _ e => e
theorem Sub.trans {a b c : Heap} (x : Sub a b) (y : Sub b c) : Sub a c := fun _ _ e => y _ _ (x _ _ e)

noncomputable def Rd (h : Heap) (v : Value) (d : PyData) : Prop := ∃ as, Reads h v d as
theorem Rd.keeps {h h' : Heap} {v : Value} {d : PyData} (R : Rd h v d) (k : Sub h h') : Rd h' v d := let ⟨as, r⟩ := R; ⟨as, Reads.keeps k r⟩
theorem Rd.str (h : Heap) (x : Str) (t : Tok) : Rd h (.str x t) (.str x) := ⟨_, .str x t⟩
theorem Rd.int (h : Heap) (x : Int) (t : Tok) : Rd h (.int x t) (.int x) := ⟨_, .int x t⟩

inductive RdAll (h : Heap) : List Value → List PyData → Prop
  | nil : RdAll h [] []
  | cons {v : Value} {vs : List Value} {d : PyData} {ds : List PyData} : Rd h v d → RdAll h vs ds → RdAll h (v :: vs) (d :: ds)
theorem RdAll.keeps {h h' : Heap} {vs : List Value} {ds : List PyData} (R : RdAll h vs ds) (k : Sub h h') : RdAll h' vs ds := by
  induction R with
  | nil => exact .nil
  | cons r _ ih => exact .cons (r.keeps k) ih
theorem RdAll.length {h : Heap} {vs : List Value} {ds : List PyData} (R : RdAll h vs ds) : vs.length = ds.length := by
  induction R with
  | nil => rfl
  | cons _ _ ih => simp [ih]
theorem RdAll.snoc {h : Heap} {vs : List Value} {ds : List PyData} {v : Value} {d : PyData} (R : RdAll h vs ds) (r : Rd h v d) : RdAll h (vs ++ [v]) (ds ++ [d]) := by
  induction R with
  | nil => exact .cons r .nil
  | cons r' _ ih => exact .cons r' ih
theorem RdAll.get {h : Heap} {vs : List Value} {ds : List PyData} (R : RdAll h vs ds) : ∀ {i : Nat} {v : Value}, vs[i]? = some v → ∃ d, ds[i]? = some d ∧ Rd h v d := by
  induction R with
  | nil => intro i v e; simp at e
  | cons r _ ih =>
    intro i v e
    cases i with
    | zero => simp at e; subst e; exact ⟨_, rfl, r⟩
    | succ i => simp at e; simpa using ih e
theorem rdAll_of {h : Heap} {vs : List Value} {ds : List PyData} {as : List Addr} (R : ReadsAll h vs ds as) : RdAll h vs ds := by
  refine ReadsAll.rec (motive_1 := fun _ _ _ _ => True) (motive_2 := fun vs ds _ _ => RdAll h vs ds) ?_ ?_ ?_ ?_ ?_ ?_ ?_ .nil (fun r _ _ ih => .cons ⟨_, r⟩ ih) R <;> (intros; trivial)
theorem rdAll_to {h : Heap} {vs : List Value} {ds : List PyData} (R : RdAll h vs ds) : ∃ as, ReadsAll h vs ds as := by
  induction R with
  | nil => exact ⟨_, .nil⟩
  | cons r _ ih => obtain ⟨as, r⟩ := r; obtain ⟨bs, ih⟩ := ih; exact ⟨_, .cons r ih⟩
theorem Rd.tuple_inv {h : Heap} {v : Value} {ds : List PyData} (R : Rd h v (.tuple ds)) : ∃ a vs, v = .ref a ∧ IsTup h a (List.toArray vs) ∧ RdAll h vs ds := by
  obtain ⟨as, r⟩ := R
  cases r with
  | tuple h1 h2 h3 h4 => exact ⟨_, _, rfl, ⟨_, h1, h2, _, by simpa using h3⟩, rdAll_of h4⟩
theorem Rd.list_inv {h : Heap} {v : Value} {ds : List PyData} (R : Rd h v (.list ds)) : ∃ a vs, v = .ref a ∧ h.IsList a (List.toArray vs) ∧ RdAll h vs ds := by
  obtain ⟨as, r⟩ := R
  cases r with
  | list h1 h2 h3 h4 => exact ⟨_, _, rfl, ⟨_, h1, h2, _, by simpa using h3⟩, rdAll_of h4⟩
theorem Rd.str_inv {h : Heap} {v : Value} {x : Str} (R : Rd h v (.str x)) : ∃ t, v = .str x t := by
  obtain ⟨as, r⟩ := R; cases r; exact ⟨_, rfl⟩
theorem Rd.int_inv {h : Heap} {v : Value} {x : Int} (R : Rd h v (.int x)) : ∃ t, v = .int x t := by
  obtain ⟨as, r⟩ := R; cases r; exact ⟨_, rfl⟩
theorem RdAll.nil_inv {h : Heap} {vs : List Value} (R : RdAll h vs []) : vs = [] := by cases R; rfl
theorem RdAll.cons_inv {h : Heap} {vs : List Value} {d : PyData} {ds : List PyData} (R : RdAll h vs (d :: ds)) : ∃ v us, vs = v :: us ∧ Rd h v d ∧ RdAll h us ds := by cases R with | cons a b => exact ⟨_, _, rfl, a, b⟩
theorem Rd.tuple {h : Heap} {a : Addr} {vs : List Value} {ds : List PyData} (T : IsTup h a (List.toArray vs)) (R : RdAll h vs ds) : Rd h (.ref a) (.tuple ds) := by
  obtain ⟨o, h1, h2, n, h3⟩ := T
  obtain ⟨as, r⟩ := rdAll_to R
  exact ⟨as, .tuple h1 h2 h3 (by simpa using r)⟩
theorem Rd.list {h : Heap} {a : Addr} {vs : List Value} {ds : List PyData} (T : h.IsList a (List.toArray vs)) (R : RdAll h vs ds) : Rd h (.ref a) (.list ds) := by
  obtain ⟨o, h1, h2, n, h3⟩ := T
  obtain ⟨as, r⟩ := rdAll_to R
  exact ⟨_, .list h1 h2 h3 (by simpa using r)⟩

mutual
noncomputable def tupD : PyData → Bool
  | .none => true
  | .bool _ => true
  | .int _ => true
  | .str _ => true
  | .tuple ds => tupDs ds
  | .list _ => false
  | .dict _ => false
noncomputable def tupDs : List PyData → Bool
  | [] => true
  | d :: ds => tupD d && tupDs ds
end
theorem tupD_1 : tupD .none = true := rfl
theorem tupD_2 (b) : tupD (.bool b) = true := rfl
theorem tupD_3 (i) : tupD (.int i) = true := rfl
theorem tupD_4 (x) : tupD (.str x) = true := rfl
theorem tupD_5 (ds) : tupD (.tuple ds) = tupDs ds := rfl
theorem tupD_6 (ds) : tupD (.list ds) = false := rfl
theorem tupD_7 (ds) : tupD (.dict ds) = false := rfl
theorem tupDs_1 : tupDs [] = true := rfl
theorem tupDs_2 (d ds) : tupDs (d :: ds) = (tupD d && tupDs ds) := rfl
noncomputable def PinAt (T : Obj → Prop) (h : Heap) (P : Heap → Prop) : Prop := ∃ tl : List (Addr × Obj), (∀ p ∈ tl, h.get? p.1 = some p.2 ∧ T p.2) ∧ ∀ h', (∀ p ∈ tl, h'.get? p.1 = some p.2) → P h'
theorem PinAt.of {T : Obj → Prop} {h : Heap} {P : Heap → Prop} (p : ∀ h', P h') : PinAt T h P := ⟨[], (fun _ h => nomatch h), fun h' _ => p h'⟩
theorem PinAt.and {T : Obj → Prop} {h : Heap} {P Q R : Heap → Prop} (p : PinAt T h P) (q : PinAt T h Q) (k : ∀ h', P h' → Q h' → R h') : PinAt T h R := by
  obtain ⟨tl, ht, hk⟩ := p
  obtain ⟨tl', ht', hk'⟩ := q
  exact ⟨tl ++ tl', fun p hp => (List.mem_append.mp hp).elim (ht p) (ht' p), fun h' hh => k h' (hk h' fun p hp => hh p (List.mem_append_left _ hp)) (hk' h' fun p hp => hh p (List.mem_append_right _ hp))⟩
theorem PinAt.get {T : Obj → Prop} {h : Heap} {a : Addr} {o : Obj} (e : h.get? a = some o) (t : T o) : PinAt T h fun h' => h'.get? a = some o :=
  ⟨[(a, o)], fun p hp => List.mem_singleton.mp hp ▸ ⟨e, t⟩, fun _ hh => hh (a, o) (.head _)⟩
theorem pin_one {h : Heap} {v : Value} {d : PyData} (R : Rd h v d) : tupD d = true → PinAt TupO h fun h' => Rd h' v d := by
  obtain ⟨as, r⟩ := R
  refine Reads.rec (motive_1 := fun v d _ _ => tupD d = true → PinAt TupO h fun h' => Rd h' v d) (motive_2 := fun vs ds _ _ => tupDs ds = true → PinAt TupO h fun h' => RdAll h' vs ds)
    (fun _ => .of fun _ => ⟨_, .none⟩) (fun b _ => .of fun _ => ⟨_, .bool b⟩) (fun i t _ => .of fun _ => ⟨_, .int i t⟩) (fun x t _ => .of fun _ => ⟨_, .str x t⟩)
    (fun _ _ _ _ _ hd => nomatch hd) (fun e c q _ ih hd => (PinAt.get e ⟨c, _, _, q⟩).and (ih hd) fun h' e' R => ?_) (fun _ _ _ _ _ _ _ hd => nomatch hd)
    (fun _ => .of fun _ => .nil) (fun _ _ ih1 ih2 hd => (ih1 (Bool.and_eq_true_iff.mp hd).1).and (ih2 (Bool.and_eq_true_iff.mp hd).2) fun _ a b => .cons a b) r
  obtain ⟨as, r⟩ := rdAll_to R
  exact ⟨as, .tuple e' c q r⟩
theorem pin_all {h : Heap} {vs : List Value} {ds : List PyData} (R : RdAll h vs ds) : tupDs ds = true → PinAt TupO h fun h' => RdAll h' vs ds := by
  induction R with
  | nil => exact fun _ => .of fun _ => .nil
  | cons r _ ih => exact fun hd => (pin_one r (Bool.and_eq_true_iff.mp hd).1).and (ih (Bool.and_eq_true_iff.mp hd).2) fun _ a b => .cons a b


theorem Rd.stable {h h' : Heap} {v : Value} {d : PyData} (R : Rd h v d) (hd : tupD d = true) (k : ∀ b o, TupO o → h.get? b = some o → h'.get? b = some o) : Rd h' v d := by
  obtain ⟨tl, ht, hk⟩ := pin_one R hd
  exact hk h' fun p hp => k _ _ (ht p hp).2 (ht p hp).1
theorem RdAll.stable {h h' : Heap} {vs : List Value} {ds : List PyData} (R : RdAll h vs ds) (k : ∀ b o, TupO o → h.get? b = some o → h'.get? b = some o) : (∀ d ∈ ds, tupD d = true) → RdAll h' vs ds := by
  induction R with
  | nil => intro _; exact .nil
  | cons r _ ih => intro hd; exact .cons (r.stable (hd _ (.head _)) k) (ih fun d hm => hd d (.tail _ hm))

noncomputable def Pin (base : Heap) (tl : List (Addr × Obj)) (v : Value) (d : PyData) : Prop := ∀ h', Sub base h' → (∀ p ∈ tl, h'.get? p.1 = some p.2) → Rd h' v d
theorem Pin.at {base h : Heap} {L : Addr} {m : Str → Option Value} {tl news : List (Addr × Obj)} {v : Value} {d : PyData} (P : Pin base tl v d) (F : Fr base L h m) (N : News base L h news) (hs : ∀ p ∈ tl, p ∈ news) : Rd h v d :=
  P h F.keep fun p hp => (N p (hs p hp)).1

theorem PinAt.adopt {T : Obj → Prop} (hT : ∀ o, T o → SeqO o) {base h : Heap} {L : Addr} {m : Str → Option Value} {P : Heap → Prop} (X : PinAt T h P) (F : Fr base L h m) :
    ∃ tl, News base L h tl ∧ (∀ p ∈ tl, T p.2) ∧ ∀ h', Sub base h' → (∀ p ∈ tl, h'.get? p.1 = some p.2) → P h' := by
  obtain ⟨tl, ht, hk⟩ := X
  refine ⟨tl.filter fun p => (base.get? p.1).isNone, fun p hp => ?_, fun p hp => (ht p (List.mem_filter.mp hp).1).2, fun h' hb hh => hk h' fun p hp => ?_⟩
  · obtain ⟨hm, hn⟩ := List.mem_filter.mp hp
    refine ⟨(ht p hm).1, fun e => ?_, Option.isNone_iff_eq_none.mp hn⟩
    have := (ht p hm).1
    rw [e] at this
    exact ns_not_seq F.ns _ this (hT _ (ht p hm).2)
  · cases e : base.get? p.1 with
    | none => exact hh p (List.mem_filter.mpr ⟨hp, by rw [e]; rfl⟩)
    | some o =>
      have h1 := F.keep _ _ e
      rw [(ht p hp).1] at h1
      cases h1
      exact hb _ _ e

theorem adopt {base h : Heap} {L : Addr} {m : Str → Option Value} {news : List (Addr × Obj)} {v : Value} {d : PyData} (F : Fr base L h m) (N : News base L h news) (R : Rd h v d) (hd : tupD d = true) :
    ∃ tl, News base L h (news ++ tl) ∧ (∀ p ∈ tl, TupO p.2) ∧ Pin base tl v d := by
  obtain ⟨tl, M, t, k⟩ := (pin_one R hd).adopt (fun _ => TupO.seq) F
  exact ⟨tl, N.append M, t, k⟩
theorem adoptAll {base h : Heap} {L : Addr} {m : Str → Option Value} {news : List (Addr × Obj)} {vs : List Value} {ds : List PyData} (F : Fr base L h m) (N : News base L h news) (R : RdAll h vs ds) (hd : tupDs ds = true) :
    ∃ tl, News base L h (news ++ tl) ∧ (∀ p ∈ tl, TupO p.2) ∧ ∀ h', Sub base h' → (∀ p ∈ tl, h'.get? p.1 = some p.2) → RdAll h' vs ds := by
  obtain ⟨tl, M, t, k⟩ := (pin_all R hd).adopt (fun _ => TupO.seq) F
  exact ⟨tl, N.append M, t, k⟩


-- Data

abbrev S (x : String) : PyData := .str (Str.ofString x)

inductive SE where
  | rel | univ | comp
  | var (x : Str)
  | joinR
  | joinV (x : Str)
inductive AT where
  | mult (k : Fin 4) (e : SE)
  | le (e : SE) (n : Int)
  | inn (a b : SE)
  | same (a b : SE)
inductive Fm where
  | const (b : Bool)
  | not (f : Fm)
  | junc (isAnd : Bool) (fs : List Fm)
  | imp (a b : Fm)
  | iff (a b : Fm)
  | quant (isAll : Bool) (ds : List (Str × SE)) (f : Fm)
  | atom (a : AT)

noncomputable def encS : SE → PyData
  | .rel => .tuple [S "rel", .int 0]
  | .univ => .tuple [S "univ"]
  | .comp => .tuple [S "minus", .tuple [S "univ"], .tuple [S "rel", .int 0]]
  | .var x => .tuple [S "var", .str x]
  | .joinR => .tuple [S "join", .tuple [S "rel", .int 0], .tuple [S "rel", .int 1]]
  | .joinV x => .tuple [S "join", .tuple [S "var", .str x], .tuple [S "rel", .int 1]]
noncomputable def sel4 {α : Type} (a b c d : α) (k : Fin 4) : α := if k = 0 then a else if k = 1 then b else if k = 2 then c else d
theorem fin4 {P : Fin 4 → Prop} (h0 : P 0) (h1 : P 1) (h2 : P 2) (h3 : P 3) : ∀ k, P k := by
  rintro ⟨n, h⟩
  rcases n with _ | _ | _ | _ | n
  · exact h0
  · exact h1
  · exact h2
  · exact h3
  · exact absurd h (by omega)
noncomputable def multName (k : Fin 4) : String := sel4 "some" "no" "one" "lone" k
noncomputable def encA : AT → PyData
  | .mult k e => .tuple [S (multName k), encS e]
  | .le e n => .tuple [S "le", .tuple [S "count", encS e], .tuple [S "num", .int n]]
  | .inn a b => .tuple [S "in", encS a, encS b]
  | .same a b => .tuple [S "same", encS a, encS b]
noncomputable def encD (d : Str × SE) : PyData := .tuple [.str d.1, encS d.2]
noncomputable def encDs : List (Str × SE) → List PyData
  | [] => []
  | d :: ds => encD d :: encDs ds
mutual
noncomputable def enc : Fm → PyData
  | .const b => .tuple [S (if b then "true" else "false")]
  | .not f => .tuple [S "not", enc f]
  | .junc a fs => .tuple [S (if a then "and" else "or"), .tuple (encs fs)]
  | .imp a b => .tuple [S "implies", enc a, enc b]
  | .iff a b => .tuple [S "iff", enc a, enc b]
  | .quant a ds f => .tuple [S (if a then "all" else "exists"), .tuple (encDs ds), enc f]
  | .atom a => encA a
noncomputable def encs : List Fm → List PyData
  | [] => []
  | f :: fs => enc f :: encs fs
end

mutual
noncomputable def nnf : Fm → Bool → Fm
  | .const b, w => .const (b == w)
  | .not f, w => nnf f (!w)
  | .junc a fs, w => .junc (a == w) (nnfs fs w)
  | .imp a b, w => .junc (!w) [nnf a (!w), nnf b w]
  | .iff a b, w => .junc true [.junc false [nnf a (!w), nnf b true], .junc false [nnf a w, nnf b false]]
  | .quant a ds f, w => .quant (a == w) ds (nnf f w)
  | .atom a, w => if w then .atom a else .not (.atom a)
noncomputable def nnfs : List Fm → Bool → List Fm
  | [], _ => []
  | f :: fs, w => nnf f w :: nnfs fs w
end

noncomputable def isAtom : Fm → Bool
  | .atom _ => true
  | _ => false
mutual
noncomputable def isNorm : Fm → Bool
  | .const _ => true
  | .not f => isAtom f
  | .junc _ fs => isNorms fs
  | .imp _ _ => false
  | .iff _ _ => false
  | .quant _ _ f => isNorm f
  | .atom _ => true
noncomputable def isNorms : List Fm → Bool
  | [] => true
  | f :: fs => isNorm f && isNorms fs
end

abbrev WorldV := List Int × List (Int × Int)
abbrev EnvV := Str → Option Int
noncomputable def joinV (left : List Int) (R : List (Int × Int)) : List Int := [0, 1].filter fun b => (left.filter fun a => R.contains (a, b)) != []
noncomputable def baseV (W : WorldV) (ρ : EnvV) : SE → List Int
  | .rel => W.1
  | .univ => [0, 1]
  | .comp => [0, 1].filter fun a => !W.1.contains a
  | .var x => [(ρ x).getD 0]
  | .joinR => joinV W.1 W.2
  | .joinV x => joinV [(ρ x).getD 0] W.2
noncomputable def atomV (W : WorldV) (ρ : EnvV) : AT → Bool
  | .mult k e => sel4 (decide (0 < (baseV W ρ e).length)) (decide ((baseV W ρ e).length = 0)) (decide ((baseV W ρ e).length = 1)) (decide ((baseV W ρ e).length < 2)) k
  | .le e n => decide (((baseV W ρ e).length : Int) ≤ n)
  | .inn a b => ((baseV W ρ a).filter fun x => !(baseV W ρ b).contains x) == []
  | .same a b => baseV W ρ a == baseV W ρ b
noncomputable def updV (ρ : EnvV) (x : Str) (a : Int) : EnvV := fun y => if y = x then some a else ρ y
noncomputable def stepV (W : WorldV) (d : Str × SE) (found : List EnvV) : List EnvV := found.flatMap fun ρ => (baseV W ρ d.2).map fun a => updV ρ d.1 a
noncomputable def choicesV (W : WorldV) : List (Str × SE) → List EnvV → List EnvV
  | [], found => found
  | d :: ds, found => choicesV W ds (stepV W d found)
mutual
noncomputable def holdsV (W : WorldV) : Fm → EnvV → Bool
  | .const b, _ => b
  | .not f, ρ => !holdsV W f ρ
  | .junc a fs, ρ => juncV W a fs ρ
  | .imp a b, ρ => if holdsV W a ρ then holdsV W b ρ else true
  | .iff a b, ρ => holdsV W a ρ == holdsV W b ρ
  | .quant a ds f, ρ => if a then (choicesV W ds [ρ]).all fun ρ' => holdsV W f ρ' else (choicesV W ds [ρ]).any fun ρ' => holdsV W f ρ'
  | .atom a, ρ => atomV W ρ a
noncomputable def juncV (W : WorldV) (a : Bool) : List Fm → EnvV → Bool
  | [], _ => a
  | f :: fs, ρ => if holdsV W f ρ = a then juncV W a fs ρ else !a
end

mutual
noncomputable def hgt : Fm → Nat
  | .const _ => 1
  | .not f => hgt f + 1
  | .junc _ fs => hgts fs + 1
  | .imp a b => max (hgt a) (hgt b) + 1
  | .iff a b => max (hgt a) (hgt b) + 1
  | .quant _ _ f => hgt f + 1
  | .atom _ => 1
noncomputable def hgts : List Fm → Nat
  | [] => 1
  | f :: fs => max (hgt f) (hgts fs)
end

noncomputable def marks : List Str := [Str.ofString "x", Str.ofString "y", Str.ofString "z"]
noncomputable def wfS (Γ : List Str) : SE → Prop
  | .var x => x ∈ Γ
  | .joinV x => x ∈ Γ
  | _ => True
noncomputable def wfA (Γ : List Str) : AT → Prop
  | .mult _ e => wfS Γ e
  | .le e _ => wfS Γ e
  | .inn a b => wfS Γ a ∧ wfS Γ b
  | .same a b => wfS Γ a ∧ wfS Γ b
noncomputable def wfD : List Str → List (Str × SE) → Prop
  | _, [] => True
  | Γ, d :: ds => d.1 ∈ marks ∧ wfS Γ d.2 ∧ wfD (Γ ++ [d.1]) ds
mutual
noncomputable def wf : List Str → Fm → Prop
  | _, .const _ => True
  | Γ, .not f => wf Γ f
  | Γ, .junc _ fs => fs.length ≤ 3 ∧ wfs Γ fs
  | Γ, .imp a b => wf Γ a ∧ wf Γ b
  | Γ, .iff a b => wf Γ a ∧ wf Γ b
  | Γ, .quant _ ds f => ds.length ≤ 2 ∧ wfD Γ ds ∧ wf (Γ ++ ds.map (·.1)) f
  | Γ, .atom a => wfA Γ a
noncomputable def wfs : List Str → List Fm → Prop
  | _, [] => True
  | Γ, f :: fs => wf Γ f ∧ wfs Γ fs
end

theorem encS_1 : encS .rel = .tuple [S "rel", .int 0] := rfl
theorem encS_2 : encS .univ = .tuple [S "univ"] := rfl
theorem encS_3 : encS .comp = .tuple [S "minus", .tuple [S "univ"], .tuple [S "rel", .int 0]] := rfl
theorem encS_4 (x) : encS (.var x) = .tuple [S "var", .str x] := rfl
theorem encS_5 : encS .joinR = .tuple [S "join", .tuple [S "rel", .int 0], .tuple [S "rel", .int 1]] := rfl
theorem encS_6 (x) : encS (.joinV x) = .tuple [S "join", .tuple [S "var", .str x], .tuple [S "rel", .int 1]] := rfl
theorem encA_1 (k e) : encA (.mult k e) = .tuple [S (multName k), encS e] := rfl
theorem encA_2 (e n) : encA (.le e n) = .tuple [S "le", .tuple [S "count", encS e], .tuple [S "num", .int n]] := rfl
theorem encA_3 (a b) : encA (.inn a b) = .tuple [S "in", encS a, encS b] := rfl
theorem encA_4 (a b) : encA (.same a b) = .tuple [S "same", encS a, encS b] := rfl
theorem encDs_1 : encDs [] = [] := rfl
theorem encDs_2 (d ds) : encDs (d :: ds) = encD d :: encDs ds := rfl
theorem enc_1 (b) : enc (.const b) = .tuple [S (if b then "true" else "false")] := rfl
theorem enc_2 (f) : enc (.not f) = .tuple [S "not", enc f] := rfl
theorem enc_3 (a fs) : enc (.junc a fs) = .tuple [S (if a then "and" else "or"), .tuple (encs fs)] := rfl
theorem enc_4 (a b) : enc (.imp a b) = .tuple [S "implies", enc a, enc b] := rfl
theorem enc_5 (a b) : enc (.iff a b) = .tuple [S "iff", enc a, enc b] := rfl
theorem enc_6 (a ds f) : enc (.quant a ds f) = .tuple [S (if a then "all" else "exists"), .tuple (encDs ds), enc f] := rfl
theorem enc_7 (a) : enc (.atom a) = encA a := rfl
theorem encs_1 : encs [] = [] := rfl
theorem encs_2 (f fs) : encs (f :: fs) = enc f :: encs fs := rfl
theorem nnf_1 (b w) : nnf (.const b) w = .const (b == w) := rfl
theorem nnf_2 (f w) : nnf (.not f) w = nnf f (!w) := rfl
theorem nnf_3 (a fs w) : nnf (.junc a fs) w = .junc (a == w) (nnfs fs w) := rfl
theorem nnf_4 (a b w) : nnf (.imp a b) w = .junc (!w) [nnf a (!w), nnf b w] := rfl
theorem nnf_5 (a b w) : nnf (.iff a b) w = .junc true [.junc false [nnf a (!w), nnf b true], .junc false [nnf a w, nnf b false]] := rfl
theorem nnf_6 (a ds f w) : nnf (.quant a ds f) w = .quant (a == w) ds (nnf f w) := rfl
theorem nnf_7 (a w) : nnf (.atom a) w = if w then .atom a else .not (.atom a) := rfl
theorem nnfs_1 (w) : nnfs [] w = [] := rfl
theorem nnfs_2 (f fs w) : nnfs (f :: fs) w = nnf f w :: nnfs fs w := rfl
theorem isAtom_1 (b) : isAtom (.const b) = false := rfl
theorem isAtom_2 (f) : isAtom (.not f) = false := rfl
theorem isAtom_3 (a fs) : isAtom (.junc a fs) = false := rfl
theorem isAtom_4 (a b) : isAtom (.imp a b) = false := rfl
theorem isAtom_5 (a b) : isAtom (.iff a b) = false := rfl
theorem isAtom_6 (a ds f) : isAtom (.quant a ds f) = false := rfl
theorem isAtom_7 (a) : isAtom (.atom a) = true := rfl
theorem isNorm_1 (b) : isNorm (.const b) = true := rfl
theorem isNorm_2 (f) : isNorm (.not f) = isAtom f := rfl
theorem isNorm_3 (a fs) : isNorm (.junc a fs) = isNorms fs := rfl
theorem isNorm_4 (a b) : isNorm (.imp a b) = false := rfl
theorem isNorm_5 (a b) : isNorm (.iff a b) = false := rfl
theorem isNorm_6 (a ds f) : isNorm (.quant a ds f) = isNorm f := rfl
theorem isNorm_7 (a) : isNorm (.atom a) = true := rfl
theorem isNorms_1 : isNorms [] = true := rfl
theorem isNorms_2 (f fs) : isNorms (f :: fs) = (isNorm f && isNorms fs) := rfl
theorem baseV_1 (W ρ) : baseV W ρ .rel = W.1 := rfl
theorem baseV_2 (W ρ) : baseV W ρ .univ = [0, 1] := rfl
theorem baseV_3 (W ρ) : baseV W ρ .comp = [0, 1].filter fun a => !W.1.contains a := rfl
theorem baseV_4 (W ρ x) : baseV W ρ (.var x) = [(ρ x).getD 0] := rfl
theorem baseV_5 (W ρ) : baseV W ρ .joinR = joinV W.1 W.2 := rfl
theorem baseV_6 (W ρ x) : baseV W ρ (.joinV x) = joinV [(ρ x).getD 0] W.2 := rfl
theorem choicesV_1 (W found) : choicesV W [] found = found := rfl
theorem choicesV_2 (W d ds found) : choicesV W (d :: ds) found = choicesV W ds (stepV W d found) := rfl
theorem holdsV_1 (W b ρ) : holdsV W (.const b) ρ = b := rfl
theorem holdsV_2 (W f ρ) : holdsV W (.not f) ρ = !holdsV W f ρ := rfl
theorem holdsV_3 (W a fs ρ) : holdsV W (.junc a fs) ρ = juncV W a fs ρ := rfl
theorem holdsV_4 (W a b ρ) : holdsV W (.imp a b) ρ = if holdsV W a ρ then holdsV W b ρ else true := rfl
theorem holdsV_5 (W a b ρ) : holdsV W (.iff a b) ρ = (holdsV W a ρ == holdsV W b ρ) := rfl
theorem holdsV_6 (W a ds f ρ) : holdsV W (.quant a ds f) ρ = if a then (choicesV W ds [ρ]).all fun ρ' => holdsV W f ρ' else (choicesV W ds [ρ]).any fun ρ' => holdsV W f ρ' := rfl
theorem holdsV_7 (W a ρ) : holdsV W (.atom a) ρ = atomV W ρ a := rfl
theorem juncV_1 (W a ρ) : juncV W a [] ρ = a := rfl
theorem juncV_2 (W a f fs ρ) : juncV W a (f :: fs) ρ = if holdsV W f ρ = a then juncV W a fs ρ else !a := rfl
theorem hgt_1 (b) : hgt (.const b) = 1 := rfl
theorem hgt_2 (f) : hgt (.not f) = hgt f + 1 := rfl
theorem hgt_3 (a fs) : hgt (.junc a fs) = hgts fs + 1 := rfl
theorem hgt_4 (a b) : hgt (.imp a b) = max (hgt a) (hgt b) + 1 := rfl
theorem hgt_5 (a b) : hgt (.iff a b) = max (hgt a) (hgt b) + 1 := rfl
theorem hgt_6 (a ds f) : hgt (.quant a ds f) = hgt f + 1 := rfl
theorem hgt_7 (a) : hgt (.atom a) = 1 := rfl
theorem hgts_1 : hgts [] = 1 := rfl
theorem hgts_2 (f fs) : hgts (f :: fs) = max (hgt f) (hgts fs) := rfl
theorem wfD_1 (Γ) : wfD Γ [] = True := rfl
theorem wfD_2 (Γ d ds) : wfD Γ (d :: ds) = (d.1 ∈ marks ∧ wfS Γ d.2 ∧ wfD (Γ ++ [d.1]) ds) := rfl
theorem wf_1 (Γ b) : wf Γ (.const b) = True := rfl
theorem wf_2 (Γ f) : wf Γ (.not f) = wf Γ f := rfl
theorem wf_3 (Γ a fs) : wf Γ (.junc a fs) = (fs.length ≤ 3 ∧ wfs Γ fs) := rfl
theorem wf_4 (Γ a b) : wf Γ (.imp a b) = (wf Γ a ∧ wf Γ b) := rfl
theorem wf_5 (Γ a b) : wf Γ (.iff a b) = (wf Γ a ∧ wf Γ b) := rfl
theorem wf_6 (Γ a ds f) : wf Γ (.quant a ds f) = (ds.length ≤ 2 ∧ wfD Γ ds ∧ wf (Γ ++ ds.map (·.1)) f) := rfl
theorem wf_7 (Γ a) : wf Γ (.atom a) = wfA Γ a := rfl
theorem wfs_1 (Γ) : wfs Γ [] = True := rfl
theorem wfs_2 (Γ f fs) : wfs Γ (f :: fs) = (wf Γ f ∧ wfs Γ fs) := rfl

theorem nnfs_length : ∀ (fs : List Fm) (w : Bool), (nnfs fs w).length = fs.length
  | [], _ => rfl
  | _ :: fs, w => by simp [nnfs_1, nnfs_2, nnfs_length fs w]
mutual
theorem norm_nnf : ∀ (f : Fm) (w : Bool), isNorm (nnf f w) = true
  | .const _, _ => by simp [nnf_1, nnf_2, nnf_3, nnf_4, nnf_5, nnf_6, nnf_7, isNorm_1, isNorm_2, isNorm_3, isNorm_4, isNorm_5, isNorm_6, isNorm_7]
  | .not f, w => by simp [nnf_1, nnf_2, nnf_3, nnf_4, nnf_5, nnf_6, nnf_7, norm_nnf f]
  | .junc a fs, w => by simp [nnf_1, nnf_2, nnf_3, nnf_4, nnf_5, nnf_6, nnf_7, isNorm_1, isNorm_2, isNorm_3, isNorm_4, isNorm_5, isNorm_6, isNorm_7, norm_nnfs fs w]
  | .imp a b, w => by simp [nnf_1, nnf_2, nnf_3, nnf_4, nnf_5, nnf_6, nnf_7, isNorm_1, isNorm_2, isNorm_3, isNorm_4, isNorm_5, isNorm_6, isNorm_7, isNorms_1, isNorms_2, norm_nnf a, norm_nnf b]
  | .iff a b, w => by simp [nnf_1, nnf_2, nnf_3, nnf_4, nnf_5, nnf_6, nnf_7, isNorm_1, isNorm_2, isNorm_3, isNorm_4, isNorm_5, isNorm_6, isNorm_7, isNorms_1, isNorms_2, norm_nnf a, norm_nnf b]
  | .quant a ds f, w => by simp [nnf_1, nnf_2, nnf_3, nnf_4, nnf_5, nnf_6, nnf_7, isNorm_1, isNorm_2, isNorm_3, isNorm_4, isNorm_5, isNorm_6, isNorm_7, norm_nnf f]
  | .atom a, w => by cases w <;> simp [nnf_1, nnf_2, nnf_3, nnf_4, nnf_5, nnf_6, nnf_7, isNorm_1, isNorm_2, isNorm_3, isNorm_4, isNorm_5, isNorm_6, isNorm_7, isAtom_1, isAtom_2, isAtom_3, isAtom_4, isAtom_5, isAtom_6, isAtom_7]
theorem norm_nnfs : ∀ (fs : List Fm) (w : Bool), isNorms (nnfs fs w) = true
  | [], _ => rfl
  | f :: fs, w => by simp [nnfs_1, nnfs_2, isNorms_1, isNorms_2, norm_nnf f w, norm_nnfs fs w]
end
mutual
theorem nnf_id : ∀ (f : Fm), isNorm f = true → nnf f true = f
  | .const b, _ => by simp [nnf_1, nnf_2, nnf_3, nnf_4, nnf_5, nnf_6, nnf_7]
  | .not f, h => by cases f with
    | atom a => rfl
    | _ => cases h
  | .junc a fs, h => by simp [nnf_1, nnf_2, nnf_3, nnf_4, nnf_5, nnf_6, nnf_7, nnfs_id fs (by simpa [isNorm_1, isNorm_2, isNorm_3, isNorm_4, isNorm_5, isNorm_6, isNorm_7] using h)]
  | .quant a ds f, h => by simp [nnf_1, nnf_2, nnf_3, nnf_4, nnf_5, nnf_6, nnf_7, nnf_id f (by simpa [isNorm_1, isNorm_2, isNorm_3, isNorm_4, isNorm_5, isNorm_6, isNorm_7] using h)]
  | .atom a, _ => by simp [nnf_1, nnf_2, nnf_3, nnf_4, nnf_5, nnf_6, nnf_7]
  | .imp _ _, h => by cases h
  | .iff _ _, h => by cases h
theorem nnfs_id : ∀ (fs : List Fm), isNorms fs = true → nnfs fs true = fs
  | [], _ => rfl
  | f :: fs, h => by
    simp only [isNorms_1, isNorms_2, Bool.and_eq_true] at h
    simp [nnfs_1, nnfs_2, nnf_id f h.1, nnfs_id fs h.2]
end
theorem all_flip {α : Type} (l : List α) (p : α → Bool) : (l.all fun x => p x) = !(l.any fun x => !p x) := by
  induction l with
  | nil => rfl
  | cons x l ih => simp [ih, Bool.not_or]
theorem any_flip {α : Type} (l : List α) (p : α → Bool) : (l.any fun x => p x) = !(l.all fun x => !p x) := by
  induction l with
  | nil => rfl
  | cons x l ih => simp [ih, Bool.not_and]
mutual
theorem holds_nnf (W : WorldV) : ∀ (f : Fm) (w : Bool) (ρ : EnvV), holdsV W (nnf f w) ρ = (holdsV W f ρ == w)
  | .const b, w, ρ => by simp [nnf_1, nnf_2, nnf_3, nnf_4, nnf_5, nnf_6, nnf_7, holdsV_1, holdsV_2, holdsV_3, holdsV_4, holdsV_5, holdsV_6, holdsV_7]
  | .not f, w, ρ => by simp only [nnf_1, nnf_2, nnf_3, nnf_4, nnf_5, nnf_6, nnf_7, holdsV_1, holdsV_2, holdsV_3, holdsV_4, holdsV_5, holdsV_6, holdsV_7, holds_nnf W f]; cases holdsV W f ρ <;> cases w <;> rfl
  | .junc a fs, w, ρ => by simp only [nnf_1, nnf_2, nnf_3, nnf_4, nnf_5, nnf_6, nnf_7, holdsV_1, holdsV_2, holdsV_3, holdsV_4, holdsV_5, holdsV_6, holdsV_7, junc_nnf W fs a w ρ]
  | .imp a b, w, ρ => by
    simp only [nnf_1, nnf_2, nnf_3, nnf_4, nnf_5, nnf_6, nnf_7, holdsV_1, holdsV_2, holdsV_3, holdsV_4, holdsV_5, holdsV_6, holdsV_7, juncV_1, juncV_2, holds_nnf W a, holds_nnf W b]
    cases holdsV W a ρ <;> cases holdsV W b ρ <;> cases w <;> rfl
  | .iff a b, w, ρ => by
    simp only [nnf_1, nnf_2, nnf_3, nnf_4, nnf_5, nnf_6, nnf_7, holdsV_1, holdsV_2, holdsV_3, holdsV_4, holdsV_5, holdsV_6, holdsV_7, juncV_1, juncV_2, holds_nnf W a, holds_nnf W b]
    cases holdsV W a ρ <;> cases holdsV W b ρ <;> cases w <;> rfl
  | .quant a ds f, w, ρ => by
    simp only [nnf_1, nnf_2, nnf_3, nnf_4, nnf_5, nnf_6, nnf_7, holdsV_1, holdsV_2, holdsV_3, holdsV_4, holdsV_5, holdsV_6, holdsV_7]
    have h : ∀ ρ', holdsV W (nnf f w) ρ' = (holdsV W f ρ' == w) := fun ρ' => holds_nnf W f w ρ'
    simp only [h]
    cases w
    · cases a
      · simp only [beq_self_eq_true, if_true, Bool.false_eq_true, if_false]
        rw [any_flip]; simp
      · simp only [Bool.true_beq, Bool.false_eq_true, if_false, if_true]
        rw [all_flip]; simp
    · cases a <;> simp
  | .atom a, w, ρ => by cases w <;> simp [nnf_1, nnf_2, nnf_3, nnf_4, nnf_5, nnf_6, nnf_7, holdsV_1, holdsV_2, holdsV_3, holdsV_4, holdsV_5, holdsV_6, holdsV_7]
theorem junc_nnf (W : WorldV) : ∀ (fs : List Fm) (a w : Bool) (ρ : EnvV), juncV W (a == w) (nnfs fs w) ρ = (juncV W a fs ρ == w)
  | [], a, w, ρ => by simp [nnfs_1, nnfs_2, juncV_1, juncV_2]
  | f :: fs, a, w, ρ => by
    simp only [nnfs_1, nnfs_2, juncV_1, juncV_2, holds_nnf W f, junc_nnf W fs a w ρ]
    cases holdsV W f ρ <;> cases a <;> cases w <;> simp
end

mutual
theorem wf_nnf : ∀ (f : Fm) (w : Bool) (Γ : List Str), wf Γ f → wf Γ (nnf f w)
  | .const _, _, _, _ => by simp [nnf_1, nnf_2, nnf_3, nnf_4, nnf_5, nnf_6, nnf_7, wf_1, wf_2, wf_3, wf_4, wf_5, wf_6, wf_7]
  | .not f, w, Γ, h => by simp only [nnf_1, nnf_2, nnf_3, nnf_4, nnf_5, nnf_6, nnf_7]; exact wf_nnf f _ Γ (by simpa [wf_1, wf_2, wf_3, wf_4, wf_5, wf_6, wf_7] using h)
  | .junc a fs, w, Γ, h => by
    simp only [wf_1, wf_2, wf_3, wf_4, wf_5, wf_6, wf_7] at h
    simp only [nnf_1, nnf_2, nnf_3, nnf_4, nnf_5, nnf_6, nnf_7, wf_1, wf_2, wf_3, wf_4, wf_5, wf_6, wf_7, nnfs_length]
    exact ⟨h.1, wfs_nnf fs w Γ h.2⟩
  | .imp a b, w, Γ, h => by
    simp only [wf_1, wf_2, wf_3, wf_4, wf_5, wf_6, wf_7] at h
    simp [nnf_1, nnf_2, nnf_3, nnf_4, nnf_5, nnf_6, nnf_7, wf_1, wf_2, wf_3, wf_4, wf_5, wf_6, wf_7, wfs_1, wfs_2, wf_nnf a _ Γ h.1, wf_nnf b _ Γ h.2]
  | .iff a b, w, Γ, h => by
    simp only [wf_1, wf_2, wf_3, wf_4, wf_5, wf_6, wf_7] at h
    simp [nnf_1, nnf_2, nnf_3, nnf_4, nnf_5, nnf_6, nnf_7, wf_1, wf_2, wf_3, wf_4, wf_5, wf_6, wf_7, wfs_1, wfs_2, wf_nnf a _ Γ h.1, wf_nnf b _ Γ h.2]
  | .quant a ds f, w, Γ, h => by
    simp only [wf_1, wf_2, wf_3, wf_4, wf_5, wf_6, wf_7] at h
    simp only [nnf_1, nnf_2, nnf_3, nnf_4, nnf_5, nnf_6, nnf_7, wf_1, wf_2, wf_3, wf_4, wf_5, wf_6, wf_7]
    exact ⟨h.1, h.2.1, wf_nnf f w _ h.2.2⟩
  | .atom a, w, Γ, h => by
    simp only [wf_1, wf_2, wf_3, wf_4, wf_5, wf_6, wf_7] at h
    cases w <;> simpa [nnf_1, nnf_2, nnf_3, nnf_4, nnf_5, nnf_6, nnf_7, wf_1, wf_2, wf_3, wf_4, wf_5, wf_6, wf_7] using h
theorem wfs_nnf : ∀ (fs : List Fm) (w : Bool) (Γ : List Str), wfs Γ fs → wfs Γ (nnfs fs w)
  | [], _, _, _ => by simp [nnfs_1, nnfs_2, wfs_1, wfs_2]
  | f :: fs, w, Γ, h => by
    simp only [wfs_1, wfs_2] at h
    simp only [nnfs_1, nnfs_2, wfs_1, wfs_2]
    exact ⟨wf_nnf f w Γ h.1, wfs_nnf fs w Γ h.2⟩
end
mutual
theorem hgt_nnf : ∀ (f : Fm) (w : Bool), hgt (nnf f w) ≤ 2 * hgt f
  | .const _, _ => by simp [nnf_1, nnf_2, nnf_3, nnf_4, nnf_5, nnf_6, nnf_7, hgt_1, hgt_2, hgt_3, hgt_4, hgt_5, hgt_6, hgt_7]
  | .not f, w => by have := hgt_nnf f (!w); simp only [nnf_1, nnf_2, nnf_3, nnf_4, nnf_5, nnf_6, nnf_7, hgt_1, hgt_2, hgt_3, hgt_4, hgt_5, hgt_6, hgt_7]; omega
  | .junc a fs, w => by have := hgts_nnf fs w; simp only [nnf_1, nnf_2, nnf_3, nnf_4, nnf_5, nnf_6, nnf_7, hgt_1, hgt_2, hgt_3, hgt_4, hgt_5, hgt_6, hgt_7]; omega
  | .imp a b, w => by have h1 := hgt_nnf a (!w); have h2 := hgt_nnf b w; have h3 := hgt_pos a; simp only [nnf_1, nnf_2, nnf_3, nnf_4, nnf_5, nnf_6, nnf_7, hgt_1, hgt_2, hgt_3, hgt_4, hgt_5, hgt_6, hgt_7, hgts_1, hgts_2]; omega
  | .iff a b, w => by
    have h1 := hgt_nnf a (!w); have h2 := hgt_nnf b true; have h3 := hgt_nnf a w; have h4 := hgt_nnf b false; have h5 := hgt_pos a
    have ha := Nat.mul_le_mul_left 2 (Nat.le_max_left (hgt a) (hgt b)); have hb := Nat.mul_le_mul_left 2 (Nat.le_max_right (hgt a) (hgt b))
    simp only [nnf_1, nnf_2, nnf_3, nnf_4, nnf_5, nnf_6, nnf_7, hgt_1, hgt_2, hgt_3, hgt_4, hgt_5, hgt_6, hgt_7, hgts_1, hgts_2]
    generalize max (hgt a) (hgt b) = M at ha hb ⊢
    have hp : 1 ≤ 2 * M := by omega
    exact Nat.le_trans (Nat.succ_le_succ (Nat.max_le.mpr ⟨Nat.succ_le_succ (Nat.max_le.mpr ⟨Nat.le_trans h1 ha, Nat.max_le.mpr ⟨Nat.le_trans h2 hb, hp⟩⟩), Nat.max_le.mpr ⟨Nat.succ_le_succ (Nat.max_le.mpr ⟨Nat.le_trans h3 ha, Nat.max_le.mpr ⟨Nat.le_trans h4 hb, hp⟩⟩), Nat.le_succ_of_le hp⟩⟩)) (Nat.le_of_eq (Nat.mul_succ 2 M).symm)
  | .quant a ds f, w => by have := hgt_nnf f w; simp only [nnf_1, nnf_2, nnf_3, nnf_4, nnf_5, nnf_6, nnf_7, hgt_1, hgt_2, hgt_3, hgt_4, hgt_5, hgt_6, hgt_7]; omega
  | .atom a, w => by cases w <;> simp [nnf_1, nnf_2, nnf_3, nnf_4, nnf_5, nnf_6, nnf_7, hgt_1, hgt_2, hgt_3, hgt_4, hgt_5, hgt_6, hgt_7]
theorem hgts_nnf : ∀ (fs : List Fm) (w : Bool), hgts (nnfs fs w) ≤ 2 * hgts fs
  | [], _ => by simp [nnfs_1, nnfs_2, hgts_1, hgts_2]
  | f :: fs, w => by have h1 := hgt_nnf f w; have h2 := hgts_nnf fs w; simp only [nnfs_1, nnfs_2, hgts_1, hgts_2]; omega
theorem hgt_pos : ∀ (f : Fm), 1 ≤ hgt f
  | .const _ => by simp [hgt_1, hgt_2, hgt_3, hgt_4, hgt_5, hgt_6, hgt_7]
  | .not f => by simp [hgt_1, hgt_2, hgt_3, hgt_4, hgt_5, hgt_6, hgt_7]
  | .junc a fs => by simp [hgt_1, hgt_2, hgt_3, hgt_4, hgt_5, hgt_6, hgt_7]
  | .imp a b => by simp [hgt_1, hgt_2, hgt_3, hgt_4, hgt_5, hgt_6, hgt_7]
  | .iff a b => by simp [hgt_1, hgt_2, hgt_3, hgt_4, hgt_5, hgt_6, hgt_7]
  | .quant a ds f => by simp [hgt_1, hgt_2, hgt_3, hgt_4, hgt_5, hgt_6, hgt_7]
  | .atom a => by simp [hgt_1, hgt_2, hgt_3, hgt_4, hgt_5, hgt_6, hgt_7]
end


theorem tup_encS (e : SE) : tupD (encS e) = true := by cases e <;> simp [encS_1, encS_2, encS_3, encS_4, encS_5, encS_6, tupD_1, tupD_2, tupD_3, tupD_4, tupD_5, tupD_6, tupD_7, tupDs_1, tupDs_2]
theorem tup_encA (a : AT) : tupD (encA a) = true := by cases a <;> simp [encA_1, encA_2, encA_3, encA_4, tupD_1, tupD_2, tupD_3, tupD_4, tupD_5, tupD_6, tupD_7, tupDs_1, tupDs_2, tup_encS]
theorem tup_encDs : ∀ ds : List (Str × SE), tupDs (encDs ds) = true
  | [] => rfl
  | d :: ds => by simp [encDs_1, encDs_2, encD, tupD_1, tupD_2, tupD_3, tupD_4, tupD_5, tupD_6, tupD_7, tupDs_1, tupDs_2, tup_encS, tup_encDs ds]
mutual
theorem tup_enc : ∀ f : Fm, tupD (enc f) = true
  | .const _ => by simp [enc_1, enc_2, enc_3, enc_4, enc_5, enc_6, enc_7, tupD_1, tupD_2, tupD_3, tupD_4, tupD_5, tupD_6, tupD_7, tupDs_1, tupDs_2]
  | .not f => by simp [enc_1, enc_2, enc_3, enc_4, enc_5, enc_6, enc_7, tupD_1, tupD_2, tupD_3, tupD_4, tupD_5, tupD_6, tupD_7, tupDs_1, tupDs_2, tup_enc f]
  | .junc _ fs => by simp [enc_1, enc_2, enc_3, enc_4, enc_5, enc_6, enc_7, tupD_1, tupD_2, tupD_3, tupD_4, tupD_5, tupD_6, tupD_7, tupDs_1, tupDs_2, tup_encs fs]
  | .imp a b => by simp [enc_1, enc_2, enc_3, enc_4, enc_5, enc_6, enc_7, tupD_1, tupD_2, tupD_3, tupD_4, tupD_5, tupD_6, tupD_7, tupDs_1, tupDs_2, tup_enc a, tup_enc b]
  | .iff a b => by simp [enc_1, enc_2, enc_3, enc_4, enc_5, enc_6, enc_7, tupD_1, tupD_2, tupD_3, tupD_4, tupD_5, tupD_6, tupD_7, tupDs_1, tupDs_2, tup_enc a, tup_enc b]
  | .quant _ ds f => by simp [enc_1, enc_2, enc_3, enc_4, enc_5, enc_6, enc_7, tupD_1, tupD_2, tupD_3, tupD_4, tupD_5, tupD_6, tupD_7, tupDs_1, tupDs_2, tup_enc f, tup_encDs ds]
  | .atom a => by simp [enc_1, enc_2, enc_3, enc_4, enc_5, enc_6, enc_7, tup_encA]
theorem tup_encs : ∀ fs : List Fm, tupDs (encs fs) = true
  | [] => rfl
  | f :: fs => by simp [encs_1, encs_2, tupDs_1, tupDs_2, tup_enc f, tup_encs fs]
end
theorem encs_length : ∀ fs : List Fm, (encs fs).length = fs.length
  | [] => rfl
  | f :: fs => by simp [encs_1, encs_2, encs_length fs]
theorem encDs_length : ∀ fs : List (Str × SE), (encDs fs).length = fs.length
  | [] => rfl
  | f :: fs => by simp [encDs_1, encDs_2, encDs_length fs]

theorem encs_get : ∀ {fs : List Fm} {i : Nat} {d : PyData}, (encs fs)[i]? = some d → ∃ f, fs[i]? = some f ∧ d = enc f
  | [], i, d, h => by simp [encs_1, encs_2] at h
  | f :: fs, 0, d, h => by simp [encs_1, encs_2] at h; exact ⟨f, rfl, h.symm⟩
  | f :: fs, i + 1, d, h => by simp [encs_1, encs_2] at h; simpa using encs_get h
theorem wfs_get {Γ : List Str} : ∀ {fs : List Fm} {i : Nat} {f : Fm}, wfs Γ fs → fs[i]? = some f → wf Γ f ∧ hgt f ≤ hgts fs
  | [], i, f, _, h => by simp at h
  | f :: fs, 0, f', hw, h => by simp at h; subst h; simp only [wfs_1, wfs_2] at hw; simp only [hgts_1, hgts_2]; exact ⟨hw.1, by omega⟩
  | f :: fs, i + 1, f', hw, h => by simp at h; simp only [wfs_1, wfs_2] at hw; have := wfs_get hw.2 h; simp only [hgts_1, hgts_2]; exact ⟨this.1, by omega⟩
theorem nnfs_append (w : Bool) : ∀ (fs gs : List Fm), nnfs (fs ++ gs) w = nnfs fs w ++ nnfs gs w
  | [], gs => rfl
  | f :: fs, gs => by simp [nnfs_1, nnfs_2, nnfs_append w fs gs]
theorem encs_append : ∀ (fs gs : List Fm), encs (fs ++ gs) = encs fs ++ encs gs
  | [], gs => rfl
  | f :: fs, gs => by simp [encs_1, encs_2, encs_append fs gs]
theorem tup_of_mem : ∀ {fs : List Fm}, ∀ d ∈ encs fs, tupD d = true
  | [], d, h => by simp [encs_1, encs_2] at h
  | f :: fs, d, h => by
    rcases List.mem_cons.mp (by simpa [encs_1, encs_2] using h) with rfl | h
    · exact tup_enc f
    · exact tup_of_mem d h



-- Comp2
section
variable {prog : Program} {w : World} {A : Around} {E : Value → Shared → Prop} {env : Env} {s : Shared}


noncomputable def CompOver (prog : Program) (w : World) (A : Around) (env : Env) (scope : Scope) (cl : List (Str × Addr)) (x : Str) (ifs : List Expr) (elt : Expr) (Q : Value → Shared → Prop) (n : Nat) (P : Nat → Value → Prop) (M : List Addr) (J : Nat → List Value → Heap → Prop) (s : Shared) : Prop :=
    (∀ i ys h h', J i ys h → (∀ b o, (TupO o ∨ b < s.heap.objs.size) → h.get? b = some o → h'.get? b = some o) → J i ys h') ∧ J 0 [] s.heap ∧
    (∀ C i v ys h tk m, i < n → P i v → s.heap.objs.size ≤ C → h.Ns C m → m x = some v → (∀ b o, b ∉ M → s.heap.get? b = some o → h.get? b = some o) → J i ys h →
      wpAny (model prog w) A (forIn ifs true fun c r => if r = true then do let ok ← isTrue c (compEnvC scope cl C env) (eval c (compEnvC scope cl C env)); pure (ForInStep.yield ok) else pure (ForInStep.yield r))
        (fun ok s₃ => TurnEnd s M h (fun h₃ s₃ =>
          if ok = true then wpAny (model prog w) A (eval elt (compEnvC scope cl C env)) (fun y s₄ => TurnEnd s M h₃ (fun h₄ _ => J (i + 1) (ys ++ [y]) h₄) s₄) (fun _ _ => False) s₃
          else J (i + 1) ys h₃) s₃) (fun _ _ => False) { s with heap := h, toks := tk }) ∧
    (∀ D h' tk ys, s.heap.get? D = none → h'.PlainList D (List.toArray ys) → J n ys h' → (∀ b o, b ∉ M → s.heap.get? b = some o → h'.get? b = some o) → Q (.ref D) { s with heap := h', toks := tk })

theorem comp_at {scope : Scope} {cl : List (Str × Addr)} {x : Str} {ifs : List Expr} {elt : Expr} {Q : Value → Shared → Prop} {fp : List Addr} {n : Nat} {P : Nat → Value → Prop} {St : Nat → Heap → Prop} {M : List Addr} {J : Nat → List Value → Heap → Prop} {o : Obj}
    (W : Walks prog w A s.heap.objs.size fp [s.heap.objs.size] n P St) (hsz : n ≤ sizeLine) (hst : St 0 (s.heap.push o)) (hfp : ∀ b ∈ fp, b < s.heap.objs.size + 1) (hM : ∀ b ∈ M, b < s.heap.objs.size ∧ b ∉ fp)
    (hsh : ∀ i h, St i h → ∀ b ∈ [s.heap.objs.size], ∀ o, h.get? b = some o → ¬ TupO o) (h : CompOver prog w A env scope cl x ifs elt Q n P M J s) :
    CompAt prog w A env scope cl x ifs elt Q (.ref s.heap.objs.size) { s with heap := s.heap.push o } := by
  obtain ⟨hJ, hj, hturn, hdone⟩ := h
  have up : ∀ {h' : Heap}, (∀ b o', b ∉ M → b ∉ [s.heap.objs.size] → (s.heap.push o).get? b = some o' → h'.get? b = some o') → ∀ b o', b ∉ M → s.heap.get? b = some o' → h'.get? b = some o' :=
    fun hk b o' a e => hk b o' a (fun q => Nat.lt_irrefl _ ((List.mem_singleton.mp q) ▸ Heap.lt_size e)) (Heap.get?_push_of_some _ e)
  refine .mk W hsz hst (fun b hb => by rw [Heap.size_push]; exact hfp b hb) (fun b hb => ⟨by rw [Heap.size_push]; exact Nat.lt_succ_of_lt (hM b hb).1, (hM b hb).2⟩) hsh ?_
    (hJ _ _ _ _ hj fun b o' _ e => Heap.get?_push_of_some _ e) ?_ ?_
  · intro i ys h h' hj' hk
    refine hJ i ys h h' hj' fun b o' hc e => hk b o' ?_ e
    rcases hc with ht | hlt
    · exact .inl ht
    · exact .inr ⟨by rw [Heap.size_push]; exact Nat.lt_succ_of_lt hlt, fun q => Nat.lt_irrefl _ ((List.mem_singleton.mp q) ▸ hlt)⟩
  · intro C i v ys h tk m hi hP hC hn hm hk hj'
    exact hturn C i v ys h tk m hi hP (Nat.le_of_succ_le (by rw [Heap.size_push] at hC; exact hC)) hn hm (up hk) hj'
  · intro D h' tk ys hD hpl hj' hk
    refine hdone D h' tk ys ?_ hpl hj' (up hk)
    cases e : s.heap.get? D with
    | none => rfl
    | some o' => rw [Heap.get?_push_of_some _ e] at hD; cases hD

theorem comp_tup {t : Addr} {vs : List Value} {scope : Scope} {cl : List (Str × Addr)} {x : Str} {ifs : List Expr} {elt : Expr} {Q : Value → Shared → Prop} (M : List Addr) (J : Nat → List Value → Heap → Prop)
    (hh : A.handled = none) (ht : IsTup s.heap t vs.toArray) (hsz : vs.length ≤ 1000) (hM : ∀ b ∈ M, b < s.heap.objs.size ∧ b ≠ t)
    (h : CompOver prog w A env scope cl x ifs elt Q vs.length (fun i v => vs[i]? = some v) M J s) :
    wpAny (model prog w) A (pyIter (.ref t)) (fun it s₂ => CompAt prog w A env scope cl x ifs elt Q it s₂) E s := by
  have ht' : s.heap.IsTuple t vs.toArray := ht
  obtain ⟨ot, hot, hcl, nn, hdt⟩ := id ht
  have hlt : t < s.heap.objs.size := Heap.lt_size hot
  refine wpAny_pyIter_tuple ht' ?_
  have W := Walks.tuple (prog := prog) (w := w) hh s.heap.objs.size t (Nat.ne_of_lt hlt) vs.toArray
  have e1 : vs.toArray.size = vs.length := by simp
  have e2 : (fun (i : Nat) v => vs.toArray[i]? = some v) = fun i v => vs[i]? = some v := by funext i v; simp
  rw [e1, e2] at W
  refine comp_at W (by rw [sizeLine_eq]; omega) ⟨⟨_, Heap.get?_push_size _ rfl, rfl, rfl⟩, ht'.at fun o e => Heap.get?_push_of_some _ e⟩ ?_ ?_ ?_ h
  · intro b hb
    rcases List.mem_cons.mp hb with rfl | hb
    · exact Nat.lt_succ_self _
    · rw [List.mem_singleton.mp hb]; exact Nat.lt_succ_of_lt hlt
  · intro b hb
    refine ⟨(hM b hb).1, fun q => ?_⟩
    rcases List.mem_cons.mp q with rfl | q
    · exact Nat.lt_irrefl _ (hM _ hb).1
    · exact (hM b hb).2 (List.mem_singleton.mp q)
  · rintro i h ⟨⟨o, ho, hc, _⟩, _⟩ b hb o' e ⟨hc', _⟩
    rw [List.mem_singleton.mp hb, ho] at e; cases e
    rw [hc] at hc'; exact absurd hc' (by simp)

theorem comp_list {t : Addr} {vs : List Value} {scope : Scope} {cl : List (Str × Addr)} {x : Str} {ifs : List Expr} {elt : Expr} {Q : Value → Shared → Prop} (M : List Addr) (J : Nat → List Value → Heap → Prop)
    (hh : A.handled = none) (ht : s.heap.IsList t vs.toArray) (hsz : vs.length ≤ 1000) (hM : ∀ b ∈ M, b < s.heap.objs.size ∧ b ≠ t)
    (h : CompOver prog w A env scope cl x ifs elt Q vs.length (fun i v => vs[i]? = some v) M J s) :
    wpAny (model prog w) A (pyIter (.ref t)) (fun it s₂ => CompAt prog w A env scope cl x ifs elt Q it s₂) E s := by
  obtain ⟨ot, hot, hcl, nn, hdt⟩ := id ht
  have hlt : t < s.heap.objs.size := Heap.lt_size hot
  refine wpAny_pyIter_list ht ?_
  have W := Walks.list (prog := prog) (w := w) hh s.heap.objs.size t (Nat.ne_of_lt hlt) vs.toArray
  have e1 : vs.toArray.size = vs.length := by simp
  have e2 : (fun (i : Nat) v => vs.toArray[i]? = some v) = fun i v => vs[i]? = some v := by funext i v; simp
  rw [e1, e2] at W
  refine comp_at W (by rw [sizeLine_eq]; omega) ⟨⟨_, Heap.get?_push_size _ rfl, rfl, rfl⟩, ht.at fun o e => Heap.get?_push_of_some _ e⟩ ?_ ?_ ?_ h
  · intro b hb
    rcases List.mem_cons.mp hb with rfl | hb
    · exact Nat.lt_succ_self _
    · rw [List.mem_singleton.mp hb]; exact Nat.lt_succ_of_lt hlt
  · intro b hb
    refine ⟨(hM b hb).1, fun q => ?_⟩
    rcases List.mem_cons.mp q with rfl | q
    · exact Nat.lt_irrefl _ (hM _ hb).1
    · exact (hM b hb).2 (List.mem_singleton.mp q)
  · rintro i h ⟨⟨o, ho, hc, _⟩, _⟩ b hb o' e ⟨hc', _⟩
    rw [List.mem_singleton.mp hb, ho] at e; cases e
    rw [hc] at hc'; exact absurd hc' (by simp)

theorem comp_range {r : Addr} {n : Nat} {t₀ u₀ v₀ : Tok} {scope : Scope} {cl : List (Str × Addr)} {x : Str} {ifs : List Expr} {elt : Expr} {Q : Value → Shared → Prop} (M : List Addr) (J : Nat → List Value → Heap → Prop)
    (hh : A.handled = none) (hr : IsRange s.heap r 0 n 1 t₀ u₀ v₀) (hsz : n ≤ 1000) (hM : ∀ b ∈ M, b < s.heap.objs.size)
    (h : CompOver prog w A env scope cl x ifs elt Q n (fun (i : Nat) v => ∃ t, v = .int (i : Int) t) M J s) :
    wpAny (model prog w) A (pyIter (.ref r)) (fun it s₂ => CompAt prog w A env scope cl x ifs elt Q it s₂) E s := by
  have hs : Builtin.Range.rangeSize 0 (n : Int) 1 = (n : Int) := by
    have := rangeSize_nat 0 n
    simpa using this
  have hsmall : Builtin.Range.small 0 (n : Int) 1 = true := small_one (by omega) (by omega) (by omega) (by omega)
  refine wpAny_pyIter_range hr hsmall ?_
  have W := Walks.range (prog := prog) (w := w) hh s.heap.objs.size 0 1 n
  have e2 : (fun (i : Nat) v => ∃ t, v = Value.int (0 + (i : Int) * 1) t) = fun (i : Nat) v => ∃ t, v = Value.int (i : Int) t := by funext i v; simp
  rw [e2] at W
  refine comp_at W (by rw [sizeLine_eq]; omega) (by show IsRangeIter _ _ _ _ _; rw [hs]; simpa using Heap.get?_push_size _ rfl) ?_ ?_ ?_ h
  · intro b hb; rw [List.mem_singleton.mp hb]; exact Nat.lt_succ_self _
  · intro b hb
    exact ⟨hM b hb, fun q => Nat.lt_irrefl _ ((List.mem_singleton.mp q) ▸ hM b hb)⟩
  · rintro i h hI b hb o' e ⟨hc', _⟩
    rw [List.mem_singleton.mp hb] at e
    have hI' : h.get? s.heap.objs.size = _ := hI
    rw [hI'] at e; cases e
    exact absurd hc' (by simp)
end

theorem news_new {base h h' : Heap} {L D : Addr} {m : Str → Option Value} {news : List (Addr × Obj)} {o : Obj} (F : Fr base L h m) (N : News base L h news) (hk : ∀ b o, h.get? b = some o → h'.get? b = some o) (hD : h.get? D = none) (ho : h'.get? D = some o) :
    News base L h' ((D, o) :: news) := by
  intro p hp
  rcases List.mem_cons.mp hp with rfl | hp
  · refine ⟨ho, ?_, ?_⟩
    · intro e
      obtain ⟨oL, _, _, hL, _⟩ := F.ns
      have e' : D = L := e
      rw [e', hL] at hD; cases hD
    · cases e : base.get? D with
      | none => rfl
      | some o' => rw [F.keep _ _ e] at hD; cases hD
  · exact N.grown hk p hp

theorem my_tuple {prog : Program} {w : World} {A : Around} {s : Shared} {E : Value → Shared → Prop} {base : Heap} {L l : Addr} {m : Str → Option Value} {news : List (Addr × Obj)} {items : List Value} {n : Nat} {Q : Value → Shared → Prop}
    (F : Fr base L s.heap m) (N : News base L s.heap news) (hm : (l, ({ cls := .type "list", data := .seq items.toArray n } : Obj)) ∈ news) (hsz : items.length ≤ 1000)
    (h : ∀ T h', Fr base L h' m → News base L h' ((T, ({ cls := .type "tuple", data := .seq items.toArray } : Obj)) :: news) → Q (.ref T) { s with heap := h' }) :
    wpAny (model prog w) A (call (.type "tuple") [.ref l]) Q E s := by
  refine call_tuple_list (hsz := by rw [sizeLine_eq, List.size_toArray]; omega) (N.isList hm) fun h' hk => ?_
  exact h _ _ ((F.keeps hk).push _) (News.push (F.keeps hk) (N.grown hk) _)

section
variable {prog : Program} {w : World} {A : Around} {s : Shared} {E : Value → Shared → Prop} {a b : Value} {da db : PyData} {Q : Value → Shared → Prop}
theorem my_eq (ra : Rd s.heap a da) (rb : Rd s.heap b db) (ha : PySem.SeqAt.shaped da = true) (hb : PySem.SeqAt.shaped db = true) (hu : A.units + 64 < 9900) (r : Bool) (hr : PyData.eqv da db = r)
    (h : Q (.bool r) s) : wpAny (model prog w) A (compareOp .Eq a b) Q E s := by
  obtain ⟨as, ra⟩ := ra
  obtain ⟨bs, rb⟩ := rb
  exact eq_dataH ra rb ha hb hu (hr ▸ h)
theorem my_ne (ra : Rd s.heap a da) (rb : Rd s.heap b db) (ha : PySem.SeqAt.shaped da = true) (hb : PySem.SeqAt.shaped db = true) (hu : A.units + 64 < 9900) (r : Bool) (hr : PyData.eqv da db = r)
    (h : Q (.bool (!r)) s) : wpAny (model prog w) A (compareOp .NotEq a b) Q E s := by
  obtain ⟨as, ra⟩ := ra
  obtain ⟨bs, rb⟩ := rb
  exact ne_dataH ra rb ha hb hu (hr ▸ h)
end


-- NormDef
noncomputable def NormSpec (prog : Program) (w : World) (g : Heap) (f : Fm) : Prop :=
  ∀ (dp un : Nat) (fr : Option (List Env)) (gd : Option (List Code)) (s : Shared) (v : Value) (b : Bool) (Q E : Value → Shared → Prop), Sub g s.heap → Rd s.heap v (enc f) → dp + 2 * hgt f + 10 < 700 → un + 20 * hgt f + 200 < 5000 →
    (∀ r h' tk, Sub s.heap h' → Rd h' r (enc (nnf f b)) → Q r { s with heap := h', toks := tk }) →
    wpAny (model prog w) ⟨none, dp, fr, gd, un⟩ (call (.ref 19) [v, .bool b]) Q E s


-- NormA
theorem norm_const {prog : Program} {w : World} {mean : ExcName → Option Value} {mg mb : Str → Option Value} {g : Heap} (X₀ : (hd.heap_39 w.params).In g) (T₀ : Top hd.view_39 (looseW hd.view_39 []) mean mg mb g)
    (c : Bool) (Γ : List Str) (hwf : wf Γ (.const c)) (IH : ∀ ff, hgt ff < hgt (.const c) → ∀ Γ, wf Γ ff → NormSpec prog w g ff) : NormSpec prog w g (.const c) := by
  intro dp un fr gd s v b Q E hg R hdp hun ret
  have X : (hd.heap_39 w.params).In s.heap := X₀.keeps hg
  have T : Top hd.view_39 (looseW hd.view_39 []) mean mg mb s.heap := T₀.keeps hg
  refine enterC (news := []) X T (fun _ _ e => e) (Nat.le_refl _) (fun _ h => nomatch h) (by k_is) (by k_is) (by show dp < 1000; walk_at "ROOM") (BindsTo.of_eq rfl) rfl (by decide) rfl rfl rfl ?_
  intro L h₁ tk cells _ F N Y hlt
  clear hlt
  k_cells Y
  (try simp only [List.cons_append, List.nil_append] at N)
  cases c <;> cases b
  all_goals
      obtain ⟨a, vs, rfl, hT, hA⟩ := R.tuple_inv
      obtain ⟨v1, us, rfl, r1, hA⟩ := hA.cons_inv
      obtain rfl := hA.nil_inv
      obtain ⟨t1, rfl⟩ := r1.str_inv
      clear R r1 hA
      simp only [Bool.false_eq_true, if_false, if_true] at hT
      simp only [hgt_1, hgt_2, hgt_3, hgt_4, hgt_5, hgt_6, hgt_7] at hdp hun IH
      simp only [wf_1, wf_2, wf_3, wf_4, wf_5, wf_6, wf_7] at hwf
      try dsimp only
      try k_fold
      walk_at "MY"
  all_goals exact ret _ _ _ (Fr.keep (by assumption)) (Rd.tuple (News.isTup (by assumption) (.head _)) (.cons (Rd.str _ _ _) .nil))

theorem norm_not {prog : Program} {w : World} {mean : ExcName → Option Value} {mg mb : Str → Option Value} {g : Heap} (X₀ : (hd.heap_39 w.params).In g) (T₀ : Top hd.view_39 (looseW hd.view_39 []) mean mg mb g)
    (f' : Fm) (Γ : List Str) (hwf : wf Γ (Fm.not f')) (IH : ∀ ff, hgt ff < hgt (Fm.not f') → ∀ Γ, wf Γ ff → NormSpec prog w g ff) : NormSpec prog w g (Fm.not f') := by
  intro dp un fr gd s v b Q E hg R hdp hun ret
  have X : (hd.heap_39 w.params).In s.heap := X₀.keeps hg
  have T : Top hd.view_39 (looseW hd.view_39 []) mean mg mb s.heap := T₀.keeps hg
  refine enterC (news := []) X T (fun _ _ e => e) (Nat.le_refl _) (fun _ h => nomatch h) (by k_is) (by k_is) (by show dp < 1000; walk_at "ROOM") (BindsTo.of_eq rfl) rfl (by decide) rfl rfl rfl ?_
  intro L h₁ tk cells _ F N Y hlt
  clear hlt
  k_cells Y
  (try simp only [List.cons_append, List.nil_append] at N)
  simp only [nnf_1, nnf_2, nnf_3, nnf_4, nnf_5, nnf_6, nnf_7] at ret
  obtain ⟨a, vs, rfl, hT, hA⟩ := R.tuple_inv
  obtain ⟨v1, us, rfl, r1, hA⟩ := hA.cons_inv
  obtain ⟨v2, us, rfl, r2, hA⟩ := hA.cons_inv
  obtain rfl := hA.nil_inv
  obtain ⟨t1, rfl⟩ := r1.str_inv
  clear R r1 hA
  simp only [hgt_1, hgt_2, hgt_3, hgt_4, hgt_5, hgt_6, hgt_7] at hdp hun IH
  simp only [wf_1, wf_2, wf_3, wf_4, wf_5, wf_6, wf_7] at hwf
  try dsimp only
  try k_fold
  walk_at "MY"
  rename Fr _ _ _ _ => F'
  refine Stop.of (IH f' (by omega) Γ hwf _ _ _ _ _ _ _ _ _ (hg.trans F'.keep) (r2.keeps F'.keep) (by show dp + 1 + 2 * hgt f' + 10 < 700; walk_at "ROOM") (by show un + 3 + 20 * hgt f' + 200 < 5000; walk_at "ROOM") fun r h' tk' hk hr => ?_)
  exact ret _ _ _ (fun _ _ e => hk _ _ (F'.keep _ _ e)) hr



-- NormB
theorem norm_imp {prog : Program} {w : World} {mean : ExcName → Option Value} {mg mb : Str → Option Value} {g : Heap} (X₀ : (hd.heap_39 w.params).In g) (T₀ : Top hd.view_39 (looseW hd.view_39 []) mean mg mb g)
    (f1 f2 : Fm) (Γ : List Str) (hwf : wf Γ (.imp f1 f2)) (IH : ∀ ff, hgt ff < hgt (.imp f1 f2) → ∀ Γ, wf Γ ff → NormSpec prog w g ff) : NormSpec prog w g (.imp f1 f2) := by
  intro dp un fr gd s v b Q E hg R hdp hun ret
  have X : (hd.heap_39 w.params).In s.heap := X₀.keeps hg
  have T : Top hd.view_39 (looseW hd.view_39 []) mean mg mb s.heap := T₀.keeps hg
  refine enterC (news := []) X T (fun _ _ e => e) (Nat.le_refl _) (fun _ h => nomatch h) (by k_is) (by k_is) (by show dp < 1000; walk_at "ROOM") (BindsTo.of_eq rfl) rfl (by decide) rfl rfl rfl ?_
  intro L h₁ tk cells _ F N Y hlt
  clear hlt
  k_cells Y
  (try simp only [List.cons_append, List.nil_append] at N)
  cases b
  all_goals
      obtain ⟨a, vs, rfl, hT, hA⟩ := R.tuple_inv
      obtain ⟨v1, us, rfl, r1, hA⟩ := hA.cons_inv
      obtain ⟨v2, us, rfl, r2, hA⟩ := hA.cons_inv
      obtain ⟨v3, us, rfl, r3, hA⟩ := hA.cons_inv
      obtain rfl := hA.nil_inv
      obtain ⟨t1, rfl⟩ := r1.str_inv
      clear R r1 hA
      simp only [hgt_1, hgt_2, hgt_3, hgt_4, hgt_5, hgt_6, hgt_7] at hdp hun IH
      simp only [wf_1, wf_2, wf_3, wf_4, wf_5, wf_6, wf_7] at hwf
      try dsimp only
      try k_fold
      walk_at "MY"
      (rename Fr _ _ _ _ => F'; rename News _ _ _ _ => N')
      refine Stop.of (IH f1 (by omega) _ hwf.1 _ _ _ _ _ _ _ _ _ (hg.trans F'.keep) (r2.keeps F'.keep) (by show dp + 1 + 2 * hgt f1 + 10 < 700; walk_at "ROOM") (by show un + 3 + 20 * hgt f1 + 200 < 5000; walk_at "ROOM") fun r h' tk' hk hr => ?_)
      have F2 := F'.keeps hk
      obtain ⟨tl1, N2, ht1, P1⟩ := adopt F2 (N'.grown hk) hr (tup_enc _)
      simp only [List.cons_append, List.nil_append] at N2
      clear F' N' hk hr
      walk_at "MY"
      (rename Fr _ _ _ _ => F'; rename News _ _ _ _ => N')
      refine Stop.of (IH f2 (by omega) _ hwf.2 _ _ _ _ _ _ _ _ _ (hg.trans F'.keep) (r3.keeps F'.keep) (by show dp + 1 + 2 * hgt f2 + 10 < 700; walk_at "ROOM") (by show un + 3 + 20 * hgt f2 + 200 < 5000; walk_at "ROOM") fun r h' tk' hk hr => ?_)
      have F2 := F'.keeps hk
      obtain ⟨tl2, N2, ht2, P2⟩ := adopt F2 (N'.grown hk) hr (tup_enc _)
      simp only [List.cons_append, List.nil_append] at N2
      clear F' N' hk hr
      walk_at "MY"
  all_goals
      (rename Fr _ _ _ _ => F'; rename News _ _ _ _ => N')
      refine ret _ _ _ F'.keep ?_
      simp only [nnf_1, nnf_2, nnf_3, nnf_4, nnf_5, nnf_6, nnf_7, enc_1, enc_2, enc_3, enc_4, enc_5, enc_6, enc_7, encs_1, encs_2, Bool.not_true, Bool.not_false]
      exact Rd.tuple (N'.isTup (.head _)) (.cons (Rd.str _ _ _) (.cons (Rd.tuple (N'.isTup (.tail _ (.head _))) (.cons (P1.at F' N' (fun p hp => by simp [hp])) (.cons (P2.at F' N' (fun p hp => by simp [hp])) .nil))) .nil))



-- NormC
theorem norm_quant {prog : Program} {w : World} {mean : ExcName → Option Value} {mg mb : Str → Option Value} {g : Heap} (X₀ : (hd.heap_39 w.params).In g) (T₀ : Top hd.view_39 (looseW hd.view_39 []) mean mg mb g)
    (c : Bool) (ds : List (Str × SE)) (f' : Fm) (Γ : List Str) (hwf : wf Γ (Fm.quant c ds f')) (IH : ∀ ff, hgt ff < hgt (Fm.quant c ds f') → ∀ Γ, wf Γ ff → NormSpec prog w g ff) : NormSpec prog w g (Fm.quant c ds f') := by
  intro dp un fr gd s v b Q E hg R hdp hun ret
  have X : (hd.heap_39 w.params).In s.heap := X₀.keeps hg
  have T : Top hd.view_39 (looseW hd.view_39 []) mean mg mb s.heap := T₀.keeps hg
  refine enterC (news := []) X T (fun _ _ e => e) (Nat.le_refl _) (fun _ h => nomatch h) (by k_is) (by k_is) (by show dp < 1000; walk_at "ROOM") (BindsTo.of_eq rfl) rfl (by decide) rfl rfl rfl ?_
  intro L h₁ tk cells _ F N Y hlt
  clear hlt
  k_cells Y
  (try simp only [List.cons_append, List.nil_append] at N)
  cases c <;> cases b
  all_goals
      obtain ⟨a, vs, rfl, hT, hA⟩ := R.tuple_inv
      obtain ⟨v1, us, rfl, r1, hA⟩ := hA.cons_inv
      obtain ⟨v2, us, rfl, r2, hA⟩ := hA.cons_inv
      obtain ⟨v3, us, rfl, r3, hA⟩ := hA.cons_inv
      obtain rfl := hA.nil_inv
      obtain ⟨t1, rfl⟩ := r1.str_inv
      clear R r1 hA
      simp only [Bool.false_eq_true, if_false, if_true] at hT
      simp only [hgt_1, hgt_2, hgt_3, hgt_4, hgt_5, hgt_6, hgt_7] at hdp hun IH
      simp only [wf_1, wf_2, wf_3, wf_4, wf_5, wf_6, wf_7] at hwf
      try dsimp only
      try k_fold
      walk_at "MY"
      (rename Fr _ _ _ _ => F'; rename News _ _ _ _ => N')
      refine Stop.of (IH f' (by omega) _ hwf.2.2 _ _ _ _ _ _ _ _ _ (hg.trans F'.keep) (r3.keeps F'.keep) (by show dp + 1 + 2 * hgt f' + 10 < 700; walk_at "ROOM") (by show un + 3 + 20 * hgt f' + 200 < 5000; walk_at "ROOM") fun r h' tk' hk hr => ?_)
      have F2 := F'.keeps hk
      obtain ⟨tl1, N2, ht1, P1⟩ := adopt F2 (N'.grown hk) hr (tup_enc _)
      simp only [List.cons_append, List.nil_append] at N2
      clear F' N' hk hr
      walk_at "MY"
  all_goals
      (rename Fr _ _ _ _ => F'; rename News _ _ _ _ => N')
      refine ret _ _ _ F'.keep ?_
      simp only [nnf_1, nnf_2, nnf_3, nnf_4, nnf_5, nnf_6, nnf_7, enc_1, enc_2, enc_3, enc_4, enc_5, enc_6, enc_7, encs_1, encs_2, Bool.not_true, Bool.not_false]
      exact Rd.tuple (N'.isTup (.head _)) (.cons (Rd.str _ _ _) (.cons (r2.keeps F'.keep) (.cons (P1.at F' N' (fun p hp => by simp [hp])) .nil)))



-- NormD
theorem norm_iff {prog : Program} {w : World} {mean : ExcName → Option Value} {mg mb : Str → Option Value} {g : Heap} (X₀ : (hd.heap_39 w.params).In g) (T₀ : Top hd.view_39 (looseW hd.view_39 []) mean mg mb g)
    (f1 f2 : Fm) (Γ : List Str) (hwf : wf Γ (Fm.iff f1 f2)) (IH : ∀ ff, hgt ff < hgt (Fm.iff f1 f2) → ∀ Γ, wf Γ ff → NormSpec prog w g ff) : NormSpec prog w g (Fm.iff f1 f2) := by
  intro dp un fr gd s v b Q E hg R hdp hun ret
  have X : (hd.heap_39 w.params).In s.heap := X₀.keeps hg
  have T : Top hd.view_39 (looseW hd.view_39 []) mean mg mb s.heap := T₀.keeps hg
  refine enterC (news := []) X T (fun _ _ e => e) (Nat.le_refl _) (fun _ h => nomatch h) (by k_is) (by k_is) (by show dp < 1000; walk_at "ROOM") (BindsTo.of_eq rfl) rfl (by decide) rfl rfl rfl ?_
  intro L h₁ tk cells _ F N Y hlt
  clear hlt
  k_cells Y
  (try simp only [List.cons_append, List.nil_append] at N)
  all_goals
      obtain ⟨a, vs, rfl, hT, hA⟩ := R.tuple_inv
      obtain ⟨v1, us, rfl, r1, hA⟩ := hA.cons_inv
      obtain ⟨v2, us, rfl, r2, hA⟩ := hA.cons_inv
      obtain ⟨v3, us, rfl, r3, hA⟩ := hA.cons_inv
      obtain rfl := hA.nil_inv
      obtain ⟨t1, rfl⟩ := r1.str_inv
      clear R r1 hA
      simp only [hgt_1, hgt_2, hgt_3, hgt_4, hgt_5, hgt_6, hgt_7] at hdp hun IH
      simp only [wf_1, wf_2, wf_3, wf_4, wf_5, wf_6, wf_7] at hwf
      try dsimp only
      try k_fold
      walk_at "MY"
      (rename Fr _ _ _ _ => F'; rename News _ _ _ _ => N')
      refine Stop.of (IH f1 (by omega) _ hwf.1 _ _ _ _ _ _ _ _ _ (hg.trans F'.keep) (r2.keeps F'.keep) (by show dp + 1 + 2 * hgt f1 + 10 < 700; walk_at "ROOM") (by show un + 3 + 20 * hgt f1 + 200 < 5000; walk_at "ROOM") fun r h' tk' hk hr => ?_)
      have F2 := F'.keeps hk
      obtain ⟨tl1, N2, ht1, P1⟩ := adopt F2 (N'.grown hk) hr (tup_enc _)
      simp only [List.cons_append, List.nil_append] at N2
      clear F' N' hk hr
      walk_at "MY"
      (rename Fr _ _ _ _ => F'; rename News _ _ _ _ => N')
      refine Stop.of (IH f2 (by omega) _ hwf.2 _ _ _ _ _ _ _ _ _ (hg.trans F'.keep) (r3.keeps F'.keep) (by show dp + 1 + 2 * hgt f2 + 10 < 700; walk_at "ROOM") (by show un + 3 + 20 * hgt f2 + 200 < 5000; walk_at "ROOM") fun r h' tk' hk hr => ?_)
      have F2 := F'.keeps hk
      obtain ⟨tl2, N2, ht2, P2⟩ := adopt F2 (N'.grown hk) hr (tup_enc _)
      simp only [List.cons_append, List.nil_append] at N2
      clear F' N' hk hr
      walk_at "MY"
      (rename Fr _ _ _ _ => F'; rename News _ _ _ _ => N')
      refine Stop.of (IH f1 (by omega) _ hwf.1 _ _ _ _ _ _ _ _ _ (hg.trans F'.keep) (r2.keeps F'.keep) (by show dp + 1 + 2 * hgt f1 + 10 < 700; walk_at "ROOM") (by show un + 3 + 20 * hgt f1 + 200 < 5000; walk_at "ROOM") fun r h' tk' hk hr => ?_)
      have F2 := F'.keeps hk
      obtain ⟨tl3, N2, ht3, P3⟩ := adopt F2 (N'.grown hk) hr (tup_enc _)
      simp only [List.cons_append, List.nil_append] at N2
      clear F' N' hk hr
      walk_at "MY"
      (rename Fr _ _ _ _ => F'; rename News _ _ _ _ => N')
      refine Stop.of (IH f2 (by omega) _ hwf.2 _ _ _ _ _ _ _ _ _ (hg.trans F'.keep) (r3.keeps F'.keep) (by show dp + 1 + 2 * hgt f2 + 10 < 700; walk_at "ROOM") (by show un + 3 + 20 * hgt f2 + 200 < 5000; walk_at "ROOM") fun r h' tk' hk hr => ?_)
      have F2 := F'.keeps hk
      obtain ⟨tl4, N2, ht4, P4⟩ := adopt F2 (N'.grown hk) hr (tup_enc _)
      simp only [List.cons_append, List.nil_append] at N2
      clear F' N' hk hr
      walk_at "MY"
  all_goals
      (rename Fr _ _ _ _ => F'; rename News _ _ _ _ => N')
      refine ret _ _ _ F'.keep ?_
      simp only [nnf_1, nnf_2, nnf_3, nnf_4, nnf_5, nnf_6, nnf_7, enc_1, enc_2, enc_3, enc_4, enc_5, enc_6, enc_7, encs_1, encs_2, Bool.not_true, Bool.not_false]
      exact Rd.tuple (N'.isTup (by k_mem)) (.cons (Rd.str _ _ _) (.cons (Rd.tuple (N'.isTup (by k_mem)) (.cons (Rd.tuple (N'.isTup (by k_mem)) (.cons (Rd.str _ _ _) (.cons (Rd.tuple (N'.isTup (by k_mem)) (.cons (P1.at F' N' (fun p hp => by simp [hp])) (.cons (P2.at F' N' (fun p hp => by simp [hp])) .nil))) .nil))) (.cons (Rd.tuple (N'.isTup (by k_mem)) (.cons (Rd.str _ _ _) (.cons (Rd.tuple (N'.isTup (by k_mem)) (.cons (P3.at F' N' (fun p hp => by simp [hp])) (.cons (P4.at F' N' (fun p hp => by simp [hp])) .nil))) .nil))) .nil))) .nil))


-- AtomNm

structure AName (nm : String) : Prop where
  n1 : (Str.ofString nm == Str.ofString "true") = false
  n2 : (Str.ofString nm == Str.ofString "false") = false
  n3 : (Str.ofString nm == Str.ofString "not") = false
  n4 : (Str.ofString nm == Str.ofString "and") = false
  n5 : (Str.ofString nm == Str.ofString "or") = false
  n6 : (Str.ofString nm == Str.ofString "implies") = false
  n7 : (Str.ofString nm == Str.ofString "iff") = false
  n8 : (Str.ofString nm == Str.ofString "all") = false
  n9 : (Str.ofString nm == Str.ofString "exists") = false
  ok : PyData.strOk (Str.ofString nm) = true
  mark : (([S "in", S "same", S "some", S "no", S "one", S "lone", S "le"].any fun y => PyData.eqv y (S nm)) = true)
theorem aname_in : AName "in" := ⟨by decide, by decide, by decide, by decide, by decide, by decide, by decide, by decide, by decide, by decide +kernel, by decide +kernel⟩
theorem aname_same : AName "same" := ⟨by decide, by decide, by decide, by decide, by decide, by decide, by decide, by decide, by decide, by decide +kernel, by decide +kernel⟩
theorem aname_le : AName "le" := ⟨by decide, by decide, by decide, by decide, by decide, by decide, by decide, by decide, by decide, by decide +kernel, by decide +kernel⟩
theorem aname_mult : ∀ k : _root_.Fin 4, AName (multName k) :=
  fin4 ⟨by decide, by decide, by decide, by decide, by decide, by decide, by decide, by decide, by decide, by decide +kernel, by decide +kernel⟩
    ⟨by decide, by decide, by decide, by decide, by decide, by decide, by decide, by decide, by decide, by decide +kernel, by decide +kernel⟩
    ⟨by decide, by decide, by decide, by decide, by decide, by decide, by decide, by decide, by decide, by decide +kernel, by decide +kernel⟩
    ⟨by decide, by decide, by decide, by decide, by decide, by decide, by decide, by decide, by decide, by decide +kernel, by decide +kernel⟩
theorem in_no2 {nm x y : String} (h1 : (Str.ofString nm == Str.ofString x) = false) (h2 : (Str.ofString nm == Str.ofString y) = false) : ([S x, S y].any fun d => PyData.eqv d (S nm)) = false := by
  have e : ∀ z, PyData.eqv (S z) (S nm) = (Str.ofString nm == Str.ofString z) := fun z => (show PyData.eqv (S z) (S nm) = (Str.ofString z == Str.ofString nm) from by simp only [PyData.eqv]).trans BEq.comm
  simp only [List.any_cons, List.any_nil, e, h1, h2, Bool.or_false]
theorem my_in_tup {prog : Program} {w : World} {A : Around} {s : Shared} {E : Value → Shared → Prop} {c x : Value} {ds : List PyData} {nm : String} {b : Bool} {Q : Value → Shared → Prop} (R : Rd s.heap c (.tuple ds)) (Rx : Rd s.heap x (S nm)) (hk : PyData.strOk (Str.ofString nm) = true)
    (hl : PyData.canLayAll0 ds = true) (hu : A.units + 64 < 9900) (hb : (ds.any fun y => PyData.eqv y (S nm)) = b) (h : Q (.bool b) s) : wpAny (model prog w) A (compareOp .In x c) Q E s := by
  obtain ⟨as, r⟩ := R
  obtain ⟨bs, rx⟩ := Rx
  refine SeqAt.in_tuple_reads r rx hl (by simpa only [PyData.canLay0] using hk) ?_ (by rw [hb]; exact h)
  have := Nat.min_le_right (PyData.depthAll ds) (S nm).depth
  have : (S nm).depth = 0 := by first | rfl | simp only [PyData.depth]
  show A.units + 1 + min (PyData.depthAll ds) (S nm).depth < 9900
  omega
theorem encA_cases : ∀ a : AT, ∃ nm, AName nm ∧ ((∃ d2, encA a = .tuple [S nm, d2]) ∨ ∃ d2 d3, encA a = .tuple [S nm, d2, d3])
  | .inn _ _ => ⟨_, aname_in, .inr ⟨_, _, rfl⟩⟩
  | .same _ _ => ⟨_, aname_same, .inr ⟨_, _, rfl⟩⟩
  | .le _ _ => ⟨_, aname_le, .inr ⟨_, _, rfl⟩⟩
  | .mult k _ => ⟨_, aname_mult k, .inl ⟨_, rfl⟩⟩
theorem junc_name (c : Bool) : ∃ nm, S (if c then "and" else "or") = S nm ∧ PyData.strOk (Str.ofString nm) = true ∧ ([S "and", S "or"].any fun y => PyData.eqv y (S nm)) = true := by
  cases c
  · exact ⟨"or", rfl, by decide +kernel, by decide +kernel⟩
  · exact ⟨"and", rfl, by decide +kernel, by decide +kernel⟩
theorem quant_name (c : Bool) : ∃ nm, S (if c then "all" else "exists") = S nm ∧ PyData.strOk (Str.ofString nm) = true ∧ ([S "and", S "or"].any fun y => PyData.eqv y (S nm)) = false ∧ ([S "all", S "exists"].any fun y => PyData.eqv y (S nm)) = true := by
  cases c
  · exact ⟨"exists", rfl, by decide +kernel, by decide +kernel, by decide +kernel⟩
  · exact ⟨"all", rfl, by decide +kernel, by decide +kernel, by decide +kernel⟩


-- NormE
section
local macro_rules | `(tactic| walk_at "compareOp In str ref") => `(tactic| ((with_reducible show wpAny _ _ (compareOp CmpOp.In (Value.str _ _) (Value.ref _)) _ _ _); refine Stop.mk ?_))
theorem norm_atom2 {prog : Program} {w : World} {mean : ExcName → Option Value} {mg mb : Str → Option Value} {g : Heap} (X₀ : (hd.heap_39 w.params).In g) (T₀ : Top hd.view_39 (looseW hd.view_39 []) mean mg mb g)
    (at' : AT) (nm : String) (d2 : PyData) (henc : encA at' = .tuple [S nm, d2]) (A : AName nm) : NormSpec prog w g (.atom at') := by
  intro dp un fr gd s v b Q E hg R hdp hun ret
  have X : (hd.heap_39 w.params).In s.heap := X₀.keeps hg
  have T : Top hd.view_39 (looseW hd.view_39 []) mean mg mb s.heap := T₀.keeps hg
  refine enterC (news := []) X T (fun _ _ e => e) (Nat.le_refl _) (fun _ h => nomatch h) (by k_is) (by k_is) (by show dp < 1000; walk_at "ROOM") (BindsTo.of_eq rfl) rfl (by decide) rfl rfl rfl ?_
  intro L h₁ tk cells _ F N Y hlt
  clear hlt
  k_cells Y
  (try simp only [List.cons_append, List.nil_append] at N)
  have n3 := A.n3; have n6 := A.n6; have n7 := A.n7
  have R0 : Rd s.heap v (encA at') := R
  have R1 := R0
  rw [henc] at R1
  obtain ⟨a, vs, rfl, hT, hA⟩ := R1.tuple_inv
  obtain ⟨v1, us, rfl, r1, hA⟩ := hA.cons_inv
  obtain ⟨v2, us, rfl, r2, hA⟩ := hA.cons_inv
  obtain rfl := hA.nil_inv
  obtain ⟨t1, rfl⟩ := r1.str_inv
  clear R r1 hA
  simp only [hgt_1, hgt_2, hgt_3, hgt_4, hgt_5, hgt_6, hgt_7] at hdp hun
  cases b
  all_goals
      try dsimp only
      try k_fold
      walk_at "MY"
      (rename Fr _ _ _ _ => F'; rename News _ _ _ _ => N')
      refine Stop.of (my_in_tup (ds := [S "true", S "false"]) (Rd.tuple (N'.isTup (by k_mem)) (.cons (Rd.str _ _ _) (.cons (Rd.str _ _ _) .nil))) (Rd.str _ _ _) A.ok (by decide +kernel) (by show un + 3 + 64 < 9900; walk_at "ROOM") (in_no2 A.n1 A.n2) ?_)
      walk_at "MY"
      (rename Fr _ _ _ _ => F'; rename News _ _ _ _ => N')
      refine Stop.of (my_in_tup (ds := [S "and", S "or"]) (Rd.tuple (N'.isTup (by k_mem)) (.cons (Rd.str _ _ _) (.cons (Rd.str _ _ _) .nil))) (Rd.str _ _ _) A.ok (by decide +kernel) (by show un + 3 + 64 < 9900; walk_at "ROOM") (in_no2 A.n4 A.n5) ?_)
      walk_at "MY"
      (rename Fr _ _ _ _ => F'; rename News _ _ _ _ => N')
      refine Stop.of (my_in_tup (ds := [S "all", S "exists"]) (Rd.tuple (N'.isTup (by k_mem)) (.cons (Rd.str _ _ _) (.cons (Rd.str _ _ _) .nil))) (Rd.str _ _ _) A.ok (by decide +kernel) (by show un + 3 + 64 < 9900; walk_at "ROOM") (in_no2 A.n8 A.n9) ?_)
      walk_at "MY"
  · (rename Fr _ _ _ _ => F'; rename News _ _ _ _ => N')
    exact ret _ _ _ F'.keep (Rd.tuple (N'.isTup (by k_mem)) (.cons (Rd.str _ _ _) (.cons (R0.keeps F'.keep) .nil)))
  · (rename Fr _ _ _ _ => F')
    exact ret _ _ _ F'.keep (R0.keeps F'.keep)
theorem norm_atom3 {prog : Program} {w : World} {mean : ExcName → Option Value} {mg mb : Str → Option Value} {g : Heap} (X₀ : (hd.heap_39 w.params).In g) (T₀ : Top hd.view_39 (looseW hd.view_39 []) mean mg mb g)
    (at' : AT) (nm : String) (d2 d3 : PyData) (henc : encA at' = .tuple [S nm, d2, d3]) (A : AName nm) : NormSpec prog w g (.atom at') := by
  intro dp un fr gd s v b Q E hg R hdp hun ret
  have X : (hd.heap_39 w.params).In s.heap := X₀.keeps hg
  have T : Top hd.view_39 (looseW hd.view_39 []) mean mg mb s.heap := T₀.keeps hg
  refine enterC (news := []) X T (fun _ _ e => e) (Nat.le_refl _) (fun _ h => nomatch h) (by k_is) (by k_is) (by show dp < 1000; walk_at "ROOM") (BindsTo.of_eq rfl) rfl (by decide) rfl rfl rfl ?_
  intro L h₁ tk cells _ F N Y hlt
  clear hlt
  k_cells Y
  (try simp only [List.cons_append, List.nil_append] at N)
  have n3 := A.n3; have n6 := A.n6; have n7 := A.n7
  have R0 : Rd s.heap v (encA at') := R
  have R1 := R0
  rw [henc] at R1
  obtain ⟨a, vs, rfl, hT, hA⟩ := R1.tuple_inv
  obtain ⟨v1, us, rfl, r1, hA⟩ := hA.cons_inv
  obtain ⟨v2, us, rfl, r2, hA⟩ := hA.cons_inv
  obtain ⟨v3, us, rfl, r3, hA⟩ := hA.cons_inv
  obtain rfl := hA.nil_inv
  obtain ⟨t1, rfl⟩ := r1.str_inv
  clear R r1 hA
  simp only [hgt_1, hgt_2, hgt_3, hgt_4, hgt_5, hgt_6, hgt_7] at hdp hun
  cases b
  all_goals
      try dsimp only
      try k_fold
      walk_at "MY"
      (rename Fr _ _ _ _ => F'; rename News _ _ _ _ => N')
      refine Stop.of (my_in_tup (ds := [S "true", S "false"]) (Rd.tuple (N'.isTup (by k_mem)) (.cons (Rd.str _ _ _) (.cons (Rd.str _ _ _) .nil))) (Rd.str _ _ _) A.ok (by decide +kernel) (by show un + 3 + 64 < 9900; walk_at "ROOM") (in_no2 A.n1 A.n2) ?_)
      walk_at "MY"
      (rename Fr _ _ _ _ => F'; rename News _ _ _ _ => N')
      refine Stop.of (my_in_tup (ds := [S "and", S "or"]) (Rd.tuple (N'.isTup (by k_mem)) (.cons (Rd.str _ _ _) (.cons (Rd.str _ _ _) .nil))) (Rd.str _ _ _) A.ok (by decide +kernel) (by show un + 3 + 64 < 9900; walk_at "ROOM") (in_no2 A.n4 A.n5) ?_)
      walk_at "MY"
      (rename Fr _ _ _ _ => F'; rename News _ _ _ _ => N')
      refine Stop.of (my_in_tup (ds := [S "all", S "exists"]) (Rd.tuple (N'.isTup (by k_mem)) (.cons (Rd.str _ _ _) (.cons (Rd.str _ _ _) .nil))) (Rd.str _ _ _) A.ok (by decide +kernel) (by show un + 3 + 64 < 9900; walk_at "ROOM") (in_no2 A.n8 A.n9) ?_)
      walk_at "MY"
  · (rename Fr _ _ _ _ => F'; rename News _ _ _ _ => N')
    exact ret _ _ _ F'.keep (Rd.tuple (N'.isTup (by k_mem)) (.cons (Rd.str _ _ _) (.cons (R0.keeps F'.keep) .nil)))
  · (rename Fr _ _ _ _ => F')
    exact ret _ _ _ F'.keep (R0.keeps F'.keep)
end


-- NormJ
theorem norm_junc {prog : Program} {w : World} {mean : ExcName → Option Value} {mg mb : Str → Option Value} {g : Heap} (X₀ : (hd.heap_39 w.params).In g) (T₀ : Top hd.view_39 (looseW hd.view_39 []) mean mg mb g)
    (c : Bool) (fs : List Fm) (Γ : List Str) (hwf : wf Γ (Fm.junc c fs)) (IH : ∀ ff, hgt ff < hgt (Fm.junc c fs) → ∀ Γ, wf Γ ff → NormSpec prog w g ff) : NormSpec prog w g (Fm.junc c fs) := by
  intro dp un fr gd s v b Q E hg R hdp hun ret
  have X : (hd.heap_39 w.params).In s.heap := X₀.keeps hg
  have T : Top hd.view_39 (looseW hd.view_39 []) mean mg mb s.heap := T₀.keeps hg
  refine enterC (news := []) X T (fun _ _ e => e) (Nat.le_refl _) (fun _ h => nomatch h) (by k_is) (by k_is) (by show dp < 1000; walk_at "ROOM") (BindsTo.of_eq rfl) rfl (by decide) rfl rfl rfl ?_
  intro L h₁ tk cells _ F N Y hlt
  clear hlt
  k_cells Y
  (try simp only [List.cons_append, List.nil_append] at N)
  obtain ⟨hlen, hwfs⟩ := (show fs.length ≤ 3 ∧ wfs Γ fs from hwf)
  obtain ⟨bb, hbb⟩ : ∃ bb, bb = b := ⟨b, rfl⟩
  cases c <;> cases b
  all_goals
      obtain ⟨a, vs, rfl, hT, hA⟩ := R.tuple_inv
      obtain ⟨v1, us, rfl, r1, hA⟩ := hA.cons_inv
      obtain ⟨v2, us, rfl, r2, hA⟩ := hA.cons_inv
      obtain rfl := hA.nil_inv
      obtain ⟨t1, rfl⟩ := r1.str_inv
      obtain ⟨b2, ks, rfl, hT2, hK⟩ := r2.tuple_inv
      clear R r1 hA
      simp only [Bool.false_eq_true, if_false, if_true] at hT
      simp only [hgt_1, hgt_2, hgt_3, hgt_4, hgt_5, hgt_6, hgt_7] at hdp hun IH
      simp only [wf_1, wf_2, wf_3, wf_4, wf_5, wf_6, wf_7] at hwf
      try dsimp only
      try k_fold
      walk_at "MY"
      (rename Fr _ _ _ _ => F'; rename News _ _ _ _ => N')
      have hkl : ks.length = fs.length := by rw [hK.length, encs_length]
      refine Stop.of (comp_gen (by with_unfolding_all rfl) (by decide) (by with_unfolding_all rfl) (by decide) (by with_unfolding_all rfl) (by intro _; with_unfolding_all rfl) ?_)
      walk_at "MY"
      refine Stop.of (comp_tup [] (fun i ys h => RdAll h ys (encs (nnfs (fs.take i) bb))) rfl (hT2.keeps F'.keep) (by omega) (fun _ h => nomatch h) ⟨?_, ?_, ?_, ?_⟩) <;> subst hbb
      · intro i ys h h' hj hk
        exact hj.stable (fun b o ho e => hk b o (.inl ho) e) tup_of_mem
      · simpa [nnfs_1, nnfs_2, encs_1, encs_2] using RdAll.nil
      · intro C i v ys h tk m hi hP hC hn hm hk hj
        refine wpAny_tests_nil (TurnEnd.intro (fun _ _ _ e => e) ?_)
        simp only [if_true]
        refine wpAny_gen fun P0 hP0 => ?_
        have F2 := F'.keeps fun b o e => hk b o (fun h => nomatch h) e
        have N2 := N'.grown fun b o e => hk b o (fun h => nomatch h) e
        walk_at "MY"
        obtain ⟨d, hd, rd⟩ := (hK.keeps F2.keep).get hP
        obtain ⟨f', hf', rfl⟩ := encs_get hd
        obtain ⟨w1, w2⟩ := wfs_get hwfs hf'
        refine Stop.of (IH f' (by omega) Γ w1 _ _ _ _ _ _ _ _ _ (hg.trans F2.keep) rd (by show dp + 1 + 2 * hgt f' + 10 < 700; walk_at "ROOM") (by show un + 3 + 20 * hgt f' + 200 < 5000; walk_at "ROOM") fun r h' tk' hk' hr => ?_)
        refine hP0 _ _ <| TurnEnd.intro (fun b o _ e => hk' b o e) ?_
        rw [List.take_add_one, hf']
        simp only [Option.toList_some, nnfs_append, encs_append, nnfs_1, nnfs_2, encs_1, encs_2]
        exact (hj.keeps hk').snoc hr
      · intro D h' tk' ys hD hpl hj hk
        obtain ⟨nn, hDo⟩ := hpl
        have hk' : ∀ b o, _ → h'.get? b = some o := fun b o e => hk b o (fun h => nomatch h) e
        have F3 := F'.keeps hk'
        have N3 := news_new F' N' hk' hD hDo
        rw [hkl, List.take_length] at hj
        obtain ⟨tl, N4, ht, hPin⟩ := adoptAll F3 N3 hj (tup_encs _)
        simp only [List.cons_append, List.nil_append] at N4
        clear F' N' N3 hk hk'
        walk_at "MY"
        (rename Fr _ _ _ _ => F'; rename News _ _ _ _ => N')
        have hyl : ys.length ≤ 1000 := by rw [hj.length, encs_length, nnfs_length]; omega
        refine my_tuple F' N' (by k_mem) hyl fun T h'' F5 N5 => ?_
        clear F' N'
        walk_at "MY"
        (rename Fr _ _ _ _ => F'; rename News _ _ _ _ => N')
        refine ret _ _ _ F'.keep ?_
        simp only [nnf_1, nnf_2, nnf_3, nnf_4, nnf_5, nnf_6, nnf_7, enc_1, enc_2, enc_3, enc_4, enc_5, enc_6, enc_7]
        exact Rd.tuple (N'.isTup (by k_mem)) (.cons (Rd.str _ _ _) (.cons (Rd.tuple (N'.isTup (by k_mem)) (hPin _ F'.keep fun p hp => (N' p (by simp [hp])).1)) .nil))


-- NormAll
theorem norm_all {prog : Program} {w : World} {mean : ExcName → Option Value} {mg mb : Str → Option Value} {g : Heap} (X₀ : (hd.heap_39 w.params).In g) (T₀ : Top hd.view_39 (looseW hd.view_39 []) mean mg mb g) :
    ∀ (n : Nat) (f : Fm), hgt f < n → ∀ Γ, wf Γ f → NormSpec prog w g f := by
  intro n
  induction n with
  | zero => intro f h; exact absurd h (Nat.not_lt_zero _)
  | succ n ih =>
    intro f h Γ hw
    have IH : ∀ f', hgt f' < hgt f → ∀ Γ, wf Γ f' → NormSpec prog w g f' := fun f' h' => ih f' (by omega)
    cases f with
    | const c => exact norm_const X₀ T₀ c Γ hw IH
    | not f' => exact norm_not X₀ T₀ f' Γ hw IH
    | junc c fs => exact norm_junc X₀ T₀ c fs Γ hw IH
    | imp a b => exact norm_imp X₀ T₀ a b Γ hw IH
    | iff a b => exact norm_iff X₀ T₀ a b Γ hw IH
    | quant c ds f' => exact norm_quant X₀ T₀ c ds f' Γ hw IH
    | atom a =>
      obtain ⟨nm, A, ⟨d2, e⟩ | ⟨d2, d3, e⟩⟩ := encA_cases a
      · exact norm_atom2 X₀ T₀ a nm d2 e A
      · exact norm_atom3 X₀ T₀ a nm d2 d3 e A

theorem neg_normal {prog : Program} {w : World} {mean : ExcName → Option Value} {mg mb : Str → Option Value} {g : Heap} (X₀ : (hd.heap_39 w.params).In g) (T₀ : Top hd.view_39 (looseW hd.view_39 []) mean mg mb g)
    {f : Fm} {Γ : List Str} (hw : wf Γ f) {dp un : Nat} {fr : Option (List Env)} {gd : Option (List Code)} {s : Shared} {v : Value} {Q E : Value → Shared → Prop} (hg : Sub g s.heap) (R : Rd s.heap v (enc f)) (hdp : dp + 2 * hgt f + 20 < 700) (hun : un + 20 * hgt f + 300 < 5000)
    (ret : ∀ r h' tk, Sub s.heap h' → Rd h' r (enc (nnf f true)) → Q r { s with heap := h', toks := tk }) :
    wpAny (model prog w) ⟨none, dp, fr, gd, un⟩ (call (.ref 26) [v]) Q E s := by
  have X : (hd.heap_39 w.params).In s.heap := X₀.keeps hg
  have T : Top hd.view_39 (looseW hd.view_39 []) mean mg mb s.heap := T₀.keeps hg
  refine enter (news := []) X T (fun _ _ e => e) (Nat.le_refl _) (fun _ h => nomatch h) (by k_is) (by k_is) (by show dp < 1000; walk_at "ROOM") (BindsTo.of_eq rfl) (locs rfl) rfl rfl rfl (by decide) ?_
  intro L h₁ _ F N
  try dsimp only
  walk_at "MY"
  (rename Fr _ _ _ _ => F'; rename News _ _ _ _ => N')
  refine Stop.of (norm_all X₀ T₀ (hgt f + 1) f (Nat.lt_succ_self _) Γ hw _ _ _ _ _ _ _ _ _ (hg.trans F'.keep) (R.keeps F'.keep) (by show dp + 1 + 2 * hgt f + 10 < 700; walk_at "ROOM") (by show un + 3 + 20 * hgt f + 200 < 5000; walk_at "ROOM") fun r h' tk' hk hr => ?_)
  exact ret _ _ _ (fun _ _ e => hk _ _ (F'.keep _ _ e)) hr


-- Shaped
theorem mx2 {a b n : Nat} (h1 : a ≤ n) (h2 : b ≤ n) : max a b ≤ n := Nat.max_le.mpr ⟨h1, h2⟩
theorem lay_encS (Γ : List Str) (hΓ : ∀ x ∈ Γ, x ∈ marks) (e : SE) (h : wfS Γ e) : (encS e).canLay0 = true ∧ (encS e).depth ≤ 2 := by
  have hm : ∀ x ∈ marks, PyData.strOk x = true := by decide +kernel
  cases e <;> simp only [encS_1, encS_2, encS_3, encS_4, encS_5, encS_6, PyData.canLay0, PyData.canLayAll0, PyData.depth, PyData.depthAll]
  case var x => have := hm x (hΓ x h); simp [this]; decide +kernel
  case joinV x => have := hm x (hΓ x h); simp [this]; decide +kernel
  all_goals decide +kernel
theorem lay_encA (Γ : List Str) (hΓ : ∀ x ∈ Γ, x ∈ marks) (a : AT) (h : wfA Γ a) : (encA a).canLay0 = true ∧ (encA a).depth ≤ 4 := by
  cases a with
  | mult k e =>
    have := lay_encS Γ hΓ e h
    simp only [encA_1, encA_2, encA_3, encA_4, PyData.canLay0, PyData.canLayAll0, PyData.depth, PyData.depthAll, this.1, Bool.and_true]
    refine ⟨?_, by (repeat' (first | exact Nat.zero_le _ | refine mx2 ?_ ?_ | refine Nat.succ_le_succ ?_)); all_goals omega⟩
    clear h
    revert k
    exact fin4 (by decide +kernel) (by decide +kernel) (by decide +kernel) (by decide +kernel)
  | le e n =>
    have := lay_encS Γ hΓ e h
    simp only [encA_1, encA_2, encA_3, encA_4, PyData.canLay0, PyData.canLayAll0, PyData.depth, PyData.depthAll, this.1, Bool.and_true]
    exact ⟨by decide +kernel, by (repeat' (first | exact Nat.zero_le _ | refine mx2 ?_ ?_ | refine Nat.succ_le_succ ?_)); all_goals omega⟩
  | inn a b =>
    have h1 := lay_encS Γ hΓ a h.1
    have h2 := lay_encS Γ hΓ b h.2
    simp only [encA_1, encA_2, encA_3, encA_4, PyData.canLay0, PyData.canLayAll0, PyData.depth, PyData.depthAll, h1.1, h2.1, Bool.and_true]
    exact ⟨by decide +kernel, by (repeat' (first | exact Nat.zero_le _ | refine mx2 ?_ ?_ | refine Nat.succ_le_succ ?_)); all_goals omega⟩
  | same a b =>
    have h1 := lay_encS Γ hΓ a h.1
    have h2 := lay_encS Γ hΓ b h.2
    simp only [encA_1, encA_2, encA_3, encA_4, PyData.canLay0, PyData.canLayAll0, PyData.depth, PyData.depthAll, h1.1, h2.1, Bool.and_true]
    exact ⟨by decide +kernel, by (repeat' (first | exact Nat.zero_le _ | refine mx2 ?_ ?_ | refine Nat.succ_le_succ ?_)); all_goals omega⟩
theorem lay_encDs : ∀ (ds : List (Str × SE)) (Γ : List Str), (∀ x ∈ Γ, x ∈ marks) → wfD Γ ds → PyData.canLayAll0 (encDs ds) = true ∧ PyData.depthAll (encDs ds) ≤ 3
  | [], _, _, _ => by simp [encDs_1, encDs_2, PyData.canLayAll0, PyData.depthAll]
  | (x, e) :: ds, Γ, hΓ, h => by
    simp only [wfD_1, wfD_2] at h
    have hm : ∀ x ∈ marks, PyData.strOk x = true := by decide +kernel
    have h1 := lay_encS Γ hΓ e h.2.1
    have h2 := lay_encDs ds (Γ ++ [x]) (fun y hy => (List.mem_append.mp hy).elim (hΓ y) fun q => by rw [List.mem_singleton.mp q]; exact h.1) h.2.2
    simp only [encDs_1, encDs_2, encD, PyData.canLayAll0, PyData.depthAll, PyData.canLay0, PyData.depth, h1.1, h2.1, hm x h.1, Bool.and_true]
    exact ⟨trivial, by (repeat' (first | exact Nat.zero_le _ | refine mx2 ?_ ?_ | refine Nat.succ_le_succ ?_)); all_goals omega⟩
theorem wfD_marks : ∀ (ds : List (Str × SE)) (Γ : List Str), wfD Γ ds → ∀ x ∈ ds.map (·.1), x ∈ marks
  | [], _, _, x, hx => by simp at hx
  | d :: ds, Γ, h, x, hx => by
    simp only [wfD_1, wfD_2] at h
    rw [List.map_cons] at hx
    rcases List.mem_cons.mp hx with rfl | hx
    · exact h.1
    · exact wfD_marks ds _ h.2.2 x hx
mutual
theorem lay_enc : ∀ (f : Fm) (Γ : List Str), (∀ x ∈ Γ, x ∈ marks) → wf Γ f → (enc f).canLay0 = true ∧ (enc f).depth ≤ 2 * hgt f + 4
  | .const b, Γ, hΓ, h => by cases b <;> simp only [enc_1, enc_2, enc_3, enc_4, enc_5, enc_6, enc_7, PyData.canLay0, PyData.canLayAll0, PyData.depth, PyData.depthAll, hgt_1, hgt_2, hgt_3, hgt_4, hgt_5, hgt_6, hgt_7] <;> exact ⟨by decide +kernel, by (repeat' (first | exact Nat.zero_le _ | refine mx2 ?_ ?_ | refine Nat.succ_le_succ ?_)); all_goals omega⟩
  | .not f, Γ, hΓ, h => by
    have := lay_enc f Γ hΓ (by simpa [wf_1, wf_2, wf_3, wf_4, wf_5, wf_6, wf_7] using h)
    simp only [enc_1, enc_2, enc_3, enc_4, enc_5, enc_6, enc_7, PyData.canLay0, PyData.canLayAll0, PyData.depth, PyData.depthAll, hgt_1, hgt_2, hgt_3, hgt_4, hgt_5, hgt_6, hgt_7, this.1, Bool.and_true]
    exact ⟨by decide +kernel, by (repeat' (first | exact Nat.zero_le _ | refine mx2 ?_ ?_ | refine Nat.succ_le_succ ?_)); all_goals omega⟩
  | .junc a fs, Γ, hΓ, h => by
    simp only [wf_1, wf_2, wf_3, wf_4, wf_5, wf_6, wf_7] at h
    have := lay_encs fs Γ hΓ h.2
    simp only [enc_1, enc_2, enc_3, enc_4, enc_5, enc_6, enc_7, PyData.canLay0, PyData.canLayAll0, PyData.depth, PyData.depthAll, hgt_1, hgt_2, hgt_3, hgt_4, hgt_5, hgt_6, hgt_7, this.1, Bool.and_true]
    exact ⟨by cases a <;> decide +kernel, by (repeat' (first | exact Nat.zero_le _ | refine mx2 ?_ ?_ | refine Nat.succ_le_succ ?_)); all_goals omega⟩
  | .imp a b, Γ, hΓ, h => by
    simp only [wf_1, wf_2, wf_3, wf_4, wf_5, wf_6, wf_7] at h
    have h1 := lay_enc a Γ hΓ h.1
    have h2 := lay_enc b Γ hΓ h.2
    simp only [enc_1, enc_2, enc_3, enc_4, enc_5, enc_6, enc_7, PyData.canLay0, PyData.canLayAll0, PyData.depth, PyData.depthAll, hgt_1, hgt_2, hgt_3, hgt_4, hgt_5, hgt_6, hgt_7, h1.1, h2.1, Bool.and_true]
    exact ⟨by decide +kernel, by (repeat' (first | exact Nat.zero_le _ | refine mx2 ?_ ?_ | refine Nat.succ_le_succ ?_)); all_goals omega⟩
  | .iff a b, Γ, hΓ, h => by
    simp only [wf_1, wf_2, wf_3, wf_4, wf_5, wf_6, wf_7] at h
    have h1 := lay_enc a Γ hΓ h.1
    have h2 := lay_enc b Γ hΓ h.2
    simp only [enc_1, enc_2, enc_3, enc_4, enc_5, enc_6, enc_7, PyData.canLay0, PyData.canLayAll0, PyData.depth, PyData.depthAll, hgt_1, hgt_2, hgt_3, hgt_4, hgt_5, hgt_6, hgt_7, h1.1, h2.1, Bool.and_true]
    exact ⟨by decide +kernel, by (repeat' (first | exact Nat.zero_le _ | refine mx2 ?_ ?_ | refine Nat.succ_le_succ ?_)); all_goals omega⟩
  | .quant a ds f, Γ, hΓ, h => by
    simp only [wf_1, wf_2, wf_3, wf_4, wf_5, wf_6, wf_7] at h
    have h1 := lay_encDs ds Γ hΓ h.2.1
    have h2 := lay_enc f (Γ ++ ds.map (·.1)) (fun y hy => (List.mem_append.mp hy).elim (hΓ y) (wfD_marks ds Γ h.2.1 y)) h.2.2
    simp only [enc_1, enc_2, enc_3, enc_4, enc_5, enc_6, enc_7, PyData.canLay0, PyData.canLayAll0, PyData.depth, PyData.depthAll, hgt_1, hgt_2, hgt_3, hgt_4, hgt_5, hgt_6, hgt_7, h1.1, h2.1, Bool.and_true]
    have := hgt_pos f
    exact ⟨by cases a <;> decide +kernel, by (repeat' (first | exact Nat.zero_le _ | refine mx2 ?_ ?_ | refine Nat.succ_le_succ ?_)); all_goals omega⟩
  | .atom a, Γ, hΓ, h => by
    have := lay_encA Γ hΓ a (by simpa [wf_1, wf_2, wf_3, wf_4, wf_5, wf_6, wf_7] using h)
    simp only [enc_1, enc_2, enc_3, enc_4, enc_5, enc_6, enc_7, hgt_1, hgt_2, hgt_3, hgt_4, hgt_5, hgt_6, hgt_7]
    exact ⟨this.1, by (repeat' (first | exact Nat.zero_le _ | refine mx2 ?_ ?_ | refine Nat.succ_le_succ ?_)); all_goals omega⟩
theorem lay_encs : ∀ (fs : List Fm) (Γ : List Str), (∀ x ∈ Γ, x ∈ marks) → wfs Γ fs → PyData.canLayAll0 (encs fs) = true ∧ PyData.depthAll (encs fs) ≤ 2 * hgts fs + 4
  | [], _, _, _ => by simp [encs_1, encs_2, PyData.canLayAll0, PyData.depthAll, hgts_1, hgts_2]
  | f :: fs, Γ, hΓ, h => by
    simp only [wfs_1, wfs_2] at h
    have h1 := lay_enc f Γ hΓ h.1
    have h2 := lay_encs fs Γ hΓ h.2
    simp only [encs_1, encs_2, PyData.canLayAll0, PyData.depthAll, hgts_1, hgts_2, h1.1, h2.1, Bool.and_true]
    exact ⟨trivial, by (repeat' (first | exact Nat.zero_le _ | refine mx2 ?_ ?_ | refine Nat.succ_le_succ ?_)); all_goals omega⟩
end
theorem shaped_enc {f : Fm} {Γ : List Str} (hΓ : ∀ x ∈ Γ, x ∈ marks) (h : wf Γ f) (hh : hgt f ≤ 20) : PySem.SeqAt.shaped (enc f) = true := by
  have := lay_enc f Γ hΓ h
  unfold PySem.SeqAt.shaped
  rw [this.1, Bool.true_and]
  exact decide_eq_true (by omega)
mutual
theorem eqv_self : ∀ (d : PyData), tupD d = true → PyData.eqv d d = true
  | .none, _ => rfl
  | .bool b, _ => by simp [PyData.eqv]
  | .int i, _ => by simp [PyData.eqv]
  | .str x, _ => by simp [PyData.eqv]
  | .tuple ds, h => by simp only [PyData.eqv]; exact eqvAll_self ds (by simpa [tupD_1, tupD_2, tupD_3, tupD_4, tupD_5, tupD_6, tupD_7] using h)
  | .list _, h => by simp [tupD_1, tupD_2, tupD_3, tupD_4, tupD_5, tupD_6, tupD_7] at h
  | .dict _, h => by simp [tupD_1, tupD_2, tupD_3, tupD_4, tupD_5, tupD_6, tupD_7] at h
theorem eqvAll_self : ∀ (ds : List PyData), tupDs ds = true → PyData.eqvAll ds ds = true
  | [], _ => rfl
  | d :: ds, h => by
    simp only [tupDs_1, tupDs_2, Bool.and_eq_true] at h
    simp only [PyData.eqvAll, Bool.and_eq_true]
    exact ⟨eqv_self d h.1, eqvAll_self ds h.2⟩
end


-- IsnDef
noncomputable def IsnSpec (prog : Program) (w : World) (g : Heap) (f : Fm) : Prop :=
  ∀ (dp un : Nat) (fr : Option (List Env)) (gd : Option (List Code)) (s : Shared) (v : Value) (Q E : Value → Shared → Prop), Sub g s.heap → Rd s.heap v (enc f) → dp + 2 * hgt f + 10 < 700 → un + 20 * hgt f + 200 < 5000 →
    (∀ h' tk, Sub s.heap h' → Q (.bool true) { s with heap := h', toks := tk }) →
    wpAny (model prog w) ⟨none, dp, fr, gd, un⟩ (call (.ref 86) [v]) Q E s


-- IsnA
theorem isn_ctrue {prog : Program} {w : World} {mean : ExcName → Option Value} {mg mb : Str → Option Value} {g : Heap} (X₀ : (hd.heap_39 w.params).In g) (T₀ : Top hd.view_39 (looseW hd.view_39 []) mean mg mb g)
     (Γ : List Str) (hΓ : ∀ x ∈ Γ, x ∈ marks) (hwf : wf Γ (Fm.const true)) (hnorm : isNorm (Fm.const true) = true) (IH : ∀ ff, hgt ff < hgt (Fm.const true) → ∀ Γ, (∀ x ∈ Γ, x ∈ marks) → wf Γ ff → isNorm ff = true → IsnSpec prog w g ff) : IsnSpec prog w g (Fm.const true) := by
  intro dp un fr gd s v Q E hg R hdp hun ret
  have X : (hd.heap_39 w.params).In s.heap := X₀.keeps hg
  have T : Top hd.view_39 (looseW hd.view_39 []) mean mg mb s.heap := T₀.keeps hg
  refine enter (news := []) X T (fun _ _ e => e) (Nat.le_refl _) (fun _ h => nomatch h) (by k_is) (by k_is) (by show dp < 1000; walk_at "ROOM") (BindsTo.of_eq rfl) (locs rfl) rfl rfl rfl (by decide) ?_
  intro L h₁ _ F N
  obtain ⟨a, vs, rfl, hT, hA⟩ := R.tuple_inv
  obtain ⟨v1, us, rfl, r1, hA⟩ := hA.cons_inv
  obtain rfl := hA.nil_inv
  obtain ⟨t1, rfl⟩ := r1.str_inv
  clear r1 hA
  simp only [Bool.false_eq_true, if_false, if_true] at hT
  simp only [hgt_1, hgt_2, hgt_3, hgt_4, hgt_5, hgt_6, hgt_7] at hdp hun IH
  try dsimp only
  try k_fold
  walk_at "MY"
  (rename Fr _ _ _ _ => F'; rename News _ _ _ _ => N')
  refine Stop.of (my_eq (da := .tuple [S "true"]) (db := .tuple [S "true"]) (R.keeps F'.keep) (Rd.tuple (N'.isTup (by k_mem)) (.cons (Rd.str _ _ _) .nil)) (by decide +kernel) (by decide +kernel) (by show un + 3 + 64 < 9900; walk_at "ROOM") true (by decide +kernel) ?_)
  walk_at "MY"
  (rename Fr _ _ _ _ => F')
  exact ret _ _ F'.keep
theorem isn_cfalse {prog : Program} {w : World} {mean : ExcName → Option Value} {mg mb : Str → Option Value} {g : Heap} (X₀ : (hd.heap_39 w.params).In g) (T₀ : Top hd.view_39 (looseW hd.view_39 []) mean mg mb g)
     (Γ : List Str) (hΓ : ∀ x ∈ Γ, x ∈ marks) (hwf : wf Γ (Fm.const false)) (hnorm : isNorm (Fm.const false) = true) (IH : ∀ ff, hgt ff < hgt (Fm.const false) → ∀ Γ, (∀ x ∈ Γ, x ∈ marks) → wf Γ ff → isNorm ff = true → IsnSpec prog w g ff) : IsnSpec prog w g (Fm.const false) := by
  intro dp un fr gd s v Q E hg R hdp hun ret
  have X : (hd.heap_39 w.params).In s.heap := X₀.keeps hg
  have T : Top hd.view_39 (looseW hd.view_39 []) mean mg mb s.heap := T₀.keeps hg
  refine enter (news := []) X T (fun _ _ e => e) (Nat.le_refl _) (fun _ h => nomatch h) (by k_is) (by k_is) (by show dp < 1000; walk_at "ROOM") (BindsTo.of_eq rfl) (locs rfl) rfl rfl rfl (by decide) ?_
  intro L h₁ _ F N
  obtain ⟨a, vs, rfl, hT, hA⟩ := R.tuple_inv
  obtain ⟨v1, us, rfl, r1, hA⟩ := hA.cons_inv
  obtain rfl := hA.nil_inv
  obtain ⟨t1, rfl⟩ := r1.str_inv
  clear r1 hA
  simp only [Bool.false_eq_true, if_false, if_true] at hT
  simp only [hgt_1, hgt_2, hgt_3, hgt_4, hgt_5, hgt_6, hgt_7] at hdp hun IH
  try dsimp only
  try k_fold
  walk_at "MY"
  (rename Fr _ _ _ _ => F'; rename News _ _ _ _ => N')
  refine Stop.of (my_eq (da := .tuple [S "false"]) (db := .tuple [S "true"]) (R.keeps F'.keep) (Rd.tuple (N'.isTup (by k_mem)) (.cons (Rd.str _ _ _) .nil)) (by decide +kernel) (by decide +kernel) (by show un + 3 + 64 < 9900; walk_at "ROOM") false (by decide +kernel) ?_)
  walk_at "MY"
  (rename Fr _ _ _ _ => F'; rename News _ _ _ _ => N')
  refine Stop.of (my_eq (da := .tuple [S "false"]) (db := .tuple [S "false"]) (R.keeps F'.keep) (Rd.tuple (N'.isTup (by k_mem)) (.cons (Rd.str _ _ _) .nil)) (by decide +kernel) (by decide +kernel) (by show un + 3 + 64 < 9900; walk_at "ROOM") true (by decide +kernel) ?_)
  walk_at "MY"
  (rename Fr _ _ _ _ => F')
  exact ret _ _ F'.keep


-- IsnB
section
local macro_rules | `(tactic| walk_at "compareOp In str ref") => `(tactic| ((with_reducible show wpAny _ _ (compareOp CmpOp.In (Value.str _ _) (Value.ref _)) _ _ _); refine Stop.mk ?_))
theorem isn_quant {prog : Program} {w : World} {mean : ExcName → Option Value} {mg mb : Str → Option Value} {g : Heap} (X₀ : (hd.heap_39 w.params).In g) (T₀ : Top hd.view_39 (looseW hd.view_39 []) mean mg mb g)
    (c : Bool) (ds : List (Str × SE)) (f' : Fm) (Γ : List Str) (hΓ : ∀ x ∈ Γ, x ∈ marks) (hwf : wf Γ (Fm.quant c ds f')) (hnorm : isNorm (Fm.quant c ds f') = true) (IH : ∀ ff, hgt ff < hgt (Fm.quant c ds f') → ∀ Γ, (∀ x ∈ Γ, x ∈ marks) → wf Γ ff → isNorm ff = true → IsnSpec prog w g ff) : IsnSpec prog w g (Fm.quant c ds f') := by
  intro dp un fr gd s v Q E hg R hdp hun ret
  have X : (hd.heap_39 w.params).In s.heap := X₀.keeps hg
  have T : Top hd.view_39 (looseW hd.view_39 []) mean mg mb s.heap := T₀.keeps hg
  refine enter (news := []) X T (fun _ _ e => e) (Nat.le_refl _) (fun _ h => nomatch h) (by k_is) (by k_is) (by show dp < 1000; walk_at "ROOM") (BindsTo.of_eq rfl) (locs rfl) rfl rfl rfl (by decide) ?_
  intro L h₁ _ F N
  simp only [wf_1, wf_2, wf_3, wf_4, wf_5, wf_6, wf_7] at hwf
  obtain ⟨nm, enm, ok, hj0, hj⟩ := quant_name c
  obtain ⟨a, vs, rfl, hT, hA⟩ := R.tuple_inv
  obtain ⟨v1, us, rfl, r1, hA⟩ := hA.cons_inv
  obtain ⟨v2, us, rfl, r2, hA⟩ := hA.cons_inv
  obtain ⟨v3, us, rfl, r3, hA⟩ := hA.cons_inv
  obtain rfl := hA.nil_inv
  replace r1 : Rd s.heap v1 (S nm) := enm ▸ r1
  obtain ⟨t1, rfl⟩ := r1.str_inv
  clear r1 hA
  simp only [hgt_1, hgt_2, hgt_3, hgt_4, hgt_5, hgt_6, hgt_7] at hdp hun IH
  try dsimp only
  try k_fold
  walk_at "MY"
  (rename Fr _ _ _ _ => F'; rename News _ _ _ _ => N')
  refine Stop.of (my_in_tup (ds := [S "and", S "or"]) (Rd.tuple (N'.isTup (by k_mem)) (.cons (Rd.str _ _ _) (.cons (Rd.str _ _ _) .nil))) (Rd.str _ _ _) ok (by decide +kernel) (by show un + 3 + 64 < 9900; walk_at "ROOM") hj0 ?_)
  walk_at "MY"
  (rename Fr _ _ _ _ => F'; rename News _ _ _ _ => N')
  refine Stop.of (my_in_tup (ds := [S "all", S "exists"]) (Rd.tuple (N'.isTup (by k_mem)) (.cons (Rd.str _ _ _) (.cons (Rd.str _ _ _) .nil))) (Rd.str _ _ _) ok (by decide +kernel) (by show un + 3 + 64 < 9900; walk_at "ROOM") hj ?_)
  walk_at "MY"
  (rename Fr _ _ _ _ => F')
  refine Stop.of (IH f' (by omega) _ (fun y hy => (List.mem_append.mp hy).elim (hΓ y) (wfD_marks ds Γ hwf.2.1 y)) hwf.2.2 (by simpa [isNorm_1, isNorm_2, isNorm_3, isNorm_4, isNorm_5, isNorm_6, isNorm_7] using hnorm) _ _ _ _ _ _ _ _ (hg.trans F'.keep) (r3.keeps F'.keep) (by show dp + 1 + 2 * hgt f' + 10 < 700; walk_at "ROOM") (by show un + 3 + 20 * hgt f' + 200 < 5000; walk_at "ROOM") fun h' tk' hk => ?_)
  exact ret _ _ (fun _ _ e => hk _ _ (F'.keep _ _ e))
end


-- IsnC
section
local macro_rules | `(tactic| walk_at "compareOp In str ref") => `(tactic| ((with_reducible show wpAny _ _ (compareOp CmpOp.In (Value.str _ _) (Value.ref _)) _ _ _); refine Stop.mk ?_))
theorem isn_atom2 {prog : Program} {w : World} {mean : ExcName → Option Value} {mg mb : Str → Option Value} {g : Heap} (X₀ : (hd.heap_39 w.params).In g) (T₀ : Top hd.view_39 (looseW hd.view_39 []) mean mg mb g)
    (at' : AT) (nm : String) (d2 : PyData) (henc : encA at' = .tuple [S nm, d2]) (A : AName nm) : IsnSpec prog w g (.atom at') := by
  intro dp un fr gd s v Q E hg R hdp hun ret
  have X : (hd.heap_39 w.params).In s.heap := X₀.keeps hg
  have T : Top hd.view_39 (looseW hd.view_39 []) mean mg mb s.heap := T₀.keeps hg
  refine enter (news := []) X T (fun _ _ e => e) (Nat.le_refl _) (fun _ h => nomatch h) (by k_is) (by k_is) (by show dp < 1000; walk_at "ROOM") (BindsTo.of_eq rfl) (locs rfl) rfl rfl rfl (by decide) ?_
  intro L h₁ _ F N
  have n3 := A.n3
  have R1 : Rd s.heap v (encA at') := R
  rw [henc] at R1
  obtain ⟨a, vs, rfl, hT, hA⟩ := R1.tuple_inv
  obtain ⟨v1, us, rfl, r1, hA⟩ := hA.cons_inv
  obtain ⟨v2, us, rfl, r2, hA⟩ := hA.cons_inv
  obtain rfl := hA.nil_inv
  obtain ⟨t1, rfl⟩ := r1.str_inv
  clear r1 hA
  simp only [hgt_1, hgt_2, hgt_3, hgt_4, hgt_5, hgt_6, hgt_7] at hdp hun
  try dsimp only
  try k_fold
  walk_at "MY"
  (rename Fr _ _ _ _ => F'; rename News _ _ _ _ => N')
  refine Stop.of (my_in_tup (ds := [S "and", S "or"]) (Rd.tuple (N'.isTup (by k_mem)) (.cons (Rd.str _ _ _) (.cons (Rd.str _ _ _) .nil))) (Rd.str _ _ _) A.ok (by decide +kernel) (by show un + 3 + 64 < 9900; walk_at "ROOM") (in_no2 A.n4 A.n5) ?_)
  walk_at "MY"
  (rename Fr _ _ _ _ => F'; rename News _ _ _ _ => N')
  refine Stop.of (my_in_tup (ds := [S "all", S "exists"]) (Rd.tuple (N'.isTup (by k_mem)) (.cons (Rd.str _ _ _) (.cons (Rd.str _ _ _) .nil))) (Rd.str _ _ _) A.ok (by decide +kernel) (by show un + 3 + 64 < 9900; walk_at "ROOM") (in_no2 A.n8 A.n9) ?_)
  walk_at "MY"
  (rename Fr _ _ _ _ => F'; rename News _ _ _ _ => N')
  refine Stop.of (my_in_tup (ds := [S "in", S "same", S "some", S "no", S "one", S "lone", S "le"]) (Rd.tuple (N'.isTup (by k_mem)) (.cons (Rd.str _ _ _) (.cons (Rd.str _ _ _) (.cons (Rd.str _ _ _) (.cons (Rd.str _ _ _) (.cons (Rd.str _ _ _) (.cons (Rd.str _ _ _) (.cons (Rd.str _ _ _) .nil)))))))) (Rd.str _ _ _) A.ok (by decide +kernel) (by show un + 3 + 64 < 9900; walk_at "ROOM") A.mark ?_)
  walk_at "MY"
  (rename Fr _ _ _ _ => F')
  exact ret _ _ F'.keep
theorem isn_atom3 {prog : Program} {w : World} {mean : ExcName → Option Value} {mg mb : Str → Option Value} {g : Heap} (X₀ : (hd.heap_39 w.params).In g) (T₀ : Top hd.view_39 (looseW hd.view_39 []) mean mg mb g)
    (at' : AT) (nm : String) (d2 d3 : PyData) (henc : encA at' = .tuple [S nm, d2, d3]) (A : AName nm) : IsnSpec prog w g (.atom at') := by
  intro dp un fr gd s v Q E hg R hdp hun ret
  have X : (hd.heap_39 w.params).In s.heap := X₀.keeps hg
  have T : Top hd.view_39 (looseW hd.view_39 []) mean mg mb s.heap := T₀.keeps hg
  refine enter (news := []) X T (fun _ _ e => e) (Nat.le_refl _) (fun _ h => nomatch h) (by k_is) (by k_is) (by show dp < 1000; walk_at "ROOM") (BindsTo.of_eq rfl) (locs rfl) rfl rfl rfl (by decide) ?_
  intro L h₁ _ F N
  have n3 := A.n3
  have R1 : Rd s.heap v (encA at') := R
  rw [henc] at R1
  obtain ⟨a, vs, rfl, hT, hA⟩ := R1.tuple_inv
  obtain ⟨v1, us, rfl, r1, hA⟩ := hA.cons_inv
  obtain ⟨v2, us, rfl, r2, hA⟩ := hA.cons_inv
  obtain ⟨v3, us, rfl, r3, hA⟩ := hA.cons_inv
  obtain rfl := hA.nil_inv
  obtain ⟨t1, rfl⟩ := r1.str_inv
  clear r1 hA
  simp only [hgt_1, hgt_2, hgt_3, hgt_4, hgt_5, hgt_6, hgt_7] at hdp hun
  try dsimp only
  try k_fold
  walk_at "MY"
  (rename Fr _ _ _ _ => F'; rename News _ _ _ _ => N')
  refine Stop.of (my_in_tup (ds := [S "and", S "or"]) (Rd.tuple (N'.isTup (by k_mem)) (.cons (Rd.str _ _ _) (.cons (Rd.str _ _ _) .nil))) (Rd.str _ _ _) A.ok (by decide +kernel) (by show un + 3 + 64 < 9900; walk_at "ROOM") (in_no2 A.n4 A.n5) ?_)
  walk_at "MY"
  (rename Fr _ _ _ _ => F'; rename News _ _ _ _ => N')
  refine Stop.of (my_in_tup (ds := [S "all", S "exists"]) (Rd.tuple (N'.isTup (by k_mem)) (.cons (Rd.str _ _ _) (.cons (Rd.str _ _ _) .nil))) (Rd.str _ _ _) A.ok (by decide +kernel) (by show un + 3 + 64 < 9900; walk_at "ROOM") (in_no2 A.n8 A.n9) ?_)
  walk_at "MY"
  (rename Fr _ _ _ _ => F'; rename News _ _ _ _ => N')
  refine Stop.of (my_in_tup (ds := [S "in", S "same", S "some", S "no", S "one", S "lone", S "le"]) (Rd.tuple (N'.isTup (by k_mem)) (.cons (Rd.str _ _ _) (.cons (Rd.str _ _ _) (.cons (Rd.str _ _ _) (.cons (Rd.str _ _ _) (.cons (Rd.str _ _ _) (.cons (Rd.str _ _ _) (.cons (Rd.str _ _ _) .nil)))))))) (Rd.str _ _ _) A.ok (by decide +kernel) (by show un + 3 + 64 < 9900; walk_at "ROOM") A.mark ?_)
  walk_at "MY"
  (rename Fr _ _ _ _ => F')
  exact ret _ _ F'.keep
end


-- IsnD
section
local macro_rules | `(tactic| walk_at "compareOp In str ref") => `(tactic| ((with_reducible show wpAny _ _ (compareOp CmpOp.In (Value.str _ _) (Value.ref _)) _ _ _); refine Stop.mk ?_))
theorem isn_not2 {prog : Program} {w : World} {mean : ExcName → Option Value} {mg mb : Str → Option Value} {g : Heap} (X₀ : (hd.heap_39 w.params).In g) (T₀ : Top hd.view_39 (looseW hd.view_39 []) mean mg mb g)
    (at' : AT) (nm : String) (d2 : PyData) (henc : encA at' = .tuple [S nm, d2]) (A : AName nm) : IsnSpec prog w g (.not (.atom at')) := by
  intro dp un fr gd s v Q E hg R hdp hun ret
  have X : (hd.heap_39 w.params).In s.heap := X₀.keeps hg
  have T : Top hd.view_39 (looseW hd.view_39 []) mean mg mb s.heap := T₀.keeps hg
  refine enter (news := []) X T (fun _ _ e => e) (Nat.le_refl _) (fun _ h => nomatch h) (by k_is) (by k_is) (by show dp < 1000; walk_at "ROOM") (BindsTo.of_eq rfl) (locs rfl) rfl rfl rfl (by decide) ?_
  intro L h₁ _ F N
  have R1 : Rd s.heap v (.tuple [S "not", encA at']) := R
  rw [henc] at R1
  obtain ⟨a0, vs, rfl, hT0, hA⟩ := R1.tuple_inv
  obtain ⟨w1, us, rfl, q1, hA⟩ := hA.cons_inv
  obtain ⟨w2, us, rfl, q2, hA⟩ := hA.cons_inv
  obtain rfl := hA.nil_inv
  obtain ⟨t0, rfl⟩ := q1.str_inv
  clear q1 hA
  obtain ⟨a, vs, rfl, hT, hA⟩ := q2.tuple_inv
  obtain ⟨v1, us, rfl, r1, hA⟩ := hA.cons_inv
  obtain ⟨v2, us, rfl, r2, hA⟩ := hA.cons_inv
  obtain rfl := hA.nil_inv
  obtain ⟨t1, rfl⟩ := r1.str_inv
  clear r1 hA
  simp only [hgt_1, hgt_2, hgt_3, hgt_4, hgt_5, hgt_6, hgt_7] at hdp hun
  try dsimp only
  try k_fold
  walk_at "MY"
  (rename Fr _ _ _ _ => F'; rename News _ _ _ _ => N')
  refine Stop.of (my_in_tup (ds := [S "and", S "or"]) (Rd.tuple (N'.isTup (by k_mem)) (.cons (Rd.str _ _ _) (.cons (Rd.str _ _ _) .nil))) (Rd.str _ _ _) (by decide +kernel) (by decide +kernel) (by show un + 3 + 64 < 9900; walk_at "ROOM") (in_no2 (nm := "not") (by decide) (by decide)) ?_)
  walk_at "MY"
  (rename Fr _ _ _ _ => F'; rename News _ _ _ _ => N')
  refine Stop.of (my_in_tup (ds := [S "all", S "exists"]) (Rd.tuple (N'.isTup (by k_mem)) (.cons (Rd.str _ _ _) (.cons (Rd.str _ _ _) .nil))) (Rd.str _ _ _) (by decide +kernel) (by decide +kernel) (by show un + 3 + 64 < 9900; walk_at "ROOM") (in_no2 (nm := "not") (by decide) (by decide)) ?_)
  walk_at "MY"
  (rename Fr _ _ _ _ => F'; rename News _ _ _ _ => N')
  refine Stop.of (my_in_tup (ds := [S "in", S "same", S "some", S "no", S "one", S "lone", S "le"]) (Rd.tuple (N'.isTup (by k_mem)) (.cons (Rd.str _ _ _) (.cons (Rd.str _ _ _) (.cons (Rd.str _ _ _) (.cons (Rd.str _ _ _) (.cons (Rd.str _ _ _) (.cons (Rd.str _ _ _) (.cons (Rd.str _ _ _) .nil)))))))) (Rd.str _ _ _) A.ok (by decide +kernel) (by show un + 3 + 64 < 9900; walk_at "ROOM") A.mark ?_)
  walk_at "MY"
  (rename Fr _ _ _ _ => F')
  exact ret _ _ F'.keep
theorem isn_not3 {prog : Program} {w : World} {mean : ExcName → Option Value} {mg mb : Str → Option Value} {g : Heap} (X₀ : (hd.heap_39 w.params).In g) (T₀ : Top hd.view_39 (looseW hd.view_39 []) mean mg mb g)
    (at' : AT) (nm : String) (d2 d3 : PyData) (henc : encA at' = .tuple [S nm, d2, d3]) (A : AName nm) : IsnSpec prog w g (.not (.atom at')) := by
  intro dp un fr gd s v Q E hg R hdp hun ret
  have X : (hd.heap_39 w.params).In s.heap := X₀.keeps hg
  have T : Top hd.view_39 (looseW hd.view_39 []) mean mg mb s.heap := T₀.keeps hg
  refine enter (news := []) X T (fun _ _ e => e) (Nat.le_refl _) (fun _ h => nomatch h) (by k_is) (by k_is) (by show dp < 1000; walk_at "ROOM") (BindsTo.of_eq rfl) (locs rfl) rfl rfl rfl (by decide) ?_
  intro L h₁ _ F N
  have R1 : Rd s.heap v (.tuple [S "not", encA at']) := R
  rw [henc] at R1
  obtain ⟨a0, vs, rfl, hT0, hA⟩ := R1.tuple_inv
  obtain ⟨w1, us, rfl, q1, hA⟩ := hA.cons_inv
  obtain ⟨w2, us, rfl, q2, hA⟩ := hA.cons_inv
  obtain rfl := hA.nil_inv
  obtain ⟨t0, rfl⟩ := q1.str_inv
  clear q1 hA
  obtain ⟨a, vs, rfl, hT, hA⟩ := q2.tuple_inv
  obtain ⟨v1, us, rfl, r1, hA⟩ := hA.cons_inv
  obtain ⟨v2, us, rfl, r2, hA⟩ := hA.cons_inv
  obtain ⟨v3, us, rfl, r3, hA⟩ := hA.cons_inv
  obtain rfl := hA.nil_inv
  obtain ⟨t1, rfl⟩ := r1.str_inv
  clear r1 hA
  simp only [hgt_1, hgt_2, hgt_3, hgt_4, hgt_5, hgt_6, hgt_7] at hdp hun
  try dsimp only
  try k_fold
  walk_at "MY"
  (rename Fr _ _ _ _ => F'; rename News _ _ _ _ => N')
  refine Stop.of (my_in_tup (ds := [S "and", S "or"]) (Rd.tuple (N'.isTup (by k_mem)) (.cons (Rd.str _ _ _) (.cons (Rd.str _ _ _) .nil))) (Rd.str _ _ _) (by decide +kernel) (by decide +kernel) (by show un + 3 + 64 < 9900; walk_at "ROOM") (in_no2 (nm := "not") (by decide) (by decide)) ?_)
  walk_at "MY"
  (rename Fr _ _ _ _ => F'; rename News _ _ _ _ => N')
  refine Stop.of (my_in_tup (ds := [S "all", S "exists"]) (Rd.tuple (N'.isTup (by k_mem)) (.cons (Rd.str _ _ _) (.cons (Rd.str _ _ _) .nil))) (Rd.str _ _ _) (by decide +kernel) (by decide +kernel) (by show un + 3 + 64 < 9900; walk_at "ROOM") (in_no2 (nm := "not") (by decide) (by decide)) ?_)
  walk_at "MY"
  (rename Fr _ _ _ _ => F'; rename News _ _ _ _ => N')
  refine Stop.of (my_in_tup (ds := [S "in", S "same", S "some", S "no", S "one", S "lone", S "le"]) (Rd.tuple (N'.isTup (by k_mem)) (.cons (Rd.str _ _ _) (.cons (Rd.str _ _ _) (.cons (Rd.str _ _ _) (.cons (Rd.str _ _ _) (.cons (Rd.str _ _ _) (.cons (Rd.str _ _ _) (.cons (Rd.str _ _ _) .nil)))))))) (Rd.str _ _ _) A.ok (by decide +kernel) (by show un + 3 + 64 < 9900; walk_at "ROOM") A.mark ?_)
  walk_at "MY"
  (rename Fr _ _ _ _ => F')
  exact ret _ _ F'.keep
end


-- IsnJ
theorem isNorms_get : ∀ {fs : List Fm} {i : Nat} {f : Fm}, isNorms fs = true → fs[i]? = some f → isNorm f = true
  | [], i, f, _, h => by simp at h
  | f :: fs, 0, f', hw, h => by simp at h; subst h; simp only [isNorms_1, isNorms_2, Bool.and_eq_true] at hw; exact hw.1
  | f :: fs, i + 1, f', hw, h => by simp at h; simp only [isNorms_1, isNorms_2, Bool.and_eq_true] at hw; exact isNorms_get hw.2 h

section
local macro_rules | `(tactic| walk_at "compareOp In str ref") => `(tactic| ((with_reducible show wpAny _ _ (compareOp CmpOp.In (Value.str _ _) (Value.ref _)) _ _ _); refine Stop.mk ?_))
theorem isn_junc {prog : Program} {w : World} {mean : ExcName → Option Value} {mg mb : Str → Option Value} {g : Heap} (X₀ : (hd.heap_39 w.params).In g) (T₀ : Top hd.view_39 (looseW hd.view_39 []) mean mg mb g)
    (c : Bool) (fs : List Fm) (Γ : List Str) (hΓ : ∀ x ∈ Γ, x ∈ marks) (hwf : wf Γ (Fm.junc c fs)) (hnorm : isNorm (Fm.junc c fs) = true) (IH : ∀ ff, hgt ff < hgt (Fm.junc c fs) → ∀ Γ, (∀ x ∈ Γ, x ∈ marks) → wf Γ ff → isNorm ff = true → IsnSpec prog w g ff) : IsnSpec prog w g (Fm.junc c fs) := by
  intro dp un fr gd s v Q E hg R hdp hun ret
  have X : (hd.heap_39 w.params).In s.heap := X₀.keeps hg
  have T : Top hd.view_39 (looseW hd.view_39 []) mean mg mb s.heap := T₀.keeps hg
  refine enter (news := []) X T (fun _ _ e => e) (Nat.le_refl _) (fun _ h => nomatch h) (by k_is) (by k_is) (by show dp < 1000; walk_at "ROOM") (BindsTo.of_eq rfl) (locs rfl) rfl rfl rfl (by decide) ?_
  intro L h₁ _ F N
  obtain ⟨hlen, hwfs⟩ := (show fs.length ≤ 3 ∧ wfs Γ fs from hwf)
  have hns : isNorms fs = true := by simpa [isNorm_1, isNorm_2, isNorm_3, isNorm_4, isNorm_5, isNorm_6, isNorm_7] using hnorm
  obtain ⟨nm, enm, ok, hj⟩ := junc_name c
  obtain ⟨a, vs, rfl, hT, hA⟩ := R.tuple_inv
  obtain ⟨v1, us, rfl, r1, hA⟩ := hA.cons_inv
  obtain ⟨v2, us, rfl, r2, hA⟩ := hA.cons_inv
  obtain rfl := hA.nil_inv
  replace r1 : Rd s.heap v1 (S nm) := enm ▸ r1
  obtain ⟨t1, rfl⟩ := r1.str_inv
  obtain ⟨b2, ks, rfl, hT2, hK⟩ := r2.tuple_inv
  clear R r1 hA
  simp only [hgt_1, hgt_2, hgt_3, hgt_4, hgt_5, hgt_6, hgt_7] at hdp hun IH
  try dsimp only
  try k_fold
  walk_at "MY"
  (rename Fr _ _ _ _ => F'; rename News _ _ _ _ => N')
  refine Stop.of (my_in_tup (ds := [S "and", S "or"]) (Rd.tuple (N'.isTup (by k_mem)) (.cons (Rd.str _ _ _) (.cons (Rd.str _ _ _) .nil))) (Rd.str _ _ _) ok (by decide +kernel) (by show un + 3 + 64 < 9900; walk_at "ROOM") hj ?_)
  walk_at "MY"
  (rename Fr _ _ _ _ => F'; rename News _ _ _ _ => N')
  have hkl : ks.length = fs.length := by rw [hK.length, encs_length]
  refine Stop.of (comp_gen (by with_unfolding_all rfl) (by decide) (by with_unfolding_all rfl) (by decide) (by with_unfolding_all rfl) (by intro _; with_unfolding_all rfl) ?_)
  walk_at "MY"
  refine Stop.of (comp_tup [] (fun i ys h => ys = []) rfl (hT2.keeps F'.keep) (by omega) (fun _ h => nomatch h) ⟨fun _ _ _ _ e _ => e, rfl, ?_, ?_⟩)
  · intro C i v ys h tk m hi hP hC hn hm hk hj
    refine wpAny_gen fun P0 hP0 => ?_
    refine wpAny_tests_one ?_
    have F2 := F'.keeps fun b o e => hk b o (fun h => nomatch h) e
    have N2 := N'.grown fun b o e => hk b o (fun h => nomatch h) e
    walk_at "MY"
    obtain ⟨d, hd, rd⟩ := (hK.keeps F2.keep).get hP
    obtain ⟨f', hf', rfl⟩ := encs_get hd
    obtain ⟨w1, w2⟩ := wfs_get hwfs hf'
    refine Stop.of (IH f' (by omega) Γ hΓ w1 (isNorms_get hns hf') _ _ _ _ _ _ _ _ (hg.trans F2.keep) rd (by show dp + 1 + 2 * hgt f' + 10 < 700; walk_at "ROOM") (by show un + 3 + 20 * hgt f' + 200 < 5000; walk_at "ROOM") fun h' tk' hk' => ?_)
    have F4 := F2.keeps hk'
    have N4 := N2.grown hk'
    walk_at "MY"
    exact hP0 _ _ <| TurnEnd.intro (fun b o _ e => hk' b o e) hj
  · rintro D h' tk' ys hD ⟨nn, hDo⟩ rfl hk
    have hk' : ∀ b o, _ → h'.get? b = some o := fun b o e => hk b o (fun h => nomatch h) e
    have F3 := F'.keeps hk'
    have N3 := news_new F' N' hk' hD hDo
    clear F' N' hk hk'
    walk_at "MY"
    (rename Fr _ _ _ _ => F'; rename News _ _ _ _ => N')
    refine Stop.of (my_eq (da := .list []) (db := .list []) (Rd.list (N'.isList (by k_mem)) .nil) (Rd.list (N'.isList (by k_mem)) .nil) (by decide +kernel) (by decide +kernel) (by show un + 3 + 64 < 9900; walk_at "ROOM") true (by decide +kernel) ?_)
    walk_at "MY"
    exact ret _ _ F'.keep
end


-- IsnAll
theorem isn_all {prog : Program} {w : World} {mean : ExcName → Option Value} {mg mb : Str → Option Value} {g : Heap} (X₀ : (hd.heap_39 w.params).In g) (T₀ : Top hd.view_39 (looseW hd.view_39 []) mean mg mb g) :
    ∀ (n : Nat) (f : Fm), hgt f < n → ∀ Γ, (∀ x ∈ Γ, x ∈ marks) → wf Γ f → isNorm f = true → IsnSpec prog w g f := by
  intro n
  induction n with
  | zero => intro f h; exact absurd h (Nat.not_lt_zero _)
  | succ n ih =>
    intro f h Γ hΓ hw hn
    have IH : ∀ ff, hgt ff < hgt f → ∀ Γ, (∀ x ∈ Γ, x ∈ marks) → wf Γ ff → isNorm ff = true → IsnSpec prog w g ff := fun f' h' => ih f' (by omega)
    cases f with
    | const c => cases c with
      | true => exact isn_ctrue X₀ T₀ Γ hΓ hw hn IH
      | false => exact isn_cfalse X₀ T₀ Γ hΓ hw hn IH
    | junc c fs => exact isn_junc X₀ T₀ c fs Γ hΓ hw hn IH
    | quant c ds f' => exact isn_quant X₀ T₀ c ds f' Γ hΓ hw hn IH
    | imp a b => cases hn
    | iff a b => cases hn
    | atom a =>
      obtain ⟨nm, A, ⟨d2, e⟩ | ⟨d2, d3, e⟩⟩ := encA_cases a
      · exact isn_atom2 X₀ T₀ a nm d2 e A
      · exact isn_atom3 X₀ T₀ a nm d2 d3 e A
    | not f => cases f with
      | atom a =>
        obtain ⟨nm, A, ⟨d2, e⟩ | ⟨d2, d3, e⟩⟩ := encA_cases a
        · exact isn_not2 X₀ T₀ a nm d2 e A
        · exact isn_not3 X₀ T₀ a nm d2 d3 e A
      | _ => cases hn


-- Feed
abbrev feedKV (l : Addr) (spot : Int) (t : Tok) : List (Str × Value) := [(Str.ofString "cells", .ref l), (Str.ofString "spot", .int spot t)]
noncomputable def Feed (prog : Program) (w : World) (h : Heap) (fd l : Addr) (spot : Nat) : Prop := ∃ o t, h.get? fd = some o ∧ o.IsDictOf (PySem.strKind prog w) (feedKV l spot t)
noncomputable def Cells (h : Heap) (l : Addr) : Prop := ∃ vs cells, h.IsList l (List.toArray vs) ∧ IntsAre vs cells ∧ cells.length ≤ 40
theorem Cells.keeps {h h' : Heap} {l : Addr} (C : Cells h l) (k : Sub h h') : Cells h' l := let ⟨vs, cs, hl, r⟩ := C; ⟨vs, cs, hl.at (fun o e => k l o e), r⟩
noncomputable def SubB (fd : Addr) (h h' : Heap) : Prop := ∀ b o, b ≠ fd → h.get? b = some o → h'.get? b = some o
theorem SubB.trans {fd : Addr} {a b c : Heap} (x : SubB fd a b) (y : SubB fd b c) : SubB fd a c := fun _ _ n e => y _ _ n (x _ _ n e)
theorem SubB.of {fd : Addr} {a b : Heap} (x : Sub a b) : SubB fd a b := fun _ _ _ e => x _ _ e
theorem SubB.sub {fd : Addr} {g a b : Heap} (hg : Sub g a) (hf : g.get? fd = none) (x : SubB fd a b) : Sub g b := fun c o e => x c o (by rintro rfl; rw [hf] at e; cases e) (hg c o e)

theorem dict_not_tup {prog : Program} {w : World} {o : Obj} {kvs : List (Str × Value)} (h : o.IsDictOf (PySem.strKind prog w) kvs) : ¬ TupO o := by
  rintro ⟨_, xs, n, e⟩
  obtain ⟨es, ep, _, hd, _⟩ := h
  rw [hd] at e; cases e
theorem dict_ne_list {prog : Program} {w : World} {h : Heap} {fd l a : Addr} {spot : Nat} {xs : Array Value} (Fd : Feed prog w h fd l spot) (hl : h.IsList a xs) : a ≠ fd := by
  rintro rfl
  obtain ⟨o, t, ho, _, _, hx, _⟩ := Fd
  obtain ⟨ol, hol, hcl, _⟩ := hl
  rw [hol] at ho; cases ho
  exact absurd (hcl.symm.trans hx.1) (by simp)
theorem Rd.subB {prog : Program} {w : World} {fd l : Addr} {h h' : Heap} {spot : Nat} {v : Value} {d : PyData} (R : Rd h v d) (hd : tupD d = true) (Fd : Feed prog w h fd l spot) (k : SubB fd h h') : Rd h' v d := by
  obtain ⟨o, t, ho, hdo⟩ := Fd
  exact R.stable hd fun b o' ht e => k b o' (by rintro rfl; rw [ho] at e; cases e; exact dict_not_tup hdo ht) e

noncomputable def NotDict (o : Obj) : Prop := ∀ es n, o.data ≠ .dict es n
theorem TupO.nd {o : Obj} (h : TupO o) : NotDict o := by
  rintro es n e
  obtain ⟨_, xs, m, hd⟩ := h
  rw [e] at hd; cases hd
theorem nd_seq {c : Value} {d : Option Addr} {xs : Array Value} {n : Nat} {sl : Array (Option Value)} : NotDict ({ cls := c, dict := d, data := .seq xs n, slots := sl } : Obj) := by
  intro es m e; cases e
theorem nd_cell {o : Obj} {v : Option Value} (h : o.data = .cell v) : NotDict o := by
  intro es m e; rw [h] at e; cases e

theorem feed_back {prog : Program} {w : World} {base h h' : Heap} {L fd : Addr} {m : Str → Option Value} {news : List (Addr × Obj)} {o o' : Obj} {kvs : List (Str × Value)} (F : Fr base L h m) (N : News base L h news) (hm : (fd, o) ∈ news)
    (hd : o.IsDictOf (PySem.strKind prog w) kvs) (hk : SubB fd h h') (ho' : h'.get? fd = some o') (rest : List (Addr × Obj)) (hr : ∀ p ∈ rest, p ∈ news ∧ NotDict p.2) : Fr base L h' m ∧ News base L h' ((fd, o') :: rest) := by
  obtain ⟨hf, hfL, hfb⟩ := N _ hm
  obtain ⟨oL, es, ep, hL, hLr⟩ := F.ns
  refine ⟨⟨⟨oL, es, ep, hk _ _ (Ne.symm hfL) hL, hLr⟩, fun b ob e => hk b ob (by rintro rfl; rw [hfb] at e; cases e) (F.keep b ob e), F.above⟩, fun p hp => ?_⟩
  rcases List.mem_cons.mp hp with rfl | hp
  · exact ⟨ho', hfL, hfb⟩
  · obtain ⟨hp, hnd⟩ := hr p hp
    refine ⟨hk _ _ ?_ (N p hp).1, (N p hp).2⟩
    intro e
    have h1 := (N p hp).1
    rw [e, hf] at h1
    cases h1
    obtain ⟨es, ep, _, hdd, _⟩ := hd
    exact hnd _ _ hdd

theorem enterF {prog : Program} {w : World} {A : Around} {s : Shared} {Q E : Value → Shared → Prop} {name qual : Str} {params : Arguments} {body : List Stmt} {scope : Scope}
    {dV kV doc pm cdv ct oc : Value} {an od : Option Addr} {osl : Array (Option Value)} {f : Addr} {args : List Value} {binds : List (Str × Value)} {g : Heap} {K : Frag}
    {p : Program} {loose : List Str} {mean : ExcName → Option Value} {mg mb : Str → Option Value} {fd l : Addr} {spot : Nat}
    (X : K.In g) (T : Top p loose mean mg mb g) (hg : Sub g s.heap) (hfg : g.get? fd = none) (Fd : Feed prog w s.heap fd l spot) (hC : Cells s.heap l)
    (ho : K.lookup f = some ⟨oc, od, .func (fnOf name qual params body scope dV kV doc pm an cdv ct), osl⟩) (hcd : codeIn K cdv qual = true) (hroom : A.depth < recursionLimit)
    (hbind : BindsTo s (fnOf name qual params body scope dV kV doc pm an cdv ct) ⟨args, []⟩ binds) (hloc : ∀ y ∈ binds, scope.names.lookup y.1 = some .local)
    (hco : scope.isCoroutine = false) (hgen : scope.isGenerator = false) (hk : scope.kind = .function) (hcell : ∀ x ∈ scope.names, x.2 ≠ .cell)
    (h : ∀ base L h₁ o t, K.In base → Top p loose mean mg mb base → Sub g base → base.get? fd = none → (∀ b o, b ≠ fd → s.heap.get? b = some o → base.get? b = some o) → fd < L → Fr base L h₁ (fun y => binds.reverse.lookup y) → News base L h₁ [(fd, o)] →
      o.IsDictOf (PySem.strKind prog w) (feedKV l spot t) → Cells base l →
      wpAny (model prog w) (A.deeper (envOf qual scope L f cdv)) (execs body (envOf qual scope L f cdv))
        (fun fl s' => Q (match fl with | .ret v => v | _ => .none) s') (fun _ _ => False)
        { s with heap := h₁, toks := s.toks + binds.length }) :
    wpAny (model prog w) A (call (.ref f) args) Q E s := by
  obtain ⟨o, t, hf, hd⟩ := id Fd
  have hb1 : ∀ b o, (hideAll s.heap [fd]).get? b = some o → s.heap.get? b = some o := fun b o e => of_hideAll _ e
  have hb2 : ∀ b o, b ≠ fd → s.heap.get? b = some o → (hideAll s.heap [fd]).get? b = some o := fun b o n e => hideAll_get _ e (by simpa using n)
  have hgb : Sub g (hideAll s.heap [fd]) := fun b o e => hb2 b o (by rintro rfl; rw [hfg] at e; cases e) (hg b o e)
  refine enter (base := hideAll s.heap [fd]) (news := [(fd, o)]) (X.keeps hgb) (T.keeps hgb) hb1 (Nat.le_of_eq (hideAll_size _ _)) ?_ ho hcd hroom hbind hloc hco hgen hk hcell ?_
  · intro q hq; rw [List.mem_singleton.mp hq]; exact ⟨hf, hideAll_none _ (.head _)⟩
  · intro L h₁ hL F N
    obtain ⟨vs, cs, hl, hi, hlen⟩ := hC
    exact h _ L h₁ o t (X.keeps hgb) (T.keeps hgb) hgb (hideAll_none _ (.head _)) hb2 (by rw [hL]; exact Heap.lt_size hf) F N hd ⟨vs, cs, hl.at fun o' e => hb2 l o' (dict_ne_list Fd hl) e, hi, hlen⟩


-- Draw
theorem draw_spec {prog : Program} {w : World} {mean : ExcName → Option Value} {mg mb : Str → Option Value} {g : Heap} (X₀ : (hd.heap_39 w.params).In g) (T₀ : Top hd.view_39 (looseW hd.view_39 []) mean mg mb g)
    {dp un : Nat} {fr : Option (List Env)} {gd : Option (List Code)} {s : Shared} {Q E : Value → Shared → Prop} {fd l : Addr} {spot : Nat} {wide : Int} {tw : Tok}
    (hg : Sub g s.heap) (hfg : g.get? fd = none) (Fd : Feed prog w s.heap fd l spot) (hC : Cells s.heap l) (hs : spot < 100000) (hw : 0 < wide) (hw' : wide ≤ 64) (hdp : dp < 700) (hun : un < 5000)
    (ret : ∀ v t h' tk, 0 ≤ v → v < wide → SubB fd s.heap h' → Feed prog w h' fd l (spot + 1) → Q (.int v t) { s with heap := h', toks := tk }) :
    wpAny (model prog w) ⟨none, dp, fr, gd, un⟩ (call (.ref 33) [.ref fd, .int wide tw]) Q E s := by
  refine enterF X₀ T₀ hg hfg Fd hC (by k_is) (by k_is) (by show dp < 1000; walk_at "ROOM") (BindsTo.of_eq rfl) (locs rfl) rfl rfl rfl (by decide) ?_
  intro base L h₁ o t X T hgb hbf hb2 hfL F N hdo hC'
  obtain ⟨vs, cells, hl, hi, hc⟩ := hC'
  try dsimp only
  try k_fold
  walk_at "MY"
  all_goals
    (rename Fr _ _ _ _ => F'; rename News _ _ _ _ => N'; rename Obj.IsDictOf _ _ _ => hd')
    exact ret _ _ _ _ (Int.fmod_nonneg_of_pos _ hw) (Int.fmod_lt_of_pos _ hw) (fun b o n e => F'.keep _ _ (hb2 b o n e)) ⟨_, _, News.get N' (by k_mem), hd'⟩


theorem draw_use {prog : Program} {w : World} {mean : ExcName → Option Value} {mg mb : Str → Option Value} {base : Heap} (X : (hd.heap_39 w.params).In base) (T : Top hd.view_39 (looseW hd.view_39 []) mean mg mb base)
    {dp un : Nat} {fr : Option (List Env)} {gd : Option (List Code)} {s : Shared} {Q E : Value → Shared → Prop} {fd l L : Addr} {spot : Nat} {wide : Int} {tw t : Tok} {o : Obj} {m : Str → Option Value} {news : List (Addr × Obj)}
    (F : Fr base L s.heap m) (N : News base L s.heap news) (hm : (fd, o) ∈ news) (hd : o.IsDictOf (PySem.strKind prog w) (feedKV l spot t)) (hC : Cells base l) (rest : List (Addr × Obj)) (hr : ∀ p ∈ rest, p ∈ news ∧ NotDict p.2)
    (hs : spot < 100000) (hw : 0 < wide) (hw' : wide ≤ 64) (hdp : dp < 700) (hun : un < 5000)
    (ret : ∀ v tv h' tk o' t', 0 ≤ v → v < wide → Fr base L h' m → News base L h' ((fd, o') :: rest) → o'.IsDictOf (PySem.strKind prog w) (feedKV l (spot + 1 : Nat) t') → Q (.int v tv) { s with heap := h', toks := tk }) :
    wpAny (model prog w) ⟨none, dp, fr, gd, un⟩ (call (.ref 33) [.ref fd, .int wide tw]) Q E s := by
  refine draw_spec X T F.keep (N.fresh hm) ⟨o, t, N.get hm, hd⟩ (hC.keeps F.keep) hs hw hw' hdp hun fun v tv h' tk h0 h1 hk Fd => ?_
  obtain ⟨o', t', ho', hd'⟩ := Fd
  obtain ⟨F', N'⟩ := feed_back F N hm hd hk ho' rest hr
  exact ret v tv h' tk o' t' h0 h1 F' N' hd'


-- ASet
noncomputable def StrList (h : Heap) (l : Addr) (xs : List Str) : Prop := ∃ vs, h.IsList l (List.toArray vs) ∧ StrsAre vs xs
theorem getD_mem {α : Type} {l : List α} {i : Nat} {d : α} (h : i < l.length) : l.getD i d ∈ l := by
  rw [List.getD_eq_getElem?_getD, List.getElem?_eq_getElem h]; exact List.getElem_mem h
theorem nil_rest {news : List (Addr × Obj)} : ∀ p ∈ ([] : List (Addr × Obj)), p ∈ news ∧ NotDict p.2 := fun _ h => nomatch h

theorem aset_spec {prog : Program} {w : World} {mean : ExcName → Option Value} {mg mb : Str → Option Value} {g : Heap} (X₀ : (hd.heap_39 w.params).In g) (T₀ : Top hd.view_39 (looseW hd.view_39 []) mean mg mb g)
    {dp un : Nat} {fr : Option (List Env)} {gd : Option (List Code)} {s : Shared} {Q E : Value → Shared → Prop} {fd l fl : Addr} {spot : Nat} {Γ : List Str}
    (hg : Sub g s.heap) (hfg : g.get? fd = none) (Fd : Feed prog w s.heap fd l spot) (hC : Cells s.heap l) (hL : StrList s.heap fl Γ) (hΓ : Γ.length ≤ 20) (hs : spot + 10 < 100000) (hdp : dp + 5 < 700) (hun : un + 50 < 5000)
    (ret : ∀ e r spot' h' tk, wfS Γ e → spot' ≤ spot + 2 → SubB fd s.heap h' → Feed prog w h' fd l spot' → Rd h' r (encS e) → Q r { s with heap := h', toks := tk }) :
    wpAny (model prog w) ⟨none, dp, fr, gd, un⟩ (call (.ref 40) [.ref fd, .ref fl]) Q E s := by
  refine enterF X₀ T₀ hg hfg Fd hC (by k_is) (by k_is) (by show dp < 1000; walk_at "ROOM") (BindsTo.of_eq rfl) (locs rfl) rfl rfl rfl (by decide) ?_
  intro base L h₁ o t X T hgb hbf hb2 hfL F N hdo hC'
  obtain ⟨ks, hkl, hks⟩ := hL
  have hkl : base.IsList fl ks.toArray := hkl.at fun o e => hb2 _ _ (dict_ne_list Fd hkl) e
  try dsimp only
  try k_fold
  walk_at "MY"
  (rename Fr _ _ _ _ => F'; rename News _ _ _ _ => N')
  refine Stop.of (draw_use X T F' N' (by k_mem) hdo hC' [] nil_rest (by omega) (by decide) (by decide) (by show dp + 1 < 700; walk_at "ROOM") (by show un + 3 < 5000; walk_at "ROOM") fun v tv h' tk o' t' h0 h5 F2 N2 hd2 => ?_)
  clear F' N'
  walk_at "MY"
  · (rename Fr _ _ _ _ => F'; rename News _ _ _ _ => N')
    exact ret .rel _ _ _ _ trivial (by omega) (fun b o n e => F'.keep _ _ (hb2 b o n e)) ⟨_, _, News.get N' (by k_mem), hd2⟩ (Rd.tuple (N'.isTup (by k_mem)) (.cons (Rd.str _ _ _) (.cons (Rd.int _ _ _) .nil)))
  · (rename Fr _ _ _ _ => F'; rename News _ _ _ _ => N')
    exact ret .univ _ _ _ _ trivial (by omega) (fun b o n e => F'.keep _ _ (hb2 b o n e)) ⟨_, _, News.get N' (by k_mem), hd2⟩ (Rd.tuple (N'.isTup (by k_mem)) (.cons (Rd.str _ _ _) .nil))
  · (rename Fr _ _ _ _ => F'; rename News _ _ _ _ => N')
    exact ret .comp _ _ _ _ trivial (by omega) (fun b o n e => F'.keep _ _ (hb2 b o n e)) ⟨_, _, News.get N' (by k_mem), hd2⟩ (Rd.tuple (N'.isTup (by k_mem)) (.cons (Rd.str _ _ _) (.cons (Rd.tuple (N'.isTup (by k_mem)) (.cons (Rd.str _ _ _) .nil)) (.cons (Rd.tuple (N'.isTup (by k_mem)) (.cons (Rd.str _ _ _) (.cons (Rd.int _ _ _) .nil))) .nil))))
  · (rename Fr _ _ _ _ => F'; rename News _ _ _ _ => N')
    refine Stop.of (draw_use X T F' N' (by k_mem) hd2 hC' [] nil_rest (by omega) (by omega) (by omega) (by show dp + 1 < 700; walk_at "ROOM") (by show un + 3 < 5000; walk_at "ROOM") fun v2 tv2 h2 tk2 o2 t2 j0 j5 F3 N3 hd3 => ?_)
    clear F' N'
    walk_at "MY"
    · (rename Fr _ _ _ _ => F'; rename News _ _ _ _ => N')
      refine ret (.var _) _ _ _ _ ?_ (by omega) (fun b o n e => F'.keep _ _ (hb2 b o n e)) ⟨_, _, News.get N' (by k_mem), hd3⟩ (Rd.tuple (N'.isTup (by k_mem)) (.cons (Rd.str _ _ _) (.cons (Rd.str _ _ _) .nil)))
      exact getD_mem (by omega)
    · (rename Fr _ _ _ _ => F'; rename News _ _ _ _ => N')
      refine ret (.joinV _) _ _ _ _ ?_ (by omega) (fun b o n e => F'.keep _ _ (hb2 b o n e)) ⟨_, _, News.get N' (by k_mem), hd3⟩ (Rd.tuple (N'.isTup (by k_mem)) (.cons (Rd.str _ _ _) (.cons (Rd.tuple (N'.isTup (by k_mem)) (.cons (Rd.str _ _ _) (.cons (Rd.str _ _ _) .nil))) (.cons (Rd.tuple (N'.isTup (by k_mem)) (.cons (Rd.str _ _ _) (.cons (Rd.int _ _ _) .nil))) .nil))))
      exact getD_mem (by omega)
  · (rename Fr _ _ _ _ => F'; rename News _ _ _ _ => N')
    exact ret .rel _ _ _ _ trivial (by omega) (fun b o n e => F'.keep _ _ (hb2 b o n e)) ⟨_, _, News.get N' (by k_mem), hd2⟩ (Rd.tuple (N'.isTup (by k_mem)) (.cons (Rd.str _ _ _) (.cons (Rd.int _ _ _) .nil)))
  · (rename Fr _ _ _ _ => F'; rename News _ _ _ _ => N')
    exact ret .joinR _ _ _ _ trivial (by omega) (fun b o n e => F'.keep _ _ (hb2 b o n e)) ⟨_, _, News.get N' (by k_mem), hd2⟩ (Rd.tuple (N'.isTup (by k_mem)) (.cons (Rd.str _ _ _) (.cons (Rd.tuple (N'.isTup (by k_mem)) (.cons (Rd.str _ _ _) (.cons (Rd.int _ _ _) .nil))) (.cons (Rd.tuple (N'.isTup (by k_mem)) (.cons (Rd.str _ _ _) (.cons (Rd.int _ _ _) .nil))) .nil))))


theorem aset_use {prog : Program} {w : World} {mean : ExcName → Option Value} {mg mb : Str → Option Value} {base : Heap} (X : (hd.heap_39 w.params).In base) (T : Top hd.view_39 (looseW hd.view_39 []) mean mg mb base)
    {dp un : Nat} {fr : Option (List Env)} {gd : Option (List Code)} {s : Shared} {Q E : Value → Shared → Prop} {fd l L fl : Addr} {spot : Nat} {Γ : List Str} {t : Tok} {o : Obj} {m : Str → Option Value} {news : List (Addr × Obj)}
    (F : Fr base L s.heap m) (N : News base L s.heap news) (hm : (fd, o) ∈ news) (hd : o.IsDictOf (PySem.strKind prog w) (feedKV l spot t)) (hC : Cells base l) (hL : StrList s.heap fl Γ) (hΓ : Γ.length ≤ 20) (rest : List (Addr × Obj)) (hr : ∀ p ∈ rest, p ∈ news ∧ NotDict p.2)
    (hs : spot + 10 < 100000) (hdp : dp + 5 < 700) (hun : un + 50 < 5000)
    (ret : ∀ e r h' tk o' t' spot' tl, wfS Γ e → spot' ≤ spot + 2 → Fr base L h' m → News base L h' ((fd, o') :: (rest ++ tl)) → o'.IsDictOf (PySem.strKind prog w) (feedKV l spot' t') → (∀ p ∈ tl, TupO p.2) → Pin base tl r (encS e) → Q r { s with heap := h', toks := tk }) :
    wpAny (model prog w) ⟨none, dp, fr, gd, un⟩ (call (.ref 40) [.ref fd, .ref fl]) Q E s := by
  refine aset_spec X T F.keep (N.fresh hm) ⟨o, t, N.get hm, hd⟩ (hC.keeps F.keep) hL hΓ hs hdp hun fun e r spot' h' tk hw hsp hk Fd R => ?_
  obtain ⟨o', t', ho', hd'⟩ := Fd
  obtain ⟨F', N'⟩ := feed_back F N hm hd hk ho' rest hr
  obtain ⟨tl, N2, ht, P⟩ := adopt F' N' R (tup_encS e)
  exact ret e r h' tk o' t' spot' tl hw hsp F' N2 hd' ht P


-- Atom
theorem atom_spec {prog : Program} {w : World} {mean : ExcName → Option Value} {mg mb : Str → Option Value} {g : Heap} (X₀ : (hd.heap_39 w.params).In g) (T₀ : Top hd.view_39 (looseW hd.view_39 []) mean mg mb g)
    {dp un : Nat} {fr : Option (List Env)} {gd : Option (List Code)} {s : Shared} {Q E : Value → Shared → Prop} {fd l fl : Addr} {spot : Nat} {Γ : List Str}
    (hg : Sub g s.heap) (hfg : g.get? fd = none) (Fd : Feed prog w s.heap fd l spot) (hC : Cells s.heap l) (hL : StrList s.heap fl Γ) (hΓ : Γ.length ≤ 20) (hs : spot + 30 < 100000) (hdp : dp + 10 < 700) (hun : un + 100 < 5000)
    (ret : ∀ a r spot' h' tk, wfA Γ a → spot' ≤ spot + 8 → SubB fd s.heap h' → Feed prog w h' fd l spot' → Rd h' r (encA a) → Q r { s with heap := h', toks := tk }) :
    wpAny (model prog w) ⟨none, dp, fr, gd, un⟩ (call (.ref 47) [.ref fd, .ref fl]) Q E s := by
  refine enterF X₀ T₀ hg hfg Fd hC (by k_is) (by k_is) (by show dp < 1000; walk_at "ROOM") (BindsTo.of_eq rfl) (locs rfl) rfl rfl rfl (by decide) ?_
  intro base L h₁ o t X T hgb hbf hb2 hfL F N hdo hC'
  obtain ⟨ks, hkl, hks⟩ := hL
  have hkl : base.IsList fl ks.toArray := hkl.at fun o e => hb2 _ _ (dict_ne_list Fd hkl) e
  have SL : ∀ {h'}, Sub base h' → StrList h' fl Γ := fun k => ⟨ks, hkl.at (fun o e => k _ o e), hks⟩
  try dsimp only
  try k_fold
  walk_at "MY"
  (rename Fr _ _ _ _ => F'; rename News _ _ _ _ => N')
  refine Stop.of (draw_use X T F' N' (by k_mem) hdo hC' [] nil_rest (by omega) (by decide) (by decide) (by show dp + 1 < 700; walk_at "ROOM") (by show un + 3 < 5000; walk_at "ROOM") fun v tv h' tk o' t' h0 h5 F2 N2 hd2 => ?_)
  clear F' N'
  walk_at "MY"
  · rename_i D1 _ F' N' l1
    refine Stop.of (draw_use X T F' N' (by k_mem) hd2 hC' [(D1, _)] (by intro p hp; rw [List.mem_singleton.mp hp]; exact ⟨by k_mem, nd_seq⟩) (by omega) (by omega) (by omega) (by show dp + 1 < 700; walk_at "ROOM") (by show un + 3 < 5000; walk_at "ROOM") fun v2 tv2 h2 tk2 o2 t2 j0 j5 F3 N3 hd3 => ?_)
    clear F' N'
    walk_at "MY"
    · (rename Fr _ _ _ _ => F'; rename News _ _ _ _ => N')
      refine Stop.of (aset_use X T F' N' (by k_mem) hd3 hC' (SL F'.keep) hΓ [] nil_rest (by omega) (by show dp + 1 + 5 < 700; walk_at "ROOM") (by show un + 3 + 50 < 5000; walk_at "ROOM") fun e5 r5 h5 tk5 o5 t5 sp5 tl5 hw5 hsp5 F3 N3 hd5 ht5 P5 => ?_)
      try simp only [List.cons_append, List.nil_append] at N3
      clear F' N'
      walk_at "MY"
      (rename Fr _ _ _ _ => F'; rename News _ _ _ _ => N')
      exact ret (.mult 0 e5) _ _ _ _ hw5 (by omega) (fun b o n e => F'.keep _ _ (hb2 b o n e)) ⟨_, _, News.get N' (by k_mem), hd5⟩ (Rd.tuple (N'.isTup (by k_mem)) (.cons (Rd.str _ _ _) (.cons (P5.at F' N' (fun p hp => by simp [hp])) .nil)))
    · (rename Fr _ _ _ _ => F'; rename News _ _ _ _ => N')
      refine Stop.of (aset_use X T F' N' (by k_mem) hd3 hC' (SL F'.keep) hΓ [] nil_rest (by omega) (by show dp + 1 + 5 < 700; walk_at "ROOM") (by show un + 3 + 50 < 5000; walk_at "ROOM") fun e5 r5 h5 tk5 o5 t5 sp5 tl5 hw5 hsp5 F3 N3 hd5 ht5 P5 => ?_)
      try simp only [List.cons_append, List.nil_append] at N3
      clear F' N'
      walk_at "MY"
      (rename Fr _ _ _ _ => F'; rename News _ _ _ _ => N')
      exact ret (.mult 1 e5) _ _ _ _ hw5 (by omega) (fun b o n e => F'.keep _ _ (hb2 b o n e)) ⟨_, _, News.get N' (by k_mem), hd5⟩ (Rd.tuple (N'.isTup (by k_mem)) (.cons (Rd.str _ _ _) (.cons (P5.at F' N' (fun p hp => by simp [hp])) .nil)))
    · (rename Fr _ _ _ _ => F'; rename News _ _ _ _ => N')
      refine Stop.of (aset_use X T F' N' (by k_mem) hd3 hC' (SL F'.keep) hΓ [] nil_rest (by omega) (by show dp + 1 + 5 < 700; walk_at "ROOM") (by show un + 3 + 50 < 5000; walk_at "ROOM") fun e5 r5 h5 tk5 o5 t5 sp5 tl5 hw5 hsp5 F3 N3 hd5 ht5 P5 => ?_)
      try simp only [List.cons_append, List.nil_append] at N3
      clear F' N'
      walk_at "MY"
      (rename Fr _ _ _ _ => F'; rename News _ _ _ _ => N')
      exact ret (.mult 2 e5) _ _ _ _ hw5 (by omega) (fun b o n e => F'.keep _ _ (hb2 b o n e)) ⟨_, _, News.get N' (by k_mem), hd5⟩ (Rd.tuple (N'.isTup (by k_mem)) (.cons (Rd.str _ _ _) (.cons (P5.at F' N' (fun p hp => by simp [hp])) .nil)))
    · (rename Fr _ _ _ _ => F'; rename News _ _ _ _ => N')
      refine Stop.of (aset_use X T F' N' (by k_mem) hd3 hC' (SL F'.keep) hΓ [] nil_rest (by omega) (by show dp + 1 + 5 < 700; walk_at "ROOM") (by show un + 3 + 50 < 5000; walk_at "ROOM") fun e5 r5 h5 tk5 o5 t5 sp5 tl5 hw5 hsp5 F3 N3 hd5 ht5 P5 => ?_)
      try simp only [List.cons_append, List.nil_append] at N3
      clear F' N'
      walk_at "MY"
      (rename Fr _ _ _ _ => F'; rename News _ _ _ _ => N')
      exact ret (.mult 3 e5) _ _ _ _ hw5 (by omega) (fun b o n e => F'.keep _ _ (hb2 b o n e)) ⟨_, _, News.get N' (by k_mem), hd5⟩ (Rd.tuple (N'.isTup (by k_mem)) (.cons (Rd.str _ _ _) (.cons (P5.at F' N' (fun p hp => by simp [hp])) .nil)))
  · (rename Fr _ _ _ _ => F'; rename News _ _ _ _ => N')
    refine Stop.of (aset_use X T F' N' (by k_mem) hd2 hC' (SL F'.keep) hΓ [] nil_rest (by omega) (by show dp + 1 + 5 < 700; walk_at "ROOM") (by show un + 3 + 50 < 5000; walk_at "ROOM") fun e3 r3 h3' tk3 o3' t3' sp3 tl3 hw3 hsp3 F3 N3 hd3 ht3 P3 => ?_)
    try simp only [List.cons_append, List.nil_append] at N3
    clear F' N'
    walk_at "MY"
    rename_i D1 _ F' N' l1
    refine Stop.of (draw_use X T F' N' (by k_mem) hd3 hC' ((D1, _) :: tl3) (by intro p hp; rcases List.mem_cons.mp hp with rfl | hp; exact ⟨by k_mem, nd_seq⟩; exact ⟨by simp [hp], (ht3 p hp).nd⟩) (by omega) (by omega) (by omega) (by show dp + 1 < 700; walk_at "ROOM") (by show un + 3 < 5000; walk_at "ROOM") fun v2 tv2 h2 tk2 o2 t2 j0 j5 F3 N3 hd4 => ?_)
    clear F' N'
    walk_at "MY"
    (rename Fr _ _ _ _ => F'; rename News _ _ _ _ => N')
    exact ret (.le e3 _) _ _ _ _ hw3 (by omega) (fun b o n e => F'.keep _ _ (hb2 b o n e)) ⟨_, _, News.get N' (by k_mem), hd4⟩ (Rd.tuple (N'.isTup (by k_mem)) (.cons (Rd.str _ _ _) (.cons (Rd.tuple (N'.isTup (by k_mem)) (.cons (Rd.str _ _ _) (.cons (P3.at F' N' (fun p hp => by simp [hp])) .nil))) (.cons (Rd.tuple (N'.isTup (by k_mem)) (.cons (Rd.str _ _ _) (.cons (Rd.int _ _ _) .nil))) .nil))))
  · (rename Fr _ _ _ _ => F'; rename News _ _ _ _ => N')
    refine Stop.of (aset_use X T F' N' (by k_mem) hd2 hC' (SL F'.keep) hΓ [] nil_rest (by omega) (by show dp + 1 + 5 < 700; walk_at "ROOM") (by show un + 3 + 50 < 5000; walk_at "ROOM") fun e3 r3 h3' tk3 o3' t3' sp3 tl3 hw3 hsp3 F3 N3 hd3 ht3 P3 => ?_)
    try simp only [List.cons_append, List.nil_append] at N3
    clear F' N'
    walk_at "MY"
    (rename Fr _ _ _ _ => F'; rename News _ _ _ _ => N')
    refine Stop.of (aset_use X T F' N' (by k_mem) hd3 hC' (SL F'.keep) hΓ tl3 (fun p hp => ⟨by simp [hp], (ht3 p hp).nd⟩) (by omega) (by show dp + 1 + 5 < 700; walk_at "ROOM") (by show un + 3 + 50 < 5000; walk_at "ROOM") fun e4 r4 h4' tk4 o4' t4' sp4 tl4 hw4 hsp4 F3 N3 hd4 ht4 P4 => ?_)
    try simp only [List.cons_append, List.nil_append] at N3
    clear F' N'
    walk_at "MY"
    (rename Fr _ _ _ _ => F'; rename News _ _ _ _ => N')
    exact ret (.inn e3 e4) _ _ _ _ ⟨hw3, hw4⟩ (by omega) (fun b o n e => F'.keep _ _ (hb2 b o n e)) ⟨_, _, News.get N' (by k_mem), hd4⟩ (Rd.tuple (N'.isTup (by k_mem)) (.cons (Rd.str _ _ _) (.cons (P3.at F' N' (fun p hp => by simp [hp])) (.cons (P4.at F' N' (fun p hp => by simp [hp])) .nil))))
  · (rename Fr _ _ _ _ => F'; rename News _ _ _ _ => N')
    refine Stop.of (aset_use X T F' N' (by k_mem) hd2 hC' (SL F'.keep) hΓ [] nil_rest (by omega) (by show dp + 1 + 5 < 700; walk_at "ROOM") (by show un + 3 + 50 < 5000; walk_at "ROOM") fun e3 r3 h3' tk3 o3' t3' sp3 tl3 hw3 hsp3 F3 N3 hd3 ht3 P3 => ?_)
    try simp only [List.cons_append, List.nil_append] at N3
    clear F' N'
    walk_at "MY"
    (rename Fr _ _ _ _ => F'; rename News _ _ _ _ => N')
    refine Stop.of (aset_use X T F' N' (by k_mem) hd3 hC' (SL F'.keep) hΓ tl3 (fun p hp => ⟨by simp [hp], (ht3 p hp).nd⟩) (by omega) (by show dp + 1 + 5 < 700; walk_at "ROOM") (by show un + 3 + 50 < 5000; walk_at "ROOM") fun e4 r4 h4' tk4 o4' t4' sp4 tl4 hw4 hsp4 F3 N3 hd4 ht4 P4 => ?_)
    try simp only [List.cons_append, List.nil_append] at N3
    clear F' N'
    walk_at "MY"
    (rename Fr _ _ _ _ => F'; rename News _ _ _ _ => N')
    exact ret (.same e3 e4) _ _ _ _ ⟨hw3, hw4⟩ (by omega) (fun b o n e => F'.keep _ _ (hb2 b o n e)) ⟨_, _, News.get N' (by k_mem), hd4⟩ (Rd.tuple (N'.isTup (by k_mem)) (.cons (Rd.str _ _ _) (.cons (P3.at F' N' (fun p hp => by simp [hp])) (.cons (P4.at F' N' (fun p hp => by simp [hp])) .nil))))


-- For

section
variable {prog : Program} {w : World} {A : Around} {s : Shared} {env : Env} {base : Heap}

noncomputable def ForEnd (s : Shared) (base : Heap) (L : Addr) (own : List (Addr × Obj)) (Q : Flow → Shared → Prop) (Jn : (Str → Option Value) → Heap → Prop) (f : Flow) (s' : Shared) : Prop :=
  match f with
  | .ret v => Q (.ret v) s'
  | .brk => Q .next s'
  | _ => ∃ h' tk' m', s' = { s with heap := h', toks := tk' } ∧ Fr base L h' m' ∧ (∀ p ∈ own, h'.get? p.1 = some p.2) ∧ Jn m' h'
theorem ForEnd.next {L : Addr} {own : List (Addr × Obj)} {Q : Flow → Shared → Prop} {Jn : (Str → Option Value) → Heap → Prop} {h' : Heap} {tk' : Nat} {m' : Str → Option Value} (F : Fr base L h' m') (ho : ∀ p ∈ own, h'.get? p.1 = some p.2) (hj : Jn m' h') :
    ForEnd s base L own Q Jn .next { s with heap := h', toks := tk' } := ⟨h', tk', m', rfl, F, ho, hj⟩

abbrev ForCode (prog : Program) (w : World) (A : Around) (env : Env) (target : Expr) (body : List Stmt) (Q : Flow → Shared → Prop) (E : Value → Shared → Prop) (it : Value) (s₂ : Shared) : Prop :=
  codeAny (model prog w) A (.forLoop target it body [] env) (fun r s' => match r with | .ok f => Q f s' | .error e => cameBackBy (model prog w) A env E e s') s₂

theorem for_gen {E : Value → Shared → Prop} {Q : Flow → Shared → Prop} {target iter : Expr} {body : List Stmt} {pos : Pos} (hs : ∀ x, foldedSetIterable iter env x = pure x)
    (h : wpAny (model prog w) A (eval iter env) (fun xv s₁ => wpAny (model prog w) A (pyIter xv) (fun it s₂ => ForCode prog w A env target body Q E it s₂) E s₁) E s) :
    wpAny (model prog w) A (exec (.For target iter body [] pos) env) Q E s := wpAny_For h hs
end


-- For2
noncomputable def DictO (o : Obj) : Prop := ∃ es n, o.data = .dict es n
section
variable {prog : Program} {w : World} {A : Around} {s : Shared} {env : Env} {base : Heap}
inductive ForI (s : Shared) (base : Heap) (L : Addr) (n : Nat) (St : Nat → Heap → Prop) (J : Nat → (Str → Option Value) → Heap → Prop) (kp : List (Addr × Obj)) : Nat → Shared → Prop
  | mk (i : Nat) (h : Heap) (tk : Nat) (m : Str → Option Value) (hst : St i h) (F : Fr base L h m) (hj : J i m h) (hk : ∀ p ∈ kp, h.get? p.1 = some p.2) (hi : i ≤ n) : ForI s base L n St J kp (n + 1 - i) { s with heap := h, toks := tk }

theorem for_coreU {E : Value → Shared → Prop} {Q : Flow → Shared → Prop} {target : Expr} {body : List Stmt} {I : Addr} {fp : List Addr} {n : Nat} {P : Nat → Value → Prop} {St : Nat → Heap → Prop} {m₀ : Str → Option Value}
    (W : Walks prog w A I fp [I] n P St) (U : Nat → Value → (Str → Option Value) → (Str → Option Value) → Prop)
    (hasg : ∀ i v (h : Heap) tk m₁ (Q : Unit → Shared → Prop) (E : Value → Shared → Prop), i < n → P i v → Fr base env.locals h m₁ →
      (∀ h₂ tk₂ m₂, (∀ b o, b ≠ env.locals → h.get? b = some o → h₂.get? b = some o) → Fr base env.locals h₂ m₂ → U i v m₁ m₂ → Q () { s with heap := h₂, toks := tk₂ }) → wpAny (model prog w) A (assign target env v) Q E { s with heap := h, toks := tk })
    (hlet : ∀ i v (s : Shared) (Q : Unit → Shared → Prop) (E : Value → Shared → Prop), P i v → St (i + 1) s.heap → Q () s → wpAny (model prog w) A (letOwnedTupleGo target (.ref I) v) Q E s)
    (hLf : env.locals ∉ fp) (hIb : base.get? I = none) (hnd : ∀ i h, St i h → ∀ b ∈ fp, ∀ o, h.get? b = some o → NotDict o)
    (J : Nat → (Str → Option Value) → Heap → Prop)
    (hJ : ∀ i m h h', J i m h → (∀ b o, (SeqO o ∨ (b ≠ env.locals ∧ (DictO o ∨ b ≠ I))) → h.get? b = some o → h'.get? b = some o) → J i m h') (hI : ∀ i h, St i h → ∀ o, h.get? I = some o → ¬ SeqO o)
    (kp : List (Addr × Obj)) (hkp : ∀ p ∈ kp, p.1 ≠ env.locals ∧ p.1 ≠ I)
    (hst : St 0 s.heap) (F : Fr base env.locals s.heap m₀) (hj : J 0 m₀ s.heap) (hk0 : ∀ p ∈ kp, s.heap.get? p.1 = some p.2)
    (turn : ∀ i v m₁ m₂ h tk own, i < n → P i v → U i v m₁ m₂ → J i m₁ h → Fr base env.locals h m₂ → News base env.locals h own → (∀ p ∈ own, NotDict p.2 ∧ p.1 ∈ fp) → (∀ p ∈ kp, h.get? p.1 = some p.2) →
      wpAny (model prog w) A (execs body env) (ForEnd s base env.locals (own ++ kp) Q (J (i + 1))) (fun _ _ => False) { s with heap := h, toks := tk })
    (done : ∀ m₁ h tk, J n m₁ h → Fr base env.locals h m₁ → (∀ p ∈ kp, h.get? p.1 = some p.2) → Q .next { s with heap := h, toks := tk }) :
    codeAny (model prog w) A (.forLoop target (.ref I) body [] env) (fun r s' => match r with | .ok f => Q f s' | .error e => cameBackBy (model prog w) A env E e s') s := by
  have hLI : env.locals ≠ I := fun e => hLf (e ▸ W.sub _ (.head _))
  refine codeAny_forLoop_any
    (ForI s base env.locals n St J kp) ?_ (n + 1) (.mk 0 s.heap s.toks m₀ hst F hj hk0 (Nat.zero_le _))
  rintro _ _ ⟨i, h', tk, m', hst', F', hj', hkk, hi⟩
  have next : ∀ h₁ : Heap, (∀ b o, b ∉ [I] → h'.get? b = some o → h₁.get? b = some o) → Fr base env.locals h₁ m' := fun h₁ hk₁ =>
    ⟨F'.ns.at' fun o e => hk₁ _ o (fun q => hLI (List.mem_singleton.mp q)) e, fun b o e => hk₁ b o (fun q => by rw [List.mem_singleton.mp q, hIb] at e; cases e) (F'.keep b o e), F'.above⟩
  have offI : ∀ b o, (SeqO o ∨ (b ≠ env.locals ∧ (DictO o ∨ b ≠ I))) → h'.get? b = some o → b ∉ [I] := fun b o hc e q => by
    have q' := List.mem_singleton.mp q
    rcases hc with hs | ⟨_, hd | hn⟩
    · exact hI i h' hst' o (q' ▸ e) hs
    · obtain ⟨es, n, hd⟩ := hd
      exact hnd i h' hst' I (W.sub _ (.head _)) o (q' ▸ e) es n hd
    · exact hn q'
  by_cases hlt : i < n
  · refine W.item i _ _ _ hlt hst' fun v h₁ tk₁ hP hst₁ hk₁ => ?_
    have F₁ := next h₁ hk₁
    have hj₁ : J i m' h₁ := hJ i m' h' h₁ hj' fun b o hc e => hk₁ b o (offI b o hc e) e
    have hkk₁ : ∀ p ∈ kp, h₁.get? p.1 = some p.2 := fun p hp => hk₁ _ _ (fun q => (hkp p hp).2 (List.mem_singleton.mp q)) (hkk p hp)
    refine hlet i v { s with heap := h₁, toks := tk₁ } _ _ hP hst₁ ?_
    refine hasg i v h₁ tk₁ m' _ _ hlt hP F₁ fun h₂ tk₂ m₂ hs₂ F₂ hU => ?_
    have hj₂ : J i m' h₂ := hJ i m' h₁ h₂ hj₁ fun b o hc e => hs₂ b o (by
      rintro rfl
      rcases hc with hs | hn
      · exact ns_not_seq F₁.ns o e hs
      · exact hn.1 rfl) e
    have hkk₂ : ∀ p ∈ kp, h₂.get? p.1 = some p.2 := fun p hp => hs₂ _ _ (hkp p hp).1 (hkk₁ p hp)
    have Nown : News base env.locals h₂ (ownOf base fp h₂) := news_ownOf hLf
    have hst₂ : St (i + 1) h₂ := W.frame _ _ _ hst₁ fun b hb o e => hs₂ b o (fun q => hLf (q ▸ hb)) e
    refine wpAny_mono (turn i v m' m₂ h₂ _ (ownOf base fp h₂) hlt hP hU hj₂ F₂ Nown (fun p hp => ⟨hnd _ _ hst₂ p.1 (ownOf_sub p hp) p.2 (Nown p hp).1, ownOf_sub p hp⟩) hkk₂) (fun f s₃ h₃ => ?_) fun _ _ e => e.elim
    have fin : ForEnd s base env.locals (ownOf base fp h₂ ++ kp) Q (J (i + 1)) .next s₃ → ∃ mm, mm < n + 1 - i ∧ ForI s base env.locals n St J kp mm s₃ := by
      rintro ⟨h₃', tk₃, m₂, rfl, F₃, ho, hj₃⟩
      refine ⟨_, dn hlt, .mk (i + 1) h₃' tk₃ m₂ ?_ F₃ hj₃ (fun p hp => ho p (List.mem_append_right _ hp)) hlt⟩
      refine W.frame _ _ _ hst₂ fun b hb o e => ?_
      cases hn : base.get? b with
      | some o₀ =>
        have h1 := F₂.keep b o₀ hn
        rw [e] at h1; cases h1
        exact F₃.keep b o hn
      | none => exact ho _ (List.mem_append_left _ (mem_ownOf hb hn e))
    cases f with
    | ret v => exact h₃
    | brk => exact h₃
    | cont => exact fin h₃
    | next => exact fin h₃
  · have hin : i = n := Nat.le_antisymm hi (Nat.le_of_not_lt hlt)
    subst hin
    refine W.done _ _ _ hst' fun h₁ tk₁ hk₁ => wpAny_execs_nil ?_
    exact done m' h₁ tk₁ (hJ _ m' h' h₁ hj' fun b o hc e => hk₁ b o (offI b o hc e) e) (next h₁ hk₁) fun p hp => hk₁ _ _ (fun q => (hkp p hp).2 (List.mem_singleton.mp q)) (hkk p hp)


structure ForOverU (prog : Program) (w : World) (A : Around) (base : Heap) (env : Env) (U : Nat → Value → (Str → Option Value) → (Str → Option Value) → Prop) (body : List Stmt) (Q : Flow → Shared → Prop) (n : Nat) (P : Nat → Value → Prop) (J : Nat → (Str → Option Value) → Heap → Prop) (m₀ : Str → Option Value) (src : List Addr) (kp : List (Addr × Obj)) (s : Shared) : Prop where
  stab : ∀ i m h h', J i m h → (∀ b o, (SeqO o ∨ (b ≠ env.locals ∧ (DictO o ∨ b ≠ s.heap.objs.size))) → h.get? b = some o → h'.get? b = some o) → J i m h'
  start : J 0 m₀ s.heap
  turn : ∀ i v m₁ m₂ h tk own, i < n → P i v → U i v m₁ m₂ → J i m₁ h → Fr base env.locals h m₂ → News base env.locals h own → (∀ p ∈ own, NotDict p.2 ∧ (p.1 = s.heap.objs.size ∨ p.1 ∈ src)) → News base env.locals h kp →
      wpAny (model prog w) A (execs body env) (ForEnd s base env.locals (own ++ kp) Q (J (i + 1))) (fun _ _ => False) { s with heap := h, toks := tk }
  done : ∀ m₁ h tk, J n m₁ h → Fr base env.locals h m₁ → News base env.locals h kp → Q .next { s with heap := h, toks := tk }

theorem for_atU {E : Value → Shared → Prop} {Q : Flow → Shared → Prop} {target : Expr} {body : List Stmt} {fp : List Addr} {n : Nat} {P : Nat → Value → Prop} {St : Nat → Heap → Prop} {m₀ : Str → Option Value} {J : Nat → (Str → Option Value) → Heap → Prop} {o : Obj} {src : List Addr} {kp : List (Addr × Obj)} {U : Nat → Value → (Str → Option Value) → (Str → Option Value) → Prop} (hsrc : ∀ b ∈ fp, b = s.heap.objs.size ∨ b ∈ src)
    (W : Walks prog w A s.heap.objs.size fp [s.heap.objs.size] n P St) (hst : St 0 (s.heap.push o))
    (hasg : ∀ i v (h : Heap) tk m₁ (Q : Unit → Shared → Prop) (E : Value → Shared → Prop), i < n → P i v → Fr base env.locals h m₁ →
      (∀ h₂ tk₂ m₂, (∀ b o, b ≠ env.locals → h.get? b = some o → h₂.get? b = some o) → Fr base env.locals h₂ m₂ → U i v m₁ m₂ → Q () { s with heap := h₂, toks := tk₂ }) → wpAny (model prog w) A (assign target env v) Q E { s with heap := h, toks := tk })
    (hlet : ∀ i v (s' : Shared) (Q : Unit → Shared → Prop) (E : Value → Shared → Prop), P i v → St (i + 1) s'.heap → Q () s' → wpAny (model prog w) A (letOwnedTupleGo target (.ref s.heap.objs.size) v) Q E s')
    (hLf : ∀ b ∈ fp, b = s.heap.objs.size ∨ b ≠ env.locals)
    (hnd : ∀ i h, St i h → ∀ b ∈ fp, ∀ o, h.get? b = some o → NotDict o) (hI : ∀ i h, St i h → ∀ o, h.get? s.heap.objs.size = some o → ¬ SeqO o) (F : Fr base env.locals s.heap m₀) (N : News base env.locals s.heap kp)
    (H : ForOverU prog w A base env U body Q n P J m₀ src kp s) : ForCode prog w A env target body Q E (.ref s.heap.objs.size) { s with heap := s.heap.push o } := by
  have hL : env.locals < s.heap.objs.size := F.ns.lt
  refine for_coreU W U hasg hlet ?_ (next_is_new F) hnd J H.stab hI kp (fun p hp => ⟨(N p hp).2.1, Nat.ne_of_lt (Heap.lt_size (N p hp).1)⟩) hst (F.push _) (H.stab _ _ _ _ H.start fun b o' _ e => Heap.get?_push_of_some _ e) (fun p hp => Heap.get?_push_of_some _ (N p hp).1)
    (fun i v m₁ m₂ h tk own hi hP hU hj F₁ N₁ hn hk => H.turn i v m₁ m₂ h tk own hi hP hU hj F₁ N₁ (fun p hp => ⟨(hn p hp).1, hsrc _ (hn p hp).2⟩) fun p hp => ⟨hk p hp, (N p hp).2⟩)
    fun m₁ h tk hj F₁ hk => H.done m₁ h tk hj F₁ fun p hp => ⟨hk p hp, (N p hp).2⟩
  intro hm
  rcases hLf _ hm with e | e
  · exact Nat.ne_of_lt hL e
  · exact e rfl


noncomputable def UName (x : Str) (_ : Nat) (v : Value) (m₁ m₂ : Str → Option Value) : Prop := m₂ = fun y => if y = x then some v else m₁ y
theorem asg_name {x : Str} {px : Pos} (hx : env.kindOf x = some .local) (hp : (env.scope.kind == .class || (env.scope.kind == .module && env.locals != env.globals)) = false)
    (i : Nat) (v : Value) (h : Heap) (tk : Nat) (m₁ : Str → Option Value) (Q : Unit → Shared → Prop) (E : Value → Shared → Prop) (F₁ : Fr base env.locals h m₁)
    (hQ : ∀ h₂ tk₂ m₂, (∀ b o, b ≠ env.locals → h.get? b = some o → h₂.get? b = some o) → Fr base env.locals h₂ m₂ → UName x i v m₁ m₂ → Q () { s with heap := h₂, toks := tk₂ }) :
    wpAny (model prog w) A (assign (.Name x px) env v) Q E { s with heap := h, toks := tk } :=
  wpAny_assign_Name (wpAny_storeName_local hx F₁.ns (fun h₂ hn₂ hs₂ => hQ h₂ _ _ (fun b o nb e => (hs₂.2 b nb).trans e) (F₁.set hn₂ hs₂) rfl) hp)

theorem let_tupiter {elts : List Expr} {x1 : Nat} {pos : Pos} {I l T : Addr} {i : Nat} {Q : Unit → Shared → Prop} {E : Value → Shared → Prop} (hit : s.heap.IsTupleIter I l i) (hQ : Q () s) :
    wpAny (model prog w) A (letOwnedTupleGo (.Tuple elts x1 pos) (.ref I) (.ref T)) Q E s := by
  obtain ⟨o, ho, hc, hd⟩ := hit
  unfold letOwnedTupleGo
  refine wpAny_bind (wpAny_load ho ?_)
  rw [hc, hd]
  show wpAny _ A (if (["enumerate", "zip", "dict_itemiterator", "dict_reverseitemiterator", "odict_iterator", "itertools.zip_longest", "itertools.pairwise"].contains "tuple_iterator" && _) = true then _ else _) Q E s
  rw [if_neg (by
    intro h
    rw [show (["enumerate", "zip", "dict_itemiterator", "dict_reverseitemiterator", "odict_iterator", "itertools.zip_longest", "itertools.pairwise"].contains "tuple_iterator") = false from by decide, Bool.false_and] at h
    cases h)]
  exact wpAny_pure hQ

noncomputable def UPair (x y : Str) (base : Heap) (_ : Nat) (v : Value) (m₁ m₂ : Str → Option Value) : Prop := ∃ t a b, v = .ref t ∧ IsTup base t #[a, b] ∧ m₂ = fun z => if z = y then some b else if z = x then some a else m₁ z
theorem asg_pair {x y : Str} {px py pos : Pos} {k : Nat} (hx : env.kindOf x = some .local) (hy : env.kindOf y = some .local) (hp : (env.scope.kind == .class || (env.scope.kind == .module && env.locals != env.globals)) = false) (hh : A.handled = none)
    (i : Nat) (v : Value) (h : Heap) (tk : Nat) (m₁ : Str → Option Value) (Q : Unit → Shared → Prop) (E : Value → Shared → Prop) (F₁ : Fr base env.locals h m₁) (hv : ∃ t a b, v = .ref t ∧ IsTup base t #[a, b])
    (hQ : ∀ h₂ tk₂ m₂, (∀ b o, b ≠ env.locals → h.get? b = some o → h₂.get? b = some o) → Fr base env.locals h₂ m₂ → UPair x y base i v m₁ m₂ → Q () { s with heap := h₂, toks := tk₂ }) :
    wpAny (model prog w) A (assign (.Tuple [.Name x px, .Name y py] k pos) env v) Q E { s with heap := h, toks := tk } := by
  obtain ⟨t, a, b, rfl, ht⟩ := hv
  refine assign_Tuple_tuple (items := #[a, b]) hh (ht.keeps F₁.keep) rfl rfl fun h₁ hx₁ => ?_
  have F₂ := F₁.extBut hx₁ (Nat.le_refl _)
  have k₁ : ∀ b o, h.get? b = some o → h₁.get? b = some o := fun b o e => hx₁ b o (Nat.ne_of_lt (Heap.lt_size e)) e
  show wpAny _ _ (assignInOrder [assign (.Name x px) env, assign (.Name y py) env] [a, b]) _ _ _
  refine wpAny_bind (wpAny_holding (wpAny_assign_Name (wpAny_storeName_local hx F₂.ns (fun h₂ hn₂ hs₂ => ?_) hp)))
  have F₃ := F₂.set hn₂ hs₂
  refine wpAny_bind (wpAny_holding (wpAny_assign_Name (wpAny_storeName_local hy F₃.ns (fun h₃ hn₃ hs₃ => ?_) hp)))
  refine wpAny_pure ?_
  exact hQ h₃ _ _ (fun b o nb e => (hs₃.2 b nb).trans ((hs₂.2 b nb).trans (k₁ b o e))) (F₃.set hn₃ hs₃) ⟨t, a, b, rfl, ht, rfl⟩

theorem for_listU {E : Value → Shared → Prop} {Q : Flow → Shared → Prop} {x : Str} {px : Pos} {body : List Stmt} {t : Addr} {vs : List Value} {m₀ : Str → Option Value} (J : Nat → (Str → Option Value) → Heap → Prop) (kp : List (Addr × Obj))
    (hh : A.handled = none) (ht : s.heap.IsList t vs.toArray) (hx : env.kindOf x = some .local) (hp : (env.scope.kind == .class || (env.scope.kind == .module && env.locals != env.globals)) = false) (F : Fr base env.locals s.heap m₀) (N : News base env.locals s.heap kp)
    (H : ForOverU prog w A base env (UName x) body Q vs.length (fun i v => vs[i]? = some v) J m₀ [t] kp s) :
    wpAny (model prog w) A (pyIter (.ref t)) (fun it s₂ => ForCode prog w A env (.Name x px) body Q E it s₂) E s := by
  obtain ⟨ot, hot, hcl, nn, hdt⟩ := id ht
  have hlt : t < s.heap.objs.size := Heap.lt_size hot
  refine wpAny_pyIter_list ht ?_
  have W := Walks.list (prog := prog) (w := w) hh s.heap.objs.size t (Nat.ne_of_lt hlt) vs.toArray
  have e1 : vs.toArray.size = vs.length := by simp
  have e2 : (fun (i : Nat) v => vs.toArray[i]? = some v) = fun i v => vs[i]? = some v := by funext i v; simp
  rw [e1, e2] at W
  refine for_atU (src := [t]) (fun b hb => (List.mem_cons.mp hb)) W ⟨⟨_, Heap.get?_push_size _ rfl, rfl, rfl⟩, ht.at fun o e => Heap.get?_push_of_some _ e⟩ (fun i v h tk m₁ Q E _ _ F₁ hQ => asg_name hx hp i v h tk m₁ Q E F₁ hQ) (fun i v s' Q E _ _ hQ => wpAny_pure hQ) ?_ ?_ ?_ F N H
  · intro b hb
    rcases List.mem_cons.mp hb with rfl | hb
    · exact .inl rfl
    · refine .inr ?_
      rw [List.mem_singleton.mp hb]
      intro e
      obtain ⟨oL, es, ep, hL, hd, _⟩ := F.ns
      rw [← e, hot] at hL; cases hL
      rw [hdt] at hd; cases hd
  · rintro i h ⟨⟨o, ho, _, hd⟩, ⟨o2, ho2, _, n2, hd2⟩⟩ b hb o' e es n hdd
    rcases List.mem_cons.mp hb with rfl | hb
    · rw [ho] at e; cases e; rw [hd] at hdd; cases hdd
    · rw [List.mem_singleton.mp hb, ho2] at e; cases e; rw [hd2] at hdd; cases hdd
  · rintro i h ⟨⟨o, ho, _, hd⟩, _⟩ o' e ⟨xs, n, hdd⟩
    rw [ho] at e; cases e; rw [hd] at hdd; cases hdd

theorem for_tupGen {E : Value → Shared → Prop} {Q : Flow → Shared → Prop} {target : Expr} {body : List Stmt} {t : Addr} {vs : List Value} {m₀ : Str → Option Value} (J : Nat → (Str → Option Value) → Heap → Prop) (kp : List (Addr × Obj)) {U : Nat → Value → (Str → Option Value) → (Str → Option Value) → Prop}
    (hh : A.handled = none) (ht : IsTup s.heap t vs.toArray)
    (hasg : ∀ i v (h : Heap) tk m₁ (Q : Unit → Shared → Prop) (E : Value → Shared → Prop), i < vs.length → vs[i]? = some v → Fr base env.locals h m₁ →
      (∀ h₂ tk₂ m₂, (∀ b o, b ≠ env.locals → h.get? b = some o → h₂.get? b = some o) → Fr base env.locals h₂ m₂ → U i v m₁ m₂ → Q () { s with heap := h₂, toks := tk₂ }) → wpAny (model prog w) A (assign target env v) Q E { s with heap := h, toks := tk })
    (hlet : ∀ i v I (s' : Shared) (Q : Unit → Shared → Prop) (E : Value → Shared → Prop), vs[i]? = some v → s'.heap.IsTupleIter I t (i + 1) → Q () s' → wpAny (model prog w) A (letOwnedTupleGo target (.ref I) v) Q E s')
    (F : Fr base env.locals s.heap m₀) (N : News base env.locals s.heap kp)
    (H : ForOverU prog w A base env U body Q vs.length (fun i v => vs[i]? = some v) J m₀ [t] kp s) :
    wpAny (model prog w) A (pyIter (.ref t)) (fun it s₂ => ForCode prog w A env target body Q E it s₂) E s := by
  have ht' : s.heap.IsTuple t vs.toArray := ht
  obtain ⟨ot, hot, hcl, nn, hdt⟩ := id ht
  have hlt : t < s.heap.objs.size := Heap.lt_size hot
  refine wpAny_pyIter_tuple ht' ?_
  have W := Walks.tuple (prog := prog) (w := w) hh s.heap.objs.size t (Nat.ne_of_lt hlt) vs.toArray
  have e1 : vs.toArray.size = vs.length := by simp
  have e2 : (fun (i : Nat) v => vs.toArray[i]? = some v) = fun i v => vs[i]? = some v := by funext i v; simp
  rw [e1, e2] at W
  refine for_atU (src := [t]) (fun b hb => (List.mem_cons.mp hb)) W ⟨⟨_, Heap.get?_push_size _ rfl, rfl, rfl⟩, ht'.at fun o e => Heap.get?_push_of_some _ e⟩ hasg (fun i v s' Q E hP hS hQ => hlet i v _ s' Q E hP hS.1 hQ) ?_ ?_ ?_ F N H
  · intro b hb
    rcases List.mem_cons.mp hb with rfl | hb
    · exact .inl rfl
    · refine .inr ?_
      rw [List.mem_singleton.mp hb]
      intro e
      exact ns_not_tup F.ns ot (e ▸ hot) ⟨hcl, _, _, hdt⟩
  · rintro i h ⟨⟨o, ho, _, hd⟩, ⟨o2, ho2, _, n2, hd2⟩⟩ b hb o' e es n hdd
    rcases List.mem_cons.mp hb with rfl | hb
    · rw [ho] at e; cases e; rw [hd] at hdd; cases hdd
    · rw [List.mem_singleton.mp hb, ho2] at e; cases e; rw [hd2] at hdd; cases hdd
  · rintro i h ⟨⟨o, ho, _, hd⟩, _⟩ o' e ⟨xs, n, hdd⟩
    rw [ho] at e; cases e; rw [hd] at hdd; cases hdd

theorem for_tupU {E : Value → Shared → Prop} {Q : Flow → Shared → Prop} {x : Str} {px : Pos} {body : List Stmt} {t : Addr} {vs : List Value} {m₀ : Str → Option Value} (J : Nat → (Str → Option Value) → Heap → Prop) (kp : List (Addr × Obj))
    (hh : A.handled = none) (ht : IsTup s.heap t vs.toArray) (hx : env.kindOf x = some .local) (hp : (env.scope.kind == .class || (env.scope.kind == .module && env.locals != env.globals)) = false) (F : Fr base env.locals s.heap m₀) (N : News base env.locals s.heap kp)
    (H : ForOverU prog w A base env (UName x) body Q vs.length (fun i v => vs[i]? = some v) J m₀ [t] kp s) :
    wpAny (model prog w) A (pyIter (.ref t)) (fun it s₂ => ForCode prog w A env (.Name x px) body Q E it s₂) E s :=
  for_tupGen J kp hh ht (fun i v h tk m₁ Q E _ _ F₁ hQ => asg_name hx hp i v h tk m₁ Q E F₁ hQ) (fun _ _ _ _ _ _ _ _ hQ => wpAny_pure hQ) F N H
theorem for_tupPair {E : Value → Shared → Prop} {Q : Flow → Shared → Prop} {x y : Str} {px py pos : Pos} {k : Nat} {body : List Stmt} {t : Addr} {vs : List Value} {m₀ : Str → Option Value} (J : Nat → (Str → Option Value) → Heap → Prop) (kp : List (Addr × Obj))
    (hh : A.handled = none) (ht : IsTup s.heap t vs.toArray) (hx : env.kindOf x = some .local) (hy : env.kindOf y = some .local) (hp : (env.scope.kind == .class || (env.scope.kind == .module && env.locals != env.globals)) = false)
    (hv : ∀ (i : Nat) (v : Value), vs[i]? = some v → ∃ t a b, v = Value.ref t ∧ IsTup base t #[a, b]) (F : Fr base env.locals s.heap m₀) (N : News base env.locals s.heap kp)
    (H : ForOverU prog w A base env (UPair x y base) body Q vs.length (fun i v => vs[i]? = some v) J m₀ [t] kp s) :
    wpAny (model prog w) A (pyIter (.ref t)) (fun it s₂ => ForCode prog w A env (.Tuple [.Name x px, .Name y py] k pos) body Q E it s₂) E s :=
  for_tupGen J kp hh ht (fun i v h tk m₁ Q E _ hi F₁ hQ => asg_pair hx hy hp hh i v h tk m₁ Q E F₁ (hv i v hi) hQ) (fun i v I s' Q E hi hs hQ => by obtain ⟨t, a, b, rfl, _⟩ := hv i v hi; exact let_tupiter hs hQ) F N H
end
section
variable {prog : Program} {w : World} {A : Around} {s : Shared} {env : Env} {base : Heap}
theorem for_rangeU {E : Value → Shared → Prop} {Q : Flow → Shared → Prop} {x : Str} {px : Pos} {body : List Stmt} {r : Addr} {n : Nat} {t₀ u₀ v₀ : Tok} {m₀ : Str → Option Value} (J : Nat → (Str → Option Value) → Heap → Prop) (kp : List (Addr × Obj))
    (hh : A.handled = none) (hr : IsRange s.heap r 0 n 1 t₀ u₀ v₀) (hsz : n ≤ 1000) (hx : env.kindOf x = some .local) (hp : (env.scope.kind == .class || (env.scope.kind == .module && env.locals != env.globals)) = false) (F : Fr base env.locals s.heap m₀) (N : News base env.locals s.heap kp)
    (H : ForOverU prog w A base env (UName x) body Q n (fun (i : Nat) v => ∃ t, v = .int (i : Int) t) J m₀ [] kp s) :
    wpAny (model prog w) A (pyIter (.ref r)) (fun it s₂ => ForCode prog w A env (.Name x px) body Q E it s₂) E s := by
  have hs : Builtin.Range.rangeSize 0 (n : Int) 1 = (n : Int) := by
    have := rangeSize_nat 0 n
    simpa using this
  have hsmall : Builtin.Range.small 0 (n : Int) 1 = true := small_one (by omega) (by omega) (by omega) (by omega)
  refine wpAny_pyIter_range hr hsmall ?_
  have W := Walks.range (prog := prog) (w := w) hh s.heap.objs.size 0 1 n
  have e2 : (fun (i : Nat) v => ∃ t, v = Value.int (0 + (i : Int) * 1) t) = fun (i : Nat) v => ∃ t, v = Value.int (i : Int) t := by funext i v; simp
  rw [e2] at W
  refine for_atU (src := []) (fun b hb => .inl (List.mem_singleton.mp hb)) W (by show IsRangeIter _ _ _ _ _; rw [hs]; simpa using Heap.get?_push_size _ rfl) (fun i v h tk m₁ Q E _ _ F₁ hQ => asg_name hx hp i v h tk m₁ Q E F₁ hQ) (fun i v s' Q E _ _ hQ => wpAny_pure hQ) ?_ ?_ ?_ F N H
  · intro b hb; exact .inl (List.mem_singleton.mp hb)
  · rintro i h hI b hb o' e es n hdd
    have hI' : h.get? s.heap.objs.size = _ := hI
    rw [List.mem_singleton.mp hb, hI'] at e; cases e; cases hdd
  · rintro i h hI o' e ⟨xs, n, hdd⟩
    have hI' : h.get? s.heap.objs.size = _ := hI
    rw [hI'] at e; cases e; cases hdd
end


-- FormDef
noncomputable def costF : Nat → Nat
  | 0 => 10
  | n + 1 => 40 + 3 * costF n
noncomputable def FormSpec (prog : Program) (w : World) (g : Heap) (n : Nat) : Prop :=
  ∀ (dp un : Nat) (fr : Option (List Env)) (gd : Option (List Code)) (s : Shared) (Q E : Value → Shared → Prop) (fd l fl : Addr) (spot : Nat) (Γ : List Str) (td : Tok),
    Sub g s.heap → g.get? fd = none → Feed prog w s.heap fd l spot → Cells s.heap l → StrList s.heap fl Γ → (∀ x ∈ Γ, x ∈ marks) → Γ.length + 2 * n ≤ 16 → spot + costF n + 50 < 100000 → dp + 2 * n + 20 < 700 → un + 20 * n + 200 < 5000 →
    (∀ f r spot' h' tk, wf Γ f → hgt f ≤ n + 1 → spot' ≤ spot + costF n → SubB fd s.heap h' → Feed prog w h' fd l spot' → Rd h' r (enc f) → Q r { s with heap := h', toks := tk }) →
    wpAny (model prog w) ⟨none, dp, fr, gd, un⟩ (call (.ref 52) [.ref fd, .int n td, .ref fl]) Q E s

theorem StrList.subB {prog : Program} {w : World} {fd l fl : Addr} {h h' : Heap} {spot : Nat} {Γ : List Str} (X : StrList h fl Γ) (Fd : Feed prog w h fd l spot) (k : SubB fd h h') : StrList h' fl Γ :=
  let ⟨vs, hl, hs⟩ := X; ⟨vs, hl.at (fun o e => k _ _ (dict_ne_list Fd hl) e), hs⟩
theorem StrList.keeps {fl : Addr} {h h' : Heap} {Γ : List Str} (X : StrList h fl Γ) (k : Sub h h') : StrList h' fl Γ :=
  let ⟨vs, hl, hs⟩ := X; ⟨vs, hl.at (fun o e => k _ _ e), hs⟩

theorem enterFC {prog : Program} {w : World} {A : Around} {s : Shared} {Q E : Value → Shared → Prop} {name qual : Str} {params : Arguments} {body : List Stmt} {scope : Scope}
    {dV kV doc pm cdv ct oc : Value} {an od : Option Addr} {osl : Array (Option Value)} {f : Addr} {args : List Value} {binds : List (Str × Value)} {g : Heap} {K : Frag}
    {p : Program} {loose : List Str} {mean : ExcName → Option Value} {mg mb : Str → Option Value} {fd l : Addr} {spot : Nat}
    (X : K.In g) (T : Top p loose mean mg mb g) (hg : Sub g s.heap) (hfg : g.get? fd = none) (Fd : Feed prog w s.heap fd l spot) (hC : Cells s.heap l)
    (ho : K.lookup f = some ⟨oc, od, .func (fnOf name qual params body scope dV kV doc pm an cdv ct), osl⟩) (hcd : codeIn K cdv qual = true) (hroom : A.depth < recursionLimit)
    (hbind : BindsTo s (fnOf name qual params body scope dV kV doc pm an cdv ct) ⟨args, []⟩ binds)
    (hkind : (binds.all fun y => scope.names.lookup y.1 == some .local || scope.names.lookup y.1 == some .cell) = true)
    (hnd : ((cellsFrom 0 scope.names []).map (·.1)).Nodup)
    (hco : scope.isCoroutine = false) (hgen : scope.isGenerator = false) (hk : scope.kind = .function)
    (h : ∀ base L h₁ tk cells o t, K.In base → Top p loose mean mg mb base → Sub g base → base.get? fd = none → (∀ b o, b ≠ fd → s.heap.get? b = some o → base.get? b = some o) → fd < L → Fr base L h₁ (bindL (envOfC qual scope L f cdv).kindOf binds fun _ => none) → News base L h₁ (cells ++ [(fd, o)]) →
      CellsAre (bindC (envOfC qual scope L f cdv).kindOf binds fun _ => none) (cellsFrom (L + 1) scope.names []) cells → o.IsDictOf (PySem.strKind prog w) (feedKV l spot t) → Cells base l →
      wpAny (model prog w) (A.deeper (envOfC qual scope L f cdv)) (execs body (envOfC qual scope L f cdv))
        (fun fl s' => Q (match fl with | .ret v => v | _ => .none) s') (fun _ _ => False)
        { s with heap := h₁, toks := tk }) :
    wpAny (model prog w) A (call (.ref f) args) Q E s := by
  obtain ⟨o, t, hf, hd⟩ := id Fd
  have hb1 : ∀ b o, (hideAll s.heap [fd]).get? b = some o → s.heap.get? b = some o := fun b o e => of_hideAll _ e
  have hb2 : ∀ b o, b ≠ fd → s.heap.get? b = some o → (hideAll s.heap [fd]).get? b = some o := fun b o n e => hideAll_get _ e (by simpa using n)
  have hgb : Sub g (hideAll s.heap [fd]) := fun b o e => hb2 b o (by rintro rfl; rw [hfg] at e; cases e) (hg b o e)
  refine enterC (base := hideAll s.heap [fd]) (news := [(fd, o)]) (X.keeps hgb) (T.keeps hgb) hb1 (Nat.le_of_eq (hideAll_size _ _)) ?_ ho hcd hroom hbind hkind hnd hco hgen hk ?_
  · intro q hq; rw [List.mem_singleton.mp hq]; exact ⟨hf, hideAll_none _ (.head _)⟩
  · intro L h₁ tk cells hL F N Y _
    obtain ⟨vs, cs, hl, hi, hlen⟩ := hC
    exact h _ L h₁ tk cells o t (X.keeps hgb) (T.keeps hgb) hgb (hideAll_none _ (.head _)) hb2 (by rw [hL]; exact Heap.lt_size hf) F N Y hd ⟨vs, cs, hl.at fun o' e => hb2 l o' (dict_ne_list Fd hl) e, hi, hlen⟩


theorem atom_use {prog : Program} {w : World} {mean : ExcName → Option Value} {mg mb : Str → Option Value} {base : Heap} (X : (hd.heap_39 w.params).In base) (T : Top hd.view_39 (looseW hd.view_39 []) mean mg mb base)
    {dp un : Nat} {fr : Option (List Env)} {gd : Option (List Code)} {s : Shared} {Q E : Value → Shared → Prop} {fd l L fl : Addr} {spot : Nat} {Γ : List Str} {t : Tok} {o : Obj} {m : Str → Option Value} {news : List (Addr × Obj)}
    (F : Fr base L s.heap m) (N : News base L s.heap news) (hm : (fd, o) ∈ news) (hd : o.IsDictOf (PySem.strKind prog w) (feedKV l spot t)) (hC : Cells base l) (hL : StrList s.heap fl Γ) (hΓ : Γ.length ≤ 20) (rest : List (Addr × Obj)) (hr : ∀ p ∈ rest, p ∈ news ∧ NotDict p.2)
    (hs : spot + 30 < 100000) (hdp : dp + 10 < 700) (hun : un + 100 < 5000)
    (ret : ∀ a r h' tk o' t' spot' tl, wfA Γ a → spot' ≤ spot + 8 → Fr base L h' m → News base L h' ((fd, o') :: (rest ++ tl)) → o'.IsDictOf (PySem.strKind prog w) (feedKV l spot' t') → (∀ p ∈ tl, TupO p.2) → Pin base tl r (encA a) → Q r { s with heap := h', toks := tk }) :
    wpAny (model prog w) ⟨none, dp, fr, gd, un⟩ (call (.ref 47) [.ref fd, .ref fl]) Q E s := by
  refine atom_spec X T F.keep (N.fresh hm) ⟨o, t, N.get hm, hd⟩ (hC.keeps F.keep) hL hΓ hs hdp hun fun e r spot' h' tk hw hsp hk Fd R => ?_
  obtain ⟨o', t', ho', hd'⟩ := Fd
  obtain ⟨F', N'⟩ := feed_back F N hm hd hk ho' rest hr
  obtain ⟨tl, N2, ht, P⟩ := adopt F' N' R (tup_encA e)
  exact ret e r h' tk o' t' spot' tl hw hsp F' N2 hd' ht P


theorem form_use {prog : Program} {w : World} {g base : Heap} {n : Nat} (S : FormSpec prog w g n)
    {dp un : Nat} {fr : Option (List Env)} {gd : Option (List Code)} {s : Shared} {Q E : Value → Shared → Prop} {fd l L fl : Addr} {spot : Nat} {Γ : List Str} {t td : Tok} {o : Obj} {m : Str → Option Value} {news : List (Addr × Obj)}
    (hgb : Sub g base) (hfg : g.get? fd = none) (F : Fr base L s.heap m) (N : News base L s.heap news) (hm : (fd, o) ∈ news) (hd : o.IsDictOf (PySem.strKind prog w) (feedKV l spot t)) (hC : Cells base l) (hL : StrList s.heap fl Γ) (hΓm : ∀ x ∈ Γ, x ∈ marks) (rest : List (Addr × Obj)) (hr : ∀ p ∈ rest, p ∈ news ∧ NotDict p.2)
    (hΓ : Γ.length + 2 * n ≤ 16) (hs : spot + costF n + 50 < 100000) (hdp : dp + 2 * n + 20 < 700) (hun : un + 20 * n + 200 < 5000)
    (ret : ∀ f r h' tk o' t' spot' tl, wf Γ f → hgt f ≤ n + 1 → spot' ≤ spot + costF n → Fr base L h' m → News base L h' ((fd, o') :: (rest ++ tl)) → o'.IsDictOf (PySem.strKind prog w) (feedKV l spot' t') → (∀ p ∈ tl, TupO p.2) → Pin base tl r (enc f) → Q r { s with heap := h', toks := tk }) :
    wpAny (model prog w) ⟨none, dp, fr, gd, un⟩ (call (.ref 52) [.ref fd, .int n td, .ref fl]) Q E s := by
  refine S dp un fr gd s Q E fd l fl spot Γ td (hgb.trans F.keep) hfg ⟨o, t, N.get hm, hd⟩ (hC.keeps F.keep) hL hΓm hΓ hs hdp hun fun f r spot' h' tk hw hh hsp hk Fd R => ?_
  obtain ⟨o', t', ho', hd'⟩ := Fd
  obtain ⟨F', N'⟩ := feed_back F N hm hd hk ho' rest hr
  obtain ⟨tl, N2, ht, P⟩ := adopt F' N' R (tup_enc f)
  exact ret f r h' tk o' t' spot' tl hw hh hsp F' N2 hd' ht P

theorem rest3 {news tl : List (Addr × Obj)} {a b c : Addr × Obj} (ha : a ∈ news) (hb : b ∈ news) (hc : c ∈ news) (na : NotDict a.2) (nb : NotDict b.2) (nc : NotDict c.2) (ht : ∀ p ∈ tl, p ∈ news) (hn : ∀ p ∈ tl, NotDict p.2) :
    ∀ p ∈ a :: b :: c :: tl, p ∈ news ∧ NotDict p.2 := by
  intro p hp
  rcases List.mem_cons.mp hp with rfl | hp
  · exact ⟨ha, na⟩
  rcases List.mem_cons.mp hp with rfl | hp
  · exact ⟨hb, nb⟩
  rcases List.mem_cons.mp hp with rfl | hp
  · exact ⟨hc, nc⟩
  · exact ⟨ht p hp, hn p hp⟩

theorem wfs_append {Γ : List Str} : ∀ {fs gs : List Fm}, wfs Γ fs → wfs Γ gs → wfs Γ (fs ++ gs)
  | [], _, _, h => h
  | f :: fs, gs, h, k => by simp only [wfs_1, wfs_2, List.cons_append] at h ⊢; exact ⟨h.1, wfs_append h.2 k⟩
theorem hgts_append : ∀ (fs gs : List Fm), hgts (fs ++ gs) ≤ max (hgts fs) (hgts gs)
  | [], gs => by simp [hgts_1, hgts_2]; omega
  | f :: fs, gs => by
    have := hgts_append fs gs
    simp only [hgts_1, hgts_2, List.cons_append]
    exact Nat.max_le.mpr ⟨Nat.le_trans (Nat.le_max_left _ _) (Nat.le_max_left _ _), Nat.le_trans this (Nat.max_le.mpr ⟨Nat.le_trans (Nat.le_max_right _ _) (Nat.le_max_left _ _), Nat.le_max_right _ _⟩)⟩
theorem news_at {base h₀ h : Heap} {L D : Addr} {m : Str → Option Value} {news : List (Addr × Obj)} {o : Obj} (F₀ : Fr base L h₀ m) (N : News base L h news) (hD : h₀.get? D = none) (ho : h.get? D = some o) : News base L h ((D, o) :: news) := by
  intro p hp
  rcases List.mem_cons.mp hp with rfl | hp
  · refine ⟨ho, ?_, ?_⟩
    · intro e
      obtain ⟨oL, _, _, hL, _⟩ := F₀.ns
      have e' : D = L := e
      rw [e', hL] at hD; cases hD
    · cases e : base.get? D with
      | none => rfl
      | some o' => rw [F₀.keep _ _ e] at hD; cases hD
  · exact N p hp

theorem adoptL {base h : Heap} {L il : Addr} {m : Str → Option Value} {Δ : List Str} (F : Fr base L h m) (X : StrList h il Δ) :
    ∃ tl, News base L h tl ∧ (∀ p ∈ tl, NotDict p.2 ∧ p.1 = il) ∧ ∀ h', Sub base h' → (∀ p ∈ tl, h'.get? p.1 = some p.2) → StrList h' il Δ := by
  obtain ⟨vs, ⟨o, ho, hc, n, hd⟩, hs⟩ := X
  cases e : base.get? il with
  | none =>
    refine ⟨[(il, o)], fun p hp => ?_, fun p hp => ?_, fun h' hb hh => ⟨vs, ⟨o, hh _ (.head _), hc, n, hd⟩, hs⟩⟩
    · rw [List.mem_singleton.mp hp]
      refine ⟨ho, fun q => ?_, e⟩
      have q' : il = L := q
      exact ns_not_seq F.ns o (q' ▸ ho) ⟨_, _, hd⟩
    · rw [List.mem_singleton.mp hp]
      exact ⟨fun es k q => (by rw [hd] at q; cases q), rfl⟩
  | some o' =>
    have := F.keep _ _ e
    rw [ho] at this; cases this
    exact ⟨[], (fun _ h => nomatch h), (fun _ h => nomatch h), fun h' hb _ => ⟨vs, ⟨o, hb _ _ e, hc, n, hd⟩, hs⟩⟩

theorem my_append {prog : Program} {w : World} {A : Around} {s : Shared} {E : Value → Shared → Prop} {base : Heap} {L dl : Addr} {m : Str → Option Value} {news rest : List (Addr × Obj)} {items : List Value} {n : Nat} {x : Value} {Q : Value → Shared → Prop}
    (F : Fr base L s.heap m) (N : News base L s.heap news) (hm : (dl, ({ cls := .type "list", data := .seq items.toArray n } : Obj)) ∈ news) (hr : ∀ p ∈ rest, p ∈ news ∧ p.1 ≠ dl) (hsz : items.length ≤ 1000)
    (h : ∀ h' k, Fr base L h' m → News base L h' ((dl, ({ cls := .type "list", data := .seq (items ++ [x]).toArray k } : Obj)) :: rest) → (∀ b, b ≠ dl → h'.get? b = s.heap.get? b) → Q .none { s with heap := h' }) :
    wpAny (model prog w) A (call (.builtin "list.append") [.ref dl, x]) Q E s := by
  refine wpAny_list_append_plain (hsz := by rw [sizeLine_eq, List.size_toArray]; omega) ⟨n, N.get hm⟩ fun h' hpl hs => ?_
  obtain ⟨k, hk⟩ := hpl
  obtain ⟨_, hL, hb⟩ := N _ hm
  obtain ⟨oL, es, ep, hoL, hr'⟩ := F.ns
  refine h h' k ⟨⟨oL, es, ep, (hs.2 _ (Ne.symm hL)).trans hoL, hr'⟩, fun b o e => (hs.2 b (by rintro rfl; rw [hb] at e; cases e)).trans (F.keep b o e), F.above⟩ (fun p hp => ?_) hs.2
  rcases List.mem_cons.mp hp with rfl | hp
  · exact ⟨by simpa using hk, hL, hb⟩
  · obtain ⟨h1, h2⟩ := hr p hp
    exact ⟨(hs.2 _ h2).trans (N p h1).1, (N p h1).2⟩

theorem wfD_append : ∀ {ds : List (Str × SE)} {Γ : List Str} {x : Str} {e : SE}, wfD Γ ds → x ∈ marks → wfS (Γ ++ ds.map (·.1)) e → wfD Γ (ds ++ [(x, e)])
  | [], Γ, x, e, _, hx, he => by simp only [List.nil_append, wfD_1, wfD_2]; exact ⟨hx, by simpa using he, trivial⟩
  | d :: ds, Γ, x, e, h, hx, he => by
    simp only [wfD_1, wfD_2, List.cons_append] at h ⊢
    exact ⟨h.1, h.2.1, wfD_append h.2.2 hx (by simpa using he)⟩
theorem encDs_append : ∀ (ds es : List (Str × SE)), encDs (ds ++ es) = encDs ds ++ encDs es
  | [], _ => rfl
  | d :: ds, es => by simp [encDs_1, encDs_2, encDs_append ds es]
theorem tup_of_memD : ∀ {ds : List (Str × SE)}, ∀ d ∈ encDs ds, tupD d = true
  | [], d, h => by simp [encDs_1, encDs_2] at h
  | f :: fs, d, h => by
    rcases List.mem_cons.mp (by simpa [encDs_1, encDs_2] using h) with rfl | h
    · simp [encD, tupD_1, tupD_2, tupD_3, tupD_4, tupD_5, tupD_6, tupD_7, tupDs_1, tupDs_2, tup_encS]
    · exact tup_of_memD d h

theorem ne_of_seq {base h : Heap} {L a b : Addr} {news : List (Addr × Obj)} {o o' : Obj} (N : News base L h news) (h1 : (a, o) ∈ news) (h2 : (b, o') ∈ news) (hn : ¬ SeqO o) (hs : SeqO o') : a ≠ b := by
  rintro rfl
  have e1 := N.get h1
  rw [N.get h2] at e1
  cases e1
  exact hn hs
theorem dict_not_seq {prog : Program} {w : World} {o : Obj} {kvs : List (Str × Value)} (h : o.IsDictOf (PySem.strKind prog w) kvs) : ¬ SeqO o := by
  rintro ⟨xs, n, e⟩
  obtain ⟨es, ep, _, hd, _⟩ := h
  rw [hd] at e; cases e
theorem cell_not_seq {o : Obj} {v : Option Value} (h : o.data = .cell v) : ¬ SeqO o := by
  rintro ⟨xs, n, e⟩; rw [h] at e; cases e

theorem news_cons {base h : Heap} {L D : Addr} {news : List (Addr × Obj)} {o : Obj} (ho : h.get? D = some o) (hL : D ≠ L) (hb : base.get? D = none) (N : News base L h news) : News base L h ((D, o) :: news) := by
  intro p hp
  rcases List.mem_cons.mp hp with rfl | hp
  · exact ⟨ho, hL, hb⟩
  · exact N p hp
theorem Fr.to {base h : Heap} {L : Addr} {m m' : Str → Option Value} (F : Fr base L h m) (e : ∀ y, m y = m' y) : Fr base L h m' := by
  rw [show m' = m from funext fun y => (e y).symm]; exact F
theorem rest5 {news tl : List (Addr × Obj)} {a b c d : Addr × Obj} (ha : a ∈ news) (hb : b ∈ news) (hc : c ∈ news) (hd : d ∈ news) (na : NotDict a.2) (nb : NotDict b.2) (nc : NotDict c.2) (nd : NotDict d.2) (ht : ∀ p ∈ tl, p ∈ news) (hn : ∀ p ∈ tl, NotDict p.2) :
    ∀ p ∈ a :: b :: c :: d :: tl, p ∈ news ∧ NotDict p.2 := by
  intro p hp
  rcases List.mem_cons.mp hp with rfl | hp
  · exact ⟨ha, na⟩
  · exact rest3 hb hc hd nb nc nd ht hn p hp
theorem rest6 {news tl : List (Addr × Obj)} {z a b c d : Addr × Obj} (hz : z ∈ news) (ha : a ∈ news) (hb : b ∈ news) (hc : c ∈ news) (hd : d ∈ news) (nz : NotDict z.2) (na : NotDict a.2) (nb : NotDict b.2) (nc : NotDict c.2) (nd : NotDict d.2) (ht : ∀ p ∈ tl, p ∈ news) (hn : ∀ p ∈ tl, NotDict p.2) :
    ∀ p ∈ z :: a :: b :: c :: d :: tl, p ∈ news ∧ NotDict p.2 := by
  intro p hp
  rcases List.mem_cons.mp hp with rfl | hp
  · exact ⟨hz, nz⟩
  · exact rest5 ha hb hc hd na nb nc nd ht hn p hp
theorem ne_rest6 {news tl : List (Addr × Obj)} {dl : Addr} {z a b c d : Addr × Obj} (hz : z ∈ news) (ha : a ∈ news) (hb : b ∈ news) (hc : c ∈ news) (hd : d ∈ news) (nz : z.1 ≠ dl) (na : a.1 ≠ dl) (nb : b.1 ≠ dl) (nc : c.1 ≠ dl) (nd : d.1 ≠ dl) (ht : ∀ p ∈ tl, p ∈ news ∧ p.1 ≠ dl) :
    ∀ p ∈ z :: a :: b :: c :: d :: tl, p ∈ news ∧ p.1 ≠ dl := by
  intro p hp
  rcases List.mem_cons.mp hp with rfl | hp
  · exact ⟨hz, nz⟩
  rcases List.mem_cons.mp hp with rfl | hp
  · exact ⟨ha, na⟩
  rcases List.mem_cons.mp hp with rfl | hp
  · exact ⟨hb, nb⟩
  rcases List.mem_cons.mp hp with rfl | hp
  · exact ⟨hc, nc⟩
  rcases List.mem_cons.mp hp with rfl | hp
  · exact ⟨hd, nd⟩
  · exact ht p hp
theorem strsAre_length {vs : List Value} {xs : List Str} (h : StrsAre vs xs) : vs.length = xs.length := by
  induction h with
  | nil => rfl
  | cons _ _ _ ih => exact congrArg Nat.succ ih
theorem rest1 {news tl : List (Addr × Obj)} {z : Addr × Obj} (hz : z ∈ news) (nz : NotDict z.2) (ht : ∀ p ∈ tl, p ∈ news) (hn : ∀ p ∈ tl, NotDict p.2) : ∀ p ∈ z :: tl, p ∈ news ∧ NotDict p.2 := by
  intro p hp
  rcases List.mem_cons.mp hp with rfl | hp
  · exact ⟨hz, nz⟩
  · exact ⟨ht p hp, hn p hp⟩


-- Form0
theorem form_zero {prog : Program} {w : World} {mean : ExcName → Option Value} {mg mb : Str → Option Value} {g : Heap} (X₀ : (hd.heap_39 w.params).In g) (T₀ : Top hd.view_39 (looseW hd.view_39 []) mean mg mb g) : FormSpec prog w g 0 := by
  intro dp un fr gd s Q E fd l fl spot Γ td hg hfg Fd hC hL hΓm hΓ hs hdp hun ret
  refine enterFC X₀ T₀ hg hfg Fd hC (by k_is) (by k_is) (by show dp < 1000; walk_at "ROOM") (BindsTo.of_eq rfl) rfl (by decide) rfl rfl rfl ?_
  intro base L h₁ tk cells o t X T hgb hbf hb2 hfL F N Y hdo hC'
  k_cells Y
  (try simp only [List.cons_append, List.nil_append] at N)
  have SL : ∀ {h'}, Sub base h' → StrList h' fl Γ := fun {h'} k => by
    obtain ⟨vs, hl, hss⟩ := hL
    exact ⟨vs, hl.at (fun o e => k _ _ (hb2 _ _ (dict_ne_list Fd hl) e)), hss⟩
  simp only [costF] at hs ret
  try dsimp only
  try k_fold
  walk_at "MY"
  (rename Fr _ _ _ _ => F'; rename News _ _ _ _ => N')
  refine Stop.of (atom_use X T F' N' (by k_mem) hdo hC' (SL F'.keep) (by omega) [] nil_rest (by omega) (by show dp + 1 + 10 < 700; walk_at "ROOM") (by show un + 3 + 100 < 5000; walk_at "ROOM") fun a r h' tk o' t' spot' tl hw hsp F2 N2 hd2 ht P => ?_)
  exact ret (.atom a) r _ _ _ (by simpa [wf_1, wf_2, wf_3, wf_4, wf_5, wf_6, wf_7] using hw) (by simp [hgt_1, hgt_2, hgt_3, hgt_4, hgt_5, hgt_6, hgt_7]) (by omega) (fun b o n e => F2.keep _ _ (hb2 b o n e)) ⟨_, _, News.get N2 (by k_mem), hd2⟩ (by simpa [enc_1, enc_2, enc_3, enc_4, enc_5, enc_6, enc_7] using P.at F2 N2 (fun p hp => by simp [hp]))


-- Form1
theorem item_marks {prog : Program} {w : World} {A : Around} {s : Shared} {E : Value → Shared → Prop} {value slice : Expr} {t : Addr} {k : Int} {u t1 t2 t3 : Tok} {Q : Value → Shared → Prop}
    (ht : IsTup s.heap t (List.toArray [.str (Str.ofString "x") t1, .str (Str.ofString "y") t2, .str (Str.ofString "z") t3])) (h0 : 0 ≤ k) (h3 : k < 3) (h : ∀ mk tm, mk ∈ marks → Q (.str mk tm) s)
    (hs : subscripted slice false (.ref t) (.int k u) = operate [.ref t, .int k u] (getItem (.ref t) (.int k u)) := by with_unfolding_all rfl) :
    wpAny (model prog w) A (subscriptTail value slice (.ref t) (.int k u)) Q E s := by
  obtain rfl | rfl | rfl : k = 0 ∨ k = 1 ∨ k = 2 := by omega
  · exact item_tupleT ht (by decide) (by decide) (by rfl) (by rfl) (h _ _ (by decide)) hs
  · exact item_tupleT ht (by decide) (by decide) (by rfl) (by rfl) (h _ _ (by decide)) hs
  · exact item_tupleT ht (by decide) (by decide) (by rfl) (by rfl) (h _ _ (by decide)) hs
noncomputable def PickEnd (a b : String) (s : Shared) (v : Value) (s' : Shared) : Prop := ∃ (c : Bool) (t : Tok) (tk : Nat), v = .str (Str.ofString (if c then a else b)) t ∧ s' = { s with toks := tk }
theorem pick_str {prog : Program} {w : World} {A : Around} {s : Shared} {E : Value → Shared → Prop} {m : Sem Value} {a b : String} {Q : Value → Shared → Prop} (h : wpAny (model prog w) A m (PickEnd a b s) (fun _ _ => False) s)
    (k : ∀ (c : Bool) t tk, Q (.str (Str.ofString (if c then a else b)) t) { s with toks := tk }) : wpAny (model prog w) A m Q E s := by
  refine wpAny_mono h (fun v s' hv => ?_) (fun _ _ e => e.elim)
  obtain ⟨c, t, tk, rfl, rfl⟩ := hv
  exact k c t tk
inductive JForm (prog : Program) (w : World) (Γ : List Str) (n spot : Nat) (fd l : Addr) (i : Nat) (ys : List Value) (h : Heap) : Prop
  | mk (fs : List Fm) (sp : Nat) (o : Obj) (t : Tok) (a1 : fs.length = i) (a2 : RdAll h ys (encs fs)) (a3 : wfs Γ fs) (a4 : hgts fs ≤ n + 1) (a5 : sp ≤ spot + 2 + i * costF n) (a6 : h.get? fd = some o) (a7 : o.IsDictOf (PySem.strKind prog w) (feedKV l sp t))
inductive JDecl (prog : Program) (w : World) (Γ : List Str) (spot : Nat) (fd l dl : Addr) (v : Int) (tv : Tok) (c1 c2 c3 : Addr) (o1 o2 o3 : Obj) (i : Nat) (m : Str → Option Value) (h : Heap) : Prop
  | mk (a1 : m (Str.ofString "decls") = some (.ref dl)) (a2 : m (Str.ofString "kind") = some (.int v tv)) (il : Addr) (ds : List (Str × SE)) (vs : List Value) (nn : Nat) (sp : Nat) (o : Obj) (t : Tok) (a3 : m (Str.ofString "inner") = some (.ref il)) (a4 : il ≠ dl) (a5 : ds.length = i) (a6 : wfD Γ ds)
      (a7 : StrList h il (Γ ++ ds.map (·.1))) (a8 : RdAll h vs (encDs ds)) (a9 : h.get? dl = some ({ cls := .type "list", data := .seq (List.toArray vs) nn } : Obj)) (a10 : sp ≤ spot + 2 + i * 10) (a11 : h.get? fd = some o) (a12 : o.IsDictOf (PySem.strKind prog w) (feedKV l sp t))
      (a13 : h.get? c1 = some o1) (a14 : h.get? c2 = some o2) (a15 : h.get? c3 = some o3)
section
local macro_rules | `(tactic| walk_at "eval IfExp") => `(tactic| ((with_reducible show wpAny _ _ (eval (Expr.IfExp _ (Expr.Constant _ _ _) (Expr.Constant _ _ _) _) _) _ _ _); refine Stop.mk ?_))
theorem form_succ {prog : Program} {w : World} {mean : ExcName → Option Value} {mg mb : Str → Option Value} {g : Heap} (X₀ : (hd.heap_39 w.params).In g) (T₀ : Top hd.view_39 (looseW hd.view_39 []) mean mg mb g) (n : Nat) (S : FormSpec prog w g n) : FormSpec prog w g (n + 1) := by
  intro dp un fr gd s Q E fd l fl spot Γ td hg hfg Fd hC hL hΓm hΓ hs hdp hun ret
  refine enterFC X₀ T₀ hg hfg Fd hC (by k_is) (by k_is) (by show dp < 1000; walk_at "ROOM") (BindsTo.of_eq rfl) rfl (by decide) rfl rfl rfl ?_
  intro base L h₁ tk cells o t X T hgb hbf hb2 hfL F N Y hdo hC'
  obtain ⟨o1, o2, o3, hE, d1, d2, d3⟩ := CellsAre.three Y
  subst hE
  clear Y
  (try simp only [List.cons_append, List.nil_append] at N)
  have SL : ∀ {h'}, Sub base h' → StrList h' fl Γ := fun {h'} k => by
    obtain ⟨vs, hl, hss⟩ := hL
    exact ⟨vs, hl.at (fun o e => k _ _ (hb2 _ _ (dict_ne_list Fd hl) e)), hss⟩
  simp only [costF] at hs ret
  try dsimp only
  try k_fold
  walk_at "MY"
  (rename Fr _ _ _ _ => F'; rename News _ _ _ _ => N')
  have en : ((n + 1 : Nat) : Int) - 1 = (n : Int) := by omega
  have n1 := nd_cell d1
  have n2 := nd_cell d2
  have n3 := nd_cell d3
  refine Stop.of (draw_use X T F' N' (by k_mem) hdo hC' [(L + 1 + 1 + 1, o1), (L + 1 + 1, o2), (L + 1, o3)] (rest3 (by k_mem) (by k_mem) (by k_mem) n1 n2 n3 (fun _ h => nomatch h) (fun _ h => nomatch h)) (by omega) (by decide) (by decide) (by show dp + 1 < 700; walk_at "ROOM") (by show un + 3 < 5000; walk_at "ROOM") fun v tv h' tk o' t' h0 h5 F2 N2 hd2 => ?_)
  clear F' N'
  walk_at "MY"
  · (rename Fr _ _ _ _ => F'; rename News _ _ _ _ => N')
    rw [en]
    refine Stop.of (form_use S hgb hfg F' N' (by k_mem) hd2 hC' (SL F'.keep) hΓm [(L + 1 + 1 + 1, o1), (L + 1 + 1, o2), (L + 1, o3)] (rest3 (tl := []) (by k_mem) (by k_mem) (by k_mem) n1 n2 n3 (fun _ h => nomatch h) (fun _ h => nomatch h)) (by omega) (by omega) (by show dp + 1 + 2 * n + 20 < 700; walk_at "ROOM") (by show un + 3 + 20 * n + 200 < 5000; walk_at "ROOM") fun f5 r5 h5 tk5 o5 t5 sp5 tl5 hw5 hh5 hsp5 F3 N3 hd5 ht5 P5 => ?_)
    try simp only [List.cons_append, List.nil_append] at N3
    clear F' N'
    walk_at "MY"
    (rename Fr _ _ _ _ => F'; rename News _ _ _ _ => N')
    exact ret (.not f5) _ _ _ _ (by simpa [wf_1, wf_2, wf_3, wf_4, wf_5, wf_6, wf_7] using hw5) (by simp only [hgt_1, hgt_2, hgt_3, hgt_4, hgt_5, hgt_6, hgt_7]; omega) (by omega) (fun b o n e => F'.keep _ _ (hb2 b o n e)) ⟨_, _, News.get N' (by k_mem), hd5⟩ (by simp only [enc_1, enc_2, enc_3, enc_4, enc_5, enc_6, enc_7]; exact Rd.tuple (N'.isTup (by k_mem)) (.cons (Rd.str _ _ _) (.cons (P5.at F' N' (fun p hp => by simp [hp])) .nil)))
  · (rename Fr _ _ _ _ => F'; rename News _ _ _ _ => N')
    refine Stop.of (pick_str (a := "and") (b := "or") ?_ fun c tc tkc => ?_)
    · refine IfExp_ ?_
      walk_at "MY"
      · exact ⟨true, _, _, rfl, rfl⟩
      · exact ⟨false, _, _, rfl, rfl⟩
    walk_at "MY"
    (rename Fr _ _ _ _ => F'; rename News _ _ _ _ => N')
    refine Stop.of (comp_gen (by with_unfolding_all rfl) (by decide) (by with_unfolding_all rfl) (by decide) (by with_unfolding_all rfl) (by intro _; with_unfolding_all rfl) ?_)
    walk_at "MY"
    (rename Fr _ _ _ _ => F'; rename News _ _ _ _ => N')
    refine Stop.of (draw_use X T F' N' (by k_mem) hd2 hC' [(L + 1 + 1 + 1, o1), (L + 1 + 1, o2), (L + 1, o3)] (rest3 (tl := []) (by k_mem) (by k_mem) (by k_mem) n1 n2 n3 (fun _ h => nomatch h) (fun _ h => nomatch h)) (by omega) (by decide) (by decide) (by show dp + 1 < 700; walk_at "ROOM") (by show un + 3 < 5000; walk_at "ROOM") fun v2 tv2 h2 tk2 o5 t5 j0 j5 F3 N3 hd5 => ?_)
    clear F' N'
    obtain ⟨kk, rfl⟩ := Int.eq_ofNat_of_zero_le j0
    walk_at "MY"
    (rename Fr _ _ _ _ => F'; rename News _ _ _ _ => N'; rename IsRange _ _ _ _ _ _ _ _ => R')
    have hfs := Heap.lt_size (N'.get (show (fd, o5) ∈ _ by k_mem))
    refine Stop.of (comp_range (n := kk) [fd] (JForm prog w Γ n spot fd l) rfl R' (by omega) (fun b hb => by rw [List.mem_singleton.mp hb]; exact hfs) ⟨?_, ?_, ?_, ?_⟩)
    · rintro i ys h h' ⟨fs, sp, o, t, a1, a2, a3, a4, a5, a6, a7⟩ hk
      exact ⟨fs, sp, o, t, a1, a2.stable (fun b o ho e => hk b o (.inl ho) e) tup_of_mem, a3, a4, a5, hk _ _ (.inr hfs) a6, a7⟩
    · exact ⟨[], spot + 2, o5, t5, rfl, .nil, trivial, by simp [hgts_1, hgts_2], by omega, N'.get (by k_mem), hd5⟩
    · intro C i v ys h tk m hi hP hC hn hm hk hj
      obtain ⟨fs, sp, o6, t6, hlen, hR, hw, hh, hsp, ho6, hd6⟩ := hj
      refine wpAny_tests_nil (TurnEnd.intro (fun _ _ _ e => e) ?_)
      simp only [if_true]
      refine wpAny_gen fun P0 hP0 => ?_
      obtain ⟨F2, N2⟩ := feed_back F' N' (by k_mem) hd5 (fun b o nb e => hk b o (by simpa using nb) e) ho6 [(L + 1 + 1 + 1, o1), (L + 1 + 1, o2), (L + 1, o3)] (rest3 (tl := []) (by k_mem) (by k_mem) (by k_mem) n1 n2 n3 (fun _ h => nomatch h) (fun _ h => nomatch h))
      walk_at "MY"
      rw [en]
      have hc1 : i * costF n ≤ 2 * costF n := Nat.mul_le_mul_right _ (by omega)
      refine Stop.of (S _ _ _ _ _ _ _ fd l fl sp Γ _ (hgb.trans F2.keep) hfg ⟨o6, t6, ho6, hd6⟩ (hC'.keeps F2.keep) (SL F2.keep) hΓm (by omega) (by omega) (by show dp + 1 + 2 * n + 20 < 700; walk_at "ROOM") (by show un + 3 + 20 * n + 200 < 5000; walk_at "ROOM") fun f r sp' h7 tk7 hwf hhf hspf hk7 hF7 hR7 => ?_)
      refine hP0 _ _ <| TurnEnd.intro (fun b o nb e => hk7 b o (by simpa using nb) e) ?_
      obtain ⟨o7, t7, ho7, hd7⟩ := hF7
      have hc2 : (i + 1) * costF n = i * costF n + costF n := Nat.succ_mul _ _
      refine ⟨fs ++ [f], sp', o7, t7, by simp [hlen], ?_, wfs_append hw ⟨hwf, trivial⟩, ?_, by omega, ho7, hd7⟩
      · rw [encs_append]
        exact (hR.stable (fun b o ht e => hk7 b o (by rintro rfl; rw [ho6] at e; cases e; exact dict_not_tup hd6 ht) e) tup_of_mem).snoc hR7
      · have := hgts_append fs [f]; simp only [hgts_1, hgts_2] at this; omega
    · rintro D h7 tk7 ys hD ⟨nn, hDo⟩ ⟨fs, sp, o6, t6, hlen, hR, hw, hh, hsp, ho6, hd6⟩ hk
      obtain ⟨F3, N3⟩ := feed_back F' N' (by k_mem) hd5 (fun b o nb e => hk b o (by simpa using nb) e) ho6 [(L + 1 + 1 + 1, o1), (L + 1 + 1, o2), (L + 1, o3)] (rest3 (tl := []) (by k_mem) (by k_mem) (by k_mem) n1 n2 n3 (fun _ h => nomatch h) (fun _ h => nomatch h))
      have N4 := news_at F' N3 hD hDo
      obtain ⟨tl, N5, ht, hPin⟩ := adoptAll F3 N4 hR (tup_encs _)
      simp only [List.cons_append, List.nil_append] at N5
      have hc3 : kk * costF n ≤ 3 * costF n := Nat.mul_le_mul_right _ (by omega)
      clear F' N' N3 N4 hk
      walk_at "MY"
      (rename Fr _ _ _ _ => F'; rename News _ _ _ _ => N')
      have hyl : ys.length ≤ 1000 := by rw [hR.length, encs_length]; omega
      refine my_tuple F' N' (by k_mem) hyl fun T h'' F5 N5 => ?_
      clear F' N'
      walk_at "MY"
      (rename Fr _ _ _ _ => F'; rename News _ _ _ _ => N')
      exact ret (.junc c fs) _ _ _ _ (by simp only [wf_1, wf_2, wf_3, wf_4, wf_5, wf_6, wf_7]; exact ⟨by omega, hw⟩) (by simp only [hgt_1, hgt_2, hgt_3, hgt_4, hgt_5, hgt_6, hgt_7]; omega) (by omega) (fun b o n e => F'.keep _ _ (hb2 b o n e)) ⟨_, _, News.get N' (by k_mem), hd6⟩ (by simp only [enc_1, enc_2, enc_3, enc_4, enc_5, enc_6, enc_7]; exact Rd.tuple (N'.isTup (by k_mem)) (.cons (Rd.str _ _ _) (.cons (Rd.tuple (N'.isTup (by k_mem)) (hPin _ F'.keep fun p hp => (N' p (by simp [hp])).1)) .nil)))
  · (rename Fr _ _ _ _ => F'; rename News _ _ _ _ => N')
    refine Stop.of (pick_str (a := "implies") (b := "iff") ?_ fun c tc tkc => ?_)
    · refine IfExp_ ?_
      walk_at "MY"
      · exact ⟨true, _, _, rfl, rfl⟩
      · exact ⟨false, _, _, rfl, rfl⟩
    walk_at "MY"
    (rename Fr _ _ _ _ => F'; rename News _ _ _ _ => N')
    rw [en]
    refine Stop.of (form_use S hgb hfg F' N' (by k_mem) hd2 hC' (SL F'.keep) hΓm [(L + 1 + 1 + 1, o1), (L + 1 + 1, o2), (L + 1, o3)] (rest3 (tl := []) (by k_mem) (by k_mem) (by k_mem) n1 n2 n3 (fun _ h => nomatch h) (fun _ h => nomatch h)) (by omega) (by omega) (by show dp + 1 + 2 * n + 20 < 700; walk_at "ROOM") (by show un + 3 + 20 * n + 200 < 5000; walk_at "ROOM") fun f5 r5 h5 tk5 o5 t5 sp5 tl5 hw5 hh5 hsp5 F3 N3 hd5 ht5 P5 => ?_)
    try simp only [List.cons_append, List.nil_append] at N3
    clear F' N'
    walk_at "MY"
    (rename Fr _ _ _ _ => F'; rename News _ _ _ _ => N')
    rw [en]
    refine Stop.of (form_use S hgb hfg F' N' (by k_mem) hd5 hC' (SL F'.keep) hΓm ((L + 1 + 1 + 1, o1) :: (L + 1 + 1, o2) :: (L + 1, o3) :: tl5) (rest3 (by k_mem) (by k_mem) (by k_mem) n1 n2 n3 (fun p hp => by simp [hp]) (fun p hp => (ht5 p hp).nd)) (by omega) (by omega) (by show dp + 1 + 2 * n + 20 < 700; walk_at "ROOM") (by show un + 3 + 20 * n + 200 < 5000; walk_at "ROOM") fun f6 r6 h6 tk6 o6 t6 sp6 tl6 hw6 hh6 hsp6 F3 N3 hd6 ht6 P6 => ?_)
    try simp only [List.cons_append, List.nil_append] at N3
    clear F' N'
    walk_at "MY"
    (rename Fr _ _ _ _ => F'; rename News _ _ _ _ => N')
    cases c
    · exact ret (.iff f5 f6) _ _ _ _ (by simp only [wf_1, wf_2, wf_3, wf_4, wf_5, wf_6, wf_7]; exact ⟨hw5, hw6⟩) (by simp only [hgt_1, hgt_2, hgt_3, hgt_4, hgt_5, hgt_6, hgt_7]; omega) (by omega) (fun b o n e => F'.keep _ _ (hb2 b o n e)) ⟨_, _, News.get N' (by k_mem), hd6⟩ (by simp only [enc_1, enc_2, enc_3, enc_4, enc_5, enc_6, enc_7]; exact Rd.tuple (N'.isTup (by k_mem)) (.cons (Rd.str _ _ _) (.cons (P5.at F' N' (fun p hp => by simp [hp])) (.cons (P6.at F' N' (fun p hp => by simp [hp])) .nil))))
    · exact ret (.imp f5 f6) _ _ _ _ (by simp only [wf_1, wf_2, wf_3, wf_4, wf_5, wf_6, wf_7]; exact ⟨hw5, hw6⟩) (by simp only [hgt_1, hgt_2, hgt_3, hgt_4, hgt_5, hgt_6, hgt_7]; omega) (by omega) (fun b o n e => F'.keep _ _ (hb2 b o n e)) ⟨_, _, News.get N' (by k_mem), hd6⟩ (by simp only [enc_1, enc_2, enc_3, enc_4, enc_5, enc_6, enc_7]; exact Rd.tuple (N'.isTup (by k_mem)) (.cons (Rd.str _ _ _) (.cons (P5.at F' N' (fun p hp => by simp [hp])) (.cons (P6.at F' N' (fun p hp => by simp [hp])) .nil))))
  · rename_i dl h4 l1 D2 h3 l2 h2x h1x h0x F' N'
    have hdlfd : fd ≠ dl := ne_of_seq N' (show (fd, o') ∈ _ by k_mem) (show (dl, listOf #[] 0) ∈ _ by k_mem) (dict_not_seq hd2) ⟨_, _, rfl⟩
    have hc3 : L + 1 + 1 + 1 ≠ dl := ne_of_seq N' (show (_, o1) ∈ _ by k_mem) (show (dl, listOf #[] 0) ∈ _ by k_mem) (cell_not_seq d1) ⟨_, _, rfl⟩
    have hc2 : L + 1 + 1 ≠ dl := ne_of_seq N' (show (_, o2) ∈ _ by k_mem) (show (dl, listOf #[] 0) ∈ _ by k_mem) (cell_not_seq d2) ⟨_, _, rfl⟩
    have hc1 : L + 1 ≠ dl := ne_of_seq N' (show (_, o3) ∈ _ by k_mem) (show (dl, listOf #[] 0) ∈ _ by k_mem) (cell_not_seq d3) ⟨_, _, rfl⟩
    refine Stop.of (for_gen (by intro _; with_unfolding_all rfl) ?_)
    walk_at "MY"
    (rename Fr _ _ _ _ => F'; rename News _ _ _ _ => N')
    refine Stop.of (draw_use X T F' N' (by k_mem) hd2 hC' ((dl, ({ cls := .type "list", data := .seq (List.toArray []) 0 } : Obj)) :: [(L + 1 + 1 + 1, o1), (L + 1 + 1, o2), (L + 1, o3)]) (by intro p hp; rcases List.mem_cons.mp hp with rfl | hp; exact ⟨by k_mem, nd_seq⟩; exact (rest3 (tl := []) (by k_mem) (by k_mem) (by k_mem) n1 n2 n3 (fun _ h => nomatch h) (fun _ h => nomatch h)) p hp) (by omega) (by decide) (by decide) (by show dp + 1 < 700; walk_at "ROOM") (by show un + 3 < 5000; walk_at "ROOM") fun v2 tv2 h2 tk2 o5 t5 j0 j5 F3 N3 hd5 => ?_)
    clear F' N'
    obtain ⟨kk, rfl⟩ := Int.eq_ofNat_of_zero_le j0
    walk_at "MY"
    (rename Fr _ _ _ _ => F'; rename News _ _ _ _ => N'; rename IsRange _ _ _ _ _ _ _ _ => R')
    rw [show (1 + (kk : Int)) = ((1 + kk : Nat) : Int) from by omega] at R'
    have hbdl := (N' _ (show (dl, _) ∈ _ by k_mem)).2.2
    have hdL := (N' _ (show (dl, _) ∈ _ by k_mem)).2.1
    have hb3 := (N' _ (show (L + 1 + 1 + 1, o1) ∈ _ by k_mem)).2.2
    have hb2' := (N' _ (show (L + 1 + 1, o2) ∈ _ by k_mem)).2.2
    have hb1 := (N' _ (show (L + 1, o3) ∈ _ by k_mem)).2.2
    have hLlt := F'.ns.lt
    have hfs := Heap.lt_size (N'.get (show (fd, o5) ∈ _ by k_mem))
    have hds := Heap.lt_size (N'.get (show (dl, _) ∈ _ by k_mem))
    have hs3 := Heap.lt_size (N'.get (show (L + 1 + 1 + 1, o1) ∈ _ by k_mem))
    have hs2 := Heap.lt_size (N'.get (show (L + 1 + 1, o2) ∈ _ by k_mem))
    have hs1 := Heap.lt_size (N'.get (show (L + 1, o3) ∈ _ by k_mem))
    have hfL := (N' _ (show (fd, o5) ∈ _ by k_mem)).2.1
    have hL3 := (N' _ (show (L + 1 + 1 + 1, o1) ∈ _ by k_mem)).2.1
    have hL2 := (N' _ (show (L + 1 + 1, o2) ∈ _ by k_mem)).2.1
    have hL1 := (N' _ (show (L + 1, o3) ∈ _ by k_mem)).2.1
    refine Stop.of (for_rangeU (n := 1 + kk) (base := base) (JDecl prog w Γ spot fd l dl v tv (L + 1 + 1 + 1) (L + 1 + 1) (L + 1) o1 o2 o3) [] rfl R' (by omega) (by with_unfolding_all rfl) (by with_unfolding_all rfl) F' News.nil ⟨?_, ?_, ?_, ?_⟩)
    · rintro i m h h' ⟨a1, a2, il, ds, vs, nn, sp, o, t, a3, a4, a5, a6, ⟨ks, ⟨ol, hol, hcl, nl, hdl⟩, hks⟩, a8, a9, a10, a11, a12, a13, a14, a15⟩ hk
      have kp : ∀ b, b ≠ L → b ≠ _ → ∀ o, h.get? b = some o → h'.get? b = some o := fun b n1 n2 o e => hk b o (.inr ⟨n1, .inr n2⟩) e
      exact ⟨a1, a2, il, ds, vs, nn, sp, o, t, a3, a4, a5, a6, ⟨ks, ⟨ol, hk _ _ (.inl ⟨_, _, hdl⟩) hol, hcl, nl, hdl⟩, hks⟩, a8.stable (fun b o ho e => hk b o (.inl ho.seq) e) tup_of_memD, hk _ _ (.inl ⟨_, _, rfl⟩) a9, a10,
        kp _ hfL (Nat.ne_of_lt hfs) _ a11, a12, kp _ hL3 (Nat.ne_of_lt hs3) _ a13, kp _ hL2 (Nat.ne_of_lt hs2) _ a14, kp _ hL1 (Nat.ne_of_lt hs1) _ a15⟩
    · exact ⟨rfl, rfl, fl, [], [], 0, spot + 2, o5, t5, rfl, (fun e => by obtain ⟨_, ⟨ol, hol, _⟩, _⟩ := SL (Sub.rfl : Sub base base); rw [e, hbdl] at hol; cases hol), rfl, trivial, by simpa using SL F'.keep, .nil, N'.get (by k_mem), by omega, N'.get (by k_mem), hd5, N'.get (by k_mem), N'.get (by k_mem), N'.get (by k_mem)⟩
    · intro i v0 m₁ m₂ h tk own hi hPv hU hJ F₁ N₁ hown Nk
      clear Nk
      refine wpAny_gen fun P0 hP0 => ?_
      cases hU
      obtain ⟨tlp, rfl⟩ := hPv
      obtain ⟨a1, a2, il, ds, vs, nn, sp, o, t, a3, a4, a5, a6, a7, a8, a9, a10, a11, a12, a13, a14, a15⟩ := hJ
      obtain ⟨tlI, NI, htI, hSI⟩ := adoptL F₁ a7
      obtain ⟨tlD, ND, htD, hPD⟩ := adoptAll F₁ News.nil a8 (tup_encDs ds)
      rw [List.nil_append] at ND
      have N₀ := news_cons a11 hfL hbf (news_cons a9 hdL hbdl (news_cons a13 hL3 hb3 (news_cons a14 hL2 hb2' (news_cons a15 hL1 hb1 (NI.append (N₁.append ND))))))
      have hopq : ∀ p ∈ tlI ++ (own ++ tlD), NotDict p.2 := by
        intro p hp
        rcases List.mem_append.mp hp with hp | hp
        · exact (htI p hp).1
        rcases List.mem_append.mp hp with hp | hp
        · exact (hown p hp).1
        · exact (htD p hp).nd
      have hopd : ∀ p ∈ tlI ++ (own ++ tlD), p.1 ≠ dl := by
        intro p hp
        rcases List.mem_append.mp hp with hp | hp
        · rw [(htI p hp).2]; exact a4
        rcases List.mem_append.mp hp with hp | hp
        · rcases (hown p hp).2 with q | q
          · rw [q]; exact Nat.ne_of_gt hds
          · cases q
        · intro q
          have h1 := (ND p hp).1
          rw [q, a9] at h1
          have h2 := (htD p hp).1
          rw [← Option.some.inj h1] at h2
          exact absurd h2 (by simp)
      have F₂ := Fr.p1k3 F₁ a1 a3 a2
      clear F₁ N' F' NI ND N₁
      generalize htlA : tlI ++ (own ++ tlD) = tlA at N₀ hopq hopd
      have hIA : ∀ p ∈ tlI, p ∈ tlA := fun p hp => htlA ▸ List.mem_append_left _ hp
      have hOA : ∀ p ∈ own, p ∈ tlA := fun p hp => htlA ▸ List.mem_append_right _ (List.mem_append_left _ hp)
      have hDA : ∀ p ∈ tlD, p ∈ tlA := fun p hp => htlA ▸ List.mem_append_right _ (List.mem_append_right _ hp)
      have hΓl : (Γ ++ ds.map (·.1)).length ≤ 20 := by simp only [List.length_append, List.length_map]; omega
      have hvl : vs.length ≤ 5 := by rw [a8.length, encDs_length]; omega
      walk_at "MY"
      rename_i D1 _ F' N' l1
      refine Stop.of (draw_use X T F' N' (by k_mem) a12 hC' ((D1, _) :: (dl, _) :: (L + 1 + 1 + 1, o1) :: (L + 1 + 1, o2) :: (L + 1, o3) :: tlA) (rest6 (by k_mem) (by k_mem) (by k_mem) (by k_mem) (by k_mem) nd_seq nd_seq n1 n2 n3 (fun p hp => by simp [hp]) hopq) (by omega) (by decide) (by decide) (by show dp + 1 < 700; walk_at "ROOM") (by show un + 3 < 5000; walk_at "ROOM") fun v6 tv6 h6 tk6 o6 t6 j6 j7 F3 N3 hd6 => ?_)
      clear F' N'
      refine item_marks (N3.isTup (show (D1, _) ∈ _ by k_mem)) j6 j7 fun mk tmk hmk => ?_
      walk_at "MY"
      (rename Fr _ _ _ _ => F'; rename News _ _ _ _ => N')
      refine Stop.of (aset_use X T F' N' (by k_mem) hd6 hC' (hSI _ F'.keep fun p hp => (N' p (by simp [hIA p hp])).1) hΓl ((dl, _) :: (L + 1 + 1 + 1, o1) :: (L + 1 + 1, o2) :: (L + 1, o3) :: tlA) (rest5 (by k_mem) (by k_mem) (by k_mem) (by k_mem) nd_seq n1 n2 n3 (fun p hp => by simp [hp]) hopq) (by omega) (by show dp + 1 + 5 < 700; walk_at "ROOM") (by show un + 3 + 50 < 5000; walk_at "ROOM") fun e7 r7 h7 tk7 o7 t7 sp7 tl7 hw7 hsp7 F3 N3 hd7 ht7 P7 => ?_)
      simp only [List.cons_append, List.nil_append] at N3
      clear F' N'
      walk_at "MY"
      rename_i D9 _ F' N' l9
      have hd9 : D9 ≠ dl := Nat.ne_of_gt l9.2.1
      refine Stop.of (my_append (rest := (D9, _) :: (fd, _) :: (L + 1 + 1 + 1, o1) :: (L + 1 + 1, o2) :: (L + 1, o3) :: (tlA ++ tl7)) F' N' (by k_mem) (ne_rest6 (by k_mem) (by k_mem) (by k_mem) (by k_mem) (by k_mem) hd9 hdlfd hc3 hc2 hc1 (fun p hp => ⟨by simp [hp], by
        rcases List.mem_append.mp hp with hp | hp
        · exact hopd p hp
        · intro q
          have q1 := (N' p (by simp [hp])).1
          rw [q, N'.get (show (dl, _) ∈ _ by k_mem)] at q1
          have q2 := (ht7 p hp).1
          rw [← Option.some.inj q1] at q2
          exact absurd q2 (by simp)⟩)) (by omega) fun h8 k8 F3 N3 _ => ?_)
      clear F' N'
      walk_at "MY"
      rename_i D10 _ F' N' l10
      obtain ⟨vsI, hlI, hsI⟩ := hSI _ F'.keep fun p hp => (N' p (by simp [hIA p hp])).1
      have hlI' : vsI.length ≤ 20 := by rw [strsAre_length hsI]; exact hΓl
      refine Stop.of (add_lists (ws := [_]) F' N' hlI (N'.isList (show (D10, _) ∈ _ by k_mem)) (fun h9 F3 N3 => ?_) (by rw [sizeLine_eq]; simp only [List.length_singleton]; omega))
      have hil := Nat.ne_of_gt (Heap.lt_size (N'.get (show (dl, _) ∈ _ by k_mem)))
      clear F' N'
      walk_at "MY"
      (rename Fr _ _ _ _ => F'; rename News _ _ _ _ => N')
      refine hP0 _ _ <| ForEnd.next F' (fun p hp => (N' p (by rw [List.append_nil] at hp; simp [hOA p hp])).1) ?_
      refine ⟨rfl, rfl, _, ds ++ [(mk, e7)], vs ++ [.ref D9], k8, sp7, o7, t7, rfl, hil, by simp [a5], wfD_append a6 hmk hw7, ⟨_, N'.isList (by k_mem), ?_⟩, ?_, N'.get (by k_mem), by omega, N'.get (by k_mem), hd7, N'.get (by k_mem), N'.get (by k_mem), N'.get (by k_mem)⟩
      · simpa using StrsAre.append' hsI (.cons _ _ .nil)
      · rw [encDs_append]
        exact (hPD _ F'.keep fun p hp => (N' p (by simp [hDA p hp])).1).snoc (Rd.tuple (N'.isTup (by k_mem)) (.cons (Rd.str _ _ _) (.cons (P7.at F' N' (fun p hp => by simp [hp])) .nil)))
    · rintro m₁ h tk ⟨a1, a2, il, ds, vs, nn, sp, o, t, a3, a4, a5, a6, a7, a8, a9, a10, a11, a12, a13, a14, a15⟩ F₁ Nk
      clear Nk
      obtain ⟨tlI, NI, htI, hSI⟩ := adoptL F₁ a7
      obtain ⟨tlD, ND, htD, hPD⟩ := adoptAll F₁ News.nil a8 (tup_encDs ds)
      rw [List.nil_append] at ND
      have N₀ := news_cons a11 hfL hbf (news_cons a9 hdL hbdl (news_cons a13 hL3 hb3 (news_cons a14 hL2 hb2' (news_cons a15 hL1 hb1 (NI.append ND)))))
      have hopq : ∀ p ∈ tlI ++ tlD, NotDict p.2 := by
        intro p hp
        rcases List.mem_append.mp hp with hp | hp
        · exact (htI p hp).1
        · exact (htD p hp).nd
      have F₂ := Fr.p0k3 F₁ a1 a3 a2
      clear F₁ N' F' NI ND
      generalize htlA : tlI ++ tlD = tlA at N₀ hopq
      have hIA : ∀ p ∈ tlI, p ∈ tlA := fun p hp => htlA ▸ List.mem_append_left _ hp
      have hDA : ∀ p ∈ tlD, p ∈ tlA := fun p hp => htlA ▸ List.mem_append_right _ hp
      have hvl : vs.length ≤ 5 := by rw [a8.length, encDs_length]; omega
      have hΓl : (Γ ++ ds.map (·.1)).length + 2 * n ≤ 16 := by simp only [List.length_append, List.length_map]; omega
      have hΓm' : ∀ x ∈ Γ ++ ds.map (·.1), x ∈ marks := fun x hx => (List.mem_append.mp hx).elim (hΓm x) (wfD_marks ds Γ a6 x)
      walk_at "MY"
      refine Stop.of (pick_str (a := "all") (b := "exists") ?_ fun c tc tkc => ?_)
      · refine IfExp_ ?_
        walk_at "MY"
        · exact ⟨true, _, _, rfl, rfl⟩
        · exact ⟨false, _, _, rfl, rfl⟩
      walk_at "MY"
      rename_i T' _ F' N' l9
      rw [en]
      refine Stop.of (form_use S hgb hfg F' N' (by k_mem) a12 hC' (hSI _ F'.keep fun p hp => (N' p (by simp [hIA p hp])).1) hΓm' ((T', _) :: tlA) (rest1 (by k_mem) nd_seq (fun p hp => by simp [hp]) hopq) hΓl (by omega) (by show dp + 1 + 2 * n + 20 < 700; walk_at "ROOM") (by show un + 3 + 20 * n + 200 < 5000; walk_at "ROOM") fun f5 r5 h5 tk5 o5 t5 sp5 tl5 hw5 hh5 hsp5 F3 N3 hd5 ht5 P5 => ?_)
      simp only [List.cons_append, List.nil_append] at N3
      clear F' N'
      walk_at "MY"
      (rename Fr _ _ _ _ => F'; rename News _ _ _ _ => N')
      exact ret (.quant c ds f5) _ _ _ _ (by simp only [wf_1, wf_2, wf_3, wf_4, wf_5, wf_6, wf_7]; exact ⟨by omega, a6, hw5⟩) (by simp only [hgt_1, hgt_2, hgt_3, hgt_4, hgt_5, hgt_6, hgt_7]; omega) (by omega) (fun b o n e => F'.keep _ _ (hb2 b o n e)) ⟨_, _, News.get N' (by k_mem), hd5⟩ (by simp only [enc_1, enc_2, enc_3, enc_4, enc_5, enc_6, enc_7]; exact Rd.tuple (N'.isTup (by k_mem)) (.cons (Rd.str _ _ _) (.cons (Rd.tuple (N'.isTup (by k_mem)) (hPD _ F'.keep fun p hp => (N' p (by simp [hDA p hp])).1)) (.cons (P5.at F' N' (fun p hp => by simp [hp])) .nil))))
  · (rename Fr _ _ _ _ => F'; rename News _ _ _ _ => N')
    refine Stop.of (draw_use X T F' N' (by k_mem) hd2 hC' [] nil_rest (by omega) (by decide) (by decide) (by show dp + 1 < 700; walk_at "ROOM") (by show un + 3 < 5000; walk_at "ROOM") fun v2 tv2 h2 tk2 o5 t5 j0 j5 F3 N3 hd5 => ?_)
    clear F' N'
    walk_at "MY"
    · (rename Fr _ _ _ _ => F'; rename News _ _ _ _ => N')
      exact ret (.const true) _ _ _ _ (by simp [wf_1, wf_2, wf_3, wf_4, wf_5, wf_6, wf_7]) (by simp [hgt_1, hgt_2, hgt_3, hgt_4, hgt_5, hgt_6, hgt_7]) (by omega) (fun b o n e => F'.keep _ _ (hb2 b o n e)) ⟨_, _, News.get N' (by k_mem), hd5⟩ (by simp only [enc_1, enc_2, enc_3, enc_4, enc_5, enc_6, enc_7, if_true]; exact Rd.tuple (N'.isTup (by k_mem)) (.cons (Rd.str _ _ _) .nil))
    · (rename Fr _ _ _ _ => F'; rename News _ _ _ _ => N')
      exact ret (.const false) _ _ _ _ (by simp [wf_1, wf_2, wf_3, wf_4, wf_5, wf_6, wf_7]) (by simp [hgt_1, hgt_2, hgt_3, hgt_4, hgt_5, hgt_6, hgt_7]) (by omega) (fun b o n e => F'.keep _ _ (hb2 b o n e)) ⟨_, _, News.get N' (by k_mem), hd5⟩ (by simp only [enc_1, enc_2, enc_3, enc_4, enc_5, enc_6, enc_7, Bool.false_eq_true, if_false]; exact Rd.tuple (N'.isTup (by k_mem)) (.cons (Rd.str _ _ _) .nil))
  · (rename Fr _ _ _ _ => F'; rename News _ _ _ _ => N')
    refine Stop.of (atom_use X T F' N' (by k_mem) hd2 hC' (SL F'.keep) (by omega) [] nil_rest (by omega) (by show dp + 1 + 10 < 700; walk_at "ROOM") (by show un + 3 + 100 < 5000; walk_at "ROOM") fun a r h' tk o' t' spot' tl hw hsp F2 N2 hd2 ht P => ?_)
    exact ret (.atom a) r _ _ _ (by simpa [wf_1, wf_2, wf_3, wf_4, wf_5, wf_6, wf_7] using hw) (by simp [hgt_1, hgt_2, hgt_3, hgt_4, hgt_5, hgt_6, hgt_7]) (by omega) (fun b o n e => F2.keep _ _ (hb2 b o n e)) ⟨_, _, News.get N2 (by k_mem), hd2⟩ (by simpa [enc_1, enc_2, enc_3, enc_4, enc_5, enc_6, enc_7] using P.at F2 N2 (fun p hp => by simp [hp]))
end


-- CompTwo
section
variable {prog : Program} {w : World} {A : Around} {E : Value → Shared → Prop} {R : Result → Shared → Prop} {s : Shared}
theorem compTurn_two1 (elt t0 it0 target iter : Expr) (ifs : List Expr) (scope : Scope) (pos : Pos) (it acc : Value) (env : Env) :
    compTurn (.ListComp elt [⟨t0, it0, [], 0⟩, ⟨target, iter, ifs, 0⟩] scope pos) 1 it acc env = (do
      standAt iter.pos
      match ← pyNext it with
      | none => pure (.done .next)
      | some v =>
        letOwnedTupleGo target it v
        assign target env v
        let mut ok := true
        for c in ifs do
          if ok then ok ← isTrue c env (eval c env)
        if ok then
          (do let _ ← call (.builtin "list.append") [acc, ← eval elt env])
        again (.compLoop (.ListComp elt [⟨t0, it0, [], 0⟩, ⟨target, iter, ifs, 0⟩] scope pos) 1 it acc env)) := by rfl

theorem codeAny_two1 {elt t0 it0 target iter : Expr} {ifs : List Expr} {scope : Scope} {pos : Pos} {it acc : Value} {env : Env} (I : Nat → Shared → Prop)
    (turn : ∀ n s, I n s → wpAny (model prog w) A (pyNext it) (fun r s₁ => match r with
      | none => R (.ok .next) s₁
      | some v => wpAny (model prog w) A (assign target env v) (fun _ s₂ =>
          wpAny (model prog w) A (forIn ifs true fun c r => if r = true then do let ok ← isTrue c env (eval c env); pure (ForInStep.yield ok) else pure (ForInStep.yield r)) (fun ok s₃ =>
            if ok = true then wpAny (model prog w) A (eval elt env) (fun x s₄ =>
              wpAny (model prog w) A (call (.builtin "list.append") [acc, x]) (fun _ s₅ => ∃ m, m < n ∧ I m s₅) (notedBy (model prog w) A env fun e s' => R (.error e) s') s₄) (notedBy (model prog w) A env fun e s' => R (.error e) s') s₃
            else ∃ m, m < n ∧ I m s₃) (notedBy (model prog w) A env fun e s' => R (.error e) s') s₂) (notedBy (model prog w) A env fun e s' => R (.error e) s') s₁) (notedBy (model prog w) A env fun e s' => R (.error e) s') s)
    (n : Nat) (h : I n s) (ht : ∀ v, letOwnedTupleGo target it v = pure () := by intro _; rfl) :
    codeAny (model prog w) A (.compLoop (.ListComp elt [⟨t0, it0, [], 0⟩, ⟨target, iter, ifs, 0⟩] scope pos) 1 it acc env) R s := by
  refine codeAny_loop rfl I (fun n s hI => ?_) n h
  show wpAny _ A ((compTurn (.ListComp elt [⟨t0, it0, [], 0⟩, ⟨target, iter, ifs, 0⟩] scope pos) 1 it acc env).onRaise (fun x => do noteFrame x env; theTreesLotGoes x)) _ _ s
  refine wpAny_noted ?_
  rw [compTurn_two1]
  refine wpAny_bind (wpAny_standAt (wpAny_bind (wpAny_mono (turn n s hI) (fun r s₁ h₁ => ?_) fun _ _ h' => h')))
  cases r with
  | none => exact wpAny_pure h₁
  | some v =>
    refine wpAny_bind (wpAny_of_eq (ht v) ?_)
    refine wpAny_bind (wpAny_mono h₁ (fun _ s₂ h₂ => wpAny_bind (wpAny_mono h₂ (fun ok s₃ h₃ => ?_) fun _ _ h' => h')) fun _ _ h' => h')
    cases ok with
    | false => exact wpAny_pure ⟨rfl, h₃⟩
    | true =>
      exact wpAny_bind (wpAny_bind (wpAny_mono h₃ (fun x s₄ h₄ => wpAny_bind (wpAny_mono h₄ (fun _ s₅ h₅ => wpAny_pure (wpAny_pure ⟨rfl, h₅⟩)) fun _ _ h' => h')) fun _ _ h' => h'))

theorem compTurn_two0 (elt t0 it0 target iter : Expr) (ifs : List Expr) (scope : Scope) (pos : Pos) (it acc : Value) (env : Env) :
    compTurn (.ListComp elt [⟨t0, it0, [], 0⟩, ⟨target, iter, ifs, 0⟩] scope pos) 0 it acc env = (do
      standAt it0.pos
      match ← pyNext it with
      | none => pure (.done .next)
      | some v =>
        letOwnedTupleGo t0 it v
        assign t0 env v
        let x ← eval iter env
        standAt iter.pos
        let x ← foldedSetIterable iter env x
        let _ ← runOwn (.compStart (.ListComp elt [⟨t0, it0, [], 0⟩, ⟨target, iter, ifs, 0⟩] scope pos) 1 (← holding [x] (pyIter x)) acc env) env
        again (.compLoop (.ListComp elt [⟨t0, it0, [], 0⟩, ⟨target, iter, ifs, 0⟩] scope pos) 0 it acc env)) := by rfl

theorem codeAny_two0 {elt t0 it0 target iter : Expr} {ifs : List Expr} {scope : Scope} {pos : Pos} {it acc : Value} {env : Env} (I : Nat → Shared → Prop)
    (turn : ∀ n s, I n s → wpAny (model prog w) A (pyNext it) (fun r s₁ => match r with
      | none => R (.ok .next) s₁
      | some v => wpAny (model prog w) A (assign t0 env v) (fun _ s₂ =>
          wpAny (model prog w) A (eval iter env) (fun x s₃ => wpAny (model prog w) A (pyIter x) (fun it' s₄ =>
            codeAny (model prog w) A (.compStart (.ListComp elt [⟨t0, it0, [], 0⟩, ⟨target, iter, ifs, 0⟩] scope pos) 1 it' acc env) (fun r s₅ => match r with | .ok _ => ∃ m, m < n ∧ I m s₅ | .error _ => False) s₄) (fun _ _ => False) s₃)
            (fun _ _ => False) s₂) (fun _ _ => False) s₁) (fun _ _ => False) s)
    (hs : ∀ x, foldedSetIterable iter env x = pure x)
    (n : Nat) (h : I n s) (ht : ∀ v, letOwnedTupleGo t0 it v = pure () := by intro _; rfl) :
    codeAny (model prog w) A (.compLoop (.ListComp elt [⟨t0, it0, [], 0⟩, ⟨target, iter, ifs, 0⟩] scope pos) 0 it acc env) R s := by
  refine codeAny_loop rfl I (fun n s hI => ?_) n h
  show wpAny _ A ((compTurn (.ListComp elt [⟨t0, it0, [], 0⟩, ⟨target, iter, ifs, 0⟩] scope pos) 0 it acc env).onRaise (fun x => do noteFrame x env; theTreesLotGoes x)) _ _ s
  refine wpAny_noted ?_
  rw [compTurn_two0]
  refine wpAny_bind (wpAny_standAt (wpAny_bind (wpAny_mono (turn n s hI) (fun r s₁ h₁ => ?_) fun _ _ h' => h'.elim)))
  cases r with
  | none => exact wpAny_pure h₁
  | some v =>
    refine wpAny_bind (wpAny_of_eq (ht v) ?_)
    refine wpAny_bind (wpAny_mono h₁ (fun _ s₂ h₂ => wpAny_bind (wpAny_mono h₂ (fun x s₃ h₃ => wpAny_bind (wpAny_standAt (wpAny_bind (wpAny_of_eq (hs x) ?_)))) fun _ _ h' => h'.elim)) fun _ _ h' => h'.elim)
    refine wpAny_bind (wpAny_holding (wpAny_mono h₃ (fun it' s₄ h₄ => wpAny_bind (wpAny_runOwn (codeAny_mono h₄ fun r s₅ h₅ => ?_))) fun _ _ h' => h'.elim))
    cases r with
    | ok f => exact wpAny_pure ⟨rfl, h₅⟩
    | error e => exact h₅.elim

theorem codeAny_compStart1 {elt t0 it0 target iter ifs scope pos it acc env}
    (h0 : codeAny (model prog w) A (.compLoop (.ListComp elt [⟨t0, it0, [], 0⟩, ⟨target, iter, ifs, 0⟩] scope pos) 1 it acc env) R s)
    (h : wpAny (model prog w) A (pyIter it) (fun it' s' => codeAny (model prog w) A (.compLoop (.ListComp elt [⟨t0, it0, [], 0⟩, ⟨target, iter, ifs, 0⟩] scope pos) 1 it' acc env) R s')
      (notedBy (model prog w) A env fun x s' => R (.error x) s') s) :
    codeAny (model prog w) A (.compStart (.ListComp elt [⟨t0, it0, [], 0⟩, ⟨target, iter, ifs, 0⟩] scope pos) 1 it acc env) R s := by
  refine codeAny_of_tree ?_
  show wpAny _ _ ((compStart (.ListComp elt [⟨t0, it0, [], 0⟩, ⟨target, iter, ifs, 0⟩] scope pos) 1 it acc env).onRaise (fun x => do noteFrame x env; standAt theWindowsPlace)) _ _ s
  refine wpAny_notedAt ?_
  unfold compStart
  show wpAny _ _ (ask >>= _) _ _ s
  refine wpAny_bind (wpAny_askSetting (wpAny_ite ?_))
  split
  · first
      | exact wpAny_bind (wpAny_pure (wpAny_pure (And.intro rfl h0)))
      | exact wpAny_pure (And.intro rfl h0)
  · first
      | exact wpAny_bind (wpAny_rule (wpAny_bind (wpAny_standAt (wpAny_bind (wpAny_mono h (fun it' s' h' => wpAny_pure (And.intro rfl h')) fun _ _ x => x)))))
      | (refine wpAny_bind (wpAny_rule ?_); show wpAny _ _ (standAt iter.pos >>= _) _ _ s; exact wpAny_bind (wpAny_standAt (wpAny_bind (wpAny_mono h (fun it' s' h' => wpAny_pure (And.intro rfl h')) fun _ _ x => x))))

end


-- CompTwoB
section
variable {prog : Program} {w : World} {A : Around} {E : Value → Shared → Prop} {env : Env} {s : Shared}


structure Comp2At (prog : Program) (w : World) (A : Around) (env : Env) (scope : Scope) (cl : List (Str × Addr)) (x0 x : Str) (it1 elt : Expr) (ns : List Int) (Q : Value → Shared → Prop) (n : Nat) (P : Nat → Value → Prop) (J : Nat → List Value → Heap → Prop) (I : Addr) (fp : List Addr) (St : Nat → Heap → Prop) (s₂ : Shared) : Prop where
  walks : Walks prog w A I fp [I] n P St
  size : n * ns.length ≤ 1000
  init : St 0 s₂.heap
  low : ∀ b ∈ fp, b < s₂.heap.objs.size
  notup : ∀ i h, St i h → ∀ o, h.get? I = some o → ¬ TupO o
  stab : ∀ k ys h h', J k ys h → (∀ b o, TupO o → h.get? b = some o → h'.get? b = some o) → J k ys h'
  start : J 0 [] s₂.heap
  second : ∀ C (s' : Shared) (Q' : Value → Shared → Prop), (∀ t vs h' tk, s'.heap.objs.size ≤ t → IsTup h' t vs.toArray → IntsAre vs ns → Sub s'.heap h' → Q' (.ref t) { s' with heap := h', toks := tk }) → wpAny (model prog w) A (eval it1 (compEnvC scope cl C env)) Q' (fun _ _ => False) s'
  turn : ∀ C i k v u ys h tk m, i < n → P i v → k < ns.length → (∃ t, u = .int (ns.getD k 0) t) → h.Ns C m → m x0 = some v → m x = some u → J (i * ns.length + k) ys h →
    wpAny (model prog w) A (eval elt (compEnvC scope cl C env)) (fun y s₄ => TurnEnd s₂ [] h (fun h₄ _ => J (i * ns.length + k + 1) (ys ++ [y]) h₄) s₄) (fun _ _ => False) { s₂ with heap := h, toks := tk }
  done : ∀ D h' tk ys, s₂.heap.get? D = none → h'.PlainList D (List.toArray ys) → J (n * ns.length) ys h' → (∀ b o, b ≠ I → s₂.heap.get? b = some o → h'.get? b = some o) → Q (.ref D) { s₂ with heap := h', toks := tk }

theorem ints_get {vs : List Value} {ns : List Int} (h : IntsAre vs ns) : ∀ {k : Nat} {v : Value}, vs[k]? = some v → k < ns.length ∧ ∃ t, v = .int (ns.getD k 0) t := by
  induction h with
  | nil => intro k v e; simp at e
  | cons n t r ih =>
    intro k v e
    cases k with
    | zero => simp at e; subst e; exact ⟨by simp, t, by simp⟩
    | succ k =>
      obtain ⟨h1, t', h2⟩ := ih (k := k) (v := v) (by simpa using e)
      exact ⟨by simp; omega, t', by simpa using h2⟩

inductive TwoI (s : Shared) (n k : Nat) (St : Nat → Heap → Prop) (D C : Addr) (J : Nat → List Value → Heap → Prop) (I : Addr) : Nat → Shared → Prop
  | mk (i : Nat) (h : Heap) (tk : Nat) (ys : List Value) (m : Str → Option Value) (hi : i ≤ n) (hys : ys.length ≤ i * k) (hst : St i h) (hacc : h.PlainList D (List.toArray ys)) (hm : h.Ns C m) (hj : J (i * k) ys h)
    (hk : ∀ b o, b ≠ I → s.heap.get? b = some o → h.get? b = some o) : TwoI s n k St D C J I (n + 1 - i) { s with heap := h, toks := tk }

noncomputable def TwoEnd (I : Nat → Shared → Prop) (k : Nat) (r : Result) (s : Shared) : Prop := match r with | .ok _ => ∃ m, m < k ∧ I m s | .error _ => False
theorem comp2_gen {elt it0 iter : Expr} {x0 x : Str} {px0 px : Pos} {scope : Scope} {cl : List (Str × Addr)} {pos : Pos} {Q : Value → Shared → Prop} {ns : List Int} (hh : A.handled = none)
    (hclos : closureFor scope env = pure cl) (hcell : ∀ y ∈ scope.names, y.2 ≠ .cell) (hkind : scope.kind = .function)
    (hnames : ∀ y ∈ scope.names, y.2 = .local → scope.names.lookup y.1 = some .local) (hx0 : scope.names.lookup x0 = some .local) (hx : scope.names.lookup x = some .local) (hne : x0 ≠ x)
    (hs : ∀ x, foldedSetIterable it0 env x = pure x) (hs1 : ∀ e x, foldedSetIterable iter e x = pure x)
    (h : wpAny (model prog w) A (eval it0 env) (fun xv s₁ => wpAny (model prog w) A (pyIter xv) (fun it s₂ => ∃ n P J I fp St, it = .ref I ∧ Comp2At prog w A env scope cl x0 x iter elt ns Q n P J I fp St s₂) E s₁) E s) :
    wpAny (model prog w) A (eval (.ListComp elt [⟨.Name x0 px0, it0, [], 0⟩, ⟨.Name x px, iter, [], 0⟩] scope pos) env) Q E s := by
  rw [eval_ListComp]
  refine wpAny_comprehension_free (use := none) rfl hs hclos hkind hnames (wpAny_mono h (fun xv s₁ h₁ => wpAny_mono h₁ (fun it s₂ h₂ => ?_) fun _ _ e => e) fun _ _ e => e)
  obtain ⟨n, P, J, I, fp, St, rfl, G⟩ := h₂
  obtain ⟨W, hsz, hst, hfp, hsh, hJ, hj, hsec, hturn, hdone⟩ := G
  refine wpAny_newObj_type (wpAny_newFunctionEnv hcell (by intro y hy; simp at hy) (fun h₁ hns₁ hsb₁ => ?_) hkind)
  dsimp only at hns₁ hsb₁ ⊢
  generalize hH2 : s₂.heap.push { cls := .type "list", dict := none, data := .seq ([] : List Value).toArray } = H2 at hns₁ hsb₁ ⊢
  have hC : H2.objs.size = s₂.heap.objs.size + 1 := by rw [← hH2, Heap.size_push]
  have hDC : s₂.heap.objs.size ≠ H2.objs.size := by rw [hC]; exact Nat.ne_of_lt (Nat.lt_succ_self _)
  have hCle : s₂.heap.objs.size ≤ H2.objs.size := by rw [hC]; exact Nat.le_succ _
  have below : ∀ b, b < s₂.heap.objs.size → b ≠ H2.objs.size ∧ b ≠ s₂.heap.objs.size := fun b hb => ⟨by rw [hC]; exact Nat.ne_of_lt (Nat.lt_succ_of_lt hb), Nat.ne_of_lt hb⟩
  have hIf : I ∈ fp := W.sub _ (.head _)
  have hDf : s₂.heap.objs.size ∉ fp := fun hm => Nat.lt_irrefl _ (hfp _ hm)
  have hCf : H2.objs.size ∉ fp := fun hm => by have := hfp _ hm; rw [hC] at this; exact Nat.lt_irrefl _ (Nat.lt_of_succ_lt this)
  have old : ∀ b o, s₂.heap.get? b = some o → h₁.get? b = some o := fun b o e => hsb₁.extBut b o (below b (Heap.lt_size e)).1 (Heap.get?_push_of_some _ (hH2 ▸ Heap.get?_push_of_some _ e))
  have hacc : h₁.PlainList s₂.heap.objs.size #[] := ⟨_, hsb₁.extBut _ _ hDC (Heap.get?_push_of_some _ (hH2 ▸ Heap.get?_push_size _ rfl))⟩
  have hst₁ : St 0 h₁ := W.frame _ _ _ hst fun b _ o e => old b o e
  have fresh : ∀ a, s₂.heap.objs.size ≤ a → s₂.heap.get? a = none := fun a ha => Heap.get?_none_of_le ha
  have ns_tup : ∀ {h : Heap} {m : Str → Option Value}, h.Ns H2.objs.size m → ∀ b o, TupO o → h.get? b = some o → b ≠ H2.objs.size := fun hn b o ht e q => by rw [q] at e; exact ns_not_tup hn o e ht
  have loop : ∀ s₃ : Shared, s₃ = { s₂ with heap := h₁, toks := s₂.toks + ([] : List (Str × Value)).length } →
      codeAny (model prog w) A (.compLoop (.ListComp elt [⟨.Name x0 px0, it0, [], 0⟩, ⟨.Name x px, iter, [], 0⟩] scope pos) 0 (.ref I) (.ref s₂.heap.objs.size) (compEnvC scope cl H2.objs.size env))
        (compPost (model prog w) A E none Q (.ref s₂.heap.objs.size) H2.objs.size) s₃ := by
    rintro s₃ rfl
    refine codeAny_two0
      (TwoI s₂ n ns.length St s₂.heap.objs.size H2.objs.size J I) ?_ (hs1 _) (n + 1)
      (.mk 0 h₁ _ [] _ (Nat.zero_le _) (Nat.zero_le _) hst₁ hacc hns₁ (hJ _ _ _ _ (by rw [Nat.zero_mul]; exact hj) fun b o _ e => old b o e) fun b o _ e => old b o e)
    rintro _ _ ⟨i, H, tk, ys, m, hi, hys, hst', hacc', hm, hj', hk⟩
    by_cases hlt : i < n
    · refine W.item i _ _ _ hlt hst' fun v h₂ tk₂ hPv hst₂ hk₂ => ?_
      have k₂ : ∀ b o, b ≠ I → H.get? b = some o → h₂.get? b = some o := fun b o n e => hk₂ b o (fun q => n (List.mem_singleton.mp q)) e
      have hIC : H2.objs.size ≠ I := fun q => hCf (q ▸ hIf)
      have hID : s₂.heap.objs.size ≠ I := fun q => hDf (q ▸ hIf)
      have hm₂ := hm.at' fun o e => k₂ _ o hIC e
      have notI : ∀ b o, TupO o → H.get? b = some o → b ≠ I := fun b o ht e q => hsh _ _ hst' o (q ▸ e) ht
      refine wpAny_assign_Name (wpAny_storeName_local (lookup_relabel_local hx0) hm₂ (fun h₃ hn₃ hs₃ => ?_) (by simp [compEnvC, relabel, hkind]))
      have k₃ : ∀ b o, b ≠ H2.objs.size → h₂.get? b = some o → h₃.get? b = some o := fun b o nb e => hs₃.extBut b o nb e
      refine hsec _ _ _ fun t vs h₄ tk₄ htge hT hI₄ k₄ => ?_
      dsimp only at htge hT k₄ ⊢
      have hT' : h₄.IsTuple t vs.toArray := hT
      refine wpAny_pyIter_tuple hT' ?_
      dsimp only
      generalize hI1 : h₄.objs.size = I1
      generalize hh₅ : h₄.push _ = h₅
      have k₅ : ∀ b o, h₄.get? b = some o → h₅.get? b = some o := fun b o e => hh₅ ▸ Heap.get?_push_of_some _ e
      have hit : h₅.get? I1 = some _ := hh₅ ▸ hI1 ▸ Heap.get?_push_size _ rfl
      have hI1n : h₄.get? I1 = none := hI1 ▸ Heap.get?_none_of_le (Nat.le_refl _)
      have hm₃ : h₅.Ns H2.objs.size _ := (hn₃.at' fun o e => k₄ _ o e).at' fun o e => k₅ _ o e
      have hst₃ : St (i + 1) h₃ := W.frame _ _ _ hst₂ fun b hb o e => k₃ b o (fun q => hCf (q ▸ hb)) e
      have hst₅ : St (i + 1) h₅ := W.frame _ _ _ hst₃ fun b hb o e => k₅ b o (k₄ b o e)
      have hacc₃ : h₃.PlainList s₂.heap.objs.size ys.toArray := (hacc'.at fun o e => k₂ _ o hID e).at fun o e => k₃ _ o hDC e
      have hacc₅ : h₅.PlainList s₂.heap.objs.size ys.toArray := (hacc₃.at fun o e => k₄ _ o e).at fun o e => k₅ _ o e
      have hj₅ : J (i * ns.length) ys h₅ := hJ _ _ _ _ hj' fun b o ht e => k₅ b o (k₄ b o (k₃ b o (ns_tup hm₂ b o ht (k₂ b o (notI b o ht e) e)) (k₂ b o (notI b o ht e) e)))
      have hkk : ∀ b o, b ≠ I → s₂.heap.get? b = some o → h₅.get? b = some o := fun b o nb e => k₅ b o (k₄ b o (k₃ b o (below b (Heap.lt_size e)).1 (k₂ b o nb (hk b o nb e))))
      have hD3 : s₂.heap.objs.size < t := Nat.lt_of_lt_of_le (Heap.lt_size hacc₃.choose_spec) htge
      have ht : h₃.get? t = none := Heap.get?_none_of_le htge
      have hD4 : s₂.heap.objs.size < I1 := hI1 ▸ Heap.lt_size (k₄ _ _ hacc₃.choose_spec)
      have htfp : t ∉ fp := fun q => Nat.lt_irrefl _ (Nat.lt_trans (hfp _ q) hD3)
      have hI1fp : I1 ∉ fp := fun q => Nat.lt_irrefl _ (Nat.lt_trans (hfp _ q) hD4)
      have htC : t ≠ H2.objs.size := fun q => by obtain ⟨o, _, _, e, _⟩ := hn₃; have e' : h₃.get? H2.objs.size = some o := e; rw [← q, ht] at e'; cases e'
      have htD : t ≠ s₂.heap.objs.size := fun q => by obtain ⟨_, e⟩ := hacc₃; rw [← q, ht] at e; cases e
      have hIC1 : I1 ≠ H2.objs.size := fun q => by obtain ⟨o, _, _, e, _⟩ := hn₃; have e' := k₄ H2.objs.size o e; rw [← q, hI1n] at e'; cases e'
      have hID1 : I1 ≠ s₂.heap.objs.size := fun q => by obtain ⟨_, e⟩ := hacc₃; rw [q, k₄ _ _ e] at hI1n; cases hI1n
      have htI : t ≠ I1 := fun q => by obtain ⟨o, e, _⟩ := hT; rw [q, hI1n] at e; cases e
      have W1 := Walks.tuple (prog := prog) (w := w) (A := A) hh I1 t htI vs.toArray
      have e1 : vs.toArray.size = ns.length := by rw [List.size_toArray]; exact hI₄.length
      rw [e1] at W1
      have inner : ∀ s₆ : Shared, s₆ = { s₂ with heap := h₅, toks := tk₄ } → codeAny (model prog w) A (.compLoop (.ListComp elt [⟨.Name x0 px0, it0, [], 0⟩, ⟨.Name x px, iter, [], 0⟩] scope pos) 1 (.ref I1) (.ref s₂.heap.objs.size) (compEnvC scope cl H2.objs.size env))
          (TwoEnd (TwoI s₂ n ns.length St s₂.heap.objs.size H2.objs.size J I) (n + 1 - i)) s₆ := by
        rintro s₆ rfl
        refine codeAny_two1 (R := TwoEnd (TwoI s₂ n ns.length St s₂.heap.objs.size H2.objs.size J I) (n + 1 - i)) _ (comp_turn (R := TwoEnd (TwoI s₂ n ns.length St s₂.heap.objs.size H2.objs.size J I) (n + 1 - i)) (s := { s₂ with heap := h₅ }) (c := ys.length) (cenv := compEnvC scope cl H2.objs.size env) W1 [H2.objs.size] [] s₂.heap.objs.size (fun h u => ∃ m, h.Ns H2.objs.size m ∧ m x0 = some v ∧ m x = u)
          (fun k ys h => ys.length ≤ i * ns.length + k ∧ J (i * ns.length + k) ys h ∧ St (i + 1) h) ?_ ?_ ?_ ?_ ?_ (fun _ h => nomatch h) ?_ ?_ ?_ (Nat.le_refl _) ?_ ?_ ?_ ?_) (ns.length + 1)
          (.mk 0 h₅ _ _ ys (Nat.zero_le _) (Nat.le_refl _) ⟨⟨_, hit, rfl, rfl⟩, hT'.at fun o e => k₅ _ o e⟩ hacc₅ ⟨_, hm₃, by simp, rfl⟩ ⟨hys, hj₅, hst₅⟩ fun _ _ _ _ _ _ e => e)
        · rintro h h' u ⟨m, hm, a1, a2⟩ hk
          exact ⟨m, hm.at' fun o e => hk _ (by simp) o e, a1, a2⟩
        · rintro v' u s Q E ⟨m, hm, a1, _⟩ hQ
          exact wpAny_assign_Name (wpAny_storeName_local (lookup_relabel_local hx) hm (fun h₂ hn₂ hs₂ => hQ h₂ _ ⟨_, hn₂, by simp [hne, a1], by simp⟩ fun b o hb e => hs₂.extBut b o (fun q => hb (by rw [q]; exact List.mem_singleton.mpr rfl)) e) (by simp [compEnvC, relabel, hkind]))
        · intro b hb; rw [List.mem_singleton.mp hb]; simp only [List.mem_cons, List.not_mem_nil, or_false, not_or]; exact ⟨Ne.symm hIC1, Ne.symm htC⟩
        · intro hb; exact hDC (List.mem_singleton.mp hb)
        · simp only [List.mem_cons, List.not_mem_nil, or_false, not_or]; exact ⟨Ne.symm hID1, Ne.symm htD⟩
        · rintro k h ⟨⟨o, ho, hc, _⟩, _⟩ b hb o' e ⟨hc', _⟩
          rw [List.mem_singleton.mp hb, ho] at e; cases e
          rw [hc] at hc'; exact absurd hc' (by simp)
        · rintro h u ⟨m, hm, _⟩ b hb o e; rw [List.mem_singleton.mp hb] at e; exact ns_not_tup hm o e
        · intro b hb; rw [List.mem_singleton.mp hb]; exact hCle
        · rintro k ys' h h' ⟨b1, b2, b3⟩ hk'
          refine ⟨b1, hJ _ _ _ _ b2 fun b o ht e => hk' b o (.inl ht) e, W.frame _ _ _ b3 fun b hb o e => hk' b o (.inr ⟨hfp b hb, fun q => hI1fp (List.mem_singleton.mp q ▸ hb)⟩) e⟩
        · rintro k u ys' h tk hk1 hPu ⟨m, hm, a1, a2⟩ hkeep ⟨b1, b2, b3⟩
          refine wpAny_tests_nil (TurnEnd.intro (fun _ _ _ e => e) ?_)
          simp only [if_true]
          have hPu' : vs[k]? = some u := by simpa using hPu
          obtain ⟨hkl, t', hu⟩ := ints_get hI₄ hPu'
          refine wpAny_mono (hturn _ i k v u ys' h tk m hlt hPv hkl ⟨t', hu⟩ hm a1 a2 b2) (fun y s₈ h₈ => ?_) fun _ _ e => e
          obtain ⟨h₉, tk₉, e, hk₉, hj₉⟩ := h₈
          exact ⟨h₉, tk₉, e, hk₉, by simp; omega, hj₉, W.frame _ _ _ b3 fun b _ o e => hk₉ b o (fun h => nomatch h) e⟩
        · rintro h' tk u ys' ⟨m, hm, _, _⟩ hpl ⟨b1, b2, b3⟩ hkeep
          refine ⟨_, dn hlt, .mk (i + 1) h' tk ys' m hlt (by rw [Nat.succ_mul]; exact b1) b3 hpl hm (by rw [Nat.succ_mul]; exact b2) fun b o nb e => ?_⟩
          have hb := below b (Heap.lt_size e)
          exact hkeep b o (fun h => nomatch h) (fun q => by rw [List.mem_singleton.mp q] at e; exact Nat.lt_irrefl _ (Nat.lt_trans (Heap.lt_size e) hD4)) (fun q => hb.1 (List.mem_singleton.mp q)) hb.2 (hkk b o nb e)
        · rw [sizeLine_eq]
          have : (i + 1) * ns.length ≤ n * ns.length := Nat.mul_le_mul_right _ hlt
          rw [Nat.succ_mul] at this
          omega
      exact codeAny_compStart1 (inner _ rfl) (W1.self 0 _ _ _ ⟨⟨_, hit, rfl, rfl⟩, hT'.at fun o e => k₅ _ o e⟩ (inner _ rfl))
    · have hin : i = n := Nat.le_antisymm hi (Nat.le_of_not_lt hlt)
      subst hin
      refine W.done _ _ _ hst' fun h₂ tk₂ hk₂ => ?_
      have k₂ : ∀ b o, b ≠ I → H.get? b = some o → h₂.get? b = some o := fun b o n e => hk₂ b o (fun q => n (List.mem_singleton.mp q)) e
      have hIC : H2.objs.size ≠ I := fun q => hCf (q ▸ hIf)
      have hID : s₂.heap.objs.size ≠ I := fun q => hDf (q ▸ hIf)
      have hm₂ := hm.at' fun o e => k₂ _ o hIC e
      refine ⟨m, hm₂, fun h'' hs'' => ?_⟩
      have hkC : ∀ b o, b ≠ H2.objs.size → h₂.get? b = some o → h''.get? b = some o := fun b o hb e => hs''.extBut b o hb e
      have notI : ∀ b o, TupO o → H.get? b = some o → b ≠ I := fun b o ht e q => hsh _ _ hst' o (q ▸ e) ht
      exact hdone _ h'' tk₂ ys (fresh _ (Nat.le_refl _)) ((hacc'.at fun o e => k₂ _ o hID e).at fun o e => hkC _ o hDC e)
        (hJ _ _ _ _ hj' fun b o ht e => hkC b o (ns_tup hm₂ b o ht (k₂ b o (notI b o ht e) e)) (k₂ b o (notI b o ht e) e)) fun b o nb e => hkC b o (below b (Heap.lt_size e)).1 (k₂ b o nb (hk b o nb e))
  exact codeAny_compStart_list (loop _ rfl) (W.self 0 _ _ _ hst₁ (loop _ rfl))
end

section
variable {prog : Program} {w : World} {A : Around} {E : Value → Shared → Prop} {env : Env} {s : Shared}
noncomputable def Comp2Ex (prog : Program) (w : World) (A : Around) (env : Env) (scope : Scope) (cl : List (Str × Addr)) (x0 x : Str) (it1 elt : Expr) (ns : List Int) (Q : Value → Shared → Prop) (it : Value) (s₂ : Shared) : Prop :=
  ∃ n P J I fp St, it = .ref I ∧ Comp2At prog w A env scope cl x0 x it1 elt ns Q n P J I fp St s₂

structure Comp2Over (prog : Program) (w : World) (A : Around) (env : Env) (scope : Scope) (cl : List (Str × Addr)) (x0 x : Str) (it1 elt : Expr) (ns : List Int) (Q : Value → Shared → Prop) (n : Nat) (P : Nat → Value → Prop) (J : Nat → List Value → Heap → Prop) (s : Shared) : Prop where
  stab : ∀ k ys h h', J k ys h → (∀ b o, TupO o → h.get? b = some o → h'.get? b = some o) → J k ys h'
  start : J 0 [] s.heap
  second : ∀ C (s' : Shared) (Q' : Value → Shared → Prop), (∀ t vs h' tk, s'.heap.objs.size ≤ t → IsTup h' t vs.toArray → IntsAre vs ns → Sub s'.heap h' → Q' (.ref t) { s' with heap := h', toks := tk }) → wpAny (model prog w) A (eval it1 (compEnvC scope cl C env)) Q' (fun _ _ => False) s'
  turn : ∀ C i k v u ys h tk m, i < n → P i v → k < ns.length → (∃ t, u = .int (ns.getD k 0) t) → h.Ns C m → m x0 = some v → m x = some u → J (i * ns.length + k) ys h →
    wpAny (model prog w) A (eval elt (compEnvC scope cl C env)) (fun y s₄ => TurnEnd s [] h (fun h₄ _ => J (i * ns.length + k + 1) (ys ++ [y]) h₄) s₄) (fun _ _ => False) { s with heap := h, toks := tk }
  done : ∀ D h' tk ys, s.heap.get? D = none → h'.PlainList D (List.toArray ys) → J (n * ns.length) ys h' → Sub s.heap h' → Q (.ref D) { s with heap := h', toks := tk }

theorem comp2_tup {t : Addr} {vs : List Value} {scope : Scope} {cl : List (Str × Addr)} {x0 x : Str} {it1 elt : Expr} {ns : List Int} {Q : Value → Shared → Prop} (J : Nat → List Value → Heap → Prop)
    (hh : A.handled = none) (ht : IsTup s.heap t vs.toArray) (hsz : vs.length * ns.length ≤ 1000)
    (h : Comp2Over prog w A env scope cl x0 x it1 elt ns Q vs.length (fun i v => vs[i]? = some v) J s) :
    wpAny (model prog w) A (pyIter (.ref t)) (fun it s₂ => Comp2Ex prog w A env scope cl x0 x it1 elt ns Q it s₂) E s := by
  have ht' : s.heap.IsTuple t vs.toArray := ht
  obtain ⟨ot, hot, hcl, nn, hdt⟩ := id ht
  have hlt : t < s.heap.objs.size := Heap.lt_size hot
  refine wpAny_pyIter_tuple ht' ?_
  have W := Walks.tuple (prog := prog) (w := w) hh s.heap.objs.size t (Nat.ne_of_lt hlt) vs.toArray
  have e1 : vs.toArray.size = vs.length := by simp
  have e2 : (fun (i : Nat) v => vs.toArray[i]? = some v) = fun i v => vs[i]? = some v := by funext i v; simp
  rw [e1, e2] at W
  refine ⟨_, _, J, _, _, _, rfl, W, hsz, ⟨⟨_, Heap.get?_push_size _ rfl, rfl, rfl⟩, ht'.at fun o e => Heap.get?_push_of_some _ e⟩, ?_, ?_, h.stab, h.stab _ _ _ _ h.start fun b o _ e => Heap.get?_push_of_some _ e, h.second, h.turn, ?_⟩
  · intro b hb
    rw [Heap.size_push]
    rcases List.mem_cons.mp hb with rfl | hb
    · exact Nat.lt_succ_self _
    · rw [List.mem_singleton.mp hb]; exact Nat.lt_succ_of_lt hlt
  · rintro i h ⟨⟨o, ho, hc, _⟩, _⟩ o' e ⟨hc', _⟩
    rw [ho] at e; cases e
    rw [hc] at hc'; exact absurd hc' (by simp)
  · intro D h' tk ys hD hpl hj hk
    refine h.done D h' tk ys ?_ hpl hj fun b o e => hk b o (fun q => Nat.lt_irrefl _ (q ▸ Heap.lt_size e)) (Heap.get?_push_of_some _ e)
    cases e : s.heap.get? D with
    | none => rfl
    | some o' => rw [Heap.get?_push_of_some _ e] at hD; cases hD
end

theorem comp2_ex {prog : Program} {w : World} {A : Around} {E : Value → Shared → Prop} {env : Env} {s : Shared} {elt it0 iter : Expr} {x0 x : Str} {px0 px : Pos} {scope : Scope} {cl : List (Str × Addr)} {pos : Pos} {Q : Value → Shared → Prop} {ns : List Int} (hh : A.handled = none)
    (hclos : closureFor scope env = pure cl) (hcell : ∀ y ∈ scope.names, y.2 ≠ .cell) (hkind : scope.kind = .function)
    (hnames : ∀ y ∈ scope.names, y.2 = .local → scope.names.lookup y.1 = some .local) (hx0 : scope.names.lookup x0 = some .local) (hx : scope.names.lookup x = some .local) (hne : x0 ≠ x)
    (hs : ∀ x, foldedSetIterable it0 env x = pure x) (hs1 : ∀ e x, foldedSetIterable iter e x = pure x)
    (h : wpAny (model prog w) A (eval it0 env) (fun xv s₁ => wpAny (model prog w) A (pyIter xv) (fun it s₂ => Comp2Ex prog w A env scope cl x0 x iter elt ns Q it s₂) E s₁) E s) :
    wpAny (model prog w) A (eval (.ListComp elt [⟨.Name x0 px0, it0, [], 0⟩, ⟨.Name x px, iter, [], 0⟩] scope pos) env) Q E s :=
  comp2_gen hh hclos hcell hkind hnames hx0 hx hne hs hs1 h

noncomputable def encP (p : Int × Int) : PyData := .tuple [.int p.1, .int p.2]
noncomputable def encPs : List (Int × Int) → List PyData
  | [] => []
  | p :: ps => encP p :: encPs ps
noncomputable def encIs : List Int → List PyData
  | [] => []
  | i :: is => .int i :: encIs is
theorem encIs_1 : encIs [] = [] := rfl
theorem encIs_2 (x xs) : encIs (x :: xs) = .int x :: encIs xs := rfl
theorem encPs_1 : encPs [] = [] := rfl
theorem encPs_2 (x xs) : encPs (x :: xs) = encP x :: encPs xs := rfl
noncomputable def encW (W : WorldV) : PyData := .tuple [.list (encIs W.1), .list (encPs W.2)]
theorem tup_of_memP : ∀ {ps : List (Int × Int)}, ∀ d ∈ encPs ps, tupD d = true
  | [], d, h => by simp [encPs_1, encPs_2] at h
  | p :: ps, d, h => by
    rcases List.mem_cons.mp (by simpa [encPs_1, encPs_2] using h) with rfl | h
    · simp [encP, tupD_1, tupD_2, tupD_3, tupD_4, tupD_5, tupD_6, tupD_7, tupDs_1, tupDs_2]
    · exact tup_of_memP d h

theorem encPs_append : ∀ (ps qs : List (Int × Int)), encPs (ps ++ qs) = encPs ps ++ encPs qs
  | [], _ => rfl
  | p :: ps, qs => by simp [encPs_1, encPs_2, encPs_append ps qs]
theorem tup_encPs : ∀ ps : List (Int × Int), tupDs (encPs ps) = true
  | [] => rfl
  | p :: ps => by simp [encPs_1, encPs_2, encP, tupD_1, tupD_2, tupD_3, tupD_4, tupD_5, tupD_6, tupD_7, tupDs_1, tupDs_2, tup_encPs ps]
theorem encIs_append : ∀ (ps qs : List Int), encIs (ps ++ qs) = encIs ps ++ encIs qs
  | [], _ => rfl
  | p :: ps, qs => by simp [encIs_1, encIs_2, encIs_append ps qs]
theorem tup_encIs : ∀ ps : List Int, tupDs (encIs ps) = true
  | [] => rfl
  | p :: ps => by simp [encIs_1, encIs_2, tupD_1, tupD_2, tupD_3, tupD_4, tupD_5, tupD_6, tupD_7, tupDs_1, tupDs_2, tup_encIs ps]

theorem my_storeCell {prog : Program} {w : World} {A : Around} {s : Shared} {E : Value → Shared → Prop} {base : Heap} {L c : Addr} {m : Str → Option Value} {news rest : List (Addr × Obj)} {o : Obj} {v₀ : Option Value} {v : Value} {x : Str} {env : Env} {Q : Unit → Shared → Prop}
    (F : Fr base L s.heap m) (N : News base L s.heap news) (hm : (c, o) ∈ news) (hc : env.cells.lookup x = some c) (hd : o.data = .cell v₀) (hr : ∀ p ∈ rest, p ∈ news ∧ (p.1 ≠ c ∨ ∀ v, p.2.data ≠ .cell v))
    (hk : env.scope.kind = .function) (hl : env.kindOf x = some .cell)
    (h : ∀ h' o', Fr base L h' m → News base L h' ((c, o') :: rest) → o'.data = .cell (some v) → Q () { s with heap := h' }) :
    wpAny (model prog w) A (storeName env x v) Q E s := by
  refine wpAny_storeName_cell hk hl hc ⟨o, N.get hm, hd⟩ fun h' hv hs => ?_
  obtain ⟨o', ho', hd'⟩ := hv
  have hmem := N _ hm
  refine h h' o' ⟨F.ns.sameBut hs (Ne.symm hmem.2.1), fun b ob e => (hs.2 b (fun q => ?_)).trans (F.keep b ob e), F.above⟩ (fun p hp => ?_) hd'
  · rw [q, hmem.2.2] at e; cases e
  · rcases List.mem_cons.mp hp with rfl | hp
    · exact ⟨ho', hmem.2⟩
    · obtain ⟨h1, h2⟩ := hr p hp
      refine ⟨(hs.2 _ fun q => ?_).trans (N p h1).1, (N p h1).2⟩
      rcases h2 with h2 | h2
      · exact h2 q
      · have h3 := (N p h1).1
        rw [q, hmem.1] at h3
        cases h3
        exact h2 _ hd
theorem nc_seq {c : Value} {d : Option Addr} {xs : Array Value} {n : Nat} {sl : Array (Option Value)} : ∀ v, ({ cls := c, dict := d, data := .seq xs n, slots := sl } : Obj).data ≠ .cell v := fun v e => by cases e
theorem TupO.nc {o : Obj} (h : TupO o) : ∀ v, o.data ≠ .cell v := fun v e => by obtain ⟨_, xs, n, hd⟩ := h; rw [hd] at e; cases e

theorem encPs_length : ∀ ps : List (Int × Int), (encPs ps).length = ps.length
  | [] => rfl
  | p :: ps => by simp [encPs_1, encPs_2, encPs_length ps]
theorem tup_of_memI : ∀ {is : List Int}, ∀ d ∈ encIs is, tupD d = true
  | [], d, h => by simp [encIs_1, encIs_2] at h
  | i :: is, d, h => by
    rcases List.mem_cons.mp (by simpa [encIs_1, encIs_2] using h) with rfl | h
    · simp [tupD_1, tupD_2, tupD_3, tupD_4, tupD_5, tupD_6, tupD_7]
    · exact tup_of_memI d h
theorem snocI {h : Heap} {ys : List Value} {is : List Int} (R : RdAll h ys (encIs is)) (i : Int) (t : Tok) : ∃ is', RdAll h (ys ++ [.int i t]) (encIs is') := ⟨is ++ [i], by rw [encIs_append]; exact R.snoc (Rd.int _ _ _)⟩
theorem snocP {h : Heap} {ys : List Value} {ps : List (Int × Int)} {v : Value} {d : PyData} (R : RdAll h ys (encPs ps)) {qs : List (Int × Int)} (hd : d ∈ encPs qs) (r : Rd h v d) : ∃ is', RdAll h (ys ++ [v]) (encPs is') := by
  obtain ⟨q, rfl⟩ : ∃ q, d = encP q := by
    clear R
    induction qs with
    | nil => simp [encPs_1, encPs_2] at hd
    | cons q qs ih =>
      rcases List.mem_cons.mp (by simpa [encPs_1, encPs_2] using hd) with rfl | hd
      · exact ⟨q, rfl⟩
      · exact ih hd
  exact ⟨ps ++ [q], by rw [encPs_append]; exact R.snoc r⟩
theorem RdAll.anyI {h h' : Heap} : ∀ {ys : List Value} {is : List Int}, RdAll h ys (encIs is) → RdAll h' ys (encIs is)
  | _, [], R => by obtain rfl := R.nil_inv; exact .nil
  | _, i :: is, R => by
    obtain ⟨v, us, rfl, r, R2⟩ := RdAll.cons_inv (by simpa [encIs_1, encIs_2] using R)
    obtain ⟨t, rfl⟩ := r.int_inv
    exact .cons (Rd.int _ _ _) (RdAll.anyI R2)
theorem encIs_length : ∀ ps : List Int, (encIs ps).length = ps.length
  | [] => rfl
  | p :: ps => by simp [encIs_1, encIs_2, encIs_length ps]


-- World
theorem four_of {α : Type} (l : List α) (h : l.length = 4) : ∃ a b c d, l = [a, b, c, d] := by
  cases l with
  | nil => cases h
  | cons a l => cases l with
    | nil => cases h
    | cons b l => cases l with
      | nil => cases h
      | cons c l => cases l with
        | nil => cases h
        | cons d l => exact ⟨a, b, c, d, by rw [List.eq_nil_of_length_eq_zero (Nat.succ.inj (Nat.succ.inj (Nat.succ.inj (Nat.succ.inj h))))]⟩
theorem world_spec {prog : Program} {w : World} {mean : ExcName → Option Value} {mg mb : Str → Option Value} {g : Heap} (X₀ : (hd.heap_39 w.params).In g) (T₀ : Top hd.view_39 (looseW hd.view_39 []) mean mg mb g)
    {dp un : Nat} {fr : Option (List Env)} {gd : Option (List Code)} {s : Shared} {Q E : Value → Shared → Prop} {k : Int} {tk0 : Tok}
    (hg : Sub g s.heap) (h0 : 0 ≤ k) (h64 : k < 64) (hdp : dp < 700) (hun : un < 5000)
    (ret : ∀ W r h' tk, Sub s.heap h' → Rd h' r (encW W) → W.1.length ≤ 2 → W.2.length ≤ 4 → Q r { s with heap := h', toks := tk }) :
    wpAny (model prog w) ⟨none, dp, fr, gd, un⟩ (call (.ref 57) [.int k tk0]) Q E s := by
  have X : (hd.heap_39 w.params).In s.heap := X₀.keeps hg
  have T : Top hd.view_39 (looseW hd.view_39 []) mean mg mb s.heap := T₀.keeps hg
  refine enterC (news := []) X T (fun _ _ e => e) (Nat.le_refl _) (fun _ h => nomatch h) (by k_is) (by k_is) (by show dp < 1000; walk_at "ROOM") (BindsTo.of_eq rfl) rfl (by decide) rfl rfl rfl ?_
  intro L h₁ tk cells hL F N Y _
  k_cells Y
  (try simp only [List.cons_append, List.nil_append] at N)
  try dsimp only
  try k_fold
  walk_at "MY"
  refine Stop.of (comp2_ex (ns := [0, 1]) rfl (by with_unfolding_all rfl) (by decide) (by with_unfolding_all rfl) (by decide) (by with_unfolding_all rfl) (by with_unfolding_all rfl) (by decide) (by intro _; with_unfolding_all rfl) (by intro _ _; with_unfolding_all rfl) ?_)
  walk_at "MY"
  (rename Fr _ _ _ _ => F'; rename News _ _ _ _ => N')
  refine Stop.of (comp2_tup (vs := [_, _]) (fun i ys h => ys.length = i ∧ ∃ ps, RdAll h ys (encPs ps)) rfl (N'.isTup (by k_mem)) (by simp) ⟨?_, ?_, ?_, ?_, ?_⟩)
  · rintro k ys h h' ⟨e, ps, R⟩ hk
    exact ⟨e, ps, R.stable hk (tup_of_memP)⟩
  · exact ⟨rfl, [], .nil⟩
  · intro C s' Q' ret
    refine wpAny_Tuple ?_
    walk_at "MY"
    exact ret _ [_, _] _ _ (Nat.le_refl _) ⟨_, Heap.get?_push_size _ rfl, rfl, _, rfl⟩ (.cons _ _ (.cons _ _ .nil)) fun b o e => Heap.get?_push_of_some _ e
  · rintro C i k v u ys h tk m hi hv hk ⟨t, rfl⟩ hn hx hy ⟨hl, ps, R⟩
    obtain ⟨_, t', rfl⟩ := ints_get (.cons _ _ (.cons _ _ .nil)) hv
    refine wpAny_Tuple ?_
    walk_at "MY"
    refine ⟨_, _, rfl, fun b o _ e => Heap.get?_push_of_some _ e, by simp [hl], ps ++ [(([0, 1] : List Int).getD i 0, ([0, 1] : List Int).getD k 0)], ?_⟩
    rw [encPs_append]
    exact (R.keeps fun b o e => Heap.get?_push_of_some _ e).snoc (Rd.tuple (vs := [_, _]) ⟨_, Heap.get?_push_size _ rfl, rfl, _, rfl⟩ (.cons (Rd.int _ _ _) (.cons (Rd.int _ _ _) .nil)))
  · rintro D h' tk ys hD ⟨nn, hDo⟩ ⟨hlen, ps, R⟩ hk
    obtain ⟨p0, p1, p2, p3, rfl⟩ := four_of ys hlen
    have F3 := F'.keeps hk
    have N3 := news_new F' N' hk hD hDo
    obtain ⟨tl, N4, ht, hPin⟩ := adoptAll F3 N3 R (tup_encPs _)
    simp only [List.cons_append, List.nil_append] at N4
    rename_i oP oB dP dB _ _ _
    refine my_storeCell (c := L + 1 + 1) (rest := (D, _) :: (L + 1, _) :: tl) F3 N4 (by k_mem) rfl dP (by
      intro p hp
      rcases List.mem_cons.mp hp with rfl | hp
      · exact ⟨by k_mem, .inr nc_seq⟩
      rcases List.mem_cons.mp hp with rfl | hp
      · exact ⟨by k_mem, .inl (Nat.ne_of_lt (Nat.lt_succ_self _))⟩
      · exact ⟨by simp [hp], .inr (ht p hp).nc⟩) rfl rfl fun h9 oP' F5 N5 dP' => ?_
    clear F' N' F3 N3 N4 hk
    walk_at "MY"
    refine Stop.of (comp_gen (by with_unfolding_all rfl) (by decide) (by with_unfolding_all rfl) (by decide) (by with_unfolding_all rfl) (by intro _; with_unfolding_all rfl) ?_)
    walk_at "MY"
    (rename Fr _ _ _ _ => F'; rename News _ _ _ _ => N')
    refine Stop.of (comp_tup (vs := [_, _]) [] (fun i ys h => ys.length ≤ i ∧ ∃ is, RdAll h ys (encIs is)) rfl (N'.isTup (by k_mem)) (by simp) (fun _ h => nomatch h) ⟨?_, ?_, ?_, ?_⟩)
    · rintro i ys h h' ⟨e, is, R⟩ hk
      exact ⟨e, is, R.stable (fun b o ho e => hk b o (.inl ho) e) tup_of_memI⟩
    · exact ⟨Nat.le_refl _, [], .nil⟩
    · rintro C i v ys h tk m hi hP hC hn hm hk ⟨e, is, R⟩
      obtain ⟨hil, t', rfl⟩ := ints_get (.cons _ _ (.cons _ _ .nil)) hP
      obtain rfl | rfl : i = 0 ∨ i = 1 := by simp at hil; omega
      all_goals
        refine wpAny_gen fun P0 hP0 => ?_
        refine wpAny_tests_one ?_
        have F2 := F'.keeps fun b o e => hk b o (fun h => nomatch h) e
        have N2 := N'.grown fun b o e => hk b o (fun h => nomatch h) e
        walk_at "MY"
        refine hP0 _ _ <| TurnEnd.intro (fun _ _ _ e => e) ?_
        generalize (Builtin.bitAnd _ 1 == 1) = ok
        cases ok
        · simp only [Bool.false_eq_true, if_false]
          exact ⟨by omega, is, R⟩
        · simp only [if_true]
          walk_at "MY"
          refine TurnEnd.intro (fun _ _ _ e => e) ⟨by rw [List.length_append]; simp only [List.length_singleton]; omega, snocI R _ _⟩
    · rintro D2 h' tk ys2 hD2 ⟨nn2, hDo2⟩ ⟨hlen2, is, R2⟩ hk
      have hk' : ∀ b o, _ → h'.get? b = some o := fun b o e => hk b o (fun h => nomatch h) e
      have F3 := F'.keeps hk'
      have N3 := news_new F' N' hk' hD2 hDo2
      clear F' N' hk hk'
      walk_at "MY"
      refine Stop.of (comp_gen (by with_unfolding_all rfl) (by decide) (by with_unfolding_all rfl) (by decide) (by with_unfolding_all rfl) (by intro _; with_unfolding_all rfl) ?_)
      walk_at "MY"
      (rename Fr _ _ _ _ => F'; rename News _ _ _ _ => N'; rename IsRange _ _ _ _ _ _ _ _ => R')
      refine Stop.of (comp_range (n := 4) [] (fun i ys h => ys.length ≤ i ∧ ∃ qs, RdAll h ys (encPs qs)) rfl R' (by omega) (fun _ h => nomatch h) ⟨?_, ?_, ?_, ?_⟩)
      · rintro i ys h h' ⟨e, is, R⟩ hk
        exact ⟨e, is, R.stable (fun b o ho e => hk b o (.inl ho) e) tup_of_memP⟩
      · exact ⟨Nat.le_refl _, [], .nil⟩
      · rintro C i v ys3 h tk m hi ⟨tv, rfl⟩ hC hn hm hk ⟨e, qs, R3⟩
        obtain rfl | rfl | rfl | rfl : i = 0 ∨ i = 1 ∨ i = 2 ∨ i = 3 := by omega
        all_goals
          refine wpAny_gen fun P0 hP0 => ?_
          refine wpAny_tests_one ?_
          have F2 := F'.keeps fun b o e => hk b o (fun h => nomatch h) e
          have N2 := N'.grown fun b o e => hk b o (fun h => nomatch h) e
          walk_at "MY"
          refine hP0 _ _ <| TurnEnd.intro (fun _ _ _ e => e) ?_
          generalize (Builtin.bitAnd _ 1 == 1) = ok
          cases ok
          · simp only [Bool.false_eq_true, if_false]
            exact ⟨by omega, qs, R3⟩
          · simp only [if_true]
            walk_at "MY"
            refine TurnEnd.intro (fun _ _ _ e => e) ⟨by rw [List.length_append]; simp only [List.length_singleton]; omega, ?_⟩
            have RP := hPin _ F2.keep fun p hp => (N2 p (by simp [hp])).1
            have pick : ∀ (j : Nat) {v}, [p0, p1, p2, p3][j]? = some v → ∃ qs, RdAll h (ys3 ++ [v]) (encPs qs) := fun j v e => let ⟨d, hd, rd⟩ := RP.get e; snocP R3 (List.mem_of_getElem? hd) rd
            first
            | exact pick 0 rfl
            | exact pick 1 rfl
            | exact pick 2 rfl
            | exact pick 3 rfl
      · rintro D3 h' tk ys3 hD3 ⟨nn3, hDo3⟩ ⟨hlen3, qs, R3⟩ hk
        have hk' : ∀ b o, _ → h'.get? b = some o := fun b o e => hk b o (fun h => nomatch h) e
        have F3 := F'.keeps hk'
        have N3 := news_new F' N' hk' hD3 hDo3
        obtain ⟨tl3, N4, ht3, hPin3⟩ := adoptAll F3 N3 R3 (tup_encPs _)
        simp only [List.cons_append, List.nil_append] at N4
        clear F' N' N3 hk hk'
        walk_at "MY"
        (rename Fr _ _ _ _ => F'; rename News _ _ _ _ => N')
        refine ret (is, qs) _ _ _ F'.keep (Rd.tuple (N'.isTup (by k_mem)) (.cons (Rd.list (N'.isList (show (D2, _) ∈ _ by k_mem)) R2.anyI) (.cons (Rd.list (N'.isList (show (D3, _) ∈ _ by k_mem)) (hPin3 _ F'.keep fun p hp => (N' p (by simp [hp])).1)) .nil))) ?_ ?_
        · rw [← encIs_length, ← R2.length]; exact hlen2
        · rw [← encPs_length, ← R3.length]; exact hlen3


-- CompCell
section
variable {prog : Program} {w : World} {A : Around} {E : Value → Shared → Prop} {env : Env} {s : Shared}
theorem wpAny_newEnvC {scope : Scope} {globals : Addr} {cl : List (Str × Addr)} {x : Str} {qual : Str} {Q : Env → Shared → Prop} (hk : scope.kind = .function)
    (hcf : ∀ n l, cellsFrom n scope.names l = (x, n) :: l) (hpc : ∀ h : Heap, pushCells h scope.names = h.push { cls := .type "cell", data := .cell none })
    (hQ : Q { scope, locals := s.heap.objs.size, globals, cells := (x, s.heap.objs.size + 1) :: cl, qual, func := none, code := env.code, frame := env.frame, builtins := env.builtins }
      { s with heap := (s.heap.push { cls := .type "dict", data := .dict #[] }).push { cls := .type "cell", data := .cell none } }) :
    wpAny (model prog w) A (newFunctionEnv scope globals cl [] qual none .none (some env)) Q E s := by
  simp only [newFunctionEnv, Option.isSome_some, if_true]
  refine wpAny_bind (wpAny_alloc ?_)
  refine wpAny_bind (wpAny_layCells _ (fun name kind cells => by cases hkc : kind == NameKind.cell <;> simp [hkc]) _ _ _ _ ?_)
  rw [hcf, hpc, Heap.size_push]
  exact wpAny_pure hQ

inductive CompAtC (prog : Program) (w : World) (A : Around) (env : Env) (scope : Scope) (cl : List (Str × Addr)) (x : Str) (ifs : List Expr) (elt : Expr) (Q : Value → Shared → Prop) : Value → Shared → Prop
  | mk {I : Addr} {fp wr : List Addr} {n : Nat} {P : Nat → Value → Prop} {St : Nat → Heap → Prop} {M : List Addr} {J : Nat → List Value → Heap → Prop} {s₂ : Shared}
    (W : Walks prog w A I fp wr n P St)
    (hsz : n ≤ sizeLine)
    (hst : St 0 s₂.heap)
    (hfp : ∀ b ∈ fp, b < s₂.heap.objs.size)
    (hM : ∀ b ∈ M, b < s₂.heap.objs.size ∧ b ∉ fp)
    (hsh : ∀ i h, St i h → ∀ b ∈ wr, ∀ o, h.get? b = some o → ¬ TupO o)
    (hJ : ∀ i ys h h', J i ys h → (∀ b o, (TupO o ∨ (b < s₂.heap.objs.size ∧ b ∉ wr)) → h.get? b = some o → h'.get? b = some o) → J i ys h')
    (hj : J 0 [] s₂.heap)
    (hturn : ∀ C i v ys h tk m, i < n → P i v → s₂.heap.objs.size ≤ C → h.Ns C m → h.IsCell (C + 1) (some v) → (∀ b o, b ∉ M → b ∉ wr → s₂.heap.get? b = some o → h.get? b = some o) → J i ys h →
      wpAny (model prog w) A (forIn ifs true fun c r => if r = true then do let ok ← isTrue c (compEnvC scope ((x, C + 1) :: cl) C env) (eval c (compEnvC scope ((x, C + 1) :: cl) C env)); pure (ForInStep.yield ok) else pure (ForInStep.yield r))
        (fun ok s₃ => TurnEnd s₂ M h (fun h₃ s₃ => if ok = true then wpAny (model prog w) A (eval elt (compEnvC scope ((x, C + 1) :: cl) C env)) (fun y s₄ => TurnEnd s₂ M h₃ (fun h₄ _ => J (i + 1) (ys ++ [y]) h₄) s₄) (fun _ _ => False) s₃
          else J (i + 1) ys h₃) s₃) (fun _ _ => False) { s₂ with heap := h, toks := tk })
    (hdone : ∀ D h' tk ys, s₂.heap.get? D = none → h'.PlainList D (List.toArray ys) → J n ys h' → (∀ b o, b ∉ M → b ∉ wr → s₂.heap.get? b = some o → h'.get? b = some o) → Q (.ref D) { s₂ with heap := h', toks := tk }) : CompAtC prog w A env scope cl x ifs elt Q (.ref I) s₂

theorem comp_genC {elt iter : Expr} {x : Str} {px : Pos} {ifs : List Expr} {scope : Scope} {cl : List (Str × Addr)} {pos : Pos} {Q : Value → Shared → Prop}
    (hclos : closureFor scope env = pure cl) (hcf : ∀ n l, cellsFrom n scope.names l = (x, n) :: l) (hpc : ∀ h : Heap, pushCells h scope.names = h.push { cls := .type "cell", data := .cell none }) (hkind : scope.kind = .function)
    (hnames : ∀ y ∈ scope.names, y.2 = .local → scope.names.lookup y.1 = some .local) (hx : ∀ C l, (compEnvC scope l C env).kindOf x = some .cell)
    (hs : ∀ x, foldedSetIterable iter env x = pure x)
    (h : wpAny (model prog w) A (eval iter env) (fun xv s₁ => wpAny (model prog w) A (pyIter xv) (fun it s₂ => CompAtC prog w A env scope cl x ifs elt Q it s₂) E s₁) E s) :
    wpAny (model prog w) A (eval (.ListComp elt [⟨.Name x px, iter, ifs, 0⟩] scope pos) env) Q E s := by
  rw [eval_ListComp]
  refine wpAny_comprehension_free (use := none) rfl hs hclos hkind hnames (wpAny_mono h (fun xv s₁ h₁ => wpAny_mono h₁ (fun it s₂ h₂ => ?_) fun _ _ e => e) fun _ _ e => e)
  obtain @⟨I, fp, wr, n, P, St, M, J, s₂, W, hsz, hst, hfp, hM, hsh, hJ, hj, hturn, hdone⟩ := h₂
  refine wpAny_newObj_type ?_
  refine wpAny_newEnvC hkind hcf hpc ?_
  dsimp only
  generalize hH2 : s₂.heap.push { cls := .type "list", dict := none, data := .seq ([] : List Value).toArray } = H2
  generalize hH3 : H2.push { cls := .type "dict", data := .dict #[] } = H3
  generalize hH4 : H3.push { cls := .type "cell", data := .cell none } = h₁
  have hC : H2.objs.size = s₂.heap.objs.size + 1 := by rw [← hH2, Heap.size_push]
  have hC3 : H3.objs.size = H2.objs.size + 1 := by rw [← hH3, Heap.size_push]
  have up2 : ∀ b o, H2.get? b = some o → h₁.get? b = some o := fun b o e => hH4 ▸ Heap.get?_push_of_some _ (hH3 ▸ Heap.get?_push_of_some _ e)
  have hns₁ : h₁.Ns H2.objs.size (fun _ => none) := by
    refine ⟨_, #[], 0, hH4 ▸ Heap.get?_push_of_some _ (hH3 ▸ Heap.get?_push_size _ rfl), rfl, ?_, fun _ => rfl⟩
    intro e he; simp at he
  have hce₁ : h₁.IsCell (H2.objs.size + 1) none := ⟨_, hH4 ▸ hC3 ▸ Heap.get?_push_size _ rfl, rfl⟩
  have hDC : s₂.heap.objs.size ≠ H2.objs.size := by rw [hC]; exact Nat.ne_of_lt (Nat.lt_succ_self _)
  have hDC1 : s₂.heap.objs.size ≠ H2.objs.size + 1 := by rw [hC]; exact Nat.ne_of_lt (Nat.lt_succ_of_lt (Nat.lt_succ_self _))
  have hCle : s₂.heap.objs.size ≤ H2.objs.size := by rw [hC]; exact Nat.le_succ _
  have below : ∀ b, b < s₂.heap.objs.size → b ≠ H2.objs.size ∧ b ≠ s₂.heap.objs.size := fun b hb => ⟨by rw [hC]; exact Nat.ne_of_lt (Nat.lt_succ_of_lt hb), Nat.ne_of_lt hb⟩
  have below1 : ∀ b, b < s₂.heap.objs.size → b ≠ H2.objs.size + 1 := fun b hb => by rw [hC]; exact Nat.ne_of_lt (Nat.lt_succ_of_lt (Nat.lt_succ_of_lt hb))
  have hDf : s₂.heap.objs.size ∉ fp := fun hm => Nat.lt_irrefl _ (hfp _ hm)
  have hCf : H2.objs.size ∉ fp := fun hm => by have := hfp _ hm; rw [hC] at this; exact Nat.lt_irrefl _ (Nat.lt_of_succ_lt this)
  have hCf1 : H2.objs.size + 1 ∉ fp := fun hm => (below1 _ (hfp _ hm)) rfl
  have old : ∀ b o, s₂.heap.get? b = some o → h₁.get? b = some o := fun b o e => up2 b o (hH2 ▸ Heap.get?_push_of_some _ e)
  have hacc : h₁.PlainList s₂.heap.objs.size #[] := ⟨_, up2 _ _ (hH2 ▸ Heap.get?_push_size _ rfl)⟩
  have hst₁ : St 0 h₁ := W.frame _ _ _ hst fun b _ o e => old b o e
  have fresh : ∀ a, s₂.heap.objs.size ≤ a → s₂.heap.get? a = none := fun a ha => Heap.get?_none_of_le ha
  have loop : ∀ s₃ : Shared, s₃ = { s₂ with heap := h₁ } →
      codeAny (model prog w) A (.compLoop (.ListComp elt [⟨.Name x px, iter, ifs, 0⟩] scope pos) 0 (.ref I) (.ref s₂.heap.objs.size) (compEnvC scope ((x, H2.objs.size + 1) :: cl) H2.objs.size env))
        (compPost (model prog w) A E none Q (.ref s₂.heap.objs.size) H2.objs.size) s₃ := by
    rintro s₃ rfl
    refine codeAny_compLoop_tests _ (comp_turn (s := { s₂ with heap := h₁ }) (c := 0) (cenv := compEnvC scope ((x, H2.objs.size + 1) :: cl) H2.objs.size env) W [H2.objs.size, H2.objs.size + 1] M s₂.heap.objs.size (fun h u => (∃ m, h.Ns H2.objs.size m) ∧ h.IsCell (H2.objs.size + 1) u) J ?_ ?_ ?_ ?_ hDf ?_ hsh ?_ ?_ (Nat.le_refl _) hJ ?_ ?_ (by rw [Nat.zero_add]; exact hsz)) (n + 1)
      (.mk 0 h₁ _ _ [] (Nat.zero_le _) (Nat.zero_le _) hst₁ hacc ⟨⟨_, hns₁⟩, hce₁⟩ (hJ _ _ _ _ hj fun b o _ e => old b o e) fun _ _ _ _ _ _ e => e)
    · rintro h h' u ⟨⟨m, hm⟩, o, ho, hd⟩ hk
      exact ⟨⟨m, hm.at' fun o e => hk _ (.head _) o e⟩, o, hk _ (.tail _ (.head _)) _ ho, hd⟩
    · rintro v u s Q E ⟨⟨m, hm⟩, hcl⟩ hQ
      refine wpAny_assign_Name (wpAny_storeName_cell (by simp [compEnvC, relabel, hkind]) (hx _ _) (by simp [compEnvC]) hcl fun h₂ hn₂ hs₂ => hQ h₂ _ ⟨⟨m, hm.sameBut hs₂ (Nat.ne_of_lt (Nat.lt_succ_self _))⟩, hn₂⟩ fun b o hb e => hs₂.extBut b o (fun q => hb (by rw [q]; exact .tail _ (.head _))) e)
    · intro b hb
      rcases List.mem_cons.mp hb with rfl | hb
      · exact hCf
      · rw [List.mem_singleton.mp hb]; exact hCf1
    · intro hb
      rcases List.mem_cons.mp hb with e | hb
      · exact hDC e
      · exact hDC1 (List.mem_singleton.mp hb)
    · intro b hb
      have h1 := below b (hM b hb).1
      have h2 := below1 b (hM b hb).1
      refine ⟨(hM b hb).2, fun q => ?_, h1.2⟩
      rcases List.mem_cons.mp q with e | q
      · exact h1.1 e
      · exact h2 (List.mem_singleton.mp q)
    · rintro h u ⟨⟨m, hm⟩, hcl⟩ b hb o e
      rcases List.mem_cons.mp hb with rfl | hb
      · exact ns_not_tup hm o e
      · rw [List.mem_singleton.mp hb] at e; exact cell_not_tup hcl o e
    · intro b hb
      rcases List.mem_cons.mp hb with rfl | hb
      · exact hCle
      · rw [List.mem_singleton.mp hb]; exact Nat.le_succ_of_le hCle
    · rintro i v ys h tk hi hP ⟨⟨m, hm⟩, hcl⟩ hk hj'
      refine hturn _ i v ys h tk m hi hP hCle hm hcl (fun b o a1 a2 e => hk b o a1 a2 (fun q => ?_) (below b (Heap.lt_size e)).2 (old b o e)) hj'
      rcases List.mem_cons.mp q with e' | q
      · exact (below b (Heap.lt_size e)).1 e'
      · exact below1 b (Heap.lt_size e) (List.mem_singleton.mp q)
    · rintro h' tk u ys ⟨⟨m, hm⟩, hcl⟩ hpl hj' hk
      refine ⟨m, hm, fun h'' hs'' => ?_⟩
      have hkC : ∀ b o, b ≠ H2.objs.size → h'.get? b = some o → h''.get? b = some o := fun b o hb e => hs''.extBut b o hb e
      refine hdone _ h'' tk ys (fresh _ (Nat.le_refl _)) (hpl.at fun o e => hkC _ o hDC e) (hJ _ _ _ _ hj' fun b o hc e => hkC b o ?_ e) fun b o a1 a2 e => hkC b o (below b (Heap.lt_size e)).1 (hk b o a1 a2 (fun q => ?_) (below b (Heap.lt_size e)).2 (old b o e))
      · rintro rfl
        rcases hc with ht | ⟨hlt, _⟩
        · exact ns_not_tup hm o e ht
        · exact Nat.lt_irrefl _ (Nat.lt_of_lt_of_le hlt hCle)
      · rcases List.mem_cons.mp q with e' | q
        · exact (below b (Heap.lt_size e)).1 e'
        · exact below1 b (Heap.lt_size e) (List.mem_singleton.mp q)
  exact codeAny_compStart_list (loop _ rfl) (W.self 0 _ _ _ hst₁ (loop _ rfl))


noncomputable def CompOverC (prog : Program) (w : World) (A : Around) (env : Env) (scope : Scope) (cl : List (Str × Addr)) (x : Str) (ifs : List Expr) (elt : Expr) (Q : Value → Shared → Prop) (n : Nat) (P : Nat → Value → Prop) (M : List Addr) (J : Nat → List Value → Heap → Prop) (s : Shared) : Prop :=
    (∀ i ys h h', J i ys h → (∀ b o, (TupO o ∨ b < s.heap.objs.size) → h.get? b = some o → h'.get? b = some o) → J i ys h') ∧ J 0 [] s.heap ∧
    (∀ C i v ys h tk m, i < n → P i v → s.heap.objs.size ≤ C → h.Ns C m → h.IsCell (C + 1) (some v) → (∀ b o, b ∉ M → s.heap.get? b = some o → h.get? b = some o) → J i ys h →
      wpAny (model prog w) A (forIn ifs true fun c r => if r = true then do let ok ← isTrue c (compEnvC scope ((x, C + 1) :: cl) C env) (eval c (compEnvC scope ((x, C + 1) :: cl) C env)); pure (ForInStep.yield ok) else pure (ForInStep.yield r))
        (fun ok s₃ => TurnEnd s M h (fun h₃ s₃ =>
          if ok = true then wpAny (model prog w) A (eval elt (compEnvC scope ((x, C + 1) :: cl) C env)) (fun y s₄ => TurnEnd s M h₃ (fun h₄ _ => J (i + 1) (ys ++ [y]) h₄) s₄) (fun _ _ => False) s₃
          else J (i + 1) ys h₃) s₃) (fun _ _ => False) { s with heap := h, toks := tk }) ∧
    (∀ D h' tk ys, s.heap.get? D = none → h'.PlainList D (List.toArray ys) → J n ys h' → (∀ b o, b ∉ M → s.heap.get? b = some o → h'.get? b = some o) → Q (.ref D) { s with heap := h', toks := tk })

theorem comp_atC {scope : Scope} {cl : List (Str × Addr)} {x : Str} {ifs : List Expr} {elt : Expr} {Q : Value → Shared → Prop} {fp : List Addr} {n : Nat} {P : Nat → Value → Prop} {St : Nat → Heap → Prop} {M : List Addr} {J : Nat → List Value → Heap → Prop} {o : Obj}
    (W : Walks prog w A s.heap.objs.size fp [s.heap.objs.size] n P St) (hsz : n ≤ sizeLine) (hst : St 0 (s.heap.push o)) (hfp : ∀ b ∈ fp, b < s.heap.objs.size + 1) (hM : ∀ b ∈ M, b < s.heap.objs.size ∧ b ∉ fp)
    (hsh : ∀ i h, St i h → ∀ b ∈ [s.heap.objs.size], ∀ o, h.get? b = some o → ¬ TupO o) (h : CompOverC prog w A env scope cl x ifs elt Q n P M J s) :
    CompAtC prog w A env scope cl x ifs elt Q (.ref s.heap.objs.size) { s with heap := s.heap.push o } := by
  obtain ⟨hJ, hj, hturn, hdone⟩ := h
  have up : ∀ {h' : Heap}, (∀ b o', b ∉ M → b ∉ [s.heap.objs.size] → (s.heap.push o).get? b = some o' → h'.get? b = some o') → ∀ b o', b ∉ M → s.heap.get? b = some o' → h'.get? b = some o' :=
    fun hk b o' a e => hk b o' a (fun q => Nat.lt_irrefl _ ((List.mem_singleton.mp q) ▸ Heap.lt_size e)) (Heap.get?_push_of_some _ e)
  refine .mk W hsz hst (fun b hb => by rw [Heap.size_push]; exact hfp b hb) (fun b hb => ⟨by rw [Heap.size_push]; exact Nat.lt_succ_of_lt (hM b hb).1, (hM b hb).2⟩) hsh ?_
    (hJ _ _ _ _ hj fun b o' _ e => Heap.get?_push_of_some _ e) ?_ ?_
  · intro i ys h h' hj' hk
    refine hJ i ys h h' hj' fun b o' hc e => hk b o' ?_ e
    rcases hc with ht | hlt
    · exact .inl ht
    · exact .inr ⟨by rw [Heap.size_push]; exact Nat.lt_succ_of_lt hlt, fun q => Nat.lt_irrefl _ ((List.mem_singleton.mp q) ▸ hlt)⟩
  · intro C i v ys h tk m hi hP hC hn hm hk hj'
    exact hturn C i v ys h tk m hi hP (Nat.le_of_succ_le (by rw [Heap.size_push] at hC; exact hC)) hn hm (up hk) hj'
  · intro D h' tk ys hD hpl hj' hk
    refine hdone D h' tk ys ?_ hpl hj' (up hk)
    cases e : s.heap.get? D with
    | none => rfl
    | some o' => rw [Heap.get?_push_of_some _ e] at hD; cases hD

theorem comp_tupC {t : Addr} {vs : List Value} {scope : Scope} {cl : List (Str × Addr)} {x : Str} {ifs : List Expr} {elt : Expr} {Q : Value → Shared → Prop} (M : List Addr) (J : Nat → List Value → Heap → Prop)
    (hh : A.handled = none) (ht : IsTup s.heap t vs.toArray) (hsz : vs.length ≤ 1000) (hM : ∀ b ∈ M, b < s.heap.objs.size ∧ b ≠ t)
    (h : CompOverC prog w A env scope cl x ifs elt Q vs.length (fun i v => vs[i]? = some v) M J s) :
    wpAny (model prog w) A (pyIter (.ref t)) (fun it s₂ => CompAtC prog w A env scope cl x ifs elt Q it s₂) E s := by
  have ht' : s.heap.IsTuple t vs.toArray := ht
  obtain ⟨ot, hot, hcl, nn, hdt⟩ := id ht
  have hlt : t < s.heap.objs.size := Heap.lt_size hot
  refine wpAny_pyIter_tuple ht' ?_
  have W := Walks.tuple (prog := prog) (w := w) hh s.heap.objs.size t (Nat.ne_of_lt hlt) vs.toArray
  have e1 : vs.toArray.size = vs.length := by simp
  have e2 : (fun (i : Nat) v => vs.toArray[i]? = some v) = fun i v => vs[i]? = some v := by funext i v; simp
  rw [e1, e2] at W
  refine comp_atC W (by rw [sizeLine_eq]; omega) ⟨⟨_, Heap.get?_push_size _ rfl, rfl, rfl⟩, ht'.at fun o e => Heap.get?_push_of_some _ e⟩ ?_ ?_ ?_ h
  · intro b hb
    rcases List.mem_cons.mp hb with rfl | hb
    · exact Nat.lt_succ_self _
    · rw [List.mem_singleton.mp hb]; exact Nat.lt_succ_of_lt hlt
  · intro b hb
    refine ⟨(hM b hb).1, fun q => ?_⟩
    rcases List.mem_cons.mp q with rfl | q
    · exact Nat.lt_irrefl _ (hM _ hb).1
    · exact (hM b hb).2 (List.mem_singleton.mp q)
  · rintro i h ⟨⟨o, ho, hc, _⟩, _⟩ b hb o' e ⟨hc', _⟩
    rw [List.mem_singleton.mp hb, ho] at e; cases e
    rw [hc] at hc'; exact absurd hc' (by simp)

end


-- Envs

noncomputable def EnvKV (kvs : List (Str × Value)) (ρ : EnvV) : Prop := ∀ x, match ρ x with
  | some n => ∃ t, valueAt kvs x = some (.int n t)
  | none => valueAt kvs x = none
noncomputable def EnvAt (prog : Program) (w : World) (h : Heap) (a : Addr) (n : Nat) (ρ : EnvV) : Prop :=
  ∃ kvs, h.DictOf (PySem.strKind prog w) a kvs ∧ (a == sysModules) = false ∧ kvs.length ≤ n ∧ EnvKV kvs ρ
theorem EnvAt.keeps {prog : Program} {w : World} {h h' : Heap} {a : Addr} {n : Nat} {ρ : EnvV} (X : EnvAt prog w h a n ρ) (k : Sub h h') : EnvAt prog w h' a n ρ :=
  let ⟨kvs, hd, r⟩ := X; ⟨kvs, hd.keep k, r⟩
theorem EnvAt.le {prog : Program} {w : World} {h : Heap} {a : Addr} {n n' : Nat} {ρ : EnvV} (X : EnvAt prog w h a n ρ) (k : n ≤ n') : EnvAt prog w h a n' ρ :=
  by obtain ⟨kvs, hd, h2, h3, r⟩ := X; exact ⟨kvs, hd, h2, Nat.le_trans h3 k, r⟩
theorem valueAt_stored {kvs : List (Str × Value)} {k : Str} {v : Value} (x : Str) : valueAt (stored kvs k v) x = if x = k then some v else valueAt kvs x := by
  unfold stored
  split
  · rename_i h
    induction kvs with
    | nil => simp at h
    | cons kv kvs ih =>
      obtain ⟨a, b⟩ := kv
      by_cases e : a = k
      · subst e
        by_cases e2 : x = a
        · subst e2; simp [valueAt]
        · simp only [valueAt, List.map_cons, if_true, List.find?_cons, if_neg e2]
          have hd : decide (a = x) = false := by simp; exact fun q => e2 q.symm
          simp only [hd]
          clear ih h
          induction kvs with
          | nil => rfl
          | cons kv kvs ih =>
            obtain ⟨c, d⟩ := kv
            by_cases e3 : c = a
            · subst e3; simp only [List.map_cons, if_true, List.find?_cons, hd]; exact ih
            · simp only [List.map_cons, if_neg e3, List.find?_cons]
              by_cases e4 : c = x
              · simp [e4]
              · simp only [e4, decide_false]; exact ih
      · have h' : (kvs.any fun kv => kv.1 = k) = true := by simpa [e] using h
        have := ih h'
        simp only [valueAt, List.map_cons, if_neg e, List.find?_cons] at this ⊢
        by_cases e4 : a = x
        · subst e4; simp [e]
        · simp only [e4, decide_false]; exact this
  · rename_i h
    simp only [Bool.not_eq_true] at h
    induction kvs with
    | nil =>
      by_cases e : x = k
      · subst e; simp [valueAt]
      · have : ¬ k = x := fun q => e q.symm
        simp [valueAt, e, this]
    | cons kv kvs ih =>
      obtain ⟨a, b⟩ := kv
      simp only [List.any_cons, Bool.or_eq_false_iff, decide_eq_false_iff_not] at h
      have := ih h.2
      simp only [valueAt, List.cons_append, List.find?_cons] at this ⊢
      by_cases e4 : a = x
      · have : ¬ x = k := fun q => h.1 (e4.trans q)
        simp [e4, this]
      · simp only [e4, decide_false]; exact this
theorem EnvKV.stored {kvs : List (Str × Value)} {ρ : EnvV} (X : EnvKV kvs ρ) (k : Str) (n : Int) (t : Tok) : EnvKV (stored kvs k (.int n t)) (updV ρ k n) := by
  intro x
  simp only [valueAt_stored, updV]
  by_cases e : x = k
  · simp [e]
  · simp only [e, if_false]; exact X x
theorem EnvKV.nil : EnvKV [] (fun _ => none) := fun _ => rfl
section
variable {prog : Program} {w : World} {A : Around} {s : Shared} {E : Value → Shared → Prop}

theorem my_env_item {a : Addr} {n : Nat} {ρ : EnvV} {x : Str} {tx : Tok} {k : Int} {value slice : Expr} {Q : Value → Shared → Prop} (X : EnvAt prog w s.heap a n ρ) (hx : ρ x = some k) (h : ∀ t, Q (.int k t) { s with toks := s.toks + 1 })
    (hs : subscripted slice false (.ref a) (.str x tx) = operate [.ref a, .str x tx] (getItem (.ref a) (.str x tx)) := by with_unfolding_all rfl) :
    wpAny (model prog w) A (subscriptTail value slice (.ref a) (.str x tx)) Q E s := by
  obtain ⟨kvs, hd, _, _, hk⟩ := X
  have := hk x
  rw [hx] at this
  obtain ⟨t, ht⟩ := this
  exact tail_any hd.typeIs slot_dict_getitem.lookup (wpAny_getItem_of (strKind_is prog w x tx) hd.mapOf ht (h t)) hs

theorem my_env_copy {a : Addr} {n : Nat} {ρ : EnvV} {Q : Value → Shared → Prop} (X : EnvAt prog w s.heap a n ρ) (hn : n ≤ 1000)
    (h : ∀ h' kvs, h'.DictOf (PySem.strKind prog w) s.heap.objs.size kvs → kvs.length ≤ n → EnvKV kvs ρ → Sub s.heap h' → Q (.ref s.heap.objs.size) { s with heap := h' }) :
    wpAny (model prog w) A (call (.type "dict") [.ref a]) Q E s := by
  obtain ⟨kvs, hd, lo, hl, hk⟩ := X
  refine kt_call_dict lo hd (by rw [sizeLine_eq]; omega) fun h' hd' hs => ?_
  exact h h' kvs hd' hl hk fun b o e => hs.extBut b o (fun q => by subst q; exact Nat.lt_irrefl _ (Heap.lt_size e)) (Heap.get?_push_of_some _ e)
end


-- AtomsDef
theorem any_encIs (k : Int) : ∀ is : List Int, ((encIs is).any fun y => PyData.eqv y (.int k)) = is.contains k
  | [] => rfl
  | i :: is => by
    have e : PyData.eqv (.int i) (.int k) = (k == i) := (show PyData.eqv (.int i) (.int k) = (i == k) from by simp only [PyData.eqv]).trans BEq.comm
    simp only [encIs_1, encIs_2, List.any_cons, List.contains_cons, any_encIs k is, e]
theorem any_encPs (a b : Int) : ∀ ps : List (Int × Int), ((encPs ps).any fun y => PyData.eqv y (.tuple [.int a, .int b])) = ps.contains (a, b)
  | [] => rfl
  | (i, j) :: ps => by
    have e : PyData.eqv (encP (i, j)) (.tuple [.int a, .int b]) = ((a, b) == (i, j)) := by
      simp only [encP, PyData.eqv, PyData.eqvAll, Bool.and_true]
      rw [BEq.comm (a := i) (b := a), BEq.comm (a := j) (b := b)]; rfl
    simp only [encPs_1, encPs_2, List.any_cons, List.contains_cons, any_encPs a b ps, e]
theorem lay_encIs : ∀ is : List Int, PyData.canLayAll0 (encIs is) = true ∧ PyData.depthAll (encIs is) ≤ 1
  | [] => by simp [encIs_1, encIs_2, PyData.canLayAll0, PyData.depthAll]
  | i :: is => by have := lay_encIs is; simp only [encIs_1, encIs_2, PyData.canLayAll0, PyData.depthAll, PyData.canLay0, PyData.depth, this.1, Bool.and_true]; exact ⟨trivial, by omega⟩
theorem lay_encPs : ∀ is : List (Int × Int), PyData.canLayAll0 (encPs is) = true ∧ PyData.depthAll (encPs is) ≤ 3
  | [] => by simp [encPs_1, encPs_2, PyData.canLayAll0, PyData.depthAll]
  | i :: is => by have := lay_encPs is; simp only [encPs_1, encPs_2, encP, PyData.canLayAll0, PyData.depthAll, PyData.canLay0, PyData.depth, this.1, Bool.and_true]; exact ⟨trivial, by omega⟩
theorem shaped_encIs (is : List Int) : PySem.SeqAt.shaped (.list (encIs is)) = true := by
  have := lay_encIs is
  unfold PySem.SeqAt.shaped
  simp only [PyData.canLay0, this.1, Bool.true_and, PyData.depth]
  exact decide_eq_true (by omega)
theorem eqvAll_encIs : ∀ is js : List Int, PyData.eqvAll (encIs is) (encIs js) = (is == js)
  | [], [] => rfl
  | [], _ :: _ => rfl
  | _ :: _, [] => rfl
  | i :: is, j :: js => by simp only [encIs_1, encIs_2, PyData.eqvAll, PyData.eqv, eqvAll_encIs is js, List.cons_beq_cons]
section
variable {prog : Program} {w : World} {A : Around} {s : Shared} {E : Value → Shared → Prop}
theorem my_notin {c : Value} {k : Int} {t : Tok} {is : List Int} {Q : Value → Shared → Prop} (R : Rd s.heap c (.list (encIs is))) (hu : A.units + 64 < 9900) (h : Q (.bool (!is.contains k)) s) : wpAny (model prog w) A (compareOp .NotIn (.int k t) c) Q E s := by
  obtain ⟨as, r⟩ := R
  refine SeqAt.notIn_list_reads r (.int k t) (lay_encIs is).1 rfl ?_ (by rw [any_encIs]; exact h)
  have := Nat.min_le_left (PyData.depthAll (encIs is)) (PyData.int k).depth
  have := (lay_encIs is).2
  show A.units + 1 + min (PyData.depthAll (encIs is)) (PyData.int k).depth < 9900
  omega
theorem my_in_pairs {c x : Value} {a b : Int} {ps : List (Int × Int)} {Q : Value → Shared → Prop} (R : Rd s.heap c (.list (encPs ps))) (Rx : Rd s.heap x (.tuple [.int a, .int b])) (hu : A.units + 64 < 9900) (h : Q (.bool (ps.contains (a, b))) s) :
    wpAny (model prog w) A (compareOp .In x c) Q E s := by
  obtain ⟨as, r⟩ := R
  obtain ⟨bs, rx⟩ := Rx
  refine SeqAt.in_list_reads r rx (lay_encPs ps).1 (by rfl) ?_ (by rw [any_encPs]; exact h)
  have := Nat.min_le_left (PyData.depthAll (encPs ps)) (PyData.tuple [.int a, .int b]).depth
  have := (lay_encPs ps).2
  show A.units + 1 + min (PyData.depthAll (encPs ps)) (PyData.tuple [.int a, .int b]).depth < 9900
  omega
theorem my_ne_ints {a b : Value} {is js : List Int} {Q : Value → Shared → Prop} (ra : Rd s.heap a (.list (encIs is))) (rb : Rd s.heap b (.list (encIs js))) (hu : A.units + 64 < 9900) (h : Q (.bool (is != js)) s) : wpAny (model prog w) A (compareOp .NotEq a b) Q E s :=
  my_ne ra rb (shaped_encIs is) (shaped_encIs js) hu (is == js) (by simp only [PyData.eqv]; exact eqvAll_encIs is js) h
theorem my_eq_ints {a b : Value} {is js : List Int} {Q : Value → Shared → Prop} (ra : Rd s.heap a (.list (encIs is))) (rb : Rd s.heap b (.list (encIs js))) (hu : A.units + 64 < 9900) (h : Q (.bool (is == js)) s) : wpAny (model prog w) A (compareOp .Eq a b) Q E s :=
  my_eq ra rb (shaped_encIs is) (shaped_encIs js) hu (is == js) (by simp only [PyData.eqv]; exact eqvAll_encIs is js) h
end

noncomputable def NewRef (h : Heap) (wv r : Value) : Prop := ∀ z o, h.get? z = some o → (∀ wa u v, wv = .ref wa → IsTup h wa #[u, v] → u ≠ .ref z) → r ≠ .ref z
theorem NewRef.of {h : Heap} {wv : Value} {a : Addr} (e : h.get? a = none) : NewRef h wv (.ref a) := by
  intro z o ho _ q
  cases q
  rw [e] at ho; cases ho
noncomputable def AtomsSpec (prog : Program) (w : World) (g : Heap) (e : SE) (k : Nat) : Prop :=
  ∀ (dp un : Nat) (fr : Option (List Env)) (gd : Option (List Code)) (s : Shared) (v wv : Value) (ea : Addr) (W : WorldV) (ρ : EnvV) (n : Nat) (Γ : List Str) (Q E : Value → Shared → Prop), Sub g s.heap → Rd s.heap v (encS e) → Rd s.heap wv (encW W) → EnvAt prog w s.heap ea n ρ →
    wfS Γ e → (∀ x ∈ Γ, ∃ k, ρ x = some k) → W.1.length ≤ 4 → W.2.length ≤ 4 → dp + 5 < 700 + k → un + 50 < 5000 + 10 * k →
    (∀ r h' tk, Sub s.heap h' → Rd h' r (.list (encIs (baseV W ρ e))) → NewRef s.heap wv r → Q r { s with heap := h', toks := tk }) →
    wpAny (model prog w) ⟨none, dp, fr, gd, un⟩ (call (.ref 62) [v, wv, .ref ea]) Q E s
theorem take_step (l : List Int) {i : Nat} (hi : i < l.length) : l.take (i + 1) = l.take i ++ [l.getD i 0] := by
  rw [List.take_add_one, List.getD_eq_getElem?_getD, List.getElem?_eq_getElem hi]; rfl
theorem filt_yes (p : Int → Bool) (l : List Int) {i : Nat} (hi : i < l.length) (h : p (l.getD i 0) = true) : (l.take (i + 1)).filter p = (l.take i).filter p ++ [l.getD i 0] := by
  rw [take_step l hi, List.filter_append, List.filter_cons_of_pos h]; rfl
theorem filt_no (p : Int → Bool) (l : List Int) {i : Nat} (hi : i < l.length) (h : p (l.getD i 0) = false) : (l.take (i + 1)).filter p = (l.take i).filter p := by
  rw [take_step l hi, List.filter_append, List.filter_cons_of_neg (by rw [h]; decide)]; simp
theorem RdAll.snocInt {h : Heap} {ys : List Value} {is : List Int} (R : RdAll h ys (encIs is)) (k : Int) (t : Tok) : RdAll h (ys ++ [.int k t]) (encIs (is ++ [k])) := by
  rw [encIs_append]; exact R.snoc (Rd.int _ _ _)
theorem RdAll.ints {h : Heap} : ∀ {vs : List Value} {is : List Int}, RdAll h vs (encIs is) → IntsAre vs is
  | [], [], _ => .nil
  | _ :: _, [], R => by cases R
  | [], _ :: _, R => by cases R
  | v :: vs, i :: is, R => by
    obtain ⟨v', us, e, r, R'⟩ := RdAll.cons_inv (d := .int i) (ds := encIs is) R
    cases e
    obtain ⟨t, rfl⟩ := r.int_inv
    exact .cons _ _ R'.ints

theorem news_cell {base h h₂ : Heap} {L C : Addr} {m : Str → Option Value} {news : List (Addr × Obj)} {v : Option Value} (F : Fr base L h₂ m) (N : News base L h news) (hC : h₂.objs.size ≤ C) (hc : h.IsCell (C + 1) v) :
    ∃ o, o.data = .cell v ∧ News base L h ((C + 1, o) :: news) := by
  obtain ⟨o, ho, hd⟩ := hc
  have hL : L < h₂.objs.size := F.ns.lt
  refine ⟨o, hd, news_cons ho ?_ ?_ N⟩
  · intro e; have e' : C + 1 = L := e; rw [← e'] at hL; exact absurd hL (Nat.not_lt_of_le (Nat.le_succ_of_le hC))
  · cases e : base.get? (C + 1) with
    | none => rfl
    | some o' => exact absurd (Heap.lt_size (F.keep _ _ e)) (Nat.not_lt_of_le (Nat.le_succ_of_le hC))
theorem adoptLst {base h : Heap} {L il : Addr} {m : Str → Option Value} {vs : List Value} (F : Fr base L h m) (X : h.IsList il vs.toArray) :
    ∃ tl, News base L h tl ∧ (∀ p ∈ tl, NotDict p.2 ∧ p.1 = il ∧ ∀ v, p.2.data ≠ .cell v) ∧ ∀ h', Sub base h' → (∀ p ∈ tl, h'.get? p.1 = some p.2) → h'.IsList il vs.toArray := by
  obtain ⟨o, ho, hc, n, hd⟩ := X
  cases e : base.get? il with
  | none =>
    refine ⟨[(il, o)], fun p hp => ?_, fun p hp => ?_, fun h' hb hh => ⟨o, hh _ (.head _), hc, n, hd⟩⟩
    · rw [List.mem_singleton.mp hp]
      refine ⟨ho, fun q => ?_, e⟩
      have q' : il = L := q
      exact ns_not_seq F.ns o (q' ▸ ho) ⟨_, _, hd⟩
    · rw [List.mem_singleton.mp hp]
      exact ⟨fun es k q => (by rw [hd] at q; cases q), rfl, fun v q => (by rw [hd] at q; cases q)⟩
  | some o' =>
    have := F.keep _ _ e
    rw [ho] at this; cases this
    exact ⟨[], (fun _ h => nomatch h), (fun _ h => nomatch h), fun h' hb _ => ⟨o, hb _ _ e, hc, n, hd⟩⟩
theorem ints_rd {h : Heap} {vs : List Value} {is : List Int} (X : IntsAre vs is) : RdAll h vs (encIs is) := by
  induction X with
  | nil => exact .nil
  | cons n t _ ih => exact .cons (Rd.int _ _ _) ih
theorem AtomsSpec.down {prog : Program} {w : World} {g : Heap} {e : SE} (X : AtomsSpec prog w g e 1) : AtomsSpec prog w g e 0 := by
  intro dp un fr gd s v wv ea W ρ n Γ Q E hg R RW XE hwf hρ hW1 hW2 hdp hun ret
  exact X dp un fr gd s v wv ea W ρ n Γ Q E hg R RW XE hwf hρ hW1 hW2 (by omega) (by omega) ret
theorem filter_len (p : Int → Bool) (l : List Int) : (l.filter p).length ≤ l.length := List.length_filter_le p l
theorem base_len (W : WorldV) (ρ : EnvV) (e : SE) (h : W.1.length ≤ 4) : (baseV W ρ e).length ≤ 4 := by
  cases e with
  | rel => exact h
  | univ => simp [baseV_1, baseV_2, baseV_3, baseV_4, baseV_5, baseV_6]
  | comp => simp only [baseV_1, baseV_2, baseV_3, baseV_4, baseV_5, baseV_6]; exact Nat.le_trans (filter_len _ _) (by decide)
  | var x => simp [baseV_1, baseV_2, baseV_3, baseV_4, baseV_5, baseV_6]
  | joinR => simp only [baseV_1, baseV_2, baseV_3, baseV_4, baseV_5, baseV_6, joinV]; exact Nat.le_trans (filter_len _ _) (by decide)
  | joinV x => simp only [baseV_1, baseV_2, baseV_3, baseV_4, baseV_5, baseV_6, joinV]; exact Nat.le_trans (filter_len _ _) (by decide)
theorem none_of_keep {base h : Heap} {a : Addr} (k : Sub base h) (e : h.get? a = none) : base.get? a = none := by
  cases q : base.get? a with
  | none => rfl
  | some o => rw [k _ _ q] at e; cases e


-- Atoms
section
local macro_rules | `(tactic| walk_at "MYT") => `(tactic| repeat' ((fail_if_success (with_reducible show wpAny _ _ (newTuple _) _ _ _)); (fail_if_success (with_reducible show wpAny _ _ (newList _) _ _ _)); first | (k_unfold; (try dsimp only)) | (dsimp only; walk1) | walk1))
local macro_rules | `(tactic| walk_at "subscriptTail") => `(tactic| ((with_reducible show wpAny _ _ (subscriptTail _ _ (Value.ref _) (Value.str _ _)) _ _ _); refine Stop.mk ?_))
local macro_rules | `(tactic| walk_at "compareOp NotIn int ref") => `(tactic| ((with_reducible show wpAny _ _ (compareOp CmpOp.NotIn (Value.int _ _) (Value.ref _)) _ _ _); refine Stop.mk ?_))
local macro_rules | `(tactic| walk_at "compareOp In ref ref") => `(tactic| ((with_reducible show wpAny _ _ (compareOp CmpOp.In (Value.ref _) (Value.ref _)) _ _ _); refine Stop.mk ?_))

theorem atoms_rel {prog : Program} {w : World} {mean : ExcName → Option Value} {mg mb : Str → Option Value} {g : Heap} (X₀ : (hd.heap_39 w.params).In g) (T₀ : Top hd.view_39 (looseW hd.view_39 []) mean mg mb g) : AtomsSpec prog w g .rel 1 := by
  intro dp un fr gd s v wv ea W ρ n Γ Q E hg R RW XE hwf hρ hW1 hW2 hdp hun ret
  have X : (hd.heap_39 w.params).In s.heap := X₀.keeps hg
  have T : Top hd.view_39 (looseW hd.view_39 []) mean mg mb s.heap := T₀.keeps hg
  obtain ⟨a, vs, rfl, hT, hA⟩ := R.tuple_inv
  obtain ⟨v1, us, rfl, r1, hA⟩ := hA.cons_inv
  obtain ⟨v2, us, rfl, r2, hA⟩ := hA.cons_inv
  obtain rfl := hA.nil_inv
  obtain ⟨t1, rfl⟩ := r1.str_inv
  clear R r1 hA
  obtain ⟨wa, ws, rfl, hTW, hA⟩ := RW.tuple_inv
  obtain ⟨w1, us, rfl, rw1, hA⟩ := hA.cons_inv
  obtain ⟨w2, us, rfl, rw2, hA⟩ := hA.cons_inv
  obtain rfl := hA.nil_inv
  clear hA
  refine enterC (news := []) X T (fun _ _ e => e) (Nat.le_refl _) (fun _ h => nomatch h) (by k_is) (by k_is) (by show dp < 1000; walk_at "ROOM") (BindsTo.of_eq rfl) rfl (by decide) rfl rfl rfl ?_
  intro L h₁ tk cells _ F N Y hlt
  clear hlt
  k_cells Y
  (try simp only [List.cons_append, List.nil_append] at N)
  try dsimp only
  try k_fold
  walk_at "MY"
  (rename Fr _ _ _ _ => F')
  exact ret _ _ _ F'.keep (rw1.keeps F'.keep) (fun z o _ hz => hz wa w1 w2 rfl hTW)

theorem atoms_var {prog : Program} {w : World} {mean : ExcName → Option Value} {mg mb : Str → Option Value} {g : Heap} (X₀ : (hd.heap_39 w.params).In g) (T₀ : Top hd.view_39 (looseW hd.view_39 []) mean mg mb g) (x : Str) : AtomsSpec prog w g (.var x) 1 := by
  intro dp un fr gd s v wv ea W ρ n Γ Q E hg R RW XE hwf hρ hW1 hW2 hdp hun ret
  have X : (hd.heap_39 w.params).In s.heap := X₀.keeps hg
  have T : Top hd.view_39 (looseW hd.view_39 []) mean mg mb s.heap := T₀.keeps hg
  obtain ⟨a, vs, rfl, hT, hA⟩ := R.tuple_inv
  obtain ⟨v1, us, rfl, r1, hA⟩ := hA.cons_inv
  obtain ⟨v2, us, rfl, r2, hA⟩ := hA.cons_inv
  obtain rfl := hA.nil_inv
  obtain ⟨t1, rfl⟩ := r1.str_inv
  obtain ⟨t2, rfl⟩ := r2.str_inv
  clear R r1 r2 hA
  obtain ⟨wa, ws, rfl, hTW, hA⟩ := RW.tuple_inv
  obtain ⟨w1, us, rfl, rw1, hA⟩ := hA.cons_inv
  obtain ⟨w2, us, rfl, rw2, hA⟩ := hA.cons_inv
  obtain rfl := hA.nil_inv
  clear hA
  refine enterC (news := []) X T (fun _ _ e => e) (Nat.le_refl _) (fun _ h => nomatch h) (by k_is) (by k_is) (by show dp < 1000; walk_at "ROOM") (BindsTo.of_eq rfl) rfl (by decide) rfl rfl rfl ?_
  intro L h₁ tk cells _ F N Y hlt
  clear hlt
  k_cells Y
  (try simp only [List.cons_append, List.nil_append] at N)
  try dsimp only
  try k_fold
  walk_at "MY"
  (rename Fr _ _ _ _ => F')
  obtain ⟨k, hk⟩ := hρ x hwf
  refine Stop.of (my_env_item (XE.keeps F'.keep) hk fun t => ?_)
  walk_at "MY"
  (rename Fr _ _ _ _ => F'; rename News _ _ _ _ => N')
  refine ret _ _ _ F'.keep (Rd.list (N'.isList (by k_mem)) ?_) (NewRef.of (N'.fresh (List.Mem.head _)))
  simp only [baseV_1, baseV_2, baseV_3, baseV_4, baseV_5, baseV_6, hk, Option.getD_some]
  exact .cons (Rd.int _ _ _) .nil

theorem atoms_univ {prog : Program} {w : World} {mean : ExcName → Option Value} {mg mb : Str → Option Value} {g : Heap} (X₀ : (hd.heap_39 w.params).In g) (T₀ : Top hd.view_39 (looseW hd.view_39 []) mean mg mb g) : AtomsSpec prog w g .univ 1 := by
  intro dp un fr gd s v wv ea W ρ n Γ Q E hg R RW XE hwf hρ hW1 hW2 hdp hun ret
  have X : (hd.heap_39 w.params).In s.heap := X₀.keeps hg
  have T : Top hd.view_39 (looseW hd.view_39 []) mean mg mb s.heap := T₀.keeps hg
  obtain ⟨a, vs, rfl, hT, hA⟩ := R.tuple_inv
  obtain ⟨v1, us, rfl, r1, hA⟩ := hA.cons_inv
  obtain rfl := hA.nil_inv
  obtain ⟨t1, rfl⟩ := r1.str_inv
  clear R r1 hA
  obtain ⟨wa, ws, rfl, hTW, hA⟩ := RW.tuple_inv
  obtain ⟨w1, us, rfl, rw1, hA⟩ := hA.cons_inv
  obtain ⟨w2, us, rfl, rw2, hA⟩ := hA.cons_inv
  obtain rfl := hA.nil_inv
  clear hA
  refine enterC (news := []) X T (fun _ _ e => e) (Nat.le_refl _) (fun _ h => nomatch h) (by k_is) (by k_is) (by show dp < 1000; walk_at "ROOM") (BindsTo.of_eq rfl) rfl (by decide) rfl rfl rfl ?_
  intro L h₁ tk cells _ F N Y hlt
  clear hlt
  k_cells Y
  (try simp only [List.cons_append, List.nil_append] at N)
  try dsimp only
  try k_fold
  walk_at "MY"
  refine Stop.of (comp_gen (by with_unfolding_all rfl) (by decide) (by with_unfolding_all rfl) (by decide) (by with_unfolding_all rfl) (by intro _; with_unfolding_all rfl) ?_)
  walk_at "MY"
  (rename Fr _ _ _ _ => F'; rename News _ _ _ _ => N')
  refine Stop.of (comp_tup (vs := [_, _]) [] (fun i ys h => RdAll h ys (encIs (([0, 1] : List Int).take i))) rfl (N'.isTup (by k_mem)) (by simp) (fun _ h => nomatch h) ⟨?_, ?_, ?_, ?_⟩)
  · intro i ys h h' hj hk
    exact hj.stable (fun b o ho e => hk b o (.inl ho) e) tup_of_memI
  · exact .nil
  · rintro C i v ys h tk m hi hP hC hn hm hk hj
    obtain ⟨hil, t', rfl⟩ := ints_get (.cons _ _ (.cons _ _ .nil)) hP
    refine wpAny_gen fun P0 hP0 => ?_
    refine wpAny_tests_one ?_
    have F2 := F'.keeps fun b o e => hk b o (fun h => nomatch h) e
    have N2 := N'.grown fun b o e => hk b o (fun h => nomatch h) e
    walk_at "MY"
    refine hP0 _ _ <| TurnEnd.intro (fun _ _ _ e => e) ?_
    simp only [if_true]
    walk_at "MY"
    refine TurnEnd.intro (fun _ _ _ e => e) ?_
    rw [take_step _ hil]
    exact hj.snocInt _ _
  · rintro D h' tk ys hD ⟨nn, hDo⟩ hj hk
    have hk' : ∀ b o, _ → h'.get? b = some o := fun b o e => hk b o (fun h => nomatch h) e
    have F3 := F'.keeps hk'
    have hDn := none_of_keep F'.keep hD
    clear F' N'
    walk_at "MY"
    (rename Fr _ _ _ _ => F')
    exact ret _ _ _ F'.keep (Rd.list ⟨_, hDo, rfl, _, rfl⟩ hj) (NewRef.of hDn)

theorem atoms_comp {prog : Program} {w : World} {mean : ExcName → Option Value} {mg mb : Str → Option Value} {g : Heap} (X₀ : (hd.heap_39 w.params).In g) (T₀ : Top hd.view_39 (looseW hd.view_39 []) mean mg mb g) : AtomsSpec prog w g .comp 1 := by
  intro dp un fr gd s v wv ea W ρ n Γ Q E hg R RW XE hwf hρ hW1 hW2 hdp hun ret
  have X : (hd.heap_39 w.params).In s.heap := X₀.keeps hg
  have T : Top hd.view_39 (looseW hd.view_39 []) mean mg mb s.heap := T₀.keeps hg
  obtain ⟨a, vs, rfl, hT, hA⟩ := R.tuple_inv
  obtain ⟨v1, us, rfl, r1, hA⟩ := hA.cons_inv
  obtain ⟨v2, us, rfl, r2, hA⟩ := hA.cons_inv
  obtain ⟨v3, us, rfl, r3, hA⟩ := hA.cons_inv
  obtain rfl := hA.nil_inv
  obtain ⟨t1, rfl⟩ := r1.str_inv
  clear R r1 r2 r3 hA
  obtain ⟨wa, ws, rfl, hTW, hA⟩ := RW.tuple_inv
  obtain ⟨w1, us, rfl, rw1, hA⟩ := hA.cons_inv
  obtain ⟨w2, us, rfl, rw2, hA⟩ := hA.cons_inv
  obtain rfl := hA.nil_inv
  clear hA
  refine enterC (news := []) X T (fun _ _ e => e) (Nat.le_refl _) (fun _ h => nomatch h) (by k_is) (by k_is) (by show dp < 1000; walk_at "ROOM") (BindsTo.of_eq rfl) rfl (by decide) rfl rfl rfl ?_
  intro L h₁ tk cells _ F N Y hlt
  clear hlt
  k_cells Y
  (try simp only [List.cons_append, List.nil_append] at N)
  try dsimp only
  try k_fold
  walk_at "MY"
  refine Stop.of (comp_gen (by with_unfolding_all rfl) (by decide) (by with_unfolding_all rfl) (by decide) (by with_unfolding_all rfl) (by intro _; with_unfolding_all rfl) ?_)
  walk_at "MY"
  (rename Fr _ _ _ _ => F'; rename News _ _ _ _ => N')
  refine Stop.of (comp_tup (vs := [_, _]) [] (fun i ys h => RdAll h ys (encIs ((([0, 1] : List Int).take i).filter fun a => !W.1.contains a))) rfl (N'.isTup (by k_mem)) (by simp) (fun _ h => nomatch h) ⟨?_, ?_, ?_, ?_⟩)
  · intro i ys h h' hj hk
    exact hj.stable (fun b o ho e => hk b o (.inl ho) e) tup_of_memI
  · exact .nil
  · rintro C i v ys h tk m hi hP hC hn hm hk hj
    obtain ⟨hil, t', rfl⟩ := ints_get (.cons _ _ (.cons _ _ .nil)) hP
    refine wpAny_gen fun P0 hP0 => ?_
    refine wpAny_tests_one ?_
    have F2 := F'.keeps fun b o e => hk b o (fun h => nomatch h) e
    have N2 := N'.grown fun b o e => hk b o (fun h => nomatch h) e
    walk_at "MY"
    refine Stop.of (my_notin (rw1.keeps F2.keep) (by show un + 3 + 64 < 9900; walk_at "ROOM") ?_)
    cases hc : W.1.contains (([0, 1] : List Int).getD i 0)
    · walk_at "MY"
      refine hP0 _ _ <| TurnEnd.intro (fun _ _ _ e => e) ?_
      simp only [Bool.not_false, if_true]
      walk_at "MY"
      refine TurnEnd.intro (fun _ _ _ e => e) ?_
      rw [filt_yes _ _ hil (by rw [hc]; rfl)]
      exact hj.snocInt _ _
    · walk_at "MY"
      refine hP0 _ _ <| TurnEnd.intro (fun _ _ _ e => e) ?_
      simp only [Bool.not_true, Bool.false_eq_true, if_false]
      rw [filt_no _ _ hil (by rw [hc]; rfl)]
      exact hj
  · rintro D h' tk ys hD ⟨nn, hDo⟩ hj hk
    have hk' : ∀ b o, _ → h'.get? b = some o := fun b o e => hk b o (fun h => nomatch h) e
    have F3 := F'.keeps hk'
    have hDn := none_of_keep F'.keep hD
    clear F' N'
    walk_at "MY"
    (rename Fr _ _ _ _ => F')
    exact ret _ _ _ F'.keep (Rd.list ⟨_, hDo, rfl, _, rfl⟩ hj) (NewRef.of hDn)

theorem atoms_join {prog : Program} {w : World} {mean : ExcName → Option Value} {mg mb : Str → Option Value} {g : Heap} (X₀ : (hd.heap_39 w.params).In g) (T₀ : Top hd.view_39 (looseW hd.view_39 []) mean mg mb g)
    (e e' : SE) (henc : encS e = .tuple [S "join", encS e', .tuple [S "rel", .int 1]]) (hbase : ∀ W ρ, baseV W ρ e = joinV (baseV W ρ e') W.2) (hsub : ∀ Γ, wfS Γ e → wfS Γ e') (hlen : ∀ W ρ, W.1.length ≤ 4 → (baseV W ρ e').length ≤ 4)
    (IH : AtomsSpec prog w g e' 1) : AtomsSpec prog w g e 0 := by
  intro dp un fr gd s v wv ea W ρ n Γ Q E hg R RW XE hwf hρ hW1 hW2 hdp hun ret
  rw [henc] at R
  rw [hbase] at ret
  have X : (hd.heap_39 w.params).In s.heap := X₀.keeps hg
  have T : Top hd.view_39 (looseW hd.view_39 []) mean mg mb s.heap := T₀.keeps hg
  obtain ⟨a, vs, rfl, hT, hA⟩ := R.tuple_inv
  obtain ⟨v1, us, rfl, r1, hA⟩ := hA.cons_inv
  obtain ⟨v2, us, rfl, r2, hA⟩ := hA.cons_inv
  obtain ⟨v3, us, rfl, r3, hA⟩ := hA.cons_inv
  obtain rfl := hA.nil_inv
  obtain ⟨t1, rfl⟩ := r1.str_inv
  clear R r1 r3 hA
  obtain ⟨wa, ws, rfl, hTW, hA⟩ := RW.tuple_inv
  obtain ⟨w1, us, rfl, rw1, hA⟩ := hA.cons_inv
  obtain ⟨w2, us, rfl, rw2, hA⟩ := hA.cons_inv
  obtain rfl := hA.nil_inv
  clear hA
  refine enterC (news := []) X T (fun _ _ e => e) (Nat.le_refl _) (fun _ h => nomatch h) (by k_is) (by k_is) (by show dp < 1000; walk_at "ROOM") (BindsTo.of_eq rfl) rfl (by decide) rfl rfl rfl ?_
  intro L h₁ tk cells _ F N Y hlt
  clear hlt
  k_cells Y
  rename_i o1 o2 o3 d1 d2 d3
  (try simp only [List.cons_append, List.nil_append] at N)
  try dsimp only
  try k_fold
  walk_at "MY"
  (rename Fr _ _ _ _ => F'; rename News _ _ _ _ => N')
  refine Stop.of (IH _ _ _ _ _ _ _ _ _ _ _ _ _ _ (hg.trans F'.keep) (r2.keeps F'.keep) (RW.keeps F'.keep) (XE.keeps F'.keep) (hsub _ hwf) hρ hW1 hW2 (by show dp + 1 + 5 < 700 + 1; walk_at "ROOM") (by show un + 3 + 50 < 5000 + 10 * 1; walk_at "ROOM") fun r h' tk' hk hr _ => ?_)
  have F3 := F'.keeps hk
  have N3 := N'.grown hk
  clear F' N'
  obtain ⟨la, lvs, rfl, hLl, hLA⟩ := hr.list_inv
  have hlv : lvs.length = (baseV W ρ e').length := by rw [hLA.length, encIs_length]
  obtain ⟨tl, NT, hT', hLst⟩ := adoptLst F3 hLl
  have N4 := N3.append NT
  simp only [List.cons_append, List.nil_append] at N4
  clear N3 NT hLl hr
  refine my_storeCell (c := L + 1 + 1 + 1) (rest := (L + 1 + 1, _) :: (L + 1, _) :: tl) F3 N4 (by k_mem) rfl d1 (by
    intro p hp
    rcases List.mem_cons.mp hp with rfl | hp
    · exact ⟨by k_mem, .inl (Nat.ne_of_lt (Nat.lt_succ_self _))⟩
    rcases List.mem_cons.mp hp with rfl | hp
    · exact ⟨by k_mem, .inl (Nat.ne_of_lt (Nat.lt_succ_of_lt (Nat.lt_succ_self _)))⟩
    · exact ⟨by simp [hp], .inr (hT' p hp).2.2⟩) rfl rfl fun h9 o1' F5 N5 d1' => ?_
  clear N4 F3 d1
  walk_at "MY"
  refine Stop.of (comp_genC (by with_unfolding_all rfl) (by intro _ _; with_unfolding_all rfl) (by intro _; with_unfolding_all rfl) (by with_unfolding_all rfl) (by decide) (by intro _ _; with_unfolding_all rfl) (by intro _; with_unfolding_all rfl) ?_)
  walk_at "MY"
  (rename Fr _ _ _ _ => F'; rename News _ _ _ _ => N')
  refine comp_tupC (vs := [_, _]) [] (fun i ys h => RdAll h ys (encIs ((([0, 1] : List Int).take i).filter fun b => ((baseV W ρ e').filter fun a => W.2.contains (a, b)) != []))) rfl (N'.isTup (by k_mem)) (by simp) (fun _ h => nomatch h) ⟨?_, ?_, ?_, ?_⟩
  · intro i ys h h' hj hk
    exact hj.stable (fun b o ho e => hk b o (.inl ho) e) tup_of_memI
  · exact .nil
  · rintro C i0 v ys h tk m hi hP hC hn hcell hkk hj
    obtain ⟨hil, t', rfl⟩ := ints_get (.cons _ _ (.cons _ _ .nil)) hP
    refine wpAny_gen fun P0 hP0 => ?_
    refine wpAny_tests_one ?_
    have F2 := F'.keeps fun b o e => hkk b o (fun h => nomatch h) e
    have N2 := N'.grown fun b o e => hkk b o (fun h => nomatch h) e
    obtain ⟨oC, dC, N3⟩ := news_cell F' N2 hC hcell
    clear N2
    clear N' F'
    walk_at "MY"
    (rename Fr _ _ _ _ => F'; rename News _ _ _ _ => N')
    refine Stop.of (comp_gen (by with_unfolding_all rfl) (by decide) (by with_unfolding_all rfl) (by decide) (by with_unfolding_all rfl) (by intro _; with_unfolding_all rfl) ?_)
    walk_at "MY"
    have hLl' : h.IsList la lvs.toArray := hLst _ F'.keep fun p hp => (N' p (by simp [hp])).1
    refine Stop.of (comp_list (vs := lvs) [] (fun i ys h => RdAll h ys (encIs (((baseV W ρ e').take i).filter fun a => W.2.contains (a, ([0, 1] : List Int).getD i0 0)))) rfl hLl' (by have := hlen W ρ hW1; omega) (fun _ h => nomatch h) ⟨?_, ?_, ?_, ?_⟩)
    · intro i ys h h' hj hk
      exact hj.stable (fun b o ho e => hk b o (.inl ho) e) tup_of_memI
    · exact .nil
    · rintro C2 i v ys2 h2 tk2 m2 hi hP2 hC2 hn2 hm2 hk2 hj2
      obtain ⟨hil2, t2, rfl⟩ := ints_get hLA.ints hP2
      refine wpAny_gen fun P0 hP0 => ?_
      refine wpAny_tests_one ?_
      have F2 := F'.keeps fun b o e => hk2 b o (fun h => nomatch h) e
      have N2 := N'.grown fun b o e => hk2 b o (fun h => nomatch h) e
      clear F' N'
      walk_at "MYT"
      refine wpAny_newTuple ?_ (by rw [sizeLine_eq]; exact Nat.le_of_ble_eq_true rfl)
      have hk3 : Sub h2 (h2.push { cls := .type "tuple", data := .seq (List.toArray [Value.int ((baseV W ρ e').getD i 0) t2, Value.int (([0, 1] : List Int).getD i0 0) t']) }) := fun b o e => Heap.get?_push_of_some _ e
      have F3 := F2.push { cls := .type "tuple", data := .seq (List.toArray [Value.int ((baseV W ρ e').getD i 0) t2, Value.int (([0, 1] : List Int).getD i0 0) t']) }
      have N3 := News.push F2 N2 { cls := .type "tuple", data := .seq (List.toArray [Value.int ((baseV W ρ e').getD i 0) t2, Value.int (([0, 1] : List Int).getD i0 0) t']) }
      generalize hpp : h2.push { cls := .type "tuple", data := .seq (List.toArray [Value.int ((baseV W ρ e').getD i 0) t2, Value.int (([0, 1] : List Int).getD i0 0) t']) } = h3 at hk3 F3 N3 ⊢
      have hn3 := hn2.at' fun o e => hk3 _ o e
      clear F2 N2 hn2
      walk_at "MY"
      (rename Fr _ _ _ _ => F'; rename News _ _ _ _ => N')
      refine Stop.of (my_in_pairs (rw2.keeps F'.keep) (Rd.tuple (N'.isTup (by k_mem)) (.cons (Rd.int _ _ _) (.cons (Rd.int _ _ _) .nil))) (by show un + 3 + 64 < 9900; walk_at "ROOM") ?_)
      cases hc : W.2.contains ((baseV W ρ e').getD i 0, ([0, 1] : List Int).getD i0 0)
      · walk_at "MY"
        refine hP0 _ _ <| TurnEnd.intro (fun b o _ e => hk3 b o e) ?_
        simp only [Bool.false_eq_true, if_false]
        rw [filt_no _ _ hil2 hc]
        exact hj2.stable (fun b o _ e => hk3 b o e) tup_of_memI
      · walk_at "MY"
        refine hP0 _ _ <| TurnEnd.intro (fun b o _ e => hk3 b o e) ?_
        simp only [if_true]
        walk_at "MY"
        refine TurnEnd.intro (fun _ _ _ e => e) ?_
        rw [filt_yes _ _ hil2 hc]
        exact (hj2.stable (fun b o _ e => hk3 b o e) tup_of_memI).snocInt _ _
    · rintro D h' tk ys2 hD ⟨nn, hDo⟩ hj2 hk
      have hk' : ∀ b o, _ → h'.get? b = some o := fun b o e => hk b o (fun h => nomatch h) e
      have F3 := F'.keeps hk'
      have N3 := news_new F' N' hk' hD hDo
      clear F' N'
      walk_at "MYT"
      refine wpAny_newList ?_ (by rw [sizeLine_eq]; exact Nat.le_of_ble_eq_true rfl)
      have hk3 : Sub h (h'.push { cls := .type "list", data := .seq (List.toArray []) }) := fun b o e => Heap.get?_push_of_some _ (hk' b o e)
      have F4 := F3.push { cls := .type "list", data := .seq (List.toArray []) }
      have N4 := News.push F3 N3 { cls := .type "list", data := .seq (List.toArray []) }
      generalize hpp : h'.push { cls := .type "list", data := .seq (List.toArray []) } = h3 at hk3 F4 N4 ⊢
      clear F3 N3
      walk_at "MY"
      (rename Fr _ _ _ _ => F'; rename News _ _ _ _ => N')
      refine Stop.of (my_ne_ints (js := []) (Rd.list (N'.isList (show (D, _) ∈ _ by k_mem)) (ints_rd hj2.ints)) (Rd.list (N'.isList (by k_mem)) .nil) (by show un + 3 + 64 < 9900; walk_at "ROOM") ?_)
      rw [hlv, List.take_length]
      cases hc : ((baseV W ρ e').filter fun a => W.2.contains (a, ([0, 1] : List Int).getD i0 0)) != []
      · walk_at "MY"
        refine hP0 _ _ <| TurnEnd.intro (fun b o _ e => hk3 b o e) ?_
        simp only [Bool.false_eq_true, if_false]
        rw [filt_no _ _ hil hc]
        exact hj.stable (fun b o _ e => hk3 b o e) tup_of_memI
      · walk_at "MY"
        refine hP0 _ _ <| TurnEnd.intro (fun b o _ e => hk3 b o e) ?_
        simp only [if_true]
        walk_at "MY"
        refine TurnEnd.intro (fun _ _ _ e => e) ?_
        rw [filt_yes _ _ hil hc]
        exact (hj.stable (fun b o _ e => hk3 b o e) tup_of_memI).snocInt _ _
  · rintro D h' tk ys hD ⟨nn, hDo⟩ hj hk
    have hk' : ∀ b o, _ → h'.get? b = some o := fun b o e => hk b o (fun h => nomatch h) e
    have F3 := F'.keeps hk'
    have hDn := none_of_keep F'.keep hD
    clear F' N'
    walk_at "MY"
    (rename Fr _ _ _ _ => F')
    exact ret _ _ _ F'.keep (Rd.list ⟨_, hDo, rfl, _, rfl⟩ hj) (NewRef.of hDn)
end

theorem atoms_all {prog : Program} {w : World} {mean : ExcName → Option Value} {mg mb : Str → Option Value} {g : Heap} (X₀ : (hd.heap_39 w.params).In g) (T₀ : Top hd.view_39 (looseW hd.view_39 []) mean mg mb g) : ∀ e : SE, AtomsSpec prog w g e 0
  | .rel => (atoms_rel X₀ T₀).down
  | .univ => (atoms_univ X₀ T₀).down
  | .comp => (atoms_comp X₀ T₀).down
  | .var x => (atoms_var X₀ T₀ x).down
  | .joinR => atoms_join X₀ T₀ .joinR .rel rfl (fun _ _ => rfl) (fun _ h => h) (fun W ρ h => base_len W ρ .rel h) (atoms_rel X₀ T₀)
  | .joinV x => atoms_join X₀ T₀ (.joinV x) (.var x) rfl (fun _ _ => rfl) (fun _ h => h) (fun W ρ h => base_len W ρ (.var x) h) (atoms_var X₀ T₀ x)


-- ChoiDef
inductive EnvsAre (prog : Program) (w : World) (h : Heap) (P : Addr → Prop) (n : Nat) : List Value → List EnvV → Prop
  | nil : EnvsAre prog w h P n [] []
  | cons {a : Addr} {vs : List Value} {ρ : EnvV} {ρs : List EnvV} : EnvAt prog w h a n ρ → P a → EnvsAre prog w h P n vs ρs → EnvsAre prog w h P n (.ref a :: vs) (ρ :: ρs)
section
variable {prog : Program} {w : World} {h h' : Heap} {P P' : Addr → Prop} {n n' : Nat} {vs : List Value} {ρs : List EnvV}
theorem EnvsAre.length (X : EnvsAre prog w h P n vs ρs) : vs.length = ρs.length := by
  induction X with
  | nil => rfl
  | cons _ _ _ ih => simp [ih]
theorem EnvsAre.snoc {a : Addr} {ρ : EnvV} (X : EnvsAre prog w h P n vs ρs) (e : EnvAt prog w h a n ρ) (p : P a) : EnvsAre prog w h P n (vs ++ [.ref a]) (ρs ++ [ρ]) := by
  induction X with
  | nil => exact .cons e p .nil
  | cons e' p' _ ih => exact .cons e' p' ih
theorem EnvsAre.get (X : EnvsAre prog w h P n vs ρs) : ∀ {i : Nat} {v : Value}, vs[i]? = some v → ∃ a ρ, v = .ref a ∧ ρs[i]? = some ρ ∧ EnvAt prog w h a n ρ ∧ P a := by
  induction X with
  | nil => intro i v e; simp at e
  | @cons a vs ρ ρs e p _ ih =>
    intro i v q
    cases i with
    | zero => simp at q; subst q; exact ⟨a, ρ, rfl, rfl, e, p⟩
    | succ i => simp at q; simpa using ih q
theorem EnvsAre.mono (X : EnvsAre prog w h P n vs ρs) (hn : n ≤ n') (hp : ∀ a, P a → P' a) : EnvsAre prog w h P' n' vs ρs := by
  induction X with
  | nil => exact .nil
  | cons e p _ ih => exact .cons (e.le hn) (hp _ p) ih
theorem EnvAt.dictO {a : Addr} {ρ : EnvV} (X : EnvAt prog w h a n ρ) : ∃ o, h.get? a = some o ∧ DictO o := by
  obtain ⟨kvs, ⟨o, es, ep, ho, _, hd, _⟩, _⟩ := X
  exact ⟨o, ho, es, ep, hd⟩
theorem EnvAt.at {a : Addr} {ρ : EnvV} {o : Obj} (X : EnvAt prog w h a n ρ) (ho : h.get? a = some o) (ho' : h'.get? a = some o) : EnvAt prog w h' a n ρ := by
  obtain ⟨kvs, ⟨o2, es, ep, h2, r⟩, q⟩ := X
  rw [ho] at h2; cases h2
  exact ⟨kvs, ⟨o, es, ep, ho', r⟩, q⟩
theorem EnvsAre.stab (X : EnvsAre prog w h P n vs ρs) (k : ∀ b o, P b → DictO o → h.get? b = some o → h'.get? b = some o) : EnvsAre prog w h' P n vs ρs := by
  induction X with
  | nil => exact .nil
  | cons e p _ ih =>
    obtain ⟨o, ho, hd⟩ := e.dictO
    exact .cons (e.at ho (k _ _ p hd ho)) p ih
theorem EnvsAre.pin (X : EnvsAre prog w h P n vs ρs) : ∃ tl : List (Addr × Obj), (∀ p ∈ tl, h.get? p.1 = some p.2 ∧ DictO p.2 ∧ P p.1) ∧ ∀ h', (∀ p ∈ tl, h'.get? p.1 = some p.2) → EnvsAre prog w h' P n vs ρs := by
  induction X with
  | nil => exact ⟨[], (fun _ h => nomatch h), fun _ _ => .nil⟩
  | @cons a vs ρ ρs e p _ ih =>
    obtain ⟨tl, h1, h2⟩ := ih
    obtain ⟨o, ho, hd⟩ := e.dictO
    refine ⟨(a, o) :: tl, fun q hq => ?_, fun h' hk => .cons (e.at ho (hk (a, o) (.head _))) p (h2 h' fun q hq => hk q (.tail _ hq))⟩
    rcases List.mem_cons.mp hq with rfl | hq
    · exact ⟨ho, hd, p⟩
    · exact h1 q hq
theorem adoptE {base : Heap} {L : Addr} {m : Str → Option Value} (F : Fr base L h m) (X : EnvsAre prog w h P n vs ρs) (hP : ∀ a, P a → a ≠ L) :
    ∃ tl, News base L h tl ∧ (∀ p ∈ tl, DictO p.2 ∧ P p.1) ∧ ∀ h', Sub base h' → (∀ p ∈ tl, h'.get? p.1 = some p.2) → EnvsAre prog w h' P n vs ρs := by
  obtain ⟨tl, h1, h2⟩ := X.pin
  refine ⟨tl.filter fun p => (base.get? p.1).isNone, fun p hp => ?_, fun p hp => (h1 p (List.mem_filter.mp hp).1).2, fun h' hb hk => h2 h' fun p hp => ?_⟩
  · obtain ⟨hm, hn⟩ := List.mem_filter.mp hp
    exact ⟨(h1 p hm).1, hP _ (h1 p hm).2.2, by simpa using hn⟩
  · cases e : base.get? p.1 with
    | none => exact hk p (List.mem_filter.mpr ⟨hp, by simp [e]⟩)
    | some o =>
      have q := F.keep _ _ e
      rw [(h1 p hp).1] at q
      cases q
      exact hb _ _ e
end
theorem DictO.not_seq {o : Obj} (h : DictO o) : ¬ SeqO o := by
  rintro ⟨xs, n, e⟩; obtain ⟨es, k, d⟩ := h; rw [d] at e; cases e
theorem NotDict.not {o : Obj} (h : NotDict o) : ¬ DictO o := fun ⟨es, n, e⟩ => h es n e
theorem my_env_set {prog : Program} {w : World} {A : Around} {s : Shared} {E : Value → Shared → Prop} {base : Heap} {L D : Addr} {m : Str → Option Value} {news rest : List (Addr × Obj)} {o : Obj} {kvs : List (Str × Value)} {k : Str} {t : Tok} {v : Value} {Q : Unit → Shared → Prop}
    (F : Fr base L s.heap m) (N : News base L s.heap news) (hm : (D, o) ∈ news) (hd : o.IsDictOf (PySem.strKind prog w) kvs) (hr : ∀ p ∈ rest, p ∈ news ∧ p.1 ≠ D) (hsz : kvs.length ≤ 1000)
    (h : ∀ h' o', Fr base L h' m → News base L h' ((D, o') :: rest) → o'.IsDictOf (PySem.strKind prog w) (stored kvs k v) → Q () { s with heap := h', toks := s.toks + 1 }) :
    wpAny (model prog w) A (setItem (.ref D) (.str k t) v) Q E s := by
  refine wpAny_setItem_pairs (hsz := by rw [sizeLine_eq]; omega) (strKind_is prog w k t) (Heap.dictOf_iff.mpr ⟨o, N.get hm, hd⟩) fun h' hmm hs => ?_
  obtain ⟨o', ho', hd'⟩ := Heap.dictOf_iff.mp hmm
  obtain ⟨_, hL, hb⟩ := N _ hm
  refine h h' o' (F.change hs hL hb) (fun p hp => ?_) hd'
  rcases List.mem_cons.mp hp with rfl | hp
  · exact ⟨ho', hL, hb⟩
  · obtain ⟨h1, h2⟩ := hr p hp
    exact ⟨(hs.2 _ h2).trans (N p h1).1, (N p h1).2⟩
theorem choicesV_snoc (W : WorldV) : ∀ (ds : List (Str × SE)) (d : Str × SE) (fs : List EnvV), choicesV W (ds ++ [d]) fs = stepV W d (choicesV W ds fs)
  | [], _, _ => rfl
  | c :: ds, d, fs => by simp only [List.cons_append, choicesV_1, choicesV_2]; exact choicesV_snoc W ds d _
theorem flatMap_len {α β : Type} (f : α → List β) (k : Nat) : ∀ (l : List α), (∀ x ∈ l, (f x).length ≤ k) → (l.flatMap f).length ≤ k * l.length
  | [], _ => by simp
  | x :: l, h => by
    have h1 := h x (.head _)
    have h2 := flatMap_len f k l fun y hy => h y (.tail _ hy)
    simp only [List.flatMap_cons, List.length_append, List.length_cons, Nat.mul_succ]
    omega
theorem step_len (W : WorldV) (hW : W.1.length ≤ 4) (d : Str × SE) (fs : List EnvV) : (stepV W d fs).length ≤ 4 * fs.length :=
  flatMap_len _ 4 fs fun ρ _ => by rw [List.length_map]; exact base_len W ρ d.2 hW
theorem take_flat {α β : Type} (f : α → List β) (l : List α) {i : Nat} {x : α} (h : l[i]? = some x) : (l.take (i + 1)).flatMap f = (l.take i).flatMap f ++ f x := by
  rw [List.take_add_one, h]; simp
theorem choices_len (W : WorldV) (hW : W.1.length ≤ 4) : ∀ (ds : List (Str × SE)) (fs : List EnvV), ds.length ≤ 2 → fs.length ≤ 1 → (choicesV W ds fs).length ≤ 16
  | [], fs, _, h => by simp only [choicesV_1, choicesV_2]; omega
  | [d], fs, _, h => by simp only [choicesV_1, choicesV_2]; have := step_len W hW d fs; omega
  | [d, d'], fs, _, h => by simp only [choicesV_1, choicesV_2]; have := step_len W hW d fs; have := step_len W hW d' (stepV W d fs); omega
  | _ :: _ :: _ :: _, _, h, _ => by simp only [List.length_cons] at h; omega
noncomputable def DefOn (Γ : List Str) (ρ : EnvV) : Prop := ∀ x ∈ Γ, ∃ k, ρ x = some k
theorem DefOn.upd {Γ : List Str} {ρ : EnvV} (h : DefOn Γ ρ) (x : Str) (a : Int) : DefOn (Γ ++ [x]) (updV ρ x a) := by
  intro y hy
  by_cases e : y = x
  · exact ⟨a, by simp [updV, e]⟩
  · simp only [updV, if_neg e]
    rcases List.mem_append.mp hy with hy | hy
    · exact h y hy
    · exact absurd (List.mem_singleton.mp hy) e
theorem step_def (W : WorldV) {Γ : List Str} (d : Str × SE) {fs : List EnvV} (h : ∀ ρ ∈ fs, DefOn Γ ρ) : ∀ ρ ∈ stepV W d fs, DefOn (Γ ++ [d.1]) ρ := by
  intro ρ hρ
  simp only [stepV, List.mem_flatMap, List.mem_map] at hρ
  obtain ⟨ρ', h1, a, _, rfl⟩ := hρ
  exact (h ρ' h1).upd _ _
theorem choices_def (W : WorldV) : ∀ (ds : List (Str × SE)) {Γ : List Str} {fs : List EnvV}, (∀ ρ ∈ fs, DefOn Γ ρ) → ∀ ρ ∈ choicesV W ds fs, DefOn (Γ ++ ds.map (·.1)) ρ
  | [], Γ, fs, h => by simpa [choicesV_1, choicesV_2] using h
  | d :: ds, Γ, fs, h => by
    have := choices_def W ds (step_def W d h)
    simpa [choicesV_1, choicesV_2] using this
theorem wfD_get : ∀ {ds : List (Str × SE)} {Γ : List Str} {i : Nat} {d : Str × SE}, wfD Γ ds → ds[i]? = some d → wfS (Γ ++ (ds.take i).map (·.1)) d.2 ∧ d.1 ∈ marks
  | [], _, _, _, _, h => by simp at h
  | c :: ds, Γ, 0, d, h, e => by simp at e; subst e; simp only [wfD_1, wfD_2] at h; simpa using ⟨h.2.1, h.1⟩
  | c :: ds, Γ, i + 1, d, h, e => by
    simp at e
    simp only [wfD_1, wfD_2] at h
    have := wfD_get h.2.2 e
    simpa using this
theorem encDs_get : ∀ {ds : List (Str × SE)} {i : Nat} {d : PyData}, (encDs ds)[i]? = some d → ∃ c, ds[i]? = some c ∧ d = encD c
  | [], i, d, h => by simp [encDs_1, encDs_2] at h
  | f :: fs, 0, d, h => by simp [encDs_1, encDs_2] at h; exact ⟨f, rfl, h.symm⟩
  | f :: fs, i + 1, d, h => by simp [encDs_1, encDs_2] at h; simpa using encDs_get h
theorem isTup_uniq {h : Heap} {a : Addr} {xs ys : Array Value} (x : IsTup h a xs) (y : IsTup h a ys) : xs = ys := by
  obtain ⟨o, ho, _, n, hd⟩ := x
  obtain ⟨o', ho', _, n', hd'⟩ := y
  rw [ho] at ho'; cases ho'
  rw [hd] at hd'; cases hd'
  rfl
theorem pair_of {h : Heap} {t : Addr} {a b : Value} {d₁ d₂ : PyData} (R : Rd h (.ref t) (.tuple [d₁, d₂])) (hT : IsTup h t #[a, b]) : Rd h a d₁ ∧ Rd h b d₂ := by
  obtain ⟨t', vs, e, hT', hA⟩ := R.tuple_inv
  cases e
  obtain ⟨a', us, rfl, r1, hA⟩ := hA.cons_inv
  obtain ⟨b', us, rfl, r2, hA⟩ := hA.cons_inv
  obtain rfl := hA.nil_inv
  have := isTup_uniq hT hT'
  cases this
  exact ⟨r1, r2⟩

theorem world_not {base h : Heap} {wv : Value} {W : WorldV} {la : Addr} (RW : Rd base wv (encW W)) (k : Sub base h) (hla : base.get? la = none) : ∀ wa u v, wv = .ref wa → IsTup h wa #[u, v] → u ≠ .ref la := by
  rintro wa u v rfl hT rfl
  obtain ⟨r1, r2⟩ := pair_of (RW.keeps k) hT
  obtain ⟨wa', vs, e, hT', hA⟩ := RW.tuple_inv
  cases e
  obtain ⟨a', us, rfl, q1, hA⟩ := hA.cons_inv
  obtain ⟨b', us, rfl, q2, hA⟩ := hA.cons_inv
  obtain rfl := hA.nil_inv
  have := isTup_uniq hT (hT'.keeps k)
  cases this
  obtain ⟨lw, lv, e, ⟨o, ho, _⟩, _⟩ := q1.list_inv
  cases e
  rw [hla] at ho; cases ho
theorem append_all {p : Addr × Obj → Prop} {a b : List (Addr × Obj)} (ha : ∀ x ∈ a, p x) (hb : ∀ x ∈ b, p x) : ∀ x ∈ a ++ b, p x := fun x hx => (List.mem_append.mp hx).elim (ha x) (hb x)
theorem EnvsAre.get2 {prog : Program} {w : World} {h : Heap} {P : Addr → Prop} {n : Nat} {vs : List Value} {ρs : List EnvV} (X : EnvsAre prog w h P n vs ρs) {i : Nat} {a : Addr} {ρ : EnvV} (h1 : vs[i]? = some (.ref a)) (h2 : ρs[i]? = some ρ) : EnvAt prog w h a n ρ := by
  obtain ⟨a', ρ', e, h3, X', _⟩ := X.get h1
  cases e
  rw [h2] at h3; cases h3
  exact X'
theorem map_take_step {β : Type} (f : Int → β) (l : List Int) {i : Nat} (hi : i < l.length) : (l.take (i + 1)).map f = (l.take i).map f ++ [f (l.getD i 0)] := by
  rw [take_step l hi, List.map_append]; rfl


-- Choices
inductive JCh1 (prog : Program) (w : World) (g : Heap) (L ea : Addr) (n : Nat) (ds : List (Str × SE)) (W : WorldV) (ρ : EnvV) (wv : Value) (i : Nat) (m : Str → Option Value) (h : Heap) : Prop
  | mk (a1 : m (Str.ofString "world") = some wv) (fa : Addr) (fvs : List Value) (nn : Nat) (a2 : m (Str.ofString "found") = some (.ref fa)) (a3 : h.get? fa = some ({ cls := .type "list", data := .seq (List.toArray fvs) nn } : Obj)) (a4 : fa ≠ L) (a5 : g.get? fa = none)
      (a6 : EnvsAre prog w h (fun a => a ≠ L ∧ (a = ea ∨ g.get? a = none)) (n + i) fvs (choicesV W (ds.take i) [ρ]))
inductive JCh2 (prog : Program) (w : World) (g : Heap) (L ea : Addr) (n : Nat) (C : List EnvV) (c : Str × SE) (W : WorldV) (wv ev : Value) (tm : Tok) (la : Addr) (j : Nat) (m : Str → Option Value) (h : Heap) : Prop
  | mk (b1 : m (Str.ofString "world") = some wv) (b2 : m (Str.ofString "mark") = some (.str c.1 tm)) (b3 : m (Str.ofString "e") = some ev) (b4 : m (Str.ofString "late") = some (.ref la)) (lvs : List Value) (nn : Nat) (b5 : h.get? la = some ({ cls := .type "list", data := .seq (List.toArray lvs) nn } : Obj))
      (b6 : EnvsAre prog w h (fun a => a ≠ L ∧ (a = ea ∨ g.get? a = none)) n lvs ((C.take j).flatMap fun ρ' => (baseV W ρ' c.2).map fun a => updV ρ' c.1 a))
inductive JCh3 (prog : Program) (w : World) (g : Heap) (L ea : Addr) (n : Nat) (C : List EnvV) (ρ : EnvV) (c : Str × SE) (W : WorldV) (wv ev : Value) (tm : Tok) (la oa : Addr) (k : Nat) (m : Str → Option Value) (h : Heap) : Prop
  | mk (c1 : m (Str.ofString "world") = some wv) (c2 : m (Str.ofString "mark") = some (.str c.1 tm)) (c3 : m (Str.ofString "e") = some ev) (c4 : m (Str.ofString "late") = some (.ref la)) (c5 : m (Str.ofString "one") = some (.ref oa)) (lvs : List Value) (nn : Nat)
      (c6 : h.get? la = some ({ cls := .type "list", data := .seq (List.toArray lvs) nn } : Obj)) (c7 : lvs.length ≤ 64 + k) (c8 : EnvsAre prog w h (fun a => a ≠ L ∧ (a = ea ∨ g.get? a = none)) n lvs (C ++ ((baseV W ρ c.2).take k).map fun a => updV ρ c.1 a))
section
local macro_rules | `(tactic| walk_at "exec For Tuple Name cons nil") => `(tactic| with_reducible refine stop_for ?_)
local macro_rules | `(tactic| walk_at "setItem ref str") => `(tactic| ((with_reducible show wpAny _ _ (setItem (Value.ref _) (Value.str _ _) _) _ _ _); refine Stop.mk ?_))
local macro_rules | `(tactic| walk_at "call type:dict") => `(tactic| ((with_reducible show wpAny _ _ (call (Value.type "dict") [Value.ref _]) _ _ _); refine Stop.mk ?_))
theorem choices_spec {prog : Program} {w : World} {mean : ExcName → Option Value} {mg mb : Str → Option Value} {g : Heap} (X₀ : (hd.heap_39 w.params).In g) (T₀ : Top hd.view_39 (looseW hd.view_39 []) mean mg mb g)
    {dp un : Nat} {fr : Option (List Env)} {gd : Option (List Code)} {s : Shared} {Q E : Value → Shared → Prop} {ds : List (Str × SE)} {Γ : List Str} {v wv : Value} {ea : Addr} {W : WorldV} {ρ : EnvV} {n : Nat}
    (hg : Sub g s.heap) (R : Rd s.heap v (.tuple (encDs ds))) (RW : Rd s.heap wv (encW W)) (XE : EnvAt prog w s.heap ea n ρ) (hwf : wfD Γ ds) (hlen : ds.length ≤ 2) (hρ : DefOn Γ ρ) (hW1 : W.1.length ≤ 4) (hW2 : W.2.length ≤ 4) (hn : n ≤ 900) (hdp : dp + 10 < 700) (hun : un + 100 < 5000)
    (ret : ∀ fa fvs h' tk, Sub s.heap h' → h'.IsList fa (List.toArray fvs) → EnvsAre prog w h' (fun a => a = ea ∨ s.heap.get? a = none) (n + ds.length) fvs (choicesV W ds [ρ]) → Q (.ref fa) { s with heap := h', toks := tk }) :
    wpAny (model prog w) ⟨none, dp, fr, gd, un⟩ (call (.ref 69) [v, wv, .ref ea]) Q E s := by
  have X : (hd.heap_39 w.params).In s.heap := X₀.keeps hg
  have T : Top hd.view_39 (looseW hd.view_39 []) mean mg mb s.heap := T₀.keeps hg
  obtain ⟨t, ks, rfl, hT, hK⟩ := R.tuple_inv
  refine enter (news := []) X T (fun _ _ e => e) (Nat.le_refl _) (fun _ h => nomatch h) (by k_is) (by k_is) (by show dp < 1000; walk_at "ROOM") (BindsTo.of_eq rfl) (locs rfl) rfl rfl rfl (by decide) ?_
  intro L h₁ hLs F N
  have hkl : ks.length = ds.length := by rw [hK.length, encDs_length]
  have heaL : ea ≠ L := by
    obtain ⟨o, ho, _⟩ := XE.dictO
    rw [hLs]; exact Nat.ne_of_lt (Heap.lt_size ho)
  try dsimp only
  try k_fold
  walk_at "MY"
  (rename Fr _ _ _ _ => F'; rename News _ _ _ _ => N')
  refine Stop.of (for_gen (by intro _; with_unfolding_all rfl) ?_)
  walk_at "MY"
  rename_i fa0 _ _ _
  refine Stop.of (for_tupPair (base := s.heap) (JCh1 prog w s.heap L ea n ds W ρ wv) [] rfl (hT.keeps F'.keep) (by with_unfolding_all rfl) (by with_unfolding_all rfl) (by with_unfolding_all rfl) ?hv F' News.nil ⟨?_, ?_, ?_, ?_⟩)
  case hv =>
    intro i v hv
    obtain ⟨d, hd, r⟩ := hK.get hv
    obtain ⟨c, hc, rfl⟩ := encDs_get hd
    obtain ⟨t', vs, rfl, hT', hA⟩ := Rd.tuple_inv r
    obtain ⟨a', us, rfl, q1, hA⟩ := hA.cons_inv
    obtain ⟨b', us, rfl, q2, hA⟩ := hA.cons_inv
    obtain rfl := hA.nil_inv
    exact ⟨t', a', b', rfl, hT'⟩
  · rintro i m h h' ⟨a1, fa, fvs, nn, a2, a3, a4, a5, a6⟩ hk
    exact ⟨a1, fa, fvs, nn, a2, hk _ _ (.inl ⟨_, _, rfl⟩) a3, a4, a5, a6.stab fun b o hb ho e => hk b o (.inr ⟨hb.1, .inl ho⟩) e⟩
  · refine ⟨rfl, fa0, [.ref ea], 0, rfl, N'.get (by k_mem), (N' _ (by k_mem)).2.1, N'.fresh (by k_mem), ?_⟩
    exact .cons ((XE.keeps F'.keep).le (Nat.le_add_right _ _)) ⟨heaL, .inl rfl⟩ .nil
  · intro i v m₁ m₂ h tk own hi hP hU hJ F₁ N₁ hown Nk
    refine wpAny_gen fun P0 hP0 => ?_
    obtain ⟨t', mv, ev, rfl, hTd, rfl⟩ := hU
    obtain ⟨a1, fa, fvs, nn, a2, a3, a4, a5, a6⟩ := hJ
    clear Nk
    replace F₁ : Fr s.heap L h _ := F₁
    replace N₁ : News s.heap L h own := N₁
    obtain ⟨d, hd, r⟩ := hK.get hP
    obtain ⟨c, hc, rfl⟩ := encDs_get hd
    obtain ⟨q1, Rev⟩ := pair_of r hTd
    obtain ⟨tm, rfl⟩ := q1.str_inv
    obtain ⟨hwS, hmk⟩ := wfD_get hwf hc
    obtain ⟨tlF, NF, htF, hEF⟩ := adoptE F₁ a6 fun a ha => ha.1
    have hfl : fvs.length ≤ 16 := by rw [a6.length]; exact choices_len W hW1 _ _ (by rw [List.length_take]; omega) (Nat.le_refl _)
    have hdef : ∀ ρ' ∈ choicesV W (ds.take i) [ρ], DefOn (Γ ++ (ds.take i).map (·.1)) ρ' := choices_def W _ (fun ρ' h => by rw [List.mem_singleton.mp h]; exact hρ)
    have N₀ := news_cons a3 a4 a5 (NF.append N₁)
    have F₂ := Fr.p2k2 F₁ a1 a2
    clear F₁ F' N' N₁ NF
    generalize htlA : tlF ++ own = tlA at N₀
    have hFA : ∀ p ∈ tlF, p ∈ tlA := fun p hp => htlA ▸ List.mem_append_left _ hp
    have hOA : ∀ p ∈ own, p ∈ tlA := fun p hp => htlA ▸ List.mem_append_right _ hp
    walk_at "MY"
    rename_i la _ l1 _ F' N'
    have hAla : ∀ p ∈ tlA, p.1 ≠ la := fun p hp => Nat.ne_of_lt (ktn_ltOf l1.2 p hp)
    have hfala : fa ≠ la := Nat.ne_of_lt l1.1
    have NA : News s.heap L _ tlA := fun p hp => N' p (by simp [hp])
    have hlb : s.heap.get? la = none := N'.fresh (by k_mem)
    have hlL : la ≠ L := (N' _ (show (la, _) ∈ _ by k_mem)).2.1
    refine Stop.of (for_gen (by intro _; with_unfolding_all rfl) ?_)
    walk_at "MY"
    refine Stop.of (for_listU (base := s.heap) (JCh2 prog w s.heap L ea (n + (i + 1)) (choicesV W (ds.take i) [ρ]) c W wv ev tm la) tlA rfl (N'.isList (by k_mem)) (by with_unfolding_all rfl) (by with_unfolding_all rfl) F' NA ⟨?_, ?_, ?_, ?_⟩)
    · rintro j m h h' ⟨b1, b2, b3, b4, lvs, nn, b5, b6⟩ hk
      exact ⟨b1, b2, b3, b4, lvs, nn, hk _ _ (.inl ⟨_, _, rfl⟩) b5, b6.stab fun b o hb ho e => hk b o (.inr ⟨hb.1, .inl ho⟩) e⟩
    · exact ⟨rfl, rfl, rfl, rfl, [], 0, N'.get (by k_mem), .nil⟩
    · intro j v m₁ m₂ h tk own₁ hj hPj hU hJ F₁ N₁ hown₁ Nk
      refine wpAny_gen fun P1 hP1 => ?_
      cases hU
      obtain ⟨b1, b2, b3, b4, lvs, nnl, b5, b6⟩ := hJ
      replace F₁ : Fr s.heap L h _ := F₁
      replace N₁ : News s.heap L h own₁ := N₁
      replace Nk : News s.heap L h tlA := Nk
      obtain ⟨oa, ρj, rfl, hρj, XO, hPo⟩ := (hEF h F₁.keep fun p hp => (Nk p (hFA p hp)).1).get hPj
      obtain ⟨tlL, NL, htL, hEL⟩ := adoptE F₁ b6 fun a ha => ha.1
      have N₀ := news_cons b5 hlL hlb (N₁.append (Nk.append NL))
      have hlaI : la ≠ _ := Nat.ne_of_lt (Heap.lt_size (N'.get (show (la, _) ∈ _ by k_mem)))
      have hown₁' : ∀ p ∈ own₁, p.1 ≠ la := fun p hp => (hown₁ p hp).2.elim (fun q => by rw [q]; exact Ne.symm hlaI) fun q => by rw [List.mem_singleton.mp q]; exact hfala
      have F₂ := Fr.p1k4 F₁ b1 b2 b3 b4
      clear F₁ F' N' N₁ NL
      generalize htlB : own₁ ++ (tlA ++ tlL) = tlB at N₀
      have hB1 : ∀ p ∈ own₁, p ∈ tlB := fun p hp => htlB ▸ List.mem_append_left _ hp
      have hB2 : ∀ p ∈ tlA, p ∈ tlB := fun p hp => htlB ▸ List.mem_append_right _ (List.mem_append_left _ hp)
      have hB3 : ∀ p ∈ tlL, p ∈ tlB := fun p hp => htlB ▸ List.mem_append_right _ (List.mem_append_right _ hp)
      clear Nk
      walk_at "MY"
      (rename Fr _ _ _ _ => F'; rename News _ _ _ _ => N')
      refine Stop.of (for_gen (by intro _; with_unfolding_all rfl) ?_)
      walk_at "MY"
      (rename Fr _ _ _ _ => F'; rename News _ _ _ _ => N')
      refine Stop.of (atoms_all X₀ T₀ c.2 _ _ _ _ _ _ _ _ W ρj (n + i) _ _ _ (hg.trans F'.keep) (Rev.keeps F'.keep) (RW.keeps F'.keep) ((hEF _ F'.keep fun p hp => (N' p (by simp [hB2 p (hFA p hp)])).1).get2 hPj hρj) hwS (hdef ρj (List.mem_of_getElem? hρj)) hW1 hW2 (by show dp + 1 + 5 < 700 + 0; walk_at "ROOM") (by show un + 3 + 50 < 5000 + 10 * 0; walk_at "ROOM") fun r h' tk' hk' hr hfr => ?_)
      obtain ⟨ra, avs, rfl, hLr, hAr⟩ := hr.list_inv
      have hral : ra ≠ la := fun e => hfr la _ (N'.get (by k_mem)) (world_not RW F'.keep hlb) (by rw [e])
      have F3 := F'.keeps hk'
      have N3 := N'.grown hk'
      have NK : News s.heap L h' (own₁ ++ tlA) := fun p hp => N3 p ((List.mem_append.mp hp).elim (fun hp => by simp [hB1 p hp]) fun hp => by simp [hB2 p hp])
      have hKla : ∀ p ∈ own₁ ++ tlA, p.1 ≠ la := append_all hown₁' hAla
      have havs : avs.length = (baseV W ρj c.2).length := by rw [hAr.length, encIs_length]
      have hlvs : lvs.length ≤ 64 := by
        rw [b6.length]
        have q1 := flatMap_len (fun ρ' => (baseV W ρ' c.2).map fun a => updV ρ' c.1 a) 4 ((choicesV W (ds.take i) [ρ]).take j) fun ρ' _ => by rw [List.length_map]; exact base_len W ρ' c.2 hW1
        have q2 := List.length_take_le j (choicesV W (ds.take i) [ρ])
        have q3 := choices_len W hW1 (ds.take i) [ρ] (by rw [List.length_take]; omega) (Nat.le_refl _)
        omega
      have hlas := Heap.lt_size (N3.get (show (la, _) ∈ _ by k_mem))
      clear F' N'
      refine for_listU (base := s.heap) (JCh3 prog w s.heap L ea (n + (i + 1)) (((choicesV W (ds.take i) [ρ]).take j).flatMap fun ρ' => (baseV W ρ' c.2).map fun a => updV ρ' c.1 a) ρj c W wv ev tm la oa) (own₁ ++ tlA) rfl hLr (by with_unfolding_all rfl) (by with_unfolding_all rfl) F3 NK ⟨?_, ?_, ?_, ?_⟩
      · rintro k m h h' ⟨c1, c2, c3, c4, c5, lvs', nn2, c6, c7, c8⟩ hk
        exact ⟨c1, c2, c3, c4, c5, lvs', nn2, hk _ _ (.inl ⟨_, _, rfl⟩) c6, c7, c8.stab fun b o hb ho e => hk b o (.inr ⟨hb.1, .inl ho⟩) e⟩
      · refine ⟨rfl, rfl, rfl, rfl, rfl, lvs, nnl, N3.get (by k_mem), by omega, ?_⟩
        simpa using hEL _ F3.keep fun p hp => (N3 p (by simp [hB3 p hp])).1
      · intro k v m₁ m₂ h tk own₂ hk hPk hU hJ F₁ N₁ hown₂ Nk
        refine wpAny_gen fun P2 hP2 => ?_
        cases hU
        obtain ⟨c1, c2, c3, c4, c5, lvs', nn2, c6, c7, c8⟩ := hJ
        replace F₁ : Fr s.heap L h _ := F₁
        replace N₁ : News s.heap L h own₂ := N₁
        replace Nk : News s.heap L h (own₁ ++ tlA) := Nk
        obtain ⟨hkl2, tv, rfl⟩ := ints_get hAr.ints hPk
        obtain ⟨tlL', NL, htL', hEL'⟩ := adoptE F₁ c8 fun a ha => ha.1
        have N₀ := news_cons c6 hlL hlb (N₁.append (Nk.append NL))
        have hown₂' : ∀ p ∈ own₂, p.1 ≠ la := fun p hp => (hown₂ p hp).2.elim (fun q => by rw [q]; exact Ne.symm (Nat.ne_of_lt hlas)) fun q => by rw [List.mem_singleton.mp q]; exact hral
        have F₂ := Fr.p1k5 F₁ c5 c1 c2 c3 c4
        have hCla : ∀ p ∈ own₂ ++ ((own₁ ++ tlA) ++ tlL'), p.1 ≠ la := append_all hown₂' (append_all hKla fun p hp q => by
          have q1 := (NL p hp).1
          rw [q, c6] at q1
          exact (htL' p hp).1.not_seq ((Option.some.inj q1) ▸ ⟨_, _, rfl⟩))
        generalize htlC : own₂ ++ ((own₁ ++ tlA) ++ tlL') = tlC at N₀ hCla
        have hC1 : ∀ p ∈ own₂ ++ (own₁ ++ tlA), p ∈ tlC := fun p hp => htlC ▸ ((List.mem_append.mp hp).elim (fun h => List.mem_append_left _ h) fun h => List.mem_append_right _ (List.mem_append_left _ h))
        have hC3 : ∀ p ∈ tlL', p ∈ tlC := fun p hp => htlC ▸ List.mem_append_right _ (List.mem_append_right _ hp)
        clear F₁ N₁ NL Nk F3 N3 NK
        walk_at "MY"
        (rename Fr _ _ _ _ => F'; rename News _ _ _ _ => N')
        have XO2 := (hEF _ F'.keep fun p hp => (N' p (by simp [hC1 p (by simp [hFA p hp])])).1).get2 hPj hρj
        have hil : i < ds.length := by rw [← hkl]; exact hi
        refine Stop.of (my_env_copy XO2 (by omega) fun h' kvs hD hkl' hkv hS => ?_)
        have lo := F'.notModules (modules_low T.nolimit)
        have hbD : s.heap.get? h.objs.size = none := none_of_keep F'.keep (Heap.get?_none_of_le (Nat.le_refl _))
        have hDL : h.objs.size ≠ L := Nat.ne_of_gt F'.ns.lt
        have hlD : la ≠ h.objs.size := Nat.ne_of_lt (Heap.lt_size (N'.get (show (la, _) ∈ _ by k_mem)))
        have hCD : ∀ p ∈ tlC, p.1 ≠ h.objs.size := fun p hp => Nat.ne_of_lt (Heap.lt_size (N' p (by simp [hp])).1)
        obtain ⟨oD, hoD, hdD⟩ := Heap.dictOf_iff.mp hD
        have F3 := F'.keeps hS
        have N3 := news_cons hoD hDL hbD (N'.grown hS)
        clear F' N'
        dsimp only at hoD hdD F3 N3 ⊢
        generalize h.objs.size = D at lo hbD hDL hlD hCD hoD hdD F3 N3 ⊢
        walk_at "MY"
        (rename Fr _ _ _ _ => F'; rename News _ _ _ _ => N')
        refine Stop.of (my_env_set (rest := (la, _) :: tlC) F' N' (by k_mem) hdD (by
          intro p hp
          rcases List.mem_cons.mp hp with rfl | hp
          · exact ⟨by k_mem, hlD⟩
          · exact ⟨by simp [hp], hCD p hp⟩) (by omega) fun h8 oD' F5 N5 hd5 => ?_)
        clear F' N'
        walk_at "MY"
        (rename Fr _ _ _ _ => F'; rename News _ _ _ _ => N')
        have hk4 := base_len W ρj c.2 hW1
        refine Stop.of (my_append (rest := (D, oD') :: tlC) F' N' (by k_mem) (by
          intro p hp
          rcases List.mem_cons.mp hp with rfl | hp
          · exact ⟨by k_mem, Ne.symm hlD⟩
          · exact ⟨by simp [hp], hCla p hp⟩) (by omega) fun h9 k9 F5 N5 _ => ?_)
        clear F' N'
        walk_at "MY"
        (rename Fr _ _ _ _ => F'; rename News _ _ _ _ => N')
        refine hP2 _ _ <| ForEnd.next F' (fun p hp => (N' p (by simp [hC1 p hp])).1) ⟨rfl, rfl, rfl, rfl, rfl, lvs' ++ [.ref D], k9, N'.get (by k_mem), by rw [List.length_append, List.length_singleton]; omega, ?_⟩
        rw [map_take_step _ _ hkl2, ← List.append_assoc]
        have hsl := stored_length_le kvs c.1 (.int ((baseV W ρj c.2).getD k 0) tv)
        exact (hEL' _ F'.keep fun p hp => (N' p (by simp [hC3 p hp])).1).snoc ⟨_, Heap.dictOf_iff.mpr ⟨_, N'.get (show (D, oD') ∈ _ by k_mem), hd5⟩, lo, by omega, hkv.stored _ _ _⟩ ⟨hDL, .inr hbD⟩
      · rintro m₁ h tk ⟨c1, c2, c3, c4, c5, lvs', nn2, c6, c7, c8⟩ F₁ Nk
        replace F₁ : Fr s.heap L h _ := F₁
        replace Nk : News s.heap L h (own₁ ++ tlA) := Nk
        clear F3 N3 NK
        walk_at "MY"
        refine hP1 _ _ <| ForEnd.next F₁ (fun p hp => (Nk p hp).1) ⟨c1, c2, c3, c4, lvs', nn2, c6, ?_⟩
        rw [havs, List.take_length] at c8
        rw [take_flat _ _ hρj]
        exact c8
    · rintro m₁ h tk ⟨b1, b2, b3, b4, lvs, nnl, b5, b6⟩ F₁ Nk
      replace F₁ : Fr s.heap L h _ := F₁
      replace Nk : News s.heap L h tlA := Nk
      obtain ⟨tlL, NL, htL, hEL⟩ := adoptE F₁ b6 fun a ha => ha.1
      have N₀ := news_cons b5 hlL hlb (Nk.append NL)
      have F₂ := Fr.p0k2 F₁ b1 b4
      clear F₁ F' N' NL Nk NA
      walk_at "MY"
      (rename Fr _ _ _ _ => F'; rename News _ _ _ _ => N')
      refine hP0 _ _ <| ForEnd.next F' (fun p hp => (N' p (by rw [List.append_nil] at hp; simp [hOA p hp])).1) ⟨rfl, la, lvs, nnl, rfl, N'.get (by k_mem), hlL, hlb, ?_⟩
      have e1 : ds.take (i + 1) = ds.take i ++ [c] := by rw [List.take_add_one, hc]; rfl
      rw [e1, choicesV_snoc]
      have h1 := hEL _ F'.keep fun p hp => (N' p (by simp [hp])).1
      have e2 : fvs.length = (choicesV W (ds.take i) [ρ]).length := a6.length
      rw [e2, List.take_length] at h1
      exact h1
  · rintro m₁ h tk ⟨a1, fa, fvs, nn, a2, a3, a4, a5, a6⟩ F₁ Nk
    replace F₁ : Fr s.heap L h _ := F₁
    have F₂ := Fr.p0k1 F₁ a2
    clear F₁ F' N' Nk
    walk_at "MY"
    rw [hkl, List.take_length] at a6
    exact ret fa fvs _ _ F₂.keep ⟨_, a3, rfl, _, rfl⟩ (a6.mono (Nat.le_refl _) fun a ha => ha.2)
end


-- AHolds
noncomputable def AHoldsSpec (prog : Program) (w : World) (g : Heap) (a : AT) : Prop :=
  ∀ (dp un : Nat) (fr : Option (List Env)) (gd : Option (List Code)) (s : Shared) (v wv : Value) (ea : Addr) (W : WorldV) (ρ : EnvV) (n : Nat) (Γ : List Str) (Q E : Value → Shared → Prop), Sub g s.heap → Rd s.heap v (encA a) → Rd s.heap wv (encW W) → EnvAt prog w s.heap ea n ρ →
    wfA Γ a → DefOn Γ ρ → W.1.length ≤ 4 → W.2.length ≤ 4 → dp + 10 < 700 → un + 100 < 5000 →
    (∀ h' tk, Sub s.heap h' → Q (.bool (atomV W ρ a)) { s with heap := h', toks := tk }) →
    wpAny (model prog w) ⟨none, dp, fr, gd, un⟩ (call (.ref 74) [v, wv, .ref ea]) Q E s
theorem my_len {prog : Program} {w : World} {A : Around} {s : Shared} {E : Value → Shared → Prop} {a : Addr} {vs : List Value} {Q : Value → Shared → Prop} (X : s.heap.IsList a vs.toArray) (hn : vs.length ≤ 1000) (h : Q (.int vs.length (s.toks + 1)) { s with toks := s.toks + 1 + 1 }) :
    wpAny (model prog w) A (call (.builtin "len") [.ref a]) Q E s := by
  have e : (List.toArray vs).size = vs.length := List.size_toArray
  exact call_len_list X (by rw [e]; omega) (by rw [e]; exact h)
section
local macro_rules | `(tactic| walk_at "call builtin:len") => `(tactic| ((with_reducible show wpAny _ _ (call (Value.builtin "len") [Value.ref _]) _ _ _); refine Stop.mk ?_))
local macro_rules | `(tactic| walk_at "compareOp NotIn int ref") => `(tactic| ((with_reducible show wpAny _ _ (compareOp CmpOp.NotIn (Value.int _ _) (Value.ref _)) _ _ _); refine Stop.mk ?_))
theorem ahold_le {prog : Program} {w : World} {mean : ExcName → Option Value} {mg mb : Str → Option Value} {g : Heap} (X₀ : (hd.heap_39 w.params).In g) (T₀ : Top hd.view_39 (looseW hd.view_39 []) mean mg mb g) (e : SE) (k : Int) : AHoldsSpec prog w g (.le e k) := by
  intro dp un fr gd s v wv ea W ρ n Γ Q E hg R RW XE hwf hρ hW1 hW2 hdp hun ret
  have X : (hd.heap_39 w.params).In s.heap := X₀.keeps hg
  have T : Top hd.view_39 (looseW hd.view_39 []) mean mg mb s.heap := T₀.keeps hg
  obtain ⟨a, vs, rfl, hT, hA⟩ := R.tuple_inv
  obtain ⟨v1, us, rfl, r1, hA⟩ := hA.cons_inv
  obtain ⟨v2, us, rfl, r2, hA⟩ := hA.cons_inv
  obtain ⟨v3, us, rfl, r3, hA⟩ := hA.cons_inv
  obtain rfl := hA.nil_inv
  obtain ⟨t1, rfl⟩ := r1.str_inv
  clear R r1 hA
  obtain ⟨a2, vs2, rfl, hT2, hA⟩ := r2.tuple_inv
  obtain ⟨u1, us, rfl, p1, hA⟩ := hA.cons_inv
  obtain ⟨u2, us, rfl, p2, hA⟩ := hA.cons_inv
  obtain rfl := hA.nil_inv
  obtain ⟨a3, vs3, rfl, hT3, hA⟩ := r3.tuple_inv
  obtain ⟨u3, us, rfl, p3, hA⟩ := hA.cons_inv
  obtain ⟨u4, us, rfl, p4, hA⟩ := hA.cons_inv
  obtain rfl := hA.nil_inv
  obtain ⟨t4, rfl⟩ := p4.int_inv
  clear r2 r3 hA
  refine enterC (news := []) X T (fun _ _ e => e) (Nat.le_refl _) (fun _ h => nomatch h) (by k_is) (by k_is) (by show dp < 1000; walk_at "ROOM") (BindsTo.of_eq rfl) rfl (by decide) rfl rfl rfl ?_
  intro L h₁ tk cells _ F N Y hlt
  clear hlt
  k_cells Y
  rename_i oc1 dc1
  (try simp only [List.cons_append, List.nil_append] at N)
  try dsimp only
  try k_fold
  walk_at "MY"
  (rename Fr _ _ _ _ => F'; rename News _ _ _ _ => N')
  refine Stop.of (atoms_all X₀ T₀ e _ _ _ _ _ _ _ _ W ρ n Γ _ _ (hg.trans F'.keep) (p2.keeps F'.keep) (RW.keeps F'.keep) (XE.keeps F'.keep) hwf hρ hW1 hW2 (by show dp + 1 + 5 < 700 + 0; walk_at "ROOM") (by show un + 3 + 50 < 5000 + 10 * 0; walk_at "ROOM") fun r1' h1 tk1 hk1 hr1 _ => ?_)
  obtain ⟨l1, avs1, rfl, hL1, hA1⟩ := hr1.list_inv
  have hn1 : avs1.length = (baseV W ρ e).length := by rw [hA1.length, encIs_length]
  have hb1 := base_len W ρ e hW1
  have F3 := F'.keeps hk1
  have N3 := N'.grown hk1
  clear F' N'
  walk_at "MY"
  refine Stop.of (my_len hL1 (by omega) ?_)
  walk_at "MY"
  rw [hn1]
  exact ret _ _ F3.keep
theorem ahold_inn {prog : Program} {w : World} {mean : ExcName → Option Value} {mg mb : Str → Option Value} {g : Heap} (X₀ : (hd.heap_39 w.params).In g) (T₀ : Top hd.view_39 (looseW hd.view_39 []) mean mg mb g) (e e2 : SE) : AHoldsSpec prog w g (.inn e e2) := by
  intro dp un fr gd s v wv ea W ρ n Γ Q E hg R RW XE hwf hρ hW1 hW2 hdp hun ret
  have X : (hd.heap_39 w.params).In s.heap := X₀.keeps hg
  have T : Top hd.view_39 (looseW hd.view_39 []) mean mg mb s.heap := T₀.keeps hg
  obtain ⟨a, vs, rfl, hT, hA⟩ := R.tuple_inv
  obtain ⟨v1, us, rfl, r1, hA⟩ := hA.cons_inv
  obtain ⟨v2, us, rfl, r2, hA⟩ := hA.cons_inv
  obtain ⟨v3, us, rfl, r3, hA⟩ := hA.cons_inv
  obtain rfl := hA.nil_inv
  obtain ⟨t1, rfl⟩ := r1.str_inv
  clear R r1 hA
  refine enterC (news := []) X T (fun _ _ e => e) (Nat.le_refl _) (fun _ h => nomatch h) (by k_is) (by k_is) (by show dp < 1000; walk_at "ROOM") (BindsTo.of_eq rfl) rfl (by decide) rfl rfl rfl ?_
  intro L h₁ tk cells _ F N Y hlt
  clear hlt
  k_cells Y
  rename_i oc1 dc1
  (try simp only [List.cons_append, List.nil_append] at N)
  try dsimp only
  try k_fold
  walk_at "MY"
  (rename Fr _ _ _ _ => F'; rename News _ _ _ _ => N')
  refine Stop.of (atoms_all X₀ T₀ e _ _ _ _ _ _ _ _ W ρ n Γ _ _ (hg.trans F'.keep) (r2.keeps F'.keep) (RW.keeps F'.keep) (XE.keeps F'.keep) hwf.1 hρ hW1 hW2 (by show dp + 1 + 5 < 700 + 0; walk_at "ROOM") (by show un + 3 + 50 < 5000 + 10 * 0; walk_at "ROOM") fun r1' h1 tk1 hk1 hr1 _ => ?_)
  obtain ⟨l1, avs1, rfl, hL1, hA1⟩ := hr1.list_inv
  have hn1 : avs1.length = (baseV W ρ e).length := by rw [hA1.length, encIs_length]
  have hb1 := base_len W ρ e hW1
  have F3 := F'.keeps hk1
  have N3 := N'.grown hk1
  clear F' N'
  obtain ⟨tl1, NT1, hT1, hLst1⟩ := adoptLst F3 hL1
  have N4 := N3.append NT1
  simp only [List.cons_append, List.nil_append] at N4
  clear N3 NT1 hL1 hr1
  walk_at "MY"
  (rename Fr _ _ _ _ => F'; rename News _ _ _ _ => N')
  refine Stop.of (atoms_all X₀ T₀ e2 _ _ _ _ _ _ _ _ W ρ n Γ _ _ (hg.trans F'.keep) (r3.keeps F'.keep) (RW.keeps F'.keep) (XE.keeps F'.keep) hwf.2 hρ hW1 hW2 (by show dp + 1 + 5 < 700 + 0; walk_at "ROOM") (by show un + 3 + 50 < 5000 + 10 * 0; walk_at "ROOM") fun r2' h2 tk2 hk2 hr2 _ => ?_)
  obtain ⟨l2, avs2, rfl, hL2, hA2⟩ := hr2.list_inv
  have hn2 : avs2.length = (baseV W ρ e2).length := by rw [hA2.length, encIs_length]
  have hb2 := base_len W ρ e2 hW1
  have F3 := F'.keeps hk2
  have N3 := N'.grown hk2
  clear F' N'
  have hL1 := hLst1 _ F3.keep fun p hp => (N3 p (by simp [hp])).1
  obtain ⟨tl2, NT2, hT2', hLst2⟩ := adoptLst F3 hL2
  have N4 := N3.append NT2
  simp only [List.cons_append, List.nil_append] at N4
  clear N3 NT2 hL2 hr2
  refine my_storeCell (c := L + 1) (rest := tl1 ++ tl2) F3 N4 (by k_mem) rfl dc1 (by
    intro p hp
    refine ⟨List.mem_cons_of_mem _ (by simpa using hp), .inr ?_⟩
    rcases List.mem_append.mp hp with hp | hp
    · exact (hT1 p hp).2.2
    · exact (hT2' p hp).2.2) rfl rfl fun h9 o1' F5 N5 d1' => ?_
  clear N4 F3 dc1
  walk_at "MY"
  refine Stop.of (comp_gen (by with_unfolding_all rfl) (by decide) (by with_unfolding_all rfl) (by decide) (by with_unfolding_all rfl) (by intro _; with_unfolding_all rfl) ?_)
  walk_at "MY"
  (rename Fr _ _ _ _ => F'; rename News _ _ _ _ => N')
  have hL1' := hLst1 _ F'.keep fun p hp => (N' p (by simp [hp])).1
  refine Stop.of (comp_list (vs := avs1) [] (fun i ys h => RdAll h ys (encIs (((baseV W ρ e).take i).filter fun a => !(baseV W ρ e2).contains a))) rfl hL1' (by omega) (fun _ h => nomatch h) ⟨?_, ?_, ?_, ?_⟩)
  · intro i ys h h' hj hk
    exact hj.stable (fun b o ho e => hk b o (.inl ho) e) tup_of_memI
  · exact .nil
  · rintro C i v ys h tk m hi hP hC hn hm hk hj
    obtain ⟨hil, t', rfl⟩ := ints_get hA1.ints hP
    refine wpAny_gen fun P0 hP0 => ?_
    refine wpAny_tests_one ?_
    have F2 := F'.keeps fun b o e => hk b o (fun h => nomatch h) e
    have N2 := N'.grown fun b o e => hk b o (fun h => nomatch h) e
    have hL2 := hLst2 _ F2.keep fun p hp => (N2 p (by simp [hp])).1
    walk_at "MY"
    refine Stop.of (my_notin (Rd.list hL2 (ints_rd hA2.ints)) (by show un + 3 + 64 < 9900; walk_at "ROOM") ?_)
    cases hc : (baseV W ρ e2).contains ((baseV W ρ e).getD i 0)
    · walk_at "MY"
      refine hP0 _ _ <| TurnEnd.intro (fun _ _ _ e => e) ?_
      simp only [Bool.not_false, if_true]
      walk_at "MY"
      refine TurnEnd.intro (fun _ _ _ e => e) ?_
      rw [filt_yes _ _ hil (by rw [hc]; rfl)]
      exact hj.snocInt _ _
    · walk_at "MY"
      refine hP0 _ _ <| TurnEnd.intro (fun _ _ _ e => e) ?_
      simp only [Bool.not_true, Bool.false_eq_true, if_false]
      rw [filt_no _ _ hil (by rw [hc]; rfl)]
      exact hj
  · rintro D h' tk ys hD ⟨nn, hDo⟩ hj hk
    have hk' : ∀ b o, _ → h'.get? b = some o := fun b o e => hk b o (fun h => nomatch h) e
    have F3 := F'.keeps hk'
    have N3 := news_new F' N' hk' hD hDo
    clear F' N'
    walk_at "MY"
    (rename Fr _ _ _ _ => F'; rename News _ _ _ _ => N')
    refine Stop.of (my_eq_ints (js := []) (Rd.list (N'.isList (show (D, _) ∈ _ by k_mem)) (ints_rd hj.ints)) (Rd.list (N'.isList (by k_mem)) .nil) (by show un + 3 + 64 < 9900; walk_at "ROOM") ?_)
    rw [hn1, List.take_length]
    exact ret _ _ F'.keep
theorem ahold_same {prog : Program} {w : World} {mean : ExcName → Option Value} {mg mb : Str → Option Value} {g : Heap} (X₀ : (hd.heap_39 w.params).In g) (T₀ : Top hd.view_39 (looseW hd.view_39 []) mean mg mb g) (e e2 : SE) : AHoldsSpec prog w g (.same e e2) := by
  intro dp un fr gd s v wv ea W ρ n Γ Q E hg R RW XE hwf hρ hW1 hW2 hdp hun ret
  have X : (hd.heap_39 w.params).In s.heap := X₀.keeps hg
  have T : Top hd.view_39 (looseW hd.view_39 []) mean mg mb s.heap := T₀.keeps hg
  obtain ⟨a, vs, rfl, hT, hA⟩ := R.tuple_inv
  obtain ⟨v1, us, rfl, r1, hA⟩ := hA.cons_inv
  obtain ⟨v2, us, rfl, r2, hA⟩ := hA.cons_inv
  obtain ⟨v3, us, rfl, r3, hA⟩ := hA.cons_inv
  obtain rfl := hA.nil_inv
  obtain ⟨t1, rfl⟩ := r1.str_inv
  clear R r1 hA
  refine enterC (news := []) X T (fun _ _ e => e) (Nat.le_refl _) (fun _ h => nomatch h) (by k_is) (by k_is) (by show dp < 1000; walk_at "ROOM") (BindsTo.of_eq rfl) rfl (by decide) rfl rfl rfl ?_
  intro L h₁ tk cells _ F N Y hlt
  clear hlt
  k_cells Y
  rename_i oc1 dc1
  (try simp only [List.cons_append, List.nil_append] at N)
  try dsimp only
  try k_fold
  walk_at "MY"
  (rename Fr _ _ _ _ => F'; rename News _ _ _ _ => N')
  refine Stop.of (atoms_all X₀ T₀ e _ _ _ _ _ _ _ _ W ρ n Γ _ _ (hg.trans F'.keep) (r2.keeps F'.keep) (RW.keeps F'.keep) (XE.keeps F'.keep) hwf.1 hρ hW1 hW2 (by show dp + 1 + 5 < 700 + 0; walk_at "ROOM") (by show un + 3 + 50 < 5000 + 10 * 0; walk_at "ROOM") fun r1' h1 tk1 hk1 hr1 _ => ?_)
  obtain ⟨l1, avs1, rfl, hL1, hA1⟩ := hr1.list_inv
  have hn1 : avs1.length = (baseV W ρ e).length := by rw [hA1.length, encIs_length]
  have hb1 := base_len W ρ e hW1
  have F3 := F'.keeps hk1
  have N3 := N'.grown hk1
  clear F' N'
  obtain ⟨tl1, NT1, hT1, hLst1⟩ := adoptLst F3 hL1
  have N4 := N3.append NT1
  simp only [List.cons_append, List.nil_append] at N4
  clear N3 NT1 hL1 hr1
  walk_at "MY"
  (rename Fr _ _ _ _ => F'; rename News _ _ _ _ => N')
  refine Stop.of (atoms_all X₀ T₀ e2 _ _ _ _ _ _ _ _ W ρ n Γ _ _ (hg.trans F'.keep) (r3.keeps F'.keep) (RW.keeps F'.keep) (XE.keeps F'.keep) hwf.2 hρ hW1 hW2 (by show dp + 1 + 5 < 700 + 0; walk_at "ROOM") (by show un + 3 + 50 < 5000 + 10 * 0; walk_at "ROOM") fun r2' h2 tk2 hk2 hr2 _ => ?_)
  obtain ⟨l2, avs2, rfl, hL2, hA2⟩ := hr2.list_inv
  have hn2 : avs2.length = (baseV W ρ e2).length := by rw [hA2.length, encIs_length]
  have hb2 := base_len W ρ e2 hW1
  have F3 := F'.keeps hk2
  have N3 := N'.grown hk2
  clear F' N'
  have hL1 := hLst1 _ F3.keep fun p hp => (N3 p (by simp [hp])).1
  refine (my_eq_ints (Rd.list hL1 (ints_rd hA1.ints)) (Rd.list hL2 hA2) (by show un + 3 + 64 < 9900; walk_at "ROOM") ?_)
  exact ret _ _ F3.keep
end


-- AHoldsM
theorem sel_atom (W : WorldV) (ρ : EnvV) (e : SE) {n : Nat} (h : n = (baseV W ρ e).length) (k : _root_.Fin 4) : sel4 (decide ((0 : Int) < (n : Int))) ((n : Int) == 0) ((n : Int) == 1) (decide ((n : Int) < 2)) k = atomV W ρ (.mult k e) := by
  have e0 : decide ((0 : Int) < (n : Int)) = decide (0 < n) := decide_eq_decide.mpr Int.natCast_pos
  have e1 : ((n : Int) == 0) = decide (n = 0) := decide_eq_decide.mpr Int.natCast_eq_zero
  have e2 : ((n : Int) == 1) = decide (n = 1) := decide_eq_decide.mpr Int.natCast_inj
  have e3 : decide ((n : Int) < 2) = decide (n < 2) := decide_eq_decide.mpr Int.ofNat_lt
  rw [e0, e1, e2, e3, h]
  rfl
theorem dict4 (t0 t1 t2 t3 : Tok) (b0 b1 b2 b3 : Bool) : ∀ k : _root_.Fin 4, valueAt (strPairs [(.str (Str.ofString "some") t0, .bool b0), (.str (Str.ofString "no") t1, .bool b1), (.str (Str.ofString "one") t2, .bool b2), (.str (Str.ofString "lone") t3, .bool b3)]) (Str.ofString (multName k)) = some (.bool (sel4 b0 b1 b2 b3 k)) :=
  fin4 (show valueAt _ (Str.ofString "some") = some (.bool b0) from by rfl) (show valueAt _ (Str.ofString "no") = some (.bool b1) from by rfl) (show valueAt _ (Str.ofString "one") = some (.bool b2) from by rfl) (show valueAt _ (Str.ofString "lone") = some (.bool b3) from by rfl)
theorem mult_no : ∀ k : _root_.Fin 4, (Str.ofString (multName k) == Str.ofString "le") = false ∧ (Str.ofString (multName k) == Str.ofString "in") = false ∧ (Str.ofString (multName k) == Str.ofString "same") = false := by decide
section
local macro_rules | `(tactic| walk_at "call builtin:len") => `(tactic| ((with_reducible show wpAny _ _ (call (Value.builtin "len") [Value.ref _]) _ _ _); refine Stop.mk ?_))
local macro_rules | `(tactic| walk_at "PAD") => `(tactic| fail "pad")
local macro_rules | `(tactic| walk_at "subscriptTail") => `(tactic| ((with_reducible show wpAny _ _ (subscriptTail _ _ (Value.ref _) (Value.str _ _)) _ _ _); refine Stop.mk ?_))
theorem ahold_m {prog : Program} {w : World} {mean : ExcName → Option Value} {mg mb : Str → Option Value} {g : Heap} (X₀ : (hd.heap_39 w.params).In g) (T₀ : Top hd.view_39 (looseW hd.view_39 []) mean mg mb g) (k : _root_.Fin 4) (e : SE) : AHoldsSpec prog w g (.mult k e) := by
  intro dp un fr gd s v wv ea W ρ n Γ Q E hg R RW XE hwf hρ hW1 hW2 hdp hun ret
  have X : (hd.heap_39 w.params).In s.heap := X₀.keeps hg
  have T : Top hd.view_39 (looseW hd.view_39 []) mean mg mb s.heap := T₀.keeps hg
  obtain ⟨a, vs, rfl, hT, hA⟩ := R.tuple_inv
  obtain ⟨v1, us, rfl, r1, hA⟩ := hA.cons_inv
  obtain ⟨v2, us, rfl, r2, hA⟩ := hA.cons_inv
  obtain rfl := hA.nil_inv
  obtain ⟨nm, hnm⟩ : ∃ nm, nm = multName k := ⟨_, rfl⟩
  have hle : (Str.ofString nm == Str.ofString "le") = false := hnm ▸ (mult_no k).1
  have hin : (Str.ofString nm == Str.ofString "in") = false := hnm ▸ (mult_no k).2.1
  have hsa : (Str.ofString nm == Str.ofString "same") = false := hnm ▸ (mult_no k).2.2
  replace r1 : Rd s.heap v1 (S nm) := hnm ▸ r1
  obtain ⟨t1, rfl⟩ := r1.str_inv
  clear R r1 hA
  refine enterC (news := []) X T (fun _ _ e => e) (Nat.le_refl _) (fun _ h => nomatch h) (by k_is) (by k_is) (by show dp < 1000; walk_at "ROOM") (BindsTo.of_eq rfl) rfl (by decide) rfl rfl rfl ?_
  intro L h₁ tk cells _ F N Y hlt
  clear hlt
  k_cells Y
  rename_i oc1 dc1
  (try simp only [List.cons_append, List.nil_append] at N)
  try dsimp only
  try k_fold
  walk_at "MY"
  (rename Fr _ _ _ _ => F'; rename News _ _ _ _ => N')
  refine Stop.of (atoms_all X₀ T₀ e _ _ _ _ _ _ _ _ W ρ n Γ _ _ (hg.trans F'.keep) (r2.keeps F'.keep) (RW.keeps F'.keep) (XE.keeps F'.keep) hwf hρ hW1 hW2 (by show dp + 1 + 5 < 700 + 0; walk_at "ROOM") (by show un + 3 + 50 < 5000 + 10 * 0; walk_at "ROOM") fun r1' h1 tk1 hk1 hr1 _ => ?_)
  obtain ⟨l1, avs1, rfl, hL1, hA1⟩ := hr1.list_inv
  have hn1 : avs1.length = (baseV W ρ e).length := by rw [hA1.length, encIs_length]
  have hb1 := base_len W ρ e hW1
  have F3 := F'.keeps hk1
  have N3 := N'.grown hk1
  clear F' N'
  obtain ⟨tl1, NT1, hT1, hLst1⟩ := adoptLst F3 hL1
  have N4 := N3.append NT1
  simp only [List.cons_append, List.nil_append] at N4
  clear N3 NT1 hL1 hr1
  walk_at "MY"
  (rename Fr _ _ _ _ => F'; rename News _ _ _ _ => N')
  have hL1 := hLst1 _ F'.keep fun p hp => (N' p (by simp [hp])).1
  refine Stop.of (my_len hL1 (by omega) ?_)
  walk_at "MY"
  refine Stop.of (my_len hL1 (by omega) ?_)
  walk_at "MY"
  refine Stop.of (my_len hL1 (by omega) ?_)
  walk_at "MY"
  refine Stop.of (my_len hL1 (by omega) ?_)
  walk_at "MY"
  (rename Fr _ _ _ _ => F'; rename News _ _ _ _ => N'; rename Obj.IsDictOf _ _ _ => hdO)
  refine Stop.of (kdt_tail N' (by k_mem) hdO (kdt_getItem N' (by k_mem) hdO (strKind_is _ _ _ _) (v := .bool (atomV W ρ (.mult k e))) ?hl ?_))
  case hl =>
    subst hnm
    refine (dict4 _ _ _ _ _ _ _ _ k).trans ?_
    rw [sel_atom W ρ e hn1 k]
  exact ret _ _ F'.keep
end
theorem ahold_all {prog : Program} {w : World} {mean : ExcName → Option Value} {mg mb : Str → Option Value} {g : Heap} (X₀ : (hd.heap_39 w.params).In g) (T₀ : Top hd.view_39 (looseW hd.view_39 []) mean mg mb g) : ∀ a : AT, AHoldsSpec prog w g a
  | .inn a b => ahold_inn X₀ T₀ a b
  | .same a b => ahold_same X₀ T₀ a b
  | .le a k => ahold_le X₀ T₀ a k
  | .mult k a => ahold_m X₀ T₀ k a


-- HoldsA
noncomputable def HoldsSpec (prog : Program) (w : World) (g : Heap) (f : Fm) : Prop :=
  ∀ (dp un : Nat) (fr : Option (List Env)) (gd : Option (List Code)) (s : Shared) (v wv : Value) (ea : Addr) (W : WorldV) (ρ : EnvV) (n : Nat) (Γ : List Str) (Q E : Value → Shared → Prop), Sub g s.heap → Rd s.heap v (enc f) → Rd s.heap wv (encW W) → EnvAt prog w s.heap ea n ρ →
    wf Γ f → DefOn Γ ρ → W.1.length ≤ 4 → W.2.length ≤ 4 → n + 2 * hgt f ≤ 800 → dp + 2 * hgt f + 20 < 700 → un + 20 * hgt f + 300 < 5000 →
    (∀ h' tk, Sub s.heap h' → Q (.bool (holdsV W f ρ)) { s with heap := h', toks := tk }) →
    wpAny (model prog w) ⟨none, dp, fr, gd, un⟩ (call (.ref 81) [v, wv, .ref ea]) Q E s
section
theorem hold_ctrue {prog : Program} {w : World} {mean : ExcName → Option Value} {mg mb : Str → Option Value} {g : Heap} (X₀ : (hd.heap_39 w.params).In g) (T₀ : Top hd.view_39 (looseW hd.view_39 []) mean mg mb g)  (IH : ∀ ff, hgt ff < hgt (.const true) → HoldsSpec prog w g ff) : HoldsSpec prog w g (.const true) := by
  intro dp un fr gd s v wv ea W ρ n Γ Q E hg R RW XE hwf hρ hW1 hW2 hn hdp hun ret
  have X : (hd.heap_39 w.params).In s.heap := X₀.keeps hg
  have T : Top hd.view_39 (looseW hd.view_39 []) mean mg mb s.heap := T₀.keeps hg
  obtain ⟨a, vs, rfl, hT, hA⟩ := R.tuple_inv
  obtain ⟨v1, us, rfl, r1, hA⟩ := hA.cons_inv
  obtain rfl := hA.nil_inv
  replace r1 : Rd s.heap v1 (S "true") := r1
  obtain ⟨t1, rfl⟩ := r1.str_inv
  clear r1 hA
  simp only [hgt_1, hgt_2, hgt_3, hgt_4, hgt_5, hgt_6, hgt_7] at hdp hun hn IH
  refine enter (news := []) X T (fun _ _ e => e) (Nat.le_refl _) (fun _ h => nomatch h) (by k_is) (by k_is) (by show dp < 1000; walk_at "ROOM") (BindsTo.of_eq rfl) (locs rfl) rfl rfl rfl (by decide) ?_
  intro L h₁ hLs F N
  try dsimp only
  try k_fold
  walk_at "MY"
  (rename Fr _ _ _ _ => F')
  exact ret _ _ F'.keep
theorem hold_cfalse {prog : Program} {w : World} {mean : ExcName → Option Value} {mg mb : Str → Option Value} {g : Heap} (X₀ : (hd.heap_39 w.params).In g) (T₀ : Top hd.view_39 (looseW hd.view_39 []) mean mg mb g)  (IH : ∀ ff, hgt ff < hgt (.const false) → HoldsSpec prog w g ff) : HoldsSpec prog w g (.const false) := by
  intro dp un fr gd s v wv ea W ρ n Γ Q E hg R RW XE hwf hρ hW1 hW2 hn hdp hun ret
  have X : (hd.heap_39 w.params).In s.heap := X₀.keeps hg
  have T : Top hd.view_39 (looseW hd.view_39 []) mean mg mb s.heap := T₀.keeps hg
  obtain ⟨a, vs, rfl, hT, hA⟩ := R.tuple_inv
  obtain ⟨v1, us, rfl, r1, hA⟩ := hA.cons_inv
  obtain rfl := hA.nil_inv
  replace r1 : Rd s.heap v1 (S "false") := r1
  obtain ⟨t1, rfl⟩ := r1.str_inv
  clear r1 hA
  simp only [hgt_1, hgt_2, hgt_3, hgt_4, hgt_5, hgt_6, hgt_7] at hdp hun hn IH
  refine enter (news := []) X T (fun _ _ e => e) (Nat.le_refl _) (fun _ h => nomatch h) (by k_is) (by k_is) (by show dp < 1000; walk_at "ROOM") (BindsTo.of_eq rfl) (locs rfl) rfl rfl rfl (by decide) ?_
  intro L h₁ hLs F N
  try dsimp only
  try k_fold
  walk_at "MY"
  (rename Fr _ _ _ _ => F')
  exact ret _ _ F'.keep
theorem hold_not {prog : Program} {w : World} {mean : ExcName → Option Value} {mg mb : Str → Option Value} {g : Heap} (X₀ : (hd.heap_39 w.params).In g) (T₀ : Top hd.view_39 (looseW hd.view_39 []) mean mg mb g) (f1 : Fm) (IH : ∀ ff, hgt ff < hgt (.not f1) → HoldsSpec prog w g ff) : HoldsSpec prog w g (.not f1) := by
  intro dp un fr gd s v wv ea W ρ n Γ Q E hg R RW XE hwf hρ hW1 hW2 hn hdp hun ret
  have X : (hd.heap_39 w.params).In s.heap := X₀.keeps hg
  have T : Top hd.view_39 (looseW hd.view_39 []) mean mg mb s.heap := T₀.keeps hg
  obtain ⟨a, vs, rfl, hT, hA⟩ := R.tuple_inv
  obtain ⟨v1, us, rfl, r1, hA⟩ := hA.cons_inv
  obtain ⟨v2, us, rfl, r2, hA⟩ := hA.cons_inv
  obtain rfl := hA.nil_inv
  replace r1 : Rd s.heap v1 (S "not") := r1
  obtain ⟨t1, rfl⟩ := r1.str_inv
  clear r1 hA
  simp only [hgt_1, hgt_2, hgt_3, hgt_4, hgt_5, hgt_6, hgt_7] at hdp hun hn IH
  refine enter (news := []) X T (fun _ _ e => e) (Nat.le_refl _) (fun _ h => nomatch h) (by k_is) (by k_is) (by show dp < 1000; walk_at "ROOM") (BindsTo.of_eq rfl) (locs rfl) rfl rfl rfl (by decide) ?_
  intro L h₁ hLs F N
  try dsimp only
  try k_fold
  walk_at "MY"
  simp only [wf_1, wf_2, wf_3, wf_4, wf_5, wf_6, wf_7] at hwf
  (rename Fr _ _ _ _ => F'; rename News _ _ _ _ => N')
  refine Stop.of (IH f1 (by omega) _ _ _ _ _ _ _ _ W ρ n Γ _ _ (hg.trans F'.keep) (r2.keeps F'.keep) (RW.keeps F'.keep) (XE.keeps F'.keep) hwf hρ hW1 hW2 (by omega) (by show dp + 1 + 2 * hgt f1 + 20 < 700; walk_at "ROOM") (by show un + 3 + 20 * hgt f1 + 300 < 5000; walk_at "ROOM") fun h' tk' hk => ?_)
  have F3 := F'.keeps hk
  have N3 := N'.grown hk
  clear F' N'
  simp only [holdsV_1, holdsV_2, holdsV_3, holdsV_4, holdsV_5, holdsV_6, holdsV_7] at ret
  cases hb : holdsV W f1 ρ
  all_goals
    rw [hb] at ret
    walk_at "MY"
    exact ret _ _ F3.keep
theorem hold_imp {prog : Program} {w : World} {mean : ExcName → Option Value} {mg mb : Str → Option Value} {g : Heap} (X₀ : (hd.heap_39 w.params).In g) (T₀ : Top hd.view_39 (looseW hd.view_39 []) mean mg mb g) (f1 f2 : Fm) (IH : ∀ ff, hgt ff < hgt (.imp f1 f2) → HoldsSpec prog w g ff) : HoldsSpec prog w g (.imp f1 f2) := by
  intro dp un fr gd s v wv ea W ρ n Γ Q E hg R RW XE hwf hρ hW1 hW2 hn hdp hun ret
  have X : (hd.heap_39 w.params).In s.heap := X₀.keeps hg
  have T : Top hd.view_39 (looseW hd.view_39 []) mean mg mb s.heap := T₀.keeps hg
  obtain ⟨a, vs, rfl, hT, hA⟩ := R.tuple_inv
  obtain ⟨v1, us, rfl, r1, hA⟩ := hA.cons_inv
  obtain ⟨v2, us, rfl, r2, hA⟩ := hA.cons_inv
  obtain ⟨v3, us, rfl, r3, hA⟩ := hA.cons_inv
  obtain rfl := hA.nil_inv
  replace r1 : Rd s.heap v1 (S "implies") := r1
  obtain ⟨t1, rfl⟩ := r1.str_inv
  clear r1 hA
  simp only [hgt_1, hgt_2, hgt_3, hgt_4, hgt_5, hgt_6, hgt_7] at hdp hun hn IH
  refine enter (news := []) X T (fun _ _ e => e) (Nat.le_refl _) (fun _ h => nomatch h) (by k_is) (by k_is) (by show dp < 1000; walk_at "ROOM") (BindsTo.of_eq rfl) (locs rfl) rfl rfl rfl (by decide) ?_
  intro L h₁ hLs F N
  try dsimp only
  try k_fold
  walk_at "MY"
  simp only [wf_1, wf_2, wf_3, wf_4, wf_5, wf_6, wf_7] at hwf
  (rename Fr _ _ _ _ => F'; rename News _ _ _ _ => N')
  refine Stop.of (IH f1 (by omega) _ _ _ _ _ _ _ _ W ρ n Γ _ _ (hg.trans F'.keep) (r2.keeps F'.keep) (RW.keeps F'.keep) (XE.keeps F'.keep) hwf.1 hρ hW1 hW2 (by omega) (by show dp + 1 + 2 * hgt f1 + 20 < 700; walk_at "ROOM") (by show un + 3 + 20 * hgt f1 + 300 < 5000; walk_at "ROOM") fun h' tk' hk => ?_)
  have F3 := F'.keeps hk
  have N3 := N'.grown hk
  clear F' N'
  simp only [holdsV_1, holdsV_2, holdsV_3, holdsV_4, holdsV_5, holdsV_6, holdsV_7] at ret
  cases hb : holdsV W f1 ρ
  · rw [hb] at ret
    walk_at "MY"
    exact ret _ _ F3.keep
  · rw [hb] at ret
    walk_at "MY"
    (rename Fr _ _ _ _ => F'; rename News _ _ _ _ => N')
    refine Stop.of (IH f2 (by omega) _ _ _ _ _ _ _ _ W ρ n Γ _ _ (hg.trans F'.keep) (r3.keeps F'.keep) (RW.keeps F'.keep) (XE.keeps F'.keep) hwf.2 hρ hW1 hW2 (by omega) (by show dp + 1 + 2 * hgt f2 + 20 < 700; walk_at "ROOM") (by show un + 3 + 20 * hgt f2 + 300 < 5000; walk_at "ROOM") fun h2' tk2' hk2 => ?_)
    exact ret _ _ (fun _ _ e => hk2 _ _ (F'.keep _ _ e))
theorem hold_iff {prog : Program} {w : World} {mean : ExcName → Option Value} {mg mb : Str → Option Value} {g : Heap} (X₀ : (hd.heap_39 w.params).In g) (T₀ : Top hd.view_39 (looseW hd.view_39 []) mean mg mb g) (f1 f2 : Fm) (IH : ∀ ff, hgt ff < hgt (.iff f1 f2) → HoldsSpec prog w g ff) : HoldsSpec prog w g (.iff f1 f2) := by
  intro dp un fr gd s v wv ea W ρ n Γ Q E hg R RW XE hwf hρ hW1 hW2 hn hdp hun ret
  have X : (hd.heap_39 w.params).In s.heap := X₀.keeps hg
  have T : Top hd.view_39 (looseW hd.view_39 []) mean mg mb s.heap := T₀.keeps hg
  obtain ⟨a, vs, rfl, hT, hA⟩ := R.tuple_inv
  obtain ⟨v1, us, rfl, r1, hA⟩ := hA.cons_inv
  obtain ⟨v2, us, rfl, r2, hA⟩ := hA.cons_inv
  obtain ⟨v3, us, rfl, r3, hA⟩ := hA.cons_inv
  obtain rfl := hA.nil_inv
  replace r1 : Rd s.heap v1 (S "iff") := r1
  obtain ⟨t1, rfl⟩ := r1.str_inv
  clear r1 hA
  simp only [hgt_1, hgt_2, hgt_3, hgt_4, hgt_5, hgt_6, hgt_7] at hdp hun hn IH
  refine enter (news := []) X T (fun _ _ e => e) (Nat.le_refl _) (fun _ h => nomatch h) (by k_is) (by k_is) (by show dp < 1000; walk_at "ROOM") (BindsTo.of_eq rfl) (locs rfl) rfl rfl rfl (by decide) ?_
  intro L h₁ hLs F N
  try dsimp only
  try k_fold
  walk_at "MY"
  simp only [wf_1, wf_2, wf_3, wf_4, wf_5, wf_6, wf_7] at hwf
  (rename Fr _ _ _ _ => F'; rename News _ _ _ _ => N')
  refine Stop.of (IH f1 (by omega) _ _ _ _ _ _ _ _ W ρ n Γ _ _ (hg.trans F'.keep) (r2.keeps F'.keep) (RW.keeps F'.keep) (XE.keeps F'.keep) hwf.1 hρ hW1 hW2 (by omega) (by show dp + 1 + 2 * hgt f1 + 20 < 700; walk_at "ROOM") (by show un + 3 + 20 * hgt f1 + 300 < 5000; walk_at "ROOM") fun h' tk' hk => ?_)
  have F3 := F'.keeps hk
  have N3 := N'.grown hk
  clear F' N'
  simp only [holdsV_1, holdsV_2, holdsV_3, holdsV_4, holdsV_5, holdsV_6, holdsV_7] at ret
  walk_at "MY"
  (rename Fr _ _ _ _ => F'; rename News _ _ _ _ => N')
  refine Stop.of (IH f2 (by omega) _ _ _ _ _ _ _ _ W ρ n Γ _ _ (hg.trans F'.keep) (r3.keeps F'.keep) (RW.keeps F'.keep) (XE.keeps F'.keep) hwf.2 hρ hW1 hW2 (by omega) (by show dp + 1 + 2 * hgt f2 + 20 < 700; walk_at "ROOM") (by show un + 3 + 20 * hgt f2 + 300 < 5000; walk_at "ROOM") fun h2' tk2' hk2 => ?_)
  have F4 := F'.keeps hk2
  clear F' N'
  cases hb : holdsV W f1 ρ <;> cases hb2 : holdsV W f2 ρ
  all_goals
    rw [hb, hb2] at ret
    walk_at "MY"
    exact ret _ _ F4.keep
end


-- HoldsB
section
theorem hold_atom2 {prog : Program} {w : World} {mean : ExcName → Option Value} {mg mb : Str → Option Value} {g : Heap} (X₀ : (hd.heap_39 w.params).In g) (T₀ : Top hd.view_39 (looseW hd.view_39 []) mean mg mb g) (at' : AT) (nm : String) (d2 : PyData) (henc : encA at' = .tuple [S nm, d2])
    (h1 : (Str.ofString nm == Str.ofString "true") = false) (h2 : (Str.ofString nm == Str.ofString "false") = false) (h3 : (Str.ofString nm == Str.ofString "not") = false) (h4 : (Str.ofString nm == Str.ofString "and") = false) (h5 : (Str.ofString nm == Str.ofString "or") = false)
    (h6 : (Str.ofString nm == Str.ofString "implies") = false) (h7 : (Str.ofString nm == Str.ofString "iff") = false) (h8 : (Str.ofString nm == Str.ofString "all") = false) (h9 : (Str.ofString nm == Str.ofString "exists") = false) : HoldsSpec prog w g (.atom at') := by
  intro dp un fr gd s v wv ea W ρ n Γ Q E hg R RW XE hwf hρ hW1 hW2 hn hdp hun ret
  have X : (hd.heap_39 w.params).In s.heap := X₀.keeps hg
  have T : Top hd.view_39 (looseW hd.view_39 []) mean mg mb s.heap := T₀.keeps hg
  have R1 : Rd s.heap v (encA at') := R
  have R0 := R1
  rw [henc] at R0
  obtain ⟨a, vs, rfl, hT, hA⟩ := R0.tuple_inv
  obtain ⟨v1, us, rfl, r1, hA⟩ := hA.cons_inv
  obtain ⟨v2, us, rfl, r2, hA⟩ := hA.cons_inv
  obtain rfl := hA.nil_inv
  obtain ⟨t1, rfl⟩ := r1.str_inv
  clear r1 hA R
  simp only [hgt_1, hgt_2, hgt_3, hgt_4, hgt_5, hgt_6, hgt_7] at hdp hun hn
  refine enter (news := []) X T (fun _ _ e => e) (Nat.le_refl _) (fun _ h => nomatch h) (by k_is) (by k_is) (by show dp < 1000; walk_at "ROOM") (BindsTo.of_eq rfl) (locs rfl) rfl rfl rfl (by decide) ?_
  intro L h₁ hLs F N
  try dsimp only
  try k_fold
  walk_at "MY"
  (rename Fr _ _ _ _ => F')
  refine Stop.of (ahold_all X₀ T₀ at' _ _ _ _ _ _ _ _ W ρ n Γ _ _ (hg.trans F'.keep) (R1.keeps F'.keep) (RW.keeps F'.keep) (XE.keeps F'.keep) hwf hρ hW1 hW2 (by show dp + 1 + 10 < 700; walk_at "ROOM") (by show un + 3 + 100 < 5000; walk_at "ROOM") fun h' tk' hk => ?_)
  exact ret _ _ (fun _ _ e => hk _ _ (F'.keep _ _ e))
theorem hold_atom3 {prog : Program} {w : World} {mean : ExcName → Option Value} {mg mb : Str → Option Value} {g : Heap} (X₀ : (hd.heap_39 w.params).In g) (T₀ : Top hd.view_39 (looseW hd.view_39 []) mean mg mb g) (at' : AT) (nm : String) (d2 d3 : PyData) (henc : encA at' = .tuple [S nm, d2, d3])
    (h1 : (Str.ofString nm == Str.ofString "true") = false) (h2 : (Str.ofString nm == Str.ofString "false") = false) (h3 : (Str.ofString nm == Str.ofString "not") = false) (h4 : (Str.ofString nm == Str.ofString "and") = false) (h5 : (Str.ofString nm == Str.ofString "or") = false)
    (h6 : (Str.ofString nm == Str.ofString "implies") = false) (h7 : (Str.ofString nm == Str.ofString "iff") = false) (h8 : (Str.ofString nm == Str.ofString "all") = false) (h9 : (Str.ofString nm == Str.ofString "exists") = false) : HoldsSpec prog w g (.atom at') := by
  intro dp un fr gd s v wv ea W ρ n Γ Q E hg R RW XE hwf hρ hW1 hW2 hn hdp hun ret
  have X : (hd.heap_39 w.params).In s.heap := X₀.keeps hg
  have T : Top hd.view_39 (looseW hd.view_39 []) mean mg mb s.heap := T₀.keeps hg
  have R1 : Rd s.heap v (encA at') := R
  have R0 := R1
  rw [henc] at R0
  obtain ⟨a, vs, rfl, hT, hA⟩ := R0.tuple_inv
  obtain ⟨v1, us, rfl, r1, hA⟩ := hA.cons_inv
  obtain ⟨v2, us, rfl, r2, hA⟩ := hA.cons_inv
  obtain ⟨v3, us, rfl, r3, hA⟩ := hA.cons_inv
  obtain rfl := hA.nil_inv
  obtain ⟨t1, rfl⟩ := r1.str_inv
  clear r1 hA R
  simp only [hgt_1, hgt_2, hgt_3, hgt_4, hgt_5, hgt_6, hgt_7] at hdp hun hn
  refine enter (news := []) X T (fun _ _ e => e) (Nat.le_refl _) (fun _ h => nomatch h) (by k_is) (by k_is) (by show dp < 1000; walk_at "ROOM") (BindsTo.of_eq rfl) (locs rfl) rfl rfl rfl (by decide) ?_
  intro L h₁ hLs F N
  try dsimp only
  try k_fold
  walk_at "MY"
  (rename Fr _ _ _ _ => F')
  refine Stop.of (ahold_all X₀ T₀ at' _ _ _ _ _ _ _ _ W ρ n Γ _ _ (hg.trans F'.keep) (R1.keeps F'.keep) (RW.keeps F'.keep) (XE.keeps F'.keep) hwf hρ hW1 hW2 (by show dp + 1 + 10 < 700; walk_at "ROOM") (by show un + 3 + 100 < 5000; walk_at "ROOM") fun h' tk' hk => ?_)
  exact ret _ _ (fun _ _ e => hk _ _ (F'.keep _ _ e))
end


-- HoldsJ
theorem drop_of {α : Type} {l : List α} {i : Nat} {x : α} (h : l[i]? = some x) : l.drop i = x :: l.drop (i + 1) := by
  obtain ⟨hi, e⟩ := List.getElem?_eq_some_iff.mp h
  rw [List.drop_eq_getElem_cons hi, e]
theorem quant_end (W : WorldV) (c : Bool) (f : Fm) (l : List EnvV) (h : ∀ k, k < l.length → ∀ ρ', l[k]? = some ρ' → holdsV W f ρ' = c) : (if c then l.all fun ρ' => holdsV W f ρ' else l.any fun ρ' => holdsV W f ρ') = c := by
  have hm : ∀ ρ' ∈ l, holdsV W f ρ' = c := fun ρ' hρ => by
    obtain ⟨k, hk, e⟩ := List.mem_iff_getElem.mp hρ
    exact h k hk ρ' (by rw [List.getElem?_eq_getElem hk, e])
  cases c
  · simp only [Bool.false_eq_true, if_false]
    rw [List.any_eq_false]
    intro x hx; rw [hm x hx]; decide
  · simp only [if_true]
    rw [List.all_eq_true]
    intro x hx; exact hm x hx
theorem quant_out (W : WorldV) (c : Bool) (f : Fm) (l : List EnvV) (ρ' : EnvV) (hl : ρ' ∈ l) (h : holdsV W f ρ' = !c) : (if c then l.all fun ρ' => holdsV W f ρ' else l.any fun ρ' => holdsV W f ρ') = !c := by
  cases c
  · simp only [Bool.false_eq_true, if_false, Bool.not_false]
    rw [List.any_eq_true]
    exact ⟨ρ', hl, by simpa using h⟩
  · simp only [if_true, Bool.not_true]
    rw [List.all_eq_false]
    exact ⟨ρ', hl, by rw [h]; decide⟩
section
theorem hold_and {prog : Program} {w : World} {mean : ExcName → Option Value} {mg mb : Str → Option Value} {g : Heap} (X₀ : (hd.heap_39 w.params).In g) (T₀ : Top hd.view_39 (looseW hd.view_39 []) mean mg mb g) (fs : List Fm) (IH : ∀ ff, hgt ff < hgt (.junc true fs) → HoldsSpec prog w g ff) : HoldsSpec prog w g (.junc true fs) := by
  intro dp un fr gd s v wv ea W ρ n Γ Q E hg R RW XE hwf hρ hW1 hW2 hn hdp hun ret
  have X : (hd.heap_39 w.params).In s.heap := X₀.keeps hg
  have T : Top hd.view_39 (looseW hd.view_39 []) mean mg mb s.heap := T₀.keeps hg
  obtain ⟨a, vs, rfl, hT, hA⟩ := R.tuple_inv
  obtain ⟨v1, us, rfl, r1, hA⟩ := hA.cons_inv
  obtain ⟨v2, us, rfl, r2, hA⟩ := hA.cons_inv
  obtain rfl := hA.nil_inv
  replace r1 : Rd s.heap v1 (S "and") := r1
  obtain ⟨t1, rfl⟩ := r1.str_inv
  clear r1 hA
  simp only [hgt_1, hgt_2, hgt_3, hgt_4, hgt_5, hgt_6, hgt_7] at hdp hun hn IH
  refine enter (news := []) X T (fun _ _ e => e) (Nat.le_refl _) (fun _ h => nomatch h) (by k_is) (by k_is) (by show dp < 1000; walk_at "ROOM") (BindsTo.of_eq rfl) (locs rfl) rfl rfl rfl (by decide) ?_
  intro L h₁ hLs F N
  try dsimp only
  try k_fold
  walk_at "MY"
  obtain ⟨hlen, hwfs⟩ := (show fs.length ≤ 3 ∧ wfs Γ fs from hwf)
  obtain ⟨b2, ks, rfl, hT2, hK⟩ := r2.tuple_inv
  simp only [holdsV_1, holdsV_2, holdsV_3, holdsV_4, holdsV_5, holdsV_6, holdsV_7] at ret
  have hkl : ks.length = fs.length := by rw [hK.length, encs_length]
  refine Stop.of (for_gen (by intro _; with_unfolding_all rfl) ?_)
  walk_at "MY"
  (rename Fr _ _ _ _ => F'; rename News _ _ _ _ => N')
  refine Stop.of (for_tupU (base := s.heap) (fun i m h => m (Str.ofString "world") = some wv ∧ m (Str.ofString "env") = some (.ref ea) ∧ m (Str.ofString "op") = some (.str (Str.ofString "and") t1) ∧ juncV W true fs ρ = juncV W true (fs.drop i) ρ) [] rfl (hT2.keeps F'.keep) (by with_unfolding_all rfl) (by with_unfolding_all rfl) F' News.nil ⟨?_, ?_, ?_, ?_⟩)
  · intro i m h h' e _; exact e
  · exact ⟨rfl, rfl, rfl, rfl⟩
  · intro i v m₁ m₂ h tk own hi hP hU hJ F₁ N₁ hown Nk
    refine wpAny_gen fun P0 hP0 => ?_
    cases hU
    obtain ⟨a1, a2, a3, a4⟩ := hJ
    clear Nk
    replace F₁ : Fr s.heap L h _ := F₁
    replace N₁ : News s.heap L h own := N₁
    obtain ⟨d, hd, rd⟩ := hK.get hP
    obtain ⟨f', hf', rfl⟩ := encs_get hd
    obtain ⟨w1, w2⟩ := wfs_get hwfs hf'
    have F₂ := Fr.p1k3 F₁ a1 a2 a3
    clear F₁ F' N'
    walk_at "MY"
    (rename Fr _ _ _ _ => F'; rename News _ _ _ _ => N')
    refine Stop.of (IH f' (by omega) _ _ _ _ _ _ _ _ W ρ n Γ _ _ (hg.trans F'.keep) (rd.keeps F'.keep) (RW.keeps F'.keep) (XE.keeps F'.keep) w1 hρ hW1 hW2 (by omega) (by show dp + 1 + 2 * hgt f' + 20 < 700; walk_at "ROOM") (by show un + 3 + 20 * hgt f' + 300 < 5000; walk_at "ROOM") fun h' tk' hk => ?_)
    have F3 := F'.keeps hk
    have N3 := N'.grown hk
    clear F' N'
    rw [drop_of hf'] at a4
    simp only [juncV_1, juncV_2] at a4
    cases hb : holdsV W f' ρ
    · rw [if_neg (by rw [hb]; decide)] at a4
      rw [a4] at ret
      walk_at "MY"
      exact hP0 _ _ (ret _ _ F3.keep)
    · walk_at "MY"
      refine hP0 _ _ <| ForEnd.next F3 (fun p hp => (N3 p (by rw [List.append_nil] at hp; exact hp)).1) ⟨rfl, rfl, rfl, ?_⟩
      rw [a4, if_pos hb]
  · rintro m₁ h tk ⟨a1, a2, a3, a4⟩ F₁ Nk
    replace F₁ : Fr s.heap L h _ := F₁
    have F₂ := Fr.p0k1 F₁ a3
    clear F₁ F' N' Nk
    rw [hkl, List.drop_length] at a4
    simp only [juncV_1, juncV_2] at a4
    rw [a4] at ret
    walk_at "MY"
    exact ret _ _ F₂.keep
theorem hold_or {prog : Program} {w : World} {mean : ExcName → Option Value} {mg mb : Str → Option Value} {g : Heap} (X₀ : (hd.heap_39 w.params).In g) (T₀ : Top hd.view_39 (looseW hd.view_39 []) mean mg mb g) (fs : List Fm) (IH : ∀ ff, hgt ff < hgt (.junc false fs) → HoldsSpec prog w g ff) : HoldsSpec prog w g (.junc false fs) := by
  intro dp un fr gd s v wv ea W ρ n Γ Q E hg R RW XE hwf hρ hW1 hW2 hn hdp hun ret
  have X : (hd.heap_39 w.params).In s.heap := X₀.keeps hg
  have T : Top hd.view_39 (looseW hd.view_39 []) mean mg mb s.heap := T₀.keeps hg
  obtain ⟨a, vs, rfl, hT, hA⟩ := R.tuple_inv
  obtain ⟨v1, us, rfl, r1, hA⟩ := hA.cons_inv
  obtain ⟨v2, us, rfl, r2, hA⟩ := hA.cons_inv
  obtain rfl := hA.nil_inv
  replace r1 : Rd s.heap v1 (S "or") := r1
  obtain ⟨t1, rfl⟩ := r1.str_inv
  clear r1 hA
  simp only [hgt_1, hgt_2, hgt_3, hgt_4, hgt_5, hgt_6, hgt_7] at hdp hun hn IH
  refine enter (news := []) X T (fun _ _ e => e) (Nat.le_refl _) (fun _ h => nomatch h) (by k_is) (by k_is) (by show dp < 1000; walk_at "ROOM") (BindsTo.of_eq rfl) (locs rfl) rfl rfl rfl (by decide) ?_
  intro L h₁ hLs F N
  try dsimp only
  try k_fold
  walk_at "MY"
  obtain ⟨hlen, hwfs⟩ := (show fs.length ≤ 3 ∧ wfs Γ fs from hwf)
  obtain ⟨b2, ks, rfl, hT2, hK⟩ := r2.tuple_inv
  simp only [holdsV_1, holdsV_2, holdsV_3, holdsV_4, holdsV_5, holdsV_6, holdsV_7] at ret
  have hkl : ks.length = fs.length := by rw [hK.length, encs_length]
  refine Stop.of (for_gen (by intro _; with_unfolding_all rfl) ?_)
  walk_at "MY"
  (rename Fr _ _ _ _ => F'; rename News _ _ _ _ => N')
  refine Stop.of (for_tupU (base := s.heap) (fun i m h => m (Str.ofString "world") = some wv ∧ m (Str.ofString "env") = some (.ref ea) ∧ m (Str.ofString "op") = some (.str (Str.ofString "or") t1) ∧ juncV W false fs ρ = juncV W false (fs.drop i) ρ) [] rfl (hT2.keeps F'.keep) (by with_unfolding_all rfl) (by with_unfolding_all rfl) F' News.nil ⟨?_, ?_, ?_, ?_⟩)
  · intro i m h h' e _; exact e
  · exact ⟨rfl, rfl, rfl, rfl⟩
  · intro i v m₁ m₂ h tk own hi hP hU hJ F₁ N₁ hown Nk
    refine wpAny_gen fun P0 hP0 => ?_
    cases hU
    obtain ⟨a1, a2, a3, a4⟩ := hJ
    clear Nk
    replace F₁ : Fr s.heap L h _ := F₁
    replace N₁ : News s.heap L h own := N₁
    obtain ⟨d, hd, rd⟩ := hK.get hP
    obtain ⟨f', hf', rfl⟩ := encs_get hd
    obtain ⟨w1, w2⟩ := wfs_get hwfs hf'
    have F₂ := Fr.p1k3 F₁ a1 a2 a3
    clear F₁ F' N'
    walk_at "MY"
    (rename Fr _ _ _ _ => F'; rename News _ _ _ _ => N')
    refine Stop.of (IH f' (by omega) _ _ _ _ _ _ _ _ W ρ n Γ _ _ (hg.trans F'.keep) (rd.keeps F'.keep) (RW.keeps F'.keep) (XE.keeps F'.keep) w1 hρ hW1 hW2 (by omega) (by show dp + 1 + 2 * hgt f' + 20 < 700; walk_at "ROOM") (by show un + 3 + 20 * hgt f' + 300 < 5000; walk_at "ROOM") fun h' tk' hk => ?_)
    have F3 := F'.keeps hk
    have N3 := N'.grown hk
    clear F' N'
    rw [drop_of hf'] at a4
    simp only [juncV_1, juncV_2] at a4
    cases hb : holdsV W f' ρ
    · walk_at "MY"
      refine hP0 _ _ <| ForEnd.next F3 (fun p hp => (N3 p (by rw [List.append_nil] at hp; exact hp)).1) ⟨rfl, rfl, rfl, ?_⟩
      rw [a4, if_pos hb]
    · rw [if_neg (by rw [hb]; decide)] at a4
      rw [a4] at ret
      walk_at "MY"
      exact hP0 _ _ (ret _ _ F3.keep)
  · rintro m₁ h tk ⟨a1, a2, a3, a4⟩ F₁ Nk
    replace F₁ : Fr s.heap L h _ := F₁
    have F₂ := Fr.p0k1 F₁ a3
    clear F₁ F' N' Nk
    rw [hkl, List.drop_length] at a4
    simp only [juncV_1, juncV_2] at a4
    rw [a4] at ret
    walk_at "MY"
    exact ret _ _ F₂.keep
theorem hold_all {prog : Program} {w : World} {mean : ExcName → Option Value} {mg mb : Str → Option Value} {g : Heap} (X₀ : (hd.heap_39 w.params).In g) (T₀ : Top hd.view_39 (looseW hd.view_39 []) mean mg mb g) (ds : List (Str × SE)) (f1 : Fm) (IH : ∀ ff, hgt ff < hgt (.quant true ds f1) → HoldsSpec prog w g ff) : HoldsSpec prog w g (.quant true ds f1) := by
  intro dp un fr gd s v wv ea W ρ n Γ Q E hg R RW XE hwf hρ hW1 hW2 hn hdp hun ret
  have X : (hd.heap_39 w.params).In s.heap := X₀.keeps hg
  have T : Top hd.view_39 (looseW hd.view_39 []) mean mg mb s.heap := T₀.keeps hg
  obtain ⟨a, vs, rfl, hT, hA⟩ := R.tuple_inv
  obtain ⟨v1, us, rfl, r1, hA⟩ := hA.cons_inv
  obtain ⟨v2, us, rfl, r2, hA⟩ := hA.cons_inv
  obtain ⟨v3, us, rfl, r3, hA⟩ := hA.cons_inv
  obtain rfl := hA.nil_inv
  replace r1 : Rd s.heap v1 (S "all") := r1
  obtain ⟨t1, rfl⟩ := r1.str_inv
  clear r1 hA
  simp only [hgt_1, hgt_2, hgt_3, hgt_4, hgt_5, hgt_6, hgt_7] at hdp hun hn IH
  refine enter (news := []) X T (fun _ _ e => e) (Nat.le_refl _) (fun _ h => nomatch h) (by k_is) (by k_is) (by show dp < 1000; walk_at "ROOM") (BindsTo.of_eq rfl) (locs rfl) rfl rfl rfl (by decide) ?_
  intro L h₁ hLs F N
  try dsimp only
  try k_fold
  walk_at "MY"
  simp only [wf_1, wf_2, wf_3, wf_4, wf_5, wf_6, wf_7] at hwf
  have hq : holdsV W (.quant true ds f1) ρ = (if true then (choicesV W ds [ρ]).all fun ρ' => holdsV W f1 ρ' else (choicesV W ds [ρ]).any fun ρ' => holdsV W f1 ρ') := by simp only [holdsV_1, holdsV_2, holdsV_3, holdsV_4, holdsV_5, holdsV_6, holdsV_7]
  rw [hq] at ret
  have heaL : ea ≠ L := by
    obtain ⟨o, ho, _⟩ := XE.dictO
    rw [hLs]; exact Nat.ne_of_lt (Heap.lt_size ho)
  refine Stop.of (for_gen (by intro _; with_unfolding_all rfl) ?_)
  walk_at "MY"
  (rename Fr _ _ _ _ => F'; rename News _ _ _ _ => N')
  refine Stop.of (choices_spec X₀ T₀ (ds := ds) (Γ := Γ) (W := W) (ρ := ρ) (n := n) (hg.trans F'.keep) (r2.keeps F'.keep) (RW.keeps F'.keep) (XE.keeps F'.keep) hwf.2.1 hwf.1 hρ hW1 hW2 (by omega) (by show dp + 1 + 10 < 700; walk_at "ROOM") (by show un + 3 + 100 < 5000; walk_at "ROOM") fun fa fvs h' tk' hk hl hE => ?_)
  have F3 := F'.keeps hk
  have hE' := hE.mono (P' := fun a => a ≠ L) (Nat.le_refl _) (fun a ha q => by
    rcases ha with e | e
    · exact heaL (e ▸ q)
    · obtain ⟨o, _, _, hL, _⟩ := F'.ns
      rw [q] at e
      have hL' : Heap.get? _ L = some o := hL
      rw [hL'] at e
      cases e)
  obtain ⟨tlE, NE, htE, hEE⟩ := adoptE F3 hE' fun a ha => ha
  have hfl : fvs.length = (choicesV W ds [ρ]).length := hE.length
  have hdef : ∀ ρ' ∈ choicesV W ds [ρ], DefOn (Γ ++ ds.map (·.1)) ρ' := choices_def W _ (fun ρ' h => by rw [List.mem_singleton.mp h]; exact hρ)
  clear F' N'
  refine for_listU (base := s.heap) (fun i m h => m (Str.ofString "world") = some wv ∧ m (Str.ofString "f") = some (.ref a) ∧ m (Str.ofString "op") = some (.str (Str.ofString "all") t1) ∧ ∀ k, k < i → ∀ ρ', (choicesV W ds [ρ])[k]? = some ρ' → holdsV W f1 ρ' = true) tlE rfl hl (by with_unfolding_all rfl) (by with_unfolding_all rfl) F3 NE ⟨?_, ?_, ?_, ?_⟩
  · intro i m h h' e _; exact e
  · exact ⟨rfl, rfl, rfl, fun k hk => absurd hk (Nat.not_lt_zero _)⟩
  · intro i v m₁ m₂ h tk own hi hP hU hJ F₁ N₁ hown Nk
    refine wpAny_gen fun P0 hP0 => ?_
    cases hU
    obtain ⟨a1, a2, a3, a4⟩ := hJ
    replace F₁ : Fr s.heap L h _ := F₁
    replace N₁ : News s.heap L h own := N₁
    replace Nk : News s.heap L h tlE := Nk
    have N₀ := N₁.append Nk
    obtain ⟨oa, ρj, rfl, hρj, XO, hPo⟩ := (hEE h F₁.keep fun p hp => (Nk p hp).1).get hP
    have F₂ := Fr.p1k3 F₁ a1 a2 a3
    clear F₁ F3 N₁ Nk NE
    generalize htlA : own ++ tlE = tlA at N₀
    walk_at "MY"
    (rename Fr _ _ _ _ => F'; rename News _ _ _ _ => N')
    have XO2 := (hEE _ F'.keep fun p hp => (N' p (htlA ▸ List.mem_append_right _ hp)).1).get2 hP hρj
    refine Stop.of (IH f1 (by omega) _ _ _ _ _ _ _ _ W ρj (n + ds.length) (Γ ++ ds.map (·.1)) _ _ (hg.trans F'.keep) (r3.keeps F'.keep) (RW.keeps F'.keep) (XO2) hwf.2.2 (hdef ρj (List.mem_of_getElem? hρj)) hW1 hW2 (by omega) (by show dp + 1 + 2 * hgt f1 + 20 < 700; walk_at "ROOM") (by show un + 3 + 20 * hgt f1 + 300 < 5000; walk_at "ROOM") fun h' tk' hk => ?_)
    have F3 := F'.keeps hk
    have N3 := N'.grown hk
    clear F' N'
    cases hb : holdsV W f1 ρj
    · rw [quant_out W true f1 _ ρj (List.mem_of_getElem? hρj) hb] at ret
      walk_at "MY"
      exact hP0 _ _ (ret _ _ F3.keep)
    · walk_at "MY"
      refine hP0 _ _ <| ForEnd.next F3 (fun p hp => (N3 p (htlA ▸ hp)).1) ⟨rfl, rfl, rfl, ?_⟩
      intro k hk ρ' hρ'
      rcases Nat.lt_succ_iff_lt_or_eq.mp hk with hk | rfl
      · exact a4 k hk ρ' hρ'
      · rw [hρj] at hρ'; cases hρ'; exact hb
  · rintro m₁ h tk ⟨a1, a2, a3, a4⟩ F₁ Nk
    replace F₁ : Fr s.heap L h _ := F₁
    have F₂ := Fr.p0k1 F₁ a3
    clear F₁ F3 Nk NE
    rw [hfl] at a4
    rw [quant_end W true f1 _ a4] at ret
    walk_at "MY"
    exact ret _ _ F₂.keep
theorem hold_exists {prog : Program} {w : World} {mean : ExcName → Option Value} {mg mb : Str → Option Value} {g : Heap} (X₀ : (hd.heap_39 w.params).In g) (T₀ : Top hd.view_39 (looseW hd.view_39 []) mean mg mb g) (ds : List (Str × SE)) (f1 : Fm) (IH : ∀ ff, hgt ff < hgt (.quant false ds f1) → HoldsSpec prog w g ff) : HoldsSpec prog w g (.quant false ds f1) := by
  intro dp un fr gd s v wv ea W ρ n Γ Q E hg R RW XE hwf hρ hW1 hW2 hn hdp hun ret
  have X : (hd.heap_39 w.params).In s.heap := X₀.keeps hg
  have T : Top hd.view_39 (looseW hd.view_39 []) mean mg mb s.heap := T₀.keeps hg
  obtain ⟨a, vs, rfl, hT, hA⟩ := R.tuple_inv
  obtain ⟨v1, us, rfl, r1, hA⟩ := hA.cons_inv
  obtain ⟨v2, us, rfl, r2, hA⟩ := hA.cons_inv
  obtain ⟨v3, us, rfl, r3, hA⟩ := hA.cons_inv
  obtain rfl := hA.nil_inv
  replace r1 : Rd s.heap v1 (S "exists") := r1
  obtain ⟨t1, rfl⟩ := r1.str_inv
  clear r1 hA
  simp only [hgt_1, hgt_2, hgt_3, hgt_4, hgt_5, hgt_6, hgt_7] at hdp hun hn IH
  refine enter (news := []) X T (fun _ _ e => e) (Nat.le_refl _) (fun _ h => nomatch h) (by k_is) (by k_is) (by show dp < 1000; walk_at "ROOM") (BindsTo.of_eq rfl) (locs rfl) rfl rfl rfl (by decide) ?_
  intro L h₁ hLs F N
  try dsimp only
  try k_fold
  walk_at "MY"
  simp only [wf_1, wf_2, wf_3, wf_4, wf_5, wf_6, wf_7] at hwf
  have hq : holdsV W (.quant false ds f1) ρ = (if false then (choicesV W ds [ρ]).all fun ρ' => holdsV W f1 ρ' else (choicesV W ds [ρ]).any fun ρ' => holdsV W f1 ρ') := by simp only [holdsV_1, holdsV_2, holdsV_3, holdsV_4, holdsV_5, holdsV_6, holdsV_7]
  rw [hq] at ret
  have heaL : ea ≠ L := by
    obtain ⟨o, ho, _⟩ := XE.dictO
    rw [hLs]; exact Nat.ne_of_lt (Heap.lt_size ho)
  refine Stop.of (for_gen (by intro _; with_unfolding_all rfl) ?_)
  walk_at "MY"
  (rename Fr _ _ _ _ => F'; rename News _ _ _ _ => N')
  refine Stop.of (choices_spec X₀ T₀ (ds := ds) (Γ := Γ) (W := W) (ρ := ρ) (n := n) (hg.trans F'.keep) (r2.keeps F'.keep) (RW.keeps F'.keep) (XE.keeps F'.keep) hwf.2.1 hwf.1 hρ hW1 hW2 (by omega) (by show dp + 1 + 10 < 700; walk_at "ROOM") (by show un + 3 + 100 < 5000; walk_at "ROOM") fun fa fvs h' tk' hk hl hE => ?_)
  have F3 := F'.keeps hk
  have hE' := hE.mono (P' := fun a => a ≠ L) (Nat.le_refl _) (fun a ha q => by
    rcases ha with e | e
    · exact heaL (e ▸ q)
    · obtain ⟨o, _, _, hL, _⟩ := F'.ns
      rw [q] at e
      have hL' : Heap.get? _ L = some o := hL
      rw [hL'] at e
      cases e)
  obtain ⟨tlE, NE, htE, hEE⟩ := adoptE F3 hE' fun a ha => ha
  have hfl : fvs.length = (choicesV W ds [ρ]).length := hE.length
  have hdef : ∀ ρ' ∈ choicesV W ds [ρ], DefOn (Γ ++ ds.map (·.1)) ρ' := choices_def W _ (fun ρ' h => by rw [List.mem_singleton.mp h]; exact hρ)
  clear F' N'
  refine for_listU (base := s.heap) (fun i m h => m (Str.ofString "world") = some wv ∧ m (Str.ofString "f") = some (.ref a) ∧ m (Str.ofString "op") = some (.str (Str.ofString "exists") t1) ∧ ∀ k, k < i → ∀ ρ', (choicesV W ds [ρ])[k]? = some ρ' → holdsV W f1 ρ' = false) tlE rfl hl (by with_unfolding_all rfl) (by with_unfolding_all rfl) F3 NE ⟨?_, ?_, ?_, ?_⟩
  · intro i m h h' e _; exact e
  · exact ⟨rfl, rfl, rfl, fun k hk => absurd hk (Nat.not_lt_zero _)⟩
  · intro i v m₁ m₂ h tk own hi hP hU hJ F₁ N₁ hown Nk
    refine wpAny_gen fun P0 hP0 => ?_
    cases hU
    obtain ⟨a1, a2, a3, a4⟩ := hJ
    replace F₁ : Fr s.heap L h _ := F₁
    replace N₁ : News s.heap L h own := N₁
    replace Nk : News s.heap L h tlE := Nk
    have N₀ := N₁.append Nk
    obtain ⟨oa, ρj, rfl, hρj, XO, hPo⟩ := (hEE h F₁.keep fun p hp => (Nk p hp).1).get hP
    have F₂ := Fr.p1k3 F₁ a1 a2 a3
    clear F₁ F3 N₁ Nk NE
    generalize htlA : own ++ tlE = tlA at N₀
    walk_at "MY"
    (rename Fr _ _ _ _ => F'; rename News _ _ _ _ => N')
    have XO2 := (hEE _ F'.keep fun p hp => (N' p (htlA ▸ List.mem_append_right _ hp)).1).get2 hP hρj
    refine Stop.of (IH f1 (by omega) _ _ _ _ _ _ _ _ W ρj (n + ds.length) (Γ ++ ds.map (·.1)) _ _ (hg.trans F'.keep) (r3.keeps F'.keep) (RW.keeps F'.keep) (XO2) hwf.2.2 (hdef ρj (List.mem_of_getElem? hρj)) hW1 hW2 (by omega) (by show dp + 1 + 2 * hgt f1 + 20 < 700; walk_at "ROOM") (by show un + 3 + 20 * hgt f1 + 300 < 5000; walk_at "ROOM") fun h' tk' hk => ?_)
    have F3 := F'.keeps hk
    have N3 := N'.grown hk
    clear F' N'
    cases hb : holdsV W f1 ρj
    · walk_at "MY"
      refine hP0 _ _ <| ForEnd.next F3 (fun p hp => (N3 p (htlA ▸ hp)).1) ⟨rfl, rfl, rfl, ?_⟩
      intro k hk ρ' hρ'
      rcases Nat.lt_succ_iff_lt_or_eq.mp hk with hk | rfl
      · exact a4 k hk ρ' hρ'
      · rw [hρj] at hρ'; cases hρ'; exact hb
    · rw [quant_out W false f1 _ ρj (List.mem_of_getElem? hρj) hb] at ret
      walk_at "MY"
      exact hP0 _ _ (ret _ _ F3.keep)
  · rintro m₁ h tk ⟨a1, a2, a3, a4⟩ F₁ Nk
    replace F₁ : Fr s.heap L h _ := F₁
    have F₂ := Fr.p0k1 F₁ a3
    clear F₁ F3 Nk NE
    rw [hfl] at a4
    rw [quant_end W false f1 _ a4] at ret
    walk_at "MY"
    exact ret _ _ F₂.keep
end


-- HoldsAll
theorem holds_all {prog : Program} {w : World} {mean : ExcName → Option Value} {mg mb : Str → Option Value} {g : Heap} (X₀ : (hd.heap_39 w.params).In g) (T₀ : Top hd.view_39 (looseW hd.view_39 []) mean mg mb g) :
    ∀ (n : Nat) (f : Fm), hgt f < n → HoldsSpec prog w g f := by
  intro n
  induction n with
  | zero => intro f h; exact absurd h (Nat.not_lt_zero _)
  | succ n ih =>
    intro f h
    have IH : ∀ f', hgt f' < hgt f → HoldsSpec prog w g f' := fun f' h' => ih f' (by omega)
    cases f with
    | const c => cases c with
      | true => exact hold_ctrue X₀ T₀ IH
      | false => exact hold_cfalse X₀ T₀ IH
    | not f' => exact hold_not X₀ T₀ f' IH
    | junc c fs => cases c with
      | true => exact hold_and X₀ T₀ fs IH
      | false => exact hold_or X₀ T₀ fs IH
    | imp a b => exact hold_imp X₀ T₀ a b IH
    | iff a b => exact hold_iff X₀ T₀ a b IH
    | quant c ds f' => cases c with
      | true => exact hold_all X₀ T₀ ds f' IH
      | false => exact hold_exists X₀ T₀ ds f' IH
    | atom a =>
      obtain ⟨nm, A, ⟨d2, e⟩ | ⟨d2, d3, e⟩⟩ := encA_cases a
      · exact hold_atom2 X₀ T₀ a nm d2 e A.n1 A.n2 A.n3 A.n4 A.n5 A.n6 A.n7 A.n8 A.n9
      · exact hold_atom3 X₀ T₀ a nm d2 d3 e A.n1 A.n2 A.n3 A.n4 A.n5 A.n6 A.n7 A.n8 A.n9
theorem form_all {prog : Program} {w : World} {mean : ExcName → Option Value} {mg mb : Str → Option Value} {g : Heap} (X₀ : (hd.heap_39 w.params).In g) (T₀ : Top hd.view_39 (looseW hd.view_39 []) mean mg mb g) : ∀ n, FormSpec prog w g n := by
  intro n
  induction n with
  | zero => exact form_zero X₀ T₀
  | succ n ih => exact form_succ X₀ T₀ n ih


-- LawDef
theorem enc_tup (f : Fm) : ∃ ds, enc f = .tuple ds := by
  cases f with
  | atom a => cases a <;> exact ⟨_, rfl⟩
  | _ => exact ⟨_, rfl⟩
theorem enc_ref {h : Heap} {v : Value} {f : Fm} (R : Rd h v (enc f)) : ∃ a, v = .ref a := by
  obtain ⟨ds, e⟩ := enc_tup f
  rw [e] at R
  obtain ⟨a, _, e, _⟩ := R.tuple_inv
  exact ⟨a, e⟩
theorem PinAt.mono {T U : Obj → Prop} {h : Heap} {P : Heap → Prop} (k : ∀ o, T o → U o) (X : PinAt T h P) : PinAt U h P := by
  obtain ⟨tl, ht, hk⟩ := X
  exact ⟨tl, fun p hp => ⟨(ht p hp).1, k _ (ht p hp).2⟩, hk⟩
theorem pin_list {T : Obj → Prop} (hT : ∀ o, SeqO o → T o) {h : Heap} {v : Value} {ds : List PyData} (R : Rd h v (.list ds)) (k : ∀ vs, RdAll h vs ds → PinAt T h fun h' => RdAll h' vs ds) : PinAt T h fun h' => Rd h' v (.list ds) := by
  obtain ⟨a, vs, rfl, ⟨o, ho, hc, n, hd⟩, q⟩ := R.list_inv
  exact (PinAt.get ho (hT _ ⟨_, _, hd⟩)).and (k _ q) fun h' e r => Rd.list ⟨o, e, hc, n, hd⟩ r
theorem adoptW {base h : Heap} {L : Addr} {m : Str → Option Value} {v : Value} {W : WorldV} (F : Fr base L h m) (R : Rd h v (encW W)) :
    ∃ tl, News base L h tl ∧ (∀ p ∈ tl, SeqO p.2) ∧ ∀ h', Sub base h' → (∀ p ∈ tl, h'.get? p.1 = some p.2) → Rd h' v (encW W) := by
  obtain ⟨wa, vs, rfl, ⟨o, ho, hc, n, hd⟩, hA⟩ := R.tuple_inv
  obtain ⟨u1, us, rfl, r1, hA⟩ := hA.cons_inv
  obtain ⟨u2, us, rfl, r2, hA⟩ := hA.cons_inv
  obtain rfl := hA.nil_inv
  exact PinAt.adopt (fun _ x => x) ((PinAt.get ho ⟨_, _, hd⟩).and ((pin_list (fun _ x => x) r1 fun _ q => .of fun _ => ints_rd q.ints).and (pin_list (fun _ x => x) r2 fun _ q => (pin_all q (tup_encPs _)).mono fun _ => TupO.seq) fun _ => And.intro)
    fun h' e r => Rd.tuple ⟨o, e, hc, n, hd⟩ (.cons r.1 (.cons r.2 .nil))) F
theorem SeqO.nd {o : Obj} (h : SeqO o) : NotDict o := by
  rintro es n e; obtain ⟨xs, k, d⟩ := h; rw [d] at e; cases e
theorem envAt_nil {prog : Program} {w : World} {h : Heap} {a : Addr} {o : Obj} (ho : h.get? a = some o) (hd : o.IsDictOf (PySem.strKind prog w) []) (lo : (a == sysModules) = false) : EnvAt prog w h a 0 (fun _ => none) :=
  ⟨[], Heap.dictOf_iff.mpr ⟨o, ho, hd⟩, lo, Nat.le_refl _, EnvKV.nil⟩
theorem told_holds (W : WorldV) (f : Fm) (ρ : EnvV) : holdsV W (nnf f true) ρ = holdsV W f ρ := by rw [holds_nnf]; simp
theorem denied_holds (W : WorldV) (f : Fm) (ρ : EnvV) : holdsV W (nnf (.not f) true) ρ = !holdsV W f ρ := by
  rw [holds_nnf]; simp only [holdsV_1, holdsV_2, holdsV_3, holdsV_4, holdsV_5, holdsV_6, holdsV_7]; simp
section
variable {prog : Program} {w : World} {A : Around} {s : Shared} {E : Value → Shared → Prop}
theorem ne_same {b : Bool} {Q : Value → Shared → Prop} (h : Q (.bool false) s) : wpAny (model prog w) A (compareOp .NotEq (.bool b) (.bool b)) Q E s := by
  cases b
  · exact ne_bool h
  · exact ne_bool h
theorem eq_diff {b : Bool} {Q : Value → Shared → Prop} (h : Q (.bool false) s) : wpAny (model prog w) A (compareOp .Eq (.bool (!b)) (.bool b)) Q E s := by
  cases b
  · exact eq_bool h
  · exact eq_bool h
end


-- Law
noncomputable def LawEnd (s₁ : Shared) (fl : Flow) (s' : Shared) : Prop := ∃ h' tk m, fl = Flow.ret (.bool true) ∧ s' = { s₁ with heap := h', toks := tk } ∧ Fr s₁.heap s₁.heap.objs.size h' m
inductive JLaw (prog : Program) (w : World) (fd cl : Addr) (r r1 r2 : Value) (sp : Nat) (i : Nat) (m : Str → Option Value) (h : Heap) : Prop
  | mk (a1 : m (Str.ofString "feed") = some (.ref fd)) (a2 : m (Str.ofString "f") = some r) (a3 : m (Str.ofString "told") = some r1) (a4 : m (Str.ofString "denied") = some r2) (o : Obj) (t : Tok) (spx : Nat) (b1 : h.get? fd = some o) (b2 : o.IsDictOf (PySem.strKind prog w) (feedKV cl spx t)) (b3 : spx ≤ sp + i)
section
local macro_rules | `(tactic| walk_at "compareOp NotEq bool bool") => `(tactic| with_reducible refine ne_same ?_)
local macro_rules | `(tactic| walk_at "compareOp Eq bool bool") => `(tactic| with_reducible refine eq_diff ?_)
local macro_rules | `(tactic| walk_at "exec For Name Tuple cons nil") => `(tactic| with_reducible refine stop_for ?_)
theorem law_all (u : Unit) : PySem.Challenge.rw_nu0262_01.Holds := by
  refine hd ?_
  k_go0
  (all_goals try k_fold)
  rename Frag.In _ _ => X₀
  rename Top _ _ _ _ _ _ => T₀
  rename Fr _ _ _ _ => F'
  rename News _ _ _ _ => N'
  rename IntsAre _ _ => hI0
  rename Heap.IsList _ _ _ => hL0
  rename Shared => s₁
  rename World => w
  refine wpAny_mono (Q := fun fl s' => LawEnd s₁ fl s') (E := fun _ _ => False) ?core ?_ (fun _ _ h => h.elim)
  case core =>
    (rename Ground .. => zz; clear zz)
    (rename Flt.MathXP .. => zz; clear zz)
    (rename LooseAre .. => zz; clear zz)
    (rename Glob .. => zz; clear zz)
    (rename Tables .. => zz; clear zz)
    (rename TopE .. => zz; clear zz)
    (rename TopW .. => zz; clear zz)
    (rename BMod .. => zz; clear zz)
    (rename Heap.CodeRec .. => zz; clear zz)
    (rename Dflts .. => zz; clear zz)
    (rename Below .. => zz; clear zz)
    (rename Well .. => zz; clear zz)
    (rename Reads .. => zz; clear zz)
    (rename ReadsAll .. => zz; clear zz)
    (rename ReadsAllW .. => zz; clear zz)
    rename_i s0 mg mb Y fa o pm doc kV ho hgn q6 q5 q4 q3 ns hs hlay0 hL hr hl2 zz1 zz2 sl vs zz3 hlen hc h1
    clear Y ho hgn hs hlay0 hL hr hl2 hc
    walk_at "MY"
    rename_i fd _ _ _ _ _ D1 ws _ hI _ _ _ cl c _ _ _ of hdf _ fl _ F' N' l1
    have hfg := N'.fresh (show (fd, of) ∈ _ by k_mem)
    refine Stop.of (form_all X₀ T₀ 3 _ _ _ _ _ _ _ fd cl fl 0 [] _ F'.keep hfg ⟨of, _, N'.get (by k_mem), hdf⟩ ⟨ws, _, N'.isList (by k_mem), hI, List.length_take_le _ _⟩ ⟨[], N'.isList (by k_mem), .nil⟩ (fun _ h => nomatch h) (by decide) (by decide) (by decide) (by decide) fun f r sp h' tk' hw hh hsp hk Fd' hR => ?_)
    obtain ⟨o2, t2, ho2, hd2⟩ := Fd'
    obtain ⟨F2, N2⟩ := feed_back F' N' (by k_mem) hdf hk ho2 [(cl, _)] (by intro p hp; rw [List.mem_singleton.mp hp]; exact ⟨by k_mem, nd_seq⟩)
    obtain ⟨tlf, N3, htf, hPf⟩ := adopt F2 N2 hR (tup_enc f)
    simp only [List.cons_append, List.nil_append] at N3
    clear F' N' N2 hk
    walk_at "MY"
    (rename Fr _ _ _ _ => F'; rename News _ _ _ _ => N')
    have hcA : callerA.depth ≤ 500 := by decide
    refine Stop.of (neg_normal X₀ T₀ hw F'.keep (hPf _ F'.keep fun p hp => (N' p (by simp [hp])).1) (by show callerA.depth + 1 + 2 * hgt f + 20 < 700; walk_at "ROOM") (by show 4 + 3 + 20 * hgt f + 300 < 5000; walk_at "ROOM") fun r1 h1 tk1 hk1 hR1 => ?_)
    have F3 := F'.keeps hk1
    obtain ⟨tl1, N3, ht1, hP1⟩ := adopt F3 (N'.grown hk1) hR1 (tup_enc _)
    simp only [List.cons_append, List.nil_append, List.append_assoc] at N3
    clear F' N'
    walk_at "MY"
    (rename Fr _ _ _ _ => F'; rename News _ _ _ _ => N')
    refine Stop.of (neg_normal (f := .not f) (Γ := []) X₀ T₀ (by simpa [wf_1, wf_2, wf_3, wf_4, wf_5, wf_6, wf_7] using hw) F'.keep (Rd.tuple (N'.isTup (by k_mem)) (.cons (Rd.str _ _ _) (.cons (hPf _ F'.keep fun p hp => (N' p (by simp [hp])).1) .nil))) (by show callerA.depth + 1 + 2 * (hgt f + 1) + 20 < 700; walk_at "ROOM") (by show 4 + 3 + 20 * (hgt f + 1) + 300 < 5000; walk_at "ROOM") fun r2 h2 tk2 hk2 hR2 => ?_)
    have F3 := F'.keeps hk2
    obtain ⟨tl2, N3, ht2, hP2⟩ := adopt F3 (N'.grown hk2) hR2 (tup_enc _)
    simp only [List.cons_append, List.nil_append, List.append_assoc] at N3
    clear F' N'
    walk_at "MY"
    (rename Fr _ _ _ _ => F'; rename News _ _ _ _ => N')
    have hgt1 := hgt_nnf f true
    have hgt2 := hgt_nnf (.not f) true
    have hgn : hgt (.not f) = hgt f + 1 := by simp only [hgt_1, hgt_2, hgt_3, hgt_4, hgt_5, hgt_6, hgt_7]
    have hT : ∀ {h'}, (∀ p ∈ tlf ++ (tl1 ++ tl2), h'.get? p.1 = some p.2) → Sub s₁.heap h' → Rd h' r1 (enc (nnf f true)) ∧ Rd h' r2 (enc (nnf (.not f) true)) ∧ Rd h' r (enc f) := fun hp k =>
      ⟨hP1 _ k fun p hm => hp p (by simp [hm]), hP2 _ k fun p hm => hp p (by simp [hm]), hPf _ k fun p hm => hp p (by simp [hm])⟩
    generalize htlK : tlf ++ (tl1 ++ tl2) = tlK at N' hT
    have hitem : ∀ {i : Nat} {v : Value}, [r1, r2][i]? = some v → ∃ fi, (∀ {h'}, (∀ p ∈ tlK, h'.get? p.1 = some p.2) → Sub s₁.heap h' → Rd h' v (enc fi)) ∧ wf [] fi ∧ isNorm fi = true ∧ hgt fi ≤ 10 := by
      intro i v e
      match i, e with
      | 0, e => cases e; exact ⟨_, fun a b => (hT a b).1, wf_nnf _ _ _ hw, norm_nnf _ _, by omega⟩
      | 1, e => cases e; exact ⟨_, fun a b => (hT a b).2.1, wf_nnf _ _ _ (by simpa [wf_1, wf_2, wf_3, wf_4, wf_5, wf_6, wf_7] using hw), norm_nnf _ _, by omega⟩
      | n + 2, e => simp at e
    refine Stop.of (for_gen (by intro _; with_unfolding_all rfl) ?_)
    walk_at "MY"
    (rename Fr _ _ _ _ => F'; rename News _ _ _ _ => N')
    have NK : News s₁.heap s₁.heap.objs.size _ ((fd, o2) :: (cl, _) :: tlK) := fun p hp => N' p (by
      rcases List.mem_cons.mp hp with rfl | hp
      · k_mem
      rcases List.mem_cons.mp hp with rfl | hp
      · k_mem
      · simp [hp])
    refine Stop.of (for_tupU (base := s₁.heap) (vs := [r1, r2]) (fun i m h => m (Str.ofString "feed") = some (.ref fd) ∧ m (Str.ofString "f") = some r ∧ m (Str.ofString "told") = some r1 ∧ m (Str.ofString "denied") = some r2) ((fd, o2) :: (cl, _) :: tlK) rfl (N'.isTup (by k_mem)) (by with_unfolding_all rfl) (by with_unfolding_all rfl) F' NK ⟨?_, ?_, ?_, ?_⟩)
    · intro i m h h' e _; exact e
    · exact ⟨rfl, rfl, rfl, rfl⟩
    · intro i v m₁ m₂ h tk own hi hP hU hJ F₁ N₁ hown Nk
      refine wpAny_gen fun P0 hP0 => ?_
      cases hU
      obtain ⟨a1, a2, a3, a4⟩ := hJ
      replace F₁ : Fr s₁.heap s₁.heap.objs.size h _ := F₁
      replace N₁ : News s₁.heap s₁.heap.objs.size h own := N₁
      replace Nk : News s₁.heap s₁.heap.objs.size h ((fd, o2) :: (cl, _) :: tlK) := Nk
      have N₀ := N₁.append Nk
      obtain ⟨fi, hRi, hwi, hni, hhi⟩ := hitem hP
      obtain ⟨av, rfl⟩ := enc_ref (hRi (fun p hp => (Nk p (by simp [hp])).1) F₁.keep)
      have F₂ := Fr.p1k4 F₁ a1 a2 a3 a4
      clear F₁ F' N' N₁ Nk NK
      generalize htlO : own ++ ((fd, o2) :: (cl, _) :: tlK) = tlO at N₀
      have hKO : ∀ p ∈ tlK, p ∈ tlO := fun p hp => htlO ▸ List.mem_append_right _ (.tail _ (.tail _ hp))
      walk_at "MY"
      (rename Fr _ _ _ _ => F'; rename News _ _ _ _ => N')
      refine Stop.of (isn_all X₀ T₀ (hgt fi + 1) fi (Nat.lt_succ_self _) [] (fun _ h => nomatch h) hwi hni _ _ _ _ _ _ _ _ F'.keep (hRi (fun p hp => (N' p (hKO p hp)).1) F'.keep) (by show callerA.depth + 1 + 2 * hgt fi + 10 < 700; walk_at "ROOM") (by show 4 + 3 + 20 * hgt fi + 200 < 5000; walk_at "ROOM") fun h' tk' hk => ?_)
      have F3 := F'.keeps hk
      have N3 := N'.grown hk
      clear F' N'
      walk_at "MY"
      (rename Fr _ _ _ _ => F'; rename News _ _ _ _ => N')
      refine Stop.of (neg_normal X₀ T₀ hwi F'.keep (hRi (fun p hp => (N' p (hKO p hp)).1) F'.keep) (by show callerA.depth + 1 + 2 * hgt fi + 20 < 700; walk_at "ROOM") (by show 4 + 3 + 20 * hgt fi + 300 < 5000; walk_at "ROOM") fun r3 h3 tk3 hk3 hR3 => ?_)
      rw [nnf_id fi hni] at hR3
      obtain ⟨a3', rfl⟩ := enc_ref hR3
      have F3 := F'.keeps hk3
      have N3 := N'.grown hk3
      clear F' N'
      walk_at "MY"
      (rename Fr _ _ _ _ => F'; rename News _ _ _ _ => N')
      have hsh := shaped_enc (f := fi) (Γ := []) (fun _ h => nomatch h) hwi (by omega)
      refine Stop.of (my_ne hR3 (hRi (fun p hp => (N' p (hKO p hp)).1) F'.keep) hsh hsh (by show 4 + 3 + 64 < 9900; decide) true (eqv_self _ (tup_enc _)) ?_)
      simp only [Bool.not_true]
      walk_at "MY"
      (rename Fr _ _ _ _ => F'; rename News _ _ _ _ => N')
      exact hP0 _ _ <| ForEnd.next F' (fun p hp => (N' p (htlO ▸ hp)).1) ⟨rfl, rfl, rfl, rfl⟩
    · rintro m₁ h tk ⟨a1, a2, a3, a4⟩ F₁ Nk
      replace F₁ : Fr s₁.heap s₁.heap.objs.size h _ := F₁
      replace Nk : News s₁.heap s₁.heap.objs.size h ((fd, o2) :: (cl, _) :: tlK) := Nk
      have F₂ := Fr.p0k4 F₁ a1 a2 a3 a4
      clear F₁ F' N' NK
      walk_at "MY"
      (rename Fr _ _ _ _ => F'; rename News _ _ _ _ => N')
      refine Stop.of (for_gen (by intro _; with_unfolding_all rfl) ?_)
      walk_at "MY"
      (rename IsRange _ _ _ _ _ _ _ _ => R'; rename Fr _ _ _ _ => F'; rename News _ _ _ _ => N')
      have hfL : fd ≠ s₁.heap.objs.size := (N' _ (show (fd, o2) ∈ _ by k_mem)).2.1
      have NK : News s₁.heap s₁.heap.objs.size _ ((cl, _) :: tlK) := fun p hp => N' p (.tail _ hp)
      have htK : ∀ p ∈ tlK, NotDict p.2 := by
        intro p hp
        rw [← htlK] at hp
        rcases List.mem_append.mp hp with hp | hp
        · exact (htf p hp).nd
        rcases List.mem_append.mp hp with hp | hp
        · exact (ht1 p hp).nd
        · exact (ht2 p hp).nd
      have hsp4 : sp ≤ 1000 := Nat.le_trans hsp (by decide)
      refine Stop.of (for_rangeU (n := 4) (base := s₁.heap) (JLaw PySem.Challenge.rw_nu0262_01.row.prog w fd cl r r1 r2 sp) ((cl, _) :: tlK) rfl R' (by omega) (by with_unfolding_all rfl) (by with_unfolding_all rfl) F' NK ⟨?_, ?_, ?_, ?_⟩)
      · rintro i m h h' ⟨a1, a2, a3, a4, o, t, spx, b1, b2, b3⟩ hk
        refine ⟨a1, a2, a3, a4, o, t, spx, hk _ _ (.inr ⟨hfL, .inl ?_⟩) b1, b2, b3⟩
        obtain ⟨es, ep, _, hd, _⟩ := b2
        exact ⟨es, ep, hd⟩
      · exact ⟨rfl, rfl, rfl, rfl, o2, t2, sp, N'.get (by k_mem), hd2, Nat.le_refl _⟩
      · intro i v m₁ m₂ h tk own hi hP hU hJ F₁ N₁ hown Nk
        refine wpAny_gen fun P0 hP0 => ?_
        obtain ⟨tv, rfl⟩ := hP
        cases hU
        obtain ⟨a1, a2, a3, a4, o, t, spx, b1, b2, b3⟩ := hJ
        replace F₁ : Fr s₁.heap s₁.heap.objs.size h _ := F₁
        replace N₁ : News s₁.heap s₁.heap.objs.size h own := N₁
        replace Nk : News s₁.heap s₁.heap.objs.size h ((cl, _) :: tlK) := Nk
        have N₀ := news_cons b1 hfL hfg (Nk.append N₁)
        simp only [List.cons_append] at N₀
        have hndO : ∀ p ∈ tlK ++ own, NotDict p.2 := append_all htK fun p hp => (hown p hp).1
        generalize htlO : tlK ++ own = tlO at N₀ hndO
        have hKO : ∀ p ∈ tlK, p ∈ tlO := fun p hp => htlO ▸ List.mem_append_left _ hp
        have hOO : ∀ p ∈ own, p ∈ tlO := fun p hp => htlO ▸ List.mem_append_right _ hp
        have F₂ := Fr.p1k4 F₁ a1 a2 a3 a4
        clear F₁ F' N' N₁ Nk NK R'
        walk_at "MY"
        (rename Fr _ _ _ _ => F'; rename News _ _ _ _ => N')
        refine Stop.of (draw_spec X₀ T₀ F'.keep hfg ⟨o, t, N'.get (by k_mem), b2⟩ ⟨ws, _, N'.isList (show (cl, _) ∈ _ by k_mem), hI, List.length_take_le _ _⟩ (by omega) (by decide) (by decide) (by show callerA.depth + 1 < 700; walk_at "ROOM") (by show 4 + 3 < 5000; decide) fun vd tvd h' tk' h0 h64 hk Fd' => ?_)
        obtain ⟨o3, t3, ho3, hd3⟩ := Fd'
        obtain ⟨F3, N3⟩ := feed_back F' N' (by k_mem) b2 hk ho3 ((cl, _) :: tlO) (by
          intro p hp
          rcases List.mem_cons.mp hp with rfl | hp
          · exact ⟨by k_mem, nd_seq⟩
          · exact ⟨by simp [hp], hndO p hp⟩)
        clear F' N' hk
        walk_at "MY"
        (rename Fr _ _ _ _ => F'; rename News _ _ _ _ => N')
        refine Stop.of (world_spec X₀ T₀ F'.keep h0 h64 (by show callerA.depth + 1 < 700; walk_at "ROOM") (by show 4 + 3 < 5000; decide) fun W rw' hW' tkW hkW hRW hl1 hl2 => ?_)
        have F3 := F'.keeps hkW
        obtain ⟨tlW, NW, htW, hPW⟩ := adoptW F3 hRW
        have N4 := (N'.grown hkW).append NW
        simp only [List.cons_append] at N4
        clear F' N'
        have hT1 : ∀ {h'}, (∀ p ∈ tlO ++ tlW, h'.get? p.1 = some p.2) → Sub s₁.heap h' → Rd h' r1 (enc (nnf f true)) ∧ Rd h' r2 (enc (nnf (.not f) true)) ∧ Rd h' r (enc f) := fun hp k => hT (fun p hm => hp p (List.mem_append_left _ (hKO p hm))) k
        have hPW1 : ∀ {h'}, (∀ p ∈ tlO ++ tlW, h'.get? p.1 = some p.2) → Sub s₁.heap h' → Rd h' rw' (encW W) := fun hp k => hPW _ k fun p hm => hp p (List.mem_append_right _ hm)
        have hOW : ∀ p ∈ own, p ∈ tlO ++ tlW := fun p hp => List.mem_append_left _ (hOO p hp)
        have hKW : ∀ p ∈ tlK, p ∈ tlO ++ tlW := fun p hp => List.mem_append_left _ (hKO p hp)
        generalize htlZ : tlO ++ tlW = tlZ at N4 hT1 hPW1 hOW hKW
        walk_at "MY"
        rename_i dE _ oE F' N' lo hsE _ _ _ lE
        refine Stop.of (holds_all X₀ T₀ (hgt f + 1) f (Nat.lt_succ_self _) _ _ _ _ _ _ _ _ W (fun _ => none) 0 [] _ _ F'.keep (hT1 (fun p hp => (N' p (by simp [hp])).1) F'.keep).2.2 (hPW1 (fun p hp => (N' p (by simp [hp])).1) F'.keep) (envAt_nil (N'.get (by k_mem)) hsE lo) hw (fun _ h => nomatch h) (by omega) (by omega) (by omega) (by show callerA.depth + 1 + 2 * hgt f + 20 < 700; walk_at "ROOM") (by show 4 + 3 + 20 * hgt f + 300 < 5000; walk_at "ROOM") fun hx tkx hkx1 => ?_)
        have F3 := F'.keeps hkx1
        have N3 := N'.grown hkx1
        clear F' N' hsE lo lE
        generalize hB : holdsV W f (fun _ => none) = B
        walk_at "MY"
        rename_i dE2 _ oE2 F' N' lo hsE _ _ _ lE
        refine Stop.of (holds_all X₀ T₀ (hgt (nnf f true) + 1) (nnf f true) (Nat.lt_succ_self _) _ _ _ _ _ _ _ _ W (fun _ => none) 0 [] _ _ F'.keep (hT1 (fun p hp => (N' p (by simp [hp])).1) F'.keep).1 (hPW1 (fun p hp => (N' p (by simp [hp])).1) F'.keep) (envAt_nil (N'.get (by k_mem)) hsE lo) (wf_nnf _ _ _ hw) (fun _ h => nomatch h) (by omega) (by omega) (by omega) (by show callerA.depth + 1 + 2 * hgt (nnf f true) + 20 < 700; walk_at "ROOM") (by show 4 + 3 + 20 * hgt (nnf f true) + 300 < 5000; walk_at "ROOM") fun hx tkx hkx2 => ?_)
        rw [told_holds, hB]
        have F3 := F'.keeps hkx2
        have N3 := N'.grown hkx2
        clear F' N' hsE lo lE
        walk_at "MY"
        rename_i dE3 _ oE3 F' N' lo hsE _ _ _ lE
        refine Stop.of (holds_all X₀ T₀ (hgt (nnf (.not f) true) + 1) (nnf (.not f) true) (Nat.lt_succ_self _) _ _ _ _ _ _ _ _ W (fun _ => none) 0 [] _ _ F'.keep (hT1 (fun p hp => (N' p (by simp [hp])).1) F'.keep).2.1 (hPW1 (fun p hp => (N' p (by simp [hp])).1) F'.keep) (envAt_nil (N'.get (by k_mem)) hsE lo) (wf_nnf _ _ _ (by simpa [wf_1, wf_2, wf_3, wf_4, wf_5, wf_6, wf_7] using hw)) (fun _ h => nomatch h) (by omega) (by omega) (by omega) (by show callerA.depth + 1 + 2 * hgt (nnf (.not f) true) + 20 < 700; omega) (by show 4 + 3 + 20 * hgt (nnf (.not f) true) + 300 < 5000; omega) fun hx tkx hkx3 => ?_)
        rw [denied_holds, hB]
        have F3 := F'.keeps hkx3
        have N3 := N'.grown hkx3
        clear F' N' hsE lo lE
        walk_at "MY"
        (rename Fr _ _ _ _ => F'; rename News _ _ _ _ => N')
        refine hP0 _ _ <| ForEnd.next F' (fun p hp => (N' p (by
          rcases List.mem_append.mp hp with hp | hp
          · simp [hOW p hp]
          rcases List.mem_cons.mp hp with rfl | hp
          · k_mem
          · simp [hKW p hp])).1) ⟨rfl, rfl, rfl, rfl, o3, t3, spx + 1, N'.get (by k_mem), hd3, by omega⟩
      · rintro m₁ h tk ⟨a1, a2, a3, a4, _⟩ F₁ Nk
        replace F₁ : Fr s₁.heap s₁.heap.objs.size h _ := F₁
        clear F' N' R' NK
        walk_at "MY"
        exact ⟨_, _, _, rfl, rfl, F₁⟩
  · rintro fl s' ⟨h', tk, m, rfl, rfl, F2⟩
    clear F' N'
    k_steps
end

end Mine

set_option maxRecDepth 100000 in
set_option maxHeartbeats 8000000 in
theorem PySem.Challenge.cw_nu0262_01_holds : PySem.Challenge.rw_nu0262_01.Holds := by
  exact Mine.law_all ()
