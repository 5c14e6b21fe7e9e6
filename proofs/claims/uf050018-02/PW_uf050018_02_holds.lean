import PyProof.Rows.All
import Wide.All
import OpenK.KLine
import Wide.FinOn
import PyProof.Rows.Top
import PyProof.Rows.RowHeap
import PyProof.Rows.Tup
import PyProof.Rows.TupSub
import PyProof.Rows.IntRules
import PyProof.Rows.Nodes
import PyProof.Rows.OwnEval
import PyProof.Rows.CatchSeen
import PyProof.FitsBits
import PyProof.NoPylong
import PyProof.PureInt
import PyProof.StrOps
import PyProof.PlainList
import PyProof.Rules3
import PyProof.TupleIter
import PyProof.IsRules
import PyProof.PassesOwn
import PyProof.ForRange
import PyProof.IsiPairs
import PyProof.IsiSeqPairs
import PyProof.IsiNone
import PyProof.WalkInts
import PyProof.Rows.Exc
import PyProof.Rows.RuleN_abs
import PyProof.Rows.StrTemp
import PyProof.Rows.RuleB_floordiv
import PyProof.Rows.RuleB_small
import PyProof.Rows.SeqMore
import PyProof.Rows.StrRules
import PyProof.Rows.EqDataRows
import PyProof.Rows.Lst
import PyProof.Conv_int_bool
import PyProof.WalksPairs
import PyProof.RangeFor
import PyProof.ForAny
import PyProof.ForAppend
import PyProof.Rows.TupAssign
import PyProof.RulesMatch
import PyProof.Rows.Method
import PyProof.Rows.RuleB_pow
import PyProof.StrLoop
import Wide.Ends
import Wide.BridgeG
import Open.Head
import PySem.Challenge.RW_uf050018_02
set_option Elab.async false
set_option maxRecDepth 100000
set_option linter.all false
namespace Mine
open PySem PySem.Spec PySem.Calls PyProof.Rows

/-- the usual kinds of expressions -/
def pl : Expr → Bool
  | .Starred .. | .ListComp .. | .SetComp .. | .DictComp .. | .Set .. | .Slice .. => false
  | _ => true
theorem pl_star {x : Expr} {es : List Expr} {env : Env} (h : pl x = true) : starEach (x :: es) env = (false, eval x env) :: starEach es env := by cases x <;> first | rfl | cases h
theorem pl_marks {op : CmpOp} {x : Expr} (h : pl x = true) : behindInMarks op x = false := by cases x <;> first | rfl | cases h
theorem pl_swaps {x : Expr} {t : Option Expr} {n : Nat} {env : Env} (h : pl x = true) : swapsWith x t n env = pure false := by cases x <;> first | rfl | cases h
theorem pl_fold {x : Expr} {env : Env} (h : pl x = true) (v : Value) : foldedSetIterable x env v = pure v := by cases x <;> first | rfl | cases h
theorem pl_sub {x : Expr} {o i : Value} (h : pl x = true) : subscripted x false o i = operate [o, i] (getItem o i) := by cases x <;> first | rfl | cases h
def plT : Expr → Bool
  | .UnaryOp .Not _ _ | .BoolOp .. | .IfExp .. | .Compare .. => false
  | _ => true
theorem plT_eq {x : Expr} {env : Env} {t : Sem Value} (h : plT x = true) : isTrue x env t = (do let v ← t; standAt x.pos; holding [v] (truthy v)) := by
  cases x with
  | UnaryOp op _ _ => cases op <;> first | rfl | cases h
  | _ => first | rfl | cases h

abbrev Keep (h h' : Heap) : Prop := ∀ b o, h.get? b = some o → h'.get? b = some o
theorem Keep.rfl {h : Heap} : Keep h h := fun _ _ e => e
theorem Keep.trans {h h' h'' : Heap} (a : Keep h h') (b : Keep h' h'') : Keep h h'' := fun x o e => b x o (a x o e)
theorem Keep.push {h h' : Heap} (a : Keep h h') (o : Obj) : Keep h (h'.push o) := fun x o' e => Heap.get?_push_of_some _ (a x o' e)
theorem Keep.none {h h' : Heap} (a : Keep h h') {l : Addr} (n : h'.get? l = none) : h.get? l = none := by
  cases hq : h.get? l with
  | none => rfl
  | some o => rw [a l o hq] at n; cases n
/-- every object stands, but for those at W -/
def Kp (W : List Addr) (h h' : Heap) : Prop := ∀ b o, b ∉ W → h.get? b = some o → h'.get? b = some o
theorem Keep.kp {W : List Addr} {h h' : Heap} (k : Keep h h') : Kp W h h' := fun b o _ e => k b o e
theorem Kp.rfl {W : List Addr} {h : Heap} : Kp W h h := fun _ _ _ e => e
theorem Kp.trans {W : List Addr} {h h' h'' : Heap} (a : Kp W h h') (b : Kp W h' h'') : Kp W h h'' := fun x o n e => b x o n (a x o n e)
theorem Kp.mono {W W' : List Addr} {h h' : Heap} (a : Kp W h h') (s : ∀ b ∈ W, b ∈ W') : Kp W' h h' := fun x o n e => a x o (fun hx => n (s x hx)) e

/-- a tree that changes no object that stands -/
structure EvT {α : Type} (M : Model) (A : Around) (h : Heap) (t : Sem α) (R : α → Heap → Prop) (X : Value → Heap → Prop) : Prop where
  go : ∀ (s : Shared) (Q : α → Shared → Prop) (E : Value → Shared → Prop), Keep h s.heap →
    (∀ a h' k, Keep s.heap h' → R a h' → Q a { s with heap := h', toks := k }) →
    (∀ x h' k, X x h' → E x { s with heap := h', toks := k }) → wpAny M A t Q E s

abbrev Ev (M : Model) (A : Around) (env : Env) (h : Heap) (e : Expr) (R X : Value → Heap → Prop) : Prop := EvT M A h (eval e env) R X
abbrev Tr (M : Model) (A : Around) (env : Env) (h : Heap) (e : Expr) (b : Bool) (X : Value → Heap → Prop) : Prop := EvT M A h (isTrue e env (eval e env)) (fun c _ => c = b) X

/-- the value v reads as d -/
def Rd (d : PyData) (v : Value) (h : Heap) : Prop := ∃ as, Reads h v d as
theorem Rd.keep {d : PyData} {v : Value} {h h' : Heap} (r : Rd d v h) (k : Keep h h') : Rd d v h' := let ⟨as, x⟩ := r; ⟨as, PyProof.Rows.Reads.keeps k x⟩
def RdL (ds : List PyData) (vs : List Value) (h : Heap) : Prop := ∃ as, ReadsAll h vs ds as
theorem RdL.keep {ds : List PyData} {vs : List Value} {h h' : Heap} (r : RdL ds vs h) (k : Keep h h') : RdL ds vs h' := let ⟨as, x⟩ := r; ⟨as, PyProof.Rows.ReadsAll.keeps k x⟩
theorem RdL.nil {h : Heap} : RdL [] [] h := ⟨_, .nil⟩
theorem RdL.cons {d ds v vs} {h : Heap} (a : Rd d v h) (b : RdL ds vs h) : RdL (d :: ds) (v :: vs) h := let ⟨_, x⟩ := a; let ⟨_, y⟩ := b; ⟨_, .cons x y⟩
theorem RdL.len {ds vs} {h : Heap} (a : RdL ds vs h) : vs.length = ds.length := by
  obtain ⟨as, x⟩ := a
  induction ds generalizing vs as with
  | nil => cases x; rfl
  | cons d ds ih => cases x with | cons _ y => simp [ih _ y]
theorem RdL.at {ds vs} {h : Heap} (a : RdL ds vs h) {i : Nat} {d : PyData} (e : ds[i]? = some d) : ∃ v, vs[i]? = some v ∧ Rd d v h := by
  obtain ⟨as, x⟩ := a
  induction ds generalizing vs as i with
  | nil => simp at e
  | cons d' ds ih =>
    cases x with
    | cons r y =>
      cases i with
      | zero => simp at e; subst e; exact ⟨_, rfl, _, r⟩
      | succ i =>
        obtain ⟨v, q⟩ := ih (i := i) (by simpa using e) _ y
        exact ⟨v, by simpa using q⟩
theorem RdL.uncons {d ds vs} {h : Heap} (a : RdL (d :: ds) vs h) : ∃ v r, vs = v :: r ∧ Rd d v h ∧ RdL ds r h := by
  obtain ⟨as, x⟩ := a
  cases x with | cons r y => exact ⟨_, _, rfl, ⟨_, r⟩, ⟨_, y⟩⟩
theorem RdL.unnil {vs} {h : Heap} (a : RdL [] vs h) : vs = [] := by
  obtain ⟨as, x⟩ := a
  cases x; rfl
theorem RdL.append {ds es vs us} {h : Heap} (a : RdL ds vs h) (b : RdL es us h) : RdL (ds ++ es) (vs ++ us) h := by
  obtain ⟨as, x⟩ := a
  induction ds generalizing vs as with
  | nil => cases x; exact b
  | cons d ds ih => cases x with | cons r y => exact RdL.cons ⟨_, r⟩ (ih _ y)
mutual
/-- no list and no dict in it -/
def flat : PyData → Bool
  | .list _ | .dict _ => false
  | .tuple xs => flatL xs
  | _ => true
def flatL : List PyData → Bool
  | [] => true
  | x :: xs => flat x && flatL xs
end
mutual
theorem flat_nil {h : Heap} : ∀ {d : PyData} {v : Value} {as : List Addr}, flat d = true → Reads h v d as → as = []
  | _, _, _, _, .none => rfl
  | _, _, _, _, .bool _ => rfl
  | _, _, _, _, .int _ _ => rfl
  | _, _, _, _, .str _ _ => rfl
  | .list _, _, _, hf, _ => by simp [flat] at hf
  | .dict _, _, _, hf, _ => by simp [flat] at hf
  | .tuple _, _, _, hf, .tuple _ _ _ y => flatL_nil (by simpa [flat] using hf) y
theorem flatL_nil {h : Heap} : ∀ {ds : List PyData} {vs : List Value} {as : List Addr}, flatL ds = true → ReadsAll h vs ds as → as = []
  | [], _, _, _, .nil => rfl
  | _ :: _, _, _, hf, .cons x y => by
    simp only [flatL, Bool.and_eq_true] at hf
    rw [flat_nil hf.1 x, flatL_nil hf.2 y]; rfl
end

/-- ... and whatever list is in it is new against h₀ -/
def Rf (h₀ : Heap) (d : PyData) (v : Value) (h : Heap) : Prop := ∃ as, Reads h v d as ∧ ∀ a ∈ as, h₀.get? a = none
theorem Rf.rd {h₀ : Heap} {d : PyData} {v : Value} {h : Heap} (r : Rf h₀ d v h) : Rd d v h := let ⟨as, x, _⟩ := r; ⟨as, x⟩
theorem Rf.of_flat {h₀ : Heap} {d : PyData} {v : Value} {h : Heap} (f : flat d = true) (r : Rd d v h) : Rf h₀ d v h := by
  obtain ⟨as, x⟩ := r
  refine ⟨as, x, ?_⟩
  rw [flat_nil f x]; exact fun _ ha => nomatch ha
theorem Rf.keep {h₀ : Heap} {d : PyData} {v : Value} {h h' : Heap} (r : Rf h₀ d v h) (k : Keep h h') : Rf h₀ d v h' := let ⟨as, x, n⟩ := r; ⟨as, PyProof.Rows.Reads.keeps k x, n⟩
theorem Rf.old {h₀ h₁ : Heap} {d : PyData} {v : Value} {h : Heap} (r : Rf h₁ d v h) (k : Keep h₀ h₁) : Rf h₀ d v h := by
  obtain ⟨as, x, n⟩ := r
  exact ⟨as, x, fun a ha => k.none (n a ha)⟩
/-- a new list of flat things -/
def Rl (h₀ : Heap) (ds : List PyData) (v : Value) (h : Heap) : Prop := ∃ l items, v = .ref l ∧ h.PlainList l items ∧ RdL ds items.toList h ∧ h₀.get? l = none
theorem Rl.keep {h₀ : Heap} {ds} {v : Value} {h h' : Heap} (r : Rl h₀ ds v h) (k : Keep h h') : Rl h₀ ds v h' := by
  obtain ⟨l, items, e, ⟨n, p⟩, x, f⟩ := r
  exact ⟨l, items, e, ⟨n, k _ _ p⟩, x.keep k, f⟩
theorem Rl.old {h₀ h₁ : Heap} {ds} {v : Value} {h : Heap} (r : Rl h₁ ds v h) (k : Keep h₀ h₁) : Rl h₀ ds v h := by
  obtain ⟨l, items, e, p, x, f⟩ := r
  exact ⟨l, items, e, p, x, k.none f⟩
theorem Rl.rd {h₀ : Heap} {ds} {v : Value} {h : Heap} (r : Rl h₀ ds v h) : Rd (.list ds) v h := by
  obtain ⟨l, items, e, ⟨n, p⟩, ⟨as, x⟩, _⟩ := r
  subst e
  exact ⟨_, .list p rfl rfl x⟩
theorem Rl.rf {h₀ : Heap} {ds} {v : Value} {h : Heap} (hf : flatL ds = true) (r : Rl h₀ ds v h) : Rf h₀ (.list ds) v h := by
  obtain ⟨l, items, e, ⟨n, p⟩, ⟨as, x⟩, f⟩ := r
  subst e
  refine ⟨_, .list p rfl rfl x, ?_⟩
  rw [flatL_nil hf x]
  intro a ha
  cases ha with
  | head => exact f
  | tail _ h => cases h

section
variable {α β : Type} {M : Model} {A : Around} {env : Env} {h : Heap} {X : Value → Heap → Prop}

theorem EvT.up {h' : Heap} {t : Sem α} {R : α → Heap → Prop} (e : EvT M A h t R X) (k : Keep h h') : EvT M A h' t R X := ⟨fun s Q E k' q x => e.go s Q E (k.trans k') q x⟩
theorem EvT.mono {t : Sem α} {R R' : α → Heap → Prop} (e : EvT M A h t R X) (m : ∀ a h', Keep h h' → R a h' → R' a h') : EvT M A h t R' X :=
  ⟨fun s Q E k q x => e.go s Q E k (fun a h' i k' r => q a h' i k' (m a h' (k.trans k') r)) x⟩
theorem EvT.monoX {t : Sem α} {R : α → Heap → Prop} {X' : Value → Heap → Prop} (e : EvT M A h t R X) (m : ∀ a h', X a h' → X' a h') : EvT M A h t R X' :=
  ⟨fun s Q E k q x => e.go s Q E k q (fun a h' i r => x a h' i (m a h' r))⟩
theorem EvT.of {t : Sem α} {R : α → Heap → Prop}
    (e : ∀ (s : Shared) (Q : α → Shared → Prop) (E : Value → Shared → Prop), Keep h s.heap → (∀ a h' k, Keep s.heap h' → R a h' → Q a { s with heap := h', toks := k }) → wpAny M A t Q E s) : EvT M A h t R X :=
  ⟨fun s Q E k q _ => e s Q E k q⟩
theorem EvT.ofS {t : Sem α} {R : α → Heap → Prop}
    (e : ∀ (s : Shared) (Q : α → Shared → Prop) (E : Value → Shared → Prop), Keep h s.heap → (∀ a k, R a s.heap → Q a { s with toks := k }) → wpAny M A t Q E s) : EvT M A h t R X :=
  ⟨fun s Q E k q _ => e s Q E k fun a k' r => q a s.heap k' Keep.rfl r⟩
theorem EvT.pure {a : α} {R : α → Heap → Prop} (r : ∀ h', Keep h h' → R a h') : EvT M A h (Pure.pure a) R X :=
  EvT.of fun s _ _ k q => wpAny_pure (q a s.heap s.toks Keep.rfl (r _ k))
theorem EvT.bind {t : Sem α} {f : α → Sem β} {R : α → Heap → Prop} {R' : β → Heap → Prop} (e : EvT M A h t R X)
    (n : ∀ a h', Keep h h' → R a h' → EvT M A h' (f a) R' X) : EvT M A h (t >>= f) R' X := by
  refine ⟨fun s Q E k q x => ?_⟩
  refine wpAny_bind (e.go s _ E k (fun a h' i k' r => ?_) x)
  exact (n a h' (k.trans k') r).go _ Q E (fun b o e => e) (fun a' h'' j k'' r' => q a' h'' j (k'.trans k'') r') (fun y h'' j r' => x y h'' j r')
theorem EvT.seq {t : Sem α} {R : α → Heap → Prop} (e : EvT M A h t R X) {s : Shared} {Q : α → Shared → Prop} {E : Value → Shared → Prop} (k : Keep h s.heap)
    (q : ∀ a h' i, Keep s.heap h' → R a h' → Q a { s with heap := h', toks := i }) (x : ∀ y h' i, X y h' → E y { s with heap := h', toks := i }) : wpAny M A t Q E s := e.go s Q E k q x
/-- two trees, one behind the other -/
theorem EvT.two {γ : Type} {t : Sem α} {u : Sem β} {R : α → Heap → Prop} {R2 : β → Heap → Prop} {v : α → β → Sem γ} {R' : γ → Heap → Prop} (e : EvT M A h t R X) (e2 : EvT M A h u R2 X)
    (m : ∀ a h' h'', Keep h' h'' → R a h' → R a h'') (n : ∀ a b h', Keep h h' → R a h' → R2 b h' → EvT M A h' (v a b) R' X)
    {s : Shared} {Q : γ → Shared → Prop} {E : Value → Shared → Prop} (k : Keep h s.heap)
    (q : ∀ a h' i, Keep s.heap h' → R' a h' → Q a { s with heap := h', toks := i }) (x : ∀ y h' i, X y h' → E y { s with heap := h', toks := i }) :
    wpAny M A t (fun a s₁ => wpAny M A u (fun b s₂ => wpAny M A (v a b) Q E s₂) E s₁) E s := by
  refine e.go s _ E k (fun a h1 i k1 r1 => ?_) x
  refine (e2.up (k.trans k1)).seq (s := { s with heap := h1, toks := i }) Keep.rfl (fun b h2 j k2 r2 => ?_) (fun y h2 j r => x y h2 j r)
  exact (n a b h2 (k.trans (Keep.trans k1 k2)) (m _ _ _ k2 r1) r2).seq (s := { s with heap := h2, toks := j }) Keep.rfl (fun c h3 j k3 r3 => q c h3 j (Keep.trans k1 (Keep.trans k2 k3)) r3) (fun y h3 j r => x y h3 j r)
end
theorem rd_mono {d : PyData} : ∀ a h' h'', Keep h' h'' → Rd d a h' → Rd d a h'' := fun _ _ _ k r => r.keep k

section
variable {prog : Program} {w : World} {A : Around} {env : Env} {h : Heap} {X : Value → Heap → Prop}

theorem ev_int {i : Int} {k pos} : Ev (model prog w) A env h (.Constant (.int i) k pos) (Rd (.int i)) X :=
  EvT.ofS fun _ _ _ _ q => wpAny_Constant_int (q _ _ ⟨_, .int _ _⟩)
theorem ev_str {x : Str} {k pos} : Ev (model prog w) A env h (.Constant (.str x) k pos) (Rd (.str x)) X :=
  EvT.ofS fun _ _ _ _ q => wpAny_Constant_str (q _ _ ⟨_, .str _ _⟩)
theorem ev_bool {b : Bool} {k pos} : Ev (model prog w) A env h (.Constant (.bool b) k pos) (Rd (.bool b)) X :=
  EvT.ofS fun s _ _ _ q => wpAny_Constant_bool (q _ s.toks ⟨_, .bool _⟩)
theorem ev_none {k pos} : Ev (model prog w) A env h (.Constant .none k pos) (Rd .none) X :=
  EvT.ofS fun s _ _ _ q => wpAny_Constant_none (q _ s.toks ⟨_, .none⟩)

theorem ev_bin {l r : Expr} {op : Operator} {pos : Pos} {d1 d2 : PyData} {R : Value → Heap → Prop} (e1 : Ev (model prog w) A env h l (Rd d1) X) (e2 : Ev (model prog w) A env h r (Rd d2) X)
    (o : ∀ v1 v2 h', Keep h h' → Rd d1 v1 h' → Rd d2 v2 h' → EvT (model prog w) A h' (binaryOp op v1 v2) R X) : Ev (model prog w) A env h (.BinOp l op r pos) R X := by
  refine ⟨fun s Q E k q x => ?_⟩
  exact wpAny_BinOp (EvT.two e1 e2 rd_mono o k q x)

theorem rd_int {i : Int} {v : Value} {h : Heap} (r : Rd (.int i) v h) : ∃ t, v = .int i t := by obtain ⟨as, x⟩ := r; cases x; exact ⟨_, rfl⟩
theorem rd_str {i : Str} {v : Value} {h : Heap} (r : Rd (.str i) v h) : ∃ t, v = .str i t := by obtain ⟨as, x⟩ := r; cases x; exact ⟨_, rfl⟩
theorem rd_bool {i : Bool} {v : Value} {h : Heap} (r : Rd (.bool i) v h) : v = .bool i := by obtain ⟨as, x⟩ := r; cases x; rfl
theorem rd_none {v : Value} {h : Heap} (r : Rd .none v h) : v = .none := by obtain ⟨as, x⟩ := r; cases x; rfl
theorem rd_tup {ds : List PyData} {v : Value} {h : Heap} (r : Rd (.tuple ds) v h) : ∃ a items, v = .ref a ∧ h.IsTuple a items ∧ RdL ds items.toList h := by
  obtain ⟨as, x⟩ := r
  cases x with | tuple h1 h2 h3 y => exact ⟨_, _, rfl, ⟨_, h1, h2, _, h3⟩, _, y⟩
theorem rd_list {ds : List PyData} {v : Value} {h : Heap} (r : Rd (.list ds) v h) : ∃ a items, v = .ref a ∧ h.IsList a items ∧ RdL ds items.toList h := by
  obtain ⟨as, x⟩ := r
  cases x with | list h1 h2 h3 y => exact ⟨_, _, rfl, ⟨_, h1, h2, _, h3⟩, _, y⟩

theorem ev_add {l r : Expr} {pos : Pos} {a b : Int} (e1 : Ev (model prog w) A env h l (Rd (.int a)) X) (e2 : Ev (model prog w) A env h r (Rd (.int b)) X) :
    Ev (model prog w) A env h (.BinOp l .Add r pos) (Rd (.int (a + b))) X := ev_bin e1 e2 fun v1 v2 h' k r1 r2 => by
  obtain ⟨t, rfl⟩ := rd_int r1; obtain ⟨u, rfl⟩ := rd_int r2
  exact EvT.ofS fun _ _ _ _ q => P.add_int (q _ _ ⟨_, .int _ _⟩)
theorem ev_sub {l r : Expr} {pos : Pos} {a b : Int} (e1 : Ev (model prog w) A env h l (Rd (.int a)) X) (e2 : Ev (model prog w) A env h r (Rd (.int b)) X) :
    Ev (model prog w) A env h (.BinOp l .Sub r pos) (Rd (.int (a - b))) X := ev_bin e1 e2 fun v1 v2 h' k r1 r2 => by
  obtain ⟨t, rfl⟩ := rd_int r1; obtain ⟨u, rfl⟩ := rd_int r2
  exact EvT.ofS fun _ _ _ _ q => P.sub_int (q _ _ ⟨_, .int _ _⟩)
theorem ev_mul {l r : Expr} {pos : Pos} {a b : Int} (e1 : Ev (model prog w) A env h l (Rd (.int a)) X) (e2 : Ev (model prog w) A env h r (Rd (.int b)) X) (hm : IntMulOk a b) :
    Ev (model prog w) A env h (.BinOp l .Mult r pos) (Rd (.int (a * b))) X := ev_bin e1 e2 fun v1 v2 h' k r1 r2 => by
  obtain ⟨t, rfl⟩ := rd_int r1; obtain ⟨u, rfl⟩ := rd_int r2
  exact EvT.ofS fun _ _ _ _ q => P.mul_int (q _ _ ⟨_, .int _ _⟩) hm
theorem ev_mod {l r : Expr} {pos : Pos} {a b : Int} (e1 : Ev (model prog w) A env h l (Rd (.int a)) X) (e2 : Ev (model prog w) A env h r (Rd (.int b)) X) (hb : 0 < b) :
    Ev (model prog w) A env h (.BinOp l .Mod r pos) (Rd (.int (a % b))) X := ev_bin e1 e2 fun v1 v2 h' k r1 r2 => by
  obtain ⟨t, rfl⟩ := rd_int r1; obtain ⟨u, rfl⟩ := rd_int r2
  refine EvT.ofS fun _ _ _ _ q => PyProof.Rows.mod_int (by omega) ?_
  rw [Int.fmod_eq_emod_of_nonneg _ (by omega)]
  exact q _ _ ⟨_, .int _ _⟩
theorem ev_neg {x : Expr} {pos : Pos} {a : Int} (e1 : Ev (model prog w) A env h x (Rd (.int a)) X) :
    Ev (model prog w) A env h (.UnaryOp .USub x pos) (Rd (.int (-a))) X := by
  refine ⟨fun s Q E k q x => ?_⟩
  refine wpAny_UnaryOp (e1.go s _ E k (fun v h1 i k1 r1 => ?_) x)
  obtain ⟨t, rfl⟩ := rd_int r1
  exact P.neg_int (q _ _ _ k1 ⟨_, .int _ _⟩)

/-- one comparison, as a value and as a test -/
theorem ev_cmp {l r : Expr} {op : CmpOp} {pos : Pos} {d1 d2 : PyData} {R : Value → Heap → Prop} (e1 : Ev (model prog w) A env h l (Rd d1) X) (e2 : Ev (model prog w) A env h r (Rd d2) X)
    (o : ∀ v1 v2 h', Keep h h' → Rd d1 v1 h' → Rd d2 v2 h' → EvT (model prog w) A h' (compareOp op v1 v2) R X) (hm : pl r = true := by rfl) :
    Ev (model prog w) A env h (.Compare l [op] [r] pos) R X := by
  refine ⟨fun s Q E k q x => ?_⟩
  exact wpAny_Compare1 (EvT.two e1 e2 rd_mono o k q x) (pl_marks hm)
theorem tr_cmp {l r : Expr} {op : CmpOp} {pos : Pos} {d1 d2 : PyData} {b : Bool} (e1 : Ev (model prog w) A env h l (Rd d1) X) (e2 : Ev (model prog w) A env h r (Rd d2) X)
    (o : ∀ v1 v2 h', Keep h h' → Rd d1 v1 h' → Rd d2 v2 h' → EvT (model prog w) A h' (compareOp op v1 v2) (Rd (.bool b)) X) (hm : pl r = true := by rfl) :
    Tr (model prog w) A env h (.Compare l [op] [r] pos) b X := by
  refine ⟨fun s Q E k q x => ?_⟩
  refine wpAny_isTrue_Compare1 ?_ (pl_marks hm)
  exact EvT.two (v := fun a b => compareOp op a b) (Q := fun c s₃ => wpAny (model prog w) A (truthy c) Q E s₃) e1 e2 rd_mono o k (fun c h' i k' r => by cases rd_bool r; exact wpAny_truthy_bool (q _ _ _ k' rfl)) x

/-- int comparisons -/
def icmp : CmpOp → Int → Int → Option Bool
  | .Lt, a, b => some (decide (a < b))
  | .LtE, a, b => some (decide (a ≤ b))
  | .Gt, a, b => some (decide (a > b))
  | .GtE, a, b => some (decide (a ≥ b))
  | .Eq, a, b => some (a == b)
  | .NotEq, a, b => some (a != b)
  | _, _, _ => none
theorem op_icmp {op : CmpOp} {a b : Int} {c : Bool} (e : icmp op a b = some c) {v1 v2 : Value} {h' : Heap} (r1 : Rd (.int a) v1 h') (r2 : Rd (.int b) v2 h') :
    EvT (model prog w) A h' (compareOp op v1 v2) (Rd (.bool c)) X := by
  obtain ⟨t, rfl⟩ := rd_int r1; obtain ⟨u, rfl⟩ := rd_int r2
  cases op <;> cases e
  · exact EvT.ofS fun s _ _ _ q => P.eq_int (q _ s.toks ⟨_, .bool _⟩)
  · exact EvT.ofS fun s _ _ _ q => P.ne_int (q _ s.toks ⟨_, .bool _⟩)
  · exact EvT.ofS fun s _ _ _ q => P.lt_int (q _ s.toks ⟨_, .bool _⟩)
  · exact EvT.ofS fun s _ _ _ q => P.le_int (q _ s.toks ⟨_, .bool _⟩)
  · exact EvT.ofS fun s _ _ _ q => P.gt_int (q _ s.toks ⟨_, .bool _⟩)
  · exact EvT.ofS fun s _ _ _ q => P.ge_int (q _ s.toks ⟨_, .bool _⟩)
theorem ev_icmp {l r : Expr} {op : CmpOp} {pos : Pos} {a b : Int} {c : Bool} (e1 : Ev (model prog w) A env h l (Rd (.int a)) X) (e2 : Ev (model prog w) A env h r (Rd (.int b)) X) (e : icmp op a b = some c)
    (hm : pl r = true := by rfl) : Ev (model prog w) A env h (.Compare l [op] [r] pos) (Rd (.bool c)) X :=
  ev_cmp e1 e2 (fun _ _ _ _ r1 r2 => op_icmp e r1 r2) hm
theorem tr_icmp {l r : Expr} {op : CmpOp} {pos : Pos} {a b : Int} {c : Bool} (e1 : Ev (model prog w) A env h l (Rd (.int a)) X) (e2 : Ev (model prog w) A env h r (Rd (.int b)) X) (e : icmp op a b = some c)
    (hm : pl r = true := by rfl) : Tr (model prog w) A env h (.Compare l [op] [r] pos) c X :=
  tr_cmp e1 e2 (fun _ _ _ _ r1 r2 => op_icmp e r1 r2) hm

/-- tests -/
theorem tr_not {x : Expr} {pos : Pos} {b : Bool} (e : Tr (model prog w) A env h x b X) : Tr (model prog w) A env h (.UnaryOp .Not x pos) (!b) X := by
  refine ⟨fun s Q E k q x => ?_⟩
  refine wpAny_isTrue_Not (e.go s _ E k (fun c h1 i k1 r1 => ?_) x)
  subst r1; exact q _ _ _ k1 rfl
theorem tr_bool {op : BoolOp} {es : List Expr} {pos : Pos} {b : Bool} (e : EvT (model prog w) A h (allTrue op es env) (fun c _ => c = b) X) : Tr (model prog w) A env h (.BoolOp op es pos) b X := by
  refine ⟨fun s Q E k q x => ?_⟩
  exact wpAny_isTrue_BoolOp (e.go s Q E k q x)
theorem all_and_nil : EvT (model prog w) A h (allTrue .And [] env) (fun c _ => c = true) X := EvT.ofS fun s _ _ _ q => wpAny_allTrue_And_nil (q _ s.toks rfl)
theorem all_and {x : Expr} {es : List Expr} {a b : Bool} (e : Tr (model prog w) A env h x a X) (e2 : a = true → EvT (model prog w) A h (allTrue .And es env) (fun c _ => c = b) X) :
    EvT (model prog w) A h (allTrue .And (x :: es) env) (fun c _ => c = (a && b)) X := by
  refine ⟨fun s Q E k q x => ?_⟩
  refine wpAny_allTrue_And_cons (e.go s _ E k (fun c h1 i k1 r1 => ?_) x)
  subst r1
  cases c with
  | false => exact q _ _ _ k1 rfl
  | true => exact ((e2 rfl).up (k.trans k1)).seq (s := { s with heap := h1, toks := i }) Keep.rfl (fun c h2 j k2 r2 => q c h2 j (Keep.trans k1 k2) (by simpa using r2)) (fun y h2 j r => x y h2 j r)
theorem all_or_nil : EvT (model prog w) A h (allTrue .Or [] env) (fun c _ => c = false) X := EvT.ofS fun s _ _ _ q => wpAny_pure (a := false) (q _ s.toks rfl)
theorem all_or {x : Expr} {es : List Expr} {a b : Bool} (e : Tr (model prog w) A env h x a X) (e2 : a = false → EvT (model prog w) A h (allTrue .Or es env) (fun c _ => c = b) X) :
    EvT (model prog w) A h (allTrue .Or (x :: es) env) (fun c _ => c = (a || b)) X := by
  refine ⟨fun s Q E k q x => ?_⟩
  refine wpAny_allTrue_Or_cons (e.go s _ E k (fun c h1 i k1 r1 => ?_) x)
  subst r1
  cases c with
  | true => exact q _ _ _ k1 rfl
  | false => exact ((e2 rfl).up (k.trans k1)).seq (s := { s with heap := h1, toks := i }) Keep.rfl (fun c h2 j k2 r2 => q c h2 j (Keep.trans k1 k2) (by simpa using r2)) (fun y h2 j r => x y h2 j r)
theorem tr_val {e : Expr} {b : Bool} (e1 : Ev (model prog w) A env h e (Rd (.bool b)) X)
    (he : plT e = true := by rfl) : Tr (model prog w) A env h e b X := by
  refine ⟨fun s Q E k q x => ?_⟩
  refine wpAny_isTrue_value (e1.go s _ E k (fun c h1 i k1 r1 => ?_) x) (plT_eq he)
  cases rd_bool r1; exact wpAny_truthy_bool (q _ _ _ k1 rfl)
theorem ev_not {x : Expr} {pos : Pos} {b : Bool} (e : Ev (model prog w) A env h x (Rd (.bool b)) X) : Ev (model prog w) A env h (.UnaryOp .Not x pos) (Rd (.bool (!b))) X := by
  refine ⟨fun s Q E k q x => ?_⟩
  refine wpAny_UnaryOp (e.go s _ E k (fun v h1 i k1 r1 => ?_) x)
  cases rd_bool r1
  exact PyProof.Rows.not_of (wpAny_truthy_bool (q _ _ _ k1 ⟨_, .bool _⟩))

/-- and, or as values: all of them bools -/
theorem bo_last {op : BoolOp} {x : Expr} {pos : Pos} {R : Value → Heap → Prop} (e : Ev (model prog w) A env h x R X) : EvT (model prog w) A h (boolOp pos op [eval x env]) R X := e
theorem bo_and {x y : Expr} {es : List Expr} {pos : Pos} {a b : Bool} (e : Ev (model prog w) A env h x (Rd (.bool a)) X)
    (e2 : a = true → EvT (model prog w) A h (boolOp pos .And (evalEach (y :: es) env)) (Rd (.bool b)) X) :
    EvT (model prog w) A h (boolOp pos .And (evalEach (x :: y :: es) env)) (Rd (.bool (a && b))) X := by
  refine ⟨fun s Q E k q x' => ?_⟩
  show wpAny (model prog w) A (do
    let v ← eval x env
    standAt pos
    let t ← holding [v] (truthy v)
    match BoolOp.And, t with
    | .And, false | .Or, true => pure v
    | _, _ => boolOp pos .And (evalEach (y :: es) env)) Q E s
  refine wpAny_bind (e.go s _ E k (fun v h1 i k1 r1 => ?_) x')
  cases rd_bool r1
  refine wpAny_bind (wpAny_standAt (wpAny_bind (wpAny_holding (wpAny_truthy_bool ?_))))
  cases a with
  | false => exact wpAny_pure (q _ _ _ k1 ⟨_, .bool _⟩)
  | true => exact ((e2 rfl).up (k.trans k1)).seq (s := { s with heap := h1, toks := i }) Keep.rfl (fun c h2 j k2 r2 => q c h2 j (Keep.trans k1 k2) (by simpa using r2)) (fun y h2 j r => x' y h2 j r)
theorem bo_or {x y : Expr} {es : List Expr} {pos : Pos} {a b : Bool} (e : Ev (model prog w) A env h x (Rd (.bool a)) X)
    (e2 : a = false → EvT (model prog w) A h (boolOp pos .Or (evalEach (y :: es) env)) (Rd (.bool b)) X) :
    EvT (model prog w) A h (boolOp pos .Or (evalEach (x :: y :: es) env)) (Rd (.bool (a || b))) X := by
  refine ⟨fun s Q E k q x' => ?_⟩
  show wpAny (model prog w) A (do
    let v ← eval x env
    standAt pos
    let t ← holding [v] (truthy v)
    match BoolOp.Or, t with
    | .And, false | .Or, true => pure v
    | _, _ => boolOp pos .Or (evalEach (y :: es) env)) Q E s
  refine wpAny_bind (e.go s _ E k (fun v h1 i k1 r1 => ?_) x')
  cases rd_bool r1
  refine wpAny_bind (wpAny_standAt (wpAny_bind (wpAny_holding (wpAny_truthy_bool ?_))))
  cases a with
  | true => exact wpAny_pure (q _ _ _ k1 ⟨_, .bool _⟩)
  | false => exact ((e2 rfl).up (k.trans k1)).seq (s := { s with heap := h1, toks := i }) Keep.rfl (fun c h2 j k2 r2 => q c h2 j (Keep.trans k1 k2) (by simpa using r2)) (fun y h2 j r => x' y h2 j r)
theorem ev_bop {op : BoolOp} {es : List Expr} {pos : Pos} {R : Value → Heap → Prop} (e : EvT (model prog w) A h (boolOp pos op (evalEach es env)) R X) : Ev (model prog w) A env h (.BoolOp op es pos) R X := by
  refine ⟨fun s Q E k q x => ?_⟩
  rw [arm_eval_BoolOp]; exact e.go s Q E k q x
theorem ev_ife {t b o : Expr} {pos : Pos} {c : Bool} {R : Value → Heap → Prop} (e : Tr (model prog w) A env h t c X) (e1 : c = true → Ev (model prog w) A env h b R X) (e2 : c = false → Ev (model prog w) A env h o R X) :
    Ev (model prog w) A env h (.IfExp t b o pos) R X := by
  refine ⟨fun s Q E k q x => ?_⟩
  refine wpAny_IfExp (e.go s _ E k (fun v h1 i k1 r1 => ?_) x)
  subst r1
  cases v with
  | true => exact ((e1 rfl).up (k.trans k1)).seq (s := { s with heap := h1, toks := i }) Keep.rfl (fun c h2 j k2 r2 => q c h2 j (Keep.trans k1 k2) r2) (fun y h2 j r => x y h2 j r)
  | false => exact ((e2 rfl).up (k.trans k1)).seq (s := { s with heap := h1, toks := i }) Keep.rfl (fun c h2 j k2 r2 => q c h2 j (Keep.trans k1 k2) r2) (fun y h2 j r => x y h2 j r)

/-- argument lists, displays -/
abbrev EvL (M : Model) (A : Around) (env : Env) (h : Heap) (pos : Pos) (es : List Expr) (ds : List PyData) (X : Value → Heap → Prop) : Prop := EvT M A h (spliced (backTo pos (starEach es env))) (RdL ds) X
theorem evl_nil {pos : Pos} : EvL (model prog w) A env h pos [] [] X := EvT.ofS fun s _ _ _ q => PyProof.Rows.args_nil (q _ s.toks RdL.nil)
theorem evl_cons {pos : Pos} {x : Expr} {es : List Expr} {d : PyData} {ds : List PyData} (e : Ev (model prog w) A env h x (Rd d) X) (e2 : EvL (model prog w) A env h pos es ds X)
    (he : pl x = true := by rfl) : EvL (model prog w) A env h pos (x :: es) (d :: ds) X := by
  refine ⟨fun s Q E k q x => ?_⟩
  refine PyProof.Rows.args_cons (e.go s _ E k (fun v h1 i k1 r1 => ?_) x) (pl_star he)
  exact (e2.up (k.trans k1)).seq (s := { s with heap := h1, toks := i }) Keep.rfl (fun c h2 j k2 r2 => q _ h2 j (Keep.trans k1 k2) (RdL.cons (r1.keep k2) r2)) (fun y h2 j r => x y h2 j r)

theorem ev_tup {es : List Expr} {n : Nat} {pos : Pos} {ds : List PyData} (e : EvL (model prog w) A env h pos es ds X) (hn : ds.length ≤ sizeLine := by simp only [List.length_cons, List.length_nil]; decide) : Ev (model prog w) A env h (.Tuple es n pos) (Rd (.tuple ds)) X := by
  refine ⟨fun s Q E k q x => ?_⟩
  refine wpAny_Tuple (e.go s _ E k (fun vs h1 i k1 r1 => ⟨by rw [r1.len]; exact hn, ?_⟩) x)
  obtain ⟨as, y⟩ := r1.keep (Keep.push Keep.rfl { cls := .type "tuple", data := .seq vs.toArray })
  exact q _ _ _ (Keep.push k1 _) ⟨_, .tuple (Heap.get?_push_size _ rfl) rfl rfl (by simpa using y)⟩
theorem ev_list {es : List Expr} {pos : Pos} {ds : List PyData} (e : EvL (model prog w) A env h pos es ds X) (hn : ds.length ≤ sizeLine := by simp only [List.length_cons, List.length_nil]; decide) : Ev (model prog w) A env h (.List es pos) (Rl h ds) X := by
  refine ⟨fun s Q E k q x => ?_⟩
  refine wpAny_List (e.go s _ E k (fun vs h1 i k1 r1 => ⟨by rw [r1.len]; exact hn, ?_⟩) x)
  refine q _ _ _ (Keep.push k1 _) ⟨_, _, rfl, ⟨_, Heap.get?_push_size _ rfl⟩, by simpa using r1.keep (Keep.push Keep.rfl _), ?_⟩
  cases hq : h.get? h1.objs.size with
  | none => rfl
  | some o => exact absurd (Heap.lt_size (k1 _ _ (k _ _ hq))) (Nat.lt_irrefl _)
end
end Mine

namespace Mine
open PySem PySem.Spec PySem.Calls PyProof.Rows

/-- an object that no datum is read from -/
def Odd (a : Addr) (h : Heap) : Prop := ∀ o, h.get? a = some o → (∀ vs n, o.data ≠ .seq vs n) ∧ (∀ es n, o.data ≠ .dict es n)
/-- an object that is no tuple -/
def NoTup (a : Addr) (h : Heap) : Prop := ∀ o, h.get? a = some o → o.cls = .type "tuple" → ∀ vs n, o.data ≠ .seq vs n
mutual
theorem reads_kp {W : List Addr} {h h' : Heap} (k : Kp W h h') : ∀ {v : Value} {d : PyData} {as : List Addr}, (∀ a ∈ W, Odd a h ∨ (a ∉ as ∧ NoTup a h)) → Reads h v d as → Reads h' v d as
  | _, _, _, _, .none => .none
  | _, _, _, _, .bool _ => .bool _
  | _, _, _, _, .int _ _ => .int _ _
  | _, _, _, _, .str _ _ => .str _ _
  | _, _, _, hw, .list h1 h2 h3 y => by
    refine .list (k _ _ (fun ha => ?_) h1) h2 h3 (readsAll_kp k (fun b hb => (hw b hb).imp id fun q => ⟨fun e => q.1 (.tail _ e), q.2⟩) y)
    rcases hw _ ha with q | q
    · exact (q _ h1).1 _ _ h3
    · exact q.1 (.head _)
  | _, _, _, hw, .tuple h1 h2 h3 y => by
    refine .tuple (k _ _ (fun ha => ?_) h1) h2 h3 (readsAll_kp k hw y)
    rcases hw _ ha with q | q
    · exact (q _ h1).1 _ _ h3
    · exact q.2 _ h1 h2 _ _ h3
  | _, _, _, hw, .dict h1 h2 h3 y z => by
    refine .dict (k _ _ (fun ha => ?_) h1) h2 h3 (readsAll_kp k (fun b hb => (hw b hb).imp id fun q => ⟨fun e => q.1 (.tail _ (List.mem_append_left _ e)), q.2⟩) y)
      (readsAll_kp k (fun b hb => (hw b hb).imp id fun q => ⟨fun e => q.1 (.tail _ (List.mem_append_right _ e)), q.2⟩) z)
    rcases hw _ ha with q | q
    · exact (q _ h1).2 _ _ h3
    · exact q.1 (.head _)
theorem readsAll_kp {W : List Addr} {h h' : Heap} (k : Kp W h h') : ∀ {vs : List Value} {ds : List PyData} {as : List Addr}, (∀ a ∈ W, Odd a h ∨ (a ∉ as ∧ NoTup a h)) → ReadsAll h vs ds as → ReadsAll h' vs ds as
  | _, _, _, _, .nil => .nil
  | _, _, _, hw, .cons x y => .cons (reads_kp k (fun b hb => (hw b hb).imp id fun q => ⟨fun e => q.1 (List.mem_append_left _ e), q.2⟩) x)
      (readsAll_kp k (fun b hb => (hw b hb).imp id fun q => ⟨fun e => q.1 (List.mem_append_right _ e), q.2⟩) y)
end

mutual
theorem reads_some {h : Heap} : ∀ {v : Value} {d : PyData} {as : List Addr}, Reads h v d as → ∀ a ∈ as, ∃ o, h.get? a = some o
  | _, _, _, .none, _, ha => nomatch ha
  | _, _, _, .bool _, _, ha => nomatch ha
  | _, _, _, .int _ _, _, ha => nomatch ha
  | _, _, _, .str _ _, _, ha => nomatch ha
  | _, _, _, .list h1 _ _ y, _, ha => by
    cases ha with
    | head => exact ⟨_, h1⟩
    | tail _ ha => exact readsAll_some y _ ha
  | _, _, _, .tuple _ _ _ y, _, ha => readsAll_some y _ ha
  | _, _, _, .dict h1 _ _ y z, _, ha => by
    cases ha with
    | head => exact ⟨_, h1⟩
    | tail _ ha => exact (List.mem_append.mp ha).elim (readsAll_some y _) (readsAll_some z _)
theorem readsAll_some {h : Heap} : ∀ {vs : List Value} {ds : List PyData} {as : List Addr}, ReadsAll h vs ds as → ∀ a ∈ as, ∃ o, h.get? a = some o
  | _, _, _, .nil, _, ha => nomatch ha
  | _, _, _, .cons x y, _, ha => (List.mem_append.mp ha).elim (reads_some x _) (readsAll_some y _)
end

abbrev Locs := List (Str × PyData)
abbrev Mut := Option (Str × Addr × List PyData)
/-- what is known of a frame: some of its names, and one list of its own that may be changed -/
structure St (g : Heap) (L : Addr) (h : Heap) (ρ : Locs) (μ : Mut) : Prop where
  ex : ∃ m, Fr g L h m ∧ (∀ x d, ρ.lookup x = some d → ∃ v as, m x = some v ∧ Reads h v d as ∧ L ∉ as ∧ ∀ q, μ = some q → q.2.1 ∉ as) ∧
    (∀ q, μ = some q → m q.1 = some (.ref q.2.1) ∧ g.get? q.2.1 = none ∧ flatL q.2.2 = true ∧ ∃ items, h.PlainList q.2.1 items ∧ RdL q.2.2 items.toList h)

theorem noTup_L {h₀ h : Heap} {L : Addr} {m} (F : Fr h₀ L h m) : NoTup L h := by
  obtain ⟨o, es, ep, ho, hd, _⟩ := F.ns
  intro o' ho' _ vs n e
  rw [ho] at ho'; cases ho'; rw [hd] at e; cases e
theorem noTup_list {h : Heap} {l : Addr} {items} (p : h.PlainList l items) : NoTup l h := by
  obtain ⟨n, p⟩ := p
  intro o ho hc
  rw [p] at ho; cases ho; simp at hc
theorem L_some {h₀ h : Heap} {L : Addr} {m} (F : Fr h₀ L h m) : ∃ o, h.get? L = some o := by
  obtain ⟨o, es, ep, ho, r⟩ := F.ns
  exact ⟨o, ho⟩
theorem L_ne_list {h₀ h : Heap} {L l : Addr} {m} {items} (F : Fr h₀ L h m) (p : h.PlainList l items) : l ≠ L := by
  obtain ⟨n, p⟩ := p
  obtain ⟨o, es, ep, ho, hd, _⟩ := F.ns
  intro e; subst e
  rw [p] at ho; cases ho; cases hd

theorem plain_kp {W : List Addr} {h h' : Heap} {l : Addr} {items} (k : Kp W h h') (n : l ∉ W) (p : h.PlainList l items) : h'.PlainList l items := let ⟨i, p⟩ := p; ⟨i, k _ _ n p⟩
theorem rdl_flat_kp {W : List Addr} {h h' : Heap} {ds vs} (k : Kp W h h') (hf : flatL ds = true) (hw : ∀ a ∈ W, NoTup a h) (r : RdL ds vs h) : RdL ds vs h' := by
  obtain ⟨as, x⟩ := r
  have e := flatL_nil hf x
  subst e
  exact ⟨_, readsAll_kp k (fun a ha => .inr ⟨List.not_mem_nil, hw a ha⟩) x⟩

section
variable {g h h' : Heap} {L : Addr} {ρ ρ' : Locs} {μ : Mut}
theorem St.keep (S : St g L h ρ μ) (k : Keep h h') : St g L h' ρ μ := by
  obtain ⟨m, F, hr, hm⟩ := S.ex
  refine ⟨m, F.after k, fun x d e => ?_, fun q e => ?_⟩
  · obtain ⟨v, as, a, b, c⟩ := hr x d e
    exact ⟨v, as, a, PyProof.Rows.Reads.keeps k b, c⟩
  · obtain ⟨a, b, c, items, ⟨n, p⟩, r⟩ := hm q e
    exact ⟨a, b, c, items, ⟨n, k _ _ p⟩, r.keep k⟩
theorem St.frK (S : St g L h ρ μ) : Keep g h := by obtain ⟨m, F, _⟩ := S.ex; exact F.keep
def Sub (ρ : Locs) : Locs → Prop
  | [] => True
  | p :: r => ρ.lookup p.1 = some p.2 ∧ Sub ρ r
theorem Sub.at {ρ : Locs} : ∀ {ρ' : Locs}, Sub ρ ρ' → ∀ x d, ρ'.lookup x = some d → ρ.lookup x = some d
  | [], _, _, _, e => nomatch e
  | (y, d') :: r, hs, x, d, e => by
    rw [List.lookup_cons] at e
    cases hb : x == y with
    | true => rw [hb] at e; cases e; rw [eq_of_beq hb]; exact hs.1
    | false => rw [hb] at e; exact hs.2.at x d e
theorem St.pick (S : St g L h ρ μ) (hs : Sub ρ ρ') : St g L h ρ' μ := by
  obtain ⟨m, F, hr, hm⟩ := S.ex
  exact ⟨m, F, fun x d e => hr x d (hs.at x d e), hm⟩
/-- the list is changed no more -/
theorem St.freeze {x : Str} {l : Addr} {ds : List PyData} (S : St g L h ρ (some (x, l, ds))) : St g L h ((x, .list ds) :: ρ) none := by
  obtain ⟨m, F, hr, hm⟩ := S.ex
  refine ⟨m, F, fun y d e => ?_, fun q e => nomatch e⟩
  rw [List.lookup_cons] at e
  cases hb : y == x with
  | true =>
    rw [hb] at e; cases e
    obtain ⟨a, b, c, items, p, ⟨as, r⟩⟩ := hm _ rfl
    have e := flatL_nil c r
    subst e
    obtain ⟨n, p'⟩ := id p
    refine ⟨_, _, by rw [eq_of_beq hb]; exact a, .list p' rfl rfl r, ?_, fun q e => nomatch e⟩
    intro hL
    cases hL with
    | head => exact L_ne_list F p rfl
    | tail _ e => cases e
  | false =>
    rw [hb] at e
    obtain ⟨v, as, a, b, c, _⟩ := hr y d e
    exact ⟨v, as, a, b, c, fun q e => nomatch e⟩
/-- changes at objects that bear nothing known -/
theorem St.odd {a : Addr} (S : St g L h ρ μ) (ho : Odd a h) (hs : ∃ o, h.get? a = some o) (hg : g.get? a = none) (k : Kp [a] h h') : St g L h' ρ μ := by
  obtain ⟨m, F, hr, hm⟩ := S.ex
  obtain ⟨o, hs⟩ := hs
  have hL : L ≠ a := by
    intro e; subst e
    obtain ⟨o', es, ep, ho', hd, _⟩ := F.ns
    exact (ho o' ho').2 _ _ hd
  refine ⟨m, ⟨?_, fun b o e => k b o ?_ (F.keep b o e), F.above⟩, fun x d e => ?_, fun q e => ?_⟩
  · obtain ⟨o', es, ep, ho', r⟩ := F.ns
    exact ⟨o', es, ep, k _ _ (by simp [hL]) ho', r⟩
  · intro hb
    rw [List.mem_singleton] at hb; subst hb; rw [hg] at e; cases e
  · obtain ⟨v, as, a, b, c⟩ := hr x d e
    exact ⟨v, as, a, reads_kp k (fun y hy => by rw [List.mem_singleton] at hy; subst hy; exact .inl ho) b, c⟩
  · obtain ⟨a', b, c, items, p, r⟩ := hm q e
    have hl : q.2.1 ≠ a := by
      intro e; obtain ⟨n, p⟩ := p
      rw [e] at p
      exact (ho _ p).1 _ _ rfl
    refine ⟨a', b, c, items, plain_kp k (by simp [hl]) p, ?_⟩
    obtain ⟨as, r⟩ := r
    exact ⟨as, readsAll_kp k (fun y hy => by rw [List.mem_singleton] at hy; subst hy; exact .inl ho) r⟩
end

/-- statements: whatever stands stays, but for the frame's names and the lists at Ws -/
structure Run (M : Model) (A : Around) (env : Env) (Ws : List Addr) (ss : List Stmt) (h : Heap) (P : Flow → Heap → Prop) (X : Value → Heap → Prop) : Prop where
  go : ∀ (s : Shared) (Q : Flow → Shared → Prop) (E : Value → Shared → Prop), s.heap = h → PassesOwn M A env E →
    (∀ fl h' k, Kp (env.locals :: Ws) h h' → P fl h' → Q fl { s with heap := h', toks := k }) →
    (∀ x h' k, X x h' → E x { s with heap := h', toks := k }) → wpAny M A (execs ss env) Q E s
abbrev NoX : Value → Heap → Prop := fun _ _ => False

section
variable {prog : Program} {w : World} {A : Around} {env : Env} {h : Heap} {X : Value → Heap → Prop} {Ws : List Addr} {P : Flow → Heap → Prop} {rest : List Stmt}
theorem run_nil (p : P .next h) : Run (model prog w) A env Ws [] h P X := by
  refine ⟨fun s Q E e po q x => ?_⟩; subst e
  exact wpAny_execs_nil (q _ s.heap s.toks Kp.rfl p)
theorem run_sub {Ws' : List Addr} {ss : List Stmt} (r : Run (model prog w) A env Ws ss h P X) (hs : ∀ b ∈ Ws, b ∈ Ws') : Run (model prog w) A env Ws' ss h P X := by
  refine ⟨fun s Q E e po q x => ?_⟩
  exact r.go s Q E e po (fun fl h' k kp p => q fl h' k (kp.mono fun b hb => by
    cases hb with
    | head => exact .head _
    | tail _ hb => exact .tail _ (hs b hb)) p) x
theorem run_mono {P' : Flow → Heap → Prop} {ss : List Stmt} (r : Run (model prog w) A env Ws ss h P X) (m : ∀ fl h', P fl h' → P' fl h') : Run (model prog w) A env Ws ss h P' X := by
  refine ⟨fun s Q E e po q x => ?_⟩
  exact r.go s Q E e po (fun fl h' k kp p => q fl h' k kp (m _ _ p)) x
theorem run_ret {e : Expr} {pos : Pos} {R : Value → Heap → Prop} (ev : Ev (model prog w) A env h e R X) (k : ∀ v h', Keep h h' → R v h' → P (.ret v) h') : Run (model prog w) A env Ws (.Return (some e) pos :: rest) h P X := by
  refine ⟨fun s Q E e po q x => ?_⟩; subst e
  refine wpAny_execs_cons (wpAny_Return_some (ev.go s _ E Keep.rfl (fun v h' i k' r => ?_) x))
  exact q _ _ _ k'.kp (k v h' k' r)
theorem run_expr {e : Expr} {pos : Pos} {R : Value → Heap → Prop} (ev : Ev (model prog w) A env h e R X) (k : ∀ v h', Keep h h' → R v h' → Run (model prog w) A env Ws rest h' P X)
    (hi : interactive env = false := by rfl) (hs : pl e = true := by rfl) : Run (model prog w) A env Ws (.Expr e pos :: rest) h P X := by
  refine ⟨fun s Q E e po q x => ?_⟩; subst e
  refine wpAny_execs_cons (wpAny_Expr_any (ev.go s _ E Keep.rfl (fun v h' i k' r => ?_) x) hi (pl_swaps hs))
  exact (k v h' k' r).go _ Q E rfl po (fun fl h2 j kp p => q fl h2 j (k'.kp.trans kp) p) (fun y h2 j r => x y h2 j r)

theorem run_ifH {test : Expr} {body orelse : List Stmt} {pos : Pos} {c : Bool} (t : Tr (model prog w) A env h test c X)
    (k1 : c = true → ∀ h', Keep h h' → Run (model prog w) A env Ws body h' (fun fl h2 => match fl with | .next => Run (model prog w) A env Ws rest h2 P X | fl => P fl h2) X)
    (k2 : c = false → ∀ h', Keep h h' → Run (model prog w) A env Ws orelse h' (fun fl h2 => match fl with | .next => Run (model prog w) A env Ws rest h2 P X | fl => P fl h2) X) :
    Run (model prog w) A env Ws (.If test body orelse pos :: rest) h P X := by
  refine ⟨fun s Q E e po q x => ?_⟩; subst e
  refine wpAny_execs_cons (wpAny_If (t.go s _ E Keep.rfl (fun c' h1 i k' r => ?_) x))
  subst r
  have fin : ∀ (ss : List Stmt), Run (model prog w) A env Ws ss h1 (fun fl h2 => match fl with | .next => Run (model prog w) A env Ws rest h2 P X | fl => P fl h2) X →
      wpAny (model prog w) A (execs ss env) (fun f s' => match f with | .next => wpAny (model prog w) A (execs rest env) Q E s' | f => Q f s') E { s with heap := h1, toks := i } := by
    intro ss r
    refine r.go _ _ E rfl po (fun fl h2 j kp p => ?_) (fun y h2 j r => x y h2 j r)
    cases fl with
    | next => exact p.go _ Q E rfl po (fun fl h3 j kp' p' => q fl h3 j (k'.kp.trans (kp.trans kp')) p') (fun y h2 j r => x y h2 j r)
    | brk => exact q _ _ _ (k'.kp.trans kp) p
    | cont => exact q _ _ _ (k'.kp.trans kp) p
    | ret v => exact q _ _ _ (k'.kp.trans kp) p
  cases c' with
  | true => exact fin _ (k1 rfl h1 k')
  | false => exact fin _ (k2 rfl h1 k')
end

section
variable {prog : Program} {w : World} {A : Around} {nm : Str} {sc : Scope} {L fa : Addr} {cd : Value} {g h : Heap} {ρ : Locs} {μ : Mut} {X : Value → Heap → Prop} {Ws : List Addr} {P : Flow → Heap → Prop} {rest : List Stmt}

theorem ev_var {x : Str} {pos : Pos} {d : PyData} (S : St g L h ρ μ) (hv : ρ.lookup x = some d) (hk : sc.kind = .function := by rfl) (hl : (envOf nm sc L fa cd).kindOf x = some .local := by rfl)
    (hd : (x == ("__debug__" : Str)) = false := by decide) : Ev (model prog w) A (envOf nm sc L fa cd) h (.Name x pos) (Rd d) X :=
  EvT.ofS fun s Q E k q => by
    obtain ⟨m, F, hr, _⟩ := (S.keep k).ex
    obtain ⟨v, as, hm, r, _⟩ := hr x d hv
    exact ld F hm (q v s.toks ⟨as, r⟩) hk hl hd
theorem ev_mut {x : Str} {pos : Pos} {l : Addr} {ds : List PyData} (S : St g L h ρ (some (x, l, ds))) (hk : sc.kind = .function := by rfl) (hl : (envOf nm sc L fa cd).kindOf x = some .local := by rfl)
    (hd : (x == ("__debug__" : Str)) = false := by decide) : Ev (model prog w) A (envOf nm sc L fa cd) h (.Name x pos) (Rd (.list ds)) X :=
  EvT.ofS fun s Q E k q => by
    obtain ⟨m, F, _, hm⟩ := (S.keep k).ex
    obtain ⟨hv, _, _, items, ⟨n, p⟩, as, r⟩ := hm _ rfl
    exact ld F hv (q _ s.toks ⟨_, .list p rfl rfl r⟩) hk hl hd
theorem ev_mutL {x : Str} {pos : Pos} {l : Addr} {ds : List PyData} (S : St g L h ρ (some (x, l, ds))) (hk : sc.kind = .function := by rfl) (hl : (envOf nm sc L fa cd).kindOf x = some .local := by rfl)
    (hd : (x == ("__debug__" : Str)) = false := by decide) : Ev (model prog w) A (envOf nm sc L fa cd) h (.Name x pos) (fun v _ => v = .ref l) X :=
  EvT.ofS fun s Q E k q => by
    obtain ⟨m, F, _, hm⟩ := (S.keep k).ex
    obtain ⟨hv, _⟩ := hm _ rfl
    exact ld F hv (q _ s.toks rfl) hk hl hd

theorem fr_set {m : Str → Option Value} {h' : Heap} {x : Str} {v : Value} (F : Fr g L h m) (hn : h'.Ns L (fun y => if y = x then some v else m y)) (hs : Heap.SameBut L h h') : Fr g L h' (fun y => if y = x then some v else m y) := F.set hn hs
theorem kp_same {a : Addr} {h h' : Heap} (hs : Heap.SameBut a h h') : Kp [a] h h' := fun b o n e => by
  rw [hs.2 b (by simpa using n)]; exact e

/-- a name bound to a datum -/
theorem St.store {x : Str} {v : Value} {d : PyData} {as : List Addr} {h' : Heap} {m : Str → Option Value} (S : St g L h ρ μ) (hμ : ∀ q, μ = some q → q.1 ≠ x) (F₀ : Fr g L h m) (r : Reads h v d as) (nL : L ∉ as) (nl : ∀ q, μ = some q → q.2.1 ∉ as)
    (hn : h'.Ns L (fun y => if y = x then some v else m y)) (hs : Heap.SameBut L h h') : St g L h' ((x, d) :: ρ) μ := by
  obtain ⟨m', F, hr, hm⟩ := S.ex
  have em : m' = m := by
    obtain ⟨o, es, ep, h1, h2, _, h4⟩ := F.ns
    obtain ⟨o', es', ep', h1', h2', _, h4'⟩ := F₀.ns
    rw [h1] at h1'; cases h1'; rw [h2] at h2'; cases h2'
    funext y; rw [← h4, ← h4']
  subst em
  have k := kp_same hs
  have hW : ∀ (bs : List Addr), L ∉ bs → ∀ a ∈ [L], Odd a h ∨ (a ∉ bs ∧ NoTup a h) := fun bs hb a ha => by
    rw [List.mem_singleton] at ha; subst ha; exact .inr ⟨hb, noTup_L F⟩
  refine ⟨_, fr_set F hn hs, fun y d' e => ?_, fun q e => ?_⟩
  · rw [List.lookup_cons] at e
    by_cases hb : y = x
    · subst hb
      rw [beq_self_eq_true] at e; cases e
      exact ⟨v, as, by simp, reads_kp k (hW _ nL) r, nL, nl⟩
    · rw [beq_eq_false_iff_ne.mpr hb] at e
      obtain ⟨v', as', a, b, c, d⟩ := hr y d' e
      exact ⟨v', as', by simp [hb, a], reads_kp k (hW _ c) b, c, d⟩
  · obtain ⟨a, b, c, items, p, r'⟩ := hm q e
    refine ⟨by simp [hμ q e, a], b, c, items, plain_kp k (by simpa using L_ne_list F p) p, rdl_flat_kp k c (fun a ha => ?_) r'⟩
    rw [List.mem_singleton] at ha; subst ha; exact noTup_L F

theorem run_assign {x : Str} {px pos : Pos} {e : Expr} {d : PyData} (S : St g L h ρ μ) (ev : Ev (model prog w) A (envOf nm sc L fa cd) h e (Rf h d) X)
    (k : ∀ h', St g L h' ((x, d) :: ρ) μ → Run (model prog w) A (envOf nm sc L fa cd) Ws rest h' P X)
    (hμ : ∀ q, μ = some q → q.1 ≠ x := by intro q e; first | (cases e; done) | (cases e; decide)) (hk : sc.kind = .function := by rfl) (hl : (envOf nm sc L fa cd).kindOf x = some .local := by rfl)
    (hs : pl e = true := by rfl) : Run (model prog w) A (envOf nm sc L fa cd) Ws (.Assign [.Name x px] e pos :: rest) h P X := by
  refine ⟨fun s Q E e po q x' => ?_⟩; subst e
  refine wpAny_execs_cons (wpAny_Assign_Name (ev.go s _ E Keep.rfl (fun v h1 i k1 r => ?_) x') (pl_swaps hs))
  obtain ⟨m, F, hr, hm⟩ := (S.keep k1).ex
  obtain ⟨as, r, hf⟩ := r
  refine wpAny_storeName_local hl F.ns (fun h' hn hsb => ?_) (by show (sc.kind == .class || (sc.kind == .module && L != mainGlobals)) = false; rw [hk]; rfl)
  have S' : St g L h' ((x, d) :: ρ) μ := by
    refine (S.keep k1).store hμ F r (fun hL => ?_) (fun q e hl => ?_) hn hsb
    · obtain ⟨m0, F0, _⟩ := S.ex
      obtain ⟨o, ho⟩ := L_some F0
      rw [hf L hL] at ho; cases ho
    · obtain ⟨m0, F0, _, hm0⟩ := S.ex
      obtain ⟨_, _, _, items, ⟨n, p⟩, _⟩ := hm0 q e
      rw [hf _ hl] at p; cases p
  exact (k h' S').go _ Q E rfl po (fun fl h2 j kp p => q fl h2 j ((k1.kp.trans ((kp_same hsb).mono fun b hb => by rw [List.mem_singleton] at hb; subst hb; exact .head _)).trans kp) p) (fun y h2 j r => x' y h2 j r)
/-- ... a datum without lists in it -/
theorem run_set {x : Str} {px pos : Pos} {e : Expr} {d : PyData} (S : St g L h ρ μ) (ev : Ev (model prog w) A (envOf nm sc L fa cd) h e (Rd d) X)
    (k : ∀ h', St g L h' ((x, d) :: ρ) μ → Run (model prog w) A (envOf nm sc L fa cd) Ws rest h' P X) (hf : flat d = true := by rfl)
    (hμ : ∀ q, μ = some q → q.1 ≠ x := by intro q e; first | (cases e; done) | (cases e; decide)) (hk : sc.kind = .function := by rfl) (hl : (envOf nm sc L fa cd).kindOf x = some .local := by rfl)
    (hs : pl e = true := by rfl) : Run (model prog w) A (envOf nm sc L fa cd) Ws (.Assign [.Name x px] e pos :: rest) h P X :=
  run_assign S (ev.mono fun _ _ _ r => .of_flat hf r) k hμ hk hl hs
/-- ... a new list that is to be changed -/
theorem run_own {x : Str} {px pos : Pos} {e : Expr} {ds : List PyData} (S : St g L h ρ none) (ev : Ev (model prog w) A (envOf nm sc L fa cd) h e (Rl h ds) X)
    (k : ∀ l h', St g L h' ρ (some (x, l, ds)) → Run (model prog w) A (envOf nm sc L fa cd) (l :: Ws) rest h' P X) (hf : flatL ds = true := by rfl) (hx : ρ.lookup x = none := by rfl)
    (hk : sc.kind = .function := by rfl) (hl : (envOf nm sc L fa cd).kindOf x = some .local := by rfl)
    (hs : pl e = true := by rfl) : Run (model prog w) A (envOf nm sc L fa cd) Ws (.Assign [.Name x px] e pos :: rest) h P X := by
  refine ⟨fun s Q E e po q x' => ?_⟩; subst e
  refine wpAny_execs_cons (wpAny_Assign_Name (ev.go s _ E Keep.rfl (fun v h1 i k1 r => ?_) x') (pl_swaps hs))
  obtain ⟨m, F, hr, hm⟩ := (S.keep k1).ex
  obtain ⟨l, items, rfl, p, r, fresh⟩ := r
  refine wpAny_storeName_local hl F.ns (fun h' hn hsb => ?_) (by show (sc.kind == .class || (sc.kind == .module && L != mainGlobals)) = false; rw [hk]; rfl)
  have kp1 : Kp [L] h1 h' := kp_same hsb
  have S' : St g L h' ρ (some (x, l, ds)) := by
    refine ⟨_, fr_set F hn hsb, fun y d' e => ?_, fun q e => ?_⟩
    · have hy : y ≠ x := fun hb => by subst hb; rw [hx] at e; cases e
      obtain ⟨m0, F0, hr0, _⟩ := S.ex
      obtain ⟨v', as', a, b, c, _⟩ := hr0 y d' e
      have em : m0 = m := by
        obtain ⟨o, es, ep, h1, h2, _, h4⟩ := (F0.after k1).ns
        obtain ⟨o', es', ep', h1', h2', _, h4'⟩ := F.ns
        rw [h1] at h1'; cases h1'; rw [h2] at h2'; cases h2'
        funext y; rw [← h4, ← h4']
      subst em
      refine ⟨v', as', by simp [hy, a], reads_kp kp1 (fun a ha => ?_) (PyProof.Rows.Reads.keeps k1 b), c, fun q e hq => ?_⟩
      · rw [List.mem_singleton] at ha; subst ha; exact .inr ⟨c, noTup_L F⟩
      · cases e
        have : ∃ o, s.heap.get? l = some o := reads_some b l hq
        obtain ⟨o, ho⟩ := this
        rw [fresh] at ho; cases ho
    · cases e
      refine ⟨by simp, ?_, hf, items, plain_kp kp1 (by simpa using L_ne_list F p) p, rdl_flat_kp kp1 hf (fun a ha => ?_) r⟩
      · exact S.frK.none fresh
      · rw [List.mem_singleton] at ha; subst ha; exact noTup_L F
  refine (k l h' S').go _ Q E rfl po (fun fl h2 j kp p' => q fl h2 j ?_ p') (fun y h2 j r => x' y h2 j r)
  intro b o nb eb
  have hbl : b ≠ l := fun e => by subst e; rw [fresh] at eb; cases eb
  have hbL : b ≠ L := fun e => nb (by rw [e]; exact .head _)
  refine kp b o ?_ (kp1 b o (by simpa using hbL) (k1 b o eb))
  intro hb
  cases hb with
  | head => exact nb (.head _)
  | tail _ hb => cases hb with
    | head => exact hbl rfl
    | tail _ hb => exact nb (.tail _ hb)

theorem run_if {test : Expr} {body orelse : List Stmt} {pos : Pos} {c : Bool} (S : St g L h ρ μ) (t : Tr (model prog w) A (envOf nm sc L fa cd) h test c X)
    (k1 : c = true → ∀ h', St g L h' ρ μ → Run (model prog w) A (envOf nm sc L fa cd) Ws body h' (fun fl h2 => match fl with | .next => Run (model prog w) A (envOf nm sc L fa cd) Ws rest h2 P X | fl => P fl h2) X)
    (k2 : c = false → ∀ h', St g L h' ρ μ → Run (model prog w) A (envOf nm sc L fa cd) Ws orelse h' (fun fl h2 => match fl with | .next => Run (model prog w) A (envOf nm sc L fa cd) Ws rest h2 P X | fl => P fl h2) X) :
    Run (model prog w) A (envOf nm sc L fa cd) Ws (.If test body orelse pos :: rest) h P X :=
  run_ifH t (fun e h' kp => k1 e h' (S.keep kp)) (fun e h' kp => k2 e h' (S.keep kp))

theorem run_while {test : Expr} {body : List Stmt} {pos : Pos} (J : Nat → Locs → Mut → Prop) (n : Nat) (S : St g L h ρ μ) (j0 : J n ρ μ)
    (step : ∀ n ρ μ h, J n ρ μ → St g L h ρ μ → ∃ b, Tr (model prog w) A (envOf nm sc L fa cd) h test b X ∧
      (b = true → ∀ h', St g L h' ρ μ → Run (model prog w) A (envOf nm sc L fa cd) Ws body h' (fun fl h2 => match fl with
        | .next | .cont => ∃ m ρ' μ', m < n ∧ J m ρ' μ' ∧ St g L h2 ρ' μ'
        | .brk => Run (model prog w) A (envOf nm sc L fa cd) Ws rest h2 P X
        | .ret v => P (.ret v) h2) X) ∧
      (b = false → ∀ h', St g L h' ρ μ → Run (model prog w) A (envOf nm sc L fa cd) Ws rest h' P X)) :
    Run (model prog w) A (envOf nm sc L fa cd) Ws (.While test body [] pos :: rest) h P X := by
  refine ⟨fun s Q E e po q x => ?_⟩; subst e
  refine wpAny_execs_cons (wpAny_While ?_)
  refine codeAny_whileLoop (I := fun n s' => ∃ h' k ρ μ, s' = { s with heap := h', toks := k } ∧ Kp (L :: Ws) s.heap h' ∧ J n ρ μ ∧ St g L h' ρ μ) (fun n s' hI => ?_) n ⟨s.heap, s.toks, ρ, μ, rfl, Kp.rfl, j0, S⟩
  obtain ⟨h1, k1, ρ1, μ1, rfl, kp1, hJ, S1⟩ := hI
  obtain ⟨b, tr, yes, no⟩ := step n ρ1 μ1 h1 hJ S1
  refine wpAny_mono (tr.seq (s := { s with heap := h1, toks := k1 }) (Q := fun c s' => ∃ h2 k2, c = b ∧ s' = { s with heap := h2, toks := k2 } ∧ Keep h1 h2) (E := E) Keep.rfl (fun c h2 k2 kk r => ⟨h2, k2, r, rfl, kk⟩) (fun y h2 j r => x y h2 j r)) (fun c s' hc => ?_) po
  obtain ⟨h2, k2, r, rfl, kk⟩ := hc
  subst r
  have goOn : ∀ h3, Kp (L :: Ws) s.heap h3 → Run (model prog w) A (envOf nm sc L fa cd) Ws rest h3 P X → ∀ k3, wpAny (model prog w) A (execs rest (envOf nm sc L fa cd)) Q E { s with heap := h3, toks := k3 } := by
    intro h3 kp3 r k3
    exact r.go _ Q E rfl po (fun fl h4 k4 kp4 p => q fl h4 k4 (kp3.trans kp4) p) (fun y h4 k4 r => x y h4 k4 r)
  cases c with
  | true =>
    simp only [if_true]
    refine wpAny_passesOwn po ((yes rfl h2 (S1.keep kk)).go _ _ (E) rfl po (fun fl h3 k3 kp3 p => ?_) (fun y h2 j r => x y h2 j r))
    have kpAll : Kp (L :: Ws) s.heap h3 := (kp1.trans kk.kp).trans kp3
    cases fl with
    | next => obtain ⟨m, ρ', μ', hm, hJ', S'⟩ := p; exact ⟨m, hm, h3, k3, ρ', μ', rfl, kpAll, hJ', S'⟩
    | cont => obtain ⟨m, ρ', μ', hm, hJ', S'⟩ := p; exact ⟨m, hm, h3, k3, ρ', μ', rfl, kpAll, hJ', S'⟩
    | brk => exact goOn h3 kpAll p k3
    | ret v => exact q _ _ _ kpAll p
  | false =>
    simp only [Bool.false_eq_true, if_false]
    exact wpAny_execs_nil (goOn h2 (kp1.trans kk.kp) (no rfl h2 (S1.keep kk)) k2)
end
end Mine

namespace Mine
open PySem PySem.Spec PySem.Calls PyProof.Rows

structure Cx where
  prog : Program
  w : World
  p : Program
  loose : List Str
  mean : ExcName → Option Value
  mg : Str → Option Value
  mb : Str → Option Value
abbrev Cx.T (c : Cx) (h : Heap) : Prop := Top c.p c.loose c.mean c.mg c.mb h
abbrev Cx.M (c : Cx) : Model := model c.prog c.w

/-- room for n more frames -/
structure Rm (A : Around) (n : Nat) : Prop where
  hd : A.handled = none
  dep : A.depth + n < recursionLimit
  un : A.units + 3 * n + 100 < cLine
theorem Rm.deeper {A : Around} {n : Nat} {env : Env} (r : Rm A (n + 1)) : Rm (A.deeper env) n :=
  ⟨r.hd, by have := r.dep; show A.depth + 1 + n < _; omega, by have := r.un; show A.units + 3 + 3 * n + 100 < _; omega⟩
theorem Rm.less {A : Around} {n m : Nat} (r : Rm A n) (h : m ≤ n) : Rm A m := ⟨r.hd, by have := r.dep; omega, by have := r.un; omega⟩

def retv : Flow → Value
  | .ret v => v
  | _ => .none

/-- what a call of a def gives -/
structure Fn (c : Cx) (n : Nat) (f : Str) (ds : List PyData) (R : Heap → Value → Heap → Prop) : Prop where
  isDef : ∃ dr ∈ recsOf c.p, dr.name = f
  run : ∀ (A : Around) (h : Heap) (vs : List Value) (a : Addr), c.T h → Rm A n → c.mg f = some (.ref a) → RdL ds vs h → EvT c.M A h (call (.ref a) vs) (R h) NoX
abbrev FnD (c : Cx) (n : Nat) (f : Str) (ds : List PyData) (d : PyData) : Prop := Fn c n f ds fun h => Rf h d
abbrev FnL (c : Cx) (n : Nat) (f : Str) (ds : List PyData) (rs : List PyData) : Prop := Fn c n f ds fun h => Rl h rs

theorem rf_old {d : PyData} : ∀ h0 h1 v h', Keep h0 h1 → Rf h1 d v h' → Rf h0 d v h' := fun _ _ _ _ k r => r.old k
theorem rl_old {ds : List PyData} : ∀ h0 h1 v h', Keep h0 h1 → Rl h1 ds v h' → Rl h0 ds v h' := fun _ _ _ _ k r => r.old k

def zipL : List Str → List PyData → Locs
  | x :: xs, d :: ds => (x, d) :: zipL xs ds
  | _, _ => []
theorem zip_reads {g : Heap} : ∀ {xs : List Str} {ds : List PyData} {vs : List Value}, RdL ds vs g → xs.Nodup → xs.length = ds.length →
    ∀ x d, (zipL xs ds).lookup x = some d → ∃ v as, (xs.zip vs).reverse.lookup x = some v ∧ Reads g v d as
  | [], _, _, _, _, _, x, d, e => by simp [zipL] at e
  | y :: xs, [], _, _, _, hl, x, d, e => by simp at hl
  | y :: xs, d' :: ds, vs, r, hn, hl, x, d, e => by
    obtain ⟨v, vs', rfl, r1, r2⟩ := r.uncons
    rw [List.nodup_cons] at hn
    rw [zipL, List.lookup_cons] at e
    rw [List.zip_cons_cons, List.reverse_cons, List.lookup_append]
    by_cases hb : x = y
    · subst hb
      rw [beq_self_eq_true] at e; cases e
      obtain ⟨as, r1⟩ := r1
      refine ⟨v, as, ?_, r1⟩
      have : (xs.zip vs').reverse.lookup x = none := by
        rw [List.lookup_eq_none_iff]
        intro p hp
        have hp' : p ∈ xs.zip vs' := by simpa using hp
        have := (List.of_mem_zip (a := p.1) (b := p.2) hp').1
        rw [bne_iff_ne]
        intro e; rw [e] at hn; exact hn.1 this
      rw [this]; simp [List.lookup]
    · rw [beq_eq_false_iff_ne.mpr hb] at e
      obtain ⟨v', as, q, r⟩ := zip_reads r2 hn.2 (by simpa using hl) x d e
      exact ⟨v', as, by rw [q]; rfl, r⟩

theorem recs_at {p : Program} {g : Stmt → Option DefRec} (hg : recsOf p = p.main.body.filterMap g) {i : Nat} {st : Stmt} {d : DefRec} (h1 : p.main.body[i]? = some st) (h2 : g st = some d) : d ∈ recsOf p := by
  rw [hg]; exact List.mem_filterMap.mpr ⟨st, List.mem_of_getElem? h1, h2⟩
/-- the def at a place of the top -/
theorem def_at {p q : Program} (hq : recsOf q = recsOf p) {g : Stmt → Option DefRec} (i : Nat) {dn : Str} {dp : Arguments} {db : List Stmt} {dd dr' dt bd ts} {dsc : Scope} {dps : Pos} {f : Str} (h1 : p.main.body[i]? = some (.FunctionDef dn dp db dd dr' dt dsc ts bd dps)) (hn : dn = f) (hg : recsOf p = p.main.body.filterMap g)
    (h2 : g (.FunctionDef dn dp db dd dr' dt dsc ts bd dps) = some ⟨dn, dp, db, dsc, dps⟩) : (⟨dn, dp, db, dsc, dps⟩ : DefRec) ∈ recsOf q ∧ dn = f := ⟨by rw [hq]; exact recs_at hg h1 h2, hn⟩

section
variable {c : Cx} {n : Nat} {f : Str} {ds : List PyData} {R : Heap → Value → Heap → Prop}
theorem fn_core {dn : Str} {dp : Arguments} {db : List Stmt} {dsc : Scope} {dps : Pos} {xs : List Str} (hd : (⟨dn, dp, db, dsc, dps⟩ : DefRec) ∈ recsOf c.p ∧ dn = f)
    (hb : ∀ pm cd doc (vs : List Value), vs.length = ds.length → bindArgs (docDef dn dp db dsc pm cd doc) ⟨vs, []⟩ = pure (xs.zip vs))
    (hlen : xs.length = ds.length) (hnd : xs.Nodup) (hloc : ∀ x ∈ xs, dsc.names.lookup x = some .local)
    (hco : dsc.isCoroutine = false) (hgen : dsc.isGenerator = false) (hk : dsc.kind = .function) (hcell : ∀ x ∈ dsc.names, x.2 ≠ .cell)
    (hR : ∀ h0 h1 v h', Keep h0 h1 → R h1 v h' → R h0 v h')
    (k : ∀ (A : Around) (g h : Heap) (L fa : Addr) (cd : Value), c.T g → Rm A n → St g L h (zipL xs ds) none → Run c.M A (envOf dn dsc L fa cd) [] db h (fun fl h' => R g (retv fl) h') NoX) : Fn c (n + 1) f ds R := by
  obtain ⟨hd, hn⟩ := hd
  refine ⟨⟨_, hd, hn⟩, ?_⟩
  intro A h vs a T rm ha r
  refine ⟨fun s Q E kp q x => ?_⟩
  obtain ⟨a', o, pm, cd, doc, h1, h2, h3, h4⟩ := T.fn ⟨dn, dp, db, dsc, dps⟩ hd
  dsimp only at h1 h3 h4
  rw [hn, ha] at h1; cases h1
  refine wpAny_call (call_plain (by have := rm.dep; omega) (kp _ _ h2) h3 (T.nolimit.keeps kp) (h4.keeps kp) (hb pm cd doc vs (r.len)) (fun y hy => hloc _ (List.of_mem_zip (a := y.1) (b := y.2) hy).1) (fun h₁ F => ?_) hco hgen hk hcell)
  have S : St s.heap s.heap.objs.size h₁ (zipL xs ds) none := by
    refine ⟨_, F, fun x d e => ?_, fun q e => nomatch e⟩
    obtain ⟨v, as, e', r'⟩ := zip_reads (r.keep kp) hnd hlen x d e
    refine ⟨v, as, e', PyProof.Rows.Reads.keeps F.keep r', fun hL => ?_, fun q e => nomatch e⟩
    obtain ⟨o, ho⟩ := reads_some r' _ hL
    exact absurd (Heap.lt_size ho) (Nat.lt_irrefl _)
  refine (k (A.deeper (envOf dn dsc s.heap.objs.size a cd)) s.heap h₁ _ a cd (T.keeps kp) rm.deeper S).go _ _ _ rfl PassesOwn.leaving (fun fl h' i kp' p => ?_) (fun _ _ _ r => r.elim)
  have kk : Keep s.heap h' := fun b o e => kp' b o (by
    intro hb
    rw [List.mem_singleton] at hb
    rw [hb] at e
    exact absurd (Heap.lt_size e) (Nat.lt_irrefl _)) (F.keep b o e)
  have := q (retv fl) h' i kk (hR _ _ _ _ kp p)
  cases fl <;> exact this
end

theorem lens1 {α : Type} {vs : List α} (h : vs.length = 1) : ∃ a, vs = [a] := by
  match vs, h with
  | [a], _ => exact ⟨a, rfl⟩
theorem lens2 {α : Type} {vs : List α} (h : vs.length = 2) : ∃ a b, vs = [a, b] := by
  match vs, h with
  | [a, b], _ => exact ⟨a, b, rfl⟩
theorem lens3 {α : Type} {vs : List α} (h : vs.length = 3) : ∃ a b c, vs = [a, b, c] := by
  match vs, h with
  | [a, b, c], _ => exact ⟨a, b, c, rfl⟩
theorem lens4 {α : Type} {vs : List α} (h : vs.length = 4) : ∃ a b c d, vs = [a, b, c, d] := by
  match vs, h with
  | [a, b, c, d], _ => exact ⟨a, b, c, d, rfl⟩

section
variable {c : Cx} {n : Nat} {f : Str} {R : Heap → Value → Heap → Prop} {dn : Str} {dp : Arguments} {db : List Stmt} {dsc : Scope} {dps : Pos} {x1 x2 x3 x4 : Str} {d1 d2 d3 d4 : PyData}
theorem fn1 (hd : (⟨dn, dp, db, dsc, dps⟩ : DefRec) ∈ recsOf c.p ∧ dn = f) (hR : ∀ h0 h1 v h', Keep h0 h1 → R h1 v h' → R h0 v h')
    (hb : ∀ pm cd doc (v1 : Value), bindArgs (docDef dn dp db dsc pm cd doc) ⟨[v1], []⟩ = pure [(x1, v1)])
    (k : ∀ (A : Around) (g h : Heap) (L fa : Addr) (cd : Value), c.T g → Rm A n → St g L h [(x1, d1)] none → Run c.M A (envOf dn dsc L fa cd) [] db h (fun fl h' => R g (retv fl) h') NoX)
    (hnd : [x1].Nodup := by decide +kernel) (hloc : ∀ x ∈ [x1], dsc.names.lookup x = some .local := by decide +kernel)
    (hco : dsc.isCoroutine = false := by rfl) (hgen : dsc.isGenerator = false := by rfl) (hk : dsc.kind = .function := by rfl) (hcell : ∀ x ∈ dsc.names, x.2 ≠ .cell := by decide +kernel) : Fn c (n + 1) f [d1] R :=
  fn_core (xs := [x1]) hd (fun pm cd doc vs h => by obtain ⟨v1, rfl⟩ := lens1 h; exact hb pm cd doc v1) rfl hnd hloc hco hgen hk hcell hR k
theorem fn2 (hd : (⟨dn, dp, db, dsc, dps⟩ : DefRec) ∈ recsOf c.p ∧ dn = f) (hR : ∀ h0 h1 v h', Keep h0 h1 → R h1 v h' → R h0 v h')
    (hb : ∀ pm cd doc (v1 v2 : Value), bindArgs (docDef dn dp db dsc pm cd doc) ⟨[v1, v2], []⟩ = pure [(x1, v1), (x2, v2)])
    (k : ∀ (A : Around) (g h : Heap) (L fa : Addr) (cd : Value), c.T g → Rm A n → St g L h [(x1, d1), (x2, d2)] none → Run c.M A (envOf dn dsc L fa cd) [] db h (fun fl h' => R g (retv fl) h') NoX)
    (hnd : [x1, x2].Nodup := by decide +kernel) (hloc : ∀ x ∈ [x1, x2], dsc.names.lookup x = some .local := by decide +kernel)
    (hco : dsc.isCoroutine = false := by rfl) (hgen : dsc.isGenerator = false := by rfl) (hk : dsc.kind = .function := by rfl) (hcell : ∀ x ∈ dsc.names, x.2 ≠ .cell := by decide +kernel) : Fn c (n + 1) f [d1, d2] R :=
  fn_core (xs := [x1, x2]) hd (fun pm cd doc vs h => by obtain ⟨v1, v2, rfl⟩ := lens2 h; exact hb pm cd doc v1 v2) rfl hnd hloc hco hgen hk hcell hR k
theorem fn3 (hd : (⟨dn, dp, db, dsc, dps⟩ : DefRec) ∈ recsOf c.p ∧ dn = f) (hR : ∀ h0 h1 v h', Keep h0 h1 → R h1 v h' → R h0 v h')
    (hb : ∀ pm cd doc (v1 v2 v3 : Value), bindArgs (docDef dn dp db dsc pm cd doc) ⟨[v1, v2, v3], []⟩ = pure [(x1, v1), (x2, v2), (x3, v3)])
    (k : ∀ (A : Around) (g h : Heap) (L fa : Addr) (cd : Value), c.T g → Rm A n → St g L h [(x1, d1), (x2, d2), (x3, d3)] none → Run c.M A (envOf dn dsc L fa cd) [] db h (fun fl h' => R g (retv fl) h') NoX)
    (hnd : [x1, x2, x3].Nodup := by decide +kernel) (hloc : ∀ x ∈ [x1, x2, x3], dsc.names.lookup x = some .local := by decide +kernel)
    (hco : dsc.isCoroutine = false := by rfl) (hgen : dsc.isGenerator = false := by rfl) (hk : dsc.kind = .function := by rfl) (hcell : ∀ x ∈ dsc.names, x.2 ≠ .cell := by decide +kernel) : Fn c (n + 1) f [d1, d2, d3] R :=
  fn_core (xs := [x1, x2, x3]) hd (fun pm cd doc vs h => by obtain ⟨v1, v2, v3, rfl⟩ := lens3 h; exact hb pm cd doc v1 v2 v3) rfl hnd hloc hco hgen hk hcell hR k
theorem fn4 (hd : (⟨dn, dp, db, dsc, dps⟩ : DefRec) ∈ recsOf c.p ∧ dn = f) (hR : ∀ h0 h1 v h', Keep h0 h1 → R h1 v h' → R h0 v h')
    (hb : ∀ pm cd doc (v1 v2 v3 v4 : Value), bindArgs (docDef dn dp db dsc pm cd doc) ⟨[v1, v2, v3, v4], []⟩ = pure [(x1, v1), (x2, v2), (x3, v3), (x4, v4)])
    (k : ∀ (A : Around) (g h : Heap) (L fa : Addr) (cd : Value), c.T g → Rm A n → St g L h [(x1, d1), (x2, d2), (x3, d3), (x4, d4)] none → Run c.M A (envOf dn dsc L fa cd) [] db h (fun fl h' => R g (retv fl) h') NoX)
    (hnd : [x1, x2, x3, x4].Nodup := by decide +kernel) (hloc : ∀ x ∈ [x1, x2, x3, x4], dsc.names.lookup x = some .local := by decide +kernel)
    (hco : dsc.isCoroutine = false := by rfl) (hgen : dsc.isGenerator = false := by rfl) (hk : dsc.kind = .function := by rfl) (hcell : ∀ x ∈ dsc.names, x.2 ≠ .cell := by decide +kernel) : Fn c (n + 1) f [d1, d2, d3, d4] R :=
  fn_core (xs := [x1, x2, x3, x4]) hd (fun pm cd doc vs h => by obtain ⟨v1, v2, v3, v4, rfl⟩ := lens4 h; exact hb pm cd doc v1 v2 v3 v4) rfl hnd hloc hco hgen hk hcell hR k
end

section
variable {c : Cx} {n : Nat} {A : Around} {nm : Str} {sc : Scope} {L fa : Addr} {cd : Value} {g h : Heap} {ρ : Locs} {μ : Mut} {X : Value → Heap → Prop}
/-- a call of a def by its name -/
theorem ev_call {k : Nat} {f : Str} {p pos : Pos} {e : Expr} {es : List Expr} {ds : List PyData} {R : Heap → Value → Heap → Prop} (S : St g L h ρ μ) (T : c.T g) (rm : Rm A n) (F : Fn c k f ds R) (a : EvL c.M A (envOf nm sc L fa cd) h pos (e :: es) ds X)
    (hkn : k ≤ n := by decide) (hR : ∀ h0 h1 v h', Keep h0 h1 → R h1 v h' → R h0 v h' := by first | exact rf_old | exact rl_old)
    (hk : sc.kind = .function := by rfl) (hx : (envOf nm sc L fa cd).kindOf f = some .globalImplicit := by rfl) (hd : (f == ("__debug__" : Str)) = false := by decide)
    (he : pl e = true := by rfl) :
    Ev c.M A (envOf nm sc L fa cd) h (.Call (.Name f p) (e :: es) [] pos) (R h) X := by
  refine ⟨fun s Q E k q x => ?_⟩
  obtain ⟨m, F0, _⟩ := (S.keep k).ex
  obtain ⟨dr, hdr, hn⟩ := F.isDef
  obtain ⟨a', o, pm, cd', doc, h1, h2, h3, h4⟩ := T.fn dr hdr
  rw [hn] at h1
  refine wpAny_Call_NameR (ld_global_at F0 T.g h1 ?_ hk hx hd)
  refine callWith_def h3 (a.seq k (fun vs h' i k' r => ?_) x) (pl_star he)
  refine ⟨k' _ _ (F0.keep _ _ h2), ?_⟩
  have T' : c.T h' := T.keeps fun b o e => k' _ _ (F0.keep b o e)
  exact (F.run A h' vs a' T' (rm.less hkn) h1 r).seq (s := { s with heap := h', toks := i }) Keep.rfl (fun v h2 j k2 r2 => q v h2 j (Keep.trans k' k2) (hR _ _ _ _ (k.trans k') r2)) (fun _ _ _ r => r.elim)
/-- ... a datum comes back -/
theorem ev_calld {k : Nat} {f : Str} {p pos : Pos} {e : Expr} {es : List Expr} {ds : List PyData} {d : PyData} (S : St g L h ρ μ) (T : c.T g) (rm : Rm A n) (F : FnD c k f ds d) (a : EvL c.M A (envOf nm sc L fa cd) h pos (e :: es) ds X)
    (hkn : k ≤ n := by decide)
    (hk : sc.kind = .function := by rfl) (hx : (envOf nm sc L fa cd).kindOf f = some .globalImplicit := by rfl) (hd : (f == ("__debug__" : Str)) = false := by decide)
    (he : pl e = true := by rfl) :
    Ev c.M A (envOf nm sc L fa cd) h (.Call (.Name f p) (e :: es) [] pos) (Rd d) X := (ev_call S T rm F a hkn rf_old hk hx hd he).mono fun _ _ _ r => r.rd
end
end Mine

namespace Mine
open PySem PySem.Spec PySem.Calls PyProof.Rows

theorem pl_plain {pos : Pos} {env : Env} : ∀ {es : List Expr}, es.all pl = true → (backTo pos (starEach es env)).any (·.1) = false
  | [], _ => rfl
  | x :: es, h => by
    simp only [List.all_cons, Bool.and_eq_true] at h
    rw [pl_star h.1]
    show (false || (backTo pos (starEach es env)).any (·.1)) = false
    rw [pl_plain h.2]; rfl
/-- the names that the text does not bind -/
def bnames : List Str := ["isinstance", "int", "bool", "tuple", "list", "str", "len", "abs", "min", "max", "range", "reversed", "ValueError"]
def Bn (c : Cx) : Prop := ∀ x ∈ bnames, c.mg x = none

section
variable {c : Cx} {A : Around} {nm : Str} {sc : Scope} {L fa : Addr} {cd : Value} {g h : Heap} {ρ : Locs} {μ : Mut} {X : Value → Heap → Prop}
theorem ev_bname {x : Str} {pos : Pos} {v : Value} (S : St g L h ρ μ) (T : c.T g) (B : Bn c) (hx : x ∈ bnames) (hv : bootBuiltins x = some v) (hn : x ≠ "__name__" := by decide)
    (hk : sc.kind = .function := by rfl) (hg : (envOf nm sc L fa cd).kindOf x = some .globalImplicit := by rfl) (hd : (x == ("__debug__" : Str)) = false := by decide) :
    Ev c.M A (envOf nm sc L fa cd) h (.Name x pos) (fun v' _ => v' = v) X :=
  EvT.ofS fun s Q E k q => by
    obtain ⟨m, F, _⟩ := (S.keep k).ex
    exact ld_builtin_at F T.g (B x hx) T.b ((T.builtins x hn).trans hv) (q v s.toks rfl) hk hg hd
theorem ev_gname {x : Str} {pos : Pos} {v : Value} (S : St g L h ρ μ) (T : c.T g) (hv : c.mg x = some v)
    (hk : sc.kind = .function := by rfl) (hg : (envOf nm sc L fa cd).kindOf x = some .globalImplicit := by rfl) (hd : (x == ("__debug__" : Str)) = false := by decide) :
    Ev c.M A (envOf nm sc L fa cd) h (.Name x pos) (fun v' _ => v' = v) X :=
  EvT.ofS fun s Q E k q => by
    obtain ⟨m, F, _⟩ := (S.keep k).ex
    exact ld_global_at F T.g hv (q v s.toks rfl) hk hg hd

/-- a built-in function by its name -/
theorem ev_bcall {x : Str} {id : String} {p pos : Pos} {e : Expr} {es : List Expr} {ds : List PyData} {R : Value → Heap → Prop} (S : St g L h ρ μ) (T : c.T g) (B : Bn c) (hx : x ∈ bnames) (hv : bootBuiltins x = some (.builtin id))
    (a : EvL c.M A (envOf nm sc L fa cd) h pos (e :: es) ds X) (o : ∀ vs h', Keep h h' → RdL ds vs h' → EvT c.M A h' (call (.builtin id) vs) R X) (hn : x ≠ "__name__" := by decide)
    (hk : sc.kind = .function := by rfl) (hg : (envOf nm sc L fa cd).kindOf x = some .globalImplicit := by rfl) (hd : (x == ("__debug__" : Str)) = false := by decide)
    (he : pl e = true := by rfl) (hpl : es.all pl = true := by rfl) :
    Ev c.M A (envOf nm sc L fa cd) h (.Call (.Name x p) (e :: es) [] pos) R X := by
  refine ⟨fun s Q E k q x' => ?_⟩
  refine wpAny_Call_NameR ((ev_bname S T B hx hv hn hk hg hd).seq k (fun v h1 i k1 r => ?_) x')
  subst r
  refine callWith_builtin1 ((a.up (k.trans k1)).seq (s := { s with heap := h1, toks := i }) Keep.rfl (fun vs h2 j k2 r2 => ?_) (fun y h2 j r => x' y h2 j r)) (pl_star he) (pl_plain hpl)
  exact (o vs h2 (k.trans (Keep.trans k1 k2)) r2).seq (s := { s with heap := h2, toks := j }) Keep.rfl (fun v h3 j k3 r3 => q v h3 j (Keep.trans k1 (Keep.trans k2 k3)) r3) (fun y h3 j r => x' y h3 j r)
/-- a built-in class by its name -/
theorem ev_tcall {x : Str} {id : String} {p pos : Pos} {e : Expr} {es : List Expr} {ds : List PyData} {R : Value → Heap → Prop} (S : St g L h ρ μ) (T : c.T g) (B : Bn c) (hx : x ∈ bnames) (hv : bootBuiltins x = some (.type id))
    (a : EvL c.M A (envOf nm sc L fa cd) h pos (e :: es) ds X) (o : ∀ vs h', Keep h h' → RdL ds vs h' → EvT c.M A h' (call (.type id) vs) R X) (hn : x ≠ "__name__" := by decide)
    (hk : sc.kind = .function := by rfl) (hg : (envOf nm sc L fa cd).kindOf x = some .globalImplicit := by rfl) (hd : (x == ("__debug__" : Str)) = false := by decide)
    (he : pl e = true := by rfl) (hpl : es.all pl = true := by rfl) :
    Ev c.M A (envOf nm sc L fa cd) h (.Call (.Name x p) (e :: es) [] pos) R X := by
  refine ⟨fun s Q E k q x' => ?_⟩
  refine wpAny_Call_NameR ((ev_bname S T B hx hv hn hk hg hd).seq k (fun v h1 i k1 r => ?_) x')
  subst r
  refine PyProof.Rows.callWith_type1 ((a.up (k.trans k1)).seq (s := { s with heap := h1, toks := i }) Keep.rfl (fun vs h2 j k2 r2 => ?_) (fun y h2 j r => x' y h2 j r)) (pl_star he) (pl_plain hpl)
  exact (o vs h2 (k.trans (Keep.trans k1 k2)) r2).seq (s := { s with heap := h2, toks := j }) Keep.rfl (fun v h3 j k3 r3 => q v h3 j (Keep.trans k1 (Keep.trans k2 k3)) r3) (fun y h3 j r => x' y h3 j r)
end

section
variable {prog : Program} {w : World} {A : Around} {h : Heap} {X : Value → Heap → Prop}
def isiB : PyData → String → Bool
  | .int _, T => T == "int"
  | .bool _, T => T == "bool" || T == "int"
  | .str _, T => T == "str"
  | .none, _ => false
  | .list _, T => T == "list"
  | .tuple _, T => T == "tuple"
  | .dict _, T => T == "dict"
def isiTs : List String := ["int", "bool", "tuple", "list", "str"]
theorem op_isi {d : PyData} {T : String} {v : Value} (hT : T ∈ isiTs) (r : Rd d v h) : EvT (model prog w) A h (call (.builtin "isinstance") [v, .type T]) (Rd (.bool (isiB d T))) X := by
  refine EvT.of fun s Q E k q => ?_
  have qt : ∀ b, Rd (.bool b) (.bool b) s.heap := fun b => ⟨_, .bool _⟩
  obtain ⟨as, r⟩ := r
  simp only [isiTs, List.mem_cons, List.not_mem_nil, or_false] at hT
  cases r with
  | int i t =>
    rcases hT with rfl | rfl | rfl | rfl | rfl
    · exact IsiPair.int_int (q _ s.heap s.toks Keep.rfl (qt _))
    · exact IsiPair.int_bool (q _ s.heap _ Keep.rfl (qt _))
    · exact IsiPair.int_tuple (q _ s.heap _ Keep.rfl (qt _))
    · exact IsiPair.int_list (q _ s.heap _ Keep.rfl (qt _))
    · exact IsiPair.int_str (q _ s.heap _ Keep.rfl (qt _))
  | bool b =>
    rcases hT with rfl | rfl | rfl | rfl | rfl
    · exact IsiPair.bool_int (q _ s.heap s.toks Keep.rfl (qt _))
    · exact IsiPair.bool_bool (q _ s.heap s.toks Keep.rfl (qt _))
    · exact IsiPair.bool_tuple (q _ s.heap _ Keep.rfl (qt _))
    · exact IsiPair.bool_list (q _ s.heap _ Keep.rfl (qt _))
    · exact IsiPair.bool_str (q _ s.heap _ Keep.rfl (qt _))
  | str x t =>
    rcases hT with rfl | rfl | rfl | rfl | rfl
    · exact IsiPair.str_int (q _ s.heap _ Keep.rfl (qt _))
    · exact IsiPair.str_bool (q _ s.heap _ Keep.rfl (qt _))
    · exact IsiPair.str_tuple (q _ s.heap _ Keep.rfl (qt _))
    · exact IsiPair.str_list (q _ s.heap _ Keep.rfl (qt _))
    · exact IsiPair.str_str (q _ s.heap s.toks Keep.rfl (qt _))
  | none =>
    rcases hT with rfl | rfl | rfl | rfl | rfl
    · exact call_isinstance (isinstance_false_none (by decide +kernel) F.isi_meta_int (by kernel_rfl)) (q _ s.heap _ Keep.rfl (qt _))
    · exact call_isinstance (isinstance_false_none (by decide +kernel) F.isi_meta_bool (by kernel_rfl)) (q _ s.heap _ Keep.rfl (qt _))
    · exact call_isinstance (isinstance_false_none (by decide +kernel) F.isi_meta_tuple (by kernel_rfl)) (q _ s.heap _ Keep.rfl (qt _))
    · exact call_isinstance (isinstance_false_none (by decide +kernel) F.isi_meta_list (by kernel_rfl)) (q _ s.heap _ Keep.rfl (qt _))
    · exact call_isinstance (isinstance_false_none (by decide +kernel) F.isi_meta_str (by kernel_rfl)) (q _ s.heap _ Keep.rfl (qt _))
  | list h1 h2 h3 y =>
    rcases hT with rfl | rfl | rfl | rfl | rfl
    · exact IsiPair.list_int (k _ _ h1) h2 (q _ s.heap _ Keep.rfl (qt _))
    · exact IsiPair.list_bool (k _ _ h1) h2 (q _ s.heap _ Keep.rfl (qt _))
    · exact IsiPair.list_tuple (k _ _ h1) h2 (q _ s.heap _ Keep.rfl (qt _))
    · exact IsiPair.list_list (k _ _ h1) h2 (q _ s.heap s.toks Keep.rfl (qt _))
    · exact IsiPair.list_str (k _ _ h1) h2 (q _ s.heap _ Keep.rfl (qt _))
  | tuple h1 h2 h3 y =>
    rcases hT with rfl | rfl | rfl | rfl | rfl
    · exact IsiPair.tuple_int (k _ _ h1) h2 (q _ s.heap _ Keep.rfl (qt _))
    · exact IsiPair.tuple_bool (k _ _ h1) h2 (q _ s.heap _ Keep.rfl (qt _))
    · exact IsiPair.tuple_tuple (k _ _ h1) h2 (q _ s.heap s.toks Keep.rfl (qt _))
    · exact IsiPair.tuple_list (k _ _ h1) h2 (q _ s.heap _ Keep.rfl (qt _))
    · exact IsiPair.tuple_str (k _ _ h1) h2 (q _ s.heap _ Keep.rfl (qt _))
  | dict h1 h2 h3 y z =>
    rcases hT with rfl | rfl | rfl | rfl | rfl
    · exact IsiPair.dict_int (k _ _ h1) h2 (q _ s.heap _ Keep.rfl (qt _))
    · exact IsiPair.dict_bool (k _ _ h1) h2 (q _ s.heap _ Keep.rfl (qt _))
    · exact IsiPair.dict_tuple (k _ _ h1) h2 (q _ s.heap _ Keep.rfl (qt _))
    · exact IsiPair.dict_list (k _ _ h1) h2 (q _ s.heap _ Keep.rfl (qt _))
    · exact IsiPair.dict_str (k _ _ h1) h2 (q _ s.heap _ Keep.rfl (qt _))
theorem op_len {ds : List PyData} {v : Value} (hn : ds.length < 2 ^ 62) (r : Rd (.list ds) v h ∨ Rd (.tuple ds) v h) : EvT (model prog w) A h (call (.builtin "len") [v]) (Rd (.int ds.length)) X := by
  refine EvT.ofS fun s Q E k q => ?_
  rcases r with r | r
  · obtain ⟨a, items, rfl, il, r⟩ := rd_list r
    have e : items.size = ds.length := by have := r.len; simpa using this
    obtain ⟨o, ho, il⟩ := il
    refine PyProof.Rows.len_list (items := items) ⟨o, k _ _ ho, il⟩ (by rw [e]; omega) ?_
    rw [e]; exact q _ _ ⟨_, .int _ _⟩
  · obtain ⟨a, items, rfl, il, r⟩ := rd_tup r
    have e : items.size = ds.length := by have := r.len; simpa using this
    obtain ⟨o, ho, il⟩ := il
    refine PyProof.Rows.len_tuple (items := items) ⟨o, k _ _ ho, il⟩ (by rw [e]; omega) ?_
    rw [e]; exact q _ _ ⟨_, .int _ _⟩
theorem op_abs {a : Int} {v : Value} (r : Rd (.int a) v h) : EvT (model prog w) A h (call (.builtin "abs") [v]) (Rd (.int a.natAbs)) X := by
  obtain ⟨t, rfl⟩ := rd_int r
  refine EvT.ofS fun s Q E k q => PyProof.Rows.call_abs_int fun u tk => ?_
  have e : (if a < 0 then -a else a) = (a.natAbs : Int) := by split <;> omega
  rw [e]; exact q _ _ ⟨_, .int _ _⟩
theorem op_max {a b : Int} {v1 v2 : Value} (hh : A.handled = none) (r1 : Rd (.int a) v1 h) (r2 : Rd (.int b) v2 h) : EvT (model prog w) A h (call (.builtin "max") [v1, v2]) (Rd (.int (max a b))) X := by
  obtain ⟨t, rfl⟩ := rd_int r1; obtain ⟨u, rfl⟩ := rd_int r2
  refine EvT.of fun s Q E k q => max_two_ints hh fun h' tk kk => ?_
  by_cases e : b > a
  · rw [if_pos e]; have e' : max a b = b := by omega
    rw [e'] at q; exact q _ _ _ kk ⟨_, .int _ _⟩
  · rw [if_neg e]; have e' : max a b = a := by omega
    rw [e'] at q; exact q _ _ _ kk ⟨_, .int _ _⟩
theorem op_min {a b : Int} {v1 v2 : Value} (hh : A.handled = none) (r1 : Rd (.int a) v1 h) (r2 : Rd (.int b) v2 h) : EvT (model prog w) A h (call (.builtin "min") [v1, v2]) (Rd (.int (min a b))) X := by
  obtain ⟨t, rfl⟩ := rd_int r1; obtain ⟨u, rfl⟩ := rd_int r2
  refine EvT.of fun s Q E k q => min_two_ints hh fun h' tk kk => ?_
  by_cases e : b < a
  · rw [if_pos e]; have e' : min a b = b := by omega
    rw [e'] at q; exact q _ _ _ kk ⟨_, .int _ _⟩
  · rw [if_neg e]; have e' : min a b = a := by omega
    rw [e'] at q; exact q _ _ _ kk ⟨_, .int _ _⟩
end
end Mine

namespace Mine
open PySem PySem.Spec PySem.Calls PyProof.Rows

section
variable {prog : Program} {w : World} {A : Around} {env : Env} {h : Heap} {X : Value → Heap → Prop}
/-- an item of a tuple, of a list -/
theorem ev_idx {v i : Expr} {pos : Pos} {ds : List PyData} {k : Int} {d : PyData} (ty : Bool) (e1 : Ev (model prog w) A env h v (Rd (if ty then .tuple ds else .list ds)) X) (e2 : Ev (model prog w) A env h i (Rd (.int k)) X)
    (h0 : 0 ≤ k) (hfit : k < 2 ^ 63) (hx : ds[k.toNat]? = some d)
    (hs : pl i = true := by rfl) :
    Ev (model prog w) A env h (.Subscript v i pos) (Rd d) X := by
  refine ⟨fun s Q E k' q x => ?_⟩
  refine Subscript_ (EvT.two e1 e2 rd_mono (v := fun a b => subscriptTail v i a b) (R' := Rd d) (fun v1 v2 h' kk r1 r2 => ?_) k' q x)
  obtain ⟨u, rfl⟩ := rd_int r2
  cases ty with
  | true =>
    obtain ⟨a, items, rfl, ht, r⟩ := rd_tup r1
    obtain ⟨y, hy, ry⟩ := r.at hx
    obtain ⟨o, ho, ht'⟩ := id ht
    refine EvT.ofS fun s' Q' E' k1 q1 => tail_any (T := "tuple") ⟨o, k1 _ _ ho, ht'.1⟩ slot_tuple_getitem.lookup ?_ (pl_sub hs)
    have hj : seqIndex? k items.size = some k.toNat := by
      have : k.toNat < items.size := by
        have := List.getElem?_eq_some_iff.mp hy
        obtain ⟨h1, _⟩ := this
        simpa using h1
      have h1 : ¬ k < 0 := by omega
      have h2 : k < (items.size : Int) := by omega
      simp [seqIndex?, h1, h0, h2]
    exact getItem_tuple (items := items) (j := k.toNat) ⟨o, k1 _ _ ho, ht'⟩ (by omega) hfit hj (by simpa using hy) (q1 _ s'.toks (ry.keep k1))
  | false =>
    obtain ⟨a, items, rfl, ht, r⟩ := rd_list r1
    obtain ⟨y, hy, ry⟩ := r.at hx
    obtain ⟨o, ho, ht'⟩ := id ht
    refine EvT.ofS fun s' Q' E' k1 q1 => tail_any (T := "list") ⟨o, k1 _ _ ho, ht'.1⟩ slot_list_getitem.lookup ?_ (pl_sub hs)
    exact wpAny_getItem_list (items := items) ⟨o, k1 _ _ ho, ht'⟩ h0 hfit (by simpa using hy) (q1 _ s'.toks (ry.keep k1))
theorem ev_tidx {v i : Expr} {pos : Pos} {ds : List PyData} {k : Int} {d : PyData} (e1 : Ev (model prog w) A env h v (Rd (.tuple ds)) X) (e2 : Ev (model prog w) A env h i (Rd (.int k)) X)
    (hx : ds[k.toNat]? = some d := by rfl) (h0 : 0 ≤ k := by decide) (hfit : k < 2 ^ 63 := by decide)
    (hs : pl i = true := by rfl) :
    Ev (model prog w) A env h (.Subscript v i pos) (Rd d) X := ev_idx true e1 e2 h0 hfit hx hs
theorem ev_lidx {v i : Expr} {pos : Pos} {ds : List PyData} {k : Int} {d : PyData} (e1 : Ev (model prog w) A env h v (Rd (.list ds)) X) (e2 : Ev (model prog w) A env h i (Rd (.int k)) X)
    (hx : ds[k.toNat]? = some d) (h0 : 0 ≤ k) (hfit : k < 2 ^ 63)
    (hs : pl i = true := by rfl) :
    Ev (model prog w) A env h (.Subscript v i pos) (Rd d) X := ev_idx false e1 e2 h0 hfit hx hs

theorem ev_div {l r : Expr} {pos : Pos} {a b : Int} (e1 : Ev (model prog w) A env h l (Rd (.int a)) X) (e2 : Ev (model prog w) A env h r (Rd (.int b)) X) (hb : 0 < b) (hs : b < 10 ^ 250) :
    Ev (model prog w) A env h (.BinOp l .FloorDiv r pos) (Rd (.int (a / b))) X := ev_bin e1 e2 fun v1 v2 h' k r1 r2 => by
  obtain ⟨t, rfl⟩ := rd_int r1; obtain ⟨u, rfl⟩ := rd_int r2
  refine EvT.ofS fun _ _ _ _ q => PyProof.Rows.floordiv_int (by omega) ?_ (.inl (PyProof.noPylong_of_log2 ?_))
  · rw [Int.fdiv_eq_ediv_of_nonneg _ (by omega)]
    exact q _ _ ⟨_, .int _ _⟩
  · have h1 : b.natAbs < 10 ^ 250 := by omega
    have h2 : (10 : Nat) ^ 250 ≤ 2 ^ 9000 := by decide +kernel
    have h3 : b.natAbs ≠ 0 := by omega
    exact (Nat.log2_lt h3).mpr (Nat.lt_of_lt_of_le h1 h2)
theorem ev_pow {l r : Expr} {pos : Pos} {a n : Int} (e1 : Ev (model prog w) A env h l (Rd (.int a)) X) (e2 : Ev (model prog w) A env h r (Rd (.int n)) X) (hn : 0 ≤ n) (hn2 : n ≤ 1000000) (ha : a.natAbs < 2 ^ 64) :
    Ev (model prog w) A env h (.BinOp l .Pow r pos) (Rd (.int (a ^ n.toNat))) X := ev_bin e1 e2 fun v1 v2 h' k r1 r2 => by
  obtain ⟨t, rfl⟩ := rd_int r1; obtain ⟨u, rfl⟩ := rd_int r2
  exact EvT.ofS fun _ _ _ _ q => PyProof.Rows.pow_int_small hn hn2 ha (q _ _ ⟨_, .int _ _⟩)

/-- == and != of data -/
theorem ev_eq {l r : Expr} {pos : Pos} {d1 d2 : PyData} {n : Nat} (rm : Rm A n) (e1 : Ev (model prog w) A env h l (Rd d1) X) (e2 : Ev (model prog w) A env h r (Rd d2) X) (h1 : SeqAt.shaped d1 = true) (h2 : SeqAt.shaped d2 = true)
    (hm : pl r = true := by rfl) : Ev (model prog w) A env h (.Compare l [.Eq] [r] pos) (Rd (.bool (PyData.eqv d1 d2))) X :=
  ev_cmp e1 e2 (fun v1 v2 h' _ r1 r2 => by
    obtain ⟨as, x⟩ := r1; obtain ⟨bs, y⟩ := r2
    exact EvT.ofS fun s _ _ k q => eq_dataH (PyProof.Rows.Reads.keeps k x) (PyProof.Rows.Reads.keeps k y) h1 h2 (by have := rm.un; omega) (q _ s.toks ⟨_, .bool _⟩)) hm
theorem tr_eq {l r : Expr} {pos : Pos} {d1 d2 : PyData} {n : Nat} (rm : Rm A n) (e1 : Ev (model prog w) A env h l (Rd d1) X) (e2 : Ev (model prog w) A env h r (Rd d2) X) (h1 : SeqAt.shaped d1 = true) (h2 : SeqAt.shaped d2 = true)
    (hm : pl r = true := by rfl) : Tr (model prog w) A env h (.Compare l [.Eq] [r] pos) (PyData.eqv d1 d2) X :=
  tr_cmp e1 e2 (fun v1 v2 h' _ r1 r2 => by
    obtain ⟨as, x⟩ := r1; obtain ⟨bs, y⟩ := r2
    exact EvT.ofS fun s _ _ k q => eq_dataH (PyProof.Rows.Reads.keeps k x) (PyProof.Rows.Reads.keeps k y) h1 h2 (by have := rm.un; omega) (q _ s.toks ⟨_, .bool _⟩)) hm
theorem tr_ne {l r : Expr} {pos : Pos} {d1 d2 : PyData} {n : Nat} (rm : Rm A n) (e1 : Ev (model prog w) A env h l (Rd d1) X) (e2 : Ev (model prog w) A env h r (Rd d2) X) (h1 : SeqAt.shaped d1 = true) (h2 : SeqAt.shaped d2 = true)
    (hm : pl r = true := by rfl) : Tr (model prog w) A env h (.Compare l [.NotEq] [r] pos) (!PyData.eqv d1 d2) X :=
  tr_cmp e1 e2 (fun v1 v2 h' _ r1 r2 => by
    obtain ⟨as, x⟩ := r1; obtain ⟨bs, y⟩ := r2
    exact EvT.ofS fun s _ _ k q => ne_dataH (PyProof.Rows.Reads.keeps k x) (PyProof.Rows.Reads.keeps k y) h1 h2 (by have := rm.un; omega) (q _ s.toks ⟨_, .bool _⟩)) hm
/-- is, is not: against None, True, False -/
def isP : PyData → PyData → Bool
  | .none, .none => true
  | .bool a, .bool b => a == b
  | _, _ => false
def single : PyData → Bool
  | .none => true
  | .bool _ => true
  | _ => false
theorem is_val {d1 d2 : PyData} {v1 v2 : Value} {h' : Heap} (hs : single d2 = true) (r1 : Rd d1 v1 h') (r2 : Rd d2 v2 h') : plainIs v1 v2 = true ∧ (v1 == v2) = isP d1 d2 := by
  obtain ⟨as, x⟩ := r1; obtain ⟨bs, y⟩ := r2
  cases d2 with
  | none => cases y; cases x <;> exact ⟨rfl, rfl⟩
  | bool b => cases y; cases x <;> first | exact ⟨rfl, rfl⟩ | (rename_i b'; exact ⟨rfl, by cases b <;> cases b' <;> rfl⟩)
  | _ => cases hs
theorem tr_is {l r : Expr} {pos : Pos} {d1 d2 : PyData} (e1 : Ev (model prog w) A env h l (Rd d1) X) (e2 : Ev (model prog w) A env h r (Rd d2) X) (hs : single d2 = true)
    (hm : pl r = true := by rfl) : Tr (model prog w) A env h (.Compare l [.Is] [r] pos) (isP d1 d2) X :=
  tr_cmp e1 e2 (fun v1 v2 h' _ r1 r2 => by
    obtain ⟨hp, he⟩ := is_val hs r1 r2
    exact EvT.ofS fun s _ _ k q => wpAny_is_plain hp (by rw [he]; exact q _ s.toks ⟨_, .bool _⟩)) hm
theorem tr_isnot {l r : Expr} {pos : Pos} {d1 d2 : PyData} (e1 : Ev (model prog w) A env h l (Rd d1) X) (e2 : Ev (model prog w) A env h r (Rd d2) X) (hs : single d2 = true)
    (hm : pl r = true := by rfl) : Tr (model prog w) A env h (.Compare l [.IsNot] [r] pos) (!isP d1 d2) X :=
  tr_cmp e1 e2 (fun v1 v2 h' _ r1 r2 => by
    obtain ⟨hp, he⟩ := is_val hs r1 r2
    exact EvT.ofS fun s _ _ k q => wpAny_isNot_plain hp (by rw [he]; exact q _ s.toks ⟨_, .bool _⟩)) hm
end

section
variable {c : Cx} {n : Nat} {A : Around} {nm : Str} {sc : Scope} {L fa : Addr} {cd : Value} {g h : Heap} {ρ : Locs} {μ : Mut} {X : Value → Heap → Prop}
theorem ev_isi {T : String} {e : Expr} {p p2 pos : Pos} {d : PyData} (S : St g L h ρ μ) (Tp : c.T g) (B : Bn c) (e1 : Ev c.M A (envOf nm sc L fa cd) h e (Rd d) X) (hx : Str.ofString T ∈ bnames := by decide) (hv : bootBuiltins (Str.ofString T) = some (.type T) := by decide +kernel) (hT : T ∈ isiTs := by decide)
    (hk : sc.kind = .function := by rfl) (hg : (envOf nm sc L fa cd).kindOf (Str.ofString T) = some .globalImplicit := by rfl) (hgi : (envOf nm sc L fa cd).kindOf (Str.ofString "isinstance") = some .globalImplicit := by rfl) (hn : Str.ofString T ≠ "__name__" := by decide) (hd : (Str.ofString T == ("__debug__" : Str)) = false := by decide)
    (he : pl e = true := by rfl) :
    Ev c.M A (envOf nm sc L fa cd) h (.Call (.Name (Str.ofString "isinstance") p) [e, .Name (Str.ofString T) p2] [] pos) (Rd (.bool (isiB d T))) X := by
  refine ⟨fun s Q E k q x' => ?_⟩
  refine wpAny_Call_NameR ((ev_bname (v := .builtin "isinstance") S Tp B (by decide) (by decide +kernel) (by decide) hk hgi (by decide)).seq k (fun v h1 i k1 r => ?_) x')
  subst r
  refine callWith_builtin1 ?_ (pl_star he) rfl
  refine args_cons ((e1.up (k.trans k1)).seq (s := { s with heap := h1, toks := i }) Keep.rfl (fun v h2 j k2 r2 => ?_) (fun y h2 j r => x' y h2 j r)) (pl_star he)
  refine args_cons (((ev_bname (pos := p2) S Tp B hx hv hn hk hg hd).up (k.trans (Keep.trans k1 k2))).seq (s := { s with heap := h2, toks := j }) Keep.rfl (fun v3 h3 j3 k3 r3 => ?_) (fun y h2 j r => x' y h2 j r)) rfl
  subst r3
  refine args_nil ?_
  exact (op_isi hT (r2.keep k3)).seq (s := { s with heap := h3, toks := j3 }) Keep.rfl (fun c h4 j4 k4 r4 => q c h4 j4 (Keep.trans k1 (Keep.trans k2 (Keep.trans k3 k4))) r4) (fun y h3 j r => x' y h3 j r)
end
end Mine

namespace Mine
open PySem PySem.Spec PySem.Calls PyProof.Rows

section
variable {prog : Program} {w : World} {A : Around} {nm : Str} {sc : Scope} {L fa : Addr} {cd : Value} {g h : Heap} {ρ : Locs} {μ : Mut} {X : Value → Heap → Prop} {Ws : List Addr} {P : Flow → Heap → Prop} {rest : List Stmt}

theorem keep_fresh {h h' : Heap} (e : Heap.ExtBut h.objs.size h h') : Keep h h' := fun b o hb => e b o (Nat.ne_of_lt (Heap.lt_size hb)) hb
theorem kp_ext {a : Addr} {h h' : Heap} (e : Heap.ExtBut a h h') : Kp [a] h h' := fun b o n hb => e b o (by simpa using n) hb

theorem st_name {x : Str} {v : Value} {d : PyData} {s : Shared} {Q : Unit → Shared → Prop} {E : Value → Shared → Prop} (S : St g L s.heap ρ μ) (r : Rd d v s.heap) (hf : flat d = true) (hμ : ∀ q, μ = some q → q.1 ≠ x)
    (q : ∀ h' k, Kp [L] s.heap h' → St g L h' ((x, d) :: ρ) μ → Q () { s with heap := h', toks := k })
    (hk : sc.kind = .function) (hl : (envOf nm sc L fa cd).kindOf x = some .local) : wpAny (model prog w) A (storeName (envOf nm sc L fa cd) x v) Q E s := by
  obtain ⟨m, F, hr, hm⟩ := S.ex
  obtain ⟨as, r⟩ := r
  have e := flat_nil hf r
  subst e
  refine wpAny_storeName_local hl F.ns (fun h' hn hsb => ?_) (by show (sc.kind == .class || (sc.kind == .module && L != mainGlobals)) = false; rw [hk]; rfl)
  exact q h' _ (kp_same hsb) (S.store hμ F r List.not_mem_nil (fun _ _ => List.not_mem_nil) hn hsb)

/-- a pair handed to two names -/
theorem assign2 {x y : Str} {px py tp : Pos} {n : Nat} {v : Value} {d1 d2 : PyData} {s : Shared} {Q : Unit → Shared → Prop} {E : Value → Shared → Prop} (hh : A.handled = none) (S : St g L s.heap ρ μ) (r : Rd (.tuple [d1, d2]) v s.heap)
    (h1 : flat d1 = true) (h2 : flat d2 = true) (hx : ∀ q, μ = some q → q.1 ≠ x) (hy : ∀ q, μ = some q → q.1 ≠ y)
    (q : ∀ h' k, Kp [L] s.heap h' → St g L h' ((y, d2) :: (x, d1) :: ρ) μ → Q () { s with heap := h', toks := k })
    (hk : sc.kind = .function) (hlx : (envOf nm sc L fa cd).kindOf x = some .local) (hly : (envOf nm sc L fa cd).kindOf y = some .local) :
    wpAny (model prog w) A (assign (.Tuple [.Name x px, .Name y py] n tp) (envOf nm sc L fa cd) v) Q E s := by
  obtain ⟨a, items, rfl, ht, r⟩ := rd_tup r
  obtain ⟨v1, r', e1, r1, r'⟩ := r.uncons
  obtain ⟨v2, r'', e2, r2, r''⟩ := r'.uncons
  have e3 := r''.unnil
  subst e3; subst e2
  refine wpAny_assign_Tuple hh ht (by rw [← Array.length_toList, e1]; rfl) rfl (fun h' he => ?_)
  have kk := keep_fresh he
  rw [e1]
  refine wpAny_assignInOrder_more (PyProof.Rows.assign_Name (st_name (s := { s with heap := h' }) (S.keep kk) (r1.keep kk) h1 hx (fun h2' k2 kp2 S2 => ?_) hk hlx))
  have r2' : Rd d2 v2 h2' := by
    obtain ⟨as, z⟩ := r2.keep kk
    have e := flat_nil h2 z
    subst e
    obtain ⟨m, F, _⟩ := (S.keep kk).ex
    exact ⟨_, reads_kp kp2 (fun a ha => by rw [List.mem_singleton] at ha; subst ha; exact .inr ⟨List.not_mem_nil, noTup_L F⟩) z⟩
  refine wpAny_assignInOrder_more (PyProof.Rows.assign_Name (st_name (s := { s with heap := h2', toks := k2 }) S2 r2' h2 hy (fun h3 k3 kp3 S3 => ?_) hk hly))
  exact wpAny_assignInOrder_none (q h3 k3 ((kk.kp.trans kp2).trans kp3) S3)
theorem run_unpack2 {x y : Str} {px py tp pos : Pos} {n : Nat} {e : Expr} {d1 d2 : PyData} (hh : A.handled = none) (S : St g L h ρ μ) (ev : Ev (model prog w) A (envOf nm sc L fa cd) h e (Rd (.tuple [d1, d2])) X)
    (k : ∀ h', St g L h' ((y, d2) :: (x, d1) :: ρ) μ → Run (model prog w) A (envOf nm sc L fa cd) Ws rest h' P X) (h1 : flat d1 = true := by rfl) (h2 : flat d2 = true := by rfl)
    (hx : ∀ q, μ = some q → q.1 ≠ x := by intro q e; first | (cases e; done) | (cases e; decide)) (hy : ∀ q, μ = some q → q.1 ≠ y := by intro q e; first | (cases e; done) | (cases e; decide))
    (hk : sc.kind = .function := by rfl) (hlx : (envOf nm sc L fa cd).kindOf x = some .local := by rfl) (hly : (envOf nm sc L fa cd).kindOf y = some .local := by rfl)
    (hs : swapsWithSole [.Tuple [.Name x px, .Name y py] n tp] e pos.line (envOf nm sc L fa cd) = pure false := by rfl) (hw : swappedStores [.Tuple [.Name x px, .Name y py] n tp] e (envOf nm sc L fa cd) = pure none := by rfl) :
    Run (model prog w) A (envOf nm sc L fa cd) Ws (.Assign [.Tuple [.Name x px, .Name y py] n tp] e pos :: rest) h P X := by
  refine ⟨fun s Q E e po q x' => ?_⟩; subst e
  refine wpAny_execs_cons (Assign_Tuple (ev.go s _ E Keep.rfl (fun v h1' i k1 r => ?_) x') hs hw)
  refine assign2 (s := { s with heap := h1', toks := i }) hh (S.keep k1) r h1 h2 hx hy (fun h' k' kp S' => ?_) hk hlx hly
  exact (k h' S').go _ Q E rfl po (fun fl h2 j kp' p => q fl h2 j ((k1.kp.trans (kp.mono fun b hb => by rw [List.mem_singleton] at hb; subst hb; exact .head _)).trans kp') p) (fun y h2 j r => x' y h2 j r)
/-- a triple handed to three names -/
theorem run_unpack3 {x y z : Str} {px py pz tp pos : Pos} {n : Nat} {e : Expr} {d1 d2 d3 : PyData} (hh : A.handled = none) (S : St g L h ρ μ) (ev : Ev (model prog w) A (envOf nm sc L fa cd) h e (Rd (.tuple [d1, d2, d3])) X)
    (k : ∀ h', St g L h' ((z, d3) :: (y, d2) :: (x, d1) :: ρ) μ → Run (model prog w) A (envOf nm sc L fa cd) Ws rest h' P X) (h1 : flat d1 = true := by rfl) (h2 : flat d2 = true := by rfl) (h3 : flat d3 = true := by rfl)
    (hx : ∀ q, μ = some q → q.1 ≠ x := by intro q e; first | (cases e; done) | (cases e; decide)) (hy : ∀ q, μ = some q → q.1 ≠ y := by intro q e; first | (cases e; done) | (cases e; decide))
    (hz : ∀ q, μ = some q → q.1 ≠ z := by intro q e; first | (cases e; done) | (cases e; decide))
    (hk : sc.kind = .function := by rfl) (hlx : (envOf nm sc L fa cd).kindOf x = some .local := by rfl) (hly : (envOf nm sc L fa cd).kindOf y = some .local := by rfl) (hlz : (envOf nm sc L fa cd).kindOf z = some .local := by rfl)
    (hs : swapsWithSole [.Tuple [.Name x px, .Name y py, .Name z pz] n tp] e pos.line (envOf nm sc L fa cd) = pure false := by rfl) (hw : swappedStores [.Tuple [.Name x px, .Name y py, .Name z pz] n tp] e (envOf nm sc L fa cd) = pure none := by rfl) :
    Run (model prog w) A (envOf nm sc L fa cd) Ws (.Assign [.Tuple [.Name x px, .Name y py, .Name z pz] n tp] e pos :: rest) h P X := by
  refine ⟨fun s Q E e po q x' => ?_⟩; subst e
  refine wpAny_execs_cons (Assign_Tuple (ev.go s _ E Keep.rfl (fun v h1' i k1 r => ?_) x') hs hw)
  obtain ⟨a, items, rfl, ht, r⟩ := rd_tup r
  obtain ⟨v1, r', e1, r1, r'⟩ := r.uncons
  obtain ⟨v2, r'', e2, r2, r''⟩ := r'.uncons
  obtain ⟨v3, r3', e3, r3, r3'⟩ := r''.uncons
  have e4 := r3'.unnil
  subst e4; subst e3; subst e2
  refine wpAny_assign_Tuple (s := { s with heap := h1', toks := i }) hh ht (by rw [← Array.length_toList, e1]; rfl) rfl (fun h' he => ?_)
  have kk := keep_fresh he
  rw [e1]
  have S1 := (S.keep k1).keep kk
  have stab : ∀ {d : PyData} {v : Value} {ha hb : Heap} {ρ' : Locs}, flat d = true → St g L ha ρ' μ → Kp [L] ha hb → Rd d v ha → Rd d v hb := by
    intro d v ha hb ρ' hf Sa kp r
    obtain ⟨as, z⟩ := r
    have e := flat_nil hf z
    subst e
    obtain ⟨m, F, _⟩ := Sa.ex
    exact ⟨_, reads_kp kp (fun a ha => by rw [List.mem_singleton] at ha; subst ha; exact .inr ⟨List.not_mem_nil, noTup_L F⟩) z⟩
  refine wpAny_assignInOrder_more (PyProof.Rows.assign_Name (st_name (s := { s with heap := h', toks := i }) S1 (r1.keep kk) h1 hx (fun h2' k2 kp2 S2 => ?_) hk hlx))
  refine wpAny_assignInOrder_more (PyProof.Rows.assign_Name (st_name (s := { s with heap := h2', toks := k2 }) S2 (stab h2 S1 kp2 (r2.keep kk)) h2 hy (fun h3' k3 kp3 S3 => ?_) hk hly))
  refine wpAny_assignInOrder_more (PyProof.Rows.assign_Name (st_name (s := { s with heap := h3', toks := k3 }) S3 (stab h3 S2 kp3 (stab h3 S1 kp2 (r3.keep kk))) h3 hz (fun h4 k4 kp4 S4 => ?_) hk hlz))
  refine wpAny_assignInOrder_none ?_
  have kpA : Kp (L :: Ws) s.heap h4 := (k1.kp.trans (((kk.kp.trans kp2).trans kp3).trans kp4 |>.mono fun b hb => by rw [List.mem_singleton] at hb; subst hb; exact .head _))
  exact (k h4 S4).go _ Q E rfl po (fun fl h2 j kp' p => q fl h2 j (kpA.trans kp') p) (fun y h2 j r => x' y h2 j r)
/-- x, y = e1, e2: the stores go from behind -/
theorem run_swap2 {x y : Str} {px py tp pos vp : Pos} {n n' : Nat} {es : List Expr} {d1 d2 : PyData} (hh : A.handled = none) (S : St g L h ρ μ) (ev : EvL (model prog w) A (envOf nm sc L fa cd) h vp es [d1, d2] X)
    (k : ∀ h', St g L h' ((x, d1) :: (y, d2) :: ρ) μ → Run (model prog w) A (envOf nm sc L fa cd) Ws rest h' P X) (h1 : flat d1 = true := by rfl) (h2 : flat d2 = true := by rfl)
    (hx : ∀ q, μ = some q → q.1 ≠ x := by intro q e; first | (cases e; done) | (cases e; decide)) (hy : ∀ q, μ = some q → q.1 ≠ y := by intro q e; first | (cases e; done) | (cases e; decide))
    (hk : sc.kind = .function := by rfl) (hlx : (envOf nm sc L fa cd).kindOf x = some .local := by rfl) (hly : (envOf nm sc L fa cd).kindOf y = some .local := by rfl)
    (hs : swapsWithSole [.Tuple [.Name x px, .Name y py] n tp] (.Tuple es n' vp) pos.line (envOf nm sc L fa cd) = pure false := by rfl) (hw : swappedStores [.Tuple [.Name x px, .Name y py] n tp] (.Tuple es n' vp) (envOf nm sc L fa cd) = pure (some [x, y]) := by rfl) :
    Run (model prog w) A (envOf nm sc L fa cd) Ws (.Assign [.Tuple [.Name x px, .Name y py] n tp] (.Tuple es n' vp) pos :: rest) h P X := by
  refine ⟨fun s Q E e po q x' => ?_⟩; subst e
  refine wpAny_execs_cons (Assign_Tuple_swapped (names := [x, y]) ((ev_tup ev).go s _ E Keep.rfl (fun v h1' i k1 r => ?_) x') hs hw)
  obtain ⟨a, items, rfl, ht, r⟩ := rd_tup r
  obtain ⟨v1, r', e1, r1, r'⟩ := r.uncons
  obtain ⟨v2, r'', e2, r2, r''⟩ := r'.uncons
  have e3 := r''.unnil
  subst e3; subst e2
  have hsz : ([x, y] : List Str).length = items.size := by rw [← Array.length_toList, e1]; rfl
  rw [hsz]
  refine wpAny_unpackItems_tuple (s := { s with heap := h1', toks := i }) hh ht (fun h' he => ?_)
  have kk := keep_fresh he
  rw [e1]
  refine wpAny_assignInOrder_more (wpAny_bindName (st_name (s := { s with heap := h', toks := i }) ((S.keep k1).keep kk) (r2.keep kk) h2 hy (fun h2' k2 kp2 S2 => ?_) hk hly))
  have r1' : Rd d1 v1 h2' := by
    obtain ⟨as, z⟩ := r1.keep kk
    have e := flat_nil h1 z
    subst e
    obtain ⟨m, F, _⟩ := ((S.keep k1).keep kk).ex
    exact ⟨_, reads_kp kp2 (fun a ha => by rw [List.mem_singleton] at ha; subst ha; exact .inr ⟨List.not_mem_nil, noTup_L F⟩) z⟩
  refine wpAny_assignInOrder_more (wpAny_bindName (st_name (s := { s with heap := h2', toks := k2 }) S2 r1' h1 hx (fun h3 k3 kp3 S3 => ?_) hk hlx))
  refine wpAny_assignInOrder_none ?_
  have kpA : Kp (L :: Ws) s.heap h3 := (k1.kp.trans ((kk.kp.trans kp2).trans kp3 |>.mono fun b hb => by rw [List.mem_singleton] at hb; subst hb; exact .head _))
  exact (k h3 S3).go _ Q E rfl po (fun fl h2 j kp' p => q fl h2 j (kpA.trans kp') p) (fun y h2 j r => x' y h2 j r)
end

/-- an iterator that is at its i-th thing -/
structure Itr (prog : Program) (w : World) (A : Around) (W : List Addr) (it : Addr) (ds : List PyData) (I : Nat → Heap → Prop) : Prop where
  item : ∀ {i d} {s : Shared} {Q : Option Value → Shared → Prop} {E : Value → Shared → Prop}, ds[i]? = some d → I i s.heap →
    (∀ v h' k, I (i + 1) h' → Kp [it] s.heap h' → Rd d v h' → Q (some v) { s with heap := h', toks := k }) → wpAny (model prog w) A (pyNext (.ref it)) Q E s
  stop : ∀ {s : Shared} {Q : Option Value → Shared → Prop} {E : Value → Shared → Prop}, I ds.length s.heap →
    (∀ h' k, Kp [it] s.heap h' → Q none { s with heap := h', toks := k }) → wpAny (model prog w) A (pyNext (.ref it)) Q E s
  stay : ∀ {i h h'}, I i h → Kp W h h' → I i h'
  odd : ∀ {i h}, I i h → Odd it h ∧ ∃ o, h.get? it = some o
  go : ∀ {i} {s : Shared} {elts x1 pos T} {Q : Unit → Shared → Prop} {E : Value → Shared → Prop}, I i s.heap → Q () s → wpAny (model prog w) A (letOwnedTupleGo (.Tuple elts x1 pos) (.ref it) (.ref T)) Q E s
/-- what a for goes over -/
def Iter (prog : Program) (w : World) (A : Around) (env : Env) (W : List Addr) (h : Heap) (e : Expr) (ds : List PyData) (X : Value → Heap → Prop) : Prop :=
  ∀ (s : Shared) (Q : Value → Shared → Prop) (E : Value → Shared → Prop), Keep h s.heap →
    (∀ it I h' k, Keep s.heap h' → Itr prog w A W it ds I → I 0 h' → s.heap.get? it = none → Q (.ref it) { s with heap := h', toks := k }) →
    (∀ x h' k, X x h' → E x { s with heap := h', toks := k }) →
    wpAny (model prog w) A (eval e env) (fun x s₁ => wpAny (model prog w) A (pyIter x) Q E s₁) E s

section
variable {prog : Program} {w : World} {A : Around} {nm : Str} {sc : Scope} {L fa : Addr} {cd : Value} {g h : Heap} {ρ : Locs} {μ : Mut} {X : Value → Heap → Prop} {Ws : List Addr} {P : Flow → Heap → Prop} {rest : List Stmt}

/-- the loop, whatever the target -/
theorem run_forG {target : Expr} {iter : Expr} {body : List Stmt} {pos : Pos} {ds : List PyData} (J : Nat → Locs → Mut → Prop) (S : St g L h ρ μ) (it : Iter prog w A (envOf nm sc L fa cd) (L :: Ws) h iter ds X) (j0 : J 0 ρ μ)
    (hold : ∀ b ∈ L :: Ws, ∃ o, h.get? b = some o)
    (asg : ∀ {i d ρ μ} {s : Shared} {Q : Unit → Shared → Prop} {E : Value → Shared → Prop} {it' : Addr} {I : Nat → Heap → Prop} {v : Value}, ds[i]? = some d → J i ρ μ → St g L s.heap ρ μ → Rd d v s.heap → Itr prog w A (L :: Ws) it' ds I → I (i + 1) s.heap →
      (∀ h' k, Kp [L] s.heap h' → (Run (model prog w) A (envOf nm sc L fa cd) Ws body h' (fun fl h2 => match fl with
        | .next | .cont => ∃ ρ' μ', J (i + 1) ρ' μ' ∧ St g L h2 ρ' μ'
        | .brk => Run (model prog w) A (envOf nm sc L fa cd) Ws rest h2 P X
        | .ret v => P (.ret v) h2) X) → Q () { s with heap := h', toks := k }) →
      wpAny (model prog w) A (letOwnedTupleGo target (.ref it') v) (fun _ s' => wpAny (model prog w) A (assign target (envOf nm sc L fa cd) v) Q E s') E s)
    (fin : ∀ ρ μ h, J ds.length ρ μ → St g L h ρ μ → Run (model prog w) A (envOf nm sc L fa cd) Ws rest h P X)
    (hs : pl iter = true := by rfl) :
    Run (model prog w) A (envOf nm sc L fa cd) Ws (.For target iter body [] pos :: rest) h P X := by
  refine ⟨fun s Q E e po q x => ?_⟩; subst e
  refine wpAny_execs_cons (wpAny_For (it s _ E Keep.rfl (fun it' I h1 k1 kk hit hI hnew => ?_) x) (pl_fold hs))
  have hitW : ∀ b ∈ L :: Ws, b ≠ it' := fun b hb e => by
    obtain ⟨o, ho⟩ := hold b hb
    subst e; rw [hnew] at ho; cases ho
  have hg : g.get? it' = none := S.frK.none hnew
  -- what changes at the iterator alone was not there before
  have goOn : ∀ h3, Kp (it' :: L :: Ws) s.heap h3 → Run (model prog w) A (envOf nm sc L fa cd) Ws rest h3 P X → ∀ k3, wpAny (model prog w) A (execs rest (envOf nm sc L fa cd)) Q E { s with heap := h3, toks := k3 } := by
    intro h3 kp3 r k3
    refine r.go _ Q E rfl po (fun fl h4 k4 kp4 p => q fl h4 k4 ?_ p) (fun y h4 k4 r => x y h4 k4 r)
    intro b o nb eb
    refine kp4 b o nb (kp3 b o (fun hb => ?_) eb)
    cases hb with
    | head => rw [hnew] at eb; cases eb
    | tail _ hb => exact nb hb
  refine codeAny_forLoop_any (I := fun n s' => ∃ i h' k ρ μ, n = ds.length - i ∧ i ≤ ds.length ∧ s' = { s with heap := h', toks := k } ∧ Kp (it' :: L :: Ws) s.heap h' ∧ I i h' ∧ J i ρ μ ∧ St g L h' ρ μ) (fun n s' hI' => ?_) ds.length
    ⟨0, h1, k1, ρ, μ, rfl, Nat.zero_le _, rfl, kk.kp, hI, j0, S.keep kk⟩
  obtain ⟨i, h2, k2, ρ2, μ2, rfl, hi, rfl, kp2, hI2, hJ2, S2⟩ := hI'
  have kpIt : ∀ {ha hb : Heap}, Kp (it' :: L :: Ws) s.heap ha → Kp [it'] ha hb → Kp (it' :: L :: Ws) s.heap hb := fun k1 k2 => k1.trans (k2.mono fun b hb => by rw [List.mem_singleton] at hb; subst hb; exact .head _)
  by_cases hlt : i < ds.length
  · have hd : ds[i]? = some ds[i] := List.getElem?_eq_getElem hlt
    refine hit.item (s := { s with heap := h2, toks := k2 }) hd hI2 (fun v h3 k3 hI3 kp3 r3 => ?_)
    have S3 : St g L h3 ρ2 μ2 := S2.odd (hit.odd hI2).1 (hit.odd hI2).2 hg kp3
    refine wpAny_mono (asg (s := { s with heap := h3, toks := k3 }) hd hJ2 S3 r3 hit hI3 (Q := fun _ s' => ∃ h4 k4, s' = { s with heap := h4, toks := k4 } ∧ Kp [L] h3 h4 ∧ Run (model prog w) A (envOf nm sc L fa cd) Ws body h4 (fun fl h2 => match fl with
        | .next | .cont => ∃ ρ' μ', J (i + 1) ρ' μ' ∧ St g L h2 ρ' μ'
        | .brk => Run (model prog w) A (envOf nm sc L fa cd) Ws rest h2 P X
        | .ret v => P (.ret v) h2) X) (E := E) (fun h4 k4 kp4 R4 => ⟨h4, k4, rfl, kp4, R4⟩)) (fun _ s' hs' => wpAny_mono hs' (fun _ s'' hq => ?_) po) po
    obtain ⟨h4, k4, rfl, kp4, R4⟩ := hq
    have hI4 : I (i + 1) h4 := hit.stay hI3 (kp4.mono fun b hb => by rw [List.mem_singleton] at hb; subst hb; exact .head _)
    have kpA : Kp (it' :: L :: Ws) s.heap h4 := (kpIt kp2 kp3).trans (kp4.mono fun b hb => by rw [List.mem_singleton] at hb; subst hb; exact .tail _ (.head _))
    refine wpAny_passesOwn po (R4.go _ _ (E) rfl po (fun fl h5 k5 kp5 p => ?_) (fun y h2 j r => x y h2 j r))
    have kpB : Kp (it' :: L :: Ws) s.heap h5 := kpA.trans (kp5.mono fun b hb => .tail _ hb)
    have kpC : Kp (L :: Ws) s.heap h5 := fun b o nb eb => kpB b o (fun hb => by
      cases hb with
      | head => rw [hnew] at eb; cases eb
      | tail _ hb => exact nb hb) eb
    cases fl with
    | next => obtain ⟨ρ', μ', hJ', S'⟩ := p; exact ⟨ds.length - (i + 1), by omega, i + 1, h5, k5, ρ', μ', rfl, by omega, rfl, kpB, hit.stay hI4 kp5, hJ', S'⟩
    | cont => obtain ⟨ρ', μ', hJ', S'⟩ := p; exact ⟨ds.length - (i + 1), by omega, i + 1, h5, k5, ρ', μ', rfl, by omega, rfl, kpB, hit.stay hI4 kp5, hJ', S'⟩
    | brk => exact goOn h5 kpB p k5
    | ret v => exact q _ _ _ kpC p
  · have e : i = ds.length := by omega
    subst e
    refine hit.stop (s := { s with heap := h2, toks := k2 }) hI2 (fun h3 k3 kp3 => ?_)
    have S3 : St g L h3 ρ2 μ2 := S2.odd (hit.odd hI2).1 (hit.odd hI2).2 hg kp3
    exact wpAny_execs_nil (goOn h3 (kpIt kp2 kp3) (fin ρ2 μ2 h3 hJ2 S3) k3)

/-- for x in .. -/
theorem run_for {x : Str} {px : Pos} {iter : Expr} {body : List Stmt} {pos : Pos} {ds : List PyData} (J : Nat → Locs → Mut → Prop) (S : St g L h ρ μ) (it : Iter prog w A (envOf nm sc L fa cd) (L :: Ws) h iter ds X) (j0 : J 0 ρ μ)
    (hold : ∀ b ∈ L :: Ws, ∃ o, h.get? b = some o)
    (step : ∀ i d ρ μ h, ds[i]? = some d → J i ρ μ → St g L h ((x, d) :: ρ) μ → Run (model prog w) A (envOf nm sc L fa cd) Ws body h (fun fl h2 => match fl with
        | .next | .cont => ∃ ρ' μ', J (i + 1) ρ' μ' ∧ St g L h2 ρ' μ'
        | .brk => Run (model prog w) A (envOf nm sc L fa cd) Ws rest h2 P X
        | .ret v => P (.ret v) h2) X)
    (fin : ∀ ρ μ h, J ds.length ρ μ → St g L h ρ μ → Run (model prog w) A (envOf nm sc L fa cd) Ws rest h P X)
    (hf : ∀ d ∈ ds, flat d = true) (hμ : ∀ i ρ μ, J i ρ μ → ∀ q, μ = some q → q.1 ≠ x)
    (hs : pl iter = true := by rfl) (hk : sc.kind = .function := by rfl) (hl : (envOf nm sc L fa cd).kindOf x = some .local := by rfl) :
    Run (model prog w) A (envOf nm sc L fa cd) Ws (.For (.Name x px) iter body [] pos :: rest) h P X := by
  refine run_forG J S it j0 hold ?_ fin hs
  intro i d ρ μ s Q E it' I v hd hJ S r hit hI q
  refine wpAny_of_eq (a := ()) rfl ?_
  refine PyProof.Rows.assign_Name (st_name S r (hf d (List.mem_of_getElem? hd)) (hμ i ρ μ hJ) (fun h' k kp S' => q h' k kp (step i d ρ μ h' hd hJ S')) hk hl)
/-- for x, y in .. -/
theorem run_for2 {x y : Str} {px py tp : Pos} {n : Nat} {iter : Expr} {body : List Stmt} {pos : Pos} {ds : List PyData} (hh : A.handled = none) (J : Nat → Locs → Mut → Prop) (S : St g L h ρ μ) (it : Iter prog w A (envOf nm sc L fa cd) (L :: Ws) h iter ds X) (j0 : J 0 ρ μ)
    (hold : ∀ b ∈ L :: Ws, ∃ o, h.get? b = some o)
    (step : ∀ i d1 d2 ρ μ h, ds[i]? = some (.tuple [d1, d2]) → J i ρ μ → St g L h ((y, d2) :: (x, d1) :: ρ) μ → Run (model prog w) A (envOf nm sc L fa cd) Ws body h (fun fl h2 => match fl with
        | .next | .cont => ∃ ρ' μ', J (i + 1) ρ' μ' ∧ St g L h2 ρ' μ'
        | .brk => Run (model prog w) A (envOf nm sc L fa cd) Ws rest h2 P X
        | .ret v => P (.ret v) h2) X)
    (fin : ∀ ρ μ h, J ds.length ρ μ → St g L h ρ μ → Run (model prog w) A (envOf nm sc L fa cd) Ws rest h P X)
    (hf : ∀ d ∈ ds, ∃ d1 d2, d = .tuple [d1, d2] ∧ flat d1 = true ∧ flat d2 = true) (hx : ∀ i ρ μ, J i ρ μ → ∀ q, μ = some q → q.1 ≠ x ∧ q.1 ≠ y)
    (hs : pl iter = true := by rfl) (hk : sc.kind = .function := by rfl) (hlx : (envOf nm sc L fa cd).kindOf x = some .local := by rfl) (hly : (envOf nm sc L fa cd).kindOf y = some .local := by rfl) :
    Run (model prog w) A (envOf nm sc L fa cd) Ws (.For (.Tuple [.Name x px, .Name y py] n tp) iter body [] pos :: rest) h P X := by
  refine run_forG J S it j0 hold ?_ fin hs
  intro i d ρ μ s Q E it' I v hd hJ S r hit hI q
  obtain ⟨d1, d2, rfl, h1, h2⟩ := hf d (List.mem_of_getElem? hd)
  obtain ⟨a, items, rfl, _⟩ := rd_tup r
  refine hit.go hI ?_
  exact assign2 hh S r h1 h2 (fun q e => (hx i ρ μ hJ q e).1) (fun q e => (hx i ρ μ hJ q e).2) (fun h' k kp S' => q h' k kp (step i d1 d2 ρ μ h' hd hJ S')) hk hlx hly
end
end Mine

namespace Mine
open PySem PySem.Spec PySem.Calls PyProof.Rows

theorem flatL_append {ds es : List PyData} (h : flatL ds = true) (h' : flatL es = true) : flatL (ds ++ es) = true := by
  induction ds with
  | nil => exact h'
  | cons a r ih =>
    simp only [flatL, Bool.and_eq_true] at h
    simp only [List.cons_append, flatL, Bool.and_eq_true]
    exact ⟨h.1, ih h.2⟩
theorem flatL_snoc {ds : List PyData} {d : PyData} (h : flatL ds = true) (h' : flat d = true) : flatL (ds ++ [d]) = true := flatL_append h (by simp [flatL, h'])
/-- a list that is not written to by the loop -/
def SrcL (W : List Addr) (ds : List PyData) (v : Value) (h : Heap) : Prop := ∃ l items, v = .ref l ∧ h.IsList l items ∧ l ∉ W ∧ ∀ h', Kp W h h' → RdL ds items.toList h'
def SrcT (W : List Addr) (ds : List PyData) (v : Value) (h : Heap) : Prop := ∃ l items, v = .ref l ∧ h.IsTuple l items ∧ l ∉ W ∧ ∀ h', Kp W h h' → RdL ds items.toList h'

section
variable {g h : Heap} {L : Addr} {ρ : Locs} {μ : Mut} {Ws : List Addr}
/-- the places that may be written are the frame and its own list -/
def Wok (μ : Mut) (Ws : List Addr) : Prop := ∀ a ∈ Ws, ∃ q, μ = some q ∧ q.2.1 = a
theorem wok_nil : Wok μ [] := fun _ h => nomatch h
theorem wok_one {x : Str} {l : Addr} {ds : List PyData} : Wok (some (x, l, ds)) [l] := fun a ha => ⟨_, rfl, by rw [List.mem_singleton] at ha; exact ha.symm⟩
theorem w_noTup (S : St g L h ρ μ) (hW : Wok μ Ws) : ∀ a ∈ L :: Ws, NoTup a h ∧ ∃ o, h.get? a = some o := by
  obtain ⟨m, F, _, hm⟩ := S.ex
  intro a ha
  cases ha with
  | head => exact ⟨noTup_L F, L_some F⟩
  | tail _ ha =>
    obtain ⟨q, e, rfl⟩ := hW a ha
    obtain ⟨_, _, _, items, p, _⟩ := hm q e
    exact ⟨noTup_list p, let ⟨_, p⟩ := p; ⟨_, p⟩⟩
theorem w_hold (S : St g L h ρ μ) (hW : Wok μ Ws) : ∀ b ∈ L :: Ws, ∃ o, h.get? b = some o := fun b hb => (w_noTup S hW b hb).2
end

theorem listIter_kp {W : List Addr} {h h' : Heap} {it l : Addr} {i : Nat} (k : Kp W h h') (n : it ∉ W) (x : h.IsListIter it l i) : h'.IsListIter it l i := let ⟨o, ho, r⟩ := x; ⟨o, k _ _ n ho, r⟩
theorem isList_kp {W : List Addr} {h h' : Heap} {l : Addr} {items} (k : Kp W h h') (n : l ∉ W) (x : h.IsList l items) : h'.IsList l items := let ⟨o, ho, r⟩ := x; ⟨o, k _ _ n ho, r⟩
theorem isTuple_kp {W : List Addr} {h h' : Heap} {l : Addr} {items} (k : Kp W h h') (n : l ∉ W) (x : h.IsTuple l items) : h'.IsTuple l items := let ⟨o, ho, r⟩ := x; ⟨o, k _ _ n ho, r⟩
theorem tupIter_kp {W : List Addr} {h h' : Heap} {it l : Addr} {i : Nat} (k : Kp W h h') (n : it ∉ W) (x : h.IsTupleIter it l i) : h'.IsTupleIter it l i := let ⟨o, ho, r⟩ := x; ⟨o, k _ _ n ho, r⟩
theorem size_none (h : Heap) : h.get? h.objs.size = none := by
  cases hq : h.get? h.objs.size with
  | none => rfl
  | some o => exact absurd (Heap.lt_size hq) (Nat.lt_irrefl _)
theorem kp_push {W : List Addr} {h h' : Heap} {o : Obj} (k : Kp (h.objs.size :: W) (h.push o) h') : Kp W h h' := fun b o' n e => k b o' (fun hb => by
  cases hb with
  | head => rw [size_none] at e; cases e
  | tail _ hb => exact n hb) (Heap.get?_push_of_some _ e)

section
variable {prog : Program} {w : World} {A : Around} {env : Env} {W : List Addr} {h : Heap} {X : Value → Heap → Prop}

theorem odd_fields {h : Heap} {a : Addr} {o : Obj} {fs : Array Value} (ho : h.get? a = some o) (hd : o.data = .fields fs) : Odd a h ∧ ∃ o, h.get? a = some o :=
  ⟨fun o' e => by rw [ho] at e; cases e; rw [hd]; exact ⟨(fun _ _ e => by cases e), (fun _ _ e => by cases e)⟩, o, ho⟩

theorem iter_list {e : Expr} {ds : List PyData} (hh : A.handled = none) (ev : Ev (model prog w) A env h e (SrcL W ds) X) (hold : ∀ b ∈ W, ∃ o, h.get? b = some o) : Iter prog w A env W h e ds X := by
  intro s Q E k q x
  refine ev.go s _ E k (fun v h1 i k1 r => ?_) x
  obtain ⟨l, items, rfl, hl, hlW, st⟩ := r
  refine wpAny_pyIter_list (s := { s with heap := h1, toks := i }) hl ?_
  have hitW : h1.objs.size ∉ W := fun hm => by
    obtain ⟨o, ho⟩ := hold _ hm
    have := k1 _ _ (k _ _ ho)
    rw [size_none] at this; cases this
  have hlit : l ≠ h1.objs.size := fun e => by
    obtain ⟨o, ho, _⟩ := hl
    rw [e, size_none] at ho; cases ho
  have hlen : items.size = ds.length := by
    have := (st h1 Kp.rfl).len
    simpa using this
  refine q h1.objs.size (fun i h' => h'.IsListIter h1.objs.size l i ∧ h'.IsList l items ∧ ∀ h'', Kp (h1.objs.size :: W) h' h'' → RdL ds items.toList h'') _ _ (Keep.push k1 _) ?_ ⟨⟨_, Heap.get?_push_size _ rfl, rfl, rfl⟩, hl.push _, fun h'' kp => st h'' (kp_push kp)⟩ ?_
  · refine ⟨?_, ?_, ?_, ?_, ?_⟩
    · intro i d s' Q' E' hd hI q'
      obtain ⟨h1', h2', h3'⟩ := hI
      obtain ⟨v, hv, _⟩ := (h3' s'.heap Kp.rfl).at hd
      refine wpAny_pyNext_list_item h1' h2' (x := v) (by simpa using hv) (fun h'' hit'' hsb => ?_)
      have kp := kp_same hsb
      have r'' : RdL ds items.toList h'' := h3' h'' (kp.mono fun b hb => by rw [List.mem_singleton] at hb; subst hb; exact .head _)
      obtain ⟨v', hv', rv⟩ := r''.at hd
      rw [hv] at hv'; cases hv'
      exact q' v h'' s'.toks ⟨hit'', isList_kp kp (by simpa using hlit) h2', fun h3 kp3 => h3' h3 ((kp.mono fun b hb => by rw [List.mem_singleton] at hb; subst hb; exact .head _).trans kp3)⟩ kp rv
    · intro s' Q' E' hI q'
      obtain ⟨h1', h2', h3'⟩ := hI
      refine wpAny_pyNext_list_end hh h1' h2' (by simp [hlen]) (fun h'' he => q' h'' s'.toks (kp_ext he))
    · intro i ha hb hI kp
      obtain ⟨h1', h2', h3'⟩ := hI
      exact ⟨listIter_kp kp hitW h1', isList_kp kp hlW h2', fun h3 kp3 => h3' h3 ((kp.mono fun b hb => .tail _ hb).trans kp3)⟩
    · intro i ha hI
      obtain ⟨⟨o, ho, hc, hd⟩, _⟩ := hI
      exact odd_fields ho hd
    · intro i s' elts x1 pos T Q' E' hI q'
      exact wpAny_letOwnedTupleGo_listiter hI.1 q'
  · exact k1.none (size_none h1)

theorem iter_tuple {e : Expr} {ds : List PyData} (hh : A.handled = none) (ev : Ev (model prog w) A env h e (SrcT W ds) X) (hold : ∀ b ∈ W, ∃ o, h.get? b = some o) : Iter prog w A env W h e ds X := by
  intro s Q E k q x
  refine ev.go s _ E k (fun v h1 i k1 r => ?_) x
  obtain ⟨l, items, rfl, hl, hlW, st⟩ := r
  refine wpAny_pyIter_tuple (s := { s with heap := h1, toks := i }) hl ?_
  have hitW : h1.objs.size ∉ W := fun hm => by
    obtain ⟨o, ho⟩ := hold _ hm
    have := k1 _ _ (k _ _ ho)
    rw [size_none] at this; cases this
  have hlit : l ≠ h1.objs.size := fun e => by
    obtain ⟨o, ho, _⟩ := hl
    rw [e, size_none] at ho; cases ho
  have hlen : items.size = ds.length := by
    have := (st h1 Kp.rfl).len
    simpa using this
  refine q h1.objs.size (fun i h' => h'.IsTupleIter h1.objs.size l i ∧ h'.IsTuple l items ∧ ∀ h'', Kp (h1.objs.size :: W) h' h'' → RdL ds items.toList h'') _ _ (Keep.push k1 _) ?_ ⟨⟨_, Heap.get?_push_size _ rfl, rfl, rfl⟩, hl.push _, fun h'' kp => st h'' (kp_push kp)⟩ ?_
  · refine ⟨?_, ?_, ?_, ?_, ?_⟩
    · intro i d s' Q' E' hd hI q'
      obtain ⟨h1', h2', h3'⟩ := hI
      obtain ⟨v, hv, _⟩ := (h3' s'.heap Kp.rfl).at hd
      refine wpAny_pyNext_tuple_item h1' h2' (x := v) (by simpa using hv) (fun h'' hit'' hsb => ?_)
      have kp := kp_same hsb
      have r'' : RdL ds items.toList h'' := h3' h'' (kp.mono fun b hb => by rw [List.mem_singleton] at hb; subst hb; exact .head _)
      obtain ⟨v', hv', rv⟩ := r''.at hd
      rw [hv] at hv'; cases hv'
      exact q' v h'' s'.toks ⟨hit'', isTuple_kp kp (by simpa using hlit) h2', fun h3 kp3 => h3' h3 ((kp.mono fun b hb => by rw [List.mem_singleton] at hb; subst hb; exact .head _).trans kp3)⟩ kp rv
    · intro s' Q' E' hI q'
      obtain ⟨h1', h2', h3'⟩ := hI
      refine wpAny_pyNext_tuple_end hh h1' h2' (by simp [hlen]) (fun h'' he => q' h'' s'.toks (kp_ext he))
    · intro i ha hb hI kp
      obtain ⟨h1', h2', h3'⟩ := hI
      exact ⟨tupIter_kp kp hitW h1', isTuple_kp kp hlW h2', fun h3 kp3 => h3' h3 ((kp.mono fun b hb => .tail _ hb).trans kp3)⟩
    · intro i ha hI
      obtain ⟨⟨o, ho, hc, hd⟩, _⟩ := hI
      exact odd_fields ho hd
    · intro i s' elts x1 pos T Q' E' hI q'
      obtain ⟨⟨o, ho, hc, hd⟩, _⟩ := hI
      unfold letOwnedTupleGo
      refine wpAny_bind (wpAny_load ho ?_)
      rw [hc, hd]
      refine wpAny_ite_false ?_ (wpAny_pure q')
      simp
  · exact k1.none (size_none h1)

def rangeD (a : Int) (n : Nat) : List PyData := (List.range n).map fun (i : Nat) => PyData.int (a + i)
theorem rangeD_len (a : Int) (n : Nat) : (rangeD a n).length = n := by simp [rangeD]
theorem rangeD_at (a : Int) (n i : Nat) : (rangeD a n)[i]? = if i < n then some (.int (a + i)) else none := by
  unfold rangeD
  by_cases h : i < n
  · simp [h]
  · simp [h]
theorem rangeD_flat (a : Int) (n : Nat) : ∀ d ∈ rangeD a n, flat d = true := by
  intro d hd
  simp only [rangeD, List.mem_map] at hd
  obtain ⟨i, _, rfl⟩ := hd
  rfl
/-- a range by ones, from its iterator on -/
theorem iter_rangeC {e : Expr} {a b : Int} (hh : A.handled = none) (ha : -(2 ^ 61) ≤ a ∧ a ≤ 2 ^ 61) (hb : -(2 ^ 61) ≤ b ∧ b ≤ 2 ^ 61)
    (ev : Ev (model prog w) A env h e (fun v h' => ∃ r t u y, v = .ref r ∧ IsRange h' r a b 1 t u y) X) (hold : ∀ b ∈ W, ∃ o, h.get? b = some o) : Iter prog w A env W h e (rangeD a (b - a).toNat) X := by
  intro s Q E k q x
  refine ev.go s _ E k (fun v h1 i k1 r => ?_) x
  obtain ⟨r, t, u, y, rfl, hr⟩ := r
  have hsz : Builtin.Range.rangeSize a b 1 = ((b - a).toNat : Int) := by
    unfold Builtin.Range.rangeSize
    simp only [show (1 : Int) > 0 from by decide, if_true]
    split
    · rw [Int.ediv_one]; omega
    · omega
  have hsm : Builtin.Range.small a b 1 = true := by
    unfold Builtin.Range.small
    rw [hsz]
    simp only [Builtin.Range.rangeFitsLong, Bool.and_eq_true, Bool.or_eq_true, decide_eq_true_eq, beq_iff_eq]
    refine ⟨⟨⟨⟨⟨by omega, by omega⟩, by omega, by omega⟩, by decide, by decide⟩, by omega, by omega⟩, ?_⟩
    right
    simp only [show (1 : Int) > 0 from by decide, if_true, Bool.and_eq_true, decide_eq_true_eq]
    omega
  refine wpAny_pyIter_range (s := { s with heap := h1, toks := i }) hr hsm ?_
  rw [hsz]
  have hitW : h1.objs.size ∉ W := fun hm => by
    obtain ⟨o, ho⟩ := hold _ hm
    have := k1 _ _ (k _ _ ho)
    rw [size_none] at this; cases this
  refine q h1.objs.size (fun i h' => IsRangeIter h' h1.objs.size (a + i) (((b - a).toNat : Int) - i) 1) _ _ (Keep.push k1 _) ?_ ?_ ?_
  · refine ⟨?_, ?_, ?_, ?_, ?_⟩
    · intro i d s' Q' E' hd hI q'
      rw [rangeD_at] at hd
      by_cases hi : i < (b - a).toNat
      · rw [if_pos hi] at hd; cases hd
        refine wpAny_pyNext_range_item hI (by omega) (fun h'' hit'' hsb => ?_)
        refine q' _ h'' _ ?_ (kp_same hsb) ⟨_, .int _ _⟩
        have e1 : a + ((i + 1 : Nat) : Int) = a + i + 1 := by omega
        have e2 : ((b - a).toNat : Int) - ((i + 1 : Nat) : Int) = ((b - a).toNat : Int) - i - 1 := by omega
        rw [e1, e2]; exact hit''
      · rw [if_neg hi] at hd; cases hd
    · intro s' Q' E' hI q'
      rw [rangeD_len] at hI
      refine wpAny_pyNext_range_end hh hI (by omega) (fun h'' he => q' h'' s'.toks (kp_ext he))
    · intro i ha hb hI kp
      exact kp _ _ hitW hI
    · intro i ha hI
      exact odd_fields hI rfl
    · intro i s' elts x1 pos T Q' E' hI q'
      unfold letOwnedTupleGo
      refine wpAny_bind (wpAny_load hI ?_)
      refine wpAny_ite_false ?_ (wpAny_pure q')
      simp
  · show IsRangeIter _ _ (a + ((0 : Nat) : Int)) (((b - a).toNat : Int) - ((0 : Nat) : Int)) 1
    simp only [Int.natCast_zero, Int.add_zero, Int.sub_zero]
    exact Heap.get?_push_size _ rfl
  · exact k1.none (size_none h1)
/-- the signs of a text -/
def signsD (x : Str) : List PyData := x.cps.toList.map fun c => PyData.str ⟨#[c]⟩
theorem iter_str {e : Expr} {x : Str} (hh : A.handled = none) (ev : Ev (model prog w) A env h e (Rd (.str x)) X) (hold : ∀ b ∈ W, ∃ o, h.get? b = some o) : Iter prog w A env W h e (signsD x) X := by
  intro s Q E k q x'
  refine ev.go s _ E k (fun v h1 i k1 r => ?_) x'
  obtain ⟨t, rfl⟩ := rd_str r
  have hitW : h1.objs.size ∉ W := fun hm => by
    obtain ⟨o, ho⟩ := hold _ hm
    have := k1 _ _ (k _ _ ho)
    rw [size_none] at this; cases this
  have hlen : (signsD x).length = x.cps.size := by simp [signsD]
  have hat : ∀ (i : Nat) (d : PyData), (signsD x)[i]? = some d → ∃ c, x.cps[i]? = some c ∧ d = .str ⟨#[c]⟩ := by
    intro i d hd
    simp only [signsD, List.getElem?_map, Option.map_eq_some_iff] at hd
    obtain ⟨c, hc, rfl⟩ := hd
    exact ⟨c, by simpa using hc, rfl⟩
  cases ha : x.cps.all (· < 128)
  · refine wpAny_pyIter_wide (s := { s with heap := h1, toks := i }) ha ?_
    refine q h1.objs.size (fun i h' => h'.IsStrIter h1.objs.size "str_iterator" x t i) _ _ (Keep.push k1 _) ?_ ⟨_, Heap.get?_push_size _ rfl, rfl, rfl⟩ (k1.none (size_none h1))
    refine ⟨?_, ?_, ?_, ?_, ?_⟩
    · intro i d s' Q' E' hd hI q'
      obtain ⟨c, hc, rfl⟩ := hat i d hd
      exact wpAny_pyNext_wide_item hI hc (fun h'' hit'' hsb => q' _ h'' _ hit'' (kp_same hsb) ⟨_, .str _ _⟩)
    · intro s' Q' E' hI q'
      rw [hlen] at hI
      exact wpAny_pyNext_wide_end hh hI (by simp) (fun h'' he => q' h'' s'.toks (kp_ext he))
    · intro i ha hb hI kp
      obtain ⟨o, ho, r⟩ := hI
      exact ⟨o, kp _ _ hitW ho, r⟩
    · intro i ha hI
      obtain ⟨o, ho, hc, hd⟩ := hI
      exact odd_fields ho hd
    · intro i s' elts x1 pos T Q' E' hI q'
      obtain ⟨o, ho, hc, hd⟩ := hI
      unfold letOwnedTupleGo
      refine wpAny_bind (wpAny_load ho ?_)
      rw [hc, hd]
      refine wpAny_ite_false ?_ (wpAny_pure q')
      simp
  · refine wpAny_pyIter_ascii (s := { s with heap := h1, toks := i }) ha ?_
    refine q h1.objs.size (fun i h' => h'.IsStrIter h1.objs.size "str_ascii_iterator" x t i) _ _ (Keep.push k1 _) ?_ ⟨_, Heap.get?_push_size _ rfl, rfl, rfl⟩ (k1.none (size_none h1))
    refine ⟨?_, ?_, ?_, ?_, ?_⟩
    · intro i d s' Q' E' hd hI q'
      obtain ⟨c, hc, rfl⟩ := hat i d hd
      exact wpAny_pyNext_ascii_item hI hc (fun h'' hit'' hsb => q' _ h'' _ hit'' (kp_same hsb) ⟨_, .str _ _⟩)
    · intro s' Q' E' hI q'
      rw [hlen] at hI
      exact wpAny_pyNext_ascii_end hh hI (by simp) (fun h'' he => q' h'' s'.toks (kp_ext he))
    · intro i ha hb hI kp
      obtain ⟨o, ho, r⟩ := hI
      exact ⟨o, kp _ _ hitW ho, r⟩
    · intro i ha hI
      obtain ⟨o, ho, hc, hd⟩ := hI
      exact odd_fields ho hd
    · intro i s' elts x1 pos T Q' E' hI q'
      obtain ⟨o, ho, hc, hd⟩ := hI
      unfold letOwnedTupleGo
      refine wpAny_bind (wpAny_load ho ?_)
      rw [hc, hd]
      refine wpAny_ite_false ?_ (wpAny_pure q')
      simp
end

section
variable {prog : Program} {w : World} {A : Around} {nm : Str} {sc : Scope} {L fa : Addr} {cd : Value} {g h : Heap} {ρ : Locs} {μ : Mut} {X : Value → Heap → Prop} {Ws : List Addr} {P : Flow → Heap → Prop} {rest : List Stmt}
/-- a list of the frame's names, to be gone over -/
theorem src_var {x : Str} {pos : Pos} {ds : List PyData} (S : St g L h ρ μ) (hv : ρ.lookup x = some (.list ds)) (hW : Wok μ Ws) (hk : sc.kind = .function := by rfl) (hl : (envOf nm sc L fa cd).kindOf x = some .local := by rfl)
    (hd : (x == ("__debug__" : Str)) = false := by decide) : Ev (model prog w) A (envOf nm sc L fa cd) h (.Name x pos) (SrcL (L :: Ws) ds) X :=
  EvT.ofS fun s Q E k q => by
    have S' := S.keep k
    have hnt := w_noTup S' hW
    obtain ⟨m, F, hr, _⟩ := S'.ex
    obtain ⟨v, as, hm, r, nL, nl⟩ := hr x _ hv
    refine ld F hm (q v s.toks ?_) hk hl hd
    cases r with
    | list h1 h2 h3 y =>
      have hW' : ∀ a ∈ L :: Ws, a ∉ _ := fun a ha => by
        cases ha with
        | head => exact nL
        | tail _ ha => obtain ⟨p, e, rfl⟩ := hW a ha; exact nl p e
      exact ⟨_, _, rfl, ⟨_, h1, h2, _, h3⟩, fun ha => hW' _ ha (.head _), fun h' kp => ⟨_, readsAll_kp kp (fun a ha => .inr ⟨fun e => hW' a ha (.tail _ e), (hnt a ha).1⟩) y⟩⟩
/-- a new list, to be gone over -/
theorem src_new {e : Expr} {ds : List PyData} (S : St g L h ρ μ) (ev : Ev (model prog w) A (envOf nm sc L fa cd) h e (Rl h ds) X) (hf : flatL ds = true) (hW : Wok μ Ws) : Ev (model prog w) A (envOf nm sc L fa cd) h e (SrcL (L :: Ws) ds) X :=
  ev.mono fun v h' k r => by
    obtain ⟨l, items, rfl, p, r, fresh⟩ := r
    have hnt := w_noTup (S.keep k) hW
    refine ⟨l, items, rfl, p.isList, fun ha => ?_, fun h'' kp => rdl_flat_kp kp hf (fun a ha => (hnt a ha).1) r⟩
    obtain ⟨_, o, ho⟩ := w_noTup S hW l ha
    rw [fresh] at ho; cases ho
theorem src_tup {e : Expr} {ds : List PyData} (S : St g L h ρ μ) (ev : Ev (model prog w) A (envOf nm sc L fa cd) h e (Rd (.tuple ds)) X) (hf : flatL ds = true) (hW : Wok μ Ws) : Ev (model prog w) A (envOf nm sc L fa cd) h e (SrcT (L :: Ws) ds) X :=
  ev.mono fun v h' k r => by
    obtain ⟨a, items, rfl, p, r⟩ := rd_tup r
    have hnt := w_noTup (S.keep k) hW
    refine ⟨a, items, rfl, p, fun ha => ?_, fun h'' kp => rdl_flat_kp kp hf (fun a ha => (hnt a ha).1) r⟩
    obtain ⟨o, ho, hc, n, hd⟩ := p
    exact (hnt a ha).1 o ho hc _ _ hd
/-- a list of g's, handed on by an argument's name or not: any list that is read and not among W -/
theorem run_append {x : Str} {l : Addr} {ds : List PyData} {d : PyData} {e : Expr} {px ap pos ep : Pos} (S : St g L h ρ (some (x, l, ds))) (ev : Ev (model prog w) A (envOf nm sc L fa cd) h e (Rd d) X) (hf : flat d = true) (hl : l ∈ Ws) (hsz : ds.length ≤ 2 ^ 20)
    (k : ∀ h', St g L h' ρ (some (x, l, ds ++ [d])) → Run (model prog w) A (envOf nm sc L fa cd) Ws rest h' P X)
    (hbase : attributeBase (.Name x px) "append" (envOf nm sc L fa cd) (eval (.Name x px) (envOf nm sc L fa cd)) = eval (.Name x px) (envOf nm sc L fa cd) := by rfl) (hline : (ap.endLine == pos.line) = true := by rfl)
    (hk : sc.kind = .function := by rfl) (hloc : (envOf nm sc L fa cd).kindOf x = some .local := by rfl) (hd : (x == ("__debug__" : Str)) = false := by decide)
    (htr0 : pl e = true := by rfl)
    (hi : interactive (envOf nm sc L fa cd) = false := by rfl) (hs : True := trivial) :
    Run (model prog w) A (envOf nm sc L fa cd) Ws (.Expr (.Call (.Attribute (.Name x px) "append" ap) [e] [] pos) ep :: rest) h P X := by
  refine ⟨fun s Q E e' po q x' => ?_⟩; subst e'
  have htr : backTo pos (starEach [e] (envOf nm sc L fa cd)) = [(false, eval e (envOf nm sc L fa cd))] := by rw [pl_star htr0]; rfl
  refine wpAny_execs_cons (wpAny_Expr_any ?_ hi (pl_swaps rfl))
  refine wpAny_Call_append hbase (by rw [htr]; rfl) hline htr ?_
  refine (ev_mutL S hk hloc hd).seq Keep.rfl (fun v h1 i k1 r => ?_) x'
  subst r
  have S1 := S.keep k1
  obtain ⟨m, F, _, hm⟩ := S1.ex
  obtain ⟨_, _, _, items, ⟨n, p⟩, _⟩ := hm _ rfl
  refine ⟨l, items, rfl, ⟨_, n, p, rfl, rfl, rfl⟩, ?_⟩
  refine (ev.up k1).seq (s := { s with heap := h1, toks := i }) Keep.rfl (fun y h2 j k2 r2 => ?_) (fun y h2 j r => x' y h2 j r)
  have S2 := S1.keep k2
  obtain ⟨m2, F2, hr2, hm2⟩ := S2.ex
  obtain ⟨hx2, hg2, hf2, items2, p2, rr2⟩ := hm2 _ rfl
  have hlen : items2.size = ds.length := by have := rr2.len; simpa using this
  refine wpAny_list_append_plain (s := { s with heap := h2, toks := j }) (hsz := by rw [hlen]; have e : sizeLine = 2 ^ 24 := rfl; omega) p2 (fun h3 p3 hsb => ?_)
  have kp := kp_same hsb
  have hlL : l ≠ L := L_ne_list F2 p2
  have wok : ∀ (bs : List Addr), l ∉ bs → ∀ a ∈ [l], Odd a h2 ∨ (a ∉ bs ∧ NoTup a h2) := fun bs hb a ha => by
    rw [List.mem_singleton] at ha; subst ha; exact .inr ⟨hb, noTup_list p2⟩
  have S3 : St g L h3 ρ (some (x, l, ds ++ [d])) := by
    refine ⟨m2, ⟨?_, fun b o e => kp b o (fun hb => ?_) (F2.keep b o e), F2.above⟩, fun y d' e => ?_, fun q e => ?_⟩
    · obtain ⟨o, es, ep, ho, r⟩ := F2.ns
      exact ⟨o, es, ep, kp _ _ (by simpa using hlL.symm) ho, r⟩
    · rw [List.mem_singleton] at hb; subst hb; rw [hg2] at e; cases e
    · obtain ⟨v, as, a, b, c, dd⟩ := hr2 y d' e
      exact ⟨v, as, a, reads_kp kp (wok _ (dd _ rfl)) b, c, fun q e => by cases e; exact dd (x, l, ds) rfl⟩
    · cases e
      refine ⟨hx2, hg2, ?_, _, p3, ?_⟩
      · show flatL (ds ++ [d]) = true
        exact flatL_snoc hf2 hf
      · rw [Array.toList_push]
        have ra : RdL ds items2.toList h3 := rdl_flat_kp kp hf2 (fun a ha => by rw [List.mem_singleton] at ha; subst ha; exact noTup_list p2) rr2
        have rb : Rd d y h3 := by
          obtain ⟨as, z⟩ := r2
          have e := flat_nil hf z
          subst e
          exact ⟨_, reads_kp kp (wok _ List.not_mem_nil) z⟩
        exact ra.append (RdL.cons rb RdL.nil)
  refine (k h3 S3).go _ Q E rfl po (fun fl h4 j4 kp4 p4 => q fl h4 j4 (((Keep.trans k1 k2).kp.trans (kp.mono fun b hb => ?_)).trans kp4) p4) (fun y h2 j r => x' y h2 j r)
  rw [List.mem_singleton] at hb; subst hb; exact .tail _ hl
/-- an if whose two ways meet behind it -/
theorem run_ifJ {test : Expr} {body : List Stmt} {pos : Pos} {b : Bool} (J : Heap → Prop) (S : St g L h ρ μ) (t : Tr (model prog w) A (envOf nm sc L fa cd) h test b X)
    (k1 : b = true → ∀ h', St g L h' ρ μ → Run (model prog w) A (envOf nm sc L fa cd) Ws body h' (fun fl h2 => fl = .next ∧ J h2) X)
    (k2 : b = false → ∀ h', St g L h' ρ μ → J h') (k : ∀ h', J h' → Run (model prog w) A (envOf nm sc L fa cd) Ws rest h' P X) :
    Run (model prog w) A (envOf nm sc L fa cd) Ws (.If test body [] pos :: rest) h P X := by
  refine run_if S t (fun e h' S' => run_mono (k1 e h' S') fun fl h2 q => ?_) (fun e h' S' => run_nil (k h' (k2 e h' S')))
  obtain ⟨rfl, j⟩ := q
  exact k h2 j
/-- a statement by what holds behind it -/
theorem run_cut {st : Stmt} (J : Heap → Prop) (a : Run (model prog w) A (envOf nm sc L fa cd) Ws [st] h (fun fl h2 => fl = .next ∧ J h2) X) (k : ∀ h', J h' → Run (model prog w) A (envOf nm sc L fa cd) Ws rest h' P X) :
    Run (model prog w) A (envOf nm sc L fa cd) Ws (st :: rest) h P X := by
  refine ⟨fun s Q E e po q x => ?_⟩; subst e
  have h1 := a.go s (fun f s' => ∃ h' j, f = .next ∧ s' = { s with heap := h', toks := j } ∧ Kp (L :: Ws) s.heap h' ∧ J h') E rfl po (fun fl h' j kp p => ⟨h', j, p.1, rfl, kp, p.2⟩) x
  have h2 : wpAny (model prog w) A (exec st (envOf nm sc L fa cd)) (fun f s' => ∃ h' j, f = .next ∧ s' = { s with heap := h', toks := j } ∧ Kp (L :: Ws) s.heap h' ∧ J h') E s := by
    intro Γ p hΓ
    have := h1 Γ p hΓ
    rw [execs_cons, Sem.wp_bind'] at this
    refine Sem.wp_mono _ Γ _ (fun f p' s' h' => ?_) (fun _ _ _ h' => h') _ _ this
    cases f <;> exact h'
  refine wpAny_execs_cons (wpAny_mono h2 (fun f s' hq => ?_) fun _ _ y => y)
  obtain ⟨h', j, rfl, rfl, kp, hJ⟩ := hq
  exact (k h' hJ).go _ Q E rfl po (fun fl h2 j2 kp2 p => q fl h2 j2 (kp.trans kp2) p) (fun y h2 j2 r => x y h2 j2 r)
end
end Mine

namespace Mine
open PySem PySem.Spec PySem.Calls PyProof.Rows PySem.W

/-- sizes -/
def Sz (n : Nat) (a : Int) : Prop := -(10 ^ n : Int) < a ∧ a < (10 ^ n : Int)
theorem pow_pos10 (n : Nat) : (0 : Int) < 10 ^ n := Int.pow_pos (by decide)
theorem pow_mono10 {n m : Nat} (h : n ≤ m) : (10 : Int) ^ n ≤ 10 ^ m := by
  have : (10 : Nat) ^ n ≤ 10 ^ m := Nat.pow_le_pow_right (by decide) h
  exact_mod_cast this
theorem Sz.mono {n m : Nat} {a : Int} (h : Sz n a) (hm : n ≤ m) : Sz m a := by
  have := pow_mono10 hm
  obtain ⟨h1, h2⟩ := h
  exact ⟨by omega, by omega⟩
theorem Sz.natAbs {n : Nat} {a : Int} (h : Sz n a) : a.natAbs < 10 ^ n := by
  obtain ⟨h1, h2⟩ := h
  have e : ((10 ^ n : Nat) : Int) = (10 : Int) ^ n := by simp
  omega
theorem Sz.of_natAbs {n : Nat} {a : Int} (h : a.natAbs < 10 ^ n) : Sz n a := by
  have e : ((10 ^ n : Nat) : Int) = (10 : Int) ^ n := by simp
  exact ⟨by omega, by omega⟩
theorem Sz.mul {n m : Nat} {a b : Int} (ha : Sz n a) (hb : Sz m b) : Sz (n + m) (a * b) := by
  refine Sz.of_natAbs ?_
  rw [Int.natAbs_mul, Nat.pow_add]
  exact Nat.mul_lt_mul'' ha.natAbs hb.natAbs
theorem Sz.add {n m : Nat} {a b : Int} (ha : Sz n a) (hb : Sz m b) : Sz (max n m + 1) (a + b) := by
  refine Sz.of_natAbs ?_
  have h1 := (ha.mono (Nat.le_max_left n m)).natAbs
  have h2 := (hb.mono (Nat.le_max_right n m)).natAbs
  have h3 := Int.natAbs_add_le a b
  rw [Nat.pow_succ]; omega
theorem Sz.neg {n : Nat} {a : Int} (ha : Sz n a) : Sz n (-a) := ⟨by have := ha.2; omega, by have := ha.1; omega⟩
theorem Sz.sub {n m : Nat} {a b : Int} (ha : Sz n a) (hb : Sz m b) : Sz (max n m + 1) (a - b) := by rw [Int.sub_eq_add_neg]; exact ha.add hb.neg
theorem Sz.le {n : Nat} {a b : Int} (hb : Sz n b) (h0 : 0 ≤ a) (h : a ≤ b) : Sz n a := ⟨by have := pow_pos10 n; omega, by have := hb.2; omega⟩
theorem Sz.abs {n : Nat} {a : Int} (ha : Sz n a) : Sz n a.natAbs := Sz.of_natAbs (by simpa using ha.natAbs)
theorem intBits_le {n : Nat} {a : Int} (h : Sz n a) (hn : n ≤ 1000) : Builtin.Int.intBits a ≤ 2 ^ 20 := by
  unfold Builtin.Int.intBits
  split
  · exact Nat.zero_le _
  · rename_i h0
    have ha : a.natAbs ≠ 0 := by
      intro e; apply h0; simp; omega
    have h1 := h.natAbs
    have h2 : (10 : Nat) ^ n ≤ 2 ^ (4 * n) := by
      rw [Nat.pow_mul]; exact Nat.pow_le_pow_left (by decide) n
    have h3 : a.natAbs.log2 < 4 * n := (Nat.log2_lt ha).mpr (Nat.lt_of_lt_of_le h1 h2)
    omega
theorem mul_ok {n m : Nat} {a b : Int} (ha : Sz n a) (hb : Sz m b) (hn : n ≤ 1000 := by decide) (hm : m ≤ 1000 := by decide) : IntMulOk a b := IntMulOk.of_bits (intBits_le ha hn) (intBits_le hb hm)
theorem div_ok {n : Nat} {b : Int} (hb : Sz n b) (hn : n ≤ 250 := by decide) : b < 10 ^ 250 := by have := (hb.mono hn).2; exact this

theorem rm_caller {n : Nat} (h : n ≤ 600 := by decide) : Rm callerA n := ⟨rfl, by show 1 + claimMargin + n < recursionLimit; simp only [claimMargin, recursionLimit]; omega, by show 4 + 3 * n + 100 < cLine; simp only [cLine]; omega⟩

theorem law_end {c : Cx} {s₁ : Shared} {fa l : Addr} {d : PyData} {as : List Addr} {cl : Str → Option Addr} {mean : ExcName → Option Value} {args : List WData} {cm : ClaimW} {nm : Str} {n : Nat} (F : FnD c n nm [d] (.bool true)) (T : c.T s₁.heap) (hmg : c.mg nm = some (.ref fa))
    (r0 : Reads s₁.heap (.ref l) d as) (hg : s₁.gens = #[]) (hn : ∀ cls, cm.raises args cls = false) (hp : cm.post args (.bool true) args = true) (hr : n ≤ 600 := by decide) :
    wpAny c.M callerA (call (.ref fa) [.ref l]) (fun v s' => GoodWG cm cl mean args s₁ (.ok (.ret v)) s') (fun e s' => GoodWG cm cl mean args s₁ (.error e) s') s₁ := by
  refine (F.run callerA s₁.heap [.ref l] fa T (rm_caller hr) hmg ⟨_, .cons r0 .nil⟩).go s₁ _ _ Keep.rfl (fun v h' k kk r => ?_) (fun _ _ _ r => r.elim)
  cases rd_bool r.rd
  exact GoodW.toG ⟨.inl ⟨_, .bool true, [], rfl, hn, .bool true, hp, fun _ => ⟨.nil, fun _ ha => nomatch ha⟩⟩, kk, rfl, hg⟩

section
variable {c : Cx} {n : Nat} {A : Around} {nm : Str} {sc : Scope} {L fa : Addr} {cd : Value} {g h : Heap} {ρ : Locs} {μ : Mut} {X : Value → Heap → Prop} {p pos : Pos}
theorem ev_lenl {e : Expr} {ds : List PyData} (S : St g L h ρ μ) (T : c.T g) (B : Bn c) (e1 : Ev c.M A (envOf nm sc L fa cd) h e (Rd (.list ds)) X) (hn : ds.length < 2 ^ 62) (hk : sc.kind = .function := by rfl) (hg : (envOf nm sc L fa cd).kindOf (Str.ofString "len") = some .globalImplicit := by rfl)
    (he : pl e = true := by rfl) : Ev c.M A (envOf nm sc L fa cd) h (.Call (.Name (Str.ofString "len") p) [e] [] pos) (Rd (.int ds.length)) X :=
  ev_bcall (id := "len") S T B (by decide) (by decide +kernel) (evl_cons e1 evl_nil he) (fun vs h' k r => by
    obtain ⟨v, r', rfl, r1, r2⟩ := r.uncons
    cases r2.unnil
    exact op_len hn (.inl r1)) (by decide) hk hg (by decide) he rfl
theorem ev_lent {e : Expr} {ds : List PyData} (S : St g L h ρ μ) (T : c.T g) (B : Bn c) (e1 : Ev c.M A (envOf nm sc L fa cd) h e (Rd (.tuple ds)) X) (hn : ds.length < 2 ^ 62) (hk : sc.kind = .function := by rfl) (hg : (envOf nm sc L fa cd).kindOf (Str.ofString "len") = some .globalImplicit := by rfl)
    (he : pl e = true := by rfl) : Ev c.M A (envOf nm sc L fa cd) h (.Call (.Name (Str.ofString "len") p) [e] [] pos) (Rd (.int ds.length)) X :=
  ev_bcall (id := "len") S T B (by decide) (by decide +kernel) (evl_cons e1 evl_nil he) (fun vs h' k r => by
    obtain ⟨v, r', rfl, r1, r2⟩ := r.uncons
    cases r2.unnil
    exact op_len hn (.inr r1)) (by decide) hk hg (by decide) he rfl
theorem ev_abs {e : Expr} {a : Int} (S : St g L h ρ μ) (T : c.T g) (B : Bn c) (e1 : Ev c.M A (envOf nm sc L fa cd) h e (Rd (.int a)) X) (hk : sc.kind = .function := by rfl) (hg : (envOf nm sc L fa cd).kindOf (Str.ofString "abs") = some .globalImplicit := by rfl)
    (he : pl e = true := by rfl) : Ev c.M A (envOf nm sc L fa cd) h (.Call (.Name (Str.ofString "abs") p) [e] [] pos) (Rd (.int a.natAbs)) X :=
  ev_bcall (id := "abs") S T B (by decide) (by decide +kernel) (evl_cons e1 evl_nil he) (fun vs h' k r => by
    obtain ⟨v, r', rfl, r1, r2⟩ := r.uncons
    cases r2.unnil
    exact op_abs r1) (by decide) hk hg (by decide) he rfl
theorem ev_max {e e' : Expr} {a b : Int} (S : St g L h ρ μ) (T : c.T g) (B : Bn c) (hh : A.handled = none) (e1 : Ev c.M A (envOf nm sc L fa cd) h e (Rd (.int a)) X) (e2 : Ev c.M A (envOf nm sc L fa cd) h e' (Rd (.int b)) X) (hk : sc.kind = .function := by rfl) (hg : (envOf nm sc L fa cd).kindOf (Str.ofString "max") = some .globalImplicit := by rfl)
    (he : pl e = true := by rfl) (he2 : pl e' = true := by rfl) :
    Ev c.M A (envOf nm sc L fa cd) h (.Call (.Name (Str.ofString "max") p) [e, e'] [] pos) (Rd (.int (max a b))) X :=
  ev_bcall (id := "max") S T B (by decide) (by decide +kernel) (evl_cons e1 (evl_cons e2 evl_nil he2) he) (fun vs h' k r => by
    obtain ⟨v, r', rfl, r1, r2⟩ := r.uncons
    obtain ⟨v2, r3, rfl, r4, r5⟩ := r2.uncons
    cases r5.unnil
    exact op_max hh r1 r4) (by decide) hk hg (by decide) he (by simp [he2])
theorem ev_min {e e' : Expr} {a b : Int} (S : St g L h ρ μ) (T : c.T g) (B : Bn c) (hh : A.handled = none) (e1 : Ev c.M A (envOf nm sc L fa cd) h e (Rd (.int a)) X) (e2 : Ev c.M A (envOf nm sc L fa cd) h e' (Rd (.int b)) X) (hk : sc.kind = .function := by rfl) (hg : (envOf nm sc L fa cd).kindOf (Str.ofString "min") = some .globalImplicit := by rfl)
    (he : pl e = true := by rfl) (he2 : pl e' = true := by rfl) :
    Ev c.M A (envOf nm sc L fa cd) h (.Call (.Name (Str.ofString "min") p) [e, e'] [] pos) (Rd (.int (min a b))) X :=
  ev_bcall (id := "min") S T B (by decide) (by decide +kernel) (evl_cons e1 (evl_cons e2 evl_nil he2) he) (fun vs h' k r => by
    obtain ⟨v, r', rfl, r1, r2⟩ := r.uncons
    obtain ⟨v2, r3, rfl, r4, r5⟩ := r2.uncons
    cases r5.unnil
    exact op_min hh r1 r4) (by decide) hk hg (by decide) he (by simp [he2])
end
theorem sz_lit {a : Int} (h : decide (-(10 ^ 10 : Int) < a ∧ a < 10 ^ 10) = true) : Sz 10 a := by have := of_decide_eq_true h; exact this
end Mine

namespace Mine
open PySem PySem.Spec PySem.Calls PyProof.Rows PySem.W
def bnOk (p : Program) (loose : List Str) : Bool := bnames.all fun x => !(startupNames.contains x || loose.contains x || ((recsOf p).map (·.name)).contains x || ((litsOf p).map (·.1)).contains x || ((clssOf p loose).map (·.name)).contains x)
theorem bn_of {prog p : Program} {w : World} {loose : List Str} {mean : ExcName → Option Value} {mg mb : Str → Option Value} {h : Heap} (T : Top p loose mean mg mb h) (hb : bnOk p loose = true) : Bn ⟨prog, w, p, loose, mean, mg, mb⟩ := by
  intro x hx
  have := List.all_eq_true.mp hb x hx
  simp only [Bool.not_eq_true', Bool.or_eq_false_iff] at this
  obtain ⟨⟨⟨⟨h1, h2⟩, h3⟩, h4⟩, h5⟩ := this
  have no : ∀ {l : List Str}, l.contains x = false → x ∉ l := fun e hm => by rw [List.contains_iff_mem.mpr hm] at e; cases e
  exact T.free x (no h1) (no h2) (no h3) (no h4) (no h5)
end Mine

set_option maxHeartbeats 400000
namespace Mine
open PySem PySem.Spec PySem.Calls PyProof.Rows PySem.W PySem.Challenge
/-- the script's cell, and a draw -/
def cell (ns : List Int) (k : Int) : Int := ns.getD k.toNat 0
def wayF (ns : List Int) (k : Int) (m : Int) : Int := (cell ns k * 48271 + 7919 * (ns.length : Int)) % 2147483647 % m
theorem wayF_lo {ns : List Int} {k : Int} {m : Int} (h : 0 < m) : 0 ≤ wayF ns k m := Int.emod_nonneg _ (by omega)
theorem wayF_hi {ns : List Int} {k : Int} {m : Int} (h : 0 < m) : wayF ns k m < m := Int.emod_lt_of_pos _ h
abbrev scr (ns : List Int) : PyData := .list (ns.map PyData.int)
def isInt : PyData → Bool
  | .int _ => true
  | _ => false
def wholeB : PyData → Int → Bool
  | .int a, k => decide (a ≥ k)
  | _, _ => false
local macro_rules | `(tactic| walk_at "sz") => `(tactic| first | with_reducible assumption | assumption | exact sz_lit (by decide) | exact Sz.mul (by walk_at "sz") (by walk_at "sz") | exact Sz.add (by walk_at "sz") (by walk_at "sz") | exact Sz.sub (by walk_at "sz") (by walk_at "sz") | exact Sz.abs (by walk_at "sz") | exact Sz.neg (by walk_at "sz"))
local macro_rules | `(tactic| walk_at "mul") => `(tactic| first | exact IntMulOk.of_left (by decide) | exact IntMulOk.of_right (by decide) | exact mul_ok (by walk_at "sz") (by walk_at "sz"))
local macro_rules | `(tactic| walk_at "pos") => `(tactic| first | assumption | decide | omega)
local macro_rules | `(tactic| walk_at "small") => `(tactic| first | decide | exact div_ok (by walk_at "sz") | omega)
local macro_rules | `(tactic| walk_at "shaped") => `(tactic| first | rfl | decide)
local macro_rules | `(tactic| walk_at "len") => `(tactic| first | decide | (simp only [List.length_cons, List.length_nil]; decide) | (simp; omega) | omega)

/-- gcd facts -/
theorem gcd_step {a b : Int} (_hb : 0 < b) : Int.gcd b (a % b) = Int.gcd a b := by
  rw [Int.emod_def, Int.gcd_sub_mul_left_right, Int.gcd_comm]
theorem gcd_pos {a b : Int} (hb : 1 ≤ b) : (1 : Int) ≤ (Int.gcd a b : Int) := by
  have : 0 < Int.gcd a b := Int.gcd_pos_of_ne_zero_right _ (by omega)
  omega
theorem gcd_le {a b : Int} (hb : 1 ≤ b) : (Int.gcd a b : Int) ≤ b := by
  have h1 : (Int.gcd a b : Int) ∣ b := Int.gcd_dvd_right a b
  exact Int.le_of_dvd (by omega) h1
theorem low_props {a b : Int} (ha : 0 ≤ a) (hb : 1 ≤ b) : 0 ≤ a / (Int.gcd a b : Int) ∧ 1 ≤ b / (Int.gcd a b : Int) ∧ Int.gcd (a / (Int.gcd a b : Int)) (b / (Int.gcd a b : Int)) = 1 ∧ a / (Int.gcd a b : Int) ≤ a ∧ b / (Int.gcd a b : Int) ≤ b ∧
    a / (Int.gcd a b : Int) * (Int.gcd a b : Int) = a ∧ b / (Int.gcd a b : Int) * (Int.gcd a b : Int) = b := by
  have hg := gcd_pos (a := a) hb
  have d1 : (Int.gcd a b : Int) ∣ a := Int.gcd_dvd_left a b
  have d2 : (Int.gcd a b : Int) ∣ b := Int.gcd_dvd_right a b
  have e1 := Int.ediv_mul_cancel d1
  have e2 := Int.ediv_mul_cancel d2
  have p1 : 0 ≤ a / (Int.gcd a b : Int) := Int.ediv_nonneg ha (by omega)
  have p2 : 0 ≤ b / (Int.gcd a b : Int) := Int.ediv_nonneg (by omega) (by omega)
  have p3 : b / (Int.gcd a b : Int) ≠ 0 := by
    intro e; rw [e] at e2; omega
  refine ⟨p1, by omega, ?_, Int.ediv_le_self _ ha, Int.ediv_le_self _ (by omega), e1, e2⟩
  exact Int.gcd_ediv_gcd_ediv_gcd_of_ne_zero_right (by omega)

section
variable {c : Cx} (hc : recsOf c.p = recsOf pw_uf050018_02) (B : Bn c)
include hc

theorem f_cell (B : Bn c) {ns : List Int} {k : Int} (h0 : 0 ≤ k) (h1 : k < 2 ^ 60) (hn : ns.length ≤ 63) : FnD c 1 "_law_cell_at" [scr ns, .int k] (.int (cell ns k)) := by
  have hdef := def_at (f := "_law_cell_at") hc 10 rfl rfl rfl (by kernel_rfl)
  refine fn2 (x1 := "_law_script") (x2 := "_law_k") hdef rf_old (by intros; rfl) (fun A g h L fa cd T rm S => ?_)
  have hl : (ns.map PyData.int).length < 2 ^ 62 := by simp; omega
  refine run_if S (tr_icmp (ev_var S rfl) (ev_lenl S T B (ev_var S rfl) hl) rfl) (fun e h S => ?_) (fun e h S => ?_)
  · have e' : k < ns.length := by simpa using e
    have hx : (ns.map PyData.int)[k.toNat]? = some (.int (cell ns k)) := by
      have : k.toNat < ns.length := by omega
      simp [cell, this]
    exact run_ret (ev_lidx (ev_var S rfl) (ev_var S rfl) hx h0 (by omega)) fun v h' _ r => Rf.of_flat rfl r
  · have e' : ¬ k < ns.length := by simpa using e
    have hx : cell ns k = 0 := by
      have : ns.length ≤ k.toNat := by omega
      simp [cell, List.getElem?_eq_none this]
    rw [hx]
    exact run_nil (run_ret ev_int fun v h' _ r => Rf.of_flat rfl r)

theorem f_way (B : Bn c) {ns : List Int} {k m : Int} (h0 : 0 ≤ k) (h1 : k < 2 ^ 60) (hn : ns.length ≤ 63) (hm : 0 < m) : FnD c 2 "_law_way" [scr ns, .int k, .int m] (.int (wayF ns k m)) := by
  have hdef := def_at (f := "_law_way") hc 11 rfl rfl rfl (by kernel_rfl)
  refine fn3 (x1 := "_law_script") (x2 := "_law_k") (x3 := "_law_many") hdef rf_old (by intros; rfl) (fun A g h L fa cd T rm S => ?_)
  have hl : (ns.map PyData.int).length < 2 ^ 62 := by simp; omega
  have e : wayF ns k m = (cell ns k * 48271 + 7919 * ((ns.map PyData.int).length : Int)) % 2147483647 % m := by simp [wayF]
  rw [e]
  exact run_ret (ev_mod (ev_mod (ev_add (ev_mul (ev_calld S T rm (f_cell hc B h0 h1 hn) (evl_cons (ev_var S rfl) (evl_cons (ev_var S rfl) evl_nil))) ev_int (by walk_at "mul")) (ev_mul ev_int (ev_lenl S T B (ev_var S rfl) hl) (by walk_at "mul"))) ev_int (by decide)) (ev_var S rfl) hm) fun v h' _ r => Rf.of_flat rfl r

theorem f_whole (B : Bn c) {d : PyData} : FnD c 1 "_law_whole" [d] (.bool (isInt d)) := by
  have hdef := def_at (f := "_law_whole") hc 12 rfl rfl rfl (by kernel_rfl)
  refine fn1 (x1 := "_law_found") hdef rf_old (by intros; rfl) (fun A g h L fa cd T rm S => ?_)
  have e : isInt d = (isiB d "int" && !isiB d "bool") := by cases d <;> rfl
  rw [e]
  exact run_ret (ev_bop (bo_and (ev_isi S T B (ev_var S rfl)) fun _ => (bo_last (ev_not (ev_isi S T B (ev_var S rfl)))))) fun v h' _ r => Rf.of_flat rfl r

theorem f_shared {a b : Int} (ha : 0 ≤ a) (hb : 0 ≤ b) : FnD c 1 "_law_shared" [.int a, .int b] (.int (Int.gcd a b)) := by
  have hdef := def_at (f := "_law_shared") hc 13 rfl rfl rfl (by kernel_rfl)
  refine fn2 (x1 := "_law_one") (x2 := "_law_other") hdef rf_old (by intros; rfl) (fun A g h L fa cd T rm S => ?_)
  refine run_while (fun n ρ μ => ∃ a' b' : Int, 0 ≤ a' ∧ 0 ≤ b' ∧ n = b'.toNat ∧ μ = none ∧ ρ = ([("_law_one", .int a'), ("_law_other", .int b')] : Locs) ∧ Int.gcd a' b' = Int.gcd a b) b.toNat S ⟨a, b, ha, hb, rfl, rfl, rfl, rfl⟩ ?_
  rintro n ρ μ h ⟨a', b', ha', hb', rfl, rfl, rfl, hg⟩ S
  refine ⟨_, tr_icmp (ev_var S rfl) ev_int rfl, fun e h' S => ?_, fun e h' S => ?_⟩
  · have hpos : 0 < b' := by simpa using e
    refine run_swap2 rm.hd S (evl_cons (ev_var S rfl) (evl_cons (ev_mod (ev_var S rfl) (ev_var S rfl) hpos) evl_nil)) fun h' S => ?_
    refine run_nil ⟨_, _, _, ?_, ⟨b', a' % b', by omega, Int.emod_nonneg _ (by omega), rfl, rfl, rfl, ?_⟩, S.pick ⟨rfl, rfl, trivial⟩⟩
    · have := Int.emod_lt_of_pos a' hpos
      omega
    · rw [← hg]; exact gcd_step hpos
  · have h0 : b' = 0 := by
      have : ¬ (b' > 0) := by simpa using e
      omega
    subst h0
    refine run_ret (ev_var S rfl) fun v h' k r => Rf.of_flat rfl ?_
    have : (a' : Int) = (Int.gcd a b : Int) := by rw [← hg]; simp; omega
    rw [← this]; exact r

theorem f_frac {a b : Int} (ha : 0 ≤ a) (hb : 1 ≤ b) {n : Nat} (sb : Sz n b) (hn : n ≤ 250) : FnD c 2 "_law_frac" [.int a, .int b] (.tuple [.int (a / (Int.gcd a b : Int)), .int (b / (Int.gcd a b : Int))]) := by
  have hdef := def_at (f := "_law_frac") hc 14 rfl rfl rfl (by kernel_rfl)
  refine fn2 (x1 := "_law_upper") (x2 := "_law_lower") hdef rf_old (by intros; rfl) (fun A g h L fa cd T rm S => ?_)
  refine run_set S (ev_calld S T rm (f_shared hc ha (by omega)) (evl_cons (ev_var S rfl) (evl_cons (ev_var S rfl) evl_nil))) fun h S => ?_
  have hg := gcd_pos (a := a) hb
  have hg2 : (Int.gcd a b : Int) < 10 ^ 250 := div_ok (sb.le (by omega) (gcd_le hb)) hn
  exact run_ret (ev_tup (evl_cons (ev_div (ev_var S rfl) (ev_var S rfl) (by omega) hg2) (evl_cons (ev_div (ev_var S rfl) (ev_var S rfl) (by omega) hg2) evl_nil))) fun v h' _ r => Rf.of_flat rfl r

omit hc in
theorem ge_of {a : Int} (e : decide (a ≥ 0) = true) : 0 ≤ a := by simpa using e
omit hc in
theorem ge_of1 {a : Int} (e : decide (a ≥ 1) = true) : 0 ≤ a := by have h : a ≥ 1 := of_decide_eq_true e; omega
/-- is a pair of ints a fraction in lowest terms? -/
def fracB (a b : Int) : Bool := decide (a ≥ 0) && (decide (b ≥ 1) && ((Int.gcd a b : Int) == 1))
theorem f_is_frac (B : Bn c) {a b : Int} : FnD c 2 "_law_is_frac" [.tuple [.int a, .int b]] (.bool (fracB a b)) := by
  have hdef := def_at (f := "_law_is_frac") hc 15 rfl rfl rfl (by kernel_rfl)
  refine fn1 (x1 := "_law_found") hdef rf_old (by intros; rfl) (fun A g h L fa cd T rm S => ?_)
  refine run_if S (tr_bool (all_or (tr_not (tr_val (ev_isi S T B (ev_var S rfl)))) fun _ => (all_or (tr_icmp (ev_lent S T B (ev_var S rfl) (by walk_at "len")) ev_int rfl) fun _ => all_or_nil))) (fun e h S => by simp [isiB] at e) (fun e h S => run_nil ?_)
  refine run_if S (tr_bool (all_or (tr_not (tr_val (ev_calld S T rm (f_whole hc B) (evl_cons (ev_tidx (ev_var S rfl) ev_int) evl_nil)))) fun _ => (all_or (tr_not (tr_val (ev_calld S T rm (f_whole hc B) (evl_cons (ev_tidx (ev_var S rfl) ev_int) evl_nil)))) fun _ => all_or_nil))) (fun e h S => by simp [isInt] at e) (fun e h S => run_nil ?_)
  refine run_ret (ev_bop (bo_and (ev_icmp (ev_tidx (ev_var S rfl) ev_int) ev_int rfl) fun e1 => bo_and (ev_icmp (ev_tidx (ev_var S rfl) ev_int) ev_int rfl) fun e2 => bo_last (ev_icmp (ev_calld S T rm (f_shared hc (ge_of e1) (ge_of1 e2)) (evl_cons (ev_tidx (ev_var S rfl) ev_int) (evl_cons (ev_tidx (ev_var S rfl) ev_int) evl_nil))) ev_int rfl))) fun v h' _ r => Rf.of_flat rfl r
omit hc in
theorem fracB_true {a b : Int} (ha : 0 ≤ a) (hb : 1 ≤ b) (hg : Int.gcd a b = 1) : fracB a b = true := by simp [fracB, ha, hb, hg]

theorem f_is_whole (B : Bn c) {d : PyData} {k : Int} : FnD c 1 "is_whole" [d, .int k] (.bool (wholeB d k)) := by
  have hdef := def_at (f := "is_whole") hc 4 rfl rfl rfl (by kernel_rfl)
  refine fn2 (x1 := "thing") (x2 := "least") hdef rf_old (by intros; rfl) (fun A g h L fa cd T rm S => ?_)
  cases d with
  | int a => exact run_ret (ev_bop (bo_and (ev_isi S T B (ev_var S rfl)) fun _ => bo_and (ev_not (ev_isi S T B (ev_var S rfl))) fun _ => bo_last (ev_icmp (ev_var S rfl) (ev_var S rfl) rfl))) fun v h' _ r => Rf.of_flat rfl r
  | bool b => exact run_ret (ev_bop (bo_and (ev_isi S T B (ev_var S rfl)) fun _ => bo_and (b := false) (ev_not (ev_isi S T B (ev_var S rfl))) fun e' => absurd e' (by simp [isiB]))) fun v h' _ r => Rf.of_flat rfl r
  | none => exact run_ret (ev_bop (bo_and (b := false) (ev_isi S T B (ev_var S rfl)) fun e => absurd e (by simp [isiB]))) fun v h' _ r => Rf.of_flat rfl r
  | str x => exact run_ret (ev_bop (bo_and (b := false) (ev_isi S T B (ev_var S rfl)) fun e => absurd e (by simp [isiB]))) fun v h' _ r => Rf.of_flat rfl r
  | list x => exact run_ret (ev_bop (bo_and (b := false) (ev_isi S T B (ev_var S rfl)) fun e => absurd e (by simp [isiB]))) fun v h' _ r => Rf.of_flat rfl r
  | tuple x => exact run_ret (ev_bop (bo_and (b := false) (ev_isi S T B (ev_var S rfl)) fun e => absurd e (by simp [isiB]))) fun v h' _ r => Rf.of_flat rfl r
  | dict x => exact run_ret (ev_bop (bo_and (b := false) (ev_isi S T B (ev_var S rfl)) fun e => absurd e (by simp [isiB]))) fun v h' _ r => Rf.of_flat rfl r

theorem f_divisor {a b : Int} (ha : 0 ≤ a) (hb : 0 ≤ b) : FnD c 1 "divisor" [.int a, .int b] (.int (Int.gcd a b)) := by
  have hdef := def_at (f := "divisor") hc 5 rfl rfl rfl (by kernel_rfl)
  refine fn2 (x1 := "one") (x2 := "other") hdef rf_old (by intros; rfl) (fun A g h L fa cd T rm S => ?_)
  refine run_while (fun n ρ μ => ∃ a' b' : Int, 0 ≤ a' ∧ 0 ≤ b' ∧ n = b'.toNat ∧ μ = none ∧ ρ = ([("one", .int a'), ("other", .int b')] : Locs) ∧ Int.gcd a' b' = Int.gcd a b) b.toNat S ⟨a, b, ha, hb, rfl, rfl, rfl, rfl⟩ ?_
  rintro n ρ μ h ⟨a', b', ha', hb', rfl, rfl, rfl, hg⟩ S
  refine ⟨_, tr_icmp (ev_var S rfl) ev_int rfl, fun e h' S => ?_, fun e h' S => ?_⟩
  · have hpos : 0 < b' := by simpa using e
    refine run_set S (ev_mod (ev_var S rfl) (ev_var S rfl) hpos) fun h' S => ?_
    refine run_set S (ev_var S rfl) fun h' S => ?_
    refine run_set S (ev_var S rfl) fun h' S => ?_
    refine run_nil ⟨_, _, _, ?_, ⟨b', a' % b', by omega, Int.emod_nonneg _ (by omega), rfl, rfl, rfl, ?_⟩, S.pick ⟨rfl, rfl, trivial⟩⟩
    · have := Int.emod_lt_of_pos a' hpos
      omega
    · rw [← hg]; exact gcd_step hpos
  · have h0 : b' = 0 := by
      have : ¬ (b' > 0) := by simpa using e
      omega
    subst h0
    refine run_ret (ev_var S rfl) fun v h' k r => Rf.of_flat rfl ?_
    have : (a' : Int) = (Int.gcd a b : Int) := by rw [← hg]; simp; omega
    rw [← this]; exact r

theorem f_lowest (B : Bn c) {a b : Int} (ha : 0 ≤ a) (hb : 1 ≤ b) {n : Nat} (sb : Sz n b) (hn : n ≤ 250) : FnD c 2 "lowest" [.int a, .int b] (.tuple [.int (a / (Int.gcd a b : Int)), .int (b / (Int.gcd a b : Int))]) := by
  have hdef := def_at (f := "lowest") hc 6 rfl rfl rfl (by kernel_rfl)
  refine fn2 (x1 := "upper") (x2 := "lower") hdef rf_old (by intros; rfl) (fun A g h L fa cd T rm S => ?_)
  refine run_if S (tr_bool (all_or (tr_not (tr_val (ev_calld S T rm (f_is_whole hc B) (evl_cons (ev_var S rfl) (evl_cons ev_int evl_nil))))) fun _ => (all_or (tr_not (tr_val (ev_calld S T rm (f_is_whole hc B) (evl_cons (ev_var S rfl) (evl_cons ev_int evl_nil))))) fun _ => all_or_nil))) (fun e h S => by simp [wholeB, ha, hb] at e) (fun e h S => run_nil ?_)
  refine run_set S (ev_calld S T rm (f_divisor hc ha (by omega)) (evl_cons (ev_var S rfl) (evl_cons (ev_var S rfl) evl_nil))) fun h S => ?_
  have hg := gcd_pos (a := a) hb
  have hg2 : (Int.gcd a b : Int) < 10 ^ 250 := div_ok (sb.le (by omega) (gcd_le hb)) hn
  exact run_ret (ev_tup (evl_cons (ev_div (ev_var S rfl) (ev_var S rfl) (by omega) hg2) (evl_cons (ev_div (ev_var S rfl) (ev_var S rfl) (by omega) hg2) evl_nil))) fun v h' _ r => Rf.of_flat rfl r

theorem f_number {cl wv : Int} (h0 : 0 ≤ wv) (h1 : wv < 4) : ∃ u : Int, FnD c 1 "_law_number" [.int cl, .int wv] (.int u) ∧ 0 ≤ u ∧ Sz 58 u := by
  have key : ∃ m : Int, ([PyData.int 30, .int 1000, .int (10 ^ (6 : Int).toNat), .int (10 ^ (58 : Int).toNat)] : List PyData)[wv.toNat]? = some (.int m) ∧ 0 < m ∧ m ≤ 10 ^ 58 := by
    have : wv = 0 ∨ wv = 1 ∨ wv = 2 ∨ wv = 3 := by omega
    rcases this with rfl | rfl | rfl | rfl
    · exact ⟨30, rfl, by decide +kernel, by decide +kernel⟩
    · exact ⟨1000, rfl, by decide +kernel, by decide +kernel⟩
    · exact ⟨10 ^ 6, rfl, by decide +kernel, by decide +kernel⟩
    · exact ⟨10 ^ 58, rfl, by decide +kernel, by decide +kernel⟩
  obtain ⟨m, hm, hp, hs⟩ := key
  have e1 := Int.emod_nonneg cl (b := m) (by omega)
  have e2 := Int.emod_lt_of_pos cl hp
  refine ⟨cl % m, ?_, e1, ⟨?_, ?_⟩⟩
  · have hdef := def_at (f := "_law_number") hc 16 rfl rfl rfl (by kernel_rfl)
    refine fn2 (x1 := "_law_cell") (x2 := "_law_way_here") hdef rf_old (by intros; rfl) (fun A g h L fa cd T rm S => ?_)
    exact run_ret (ev_mod (ev_var S rfl) (ev_lidx ((ev_list (evl_cons ev_int (evl_cons ev_int (evl_cons (ev_pow ev_int ev_int (by decide) (by decide) (by decide)) (evl_cons (ev_pow ev_int ev_int (by decide) (by decide) (by decide)) evl_nil))))).mono fun _ _ _ r => r.rd) (ev_var S rfl) hm h0 (by omega)) hp) fun v h' _ r => Rf.of_flat rfl r
  · have := pow_pos10 58; omega
  · exact Int.lt_of_lt_of_le e2 hs

/-- a fraction: its two parts in order -/
structure Fr2 (n : Nat) (a b : Int) : Prop where
  lo : 0 ≤ a
  up : 1 ≤ b
  co : Int.gcd a b = 1
  sa : Sz n a
  sb : Sz n b
theorem f_frac_ex {a b : Int} (ha : 0 ≤ a) (hb : 1 ≤ b) {n : Nat} (sa : Sz n a) (sb : Sz n b) (hn : n ≤ 250) : ∃ a' b' : Int, FnD c 2 "_law_frac" [.int a, .int b] (.tuple [.int a', .int b']) ∧ Fr2 n a' b' ∧ a' * b = a * b' := by
  obtain ⟨p1, p2, p3, p4, p5, p6, p7⟩ := low_props ha hb
  refine ⟨_, _, f_frac hc ha hb sb hn, ⟨p1, p2, p3, sa.le p1 p4, sb.le (by omega) p5⟩, ?_⟩
  generalize ha' : a / (Int.gcd a b : Int) = a' at *
  generalize hb' : b / (Int.gcd a b : Int) = b' at *
  generalize (Int.gcd a b : Int) = g at *
  rw [← p7, ← p6]; grind

theorem f_drawn (B : Bn c) {ns : List Int} {k wv : Int} (hn : ns.length ≤ 63) (h0 : 0 ≤ k) (h1 : k < 1000) (hw : 0 ≤ wv) : ∃ a b : Int, FnD c 3 "_law_drawn" [scr ns, .int k, .int wv] (.tuple [.int a, .int b]) ∧ Fr2 59 a b := by
  obtain ⟨u, fu, hu, su⟩ := f_number hc (cl := cell ns k) (wv := wv % 4) (by omega) (by omega)
  obtain ⟨l, fl, hl, sl⟩ := f_number hc (cl := cell ns (k + 1)) (wv := wv / 4 % 4) (by omega) (by omega)
  have s1 : Sz 59 (1 + l) := (sz_lit (a := 1) (by decide)).mono (by decide : 10 ≤ 58) |>.add sl
  obtain ⟨a, b, fab, hf, _⟩ := f_frac_ex hc hu (b := 1 + l) (by omega) (su.mono (by decide)) s1 (by decide)
  refine ⟨a, b, ?_, hf⟩
  have hdef := def_at (f := "_law_drawn") hc 17 rfl rfl rfl (by kernel_rfl)
  refine fn3 (x1 := "_law_script") (x2 := "_law_first") (x3 := "_law_way_here") hdef rf_old (by intros; rfl) (fun A g h L fa cd T rm S => ?_)
  refine run_set S (ev_calld S T rm (fu) (evl_cons (ev_calld S T rm (f_cell hc B h0 (by omega) hn) (evl_cons (ev_var S rfl) (evl_cons (ev_var S rfl) evl_nil))) (evl_cons (ev_mod (ev_var S rfl) ev_int (by walk_at "pos")) evl_nil))) fun h S => ?_
  refine run_set S (ev_add ev_int (ev_calld S T rm (fl) (evl_cons (ev_calld S T rm (f_cell hc B (by omega) (by omega) hn) (evl_cons (ev_var S rfl) (evl_cons (ev_add (ev_var S rfl) ev_int) evl_nil))) (evl_cons (ev_mod (ev_div (ev_var S rfl) ev_int (by walk_at "pos") (by walk_at "small")) ev_int (by walk_at "pos")) evl_nil)))) fun h S => ?_
  exact run_ret (ev_calld S T rm (fab) (evl_cons (ev_var S rfl) (evl_cons (ev_var S rfl) evl_nil))) fun v h' _ r => Rf.of_flat rfl r

theorem f_less {a b a' b' : Int} {n : Nat} (s1 : Sz n a) (s2 : Sz n b) (s3 : Sz n a') (s4 : Sz n b') (hn : n ≤ 1000) : FnD c 1 "less" [.tuple [.int a, .int b], .tuple [.int a', .int b']] (.bool (decide (a * b' < a' * b))) := by
  have hdef := def_at (f := "less") hc 7 rfl rfl rfl (by kernel_rfl)
  refine fn2 (x1 := "one") (x2 := "other") hdef rf_old (by intros; rfl) (fun A g h L fa cd T rm S => ?_)
  exact run_ret (ev_icmp (ev_mul (ev_tidx (ev_var S rfl) ev_int) (ev_tidx (ev_var S rfl) ev_int) (mul_ok s1 s4 hn hn)) (ev_mul (ev_tidx (ev_var S rfl) ev_int) (ev_tidx (ev_var S rfl) ev_int) (mul_ok s3 s2 hn hn)) rfl) fun v h' _ r => Rf.of_flat rfl r

theorem f_apart (B : Bn c) {a b a' b' : Int} {n : Nat} (f1 : Fr2 n a b) (f2 : Fr2 n a' b') (hn : n ≤ 120) : ∃ x y : Int, FnD c 3 "apart" [.tuple [.int a, .int b], .tuple [.int a', .int b']] (.tuple [.int x, .int y]) ∧ Fr2 (n + n + 1) x y ∧ x * (b * b') = ((a * b' - a' * b).natAbs : Int) * y := by
  have hbb : 1 ≤ b * b' := by
    have h1 := f1.up; have h2 := f2.up
    have := Int.mul_le_mul h1 h2 (by omega) (by omega)
    omega
  have sg : Sz (n + n + 1) ((a * b' - a' * b).natAbs : Int) := ((f1.sa.mul f2.sb).sub (f2.sa.mul f1.sb)).abs.mono (by omega)
  have sl : Sz (n + n + 1) (b * b') := (f1.sb.mul f2.sb).mono (by omega)
  have hlow := f_lowest hc B (a := ((a * b' - a' * b).natAbs : Int)) (b := b * b') (by omega) hbb sl (by omega)
  obtain ⟨p1, p2, p3, p4, p5, p6, p7⟩ := low_props (a := ((a * b' - a' * b).natAbs : Int)) (b := b * b') (by omega) hbb
  refine ⟨_, _, ?_, ⟨p1, p2, p3, sg.le p1 p4, sl.le (by omega) p5⟩, ?_⟩
  · have hdef := def_at (f := "apart") hc 8 rfl rfl rfl (by kernel_rfl)
    refine fn2 (x1 := "one") (x2 := "other") hdef rf_old (by intros; rfl) (fun A g h L fa cd T rm S => ?_)
    refine run_set S (ev_abs S T B (ev_sub (ev_mul (ev_tidx (ev_var S rfl) ev_int) (ev_tidx (ev_var S rfl) ev_int) (mul_ok f1.sa f2.sb (by omega) (by omega))) (ev_mul (ev_tidx (ev_var S rfl) ev_int) (ev_tidx (ev_var S rfl) ev_int) (mul_ok f2.sa f1.sb (by omega) (by omega))))) fun h S => ?_
    exact run_ret (ev_calld S T rm hlow (evl_cons (ev_var S rfl) (evl_cons (ev_mul (ev_tidx (ev_var S rfl) ev_int) (ev_tidx (ev_var S rfl) ev_int) (mul_ok f1.sb f2.sb (by omega) (by omega))) evl_nil))) fun v h' _ r => Rf.of_flat rfl r
  · generalize ((a * b' - a' * b).natAbs : Int) = G at *
    generalize b * b' = D at *
    generalize G / (Int.gcd G D : Int) = x at *
    generalize D / (Int.gcd G D : Int) = y at *
    generalize (Int.gcd G D : Int) = q at *
    rw [← p7, ← p6]; grind

omit hc in
theorem Fr2.mono {n m : Nat} {a b : Int} (f : Fr2 n a b) (h : n ≤ m) : Fr2 m a b := ⟨f.lo, f.up, f.co, f.sa.mono h, f.sb.mono h⟩
omit hc in
theorem less_t1 (x y : Int) : ((decide (x - y < 0) && (!isP (.bool (decide (x < y))) (.bool true) && true)) || ((decide (x - y ≥ 0) && (!isP (.bool (decide (x < y))) (.bool false) && true)) || false)) = false := by
  by_cases h : x < y
  · have h1 : ¬ (0 ≤ x - y) := by omega
    simp [isP, h, h1]
  · have h1 : ¬ (x - y < 0) := by omega
    simp [isP, h, h1]
omit hc in
theorem less_t2 (x y : Int) : ((decide (x - y > 0) && (!isP (.bool (decide (y < x))) (.bool true) && true)) || ((decide (x - y ≤ 0) && (!isP (.bool (decide (y < x))) (.bool false) && true)) || false)) = false := by
  by_cases h : y < x
  · have h1 : ¬ (x - y ≤ 0) := by omega
    simp [isP, h, h1]
  · have h1 : ¬ (0 < x - y) := by omega
    simp [isP, h, h1]

theorem f_gap (B : Bn c) {x y a b a' b' G : Int} {n m : Nat} (f : Fr2 m x y) (s1 : Sz n b) (s2 : Sz n b') (s3 : Sz m G) (hn : n ≤ 120) (hm : m ≤ 300) (e : x * (b * b') = G * y) :
    FnD c 3 "_law_gap" [.tuple [.int x, .int y], .tuple [.int a, .int b], .tuple [.int a', .int b'], .int G] (.bool true) := by
  have hdef := def_at (f := "_law_gap") hc 18 rfl rfl rfl (by kernel_rfl)
  refine fn4 (x1 := "_law_found") (x2 := "_law_one") (x3 := "_law_other") (x4 := "_law_due") hdef rf_old (by intros; rfl) (fun A g h L fa cd T rm S => ?_)
  refine run_ret (ev_bop (bo_and (ev_calld S T rm (f_is_frac hc B) (evl_cons (ev_var S rfl) evl_nil)) fun _ => bo_last (ev_icmp (ev_mul (ev_mul (ev_tidx (ev_var S rfl) ev_int) (ev_tidx (ev_var S rfl) ev_int) (mul_ok f.sa s1 (by omega) (by omega))) (ev_tidx (ev_var S rfl) ev_int) (mul_ok (f.sa.mul s1) s2 (by omega) (by omega)))
    (ev_mul (ev_var S rfl) (ev_tidx (ev_var S rfl) ev_int) (mul_ok s3 f.sb (by omega) (by omega))) rfl))) fun v h' _ r => Rf.of_flat rfl ?_
  have e1 : (fracB x y && (x * b * b' == G * y)) = true := by
    rw [fracB_true f.lo f.up f.co, Int.mul_assoc, e]; simp
  rw [e1] at r; exact r

theorem f_law (B : Bn c) {ns : List Int} (hn : ns.length ≤ 63) : FnD c 6 "law" [scr ns] (.bool true) := by
  have hdef := def_at (f := "law") hc 19 rfl rfl rfl (by kernel_rfl)
  refine fn1 (x1 := "_law_script") hdef rf_old (by intros; rfl) (fun A g h L fa cd T rm S => ?_)
  have w0 := wayF_lo (ns := ns) (k := 0) (m := 64) (by decide)
  have w6 := wayF_lo (ns := ns) (k := 6) (m := 16) (by decide)
  obtain ⟨a, b, fone, hone⟩ := f_drawn hc B (ns := ns) (k := 1) (wv := wayF ns 0 64) hn (by decide) (by decide) w0
  obtain ⟨a2, b2, ftwo, htwo⟩ := f_drawn hc B (ns := ns) (k := 3) (wv := wayF ns 6 16) hn (by decide) (by decide) w6
  have hone' : Fr2 100 a b := hone.mono (by decide)
  refine run_set S (ev_calld S T rm (f_way hc B (by decide) (by decide) hn (by decide)) (evl_cons (ev_var S rfl) (evl_cons ev_int (evl_cons ev_int evl_nil)))) fun h S => ?_
  refine run_set S (ev_calld S T rm (fone) (evl_cons (ev_var S rfl) (evl_cons ev_int (evl_cons (ev_var S rfl) evl_nil)))) fun h S => ?_
  refine run_set S (ev_calld S T rm (ftwo) (evl_cons (ev_var S rfl) (evl_cons ev_int (evl_cons (ev_calld S T rm (f_way hc B (by decide) (by decide) hn (by decide)) (evl_cons (ev_var S rfl) (evl_cons ev_int (evl_cons ev_int evl_nil)))) evl_nil)))) fun h S => ?_
  refine run_ifJ (fun h => ∃ a' b' : Int, Fr2 100 a' b' ∧ St g L h [("_law_script", scr ns), ("_law_way_here", .int (wayF ns 0 64)), ("_law_one", .tuple [.int a, .int b]), ("_law_other", .tuple [.int a', .int b'])] none) S (tr_icmp (ev_div (ev_var S rfl) ev_int (by walk_at "pos") (by walk_at "small")) ev_int rfl)
    (fun e h S => run_set S (ev_var S rfl) fun h S => run_nil ⟨rfl, a, b, hone', S.pick ⟨rfl, rfl, rfl, rfl, trivial⟩⟩) (fun e h S => ⟨a2, b2, htwo.mono (by decide), S.pick ⟨rfl, rfl, rfl, rfl, trivial⟩⟩) ?_
  rintro h ⟨a', b', hf', S⟩
  refine run_ifJ (fun h => ∃ a' b' : Int, Fr2 100 a' b' ∧ St g L h [("_law_script", scr ns), ("_law_way_here", .int (wayF ns 0 64)), ("_law_one", .tuple [.int a, .int b]), ("_law_other", .tuple [.int a', .int b'])] none) S (tr_icmp (ev_div (ev_var S rfl) ev_int (by walk_at "pos") (by walk_at "small")) ev_int rfl)
    (fun e h S => ?_) (fun e h S => ⟨a', b', hf', S⟩) ?_
  · refine run_set S (ev_add ev_int (ev_mod (ev_calld S T rm (f_cell hc B (by decide) (by decide) hn) (evl_cons (ev_var S rfl) (evl_cons ev_int evl_nil))) ev_int (by walk_at "pos"))) fun h S => ?_
    generalize hm : 1 + cell ns 5 % 50 = m at S
    have m1 : 1 ≤ m := by have := Int.emod_nonneg (cell ns 5) (b := 50) (by decide); omega
    have m2 : m ≤ 50 := by have := Int.emod_lt_of_pos (cell ns 5) (b := 50) (by decide); omega
    have sm : Sz 10 m := ⟨by omega, by omega⟩
    have p1 : 0 ≤ a * m + 1 := by have := Int.mul_nonneg hone.lo (show (0 : Int) ≤ m by omega); omega
    have p2 : 1 ≤ b * m := by
      have := Int.mul_le_mul hone.up m1 (by omega) (by have := hone.up; omega)
      omega
    obtain ⟨a3, b3, ff, hf3, _⟩ := f_frac_ex hc p1 p2 (n := 100) (((hone.sa.mul sm).add (sz_lit (a := 1) (by decide))).mono (by decide)) ((hone.sb.mul sm).mono (by decide)) (by decide)
    have sa := hone.sa
    have sb := hone.sb
    exact run_set S (ev_calld S T rm (ff) (evl_cons (ev_add (ev_mul (ev_tidx (ev_var S rfl) ev_int) (ev_var S rfl) (by walk_at "mul")) ev_int) (evl_cons (ev_mul (ev_tidx (ev_var S rfl) ev_int) (ev_var S rfl) (by walk_at "mul")) evl_nil))) fun h S => run_nil ⟨rfl, a3, b3, hf3, S.pick ⟨rfl, rfl, rfl, rfl, trivial⟩⟩
  · rintro h ⟨a', b', hf', S⟩
    have sa := hone'.sa
    have sb := hone'.sb
    have sa' := hf'.sa
    have sb' := hf'.sb
    refine run_set S (ev_sub (ev_mul (ev_tidx (ev_var S rfl) ev_int) (ev_tidx (ev_var S rfl) ev_int) (by walk_at "mul")) (ev_mul (ev_tidx (ev_var S rfl) ev_int) (ev_tidx (ev_var S rfl) ev_int) (by walk_at "mul"))) fun h S => ?_
    refine run_if S (tr_bool (all_or (tr_bool (all_and (tr_icmp (ev_var S rfl) ev_int rfl) fun _ => (all_and (tr_isnot (ev_calld S T rm (f_less hc sa sb sa' sb' (by decide)) (evl_cons (ev_var S rfl) (evl_cons (ev_var S rfl) evl_nil))) ev_bool rfl) fun _ => all_and_nil))) fun _ => (all_or (tr_bool (all_and (tr_icmp (ev_var S rfl) ev_int rfl) fun _ => (all_and (tr_isnot (ev_calld S T rm (f_less hc sa sb sa' sb' (by decide)) (evl_cons (ev_var S rfl) (evl_cons (ev_var S rfl) evl_nil))) ev_bool rfl) fun _ => all_and_nil))) fun _ => all_or_nil))) (fun e h S => by rw [less_t1] at e; cases e) (fun e h S => run_nil ?_)
    refine run_if S (tr_bool (all_or (tr_bool (all_and (tr_icmp (ev_var S rfl) ev_int rfl) fun _ => (all_and (tr_isnot (ev_calld S T rm (f_less hc sa' sb' sa sb (by decide)) (evl_cons (ev_var S rfl) (evl_cons (ev_var S rfl) evl_nil))) ev_bool rfl) fun _ => all_and_nil))) fun _ => (all_or (tr_bool (all_and (tr_icmp (ev_var S rfl) ev_int rfl) fun _ => (all_and (tr_isnot (ev_calld S T rm (f_less hc sa' sb' sa sb (by decide)) (evl_cons (ev_var S rfl) (evl_cons (ev_var S rfl) evl_nil))) ev_bool rfl) fun _ => all_and_nil))) fun _ => all_or_nil))) (fun e h S => by rw [less_t2] at e; cases e) (fun e h S => run_nil ?_)
    obtain ⟨x1, y1, fx1, hx1, ex1⟩ := f_apart hc B hone' hf' (by decide)
    obtain ⟨x2, y2, fx2, hx2, ex2⟩ := f_apart hc B hf' hone' (by decide)
    have sG : Sz (100 + 100 + 1) ((a * b' - a' * b).natAbs : Int) := ((sa.mul sb').sub (sa'.mul sb)).abs
    have ex2' : x2 * (b * b') = ((a * b' - a' * b).natAbs : Int) * y2 := by
      have e1 : (a * b' - a' * b).natAbs = (a' * b - a * b').natAbs := by omega
      rw [e1, Int.mul_comm b b']; exact ex2
    exact run_ret (ev_bop (bo_and (ev_calld S T rm (f_gap hc B hx1 sb sb' sG (by decide) (by decide) ex1) (evl_cons (ev_calld S T rm (fx1) (evl_cons (ev_var S rfl) (evl_cons (ev_var S rfl) evl_nil))) (evl_cons (ev_var S rfl) (evl_cons (ev_var S rfl) (evl_cons (ev_abs S T B (ev_var S rfl)) evl_nil))))) fun _ => (bo_last (ev_calld S T rm (f_gap hc B hx2 sb sb' sG (by decide) (by decide) ex2') (evl_cons (ev_calld S T rm (fx2) (evl_cons (ev_var S rfl) (evl_cons (ev_var S rfl) evl_nil))) (evl_cons (ev_var S rfl) (evl_cons (ev_var S rfl) (evl_cons (ev_abs S T B (ev_var S rfl)) evl_nil)))))))) fun v h' _ r => Rf.of_flat rfl r
end
end Mine

open PySem PySem.W PyProof.Rows
set_option maxHeartbeats 8000000 in
theorem PySem.Challenge.cw_uf050018_02_holds : PySem.Challenge.rw_uf050018_02.Holds := by
  w_on
  o_law
  o_head Hook.none
  (case hw => w_witness2)
  intro w s₀ s₁ mg mb G Y fa o pm cd doc dV kV ho hd hcd hD hmg hg args vals as hpre hlay hrd hwl hlo
  have T := G.T
  wrow_args hpre hlay hrd hwl hlo
  rename_i ns _ _ _ _ _ _ _ _ _ _ _ _ _ r0 _ _ hcond _
  have hn : ns.length ≤ 63 := by omega
  have hB : Mine.Bn ⟨PySem.Challenge.rw_uf050018_02.row.prog, w, _, _, _, mg, mb⟩ := Mine.bn_of T (by kernel_rfl)
  exact Mine.law_end (c := ⟨PySem.Challenge.rw_uf050018_02.row.prog, w, _, _, _, mg, mb⟩) (Mine.f_law (by kernel_rfl) hB hn) T hmg r0 hg (raisesW_false (fun _ h => nomatch h)) (postW_of rfl rfl (by first | rfl | decide | simp [same] | w_fin))
