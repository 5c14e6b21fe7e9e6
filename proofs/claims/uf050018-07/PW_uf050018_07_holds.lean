import PyProof.Rows.All
import Wide.All
import OpenK.KLine
import Wide.FinOn
import PyProof.Rows.Top
import PyProof.Rows.RowHeap
import PyProof.Rows.Tup
import PyProof.Rows.TupSub
import PyProof.Rows.IntRules
import PyProof.Rows.Nodes
import PyProof.Rows.OwnEval
import PyProof.Rows.CatchSeen
import PyProof.FitsBits
import PyProof.NoPylong
import PyProof.PureInt
import PyProof.StrOps
import PyProof.PlainList
import PyProof.Rules3
import PyProof.TupleIter
import PyProof.IsRules
import PyProof.PassesOwn
import PyProof.ForRange
import PyProof.IsiPairs
import PyProof.IsiSeqPairs
import PyProof.IsiNone
import PyProof.WalkInts
import PyProof.Rows.Exc
import PyProof.Rows.RuleN_abs
import PyProof.Rows.StrTemp
import PyProof.Rows.RuleB_floordiv
import PyProof.Rows.RuleB_small
import PyProof.Rows.SeqMore
import PyProof.Rows.StrRules
import PyProof.Rows.EqDataRows
import PyProof.Rows.Lst
import PyProof.Conv_int_bool
import PyProof.WalksPairs
import PyProof.RangeFor
import PyProof.ForAny
import PyProof.ForAppend
import PyProof.Rows.TupAssign
import PyProof.RulesMatch
import PyProof.Rows.Method
import PyProof.Rows.RuleB_pow
import PyProof.StrLoop
import Wide.Ends
import Wide.BridgeG
import Open.Head
import KE.KTryDeep
import PyProof.ExcArgs
import KE.KIsNot
import PyProof.P3In
import PyProof.Rows.CountFlat
import PyProof.StrBlock
import PyProof.Dict
import PyProof.ListCopy
import PyProof.StrBlockH
import PyProof.StrBlockI
import PyProof.CallStr
import PyProof.Rows.StrSub
import KE.KIntText
import PyProof.Rows.CatFin
import PyProof.Rows.StrClose5
import PyProof.StrLawsChain
import PyProof.StrLawsTight
import KE.IntTextLaws
import PyProof.MeetsStr
import PyProof.StrCalls
import PyProof.Rows.StrPartPair
import PyProof.SliceList
import Open.Pieces
import PySem.Challenge.RW_uf050018_07
set_option Elab.async false
set_option maxRecDepth 100000
set_option linter.all false
namespace Mine

/-- a path: runs, true = to the right -/
abbrev Path := List (Bool × Int)
def okP : Option Bool → Path → Prop
  | _, [] => True
  | a, s :: t => 1 ≤ s.2 ∧ a ≠ some s.1 ∧ okP (some s.1) t
theorem okP_free {a : Option Bool} {p : Path} (h : okP a p) : okP none p := by
  cases p with
  | nil => trivial
  | cons s t => exact ⟨h.1, by simp, h.2.2⟩

end Mine

namespace Mine
/-- runs by turns, from b on -/
def altP : Bool → Path → Prop
  | _, [] => True
  | b, s :: t => s.1 = b ∧ 1 ≤ s.2 ∧ altP (!b) t
theorem altP.ok' : ∀ {b : Bool} {p : Path}, altP b p → okP (some (!b)) p
  | _, [], _ => trivial
  | b, s :: t, h => by
    obtain ⟨rfl, h2, h3⟩ := h
    refine ⟨h2, ?_, ?_⟩
    · cases s.1 <;> simp
    · have := altP.ok' h3
      rw [Bool.not_not] at this
      exact this
theorem altP.ok {b : Bool} {p : Path} (h : altP b p) : okP none p := okP_free h.ok'
theorem altP.pos : ∀ {b : Bool} {p : Path}, altP b p → ∀ s ∈ p, 1 ≤ s.2
  | _, [], _, s, hs => nomatch hs
  | b, s :: t, h, x, hx => by
    rcases List.mem_cons.mp hx with rfl | hx
    · exact h.2.1
    · exact altP.pos h.2.2 x hx
theorem altP.snoc : ∀ {b : Bool} {p : Path} {w : Bool} {m : Int}, altP b p → 1 ≤ m → w = (b ^^ decide (p.length % 2 = 1)) → altP b (p ++ [(w, m)])
  | b, [], w, m, _, hm, hw => ⟨by rw [hw]; simp, hm, trivial⟩
  | b, s :: t, w, m, h, hm, hw => by
    refine ⟨h.1, h.2.1, altP.snoc h.2.2 hm ?_⟩
    rw [hw]
    have : decide ((s :: t).length % 2 = 1) = !decide (t.length % 2 = 1) := by
      have e : (s :: t).length = t.length + 1 := rfl
      by_cases q : t.length % 2 = 1
      · simp [e, q]; (first | lia | omega)
      · simp [e, q]; (first | lia | omega)
    rw [this]; cases b <;> cases decide (t.length % 2 = 1) <;> rfl
theorem altP.set : ∀ {b : Bool} {p : Path} {i : Nat} {s : Bool × Int} {m : Int}, altP b p → p[i]? = some s → 1 ≤ m → altP b (p.set i (s.1, m))
  | b, [], i, s, m, h, e, hm => by simp at e
  | b, x :: t, 0, s, m, h, e, hm => by
    simp at e; subst e
    exact ⟨h.1, hm, h.2.2⟩
  | b, x :: t, i + 1, s, m, h, e, hm => ⟨h.1, h.2.1, altP.set h.2.2 (by simpa using e) hm⟩
/-- the bound on the runs -/
def leP (M : Int) (p : Path) : Prop := ∀ s ∈ p, s.2 ≤ M
theorem leP.snoc {M : Int} {p : Path} {s : Bool × Int} (h : leP M p) (hs : s.2 ≤ M) : leP M (p ++ [s]) := fun x hx => by
  rcases List.mem_append.mp hx with q | q
  · exact h x q
  · rw [List.mem_singleton] at q; subst q; exact hs
theorem leP.set {M : Int} {p : Path} {i : Nat} {s : Bool × Int} (h : leP M p) (hs : s.2 ≤ M) : leP M (p.set i s) := fun x hx => by
  rcases List.mem_or_eq_of_mem_set hx with q | q
  · exact h x q
  · subst q; exact hs
end Mine

namespace Mine
open PySem PySem.Spec PySem.Calls PyProof.Rows

/-- the usual kinds of expressions -/
def pl : Expr → Bool
  | .Starred .. | .ListComp .. | .SetComp .. | .DictComp .. | .Set .. | .Slice .. => false
  | _ => true
theorem pl_star {x : Expr} {es : List Expr} {env : Env} (h : pl x = true) : starEach (x :: es) env = (false, eval x env) :: starEach es env := by cases x <;> first | rfl | cases h
theorem pl_marks {op : CmpOp} {x : Expr} (h : pl x = true) : behindInMarks op x = false := by cases x <;> first | rfl | cases h
theorem pl_swaps {x : Expr} {t : Option Expr} {n : Nat} {env : Env} (h : pl x = true) : swapsWith x t n env = pure false := by cases x <;> first | rfl | cases h
theorem pl_fold {x : Expr} {env : Env} (h : pl x = true) (v : Value) : foldedSetIterable x env v = pure v := by cases x <;> first | rfl | cases h
theorem pl_sub {x : Expr} {o i : Value} (h : pl x = true) : subscripted x false o i = operate [o, i] (getItem o i) := by cases x <;> first | rfl | cases h
def plT : Expr → Bool
  | .UnaryOp .Not _ _ | .BoolOp .. | .IfExp .. | .Compare .. => false
  | _ => true
theorem plT_eq {x : Expr} {env : Env} {t : Sem Value} (h : plT x = true) : isTrue x env t = (do let v ← t; standAt x.pos; holding [v] (truthy v)) := by
  cases x with
  | UnaryOp op _ _ => cases op <;> first | rfl | cases h
  | _ => first | rfl | cases h

abbrev Keep (h h' : Heap) : Prop := ∀ b o, h.get? b = some o → h'.get? b = some o
theorem Keep.rfl {h : Heap} : Keep h h := fun _ _ e => e
theorem Keep.trans {h h' h'' : Heap} (a : Keep h h') (b : Keep h' h'') : Keep h h'' := fun x o e => b x o (a x o e)
theorem Keep.push {h h' : Heap} (a : Keep h h') (o : Obj) : Keep h (h'.push o) := fun x o' e => Heap.get?_push_of_some _ (a x o' e)
theorem Keep.none {h h' : Heap} (a : Keep h h') {l : Addr} (n : h'.get? l = none) : h.get? l = none := by
  cases hq : h.get? l with
  | none => rfl
  | some o => rw [a l o hq] at n; cases n
/-- every object stands, but for those at W -/
def Kp (W : List Addr) (h h' : Heap) : Prop := ∀ b o, b ∉ W → h.get? b = some o → h'.get? b = some o
theorem Keep.kp {W : List Addr} {h h' : Heap} (k : Keep h h') : Kp W h h' := fun b o _ e => k b o e
theorem Kp.rfl {W : List Addr} {h : Heap} : Kp W h h := fun _ _ _ e => e
theorem Kp.trans {W : List Addr} {h h' h'' : Heap} (a : Kp W h h') (b : Kp W h' h'') : Kp W h h'' := fun x o n e => b x o n (a x o n e)
theorem Kp.mono {W W' : List Addr} {h h' : Heap} (a : Kp W h h') (s : ∀ b ∈ W, b ∈ W') : Kp W' h h' := fun x o n e => a x o (fun hx => n (s x hx)) e

/-- a tree that changes no object that stands -/
structure EvT {α : Type} (M : Model) (A : Around) (h : Heap) (t : Sem α) (R : α → Heap → Prop) (X : Value → Heap → Prop) : Prop where
  go : ∀ (s : Shared) (Q : α → Shared → Prop) (E : Value → Shared → Prop), Keep h s.heap →
    (∀ a h' k, Keep s.heap h' → R a h' → Q a { s with heap := h', toks := k }) →
    (∀ x h' k, X x h' → E x { s with heap := h', toks := k }) → wpAny M A t Q E s

abbrev Ev (M : Model) (A : Around) (env : Env) (h : Heap) (e : Expr) (R X : Value → Heap → Prop) : Prop := EvT M A h (eval e env) R X
abbrev Tr (M : Model) (A : Around) (env : Env) (h : Heap) (e : Expr) (b : Bool) (X : Value → Heap → Prop) : Prop := EvT M A h (isTrue e env (eval e env)) (fun c _ => c = b) X

/-- the value v reads as d -/
def Rd (d : PyData) (v : Value) (h : Heap) : Prop := ∃ as, Reads h v d as
theorem Rd.keep {d : PyData} {v : Value} {h h' : Heap} (r : Rd d v h) (k : Keep h h') : Rd d v h' := let ⟨as, x⟩ := r; ⟨as, PyProof.Rows.Reads.keeps k x⟩
def RdL (ds : List PyData) (vs : List Value) (h : Heap) : Prop := ∃ as, ReadsAll h vs ds as
theorem RdL.keep {ds : List PyData} {vs : List Value} {h h' : Heap} (r : RdL ds vs h) (k : Keep h h') : RdL ds vs h' := let ⟨as, x⟩ := r; ⟨as, PyProof.Rows.ReadsAll.keeps k x⟩
theorem RdL.nil {h : Heap} : RdL [] [] h := ⟨_, .nil⟩
theorem RdL.cons {d ds v vs} {h : Heap} (a : Rd d v h) (b : RdL ds vs h) : RdL (d :: ds) (v :: vs) h := let ⟨_, x⟩ := a; let ⟨_, y⟩ := b; ⟨_, .cons x y⟩
theorem RdL.len {ds vs} {h : Heap} (a : RdL ds vs h) : vs.length = ds.length := by
  obtain ⟨as, x⟩ := a
  induction ds generalizing vs as with
  | nil => cases x; rfl
  | cons d ds ih => cases x with | cons _ y => simp [ih _ y]
theorem RdL.at {ds vs} {h : Heap} (a : RdL ds vs h) {i : Nat} {d : PyData} (e : ds[i]? = some d) : ∃ v, vs[i]? = some v ∧ Rd d v h := by
  obtain ⟨as, x⟩ := a
  induction ds generalizing vs as i with
  | nil => simp at e
  | cons d' ds ih =>
    cases x with
    | cons r y =>
      cases i with
      | zero => simp at e; subst e; exact ⟨_, rfl, _, r⟩
      | succ i =>
        obtain ⟨v, q⟩ := ih (i := i) (by simpa using e) _ y
        exact ⟨v, by simpa using q⟩
theorem RdL.uncons {d ds vs} {h : Heap} (a : RdL (d :: ds) vs h) : ∃ v r, vs = v :: r ∧ Rd d v h ∧ RdL ds r h := by
  obtain ⟨as, x⟩ := a
  cases x with | cons r y => exact ⟨_, _, rfl, ⟨_, r⟩, ⟨_, y⟩⟩
theorem RdL.unnil {vs} {h : Heap} (a : RdL [] vs h) : vs = [] := by
  obtain ⟨as, x⟩ := a
  cases x; rfl
theorem RdL.append {ds es vs us} {h : Heap} (a : RdL ds vs h) (b : RdL es us h) : RdL (ds ++ es) (vs ++ us) h := by
  obtain ⟨as, x⟩ := a
  induction ds generalizing vs as with
  | nil => cases x; exact b
  | cons d ds ih => cases x with | cons r y => exact RdL.cons ⟨_, r⟩ (ih _ y)
mutual
/-- no list and no dict in it -/
def flat : PyData → Bool
  | .list _ | .dict _ => false
  | .tuple xs => flatL xs
  | _ => true
def flatL : List PyData → Bool
  | [] => true
  | x :: xs => flat x && flatL xs
end
theorem flat_nil {h : Heap} {d : PyData} {v : Value} {as : List Addr} (hf : flat d = true) (r : Reads h v d as) : as = [] :=
  Reads.rec (motive_1 := fun _ d as _ => flat d = true → as = []) (motive_2 := fun _ ds as _ => flatL ds = true → as = [])
    (fun _ => rfl) (fun _ _ => rfl) (fun _ _ _ => rfl) (fun _ _ _ => rfl) (fun _ _ _ _ _ hf => nomatch hf) (fun _ _ _ _ ih hf => ih hf) (fun _ _ _ _ _ _ _ hf => nomatch hf)
    (fun _ => rfl) (fun _ _ ih1 ih2 hf => by
      have q := Bool.and_eq_true_iff.mp hf
      rw [ih1 q.1, ih2 q.2]; rfl) r hf
theorem flatL_nil {h : Heap} {ds : List PyData} {vs : List Value} {as : List Addr} (hf : flatL ds = true) (r : ReadsAll h vs ds as) : as = [] :=
  ReadsAll.rec (motive_1 := fun _ _ _ _ => True) (motive_2 := fun _ ds as _ => flatL ds = true → as = [])
    trivial (fun _ => trivial) (fun _ _ => trivial) (fun _ _ => trivial) (fun _ _ _ _ _ => trivial) (fun _ _ _ _ _ => trivial) (fun _ _ _ _ _ _ _ => trivial)
    (fun _ => rfl) (fun x _ _ ih2 hf => by
      have q := Bool.and_eq_true_iff.mp hf
      rw [flat_nil q.1 x, ih2 q.2]; rfl) r hf

/-- ... and whatever list is in it is new against h₀ -/
def Rf (h₀ : Heap) (d : PyData) (v : Value) (h : Heap) : Prop := ∃ as, Reads h v d as ∧ ∀ a ∈ as, h₀.get? a = none
theorem Rf.rd {h₀ : Heap} {d : PyData} {v : Value} {h : Heap} (r : Rf h₀ d v h) : Rd d v h := let ⟨as, x, _⟩ := r; ⟨as, x⟩
theorem Rf.of_flat {h₀ : Heap} {d : PyData} {v : Value} {h : Heap} (f : flat d = true) (r : Rd d v h) : Rf h₀ d v h := by
  obtain ⟨as, x⟩ := r
  refine ⟨as, x, ?_⟩
  rw [flat_nil f x]; exact fun _ ha => nomatch ha
theorem Rf.keep {h₀ : Heap} {d : PyData} {v : Value} {h h' : Heap} (r : Rf h₀ d v h) (k : Keep h h') : Rf h₀ d v h' := let ⟨as, x, n⟩ := r; ⟨as, PyProof.Rows.Reads.keeps k x, n⟩
theorem Rf.old {h₀ h₁ : Heap} {d : PyData} {v : Value} {h : Heap} (r : Rf h₁ d v h) (k : Keep h₀ h₁) : Rf h₀ d v h := by
  obtain ⟨as, x, n⟩ := r
  exact ⟨as, x, fun a ha => k.none (n a ha)⟩
/-- a new list of flat things -/
def Rl (h₀ : Heap) (ds : List PyData) (v : Value) (h : Heap) : Prop := ∃ l items, v = .ref l ∧ h.PlainList l items ∧ RdL ds items.toList h ∧ h₀.get? l = none
theorem Rl.keep {h₀ : Heap} {ds} {v : Value} {h h' : Heap} (r : Rl h₀ ds v h) (k : Keep h h') : Rl h₀ ds v h' := by
  obtain ⟨l, items, e, ⟨n, p⟩, x, f⟩ := r
  exact ⟨l, items, e, ⟨n, k _ _ p⟩, x.keep k, f⟩
theorem Rl.old {h₀ h₁ : Heap} {ds} {v : Value} {h : Heap} (r : Rl h₁ ds v h) (k : Keep h₀ h₁) : Rl h₀ ds v h := by
  obtain ⟨l, items, e, p, x, f⟩ := r
  exact ⟨l, items, e, p, x, k.none f⟩
theorem Rl.rd {h₀ : Heap} {ds} {v : Value} {h : Heap} (r : Rl h₀ ds v h) : Rd (.list ds) v h := by
  obtain ⟨l, items, e, ⟨n, p⟩, ⟨as, x⟩, _⟩ := r
  subst e
  exact ⟨_, .list p rfl rfl x⟩
theorem Rl.rf {h₀ : Heap} {ds} {v : Value} {h : Heap} (hf : flatL ds = true) (r : Rl h₀ ds v h) : Rf h₀ (.list ds) v h := by
  obtain ⟨l, items, e, ⟨n, p⟩, ⟨as, x⟩, f⟩ := r
  subst e
  refine ⟨_, .list p rfl rfl x, ?_⟩
  rw [flatL_nil hf x]
  intro a ha
  cases ha with
  | head => exact f
  | tail _ h => cases h

section
variable {α β : Type} {M : Model} {A : Around} {env : Env} {h : Heap} {X : Value → Heap → Prop}

theorem EvT.up {h' : Heap} {t : Sem α} {R : α → Heap → Prop} (e : EvT M A h t R X) (k : Keep h h') : EvT M A h' t R X := ⟨fun s Q E k' q x => e.go s Q E (k.trans k') q x⟩
theorem EvT.mono {t : Sem α} {R R' : α → Heap → Prop} (e : EvT M A h t R X) (m : ∀ a h', Keep h h' → R a h' → R' a h') : EvT M A h t R' X :=
  ⟨fun s Q E k q x => e.go s Q E k (fun a h' i k' r => q a h' i k' (m a h' (k.trans k') r)) x⟩
theorem EvT.of {t : Sem α} {R : α → Heap → Prop}
    (e : ∀ (s : Shared) (Q : α → Shared → Prop) (E : Value → Shared → Prop), Keep h s.heap → (∀ a h' k, Keep s.heap h' → R a h' → Q a { s with heap := h', toks := k }) → wpAny M A t Q E s) : EvT M A h t R X :=
  ⟨fun s Q E k q _ => e s Q E k q⟩
theorem EvT.ofS {t : Sem α} {R : α → Heap → Prop}
    (e : ∀ (s : Shared) (Q : α → Shared → Prop) (E : Value → Shared → Prop), Keep h s.heap → (∀ a k, R a s.heap → Q a { s with toks := k }) → wpAny M A t Q E s) : EvT M A h t R X :=
  ⟨fun s Q E k q _ => e s Q E k fun a k' r => q a s.heap k' Keep.rfl r⟩
theorem EvT.pure {a : α} {R : α → Heap → Prop} (r : ∀ h', Keep h h' → R a h') : EvT M A h (Pure.pure a) R X :=
  EvT.of fun s _ _ k q => wpAny_pure (q a s.heap s.toks Keep.rfl (r _ k))
theorem EvT.bind {t : Sem α} {f : α → Sem β} {R : α → Heap → Prop} {R' : β → Heap → Prop} (e : EvT M A h t R X)
    (n : ∀ a h', Keep h h' → R a h' → EvT M A h' (f a) R' X) : EvT M A h (t >>= f) R' X := by
  refine ⟨fun s Q E k q x => ?_⟩
  refine wpAny_bind (e.go s _ E k (fun a h' i k' r => ?_) x)
  exact (n a h' (k.trans k') r).go _ Q E (fun b o e => e) (fun a' h'' j k'' r' => q a' h'' j (k'.trans k'') r') (fun y h'' j r' => x y h'' j r')
theorem EvT.seq {t : Sem α} {R : α → Heap → Prop} (e : EvT M A h t R X) {s : Shared} {Q : α → Shared → Prop} {E : Value → Shared → Prop} (k : Keep h s.heap)
    (q : ∀ a h' i, Keep s.heap h' → R a h' → Q a { s with heap := h', toks := i }) (x : ∀ y h' i, X y h' → E y { s with heap := h', toks := i }) : wpAny M A t Q E s := e.go s Q E k q x
/-- two trees, one behind the other -/
theorem EvT.two {γ : Type} {t : Sem α} {u : Sem β} {R : α → Heap → Prop} {R2 : β → Heap → Prop} {v : α → β → Sem γ} {R' : γ → Heap → Prop} (e : EvT M A h t R X) (e2 : EvT M A h u R2 X)
    (m : ∀ a h' h'', Keep h' h'' → R a h' → R a h'') (n : ∀ a b h', Keep h h' → R a h' → R2 b h' → EvT M A h' (v a b) R' X)
    {s : Shared} {Q : γ → Shared → Prop} {E : Value → Shared → Prop} (k : Keep h s.heap)
    (q : ∀ a h' i, Keep s.heap h' → R' a h' → Q a { s with heap := h', toks := i }) (x : ∀ y h' i, X y h' → E y { s with heap := h', toks := i }) :
    wpAny M A t (fun a s₁ => wpAny M A u (fun b s₂ => wpAny M A (v a b) Q E s₂) E s₁) E s := by
  refine e.go s _ E k (fun a h1 i k1 r1 => ?_) x
  refine (e2.up (k.trans k1)).seq (s := { s with heap := h1, toks := i }) Keep.rfl (fun b h2 j k2 r2 => ?_) (fun y h2 j r => x y h2 j r)
  exact (n a b h2 (k.trans (Keep.trans k1 k2)) (m _ _ _ k2 r1) r2).seq (s := { s with heap := h2, toks := j }) Keep.rfl (fun c h3 j k3 r3 => q c h3 j (Keep.trans k1 (Keep.trans k2 k3)) r3) (fun y h3 j r => x y h3 j r)
end
theorem rd_mono {d : PyData} : ∀ a h' h'', Keep h' h'' → Rd d a h' → Rd d a h'' := fun _ _ _ k r => r.keep k

section
variable {prog : Program} {w : World} {A : Around} {env : Env} {h : Heap} {X : Value → Heap → Prop}

theorem ev_int {i : Int} {k pos} : Ev (model prog w) A env h (.Constant (.int i) k pos) (Rd (.int i)) X :=
  EvT.ofS fun _ _ _ _ q => wpAny_Constant_int (q _ _ ⟨_, .int _ _⟩)
theorem ev_str {x : Str} {k pos} : Ev (model prog w) A env h (.Constant (.str x) k pos) (Rd (.str x)) X :=
  EvT.ofS fun _ _ _ _ q => wpAny_Constant_str (q _ _ ⟨_, .str _ _⟩)
theorem ev_bool {b : Bool} {k pos} : Ev (model prog w) A env h (.Constant (.bool b) k pos) (Rd (.bool b)) X :=
  EvT.ofS fun s _ _ _ q => wpAny_Constant_bool (q _ s.toks ⟨_, .bool _⟩)
theorem ev_none {k pos} : Ev (model prog w) A env h (.Constant .none k pos) (Rd .none) X :=
  EvT.ofS fun s _ _ _ q => wpAny_Constant_none (q _ s.toks ⟨_, .none⟩)

theorem ev_bin {l r : Expr} {op : Operator} {pos : Pos} {d1 d2 : PyData} {R : Value → Heap → Prop} (e1 : Ev (model prog w) A env h l (Rd d1) X) (e2 : Ev (model prog w) A env h r (Rd d2) X)
    (o : ∀ v1 v2 h', Keep h h' → Rd d1 v1 h' → Rd d2 v2 h' → EvT (model prog w) A h' (binaryOp op v1 v2) R X) : Ev (model prog w) A env h (.BinOp l op r pos) R X := by
  refine ⟨fun s Q E k q x => ?_⟩
  exact wpAny_BinOp (EvT.two e1 e2 rd_mono o k q x)

theorem rd_int {i : Int} {v : Value} {h : Heap} (r : Rd (.int i) v h) : ∃ t, v = .int i t := by obtain ⟨as, x⟩ := r; cases x; exact ⟨_, rfl⟩
theorem rd_str {i : Str} {v : Value} {h : Heap} (r : Rd (.str i) v h) : ∃ t, v = .str i t := by obtain ⟨as, x⟩ := r; cases x; exact ⟨_, rfl⟩
theorem rd_bool {i : Bool} {v : Value} {h : Heap} (r : Rd (.bool i) v h) : v = .bool i := by obtain ⟨as, x⟩ := r; cases x; rfl
theorem rd_tup {ds : List PyData} {v : Value} {h : Heap} (r : Rd (.tuple ds) v h) : ∃ a items, v = .ref a ∧ h.IsTuple a items ∧ RdL ds items.toList h := by
  obtain ⟨as, x⟩ := r
  cases x with | tuple h1 h2 h3 y => exact ⟨_, _, rfl, ⟨_, h1, h2, _, h3⟩, _, y⟩
theorem rd_list {ds : List PyData} {v : Value} {h : Heap} (r : Rd (.list ds) v h) : ∃ a items, v = .ref a ∧ h.IsList a items ∧ RdL ds items.toList h := by
  obtain ⟨as, x⟩ := r
  cases x with | list h1 h2 h3 y => exact ⟨_, _, rfl, ⟨_, h1, h2, _, h3⟩, _, y⟩

theorem ev_add {l r : Expr} {pos : Pos} {a b : Int} (e1 : Ev (model prog w) A env h l (Rd (.int a)) X) (e2 : Ev (model prog w) A env h r (Rd (.int b)) X) :
    Ev (model prog w) A env h (.BinOp l .Add r pos) (Rd (.int (a + b))) X := ev_bin e1 e2 fun v1 v2 h' k r1 r2 => by
  obtain ⟨t, rfl⟩ := rd_int r1; obtain ⟨u, rfl⟩ := rd_int r2
  exact EvT.ofS fun _ _ _ _ q => P.add_int (q _ _ ⟨_, .int _ _⟩)
theorem ev_mul {l r : Expr} {pos : Pos} {a b : Int} (e1 : Ev (model prog w) A env h l (Rd (.int a)) X) (e2 : Ev (model prog w) A env h r (Rd (.int b)) X) (hm : IntMulOk a b) :
    Ev (model prog w) A env h (.BinOp l .Mult r pos) (Rd (.int (a * b))) X := ev_bin e1 e2 fun v1 v2 h' k r1 r2 => by
  obtain ⟨t, rfl⟩ := rd_int r1; obtain ⟨u, rfl⟩ := rd_int r2
  exact EvT.ofS fun _ _ _ _ q => P.mul_int (q _ _ ⟨_, .int _ _⟩) hm
theorem ev_mod {l r : Expr} {pos : Pos} {a b : Int} (e1 : Ev (model prog w) A env h l (Rd (.int a)) X) (e2 : Ev (model prog w) A env h r (Rd (.int b)) X) (hb : 0 < b) :
    Ev (model prog w) A env h (.BinOp l .Mod r pos) (Rd (.int (a % b))) X := ev_bin e1 e2 fun v1 v2 h' k r1 r2 => by
  obtain ⟨t, rfl⟩ := rd_int r1; obtain ⟨u, rfl⟩ := rd_int r2
  refine EvT.ofS fun _ _ _ _ q => PyProof.Rows.mod_int (by (first | lia | omega)) ?_
  rw [Int.fmod_eq_emod_of_nonneg _ (by (first | lia | omega))]
  exact q _ _ ⟨_, .int _ _⟩
/-- one comparison, as a value and as a test -/
theorem ev_cmp {l r : Expr} {op : CmpOp} {pos : Pos} {d1 d2 : PyData} {R : Value → Heap → Prop} (e1 : Ev (model prog w) A env h l (Rd d1) X) (e2 : Ev (model prog w) A env h r (Rd d2) X)
    (o : ∀ v1 v2 h', Keep h h' → Rd d1 v1 h' → Rd d2 v2 h' → EvT (model prog w) A h' (compareOp op v1 v2) R X) (hm : pl r = true := by rfl) :
    Ev (model prog w) A env h (.Compare l [op] [r] pos) R X := by
  refine ⟨fun s Q E k q x => ?_⟩
  exact wpAny_Compare1 (EvT.two e1 e2 rd_mono o k q x) (pl_marks hm)
theorem tr_cmp {l r : Expr} {op : CmpOp} {pos : Pos} {d1 d2 : PyData} {b : Bool} (e1 : Ev (model prog w) A env h l (Rd d1) X) (e2 : Ev (model prog w) A env h r (Rd d2) X)
    (o : ∀ v1 v2 h', Keep h h' → Rd d1 v1 h' → Rd d2 v2 h' → EvT (model prog w) A h' (compareOp op v1 v2) (Rd (.bool b)) X) (hm : pl r = true := by rfl) :
    Tr (model prog w) A env h (.Compare l [op] [r] pos) b X := by
  refine ⟨fun s Q E k q x => ?_⟩
  refine wpAny_isTrue_Compare1 ?_ (pl_marks hm)
  exact EvT.two (v := fun a b => compareOp op a b) (Q := fun c s₃ => wpAny (model prog w) A (truthy c) Q E s₃) e1 e2 rd_mono o k (fun c h' i k' r => by cases rd_bool r; exact wpAny_truthy_bool (q _ _ _ k' rfl)) x

/-- int comparisons -/
def icmp : CmpOp → Int → Int → Option Bool
  | .Lt, a, b => some (decide (a < b))
  | .LtE, a, b => some (decide (a ≤ b))
  | .Gt, a, b => some (decide (a > b))
  | .GtE, a, b => some (decide (a ≥ b))
  | .Eq, a, b => some (a == b)
  | .NotEq, a, b => some (a != b)
  | _, _, _ => none
theorem op_icmp {op : CmpOp} {a b : Int} {c : Bool} (e : icmp op a b = some c) {v1 v2 : Value} {h' : Heap} (r1 : Rd (.int a) v1 h') (r2 : Rd (.int b) v2 h') :
    EvT (model prog w) A h' (compareOp op v1 v2) (Rd (.bool c)) X := by
  obtain ⟨t, rfl⟩ := rd_int r1; obtain ⟨u, rfl⟩ := rd_int r2
  cases op <;> cases e
  · exact EvT.ofS fun s _ _ _ q => P.eq_int (q _ s.toks ⟨_, .bool _⟩)
  · exact EvT.ofS fun s _ _ _ q => P.ne_int (q _ s.toks ⟨_, .bool _⟩)
  · exact EvT.ofS fun s _ _ _ q => P.lt_int (q _ s.toks ⟨_, .bool _⟩)
  · exact EvT.ofS fun s _ _ _ q => P.le_int (q _ s.toks ⟨_, .bool _⟩)
  · exact EvT.ofS fun s _ _ _ q => P.gt_int (q _ s.toks ⟨_, .bool _⟩)
  · exact EvT.ofS fun s _ _ _ q => P.ge_int (q _ s.toks ⟨_, .bool _⟩)
theorem ev_icmp {l r : Expr} {op : CmpOp} {pos : Pos} {a b : Int} {c : Bool} (e1 : Ev (model prog w) A env h l (Rd (.int a)) X) (e2 : Ev (model prog w) A env h r (Rd (.int b)) X) (e : icmp op a b = some c)
    (hm : pl r = true := by rfl) : Ev (model prog w) A env h (.Compare l [op] [r] pos) (Rd (.bool c)) X :=
  ev_cmp e1 e2 (fun _ _ _ _ r1 r2 => op_icmp e r1 r2) hm
theorem tr_icmp {l r : Expr} {op : CmpOp} {pos : Pos} {a b : Int} {c : Bool} (e1 : Ev (model prog w) A env h l (Rd (.int a)) X) (e2 : Ev (model prog w) A env h r (Rd (.int b)) X) (e : icmp op a b = some c)
    (hm : pl r = true := by rfl) : Tr (model prog w) A env h (.Compare l [op] [r] pos) c X :=
  tr_cmp e1 e2 (fun _ _ _ _ r1 r2 => op_icmp e r1 r2) hm

/-- tests -/
theorem tr_not {x : Expr} {pos : Pos} {b : Bool} (e : Tr (model prog w) A env h x b X) : Tr (model prog w) A env h (.UnaryOp .Not x pos) (!b) X := by
  refine ⟨fun s Q E k q x => ?_⟩
  refine wpAny_isTrue_Not (e.go s _ E k (fun c h1 i k1 r1 => ?_) x)
  subst r1; exact q _ _ _ k1 rfl
theorem tr_bool {op : BoolOp} {es : List Expr} {pos : Pos} {b : Bool} (e : EvT (model prog w) A h (allTrue op es env) (fun c _ => c = b) X) : Tr (model prog w) A env h (.BoolOp op es pos) b X := by
  refine ⟨fun s Q E k q x => ?_⟩
  exact wpAny_isTrue_BoolOp (e.go s Q E k q x)
theorem all_and_nil : EvT (model prog w) A h (allTrue .And [] env) (fun c _ => c = true) X := EvT.ofS fun s _ _ _ q => wpAny_allTrue_And_nil (q _ s.toks rfl)
theorem all_and {x : Expr} {es : List Expr} {a b : Bool} (e : Tr (model prog w) A env h x a X) (e2 : a = true → EvT (model prog w) A h (allTrue .And es env) (fun c _ => c = b) X) :
    EvT (model prog w) A h (allTrue .And (x :: es) env) (fun c _ => c = (a && b)) X := by
  refine ⟨fun s Q E k q x => ?_⟩
  refine wpAny_allTrue_And_cons (e.go s _ E k (fun c h1 i k1 r1 => ?_) x)
  subst r1
  cases c with
  | false => exact q _ _ _ k1 rfl
  | true => exact ((e2 rfl).up (k.trans k1)).seq (s := { s with heap := h1, toks := i }) Keep.rfl (fun c h2 j k2 r2 => q c h2 j (Keep.trans k1 k2) (by simpa using r2)) (fun y h2 j r => x y h2 j r)
theorem all_or_nil : EvT (model prog w) A h (allTrue .Or [] env) (fun c _ => c = false) X := EvT.ofS fun s _ _ _ q => wpAny_pure (a := false) (q _ s.toks rfl)
theorem all_or {x : Expr} {es : List Expr} {a b : Bool} (e : Tr (model prog w) A env h x a X) (e2 : a = false → EvT (model prog w) A h (allTrue .Or es env) (fun c _ => c = b) X) :
    EvT (model prog w) A h (allTrue .Or (x :: es) env) (fun c _ => c = (a || b)) X := by
  refine ⟨fun s Q E k q x => ?_⟩
  refine wpAny_allTrue_Or_cons (e.go s _ E k (fun c h1 i k1 r1 => ?_) x)
  subst r1
  cases c with
  | true => exact q _ _ _ k1 rfl
  | false => exact ((e2 rfl).up (k.trans k1)).seq (s := { s with heap := h1, toks := i }) Keep.rfl (fun c h2 j k2 r2 => q c h2 j (Keep.trans k1 k2) (by simpa using r2)) (fun y h2 j r => x y h2 j r)
theorem tr_val {e : Expr} {b : Bool} (e1 : Ev (model prog w) A env h e (Rd (.bool b)) X)
    (he : plT e = true := by rfl) : Tr (model prog w) A env h e b X := by
  refine ⟨fun s Q E k q x => ?_⟩
  refine wpAny_isTrue_value (e1.go s _ E k (fun c h1 i k1 r1 => ?_) x) (plT_eq he)
  cases rd_bool r1; exact wpAny_truthy_bool (q _ _ _ k1 rfl)
theorem ev_not {x : Expr} {pos : Pos} {b : Bool} (e : Ev (model prog w) A env h x (Rd (.bool b)) X) : Ev (model prog w) A env h (.UnaryOp .Not x pos) (Rd (.bool (!b))) X := by
  refine ⟨fun s Q E k q x => ?_⟩
  refine wpAny_UnaryOp (e.go s _ E k (fun v h1 i k1 r1 => ?_) x)
  cases rd_bool r1
  exact PyProof.Rows.not_of (wpAny_truthy_bool (q _ _ _ k1 ⟨_, .bool _⟩))

/-- and, or as values: all of them bools -/
theorem bo_last {op : BoolOp} {x : Expr} {pos : Pos} {R : Value → Heap → Prop} (e : Ev (model prog w) A env h x R X) : EvT (model prog w) A h (boolOp pos op [eval x env]) R X := e
theorem bo_and {x y : Expr} {es : List Expr} {pos : Pos} {a b : Bool} (e : Ev (model prog w) A env h x (Rd (.bool a)) X)
    (e2 : a = true → EvT (model prog w) A h (boolOp pos .And (evalEach (y :: es) env)) (Rd (.bool b)) X) :
    EvT (model prog w) A h (boolOp pos .And (evalEach (x :: y :: es) env)) (Rd (.bool (a && b))) X := by
  refine ⟨fun s Q E k q x' => ?_⟩
  show wpAny (model prog w) A (do
    let v ← eval x env
    standAt pos
    let t ← holding [v] (truthy v)
    match BoolOp.And, t with
    | .And, false | .Or, true => pure v
    | _, _ => boolOp pos .And (evalEach (y :: es) env)) Q E s
  refine wpAny_bind (e.go s _ E k (fun v h1 i k1 r1 => ?_) x')
  cases rd_bool r1
  refine wpAny_bind (wpAny_standAt (wpAny_bind (wpAny_holding (wpAny_truthy_bool ?_))))
  cases a with
  | false => exact wpAny_pure (q _ _ _ k1 ⟨_, .bool _⟩)
  | true => exact ((e2 rfl).up (k.trans k1)).seq (s := { s with heap := h1, toks := i }) Keep.rfl (fun c h2 j k2 r2 => q c h2 j (Keep.trans k1 k2) (by simpa using r2)) (fun y h2 j r => x' y h2 j r)
theorem ev_bop {op : BoolOp} {es : List Expr} {pos : Pos} {R : Value → Heap → Prop} (e : EvT (model prog w) A h (boolOp pos op (evalEach es env)) R X) : Ev (model prog w) A env h (.BoolOp op es pos) R X := by
  refine ⟨fun s Q E k q x => ?_⟩
  rw [arm_eval_BoolOp]; exact e.go s Q E k q x
theorem ev_ife {t b o : Expr} {pos : Pos} {c : Bool} {R : Value → Heap → Prop} (e : Tr (model prog w) A env h t c X) (e1 : c = true → Ev (model prog w) A env h b R X) (e2 : c = false → Ev (model prog w) A env h o R X) :
    Ev (model prog w) A env h (.IfExp t b o pos) R X := by
  refine ⟨fun s Q E k q x => ?_⟩
  refine wpAny_IfExp (e.go s _ E k (fun v h1 i k1 r1 => ?_) x)
  subst r1
  cases v with
  | true => exact ((e1 rfl).up (k.trans k1)).seq (s := { s with heap := h1, toks := i }) Keep.rfl (fun c h2 j k2 r2 => q c h2 j (Keep.trans k1 k2) r2) (fun y h2 j r => x y h2 j r)
  | false => exact ((e2 rfl).up (k.trans k1)).seq (s := { s with heap := h1, toks := i }) Keep.rfl (fun c h2 j k2 r2 => q c h2 j (Keep.trans k1 k2) r2) (fun y h2 j r => x y h2 j r)

/-- argument lists, displays -/
abbrev EvL (M : Model) (A : Around) (env : Env) (h : Heap) (pos : Pos) (es : List Expr) (ds : List PyData) (X : Value → Heap → Prop) : Prop := EvT M A h (spliced (backTo pos (starEach es env))) (RdL ds) X
theorem evl_nil {pos : Pos} : EvL (model prog w) A env h pos [] [] X := EvT.ofS fun s _ _ _ q => PyProof.Rows.args_nil (q _ s.toks RdL.nil)
theorem evl_cons {pos : Pos} {x : Expr} {es : List Expr} {d : PyData} {ds : List PyData} (e : Ev (model prog w) A env h x (Rd d) X) (e2 : EvL (model prog w) A env h pos es ds X)
    (he : pl x = true := by rfl) : EvL (model prog w) A env h pos (x :: es) (d :: ds) X := by
  refine ⟨fun s Q E k q x => ?_⟩
  refine PyProof.Rows.args_cons (e.go s _ E k (fun v h1 i k1 r1 => ?_) x) (pl_star he)
  exact (e2.up (k.trans k1)).seq (s := { s with heap := h1, toks := i }) Keep.rfl (fun c h2 j k2 r2 => q _ h2 j (Keep.trans k1 k2) (RdL.cons (r1.keep k2) r2)) (fun y h2 j r => x y h2 j r)

theorem ev_tup {es : List Expr} {n : Nat} {pos : Pos} {ds : List PyData} (e : EvL (model prog w) A env h pos es ds X) (hn : ds.length ≤ sizeLine := by simp only [List.length_cons, List.length_nil]; decide) : Ev (model prog w) A env h (.Tuple es n pos) (Rd (.tuple ds)) X := by
  refine ⟨fun s Q E k q x => ?_⟩
  refine wpAny_Tuple (e.go s _ E k (fun vs h1 i k1 r1 => ⟨by rw [r1.len]; exact hn, ?_⟩) x)
  obtain ⟨as, y⟩ := r1.keep (Keep.push Keep.rfl { cls := .type "tuple", data := .seq vs.toArray })
  exact q _ _ _ (Keep.push k1 _) ⟨_, .tuple (Heap.get?_push_size _ rfl) rfl rfl (by simpa using y)⟩
theorem ev_list {es : List Expr} {pos : Pos} {ds : List PyData} (e : EvL (model prog w) A env h pos es ds X) (hn : ds.length ≤ sizeLine := by simp only [List.length_cons, List.length_nil]; decide) : Ev (model prog w) A env h (.List es pos) (Rl h ds) X := by
  refine ⟨fun s Q E k q x => ?_⟩
  refine wpAny_List (e.go s _ E k (fun vs h1 i k1 r1 => ⟨by rw [r1.len]; exact hn, ?_⟩) x)
  refine q _ _ _ (Keep.push k1 _) ⟨_, _, rfl, ⟨_, Heap.get?_push_size _ rfl⟩, by simpa using r1.keep (Keep.push Keep.rfl _), ?_⟩
  cases hq : h.get? h1.objs.size with
  | none => rfl
  | some o => exact absurd (Heap.lt_size (k1 _ _ (k _ _ hq))) (Nat.lt_irrefl _)
end
end Mine

namespace Mine
open PySem PySem.Spec PySem.Calls PyProof.Rows

/-- an object that no datum is read from -/
def Odd (a : Addr) (h : Heap) : Prop := ∀ o, h.get? a = some o → (∀ vs n, o.data ≠ .seq vs n) ∧ (∀ es n, o.data ≠ .dict es n)
/-- an object that is no tuple -/
def NoTup (a : Addr) (h : Heap) : Prop := ∀ o, h.get? a = some o → o.cls = .type "tuple" → ∀ vs n, o.data ≠ .seq vs n

theorem reads_kp {W : List Addr} {h h' : Heap} (k : Kp W h h') {v : Value} {d : PyData} {as : List Addr} (hw : ∀ a ∈ W, Odd a h ∨ (a ∉ as ∧ NoTup a h)) (r : Reads h v d as) : Reads h' v d as :=
  Reads.rec (motive_1 := fun v d as _ => (∀ a ∈ W, Odd a h ∨ (a ∉ as ∧ NoTup a h)) → Reads h' v d as) (motive_2 := fun vs ds as _ => (∀ a ∈ W, Odd a h ∨ (a ∉ as ∧ NoTup a h)) → ReadsAll h' vs ds as)
    (fun _ => .none) (fun b _ => .bool b) (fun i t _ => .int i t) (fun x t _ => .str x t)
    (fun h1 h2 h3 _ ih hw => .list (k _ _ (fun ha => (hw _ ha).elim (fun q => (q _ h1).1 _ _ h3) (fun q => q.1 (.head _))) h1) h2 h3 (ih fun b hb => (hw b hb).imp id fun q => ⟨fun e => q.1 (.tail _ e), q.2⟩))
    (fun h1 h2 h3 _ ih hw => .tuple (k _ _ (fun ha => (hw _ ha).elim (fun q => (q _ h1).1 _ _ h3) (fun q => q.2 _ h1 h2 _ _ h3)) h1) h2 h3 (ih hw))
    (fun h1 h2 h3 _ _ ih1 ih2 hw => .dict (k _ _ (fun ha => (hw _ ha).elim (fun q => (q _ h1).2 _ _ h3) (fun q => q.1 (.head _))) h1) h2 h3 (ih1 fun b hb => (hw b hb).imp id fun q => ⟨fun e => q.1 (.tail _ (List.mem_append_left _ e)), q.2⟩)
      (ih2 fun b hb => (hw b hb).imp id fun q => ⟨fun e => q.1 (.tail _ (List.mem_append_right _ e)), q.2⟩))
    (fun _ => .nil) (fun _ _ ih1 ih2 hw => .cons (ih1 fun b hb => (hw b hb).imp id fun q => ⟨fun e => q.1 (List.mem_append_left _ e), q.2⟩) (ih2 fun b hb => (hw b hb).imp id fun q => ⟨fun e => q.1 (List.mem_append_right _ e), q.2⟩)) r hw
theorem readsAll_kp {W : List Addr} {h h' : Heap} (k : Kp W h h') {vs : List Value} {ds : List PyData} {as : List Addr} (hw : ∀ a ∈ W, Odd a h ∨ (a ∉ as ∧ NoTup a h)) (r : ReadsAll h vs ds as) : ReadsAll h' vs ds as :=
  ReadsAll.rec (motive_1 := fun _ _ _ _ => True) (motive_2 := fun vs ds as _ => (∀ a ∈ W, Odd a h ∨ (a ∉ as ∧ NoTup a h)) → ReadsAll h' vs ds as)
    trivial (fun _ => trivial) (fun _ _ => trivial) (fun _ _ => trivial) (fun _ _ _ _ _ => trivial) (fun _ _ _ _ _ => trivial) (fun _ _ _ _ _ _ _ => trivial)
    (fun _ => .nil) (fun x _ _ ih2 hw => .cons (reads_kp k (fun b hb => (hw b hb).imp id fun q => ⟨fun e => q.1 (List.mem_append_left _ e), q.2⟩) x) (ih2 fun b hb => (hw b hb).imp id fun q => ⟨fun e => q.1 (List.mem_append_right _ e), q.2⟩)) r hw
theorem reads_some {h : Heap} {v : Value} {d : PyData} {as : List Addr} (r : Reads h v d as) : ∀ a ∈ as, ∃ o, h.get? a = some o :=
  Reads.rec (motive_1 := fun _ _ as _ => ∀ a ∈ as, ∃ o, h.get? a = some o) (motive_2 := fun _ _ as _ => ∀ a ∈ as, ∃ o, h.get? a = some o)
    (fun _ ha => nomatch ha) (fun _ _ ha => nomatch ha) (fun _ _ _ ha => nomatch ha) (fun _ _ _ ha => nomatch ha)
    (fun h1 _ _ _ ih a ha => (List.mem_cons.mp ha).elim (fun e => e ▸ ⟨_, h1⟩) (ih a)) (fun _ _ _ _ ih => ih)
    (fun h1 _ _ _ _ ih1 ih2 a ha => (List.mem_cons.mp ha).elim (fun e => e ▸ ⟨_, h1⟩) (fun e => (List.mem_append.mp e).elim (ih1 a) (ih2 a)))
    (fun _ ha => nomatch ha) (fun _ _ ih1 ih2 a ha => (List.mem_append.mp ha).elim (ih1 a) (ih2 a)) r

abbrev Locs := List (Str × PyData)
abbrev Mut := Option (Str × Addr × List PyData)
/-- what is known of a frame: some of its names, and one list of its own that may be changed -/
structure St (g : Heap) (L : Addr) (h : Heap) (ρ : Locs) (μ : Mut) : Prop where
  ex : ∃ m, Fr g L h m ∧ (∀ x d, ρ.lookup x = some d → ∃ v as, m x = some v ∧ Reads h v d as ∧ L ∉ as ∧ ∀ q, μ = some q → q.2.1 ∉ as) ∧
    (∀ q, μ = some q → m q.1 = some (.ref q.2.1) ∧ g.get? q.2.1 = none ∧ flatL q.2.2 = true ∧ ∃ items, h.PlainList q.2.1 items ∧ RdL q.2.2 items.toList h)

theorem noTup_L {h₀ h : Heap} {L : Addr} {m} (F : Fr h₀ L h m) : NoTup L h := by
  obtain ⟨o, es, ep, ho, hd, _⟩ := F.ns
  intro o' ho' _ vs n e
  rw [ho] at ho'; cases ho'; rw [hd] at e; cases e
theorem noTup_list {h : Heap} {l : Addr} {items} (p : h.PlainList l items) : NoTup l h := by
  obtain ⟨n, p⟩ := p
  intro o ho hc
  rw [p] at ho; cases ho; simp at hc
theorem L_some {h₀ h : Heap} {L : Addr} {m} (F : Fr h₀ L h m) : ∃ o, h.get? L = some o := by
  obtain ⟨o, es, ep, ho, r⟩ := F.ns
  exact ⟨o, ho⟩
theorem L_ne_list {h₀ h : Heap} {L l : Addr} {m} {items} (F : Fr h₀ L h m) (p : h.PlainList l items) : l ≠ L := by
  obtain ⟨n, p⟩ := p
  obtain ⟨o, es, ep, ho, hd, _⟩ := F.ns
  intro e; subst e
  rw [p] at ho; cases ho; cases hd

theorem plain_kp {W : List Addr} {h h' : Heap} {l : Addr} {items} (k : Kp W h h') (n : l ∉ W) (p : h.PlainList l items) : h'.PlainList l items := let ⟨i, p⟩ := p; ⟨i, k _ _ n p⟩
theorem rdl_flat_kp {W : List Addr} {h h' : Heap} {ds vs} (k : Kp W h h') (hf : flatL ds = true) (hw : ∀ a ∈ W, NoTup a h) (r : RdL ds vs h) : RdL ds vs h' := by
  obtain ⟨as, x⟩ := r
  have e := flatL_nil hf x
  subst e
  exact ⟨_, readsAll_kp k (fun a ha => .inr ⟨List.not_mem_nil, hw a ha⟩) x⟩

section
variable {g h h' : Heap} {L : Addr} {ρ ρ' : Locs} {μ : Mut}
theorem St.keep (S : St g L h ρ μ) (k : Keep h h') : St g L h' ρ μ := by
  obtain ⟨m, F, hr, hm⟩ := S.ex
  refine ⟨m, F.after k, fun x d e => ?_, fun q e => ?_⟩
  · obtain ⟨v, as, a, b, c⟩ := hr x d e
    exact ⟨v, as, a, PyProof.Rows.Reads.keeps k b, c⟩
  · obtain ⟨a, b, c, items, ⟨n, p⟩, r⟩ := hm q e
    exact ⟨a, b, c, items, ⟨n, k _ _ p⟩, r.keep k⟩
theorem St.frK (S : St g L h ρ μ) : Keep g h := by obtain ⟨m, F, _⟩ := S.ex; exact F.keep
def Sub (ρ : Locs) : Locs → Prop
  | [] => True
  | p :: r => ρ.lookup p.1 = some p.2 ∧ Sub ρ r
theorem Sub.at {ρ : Locs} : ∀ {ρ' : Locs}, Sub ρ ρ' → ∀ x d, ρ'.lookup x = some d → ρ.lookup x = some d
  | [], _, _, _, e => nomatch e
  | (y, d') :: r, hs, x, d, e => by
    rw [List.lookup_cons] at e
    cases hb : x == y with
    | true => rw [hb] at e; cases e; rw [eq_of_beq hb]; exact hs.1
    | false => rw [hb] at e; exact hs.2.at x d e
theorem St.pick (S : St g L h ρ μ) (hs : Sub ρ ρ') : St g L h ρ' μ := by
  obtain ⟨m, F, hr, hm⟩ := S.ex
  exact ⟨m, F, fun x d e => hr x d (hs.at x d e), hm⟩
/-- the list is changed no more -/
theorem St.freeze {x : Str} {l : Addr} {ds : List PyData} (S : St g L h ρ (some (x, l, ds))) : St g L h ((x, .list ds) :: ρ) none := by
  obtain ⟨m, F, hr, hm⟩ := S.ex
  refine ⟨m, F, fun y d e => ?_, fun q e => nomatch e⟩
  rw [List.lookup_cons] at e
  cases hb : y == x with
  | true =>
    rw [hb] at e; cases e
    obtain ⟨a, b, c, items, p, ⟨as, r⟩⟩ := hm _ rfl
    have e := flatL_nil c r
    subst e
    obtain ⟨n, p'⟩ := id p
    refine ⟨_, _, by rw [eq_of_beq hb]; exact a, .list p' rfl rfl r, ?_, fun q e => nomatch e⟩
    intro hL
    cases hL with
    | head => exact L_ne_list F p rfl
    | tail _ e => cases e
  | false =>
    rw [hb] at e
    obtain ⟨v, as, a, b, c, _⟩ := hr y d e
    exact ⟨v, as, a, b, c, fun q e => nomatch e⟩
/-- changes at objects that bear nothing known -/
theorem St.odd {a : Addr} (S : St g L h ρ μ) (ho : Odd a h) (hs : ∃ o, h.get? a = some o) (hg : g.get? a = none) (k : Kp [a] h h') : St g L h' ρ μ := by
  obtain ⟨m, F, hr, hm⟩ := S.ex
  obtain ⟨o, hs⟩ := hs
  have hL : L ≠ a := by
    intro e; subst e
    obtain ⟨o', es, ep, ho', hd, _⟩ := F.ns
    exact (ho o' ho').2 _ _ hd
  refine ⟨m, ⟨?_, fun b o e => k b o ?_ (F.keep b o e), F.above⟩, fun x d e => ?_, fun q e => ?_⟩
  · obtain ⟨o', es, ep, ho', r⟩ := F.ns
    exact ⟨o', es, ep, k _ _ (by simp [hL]) ho', r⟩
  · intro hb
    rw [List.mem_singleton] at hb; subst hb; rw [hg] at e; cases e
  · obtain ⟨v, as, a, b, c⟩ := hr x d e
    exact ⟨v, as, a, reads_kp k (fun y hy => by rw [List.mem_singleton] at hy; subst hy; exact .inl ho) b, c⟩
  · obtain ⟨a', b, c, items, p, r⟩ := hm q e
    have hl : q.2.1 ≠ a := by
      intro e; obtain ⟨n, p⟩ := p
      rw [e] at p
      exact (ho _ p).1 _ _ rfl
    refine ⟨a', b, c, items, plain_kp k (by simp [hl]) p, ?_⟩
    obtain ⟨as, r⟩ := r
    exact ⟨as, readsAll_kp k (fun y hy => by rw [List.mem_singleton] at hy; subst hy; exact .inl ho) r⟩
end

/-- statements: whatever stands stays, but for the frame's names and the lists at Ws -/
structure Run (M : Model) (A : Around) (env : Env) (Ws : List Addr) (ss : List Stmt) (h : Heap) (P : Flow → Heap → Prop) (X : Value → Heap → Prop) : Prop where
  go : ∀ (s : Shared) (Q : Flow → Shared → Prop) (E : Value → Shared → Prop), s.heap = h → PassesOwn M A env E →
    (∀ fl h' k, Kp (env.locals :: Ws) h h' → P fl h' → Q fl { s with heap := h', toks := k }) →
    (∀ x h' k, X x h' → E x { s with heap := h', toks := k }) → wpAny M A (execs ss env) Q E s
abbrev NoX : Value → Heap → Prop := fun _ _ => False

section
variable {prog : Program} {w : World} {A : Around} {env : Env} {h : Heap} {X : Value → Heap → Prop} {Ws : List Addr} {P : Flow → Heap → Prop} {rest : List Stmt}
theorem run_nil (p : P .next h) : Run (model prog w) A env Ws [] h P X := by
  refine ⟨fun s Q E e po q x => ?_⟩; subst e
  exact wpAny_execs_nil (q _ s.heap s.toks Kp.rfl p)
theorem run_mono {P' : Flow → Heap → Prop} {ss : List Stmt} (r : Run (model prog w) A env Ws ss h P X) (m : ∀ fl h', P fl h' → P' fl h') : Run (model prog w) A env Ws ss h P' X := by
  refine ⟨fun s Q E e po q x => ?_⟩
  exact r.go s Q E e po (fun fl h' k kp p => q fl h' k kp (m _ _ p)) x
theorem run_ret {e : Expr} {pos : Pos} {R : Value → Heap → Prop} (ev : Ev (model prog w) A env h e R X) (k : ∀ v h', Keep h h' → R v h' → P (.ret v) h') : Run (model prog w) A env Ws (.Return (some e) pos :: rest) h P X := by
  refine ⟨fun s Q E e po q x => ?_⟩; subst e
  refine wpAny_execs_cons (wpAny_Return_some (ev.go s _ E Keep.rfl (fun v h' i k' r => ?_) x))
  exact q _ _ _ k'.kp (k v h' k' r)
theorem run_ifH {test : Expr} {body orelse : List Stmt} {pos : Pos} {c : Bool} (t : Tr (model prog w) A env h test c X)
    (k1 : c = true → ∀ h', Keep h h' → Run (model prog w) A env Ws body h' (fun fl h2 => match fl with | .next => Run (model prog w) A env Ws rest h2 P X | fl => P fl h2) X)
    (k2 : c = false → ∀ h', Keep h h' → Run (model prog w) A env Ws orelse h' (fun fl h2 => match fl with | .next => Run (model prog w) A env Ws rest h2 P X | fl => P fl h2) X) :
    Run (model prog w) A env Ws (.If test body orelse pos :: rest) h P X := by
  refine ⟨fun s Q E e po q x => ?_⟩; subst e
  refine wpAny_execs_cons (wpAny_If (t.go s _ E Keep.rfl (fun c' h1 i k' r => ?_) x))
  subst r
  have fin : ∀ (ss : List Stmt), Run (model prog w) A env Ws ss h1 (fun fl h2 => match fl with | .next => Run (model prog w) A env Ws rest h2 P X | fl => P fl h2) X →
      wpAny (model prog w) A (execs ss env) (fun f s' => match f with | .next => wpAny (model prog w) A (execs rest env) Q E s' | f => Q f s') E { s with heap := h1, toks := i } := by
    intro ss r
    refine r.go _ _ E rfl po (fun fl h2 j kp p => ?_) (fun y h2 j r => x y h2 j r)
    cases fl with
    | next => exact p.go _ Q E rfl po (fun fl h3 j kp' p' => q fl h3 j (k'.kp.trans (kp.trans kp')) p') (fun y h2 j r => x y h2 j r)
    | brk => exact q _ _ _ (k'.kp.trans kp) p
    | cont => exact q _ _ _ (k'.kp.trans kp) p
    | ret v => exact q _ _ _ (k'.kp.trans kp) p
  cases c' with
  | true => exact fin _ (k1 rfl h1 k')
  | false => exact fin _ (k2 rfl h1 k')
end

section
variable {prog : Program} {w : World} {A : Around} {nm : Str} {sc : Scope} {L fa : Addr} {cd : Value} {g h : Heap} {ρ : Locs} {μ : Mut} {X : Value → Heap → Prop} {Ws : List Addr} {P : Flow → Heap → Prop} {rest : List Stmt}

theorem ev_var {x : Str} {pos : Pos} {d : PyData} (S : St g L h ρ μ) (hv : ρ.lookup x = some d) (hk : sc.kind = .function := by rfl) (hl : (envOf nm sc L fa cd).kindOf x = some .local := by rfl)
    (hd : (x == ("__debug__" : Str)) = false := by decide) : Ev (model prog w) A (envOf nm sc L fa cd) h (.Name x pos) (Rd d) X :=
  EvT.ofS fun s Q E k q => by
    obtain ⟨m, F, hr, _⟩ := (S.keep k).ex
    obtain ⟨v, as, hm, r, _⟩ := hr x d hv
    exact ld F hm (q v s.toks ⟨as, r⟩) hk hl hd
theorem ev_mut {x : Str} {pos : Pos} {l : Addr} {ds : List PyData} (S : St g L h ρ (some (x, l, ds))) (hk : sc.kind = .function := by rfl) (hl : (envOf nm sc L fa cd).kindOf x = some .local := by rfl)
    (hd : (x == ("__debug__" : Str)) = false := by decide) : Ev (model prog w) A (envOf nm sc L fa cd) h (.Name x pos) (Rd (.list ds)) X :=
  EvT.ofS fun s Q E k q => by
    obtain ⟨m, F, _, hm⟩ := (S.keep k).ex
    obtain ⟨hv, _, _, items, ⟨n, p⟩, as, r⟩ := hm _ rfl
    exact ld F hv (q _ s.toks ⟨_, .list p rfl rfl r⟩) hk hl hd
theorem ev_mutL {x : Str} {pos : Pos} {l : Addr} {ds : List PyData} (S : St g L h ρ (some (x, l, ds))) (hk : sc.kind = .function := by rfl) (hl : (envOf nm sc L fa cd).kindOf x = some .local := by rfl)
    (hd : (x == ("__debug__" : Str)) = false := by decide) : Ev (model prog w) A (envOf nm sc L fa cd) h (.Name x pos) (fun v _ => v = .ref l) X :=
  EvT.ofS fun s Q E k q => by
    obtain ⟨m, F, _, hm⟩ := (S.keep k).ex
    obtain ⟨hv, _⟩ := hm _ rfl
    exact ld F hv (q _ s.toks rfl) hk hl hd

theorem fr_set {m : Str → Option Value} {h' : Heap} {x : Str} {v : Value} (F : Fr g L h m) (hn : h'.Ns L (fun y => if y = x then some v else m y)) (hs : Heap.SameBut L h h') : Fr g L h' (fun y => if y = x then some v else m y) := F.set hn hs
theorem kp_same {a : Addr} {h h' : Heap} (hs : Heap.SameBut a h h') : Kp [a] h h' := fun b o n e => by
  rw [hs.2 b (by simpa using n)]; exact e

/-- a name bound to a datum -/
theorem St.store {x : Str} {v : Value} {d : PyData} {as : List Addr} {h' : Heap} {m : Str → Option Value} (S : St g L h ρ μ) (hμ : ∀ q, μ = some q → q.1 ≠ x) (F₀ : Fr g L h m) (r : Reads h v d as) (nL : L ∉ as) (nl : ∀ q, μ = some q → q.2.1 ∉ as)
    (hn : h'.Ns L (fun y => if y = x then some v else m y)) (hs : Heap.SameBut L h h') : St g L h' ((x, d) :: ρ) μ := by
  obtain ⟨m', F, hr, hm⟩ := S.ex
  have em : m' = m := by
    obtain ⟨o, es, ep, h1, h2, _, h4⟩ := F.ns
    obtain ⟨o', es', ep', h1', h2', _, h4'⟩ := F₀.ns
    rw [h1] at h1'; cases h1'; rw [h2] at h2'; cases h2'
    funext y; rw [← h4, ← h4']
  subst em
  have k := kp_same hs
  have hW : ∀ (bs : List Addr), L ∉ bs → ∀ a ∈ [L], Odd a h ∨ (a ∉ bs ∧ NoTup a h) := fun bs hb a ha => by
    rw [List.mem_singleton] at ha; subst ha; exact .inr ⟨hb, noTup_L F⟩
  refine ⟨_, fr_set F hn hs, fun y d' e => ?_, fun q e => ?_⟩
  · rw [List.lookup_cons] at e
    by_cases hb : y = x
    · subst hb
      rw [beq_self_eq_true] at e; cases e
      exact ⟨v, as, by simp, reads_kp k (hW _ nL) r, nL, nl⟩
    · rw [beq_eq_false_iff_ne.mpr hb] at e
      obtain ⟨v', as', a, b, c, d⟩ := hr y d' e
      exact ⟨v', as', by simp [hb, a], reads_kp k (hW _ c) b, c, d⟩
  · obtain ⟨a, b, c, items, p, r'⟩ := hm q e
    refine ⟨by simp [hμ q e, a], b, c, items, plain_kp k (by simpa using L_ne_list F p) p, rdl_flat_kp k c (fun a ha => ?_) r'⟩
    rw [List.mem_singleton] at ha; subst ha; exact noTup_L F

theorem run_assign {x : Str} {px pos : Pos} {e : Expr} {d : PyData} (S : St g L h ρ μ) (ev : Ev (model prog w) A (envOf nm sc L fa cd) h e (Rf h d) X)
    (k : ∀ h', St g L h' ((x, d) :: ρ) μ → Run (model prog w) A (envOf nm sc L fa cd) Ws rest h' P X)
    (hμ : ∀ q, μ = some q → q.1 ≠ x := by intro q e; first | (cases e; done) | (cases e; dsimp only; decide)) (hk : sc.kind = .function := by rfl) (hl : (envOf nm sc L fa cd).kindOf x = some .local := by rfl)
    (hs : pl e = true := by rfl) : Run (model prog w) A (envOf nm sc L fa cd) Ws (.Assign [.Name x px] e pos :: rest) h P X := by
  refine ⟨fun s Q E e po q x' => ?_⟩; subst e
  refine wpAny_execs_cons (wpAny_Assign_Name (ev.go s _ E Keep.rfl (fun v h1 i k1 r => ?_) x') (pl_swaps hs))
  obtain ⟨m, F, hr, hm⟩ := (S.keep k1).ex
  obtain ⟨as, r, hf⟩ := r
  refine wpAny_storeName_local hl F.ns (fun h' hn hsb => ?_) (by show (sc.kind == .class || (sc.kind == .module && L != mainGlobals)) = false; rw [hk]; rfl)
  have S' : St g L h' ((x, d) :: ρ) μ := by
    refine (S.keep k1).store hμ F r (fun hL => ?_) (fun q e hl => ?_) hn hsb
    · obtain ⟨m0, F0, _⟩ := S.ex
      obtain ⟨o, ho⟩ := L_some F0
      rw [hf L hL] at ho; cases ho
    · obtain ⟨m0, F0, _, hm0⟩ := S.ex
      obtain ⟨_, _, _, items, ⟨n, p⟩, _⟩ := hm0 q e
      rw [hf _ hl] at p; cases p
  exact (k h' S').go _ Q E rfl po (fun fl h2 j kp p => q fl h2 j ((k1.kp.trans ((kp_same hsb).mono fun b hb => by rw [List.mem_singleton] at hb; subst hb; exact .head _)).trans kp) p) (fun y h2 j r => x' y h2 j r)
/-- ... a datum without lists in it -/
theorem run_set {x : Str} {px pos : Pos} {e : Expr} {d : PyData} (S : St g L h ρ μ) (ev : Ev (model prog w) A (envOf nm sc L fa cd) h e (Rd d) X)
    (k : ∀ h', St g L h' ((x, d) :: ρ) μ → Run (model prog w) A (envOf nm sc L fa cd) Ws rest h' P X) (hf : flat d = true := by rfl)
    (hμ : ∀ q, μ = some q → q.1 ≠ x := by intro q e; first | (cases e; done) | (cases e; dsimp only; decide)) (hk : sc.kind = .function := by rfl) (hl : (envOf nm sc L fa cd).kindOf x = some .local := by rfl)
    (hs : pl e = true := by rfl) : Run (model prog w) A (envOf nm sc L fa cd) Ws (.Assign [.Name x px] e pos :: rest) h P X :=
  run_assign S (ev.mono fun _ _ _ r => .of_flat hf r) k hμ hk hl hs
/-- ... a new list that is to be changed -/
theorem run_own {x : Str} {px pos : Pos} {e : Expr} {ds : List PyData} (S : St g L h ρ none) (ev : Ev (model prog w) A (envOf nm sc L fa cd) h e (Rl h ds) X)
    (k : ∀ l h', St g L h' ρ (some (x, l, ds)) → Run (model prog w) A (envOf nm sc L fa cd) (l :: Ws) rest h' P X) (hf : flatL ds = true := by rfl) (hx : ρ.lookup x = none := by rfl)
    (hk : sc.kind = .function := by rfl) (hl : (envOf nm sc L fa cd).kindOf x = some .local := by rfl)
    (hs : pl e = true := by rfl) : Run (model prog w) A (envOf nm sc L fa cd) Ws (.Assign [.Name x px] e pos :: rest) h P X := by
  refine ⟨fun s Q E e po q x' => ?_⟩; subst e
  refine wpAny_execs_cons (wpAny_Assign_Name (ev.go s _ E Keep.rfl (fun v h1 i k1 r => ?_) x') (pl_swaps hs))
  obtain ⟨m, F, hr, hm⟩ := (S.keep k1).ex
  obtain ⟨l, items, rfl, p, r, fresh⟩ := r
  refine wpAny_storeName_local hl F.ns (fun h' hn hsb => ?_) (by show (sc.kind == .class || (sc.kind == .module && L != mainGlobals)) = false; rw [hk]; rfl)
  have kp1 : Kp [L] h1 h' := kp_same hsb
  have S' : St g L h' ρ (some (x, l, ds)) := by
    refine ⟨_, fr_set F hn hsb, fun y d' e => ?_, fun q e => ?_⟩
    · have hy : y ≠ x := fun hb => by subst hb; rw [hx] at e; cases e
      obtain ⟨m0, F0, hr0, _⟩ := S.ex
      obtain ⟨v', as', a, b, c, _⟩ := hr0 y d' e
      have em : m0 = m := by
        obtain ⟨o, es, ep, h1, h2, _, h4⟩ := (F0.after k1).ns
        obtain ⟨o', es', ep', h1', h2', _, h4'⟩ := F.ns
        rw [h1] at h1'; cases h1'; rw [h2] at h2'; cases h2'
        funext y; rw [← h4, ← h4']
      subst em
      refine ⟨v', as', by simp [hy, a], reads_kp kp1 (fun a ha => ?_) (PyProof.Rows.Reads.keeps k1 b), c, fun q e hq => ?_⟩
      · rw [List.mem_singleton] at ha; subst ha; exact .inr ⟨c, noTup_L F⟩
      · cases e
        have : ∃ o, s.heap.get? l = some o := reads_some b l hq
        obtain ⟨o, ho⟩ := this
        rw [fresh] at ho; cases ho
    · cases e
      refine ⟨by simp, ?_, hf, items, plain_kp kp1 (by simpa using L_ne_list F p) p, rdl_flat_kp kp1 hf (fun a ha => ?_) r⟩
      · exact S.frK.none fresh
      · rw [List.mem_singleton] at ha; subst ha; exact noTup_L F
  refine (k l h' S').go _ Q E rfl po (fun fl h2 j kp p' => q fl h2 j ?_ p') (fun y h2 j r => x' y h2 j r)
  intro b o nb eb
  have hbl : b ≠ l := fun e => by subst e; rw [fresh] at eb; cases eb
  have hbL : b ≠ L := fun e => nb (by rw [e]; exact .head _)
  refine kp b o ?_ (kp1 b o (by simpa using hbL) (k1 b o eb))
  intro hb
  cases hb with
  | head => exact nb (.head _)
  | tail _ hb => cases hb with
    | head => exact hbl rfl
    | tail _ hb => exact nb (.tail _ hb)

theorem run_if {test : Expr} {body orelse : List Stmt} {pos : Pos} {c : Bool} (S : St g L h ρ μ) (t : Tr (model prog w) A (envOf nm sc L fa cd) h test c X)
    (k1 : c = true → ∀ h', St g L h' ρ μ → Run (model prog w) A (envOf nm sc L fa cd) Ws body h' (fun fl h2 => match fl with | .next => Run (model prog w) A (envOf nm sc L fa cd) Ws rest h2 P X | fl => P fl h2) X)
    (k2 : c = false → ∀ h', St g L h' ρ μ → Run (model prog w) A (envOf nm sc L fa cd) Ws orelse h' (fun fl h2 => match fl with | .next => Run (model prog w) A (envOf nm sc L fa cd) Ws rest h2 P X | fl => P fl h2) X) :
    Run (model prog w) A (envOf nm sc L fa cd) Ws (.If test body orelse pos :: rest) h P X :=
  run_ifH t (fun e h' kp => k1 e h' (S.keep kp)) (fun e h' kp => k2 e h' (S.keep kp))

end
end Mine

namespace Mine
open PySem PySem.Spec PySem.Calls PyProof.Rows

structure Cx where
  prog : Program
  w : World
  p : Program
  loose : List Str
  mean : ExcName → Option Value
  mg : Str → Option Value
  mb : Str → Option Value
abbrev Cx.T (c : Cx) (h : Heap) : Prop := Top c.p c.loose c.mean c.mg c.mb h
abbrev Cx.M (c : Cx) : Model := model c.prog c.w

/-- room for n more frames -/
structure Rm (A : Around) (n : Nat) : Prop where
  hd : A.handled = none
  dep : A.depth + n < recursionLimit
  un : A.units + 3 * n + 100 < cLine
theorem Rm.deeper {A : Around} {n : Nat} {env : Env} (r : Rm A (n + 1)) : Rm (A.deeper env) n :=
  ⟨r.hd, by have := r.dep; show A.depth + 1 + n < _; (first | lia | omega), by have := r.un; show A.units + 3 + 3 * n + 100 < _; (first | lia | omega)⟩
theorem Rm.less {A : Around} {n m : Nat} (r : Rm A n) (h : m ≤ n) : Rm A m := ⟨r.hd, by have := r.dep; (first | lia | omega), by have := r.un; (first | lia | omega)⟩

def retv : Flow → Value
  | .ret v => v
  | _ => .none

/-- what a call of a def gives -/
structure Fn (c : Cx) (n : Nat) (f : Str) (ds : List PyData) (R : Heap → Value → Heap → Prop) : Prop where
  isDef : ∃ dr ∈ recsOf c.p, dr.name = f
  run : ∀ (A : Around) (h : Heap) (vs : List Value) (a : Addr), c.T h → Rm A n → c.mg f = some (.ref a) → RdL ds vs h → EvT c.M A h (call (.ref a) vs) (R h) NoX
abbrev FnD (c : Cx) (n : Nat) (f : Str) (ds : List PyData) (d : PyData) : Prop := Fn c n f ds fun h => Rf h d
abbrev FnL (c : Cx) (n : Nat) (f : Str) (ds : List PyData) (rs : List PyData) : Prop := Fn c n f ds fun h => Rl h rs

theorem rf_old {d : PyData} : ∀ h0 h1 v h', Keep h0 h1 → Rf h1 d v h' → Rf h0 d v h' := fun _ _ _ _ k r => r.old k
theorem rl_old {ds : List PyData} : ∀ h0 h1 v h', Keep h0 h1 → Rl h1 ds v h' → Rl h0 ds v h' := fun _ _ _ _ k r => r.old k

def zipL : List Str → List PyData → Locs
  | x :: xs, d :: ds => (x, d) :: zipL xs ds
  | _, _ => []
theorem zip_reads {g : Heap} : ∀ {xs : List Str} {ds : List PyData} {vs : List Value}, RdL ds vs g → xs.Nodup → xs.length = ds.length →
    ∀ x d, (zipL xs ds).lookup x = some d → ∃ v as, (xs.zip vs).reverse.lookup x = some v ∧ Reads g v d as
  | [], _, _, _, _, _, x, d, e => by simp [zipL] at e
  | y :: xs, [], _, _, _, hl, x, d, e => by simp at hl
  | y :: xs, d' :: ds, vs, r, hn, hl, x, d, e => by
    obtain ⟨v, vs', rfl, r1, r2⟩ := r.uncons
    rw [List.nodup_cons] at hn
    rw [zipL, List.lookup_cons] at e
    rw [List.zip_cons_cons, List.reverse_cons, List.lookup_append]
    by_cases hb : x = y
    · subst hb
      rw [beq_self_eq_true] at e; cases e
      obtain ⟨as, r1⟩ := r1
      refine ⟨v, as, ?_, r1⟩
      have : (xs.zip vs').reverse.lookup x = none := by
        rw [List.lookup_eq_none_iff]
        intro p hp
        have hp' : p ∈ xs.zip vs' := by simpa using hp
        have := (List.of_mem_zip (a := p.1) (b := p.2) hp').1
        rw [bne_iff_ne]
        intro e; rw [e] at hn; exact hn.1 this
      rw [this]; simp [List.lookup]
    · rw [beq_eq_false_iff_ne.mpr hb] at e
      obtain ⟨v', as, q, r⟩ := zip_reads r2 hn.2 (by simpa using hl) x d e
      exact ⟨v', as, by rw [q]; rfl, r⟩

theorem recs_at {p : Program} {g : Stmt → Option DefRec} (hg : recsOf p = p.main.body.filterMap g) {i : Nat} {st : Stmt} {d : DefRec} (h1 : p.main.body[i]? = some st) (h2 : g st = some d) : d ∈ recsOf p := by
  rw [hg]; exact List.mem_filterMap.mpr ⟨st, List.mem_of_getElem? h1, h2⟩
/-- the def at a place of the top -/
theorem def_at {p q : Program} (hq : recsOf q = recsOf p) {g : Stmt → Option DefRec} (i : Nat) {dn : Str} {dp : Arguments} {db : List Stmt} {dd dr' dt bd ts} {dsc : Scope} {dps : Pos} {f : Str} (h1 : p.main.body[i]? = some (.FunctionDef dn dp db dd dr' dt dsc ts bd dps)) (hn : dn = f) (hg : recsOf p = p.main.body.filterMap g)
    (h2 : g (.FunctionDef dn dp db dd dr' dt dsc ts bd dps) = some ⟨dn, dp, db, dsc, dps⟩) : (⟨dn, dp, db, dsc, dps⟩ : DefRec) ∈ recsOf q ∧ dn = f := ⟨by rw [hq]; exact recs_at hg h1 h2, hn⟩

section
variable {c : Cx} {n : Nat} {f : Str} {ds : List PyData} {R : Heap → Value → Heap → Prop}
theorem fn_core {dn : Str} {dp : Arguments} {db : List Stmt} {dsc : Scope} {dps : Pos} {xs : List Str} (hd : (⟨dn, dp, db, dsc, dps⟩ : DefRec) ∈ recsOf c.p ∧ dn = f)
    (hb : ∀ pm cd doc (vs : List Value), vs.length = ds.length → bindArgs (docDef dn dp db dsc pm cd doc) ⟨vs, []⟩ = pure (xs.zip vs))
    (hlen : xs.length = ds.length) (hnd : xs.Nodup) (hloc : ∀ x ∈ xs, dsc.names.lookup x = some .local)
    (hco : dsc.isCoroutine = false) (hgen : dsc.isGenerator = false) (hk : dsc.kind = .function) (hcell : ∀ x ∈ dsc.names, x.2 ≠ .cell)
    (hR : ∀ h0 h1 v h', Keep h0 h1 → R h1 v h' → R h0 v h')
    (k : ∀ (A : Around) (g h : Heap) (L fa : Addr) (cd : Value), c.T g → Rm A n → St g L h (zipL xs ds) none → Run c.M A (envOf dn dsc L fa cd) [] db h (fun fl h' => R g (retv fl) h') NoX) : Fn c (n + 1) f ds R := by
  obtain ⟨hd, hn⟩ := hd
  refine ⟨⟨_, hd, hn⟩, ?_⟩
  intro A h vs a T rm ha r
  refine ⟨fun s Q E kp q x => ?_⟩
  obtain ⟨a', o, pm, cd, doc, h1, h2, h3, h4⟩ := T.fn ⟨dn, dp, db, dsc, dps⟩ hd
  dsimp only at h1 h3 h4
  rw [hn, ha] at h1; cases h1
  refine wpAny_call (call_plain (by have := rm.dep; (first | lia | omega)) (kp _ _ h2) h3 (T.nolimit.keeps kp) (h4.keeps kp) (hb pm cd doc vs (r.len)) (fun y hy => hloc _ (List.of_mem_zip (a := y.1) (b := y.2) hy).1) (fun h₁ F => ?_) hco hgen hk hcell)
  have S : St s.heap s.heap.objs.size h₁ (zipL xs ds) none := by
    refine ⟨_, F, fun x d e => ?_, fun q e => nomatch e⟩
    obtain ⟨v, as, e', r'⟩ := zip_reads (r.keep kp) hnd hlen x d e
    refine ⟨v, as, e', PyProof.Rows.Reads.keeps F.keep r', fun hL => ?_, fun q e => nomatch e⟩
    obtain ⟨o, ho⟩ := reads_some r' _ hL
    exact absurd (Heap.lt_size ho) (Nat.lt_irrefl _)
  refine (k (A.deeper (envOf dn dsc s.heap.objs.size a cd)) s.heap h₁ _ a cd (T.keeps kp) rm.deeper S).go _ _ _ rfl PassesOwn.leaving (fun fl h' i kp' p => ?_) (fun _ _ _ r => r.elim)
  have kk : Keep s.heap h' := fun b o e => kp' b o (by
    intro hb
    rw [List.mem_singleton] at hb
    rw [hb] at e
    exact absurd (Heap.lt_size e) (Nat.lt_irrefl _)) (F.keep b o e)
  have := q (retv fl) h' i kk (hR _ _ _ _ kp p)
  cases fl <;> exact this
end

theorem lens1 {α : Type} {vs : List α} (h : vs.length = 1) : ∃ a, vs = [a] := by
  match vs, h with
  | [a], _ => exact ⟨a, rfl⟩
theorem lens2 {α : Type} {vs : List α} (h : vs.length = 2) : ∃ a b, vs = [a, b] := by
  match vs, h with
  | [a, b], _ => exact ⟨a, b, rfl⟩
theorem lens3 {α : Type} {vs : List α} (h : vs.length = 3) : ∃ a b c, vs = [a, b, c] := by
  match vs, h with
  | [a, b, c], _ => exact ⟨a, b, c, rfl⟩
theorem lens4 {α : Type} {vs : List α} (h : vs.length = 4) : ∃ a b c d, vs = [a, b, c, d] := by
  match vs, h with
  | [a, b, c, d], _ => exact ⟨a, b, c, d, rfl⟩

section
variable {c : Cx} {n : Nat} {f : Str} {R : Heap → Value → Heap → Prop} {dn : Str} {dp : Arguments} {db : List Stmt} {dsc : Scope} {dps : Pos} {x1 x2 x3 x4 : Str} {d1 d2 d3 d4 : PyData}
theorem fn1 (hd : (⟨dn, dp, db, dsc, dps⟩ : DefRec) ∈ recsOf c.p ∧ dn = f) (hR : ∀ h0 h1 v h', Keep h0 h1 → R h1 v h' → R h0 v h')
    (hb : ∀ pm cd doc (v1 : Value), bindArgs (docDef dn dp db dsc pm cd doc) ⟨[v1], []⟩ = pure [(x1, v1)])
    (k : ∀ (A : Around) (g h : Heap) (L fa : Addr) (cd : Value), c.T g → Rm A n → St g L h [(x1, d1)] none → Run c.M A (envOf dn dsc L fa cd) [] db h (fun fl h' => R g (retv fl) h') NoX)
    (hnd : [x1].Nodup := by decide +kernel) (hloc : ∀ x ∈ [x1], dsc.names.lookup x = some .local := by decide +kernel)
    (hco : dsc.isCoroutine = false := by rfl) (hgen : dsc.isGenerator = false := by rfl) (hk : dsc.kind = .function := by rfl) (hcell : ∀ x ∈ dsc.names, x.2 ≠ .cell := by decide +kernel) : Fn c (n + 1) f [d1] R :=
  fn_core (xs := [x1]) hd (fun pm cd doc vs h => by obtain ⟨v1, rfl⟩ := lens1 h; exact hb pm cd doc v1) rfl hnd hloc hco hgen hk hcell hR k
theorem fn2 (hd : (⟨dn, dp, db, dsc, dps⟩ : DefRec) ∈ recsOf c.p ∧ dn = f) (hR : ∀ h0 h1 v h', Keep h0 h1 → R h1 v h' → R h0 v h')
    (hb : ∀ pm cd doc (v1 v2 : Value), bindArgs (docDef dn dp db dsc pm cd doc) ⟨[v1, v2], []⟩ = pure [(x1, v1), (x2, v2)])
    (k : ∀ (A : Around) (g h : Heap) (L fa : Addr) (cd : Value), c.T g → Rm A n → St g L h [(x1, d1), (x2, d2)] none → Run c.M A (envOf dn dsc L fa cd) [] db h (fun fl h' => R g (retv fl) h') NoX)
    (hnd : [x1, x2].Nodup := by decide +kernel) (hloc : ∀ x ∈ [x1, x2], dsc.names.lookup x = some .local := by decide +kernel)
    (hco : dsc.isCoroutine = false := by rfl) (hgen : dsc.isGenerator = false := by rfl) (hk : dsc.kind = .function := by rfl) (hcell : ∀ x ∈ dsc.names, x.2 ≠ .cell := by decide +kernel) : Fn c (n + 1) f [d1, d2] R :=
  fn_core (xs := [x1, x2]) hd (fun pm cd doc vs h => by obtain ⟨v1, v2, rfl⟩ := lens2 h; exact hb pm cd doc v1 v2) rfl hnd hloc hco hgen hk hcell hR k
theorem fn3 (hd : (⟨dn, dp, db, dsc, dps⟩ : DefRec) ∈ recsOf c.p ∧ dn = f) (hR : ∀ h0 h1 v h', Keep h0 h1 → R h1 v h' → R h0 v h')
    (hb : ∀ pm cd doc (v1 v2 v3 : Value), bindArgs (docDef dn dp db dsc pm cd doc) ⟨[v1, v2, v3], []⟩ = pure [(x1, v1), (x2, v2), (x3, v3)])
    (k : ∀ (A : Around) (g h : Heap) (L fa : Addr) (cd : Value), c.T g → Rm A n → St g L h [(x1, d1), (x2, d2), (x3, d3)] none → Run c.M A (envOf dn dsc L fa cd) [] db h (fun fl h' => R g (retv fl) h') NoX)
    (hnd : [x1, x2, x3].Nodup := by decide +kernel) (hloc : ∀ x ∈ [x1, x2, x3], dsc.names.lookup x = some .local := by decide +kernel)
    (hco : dsc.isCoroutine = false := by rfl) (hgen : dsc.isGenerator = false := by rfl) (hk : dsc.kind = .function := by rfl) (hcell : ∀ x ∈ dsc.names, x.2 ≠ .cell := by decide +kernel) : Fn c (n + 1) f [d1, d2, d3] R :=
  fn_core (xs := [x1, x2, x3]) hd (fun pm cd doc vs h => by obtain ⟨v1, v2, v3, rfl⟩ := lens3 h; exact hb pm cd doc v1 v2 v3) rfl hnd hloc hco hgen hk hcell hR k
theorem fn4 (hd : (⟨dn, dp, db, dsc, dps⟩ : DefRec) ∈ recsOf c.p ∧ dn = f) (hR : ∀ h0 h1 v h', Keep h0 h1 → R h1 v h' → R h0 v h')
    (hb : ∀ pm cd doc (v1 v2 v3 v4 : Value), bindArgs (docDef dn dp db dsc pm cd doc) ⟨[v1, v2, v3, v4], []⟩ = pure [(x1, v1), (x2, v2), (x3, v3), (x4, v4)])
    (k : ∀ (A : Around) (g h : Heap) (L fa : Addr) (cd : Value), c.T g → Rm A n → St g L h [(x1, d1), (x2, d2), (x3, d3), (x4, d4)] none → Run c.M A (envOf dn dsc L fa cd) [] db h (fun fl h' => R g (retv fl) h') NoX)
    (hnd : [x1, x2, x3, x4].Nodup := by decide +kernel) (hloc : ∀ x ∈ [x1, x2, x3, x4], dsc.names.lookup x = some .local := by decide +kernel)
    (hco : dsc.isCoroutine = false := by rfl) (hgen : dsc.isGenerator = false := by rfl) (hk : dsc.kind = .function := by rfl) (hcell : ∀ x ∈ dsc.names, x.2 ≠ .cell := by decide +kernel) : Fn c (n + 1) f [d1, d2, d3, d4] R :=
  fn_core (xs := [x1, x2, x3, x4]) hd (fun pm cd doc vs h => by obtain ⟨v1, v2, v3, v4, rfl⟩ := lens4 h; exact hb pm cd doc v1 v2 v3 v4) rfl hnd hloc hco hgen hk hcell hR k
end

section
variable {c : Cx} {n : Nat} {A : Around} {nm : Str} {sc : Scope} {L fa : Addr} {cd : Value} {g h : Heap} {ρ : Locs} {μ : Mut} {X : Value → Heap → Prop}
/-- a call of a def by its name -/
theorem ev_call {k : Nat} {f : Str} {p pos : Pos} {e : Expr} {es : List Expr} {ds : List PyData} {R : Heap → Value → Heap → Prop} (S : St g L h ρ μ) (T : c.T g) (rm : Rm A n) (F : Fn c k f ds R) (a : EvL c.M A (envOf nm sc L fa cd) h pos (e :: es) ds X)
    (hkn : k ≤ n := by decide) (hR : ∀ h0 h1 v h', Keep h0 h1 → R h1 v h' → R h0 v h' := by first | exact rf_old | exact rl_old)
    (hk : sc.kind = .function := by rfl) (hx : (envOf nm sc L fa cd).kindOf f = some .globalImplicit := by rfl) (hd : (f == ("__debug__" : Str)) = false := by decide)
    (he : pl e = true := by rfl) :
    Ev c.M A (envOf nm sc L fa cd) h (.Call (.Name f p) (e :: es) [] pos) (R h) X := by
  refine ⟨fun s Q E k q x => ?_⟩
  obtain ⟨m, F0, _⟩ := (S.keep k).ex
  obtain ⟨dr, hdr, hn⟩ := F.isDef
  obtain ⟨a', o, pm, cd', doc, h1, h2, h3, h4⟩ := T.fn dr hdr
  rw [hn] at h1
  refine wpAny_Call_NameR (ld_global_at F0 T.g h1 ?_ hk hx hd)
  refine callWith_def h3 (a.seq k (fun vs h' i k' r => ?_) x) (pl_star he)
  refine ⟨k' _ _ (F0.keep _ _ h2), ?_⟩
  have T' : c.T h' := T.keeps fun b o e => k' _ _ (F0.keep b o e)
  exact (F.run A h' vs a' T' (rm.less hkn) h1 r).seq (s := { s with heap := h', toks := i }) Keep.rfl (fun v h2 j k2 r2 => q v h2 j (Keep.trans k' k2) (hR _ _ _ _ (k.trans k') r2)) (fun _ _ _ r => r.elim)
/-- ... a datum comes back -/
theorem ev_calld {k : Nat} {f : Str} {p pos : Pos} {e : Expr} {es : List Expr} {ds : List PyData} {d : PyData} (S : St g L h ρ μ) (T : c.T g) (rm : Rm A n) (F : FnD c k f ds d) (a : EvL c.M A (envOf nm sc L fa cd) h pos (e :: es) ds X)
    (hkn : k ≤ n := by decide)
    (hk : sc.kind = .function := by rfl) (hx : (envOf nm sc L fa cd).kindOf f = some .globalImplicit := by rfl) (hd : (f == ("__debug__" : Str)) = false := by decide)
    (he : pl e = true := by rfl) :
    Ev c.M A (envOf nm sc L fa cd) h (.Call (.Name f p) (e :: es) [] pos) (Rd d) X := (ev_call S T rm F a hkn rf_old hk hx hd he).mono fun _ _ _ r => r.rd
end
end Mine

namespace Mine
open PySem PySem.Spec PySem.Calls PyProof.Rows

theorem pl_plain {pos : Pos} {env : Env} : ∀ {es : List Expr}, es.all pl = true → (backTo pos (starEach es env)).any (·.1) = false
  | [], _ => rfl
  | x :: es, h => by
    simp only [List.all_cons, Bool.and_eq_true] at h
    rw [pl_star h.1]
    show (false || (backTo pos (starEach es env)).any (·.1)) = false
    rw [pl_plain h.2]; rfl
/-- the names that the text does not bind -/
def bnames : List Str := ["isinstance", "int", "bool", "tuple", "list", "str", "len", "abs", "min", "max", "range", "reversed", "ValueError"]
def Bn (c : Cx) : Prop := ∀ x ∈ bnames, c.mg x = none

section
variable {c : Cx} {A : Around} {nm : Str} {sc : Scope} {L fa : Addr} {cd : Value} {g h : Heap} {ρ : Locs} {μ : Mut} {X : Value → Heap → Prop}
theorem ev_bname {x : Str} {pos : Pos} {v : Value} (S : St g L h ρ μ) (T : c.T g) (B : Bn c) (hx : x ∈ bnames) (hv : bootBuiltins x = some v) (hn : x ≠ "__name__" := by decide)
    (hk : sc.kind = .function := by rfl) (hg : (envOf nm sc L fa cd).kindOf x = some .globalImplicit := by rfl) (hd : (x == ("__debug__" : Str)) = false := by decide) :
    Ev c.M A (envOf nm sc L fa cd) h (.Name x pos) (fun v' _ => v' = v) X :=
  EvT.ofS fun s Q E k q => by
    obtain ⟨m, F, _⟩ := (S.keep k).ex
    exact ld_builtin_at F T.g (B x hx) T.b ((T.builtins x hn).trans hv) (q v s.toks rfl) hk hg hd
theorem ev_gname {x : Str} {pos : Pos} {v : Value} (S : St g L h ρ μ) (T : c.T g) (hv : c.mg x = some v)
    (hk : sc.kind = .function := by rfl) (hg : (envOf nm sc L fa cd).kindOf x = some .globalImplicit := by rfl) (hd : (x == ("__debug__" : Str)) = false := by decide) :
    Ev c.M A (envOf nm sc L fa cd) h (.Name x pos) (fun v' _ => v' = v) X :=
  EvT.ofS fun s Q E k q => by
    obtain ⟨m, F, _⟩ := (S.keep k).ex
    exact ld_global_at F T.g hv (q v s.toks rfl) hk hg hd

/-- a built-in function by its name -/
theorem ev_bcall {x : Str} {id : String} {p pos : Pos} {e : Expr} {es : List Expr} {ds : List PyData} {R : Value → Heap → Prop} (S : St g L h ρ μ) (T : c.T g) (B : Bn c) (hx : x ∈ bnames) (hv : bootBuiltins x = some (.builtin id))
    (a : EvL c.M A (envOf nm sc L fa cd) h pos (e :: es) ds X) (o : ∀ vs h', Keep h h' → RdL ds vs h' → EvT c.M A h' (call (.builtin id) vs) R X) (hn : x ≠ "__name__" := by decide)
    (hk : sc.kind = .function := by rfl) (hg : (envOf nm sc L fa cd).kindOf x = some .globalImplicit := by rfl) (hd : (x == ("__debug__" : Str)) = false := by decide)
    (he : pl e = true := by rfl) (hpl : es.all pl = true := by rfl) :
    Ev c.M A (envOf nm sc L fa cd) h (.Call (.Name x p) (e :: es) [] pos) R X := by
  refine ⟨fun s Q E k q x' => ?_⟩
  refine wpAny_Call_NameR ((ev_bname S T B hx hv hn hk hg hd).seq k (fun v h1 i k1 r => ?_) x')
  subst r
  refine callWith_builtin1 ((a.up (k.trans k1)).seq (s := { s with heap := h1, toks := i }) Keep.rfl (fun vs h2 j k2 r2 => ?_) (fun y h2 j r => x' y h2 j r)) (pl_star he) (pl_plain hpl)
  exact (o vs h2 (k.trans (Keep.trans k1 k2)) r2).seq (s := { s with heap := h2, toks := j }) Keep.rfl (fun v h3 j k3 r3 => q v h3 j (Keep.trans k1 (Keep.trans k2 k3)) r3) (fun y h3 j r => x' y h3 j r)
/-- a built-in class by its name -/
theorem ev_tcall {x : Str} {id : String} {p pos : Pos} {e : Expr} {es : List Expr} {ds : List PyData} {R : Value → Heap → Prop} (S : St g L h ρ μ) (T : c.T g) (B : Bn c) (hx : x ∈ bnames) (hv : bootBuiltins x = some (.type id))
    (a : EvL c.M A (envOf nm sc L fa cd) h pos (e :: es) ds X) (o : ∀ vs h', Keep h h' → RdL ds vs h' → EvT c.M A h' (call (.type id) vs) R X) (hn : x ≠ "__name__" := by decide)
    (hk : sc.kind = .function := by rfl) (hg : (envOf nm sc L fa cd).kindOf x = some .globalImplicit := by rfl) (hd : (x == ("__debug__" : Str)) = false := by decide)
    (he : pl e = true := by rfl) (hpl : es.all pl = true := by rfl) :
    Ev c.M A (envOf nm sc L fa cd) h (.Call (.Name x p) (e :: es) [] pos) R X := by
  refine ⟨fun s Q E k q x' => ?_⟩
  refine wpAny_Call_NameR ((ev_bname S T B hx hv hn hk hg hd).seq k (fun v h1 i k1 r => ?_) x')
  subst r
  refine PyProof.Rows.callWith_type1 ((a.up (k.trans k1)).seq (s := { s with heap := h1, toks := i }) Keep.rfl (fun vs h2 j k2 r2 => ?_) (fun y h2 j r => x' y h2 j r)) (pl_star he) (pl_plain hpl)
  exact (o vs h2 (k.trans (Keep.trans k1 k2)) r2).seq (s := { s with heap := h2, toks := j }) Keep.rfl (fun v h3 j k3 r3 => q v h3 j (Keep.trans k1 (Keep.trans k2 k3)) r3) (fun y h3 j r => x' y h3 j r)
end

section
variable {prog : Program} {w : World} {A : Around} {h : Heap} {X : Value → Heap → Prop}
def isiB : PyData → String → Bool
  | .int _, T => T == "int"
  | .bool _, T => T == "bool" || T == "int"
  | .str _, T => T == "str"
  | .none, _ => false
  | .list _, T => T == "list"
  | .tuple _, T => T == "tuple"
  | .dict _, T => T == "dict"
def isiTs : List String := ["int", "bool", "tuple", "list", "str"]
theorem op_isi {d : PyData} {T : String} {v : Value} (hT : T ∈ isiTs) (r : Rd d v h) : EvT (model prog w) A h (call (.builtin "isinstance") [v, .type T]) (Rd (.bool (isiB d T))) X := by
  refine EvT.of fun s Q E k q => ?_
  have qt : ∀ b, Rd (.bool b) (.bool b) s.heap := fun b => ⟨_, .bool _⟩
  obtain ⟨as, r⟩ := r
  simp only [isiTs, List.mem_cons, List.not_mem_nil, or_false] at hT
  cases r with
  | int i t =>
    rcases hT with rfl | rfl | rfl | rfl | rfl
    · exact IsiPair.int_int (q _ s.heap s.toks Keep.rfl (qt _))
    · exact IsiPair.int_bool (q _ s.heap _ Keep.rfl (qt _))
    · exact IsiPair.int_tuple (q _ s.heap _ Keep.rfl (qt _))
    · exact IsiPair.int_list (q _ s.heap _ Keep.rfl (qt _))
    · exact IsiPair.int_str (q _ s.heap _ Keep.rfl (qt _))
  | bool b =>
    rcases hT with rfl | rfl | rfl | rfl | rfl
    · exact IsiPair.bool_int (q _ s.heap s.toks Keep.rfl (qt _))
    · exact IsiPair.bool_bool (q _ s.heap s.toks Keep.rfl (qt _))
    · exact IsiPair.bool_tuple (q _ s.heap _ Keep.rfl (qt _))
    · exact IsiPair.bool_list (q _ s.heap _ Keep.rfl (qt _))
    · exact IsiPair.bool_str (q _ s.heap _ Keep.rfl (qt _))
  | str x t =>
    rcases hT with rfl | rfl | rfl | rfl | rfl
    · exact IsiPair.str_int (q _ s.heap _ Keep.rfl (qt _))
    · exact IsiPair.str_bool (q _ s.heap _ Keep.rfl (qt _))
    · exact IsiPair.str_tuple (q _ s.heap _ Keep.rfl (qt _))
    · exact IsiPair.str_list (q _ s.heap _ Keep.rfl (qt _))
    · exact IsiPair.str_str (q _ s.heap s.toks Keep.rfl (qt _))
  | none =>
    rcases hT with rfl | rfl | rfl | rfl | rfl
    · exact call_isinstance (isinstance_false_none (by decide +kernel) F.isi_meta_int (by kernel_rfl)) (q _ s.heap _ Keep.rfl (qt _))
    · exact call_isinstance (isinstance_false_none (by decide +kernel) F.isi_meta_bool (by kernel_rfl)) (q _ s.heap _ Keep.rfl (qt _))
    · exact call_isinstance (isinstance_false_none (by decide +kernel) F.isi_meta_tuple (by kernel_rfl)) (q _ s.heap _ Keep.rfl (qt _))
    · exact call_isinstance (isinstance_false_none (by decide +kernel) F.isi_meta_list (by kernel_rfl)) (q _ s.heap _ Keep.rfl (qt _))
    · exact call_isinstance (isinstance_false_none (by decide +kernel) F.isi_meta_str (by kernel_rfl)) (q _ s.heap _ Keep.rfl (qt _))
  | list h1 h2 h3 y =>
    rcases hT with rfl | rfl | rfl | rfl | rfl
    · exact IsiPair.list_int (k _ _ h1) h2 (q _ s.heap _ Keep.rfl (qt _))
    · exact IsiPair.list_bool (k _ _ h1) h2 (q _ s.heap _ Keep.rfl (qt _))
    · exact IsiPair.list_tuple (k _ _ h1) h2 (q _ s.heap _ Keep.rfl (qt _))
    · exact IsiPair.list_list (k _ _ h1) h2 (q _ s.heap s.toks Keep.rfl (qt _))
    · exact IsiPair.list_str (k _ _ h1) h2 (q _ s.heap _ Keep.rfl (qt _))
  | tuple h1 h2 h3 y =>
    rcases hT with rfl | rfl | rfl | rfl | rfl
    · exact IsiPair.tuple_int (k _ _ h1) h2 (q _ s.heap _ Keep.rfl (qt _))
    · exact IsiPair.tuple_bool (k _ _ h1) h2 (q _ s.heap _ Keep.rfl (qt _))
    · exact IsiPair.tuple_tuple (k _ _ h1) h2 (q _ s.heap s.toks Keep.rfl (qt _))
    · exact IsiPair.tuple_list (k _ _ h1) h2 (q _ s.heap _ Keep.rfl (qt _))
    · exact IsiPair.tuple_str (k _ _ h1) h2 (q _ s.heap _ Keep.rfl (qt _))
  | dict h1 h2 h3 y z =>
    rcases hT with rfl | rfl | rfl | rfl | rfl
    · exact IsiPair.dict_int (k _ _ h1) h2 (q _ s.heap _ Keep.rfl (qt _))
    · exact IsiPair.dict_bool (k _ _ h1) h2 (q _ s.heap _ Keep.rfl (qt _))
    · exact IsiPair.dict_tuple (k _ _ h1) h2 (q _ s.heap _ Keep.rfl (qt _))
    · exact IsiPair.dict_list (k _ _ h1) h2 (q _ s.heap _ Keep.rfl (qt _))
    · exact IsiPair.dict_str (k _ _ h1) h2 (q _ s.heap _ Keep.rfl (qt _))
theorem op_len {ds : List PyData} {v : Value} (hn : ds.length < 2 ^ 62) (r : Rd (.list ds) v h ∨ Rd (.tuple ds) v h) : EvT (model prog w) A h (call (.builtin "len") [v]) (Rd (.int ds.length)) X := by
  refine EvT.ofS fun s Q E k q => ?_
  rcases r with r | r
  · obtain ⟨a, items, rfl, il, r⟩ := rd_list r
    have e : items.size = ds.length := by have := r.len; simpa using this
    obtain ⟨o, ho, il⟩ := il
    refine PyProof.Rows.len_list (items := items) ⟨o, k _ _ ho, il⟩ (by rw [e]; (first | lia | omega)) ?_
    rw [e]; exact q _ _ ⟨_, .int _ _⟩
  · obtain ⟨a, items, rfl, il, r⟩ := rd_tup r
    have e : items.size = ds.length := by have := r.len; simpa using this
    obtain ⟨o, ho, il⟩ := il
    refine PyProof.Rows.len_tuple (items := items) ⟨o, k _ _ ho, il⟩ (by rw [e]; (first | lia | omega)) ?_
    rw [e]; exact q _ _ ⟨_, .int _ _⟩
end
end Mine

namespace Mine
open PySem PySem.Spec PySem.Calls PyProof.Rows

section
variable {prog : Program} {w : World} {A : Around} {env : Env} {h : Heap} {X : Value → Heap → Prop}
/-- an item of a tuple, of a list -/
theorem ev_idx {v i : Expr} {pos : Pos} {ds : List PyData} {k : Int} {d : PyData} (ty : Bool) (e1 : Ev (model prog w) A env h v (Rd (if ty then .tuple ds else .list ds)) X) (e2 : Ev (model prog w) A env h i (Rd (.int k)) X)
    (h0 : 0 ≤ k) (hfit : k < 2 ^ 63) (hx : ds[k.toNat]? = some d)
    (hs : pl i = true := by rfl) :
    Ev (model prog w) A env h (.Subscript v i pos) (Rd d) X := by
  refine ⟨fun s Q E k' q x => ?_⟩
  refine Subscript_ (EvT.two e1 e2 rd_mono (v := fun a b => subscriptTail v i a b) (R' := Rd d) (fun v1 v2 h' kk r1 r2 => ?_) k' q x)
  obtain ⟨u, rfl⟩ := rd_int r2
  cases ty with
  | true =>
    obtain ⟨a, items, rfl, ht, r⟩ := rd_tup r1
    obtain ⟨y, hy, ry⟩ := r.at hx
    obtain ⟨o, ho, ht'⟩ := id ht
    refine EvT.ofS fun s' Q' E' k1 q1 => tail_any (T := "tuple") ⟨o, k1 _ _ ho, ht'.1⟩ slot_tuple_getitem.lookup ?_ (pl_sub hs)
    have hj : seqIndex? k items.size = some k.toNat := by
      have : k.toNat < items.size := by
        have := List.getElem?_eq_some_iff.mp hy
        obtain ⟨h1, _⟩ := this
        simpa using h1
      have h1 : ¬ k < 0 := by (first | lia | omega)
      have h2 : k < (items.size : Int) := by (first | lia | omega)
      simp [seqIndex?, h1, h0, h2]
    exact getItem_tuple (items := items) (j := k.toNat) ⟨o, k1 _ _ ho, ht'⟩ (by (first | lia | omega)) hfit hj (by simpa using hy) (q1 _ s'.toks (ry.keep k1))
  | false =>
    obtain ⟨a, items, rfl, ht, r⟩ := rd_list r1
    obtain ⟨y, hy, ry⟩ := r.at hx
    obtain ⟨o, ho, ht'⟩ := id ht
    refine EvT.ofS fun s' Q' E' k1 q1 => tail_any (T := "list") ⟨o, k1 _ _ ho, ht'.1⟩ slot_list_getitem.lookup ?_ (pl_sub hs)
    exact wpAny_getItem_list (items := items) ⟨o, k1 _ _ ho, ht'⟩ h0 hfit (by simpa using hy) (q1 _ s'.toks (ry.keep k1))
theorem ev_tidx {v i : Expr} {pos : Pos} {ds : List PyData} {k : Int} {d : PyData} (e1 : Ev (model prog w) A env h v (Rd (.tuple ds)) X) (e2 : Ev (model prog w) A env h i (Rd (.int k)) X)
    (hx : ds[k.toNat]? = some d := by rfl) (h0 : 0 ≤ k := by decide) (hfit : k < 2 ^ 63 := by decide)
    (hs : pl i = true := by rfl) :
    Ev (model prog w) A env h (.Subscript v i pos) (Rd d) X := ev_idx true e1 e2 h0 hfit hx hs
theorem ev_lidx {v i : Expr} {pos : Pos} {ds : List PyData} {k : Int} {d : PyData} (e1 : Ev (model prog w) A env h v (Rd (.list ds)) X) (e2 : Ev (model prog w) A env h i (Rd (.int k)) X)
    (hx : ds[k.toNat]? = some d) (h0 : 0 ≤ k) (hfit : k < 2 ^ 63)
    (hs : pl i = true := by rfl) :
    Ev (model prog w) A env h (.Subscript v i pos) (Rd d) X := ev_idx false e1 e2 h0 hfit hx hs

theorem ev_div {l r : Expr} {pos : Pos} {a b : Int} (e1 : Ev (model prog w) A env h l (Rd (.int a)) X) (e2 : Ev (model prog w) A env h r (Rd (.int b)) X) (hb : 0 < b) (hs : b < 10 ^ 250) :
    Ev (model prog w) A env h (.BinOp l .FloorDiv r pos) (Rd (.int (a / b))) X := ev_bin e1 e2 fun v1 v2 h' k r1 r2 => by
  obtain ⟨t, rfl⟩ := rd_int r1; obtain ⟨u, rfl⟩ := rd_int r2
  refine EvT.ofS fun _ _ _ _ q => PyProof.Rows.floordiv_int (by (first | lia | omega)) ?_ (.inl (PyProof.noPylong_of_log2 ?_))
  · rw [Int.fdiv_eq_ediv_of_nonneg _ (by (first | lia | omega))]
    exact q _ _ ⟨_, .int _ _⟩
  · have h1 : b.natAbs < 10 ^ 250 := by (first | lia | omega)
    have h2 : (10 : Nat) ^ 250 ≤ 2 ^ 9000 := by decide +kernel
    have h3 : b.natAbs ≠ 0 := by (first | lia | omega)
    exact (Nat.log2_lt h3).mpr (Nat.lt_of_lt_of_le h1 h2)
theorem ev_pow {l r : Expr} {pos : Pos} {a n : Int} (e1 : Ev (model prog w) A env h l (Rd (.int a)) X) (e2 : Ev (model prog w) A env h r (Rd (.int n)) X) (hn : 0 ≤ n) (hn2 : n ≤ 1000000) (ha : a.natAbs < 2 ^ 64) :
    Ev (model prog w) A env h (.BinOp l .Pow r pos) (Rd (.int (a ^ n.toNat))) X := ev_bin e1 e2 fun v1 v2 h' k r1 r2 => by
  obtain ⟨t, rfl⟩ := rd_int r1; obtain ⟨u, rfl⟩ := rd_int r2
  exact EvT.ofS fun _ _ _ _ q => PyProof.Rows.pow_int_small hn hn2 ha (q _ _ ⟨_, .int _ _⟩)

/-- == and != of data -/
theorem ev_eq {l r : Expr} {pos : Pos} {d1 d2 : PyData} {n : Nat} (rm : Rm A n) (e1 : Ev (model prog w) A env h l (Rd d1) X) (e2 : Ev (model prog w) A env h r (Rd d2) X) (h1 : SeqAt.shaped d1 = true) (h2 : SeqAt.shaped d2 = true)
    (hm : pl r = true := by rfl) : Ev (model prog w) A env h (.Compare l [.Eq] [r] pos) (Rd (.bool (PyData.eqv d1 d2))) X :=
  ev_cmp e1 e2 (fun v1 v2 h' _ r1 r2 => by
    obtain ⟨as, x⟩ := r1; obtain ⟨bs, y⟩ := r2
    exact EvT.ofS fun s _ _ k q => eq_dataH (PyProof.Rows.Reads.keeps k x) (PyProof.Rows.Reads.keeps k y) h1 h2 (by have := rm.un; (first | lia | omega)) (q _ s.toks ⟨_, .bool _⟩)) hm
theorem tr_eq {l r : Expr} {pos : Pos} {d1 d2 : PyData} {n : Nat} (rm : Rm A n) (e1 : Ev (model prog w) A env h l (Rd d1) X) (e2 : Ev (model prog w) A env h r (Rd d2) X) (h1 : SeqAt.shaped d1 = true) (h2 : SeqAt.shaped d2 = true)
    (hm : pl r = true := by rfl) : Tr (model prog w) A env h (.Compare l [.Eq] [r] pos) (PyData.eqv d1 d2) X :=
  tr_cmp e1 e2 (fun v1 v2 h' _ r1 r2 => by
    obtain ⟨as, x⟩ := r1; obtain ⟨bs, y⟩ := r2
    exact EvT.ofS fun s _ _ k q => eq_dataH (PyProof.Rows.Reads.keeps k x) (PyProof.Rows.Reads.keeps k y) h1 h2 (by have := rm.un; (first | lia | omega)) (q _ s.toks ⟨_, .bool _⟩)) hm
theorem tr_ne {l r : Expr} {pos : Pos} {d1 d2 : PyData} {n : Nat} (rm : Rm A n) (e1 : Ev (model prog w) A env h l (Rd d1) X) (e2 : Ev (model prog w) A env h r (Rd d2) X) (h1 : SeqAt.shaped d1 = true) (h2 : SeqAt.shaped d2 = true)
    (hm : pl r = true := by rfl) : Tr (model prog w) A env h (.Compare l [.NotEq] [r] pos) (!PyData.eqv d1 d2) X :=
  tr_cmp e1 e2 (fun v1 v2 h' _ r1 r2 => by
    obtain ⟨as, x⟩ := r1; obtain ⟨bs, y⟩ := r2
    exact EvT.ofS fun s _ _ k q => ne_dataH (PyProof.Rows.Reads.keeps k x) (PyProof.Rows.Reads.keeps k y) h1 h2 (by have := rm.un; (first | lia | omega)) (q _ s.toks ⟨_, .bool _⟩)) hm
/-- is, is not: against None, True, False -/
def isP : PyData → PyData → Bool
  | .none, .none => true
  | .bool a, .bool b => a == b
  | _, _ => false
def single : PyData → Bool
  | .none => true
  | .bool _ => true
  | _ => false
theorem is_val {d1 d2 : PyData} {v1 v2 : Value} {h' : Heap} (hs : single d2 = true) (r1 : Rd d1 v1 h') (r2 : Rd d2 v2 h') : plainIs v1 v2 = true ∧ (v1 == v2) = isP d1 d2 := by
  obtain ⟨as, x⟩ := r1; obtain ⟨bs, y⟩ := r2
  cases d2 with
  | none => cases y; cases x <;> exact ⟨rfl, rfl⟩
  | bool b => cases y; cases x <;> first | exact ⟨rfl, rfl⟩ | (rename_i b'; exact ⟨rfl, by cases b <;> cases b' <;> rfl⟩)
  | _ => cases hs
theorem tr_is {l r : Expr} {pos : Pos} {d1 d2 : PyData} (e1 : Ev (model prog w) A env h l (Rd d1) X) (e2 : Ev (model prog w) A env h r (Rd d2) X) (hs : single d2 = true)
    (hm : pl r = true := by rfl) : Tr (model prog w) A env h (.Compare l [.Is] [r] pos) (isP d1 d2) X :=
  tr_cmp e1 e2 (fun v1 v2 h' _ r1 r2 => by
    obtain ⟨hp, he⟩ := is_val hs r1 r2
    exact EvT.ofS fun s _ _ k q => wpAny_is_plain hp (by rw [he]; exact q _ s.toks ⟨_, .bool _⟩)) hm
end

section
variable {c : Cx} {n : Nat} {A : Around} {nm : Str} {sc : Scope} {L fa : Addr} {cd : Value} {g h : Heap} {ρ : Locs} {μ : Mut} {X : Value → Heap → Prop}
theorem ev_isi {T : String} {e : Expr} {p p2 pos : Pos} {d : PyData} (S : St g L h ρ μ) (Tp : c.T g) (B : Bn c) (e1 : Ev c.M A (envOf nm sc L fa cd) h e (Rd d) X) (hx : Str.ofString T ∈ bnames := by decide) (hv : bootBuiltins (Str.ofString T) = some (.type T) := by decide +kernel) (hT : T ∈ isiTs := by decide)
    (hk : sc.kind = .function := by rfl) (hg : (envOf nm sc L fa cd).kindOf (Str.ofString T) = some .globalImplicit := by rfl) (hgi : (envOf nm sc L fa cd).kindOf (Str.ofString "isinstance") = some .globalImplicit := by rfl) (hn : Str.ofString T ≠ "__name__" := by decide) (hd : (Str.ofString T == ("__debug__" : Str)) = false := by decide)
    (he : pl e = true := by rfl) :
    Ev c.M A (envOf nm sc L fa cd) h (.Call (.Name (Str.ofString "isinstance") p) [e, .Name (Str.ofString T) p2] [] pos) (Rd (.bool (isiB d T))) X := by
  refine ⟨fun s Q E k q x' => ?_⟩
  refine wpAny_Call_NameR ((ev_bname (v := .builtin "isinstance") S Tp B (by decide) (by decide +kernel) (by decide) hk hgi (by decide)).seq k (fun v h1 i k1 r => ?_) x')
  subst r
  refine callWith_builtin1 ?_ (pl_star he) rfl
  refine args_cons ((e1.up (k.trans k1)).seq (s := { s with heap := h1, toks := i }) Keep.rfl (fun v h2 j k2 r2 => ?_) (fun y h2 j r => x' y h2 j r)) (pl_star he)
  refine args_cons (((ev_bname (pos := p2) S Tp B hx hv hn hk hg hd).up (k.trans (Keep.trans k1 k2))).seq (s := { s with heap := h2, toks := j }) Keep.rfl (fun v3 h3 j3 k3 r3 => ?_) (fun y h2 j r => x' y h2 j r)) rfl
  subst r3
  refine args_nil ?_
  exact (op_isi hT (r2.keep k3)).seq (s := { s with heap := h3, toks := j3 }) Keep.rfl (fun c h4 j4 k4 r4 => q c h4 j4 (Keep.trans k1 (Keep.trans k2 (Keep.trans k3 k4))) r4) (fun y h3 j r => x' y h3 j r)
end
end Mine

namespace Mine
open PySem PySem.Spec PySem.Calls PyProof.Rows

section
variable {prog : Program} {w : World} {A : Around} {nm : Str} {sc : Scope} {L fa : Addr} {cd : Value} {g h : Heap} {ρ : Locs} {μ : Mut} {X : Value → Heap → Prop} {Ws : List Addr} {P : Flow → Heap → Prop} {rest : List Stmt}

theorem kp_ext {a : Addr} {h h' : Heap} (e : Heap.ExtBut a h h') : Kp [a] h h' := fun b o n hb => e b o (by simpa using n) hb

theorem st_name {x : Str} {v : Value} {d : PyData} {s : Shared} {Q : Unit → Shared → Prop} {E : Value → Shared → Prop} (S : St g L s.heap ρ μ) (r : Rd d v s.heap) (hf : flat d = true) (hμ : ∀ q, μ = some q → q.1 ≠ x)
    (q : ∀ h' k, Kp [L] s.heap h' → St g L h' ((x, d) :: ρ) μ → Q () { s with heap := h', toks := k })
    (hk : sc.kind = .function) (hl : (envOf nm sc L fa cd).kindOf x = some .local) : wpAny (model prog w) A (storeName (envOf nm sc L fa cd) x v) Q E s := by
  obtain ⟨m, F, hr, hm⟩ := S.ex
  obtain ⟨as, r⟩ := r
  have e := flat_nil hf r
  subst e
  refine wpAny_storeName_local hl F.ns (fun h' hn hsb => ?_) (by show (sc.kind == .class || (sc.kind == .module && L != mainGlobals)) = false; rw [hk]; rfl)
  exact q h' _ (kp_same hsb) (S.store hμ F r List.not_mem_nil (fun _ _ => List.not_mem_nil) hn hsb)

end

/-- an iterator that is at its i-th thing -/
structure Itr (prog : Program) (w : World) (A : Around) (W : List Addr) (it : Addr) (ds : List PyData) (I : Nat → Heap → Prop) : Prop where
  item : ∀ {i d} {s : Shared} {Q : Option Value → Shared → Prop} {E : Value → Shared → Prop}, ds[i]? = some d → I i s.heap →
    (∀ v h' k, I (i + 1) h' → Kp [it] s.heap h' → Rd d v h' → Q (some v) { s with heap := h', toks := k }) → wpAny (model prog w) A (pyNext (.ref it)) Q E s
  stop : ∀ {s : Shared} {Q : Option Value → Shared → Prop} {E : Value → Shared → Prop}, I ds.length s.heap →
    (∀ h' k, Kp [it] s.heap h' → Q none { s with heap := h', toks := k }) → wpAny (model prog w) A (pyNext (.ref it)) Q E s
  stay : ∀ {i h h'}, I i h → Kp W h h' → I i h'
  odd : ∀ {i h}, I i h → Odd it h ∧ ∃ o, h.get? it = some o
  go : ∀ {i} {s : Shared} {elts x1 pos T} {Q : Unit → Shared → Prop} {E : Value → Shared → Prop}, I i s.heap → Q () s → wpAny (model prog w) A (letOwnedTupleGo (.Tuple elts x1 pos) (.ref it) (.ref T)) Q E s
/-- what a for goes over -/
def Iter (prog : Program) (w : World) (A : Around) (env : Env) (W : List Addr) (h : Heap) (e : Expr) (ds : List PyData) (X : Value → Heap → Prop) : Prop :=
  ∀ (s : Shared) (Q : Value → Shared → Prop) (E : Value → Shared → Prop), Keep h s.heap →
    (∀ it I h' k, Keep s.heap h' → Itr prog w A W it ds I → I 0 h' → s.heap.get? it = none → Q (.ref it) { s with heap := h', toks := k }) →
    (∀ x h' k, X x h' → E x { s with heap := h', toks := k }) →
    wpAny (model prog w) A (eval e env) (fun x s₁ => wpAny (model prog w) A (pyIter x) Q E s₁) E s

section
variable {prog : Program} {w : World} {A : Around} {nm : Str} {sc : Scope} {L fa : Addr} {cd : Value} {g h : Heap} {ρ : Locs} {μ : Mut} {X : Value → Heap → Prop} {Ws : List Addr} {P : Flow → Heap → Prop} {rest : List Stmt}

/-- the loop, whatever the target -/
theorem run_forG {target : Expr} {iter : Expr} {body : List Stmt} {pos : Pos} {ds : List PyData} (J : Nat → Locs → Mut → Prop) (S : St g L h ρ μ) (it : Iter prog w A (envOf nm sc L fa cd) (L :: Ws) h iter ds X) (j0 : J 0 ρ μ)
    (hold : ∀ b ∈ L :: Ws, ∃ o, h.get? b = some o)
    (asg : ∀ {i d ρ μ} {s : Shared} {Q : Unit → Shared → Prop} {E : Value → Shared → Prop} {it' : Addr} {I : Nat → Heap → Prop} {v : Value}, ds[i]? = some d → J i ρ μ → St g L s.heap ρ μ → Rd d v s.heap → Itr prog w A (L :: Ws) it' ds I → I (i + 1) s.heap →
      (∀ h' k, Kp [L] s.heap h' → (Run (model prog w) A (envOf nm sc L fa cd) Ws body h' (fun fl h2 => match fl with
        | .next | .cont => ∃ ρ' μ', J (i + 1) ρ' μ' ∧ St g L h2 ρ' μ'
        | .brk => Run (model prog w) A (envOf nm sc L fa cd) Ws rest h2 P X
        | .ret v => P (.ret v) h2) X) → Q () { s with heap := h', toks := k }) →
      wpAny (model prog w) A (letOwnedTupleGo target (.ref it') v) (fun _ s' => wpAny (model prog w) A (assign target (envOf nm sc L fa cd) v) Q E s') E s)
    (fin : ∀ ρ μ h, J ds.length ρ μ → St g L h ρ μ → Run (model prog w) A (envOf nm sc L fa cd) Ws rest h P X)
    (hs : pl iter = true := by rfl) :
    Run (model prog w) A (envOf nm sc L fa cd) Ws (.For target iter body [] pos :: rest) h P X := by
  refine ⟨fun s Q E e po q x => ?_⟩; subst e
  refine wpAny_execs_cons (wpAny_For (it s _ E Keep.rfl (fun it' I h1 k1 kk hit hI hnew => ?_) x) (pl_fold hs))
  have hitW : ∀ b ∈ L :: Ws, b ≠ it' := fun b hb e => by
    obtain ⟨o, ho⟩ := hold b hb
    subst e; rw [hnew] at ho; cases ho
  have hg : g.get? it' = none := S.frK.none hnew
  -- what changes at the iterator alone was not there before
  have goOn : ∀ h3, Kp (it' :: L :: Ws) s.heap h3 → Run (model prog w) A (envOf nm sc L fa cd) Ws rest h3 P X → ∀ k3, wpAny (model prog w) A (execs rest (envOf nm sc L fa cd)) Q E { s with heap := h3, toks := k3 } := by
    intro h3 kp3 r k3
    refine r.go _ Q E rfl po (fun fl h4 k4 kp4 p => q fl h4 k4 ?_ p) (fun y h4 k4 r => x y h4 k4 r)
    intro b o nb eb
    refine kp4 b o nb (kp3 b o (fun hb => ?_) eb)
    cases hb with
    | head => rw [hnew] at eb; cases eb
    | tail _ hb => exact nb hb
  refine codeAny_forLoop_any (I := fun n s' => ∃ i h' k ρ μ, n = ds.length - i ∧ i ≤ ds.length ∧ s' = { s with heap := h', toks := k } ∧ Kp (it' :: L :: Ws) s.heap h' ∧ I i h' ∧ J i ρ μ ∧ St g L h' ρ μ) (fun n s' hI' => ?_) ds.length
    ⟨0, h1, k1, ρ, μ, rfl, Nat.zero_le _, rfl, kk.kp, hI, j0, S.keep kk⟩
  obtain ⟨i, h2, k2, ρ2, μ2, rfl, hi, rfl, kp2, hI2, hJ2, S2⟩ := hI'
  have kpIt : ∀ {ha hb : Heap}, Kp (it' :: L :: Ws) s.heap ha → Kp [it'] ha hb → Kp (it' :: L :: Ws) s.heap hb := fun k1 k2 => k1.trans (k2.mono fun b hb => by rw [List.mem_singleton] at hb; subst hb; exact .head _)
  by_cases hlt : i < ds.length
  · have hd : ds[i]? = some ds[i] := List.getElem?_eq_getElem hlt
    refine hit.item (s := { s with heap := h2, toks := k2 }) hd hI2 (fun v h3 k3 hI3 kp3 r3 => ?_)
    have S3 : St g L h3 ρ2 μ2 := S2.odd (hit.odd hI2).1 (hit.odd hI2).2 hg kp3
    refine wpAny_mono (asg (s := { s with heap := h3, toks := k3 }) hd hJ2 S3 r3 hit hI3 (Q := fun _ s' => ∃ h4 k4, s' = { s with heap := h4, toks := k4 } ∧ Kp [L] h3 h4 ∧ Run (model prog w) A (envOf nm sc L fa cd) Ws body h4 (fun fl h2 => match fl with
        | .next | .cont => ∃ ρ' μ', J (i + 1) ρ' μ' ∧ St g L h2 ρ' μ'
        | .brk => Run (model prog w) A (envOf nm sc L fa cd) Ws rest h2 P X
        | .ret v => P (.ret v) h2) X) (E := E) (fun h4 k4 kp4 R4 => ⟨h4, k4, rfl, kp4, R4⟩)) (fun _ s' hs' => wpAny_mono hs' (fun _ s'' hq => ?_) po) po
    obtain ⟨h4, k4, rfl, kp4, R4⟩ := hq
    have hI4 : I (i + 1) h4 := hit.stay hI3 (kp4.mono fun b hb => by rw [List.mem_singleton] at hb; subst hb; exact .head _)
    have kpA : Kp (it' :: L :: Ws) s.heap h4 := (kpIt kp2 kp3).trans (kp4.mono fun b hb => by rw [List.mem_singleton] at hb; subst hb; exact .tail _ (.head _))
    refine wpAny_passesOwn po (R4.go _ _ (E) rfl po (fun fl h5 k5 kp5 p => ?_) (fun y h2 j r => x y h2 j r))
    have kpB : Kp (it' :: L :: Ws) s.heap h5 := kpA.trans (kp5.mono fun b hb => .tail _ hb)
    have kpC : Kp (L :: Ws) s.heap h5 := fun b o nb eb => kpB b o (fun hb => by
      cases hb with
      | head => rw [hnew] at eb; cases eb
      | tail _ hb => exact nb hb) eb
    cases fl with
    | next => obtain ⟨ρ', μ', hJ', S'⟩ := p; exact ⟨ds.length - (i + 1), by (first | lia | omega), i + 1, h5, k5, ρ', μ', rfl, by (first | lia | omega), rfl, kpB, hit.stay hI4 kp5, hJ', S'⟩
    | cont => obtain ⟨ρ', μ', hJ', S'⟩ := p; exact ⟨ds.length - (i + 1), by (first | lia | omega), i + 1, h5, k5, ρ', μ', rfl, by (first | lia | omega), rfl, kpB, hit.stay hI4 kp5, hJ', S'⟩
    | brk => exact goOn h5 kpB p k5
    | ret v => exact q _ _ _ kpC p
  · have e : i = ds.length := by (first | lia | omega)
    subst e
    refine hit.stop (s := { s with heap := h2, toks := k2 }) hI2 (fun h3 k3 kp3 => ?_)
    have S3 : St g L h3 ρ2 μ2 := S2.odd (hit.odd hI2).1 (hit.odd hI2).2 hg kp3
    exact wpAny_execs_nil (goOn h3 (kpIt kp2 kp3) (fin ρ2 μ2 h3 hJ2 S3) k3)

/-- for x in .. -/
theorem run_for {x : Str} {px : Pos} {iter : Expr} {body : List Stmt} {pos : Pos} {ds : List PyData} (J : Nat → Locs → Mut → Prop) (S : St g L h ρ μ) (it : Iter prog w A (envOf nm sc L fa cd) (L :: Ws) h iter ds X) (j0 : J 0 ρ μ)
    (hold : ∀ b ∈ L :: Ws, ∃ o, h.get? b = some o)
    (step : ∀ i d ρ μ h, ds[i]? = some d → J i ρ μ → St g L h ((x, d) :: ρ) μ → Run (model prog w) A (envOf nm sc L fa cd) Ws body h (fun fl h2 => match fl with
        | .next | .cont => ∃ ρ' μ', J (i + 1) ρ' μ' ∧ St g L h2 ρ' μ'
        | .brk => Run (model prog w) A (envOf nm sc L fa cd) Ws rest h2 P X
        | .ret v => P (.ret v) h2) X)
    (fin : ∀ ρ μ h, J ds.length ρ μ → St g L h ρ μ → Run (model prog w) A (envOf nm sc L fa cd) Ws rest h P X)
    (hf : ∀ d ∈ ds, flat d = true) (hμ : ∀ i ρ μ, J i ρ μ → ∀ q, μ = some q → q.1 ≠ x)
    (hs : pl iter = true := by rfl) (hk : sc.kind = .function := by rfl) (hl : (envOf nm sc L fa cd).kindOf x = some .local := by rfl) :
    Run (model prog w) A (envOf nm sc L fa cd) Ws (.For (.Name x px) iter body [] pos :: rest) h P X := by
  refine run_forG J S it j0 hold ?_ fin hs
  intro i d ρ μ s Q E it' I v hd hJ S r hit hI q
  refine wpAny_of_eq (a := ()) rfl ?_
  refine PyProof.Rows.assign_Name (st_name S r (hf d (List.mem_of_getElem? hd)) (hμ i ρ μ hJ) (fun h' k kp S' => q h' k kp (step i d ρ μ h' hd hJ S')) hk hl)
end
end Mine

namespace Mine
open PySem PySem.Spec PySem.Calls PyProof.Rows

theorem flatL_append {ds es : List PyData} (h : flatL ds = true) (h' : flatL es = true) : flatL (ds ++ es) = true := by
  induction ds with
  | nil => exact h'
  | cons a r ih =>
    simp only [flatL, Bool.and_eq_true] at h
    simp only [List.cons_append, flatL, Bool.and_eq_true]
    exact ⟨h.1, ih h.2⟩
theorem flatL_snoc {ds : List PyData} {d : PyData} (h : flatL ds = true) (h' : flat d = true) : flatL (ds ++ [d]) = true := flatL_append h (by simp [flatL, h'])
/-- a list that is not written to by the loop -/
def SrcL (W : List Addr) (ds : List PyData) (v : Value) (h : Heap) : Prop := ∃ l items, v = .ref l ∧ h.IsList l items ∧ l ∉ W ∧ ∀ h', Kp W h h' → RdL ds items.toList h'
section
variable {g h : Heap} {L : Addr} {ρ : Locs} {μ : Mut} {Ws : List Addr}
/-- the places that may be written are the frame and its own list -/
def Wok (μ : Mut) (Ws : List Addr) : Prop := ∀ a ∈ Ws, ∃ q, μ = some q ∧ q.2.1 = a
theorem wok_nil : Wok μ [] := fun _ h => nomatch h
theorem wok_one {x : Str} {l : Addr} {ds : List PyData} : Wok (some (x, l, ds)) [l] := fun a ha => ⟨_, rfl, by rw [List.mem_singleton] at ha; exact ha.symm⟩
theorem w_noTup (S : St g L h ρ μ) (hW : Wok μ Ws) : ∀ a ∈ L :: Ws, NoTup a h ∧ ∃ o, h.get? a = some o := by
  obtain ⟨m, F, _, hm⟩ := S.ex
  intro a ha
  cases ha with
  | head => exact ⟨noTup_L F, L_some F⟩
  | tail _ ha =>
    obtain ⟨q, e, rfl⟩ := hW a ha
    obtain ⟨_, _, _, items, p, _⟩ := hm q e
    exact ⟨noTup_list p, let ⟨_, p⟩ := p; ⟨_, p⟩⟩
theorem w_hold (S : St g L h ρ μ) (hW : Wok μ Ws) : ∀ b ∈ L :: Ws, ∃ o, h.get? b = some o := fun b hb => (w_noTup S hW b hb).2
end

theorem listIter_kp {W : List Addr} {h h' : Heap} {it l : Addr} {i : Nat} (k : Kp W h h') (n : it ∉ W) (x : h.IsListIter it l i) : h'.IsListIter it l i := let ⟨o, ho, r⟩ := x; ⟨o, k _ _ n ho, r⟩
theorem isList_kp {W : List Addr} {h h' : Heap} {l : Addr} {items} (k : Kp W h h') (n : l ∉ W) (x : h.IsList l items) : h'.IsList l items := let ⟨o, ho, r⟩ := x; ⟨o, k _ _ n ho, r⟩
theorem size_none (h : Heap) : h.get? h.objs.size = none := by
  cases hq : h.get? h.objs.size with
  | none => rfl
  | some o => exact absurd (Heap.lt_size hq) (Nat.lt_irrefl _)
theorem kp_push {W : List Addr} {h h' : Heap} {o : Obj} (k : Kp (h.objs.size :: W) (h.push o) h') : Kp W h h' := fun b o' n e => k b o' (fun hb => by
  cases hb with
  | head => rw [size_none] at e; cases e
  | tail _ hb => exact n hb) (Heap.get?_push_of_some _ e)

section
variable {prog : Program} {w : World} {A : Around} {env : Env} {W : List Addr} {h : Heap} {X : Value → Heap → Prop}

theorem odd_fields {h : Heap} {a : Addr} {o : Obj} {fs : Array Value} (ho : h.get? a = some o) (hd : o.data = .fields fs) : Odd a h ∧ ∃ o, h.get? a = some o :=
  ⟨fun o' e => by rw [ho] at e; cases e; rw [hd]; exact ⟨(fun _ _ e => by cases e), (fun _ _ e => by cases e)⟩, o, ho⟩

theorem iter_list {e : Expr} {ds : List PyData} (hh : A.handled = none) (ev : Ev (model prog w) A env h e (SrcL W ds) X) (hold : ∀ b ∈ W, ∃ o, h.get? b = some o) : Iter prog w A env W h e ds X := by
  intro s Q E k q x
  refine ev.go s _ E k (fun v h1 i k1 r => ?_) x
  obtain ⟨l, items, rfl, hl, hlW, st⟩ := r
  refine wpAny_pyIter_list (s := { s with heap := h1, toks := i }) hl ?_
  have hitW : h1.objs.size ∉ W := fun hm => by
    obtain ⟨o, ho⟩ := hold _ hm
    have := k1 _ _ (k _ _ ho)
    rw [size_none] at this; cases this
  have hlit : l ≠ h1.objs.size := fun e => by
    obtain ⟨o, ho, _⟩ := hl
    rw [e, size_none] at ho; cases ho
  have hlen : items.size = ds.length := by
    have := (st h1 Kp.rfl).len
    simpa using this
  refine q h1.objs.size (fun i h' => h'.IsListIter h1.objs.size l i ∧ h'.IsList l items ∧ ∀ h'', Kp (h1.objs.size :: W) h' h'' → RdL ds items.toList h'') _ _ (Keep.push k1 _) ?_ ⟨⟨_, Heap.get?_push_size _ rfl, rfl, rfl⟩, hl.push _, fun h'' kp => st h'' (kp_push kp)⟩ ?_
  · refine ⟨?_, ?_, ?_, ?_, ?_⟩
    · intro i d s' Q' E' hd hI q'
      obtain ⟨h1', h2', h3'⟩ := hI
      obtain ⟨v, hv, _⟩ := (h3' s'.heap Kp.rfl).at hd
      refine wpAny_pyNext_list_item h1' h2' (x := v) (by simpa using hv) (fun h'' hit'' hsb => ?_)
      have kp := kp_same hsb
      have r'' : RdL ds items.toList h'' := h3' h'' (kp.mono fun b hb => by rw [List.mem_singleton] at hb; subst hb; exact .head _)
      obtain ⟨v', hv', rv⟩ := r''.at hd
      rw [hv] at hv'; cases hv'
      exact q' v h'' s'.toks ⟨hit'', isList_kp kp (by simpa using hlit) h2', fun h3 kp3 => h3' h3 ((kp.mono fun b hb => by rw [List.mem_singleton] at hb; subst hb; exact .head _).trans kp3)⟩ kp rv
    · intro s' Q' E' hI q'
      obtain ⟨h1', h2', h3'⟩ := hI
      refine wpAny_pyNext_list_end hh h1' h2' (by simp [hlen]) (fun h'' he => q' h'' s'.toks (kp_ext he))
    · intro i ha hb hI kp
      obtain ⟨h1', h2', h3'⟩ := hI
      exact ⟨listIter_kp kp hitW h1', isList_kp kp hlW h2', fun h3 kp3 => h3' h3 ((kp.mono fun b hb => .tail _ hb).trans kp3)⟩
    · intro i ha hI
      obtain ⟨⟨o, ho, hc, hd⟩, _⟩ := hI
      exact odd_fields ho hd
    · intro i s' elts x1 pos T Q' E' hI q'
      exact wpAny_letOwnedTupleGo_listiter hI.1 q'
  · exact k1.none (size_none h1)

def rangeD (a : Int) (n : Nat) : List PyData := (List.range n).map fun (i : Nat) => PyData.int (a + i)
theorem rangeD_len (a : Int) (n : Nat) : (rangeD a n).length = n := by simp [rangeD]
theorem rangeD_at (a : Int) (n i : Nat) : (rangeD a n)[i]? = if i < n then some (.int (a + i)) else none := by
  unfold rangeD
  by_cases h : i < n
  · simp [h]
  · simp [h]
theorem rangeD_flat (a : Int) (n : Nat) : ∀ d ∈ rangeD a n, flat d = true := by
  intro d hd
  simp only [rangeD, List.mem_map] at hd
  obtain ⟨i, _, rfl⟩ := hd
  rfl
/-- a range by ones, from its iterator on -/
theorem iter_rangeC {e : Expr} {a b : Int} (hh : A.handled = none) (ha : -(2 ^ 61) ≤ a ∧ a ≤ 2 ^ 61) (hb : -(2 ^ 61) ≤ b ∧ b ≤ 2 ^ 61)
    (ev : Ev (model prog w) A env h e (fun v h' => ∃ r t u y, v = .ref r ∧ IsRange h' r a b 1 t u y) X) (hold : ∀ b ∈ W, ∃ o, h.get? b = some o) : Iter prog w A env W h e (rangeD a (b - a).toNat) X := by
  intro s Q E k q x
  refine ev.go s _ E k (fun v h1 i k1 r => ?_) x
  obtain ⟨r, t, u, y, rfl, hr⟩ := r
  have hsz : Builtin.Range.rangeSize a b 1 = ((b - a).toNat : Int) := by
    unfold Builtin.Range.rangeSize
    simp only [show (1 : Int) > 0 from by decide, if_true]
    split
    · rw [Int.ediv_one]; (first | lia | omega)
    · (first | lia | omega)
  have hsm : Builtin.Range.small a b 1 = true := by
    unfold Builtin.Range.small
    rw [hsz]
    simp only [Builtin.Range.rangeFitsLong, Bool.and_eq_true, Bool.or_eq_true, decide_eq_true_eq, beq_iff_eq]
    refine ⟨⟨⟨⟨⟨by (first | lia | omega), by (first | lia | omega)⟩, by (first | lia | omega), by (first | lia | omega)⟩, by decide, by decide⟩, by (first | lia | omega), by (first | lia | omega)⟩, ?_⟩
    right
    simp only [show (1 : Int) > 0 from by decide, if_true, Bool.and_eq_true, decide_eq_true_eq]
    (first | lia | omega)
  refine wpAny_pyIter_range (s := { s with heap := h1, toks := i }) hr hsm ?_
  rw [hsz]
  have hitW : h1.objs.size ∉ W := fun hm => by
    obtain ⟨o, ho⟩ := hold _ hm
    have := k1 _ _ (k _ _ ho)
    rw [size_none] at this; cases this
  refine q h1.objs.size (fun i h' => IsRangeIter h' h1.objs.size (a + i) (((b - a).toNat : Int) - i) 1) _ _ (Keep.push k1 _) ?_ ?_ ?_
  · refine ⟨?_, ?_, ?_, ?_, ?_⟩
    · intro i d s' Q' E' hd hI q'
      rw [rangeD_at] at hd
      by_cases hi : i < (b - a).toNat
      · rw [if_pos hi] at hd; cases hd
        refine wpAny_pyNext_range_item hI (by (first | lia | omega)) (fun h'' hit'' hsb => ?_)
        refine q' _ h'' _ ?_ (kp_same hsb) ⟨_, .int _ _⟩
        have e1 : a + ((i + 1 : Nat) : Int) = a + i + 1 := by (first | lia | omega)
        have e2 : ((b - a).toNat : Int) - ((i + 1 : Nat) : Int) = ((b - a).toNat : Int) - i - 1 := by (first | lia | omega)
        rw [e1, e2]; exact hit''
      · rw [if_neg hi] at hd; cases hd
    · intro s' Q' E' hI q'
      rw [rangeD_len] at hI
      refine wpAny_pyNext_range_end hh hI (by (first | lia | omega)) (fun h'' he => q' h'' s'.toks (kp_ext he))
    · intro i ha hb hI kp
      exact kp _ _ hitW hI
    · intro i ha hI
      exact odd_fields hI rfl
    · intro i s' elts x1 pos T Q' E' hI q'
      unfold letOwnedTupleGo
      refine wpAny_bind (wpAny_load hI ?_)
      refine wpAny_ite_false ?_ (wpAny_pure q')
      simp
  · show IsRangeIter _ _ (a + ((0 : Nat) : Int)) (((b - a).toNat : Int) - ((0 : Nat) : Int)) 1
    simp only [Int.natCast_zero, Int.add_zero, Int.sub_zero]
    exact Heap.get?_push_size _ rfl
  · exact k1.none (size_none h1)
/-- the signs of a text -/
def signsD (x : Str) : List PyData := x.cps.toList.map fun c => PyData.str ⟨#[c]⟩
theorem iter_str {e : Expr} {x : Str} (hh : A.handled = none) (ev : Ev (model prog w) A env h e (Rd (.str x)) X) (hold : ∀ b ∈ W, ∃ o, h.get? b = some o) : Iter prog w A env W h e (signsD x) X := by
  intro s Q E k q x'
  refine ev.go s _ E k (fun v h1 i k1 r => ?_) x'
  obtain ⟨t, rfl⟩ := rd_str r
  have hitW : h1.objs.size ∉ W := fun hm => by
    obtain ⟨o, ho⟩ := hold _ hm
    have := k1 _ _ (k _ _ ho)
    rw [size_none] at this; cases this
  have hlen : (signsD x).length = x.cps.size := by simp [signsD]
  have hat : ∀ (i : Nat) (d : PyData), (signsD x)[i]? = some d → ∃ c, x.cps[i]? = some c ∧ d = .str ⟨#[c]⟩ := by
    intro i d hd
    simp only [signsD, List.getElem?_map, Option.map_eq_some_iff] at hd
    obtain ⟨c, hc, rfl⟩ := hd
    exact ⟨c, by simpa using hc, rfl⟩
  cases ha : x.cps.all (· < 128)
  · refine wpAny_pyIter_wide (s := { s with heap := h1, toks := i }) ha ?_
    refine q h1.objs.size (fun i h' => h'.IsStrIter h1.objs.size "str_iterator" x t i) _ _ (Keep.push k1 _) ?_ ⟨_, Heap.get?_push_size _ rfl, rfl, rfl⟩ (k1.none (size_none h1))
    refine ⟨?_, ?_, ?_, ?_, ?_⟩
    · intro i d s' Q' E' hd hI q'
      obtain ⟨c, hc, rfl⟩ := hat i d hd
      exact wpAny_pyNext_wide_item hI hc (fun h'' hit'' hsb => q' _ h'' _ hit'' (kp_same hsb) ⟨_, .str _ _⟩)
    · intro s' Q' E' hI q'
      rw [hlen] at hI
      exact wpAny_pyNext_wide_end hh hI (by simp) (fun h'' he => q' h'' s'.toks (kp_ext he))
    · intro i ha hb hI kp
      obtain ⟨o, ho, r⟩ := hI
      exact ⟨o, kp _ _ hitW ho, r⟩
    · intro i ha hI
      obtain ⟨o, ho, hc, hd⟩ := hI
      exact odd_fields ho hd
    · intro i s' elts x1 pos T Q' E' hI q'
      obtain ⟨o, ho, hc, hd⟩ := hI
      unfold letOwnedTupleGo
      refine wpAny_bind (wpAny_load ho ?_)
      rw [hc, hd]
      refine wpAny_ite_false ?_ (wpAny_pure q')
      simp
  · refine wpAny_pyIter_ascii (s := { s with heap := h1, toks := i }) ha ?_
    refine q h1.objs.size (fun i h' => h'.IsStrIter h1.objs.size "str_ascii_iterator" x t i) _ _ (Keep.push k1 _) ?_ ⟨_, Heap.get?_push_size _ rfl, rfl, rfl⟩ (k1.none (size_none h1))
    refine ⟨?_, ?_, ?_, ?_, ?_⟩
    · intro i d s' Q' E' hd hI q'
      obtain ⟨c, hc, rfl⟩ := hat i d hd
      exact wpAny_pyNext_ascii_item hI hc (fun h'' hit'' hsb => q' _ h'' _ hit'' (kp_same hsb) ⟨_, .str _ _⟩)
    · intro s' Q' E' hI q'
      rw [hlen] at hI
      exact wpAny_pyNext_ascii_end hh hI (by simp) (fun h'' he => q' h'' s'.toks (kp_ext he))
    · intro i ha hb hI kp
      obtain ⟨o, ho, r⟩ := hI
      exact ⟨o, kp _ _ hitW ho, r⟩
    · intro i ha hI
      obtain ⟨o, ho, hc, hd⟩ := hI
      exact odd_fields ho hd
    · intro i s' elts x1 pos T Q' E' hI q'
      obtain ⟨o, ho, hc, hd⟩ := hI
      unfold letOwnedTupleGo
      refine wpAny_bind (wpAny_load ho ?_)
      rw [hc, hd]
      refine wpAny_ite_false ?_ (wpAny_pure q')
      simp
end

section
variable {prog : Program} {w : World} {A : Around} {nm : Str} {sc : Scope} {L fa : Addr} {cd : Value} {g h : Heap} {ρ : Locs} {μ : Mut} {X : Value → Heap → Prop} {Ws : List Addr} {P : Flow → Heap → Prop} {rest : List Stmt}
/-- a list of the frame's names, to be gone over -/
theorem src_var {x : Str} {pos : Pos} {ds : List PyData} (S : St g L h ρ μ) (hv : ρ.lookup x = some (.list ds)) (hW : Wok μ Ws) (hk : sc.kind = .function := by rfl) (hl : (envOf nm sc L fa cd).kindOf x = some .local := by rfl)
    (hd : (x == ("__debug__" : Str)) = false := by decide) : Ev (model prog w) A (envOf nm sc L fa cd) h (.Name x pos) (SrcL (L :: Ws) ds) X :=
  EvT.ofS fun s Q E k q => by
    have S' := S.keep k
    have hnt := w_noTup S' hW
    obtain ⟨m, F, hr, _⟩ := S'.ex
    obtain ⟨v, as, hm, r, nL, nl⟩ := hr x _ hv
    refine ld F hm (q v s.toks ?_) hk hl hd
    cases r with
    | list h1 h2 h3 y =>
      have hW' : ∀ a ∈ L :: Ws, a ∉ _ := fun a ha => by
        cases ha with
        | head => exact nL
        | tail _ ha => obtain ⟨p, e, rfl⟩ := hW a ha; exact nl p e
      exact ⟨_, _, rfl, ⟨_, h1, h2, _, h3⟩, fun ha => hW' _ ha (.head _), fun h' kp => ⟨_, readsAll_kp kp (fun a ha => .inr ⟨fun e => hW' a ha (.tail _ e), (hnt a ha).1⟩) y⟩⟩
/-- a list of g's, handed on by an argument's name or not: any list that is read and not among W -/
theorem run_append {x : Str} {l : Addr} {ds : List PyData} {d : PyData} {e : Expr} {px ap pos ep : Pos} (S : St g L h ρ (some (x, l, ds))) (ev : Ev (model prog w) A (envOf nm sc L fa cd) h e (Rd d) X) (hf : flat d = true) (hl : l ∈ Ws) (hsz : ds.length ≤ 2 ^ 20)
    (k : ∀ h', St g L h' ρ (some (x, l, ds ++ [d])) → Run (model prog w) A (envOf nm sc L fa cd) Ws rest h' P X)
    (hbase : attributeBase (.Name x px) "append" (envOf nm sc L fa cd) (eval (.Name x px) (envOf nm sc L fa cd)) = eval (.Name x px) (envOf nm sc L fa cd) := by rfl) (hline : (ap.endLine == pos.line) = true := by rfl)
    (hk : sc.kind = .function := by rfl) (hloc : (envOf nm sc L fa cd).kindOf x = some .local := by rfl) (hd : (x == ("__debug__" : Str)) = false := by decide)
    (htr0 : pl e = true := by rfl)
    (hi : interactive (envOf nm sc L fa cd) = false := by rfl) (hs : True := trivial) :
    Run (model prog w) A (envOf nm sc L fa cd) Ws (.Expr (.Call (.Attribute (.Name x px) "append" ap) [e] [] pos) ep :: rest) h P X := by
  refine ⟨fun s Q E e' po q x' => ?_⟩; subst e'
  have htr : backTo pos (starEach [e] (envOf nm sc L fa cd)) = [(false, eval e (envOf nm sc L fa cd))] := by rw [pl_star htr0]; rfl
  refine wpAny_execs_cons (wpAny_Expr_any ?_ hi (pl_swaps rfl))
  refine wpAny_Call_append hbase (by rw [htr]; rfl) hline htr ?_
  refine (ev_mutL S hk hloc hd).seq Keep.rfl (fun v h1 i k1 r => ?_) x'
  subst r
  have S1 := S.keep k1
  obtain ⟨m, F, _, hm⟩ := S1.ex
  obtain ⟨_, _, _, items, ⟨n, p⟩, _⟩ := hm _ rfl
  refine ⟨l, items, rfl, ⟨_, n, p, rfl, rfl, rfl⟩, ?_⟩
  refine (ev.up k1).seq (s := { s with heap := h1, toks := i }) Keep.rfl (fun y h2 j k2 r2 => ?_) (fun y h2 j r => x' y h2 j r)
  have S2 := S1.keep k2
  obtain ⟨m2, F2, hr2, hm2⟩ := S2.ex
  obtain ⟨hx2, hg2, hf2, items2, p2, rr2⟩ := hm2 _ rfl
  have hlen : items2.size = ds.length := by have := rr2.len; simpa using this
  refine wpAny_list_append_plain (s := { s with heap := h2, toks := j }) (hsz := by rw [hlen]; have e : sizeLine = 2 ^ 24 := rfl; (first | lia | omega)) p2 (fun h3 p3 hsb => ?_)
  have kp := kp_same hsb
  have hlL : l ≠ L := L_ne_list F2 p2
  have wok : ∀ (bs : List Addr), l ∉ bs → ∀ a ∈ [l], Odd a h2 ∨ (a ∉ bs ∧ NoTup a h2) := fun bs hb a ha => by
    rw [List.mem_singleton] at ha; subst ha; exact .inr ⟨hb, noTup_list p2⟩
  have S3 : St g L h3 ρ (some (x, l, ds ++ [d])) := by
    refine ⟨m2, ⟨?_, fun b o e => kp b o (fun hb => ?_) (F2.keep b o e), F2.above⟩, fun y d' e => ?_, fun q e => ?_⟩
    · obtain ⟨o, es, ep, ho, r⟩ := F2.ns
      exact ⟨o, es, ep, kp _ _ (by simpa using hlL.symm) ho, r⟩
    · rw [List.mem_singleton] at hb; subst hb; rw [hg2] at e; cases e
    · obtain ⟨v, as, a, b, c, dd⟩ := hr2 y d' e
      exact ⟨v, as, a, reads_kp kp (wok _ (dd _ rfl)) b, c, fun q e => by cases e; exact dd (x, l, ds) rfl⟩
    · cases e
      refine ⟨hx2, hg2, ?_, _, p3, ?_⟩
      · show flatL (ds ++ [d]) = true
        exact flatL_snoc hf2 hf
      · rw [Array.toList_push]
        have ra : RdL ds items2.toList h3 := rdl_flat_kp kp hf2 (fun a ha => by rw [List.mem_singleton] at ha; subst ha; exact noTup_list p2) rr2
        have rb : Rd d y h3 := by
          obtain ⟨as, z⟩ := r2
          have e := flat_nil hf z
          subst e
          exact ⟨_, reads_kp kp (wok _ List.not_mem_nil) z⟩
        exact ra.append (RdL.cons rb RdL.nil)
  refine (k h3 S3).go _ Q E rfl po (fun fl h4 j4 kp4 p4 => q fl h4 j4 (((Keep.trans k1 k2).kp.trans (kp.mono fun b hb => ?_)).trans kp4) p4) (fun y h2 j r => x' y h2 j r)
  rw [List.mem_singleton] at hb; subst hb; exact .tail _ hl
/-- an if whose two ways meet behind it -/
theorem run_ifJ {test : Expr} {body : List Stmt} {pos : Pos} {b : Bool} (J : Heap → Prop) (S : St g L h ρ μ) (t : Tr (model prog w) A (envOf nm sc L fa cd) h test b X)
    (k1 : b = true → ∀ h', St g L h' ρ μ → Run (model prog w) A (envOf nm sc L fa cd) Ws body h' (fun fl h2 => fl = .next ∧ J h2) X)
    (k2 : b = false → ∀ h', St g L h' ρ μ → J h') (k : ∀ h', J h' → Run (model prog w) A (envOf nm sc L fa cd) Ws rest h' P X) :
    Run (model prog w) A (envOf nm sc L fa cd) Ws (.If test body [] pos :: rest) h P X := by
  refine run_if S t (fun e h' S' => run_mono (k1 e h' S') fun fl h2 q => ?_) (fun e h' S' => run_nil (k h' (k2 e h' S')))
  obtain ⟨rfl, j⟩ := q
  exact k h2 j
/-- a statement by what holds behind it -/
theorem run_cut {st : Stmt} (J : Heap → Prop) (a : Run (model prog w) A (envOf nm sc L fa cd) Ws [st] h (fun fl h2 => fl = .next ∧ J h2) X) (k : ∀ h', J h' → Run (model prog w) A (envOf nm sc L fa cd) Ws rest h' P X) :
    Run (model prog w) A (envOf nm sc L fa cd) Ws (st :: rest) h P X := by
  refine ⟨fun s Q E e po q x => ?_⟩; subst e
  have h1 := a.go s (fun f s' => ∃ h' j, f = .next ∧ s' = { s with heap := h', toks := j } ∧ Kp (L :: Ws) s.heap h' ∧ J h') E rfl po (fun fl h' j kp p => ⟨h', j, p.1, rfl, kp, p.2⟩) x
  have h2 : wpAny (model prog w) A (exec st (envOf nm sc L fa cd)) (fun f s' => ∃ h' j, f = .next ∧ s' = { s with heap := h', toks := j } ∧ Kp (L :: Ws) s.heap h' ∧ J h') E s := by
    intro Γ p hΓ
    have := h1 Γ p hΓ
    rw [execs_cons, Sem.wp_bind'] at this
    refine Sem.wp_mono _ Γ _ (fun f p' s' h' => ?_) (fun _ _ _ h' => h') _ _ this
    cases f <;> exact h'
  refine wpAny_execs_cons (wpAny_mono h2 (fun f s' hq => ?_) fun _ _ y => y)
  obtain ⟨h', j, rfl, rfl, kp, hJ⟩ := hq
  exact (k h' hJ).go _ Q E rfl po (fun fl h2 j2 kp2 p => q fl h2 j2 (kp.trans kp2) p) (fun y h2 j2 r => x y h2 j2 r)
end
end Mine

namespace Mine
open PySem PySem.Spec PySem.Calls PyProof.Rows PySem.W

/-- sizes -/
def Sz (n : Nat) (a : Int) : Prop := -(10 ^ n : Int) < a ∧ a < (10 ^ n : Int)
theorem pow_pos10 (n : Nat) : (0 : Int) < 10 ^ n := Int.pow_pos (by decide)
theorem pow_mono10 {n m : Nat} (h : n ≤ m) : (10 : Int) ^ n ≤ 10 ^ m := by
  have : (10 : Nat) ^ n ≤ 10 ^ m := Nat.pow_le_pow_right (by decide) h
  exact_mod_cast this
theorem Sz.mono {n m : Nat} {a : Int} (h : Sz n a) (hm : n ≤ m) : Sz m a := by
  have := pow_mono10 hm
  obtain ⟨h1, h2⟩ := h
  exact ⟨by (first | lia | omega), by (first | lia | omega)⟩
theorem Sz.natAbs {n : Nat} {a : Int} (h : Sz n a) : a.natAbs < 10 ^ n := by
  obtain ⟨h1, h2⟩ := h
  have e : ((10 ^ n : Nat) : Int) = (10 : Int) ^ n := by simp
  (first | lia | omega)
theorem Sz.of_natAbs {n : Nat} {a : Int} (h : a.natAbs < 10 ^ n) : Sz n a := by
  have e : ((10 ^ n : Nat) : Int) = (10 : Int) ^ n := by simp
  exact ⟨by (first | lia | omega), by (first | lia | omega)⟩
theorem Sz.mul {n m : Nat} {a b : Int} (ha : Sz n a) (hb : Sz m b) : Sz (n + m) (a * b) := by
  refine Sz.of_natAbs ?_
  rw [Int.natAbs_mul, Nat.pow_add]
  exact Nat.mul_lt_mul'' ha.natAbs hb.natAbs
theorem Sz.add {n m : Nat} {a b : Int} (ha : Sz n a) (hb : Sz m b) : Sz (max n m + 1) (a + b) := by
  refine Sz.of_natAbs ?_
  have h1 := (ha.mono (Nat.le_max_left n m)).natAbs
  have h2 := (hb.mono (Nat.le_max_right n m)).natAbs
  have h3 := Int.natAbs_add_le a b
  rw [Nat.pow_succ]; (first | lia | omega)
theorem Sz.neg {n : Nat} {a : Int} (ha : Sz n a) : Sz n (-a) := ⟨by have := ha.2; (first | lia | omega), by have := ha.1; (first | lia | omega)⟩
theorem Sz.sub {n m : Nat} {a b : Int} (ha : Sz n a) (hb : Sz m b) : Sz (max n m + 1) (a - b) := by rw [Int.sub_eq_add_neg]; exact ha.add hb.neg
theorem Sz.le {n : Nat} {a b : Int} (hb : Sz n b) (h0 : 0 ≤ a) (h : a ≤ b) : Sz n a := ⟨by have := pow_pos10 n; (first | lia | omega), by have := hb.2; (first | lia | omega)⟩
theorem Sz.abs {n : Nat} {a : Int} (ha : Sz n a) : Sz n a.natAbs := Sz.of_natAbs (by simpa using ha.natAbs)
theorem intBits_le {n : Nat} {a : Int} (h : Sz n a) (hn : n ≤ 1000) : Builtin.Int.intBits a ≤ 2 ^ 20 := by
  unfold Builtin.Int.intBits
  split
  · exact Nat.zero_le _
  · rename_i h0
    have ha : a.natAbs ≠ 0 := by
      intro e; apply h0; simp; (first | lia | omega)
    have h1 := h.natAbs
    have h2 : (10 : Nat) ^ n ≤ 2 ^ (4 * n) := by
      rw [Nat.pow_mul]; exact Nat.pow_le_pow_left (by decide) n
    have h3 : a.natAbs.log2 < 4 * n := (Nat.log2_lt ha).mpr (Nat.lt_of_lt_of_le h1 h2)
    (first | lia | omega)
theorem mul_ok {n m : Nat} {a b : Int} (ha : Sz n a) (hb : Sz m b) (hn : n ≤ 1000 := by decide) (hm : m ≤ 1000 := by decide) : IntMulOk a b := IntMulOk.of_bits (intBits_le ha hn) (intBits_le hb hm)
theorem div_ok {n : Nat} {b : Int} (hb : Sz n b) (hn : n ≤ 250 := by decide) : b < 10 ^ 250 := by have := (hb.mono hn).2; exact this

theorem rm_caller {n : Nat} (h : n ≤ 600 := by decide) : Rm callerA n := ⟨rfl, by show 1 + claimMargin + n < recursionLimit; simp only [claimMargin, recursionLimit]; (first | lia | omega), by show 4 + 3 * n + 100 < cLine; simp only [cLine]; (first | lia | omega)⟩

section
variable {c : Cx} {n : Nat} {A : Around} {nm : Str} {sc : Scope} {L fa : Addr} {cd : Value} {g h : Heap} {ρ : Locs} {μ : Mut} {X : Value → Heap → Prop} {p pos : Pos}
theorem ev_lenl {e : Expr} {ds : List PyData} (S : St g L h ρ μ) (T : c.T g) (B : Bn c) (e1 : Ev c.M A (envOf nm sc L fa cd) h e (Rd (.list ds)) X) (hn : ds.length < 2 ^ 62) (hk : sc.kind = .function := by rfl) (hg : (envOf nm sc L fa cd).kindOf (Str.ofString "len") = some .globalImplicit := by rfl)
    (he : pl e = true := by rfl) : Ev c.M A (envOf nm sc L fa cd) h (.Call (.Name (Str.ofString "len") p) [e] [] pos) (Rd (.int ds.length)) X :=
  ev_bcall (id := "len") S T B (by decide) (by decide +kernel) (evl_cons e1 evl_nil he) (fun vs h' k r => by
    obtain ⟨v, r', rfl, r1, r2⟩ := r.uncons
    cases r2.unnil
    exact op_len hn (.inl r1)) (by decide) hk hg (by decide) he rfl
theorem ev_lent {e : Expr} {ds : List PyData} (S : St g L h ρ μ) (T : c.T g) (B : Bn c) (e1 : Ev c.M A (envOf nm sc L fa cd) h e (Rd (.tuple ds)) X) (hn : ds.length < 2 ^ 62) (hk : sc.kind = .function := by rfl) (hg : (envOf nm sc L fa cd).kindOf (Str.ofString "len") = some .globalImplicit := by rfl)
    (he : pl e = true := by rfl) : Ev c.M A (envOf nm sc L fa cd) h (.Call (.Name (Str.ofString "len") p) [e] [] pos) (Rd (.int ds.length)) X :=
  ev_bcall (id := "len") S T B (by decide) (by decide +kernel) (evl_cons e1 evl_nil he) (fun vs h' k r => by
    obtain ⟨v, r', rfl, r1, r2⟩ := r.uncons
    cases r2.unnil
    exact op_len hn (.inr r1)) (by decide) hk hg (by decide) he rfl
end
theorem sz_lit {a : Int} (h : decide (-(10 ^ 10 : Int) < a ∧ a < 10 ^ 10) = true) : Sz 10 a := by have := of_decide_eq_true h; exact this
end Mine

namespace Mine
open PySem PySem.Spec PySem.Calls PyProof.Rows PySem.W
def bnOk (p : Program) (loose : List Str) : Bool := bnames.all fun x => !(startupNames.contains x || loose.contains x || ((recsOf p).map (·.name)).contains x || ((litsOf p).map (·.1)).contains x || ((clssOf p loose).map (·.name)).contains x)
theorem bn_of {prog p : Program} {w : World} {loose : List Str} {mean : ExcName → Option Value} {mg mb : Str → Option Value} {h : Heap} (T : Top p loose mean mg mb h) (hb : bnOk p loose = true) : Bn ⟨prog, w, p, loose, mean, mg, mb⟩ := by
  intro x hx
  have := List.all_eq_true.mp hb x hx
  simp only [Bool.not_eq_true', Bool.or_eq_false_iff] at this
  obtain ⟨⟨⟨⟨h1, h2⟩, h3⟩, h4⟩, h5⟩ := this
  have no : ∀ {l : List Str}, l.contains x = false → x ∉ l := fun e hm => by rw [List.contains_iff_mem.mpr hm] at e; cases e
  exact T.free x (no h1) (no h2) (no h3) (no h4) (no h5)
end Mine

namespace Mine
open PySem PySem.Spec PySem.Calls PyProof.Rows PySem.W PySem.Builtin PySem.Builtin.ObjectAttr PySem.Builtin.Getset_descriptor

/-- an object of the class C -/
def Ex (h : Heap) (x C : Addr) : Prop := ∃ o, h.get? x = some o ∧ o.cls = .ref C
theorem Ex.keep {h h' : Heap} {x C : Addr} (i : Ex h x C) (k : Keep h h') : Ex h' x C := let ⟨o, a, b⟩ := i; ⟨o, k _ _ a, b⟩
theorem Ex.type {M : Model} {h : Heap} {x C : Addr} (i : Ex h x C) : Looks M h (typeOf (.ref x)) (.ref C) := by
  obtain ⟨o, a, b⟩ := i
  exact b ▸ (Looks.ld a).andThen .now

section
variable {prog : Program} {w : World} {A : Around} {E : Value → Shared → Prop} {s : Shared} {K : Frag} {x C : Addr} {name : Str}

theorem looks_bind {M : Model} {h : Heap} {a g : Value} (X : K.In h) (ha : findIn K (.ref C) name = some (some a)) (hg : specialIn K a "__get__" = some (some g)) (ht : takesIn K a = some true) : Looks M h (find (.ref x) (.ref C) name) (.bind g a) := by
  refine (looks_findIn X ha).andThen ?_
  have L2 : Looks M h (getOf (some a)) (some g) := looks_specialIn X hg
  refine L2.andThen ?_
  exact (show Looks M h (dataDescriptor? (some a) (some g)) (some (g, a)) from (looks_takesIn X ht).andThen .now).andThen (Looks.tag .now)

/-- what is asked of a class for its objects' «__class__» -/
structure ClsAttr (K : Frag) (C : Addr) : Prop where
  ga : findIn K (.ref C) "__getattribute__" = some (some (.builtin "BaseException.__getattribute__"))
  gk : findIn K (.ref C) "__getattr__" = some none
  at_ : findIn K (.ref C) "__class__" = some (some (.builtin "object.__class__"))
  get : specialIn K (.builtin "object.__class__") "__get__" = some (some (.builtin "getset_descriptor.__get__"))
  data : takesIn K (.builtin "object.__class__") = some true
  obj : mroIn K C (.type "object") = some true
  be : mroIn K C (.type "BaseException") = some true
  cls : (clsIn K C).isSome = true

theorem the_class_get {tp : Value} {R : Except Value Flow → Shared → Prop} (X : K.In s.heap) (I : Ex s.heap x C) (hm : mroIn K C (.type "object") = some true)
    (h : R (.ok (.ret (.ref C))) s) : codeAny (model prog w) A (.call (.builtin "getset_descriptor.__get__") ⟨[.builtin "object.__class__", .ref x, tp], []⟩) R s := by
  obtain ⟨hh, g, dr, t, os⟩ := s
  have L0 := I.type (M := model prog w)
  have L1 := looks_mroIn (M := model prog w) X hm
  refine codeAny_call_builtin KF.slot_gs.plain KF.entry_gs (KF.slot_gs.check _ _ _ _ _ _ _ _ KF.type_class (KF.args_gs _ _ _) ?_)
  unfold Builtin.«getset_descriptor.__get__» descrGet
  rw [dga_obj]
  refine wpAny_bind (wpAny_pure ?_)
  unfold descrGetter descrCheckInstance descrNameAndClass isInstance
  simp only [KF.owner_class]
  repeat lk
  refine ⟨Code.quiet_builtin _ (by decide +kernel), codeAny_builtin KF.entry_class ?_⟩
  unfold Builtin.«object.__class__» shownTypeOf
  repeat lk
  exact h

theorem bexc_class {tk : Tok} {R : Except Value Flow → Shared → Prop} (X : K.In s.heap) (I : Ex s.heap x C) (H : ClsAttr K C)
    (h : R (.ok (.ret (.ref C))) s) : codeAny (model prog w) A (.call (.builtin "BaseException.__getattribute__") ⟨[.ref x, .str "__class__" tk], []⟩) R s := by
  obtain ⟨hh, g, d, t, os⟩ := s
  have L0 := I.type (M := model prog w)
  have L1 := looks_mroIn (M := model prog w) X H.be
  have L3 := looks_bind (M := model prog w) (x := x) X H.at_ H.get H.data
  have hk : builtinKind "BaseException.__getattribute__" = some .slot := by decide +kernel
  have hsplit : splitId "BaseException.__getattribute__" = some ("BaseException", "__getattribute__") := by decide +kernel
  have ha := PySem.F.args_bexc_ga (.ref x) (.str "__class__" tk)
  refine codeAny_call_builtin PySem.F.excAttr_ValueError.ga.plain PySem.F.entry_bexc_ga ?_
  simp only [checkBuiltinCall, hk, hsplit]
  unfold isInstance
  repeat (first | with_reducible refine wpAny_call ?_ | lk)
  refine the_class_get X I H.obj ?_
  exact wpAny_pure h

theorem the_class {Q : Option Value → Shared → Prop} (X : K.In s.heap) (I : Ex s.heap x C) (H : ClsAttr K C) (h : Q (some (.ref C)) { s with toks := s.toks + 1 }) : wpAny (model prog w) A (getAttr? (.ref x) "__class__") Q E s := by
  obtain ⟨hh, g, d, t, os⟩ := s
  have L0 := I.type (M := model prog w)
  have L1 := looks_findIn (M := model prog w) X H.ga
  have L2 := looks_findIn (M := model prog w) X H.gk
  have f3 := PySem.F.excAttr_ValueError.ga.bind (.ref x)
  have hx2 : (Value.builtin "BaseException.__getattribute__" == Value.builtin "object.__getattribute__") = false := by decide +kernel
  have hx1 : (onTheHeap (Value.ref C) && Value.builtin "BaseException.__getattribute__" == Value.builtin "object.__getattribute__") = false := by rw [hx2]; rfl
  have hx0 : (false && onTheHeap (Value.builtin "BaseException.__getattribute__")) = false := rfl
  unfold getAttr? getAttrBy? getAttrBy
  refine wpAny_bind (wpAny_mkText (wpAny_bind (wpAny_attempt (wpAny_holding (wpAny_bind (L0.at (wpAny_bind (L1.at ?_))))))))
  simp only [hx1, Bool.false_eq_true, if_false]
  unfold getAttrByItsOwn hookBefore callGetattribute boundAndCalled
  repeat (first | with_reducible refine wpAny_attempt ?_ | with_reducible refine wpAny_call ?_ | lk)
  refine bexc_class (s := ⟨hh, g, d, t + 1, os⟩) X I H ?_
  exact handed_on rfl (wpAny_pure h)

theorem looks_isType {M : Model} {h : Heap} (X : K.In h) (e : (clsIn K C).isSome = true) : Looks M h (isType (.ref C)) true := by
  unfold clsIn at e
  split at e
  · rename_i ho
    intro A' Q' E' s' k q
    unfold isType loadHead
    exact wpAny_bind (wpAny_loadPart (k _ _ (X _ _ ho)) (wpAny_pure q))
  · cases e

theorem isx_nested {c : Value} {b : Bool} {dep : Int} {tk : Tok} {Q : Fin → Shared → Prop} (X : K.In s.heap) (I : Ex s.heap x C) (H : ClsAttr K C) (hty : Looks (model prog w) s.heap (typeOf c) (.type "type")) (his : Looks (model prog w) s.heap (isType c) true)
    (hself : (Value.ref C == c) = true → b = true) (hsub : Looks (model prog w) s.heap (isSubtype (.ref C) c) b) (h : ∀ k, Q (.done (.ret (.bool b))) { s with toks := k }) :
    wpAny (model prog w) A (Builtin.«isinstance.nested» ⟨[.ref x, c, .int dep tk], []⟩) Q E s := by
  have hisD := looks_isType (M := model prog w) X H.cls
  obtain ⟨h0, g, d, tt, os⟩ := s
  have L0 := I.type (M := model prog w)
  have LI : Looks (model prog w) h0 (isInstance (.ref x) c) b := L0.andThen hsub
  unfold Builtin.«isinstance.nested»
  refine wpAny_bind (L0.at ?_)
  by_cases q : (Value.ref C == c) = true
  · rw [if_pos q]
    have hb := hself q
    subst hb
    exact wpAny_bind (wpAny_rule (wpAny_bind (wpAny_pure (wpAny_pure (h tt)))))
  · rw [if_neg q]
    refine wpAny_bind (hty.at ?_)
    rw [if_pos (by decide)]
    k_delta "plainIsInstance"
    refine wpAny_bind (wpAny_bind (his.at ?_))
    simp only [Bool.not_true, Bool.false_eq_true, if_false]
    refine wpAny_bind (LI.at ?_)
    cases b with
    | true =>
      simp only [if_true]
      exact wpAny_pure (wpAny_pure (h tt))
    | false =>
      simp only [Bool.false_eq_true, if_false]
      refine wpAny_bind (the_class X I H ?_)
      refine wpAny_bind (hisD.at ?_)
      simp only [Bool.not_true, Bool.false_eq_true, if_false]
      refine wpAny_bind (wpAny_rule ?_)
      refine hsub.at ?_
      first
        | exact wpAny_pure (h _)
        | exact wpAny_pure (wpAny_pure (h _))
        | exact wpAny_bind (wpAny_pure (wpAny_pure (h _)))

theorem isx_call {c : Value} {b : Bool} {Q : Value → Shared → Prop} (X : K.In s.heap) (I : Ex s.heap x C) (H : ClsAttr K C) (hty : ∀ (M : Model) h', K.In h' → Looks M h' (typeOf c) (.type "type")) (his : ∀ (M : Model) h', K.In h' → Looks M h' (isType c) true)
    (hself : (Value.ref C == c) = true → b = true) (hsub : mroIn K C c = some b) (h : ∀ k, Q (.bool b) { s with toks := k }) : wpAny (model prog w) A (call (.builtin "isinstance") [.ref x, c]) Q E s :=
  call_isinstance (S := fun _ R s => (K.In s.heap ∧ Ex s.heap x C) ∧ ∀ k, R (.ok (.ret (.bool b))) { s with toks := k })
    (fun _ _ _ _ _ hs => isinstance_outer (isx_nested hs.1.1 hs.1.2 H (hty _ _ hs.1.1) (his _ _ hs.1.1) hself (looks_mroIn hs.1.1 hsub) hs.2) (by intro q; cases q)) ⟨⟨X, I⟩, h⟩
end

/-- where the frames lie below -/
structure Pt (c : Cx) (K : Frag) (A : Around) (base : Heap) (outer : List Env) (g : Heap) : Prop where
  bel : Below A base outer g
  kin : K.In base
  top : c.T base

/-- an exception that has left the frames ahead of l -/
def Rz (base : Heap) (l : List Env) (G : Heap) (C e : Addr) (h' : Heap) : Prop := ∃ t vs, RaisedS base G l e (.ref C) t vs [] h' ∧ G.UpToSlots h'
/-- an exception on its way out of a frame -/
def Xb (base : Heap) (outer : List Env) (env : Env) (g : Heap) (L C : Addr) (x : Value) (h' : Heap) : Prop :=
  ∃ e, x = .ref e ∧ ((∃ h m vs, Heap.MadeExcOf h h' e (.ref C) vs ∧ Fr g L h m) ∨ (∃ G m, Rz base (env :: outer) G C e h' ∧ Fr g L G m))

/-- a call that raises an exception of the class C -/
structure FnR (c : Cx) (K : Frag) (n : Nat) (f : Str) (ds : List PyData) (C : Addr) : Prop where
  isDef : ∃ dr ∈ recsOf c.p, dr.name = f
  run : ∀ (A : Around) (base : Heap) (outer : List Env) (h : Heap) (vs : List Value) (a : Addr), Pt c K A base outer h → Rm A n → c.mg f = some (.ref a) → RdL ds vs h → ∀ (s : Shared) (Q : Value → Shared → Prop) (E : Value → Shared → Prop), s.heap = h →
    (∀ e h' k, Rz base outer h C e h' → E (.ref e) { s with heap := h', toks := k }) → wpAny c.M A (call (.ref a) vs) Q E s

section
variable {c : Cx} {K : Frag} {n : Nat} {f : Str} {ds : List PyData} {C : Addr}
theorem fnr_core {dn : Str} {dp : Arguments} {db : List Stmt} {dsc : Scope} {dps : Pos} {xs : List Str} (hd : (⟨dn, dp, db, dsc, dps⟩ : DefRec) ∈ recsOf c.p ∧ dn = f)
    (hb : ∀ pm cd doc (vs : List Value), vs.length = ds.length → bindArgs (docDef dn dp db dsc pm cd doc) ⟨vs, []⟩ = pure (xs.zip vs))
    (hlen : xs.length = ds.length) (hnd : xs.Nodup) (hloc : ∀ x ∈ xs, dsc.names.lookup x = some .local)
    (hco : dsc.isCoroutine = false) (hgen : dsc.isGenerator = false) (hk : dsc.kind = .function) (hcell : ∀ x ∈ dsc.names, x.2 ≠ .cell)
    (k : ∀ (A : Around) (base : Heap) (outer : List Env) (g h : Heap) (L fa : Addr) (cd : Value), Pt c K A base outer g → Rm (A.deeper (envOf dn dsc L fa cd)) n → St g L h (zipL xs ds) none →
      Run c.M (A.deeper (envOf dn dsc L fa cd)) (envOf dn dsc L fa cd) [] db h (fun _ _ => False) (Xb base outer (envOf dn dsc L fa cd) g L C)) : FnR c K (n + 1) f ds C := by
  obtain ⟨hd, hn⟩ := hd
  refine ⟨⟨_, hd, hn⟩, ?_⟩
  intro A base outer h vs a PT rm ha r s Q E es x
  subst es
  have T : c.T s.heap := PT.top.keeps PT.bel.stays
  obtain ⟨a', o, pm, cd, doc, h1, h2, h3, h4⟩ := T.fn ⟨dn, dp, db, dsc, dps⟩ hd
  dsimp only at h1 h3 h4
  rw [hn, ha] at h1; cases h1
  refine wpAny_call (call_plain (by have := rm.dep; (first | lia | omega)) h2 h3 T.nolimit h4 (hb pm cd doc vs (r.len)) (fun y hy => hloc _ (List.of_mem_zip (a := y.1) (b := y.2) hy).1) (fun h₁ F => ?_) hco hgen hk hcell)
  have S : St s.heap s.heap.objs.size h₁ (zipL xs ds) none := by
    refine ⟨_, F, fun x d e => ?_, fun q e => nomatch e⟩
    obtain ⟨v, as, e', r'⟩ := zip_reads r hnd hlen x d e
    refine ⟨v, as, e', PyProof.Rows.Reads.keeps F.keep r', fun hL => ?_, fun q e => nomatch e⟩
    obtain ⟨o, ho⟩ := reads_some r' _ hL
    exact absurd (Heap.lt_size ho) (Nat.lt_irrefl _)
  refine (k A base outer s.heap h₁ _ a cd PT rm.deeper S).go _ _ _ rfl PassesOwn.leaving (fun fl h' i kp' p => p.elim) (fun y h' i xb => ?_)
  obtain ⟨e, rfl, ⟨h₂, m, ws, hm, F₂⟩ | ⟨G, m, ⟨t, ws, R, U⟩, F₂⟩⟩ := xb
  · exact leave_raiseS (s' := { s with heap := h', toks := i }) PT.bel hm F₂ News.nil (fun h'' t R _ U => x e h'' i ⟨t, ws, R, U⟩) hk
  · exact leave_onS (s' := { s with heap := h', toks := i }) PT.bel F₂ R U (fun h'' R _ U => x e h'' i ⟨t, ws, R, U⟩)
end
end Mine

namespace Mine
open PySem PySem.Spec PySem.Calls PyProof.Rows PySem.W

section
variable {M : Model} {A : Around} {E : Value → Shared → Prop} {K : Frag} {e C D : Addr} {h : Heap} {g : Array GenState} {d : Drawn} {t : Nat} {os : OsState}
theorem exc_matches {Q : Bool → Shared → Prop} (X : K.In h) (I : Ex h e C) (hD : typeIn K (.ref D) = some (.type "type")) (hc : (clsIn K D).isSome = true) (hB : mroIn K D (.type "BaseException") = some true) (hs : mroIn K C (.ref D) = some true)
    (hq : Q true ⟨h, g, d, t, os⟩) : wpAny M A (excMatches (.ref e) (.ref D)) Q E ⟨h, g, d, t, os⟩ := by
  have LY := I.type (M := M)
  have LS := looks_mroIn (M := M) X hs
  have L0 : Looks M h (isSubtype (.type "type") (.type "tuple")) false := Looks.of_pure (by rw [isSubtype_type]; kernel_rfl)
  have LT : Looks M h (isInstance (.ref D) (.type "tuple")) false := (looks_typeIn (M := M) X hD).andThen L0
  have LE : Looks M h (isExcClass (.ref D)) true := by
    unfold isExcClass
    exact (looks_isType (M := M) X hc).andThen (looks_mroIn (M := M) X hB)
  unfold excMatches
  repeat (first | with_reducible refine Looks.at (by assumption) ?_ | wp_step)
  exact hq
end

abbrev bmV : List Value := [.type "ValueError", .type "Exception", .type "BaseException", .type "object"]
/-- an exception class of the text, under ValueError -/
structure EC (K : Frag) (x : Str) (C : Addr) : Prop where
  ns : nsIn K mainGlobals x = some (some (.ref C))
  attr : ClsAttr K C
  ty : typeIn K (.ref C) = some (.type "type")
  be : mroIn K C (.type "BaseException") = some true
  ve : mroIn K C (.type "ValueError") = some true
  exc : excIn K C bmV "ValueError.__new__" = true
theorem EC.mg {c : Cx} {K : Frag} {x : Str} {C : Addr} {h : Heap} (X : K.In h) (T : c.T h) (e : EC K x C) : c.mg x = some (.ref C) := mg_of X T.g e.ns
theorem EC.own {c : Cx} {K : Frag} {x : Str} {C : Addr} {h : Heap} (X : K.In h) (T : c.T h) (e : EC K x C) : OwnCls x C bmV "ValueError.__new__" c.mg h := own_of_in X (topRead_of T) e.ns e.exc

/-- ... that comes from a call -/
def Xp (base : Heap) (outer : List Env) (env : Env) (g : Heap) (L C : Addr) (x : Value) (h' : Heap) : Prop := ∃ e, x = .ref e ∧ ∃ G m, Rz base (env :: outer) G C e h' ∧ Fr g L G m
theorem Xp.b {base : Heap} {outer : List Env} {env : Env} {g : Heap} {L C : Addr} {x : Value} {h' : Heap} (r : Xp base outer env g L C x h') : Xb base outer env g L C x h' := let ⟨e, a, b⟩ := r; ⟨e, a, .inr b⟩
theorem Pt.t {c : Cx} {K : Frag} {A : Around} {base : Heap} {outer : List Env} {g : Heap} (P : Pt c K A base outer g) : c.T g := P.top.keeps P.bel.stays
theorem Pt.k {c : Cx} {K : Frag} {A : Around} {base : Heap} {outer : List Env} {g : Heap} (P : Pt c K A base outer g) : K.In g := P.kin.keeps P.bel.stays

section
variable {c : Cx} {K : Frag} {n : Nat} {f : Str} {C : Addr} {dn : Str} {dp : Arguments} {db : List Stmt} {dsc : Scope} {dps : Pos} {x1 x2 x3 x4 : Str} {d1 d2 d3 d4 : PyData}
theorem fnr1 (hd : (⟨dn, dp, db, dsc, dps⟩ : DefRec) ∈ recsOf c.p ∧ dn = f)
    (hb : ∀ pm cd doc (v1 : Value), bindArgs (docDef dn dp db dsc pm cd doc) ⟨[v1], []⟩ = pure [(x1, v1)])
    (k : ∀ (A : Around) (base : Heap) (outer : List Env) (g h : Heap) (L fa : Addr) (cd : Value), Pt c K A base outer g → Rm (A.deeper (envOf dn dsc L fa cd)) n → St g L h [(x1, d1)] none →
      Run c.M (A.deeper (envOf dn dsc L fa cd)) (envOf dn dsc L fa cd) [] db h (fun _ _ => False) (Xb base outer (envOf dn dsc L fa cd) g L C))
    (hnd : [x1].Nodup := by decide +kernel) (hloc : ∀ x ∈ [x1], dsc.names.lookup x = some .local := by decide +kernel)
    (hco : dsc.isCoroutine = false := by rfl) (hgen : dsc.isGenerator = false := by rfl) (hk : dsc.kind = .function := by rfl) (hcell : ∀ x ∈ dsc.names, x.2 ≠ .cell := by decide +kernel) : FnR c K (n + 1) f [d1] C :=
  fnr_core (xs := [x1]) hd (fun pm cd doc vs h => by obtain ⟨v1, rfl⟩ := lens1 h; exact hb pm cd doc v1) rfl hnd hloc hco hgen hk hcell k
end

section
variable {c : Cx} {K : Frag} {n : Nat} {A : Around} {nm : Str} {sc : Scope} {L fa : Addr} {cd : Value} {g h base : Heap} {outer : List Env} {ρ : Locs} {μ : Mut} {C : Addr} {X : Value → Heap → Prop}
/-- a call that raises -/
theorem ev_callr {k : Nat} {f : Str} {p pos : Pos} {e : Expr} {es : List Expr} {ds : List PyData} {R : Value → Heap → Prop} (S : St g L h ρ μ) (PT : Pt c K A base outer g) (rm : Rm (A.deeper (envOf nm sc L fa cd)) n) (F : FnR c K k f ds C)
    (a : EvL c.M (A.deeper (envOf nm sc L fa cd)) (envOf nm sc L fa cd) h pos (e :: es) ds X)
    (hkn : k ≤ n := by decide) (hX : ∀ y h', Xp base outer (envOf nm sc L fa cd) g L C y h' → X y h' := by first | exact fun _ _ r => r | exact fun _ _ r => Xp.b r)
    (hk : sc.kind = .function := by rfl) (hx : (envOf nm sc L fa cd).kindOf f = some .globalImplicit := by rfl) (hd : (f == ("__debug__" : Str)) = false := by decide)
    (he : pl e = true := by rfl) :
    Ev c.M (A.deeper (envOf nm sc L fa cd)) (envOf nm sc L fa cd) h (.Call (.Name f p) (e :: es) [] pos) R X := by
  refine ⟨fun s Q E k q x => ?_⟩
  obtain ⟨m, F0, _⟩ := (S.keep k).ex
  obtain ⟨dr, hdr, hn⟩ := F.isDef
  obtain ⟨a', o, pm, cd', doc, h1, h2, h3, h4⟩ := PT.t.fn dr hdr
  rw [hn] at h1
  refine wpAny_Call_NameR (ld_global_at F0 PT.t.g h1 ?_ hk hx hd)
  refine callWith_def h3 (a.seq k (fun vs h' i k' r => ?_) x) (pl_star he)
  refine ⟨k' _ _ (F0.keep _ _ h2), ?_⟩
  have F1 := F0.after k'
  exact F.run (A.deeper (envOf nm sc L fa cd)) base (envOf nm sc L fa cd :: outer) h' vs a' ⟨PT.bel.push F1 hk, PT.kin, PT.top⟩ (rm.less hkn) h1 r { s with heap := h', toks := i } Q E rfl (fun e h2 j rz => x (.ref e) h2 j (hX _ _ ⟨e, rfl, h', m, rz, F1⟩))
variable {Ws : List Addr} {P : Flow → Heap → Prop} {rest : List Stmt}
/-- raise -/
theorem run_raise {x : Str} {np cpos pos : Pos} {e : Expr} {d : PyData} (S : St g L h ρ μ) (T : c.T g) (X : K.In g) (O : EC K x C) (hh : A.handled = none) (ev : Ev c.M A (envOf nm sc L fa cd) h e (Rd d) (Xb base outer (envOf nm sc L fa cd) g L C))
    (hk : sc.kind = .function := by rfl) (hx : (envOf nm sc L fa cd).kindOf x = some .globalImplicit := by rfl) (hd : (x == ("__debug__" : Str)) = false := by decide) (he : pl e = true := by rfl) :
    Run c.M A (envOf nm sc L fa cd) Ws (.Raise (some (.Call (.Name x np) [e] [] cpos)) none pos :: rest) h P (Xb base outer (envOf nm sc L fa cd) g L C) := by
  refine ⟨fun s Q E es po q x' => ?_⟩; subst es
  obtain ⟨m, F, _⟩ := S.ex
  refine wpAny_execs_cons (Raise_own F T.g (O.own X T) PySem.F.excBase_ValueError hh ?_ (pl_star he) rfl hk hx hd)
  refine (evl_cons ev evl_nil he).go s _ E Keep.rfl (fun vs h' i k r => ⟨?_, ?_, fun h2 e' hm => ?_⟩) x'
  · rw [r.len]; show 1 ≤ sizeLine; decide
  · exact fun b o hb => k b o (F.keep b o hb)
  · exact x' (.ref e') h2 i ⟨e', rfl, .inl ⟨h', m, vs, hm, F.after k⟩⟩
end
end Mine

namespace Mine
open PySem PySem.Spec PySem.Calls PyProof.Rows PySem.W

/-- all stands as it stood, but for the slots of the frames -/
def Tn (fs : List Addr) (h h' : Heap) : Prop := (∀ b o, h.get? b = some o → b ∉ fs → h'.get? b = some o) ∧ (∀ b o, h.get? b = some o → b ∈ fs → ∃ sl, h'.get? b = some { o with slots := sl })
theorem Keep.tn {fs : List Addr} {h h' : Heap} (k : Keep h h') : Tn fs h h' := ⟨fun b o e _ => k b o e, fun b o e _ => ⟨o.slots, k b o e⟩⟩
abbrev frs (l : List Env) : List Addr := l.filterMap (·.frame)

/-- a frame's name that holds an object -/
def Sv (g : Heap) (L : Addr) (h : Heap) (x : Str) (v : Value) : Prop := ∃ m, Fr g L h m ∧ m x = some v
theorem Sv.keep {g : Heap} {L : Addr} {h h' : Heap} {x : Str} {v : Value} (S : Sv g L h x v) (k : Keep h h') : Sv g L h' x v := let ⟨m, F, e⟩ := S; ⟨m, F.after k, e⟩
theorem Sv.st {g : Heap} {L : Addr} {h : Heap} {x : Str} {v : Value} (S : Sv g L h x v) : St g L h [] none := let ⟨m, F, _⟩ := S; ⟨m, F, fun _ _ e => (nomatch e), fun _ e => (nomatch e)⟩

/-- a call that catches what is raised within -/
structure FnC (c : Cx) (K : Frag) (n : Nat) (f : Str) (ds : List PyData) (d : PyData) : Prop where
  isDef : ∃ dr ∈ recsOf c.p, dr.name = f
  run : ∀ (A : Around) (base : Heap) (outer : List Env) (h : Heap) (vs : List Value) (a : Addr), Pt c K A base outer h → Rm A n → c.mg f = some (.ref a) → RdL ds vs h → ∀ (s : Shared) (Q : Value → Shared → Prop) (E : Value → Shared → Prop), s.heap = h →
    (∀ v h' k, Tn (frs outer) h h' → Rd d v h' → Q v { s with heap := h', toks := k }) → wpAny c.M A (call (.ref a) vs) Q E s
/-- statements that catch -/
structure RunC (M : Model) (A : Around) (env : Env) (fs : List Addr) (g : Heap) (ss : List Stmt) (h : Heap) (d : PyData) : Prop where
  go : ∀ (s : Shared) (Q : Flow → Shared → Prop) (E : Value → Shared → Prop), s.heap = h → (∀ v h' k, Tn fs g h' → Rd d v h' → Q (.ret v) { s with heap := h', toks := k }) → wpAny M A (execs ss env) Q E s

section
variable {c : Cx} {K : Frag} {n : Nat} {f : Str} {ds : List PyData} {d : PyData}
theorem fnc_core {dn : Str} {dp : Arguments} {db : List Stmt} {dsc : Scope} {dps : Pos} {xs : List Str} (hd : (⟨dn, dp, db, dsc, dps⟩ : DefRec) ∈ recsOf c.p ∧ dn = f)
    (hb : ∀ pm cd doc (vs : List Value), vs.length = ds.length → bindArgs (docDef dn dp db dsc pm cd doc) ⟨vs, []⟩ = pure (xs.zip vs))
    (hlen : xs.length = ds.length) (hnd : xs.Nodup) (hloc : ∀ x ∈ xs, dsc.names.lookup x = some .local)
    (hco : dsc.isCoroutine = false) (hgen : dsc.isGenerator = false) (hk : dsc.kind = .function) (hcell : ∀ x ∈ dsc.names, x.2 ≠ .cell)
    (k : ∀ (A : Around) (base : Heap) (outer : List Env) (g h : Heap) (L fa : Addr) (cd : Value), Pt c K A base outer g → Rm (A.deeper (envOf dn dsc L fa cd)) n → St g L h (zipL xs ds) none →
      RunC c.M (A.deeper (envOf dn dsc L fa cd)) (envOf dn dsc L fa cd) (frs outer) g db h d) : FnC c K (n + 1) f ds d := by
  obtain ⟨hd, hn⟩ := hd
  refine ⟨⟨_, hd, hn⟩, ?_⟩
  intro A base outer h vs a PT rm ha r s Q E es x
  subst es
  have T : c.T s.heap := PT.t
  obtain ⟨a', o, pm, cd, doc, h1, h2, h3, h4⟩ := T.fn ⟨dn, dp, db, dsc, dps⟩ hd
  dsimp only at h1 h3 h4
  rw [hn, ha] at h1; cases h1
  refine wpAny_call (call_plain (by have := rm.dep; (first | lia | omega)) h2 h3 T.nolimit h4 (hb pm cd doc vs (r.len)) (fun y hy => hloc _ (List.of_mem_zip (a := y.1) (b := y.2) hy).1) (fun h₁ F => ?_) hco hgen hk hcell)
  have S : St s.heap s.heap.objs.size h₁ (zipL xs ds) none := by
    refine ⟨_, F, fun x d e => ?_, fun q e => nomatch e⟩
    obtain ⟨v, as, e', r'⟩ := zip_reads r hnd hlen x d e
    refine ⟨v, as, e', PyProof.Rows.Reads.keeps F.keep r', fun hL => ?_, fun q e => nomatch e⟩
    obtain ⟨o, ho⟩ := reads_some r' _ hL
    exact absurd (Heap.lt_size ho) (Nat.lt_irrefl _)
  exact (k A base outer s.heap h₁ _ a cd PT rm.deeper S).go _ _ _ rfl (fun v h' i tn rd => x v h' i tn rd)
end

section
variable {c : Cx} {K : Frag} {n : Nat} {A : Around} {nm : Str} {sc : Scope} {L fa : Addr} {cd : Value} {g h base : Heap} {outer : List Env} {ρ : Locs} {μ : Mut} {C D : Addr} {d : PyData}
theorem rc_try {e : Expr} {x : Str} {np ep hp pos : Pos} {rest suite : List Stmt} {s₀ : Stmt} (S : St g L h ρ μ) (PT : Pt c K A base outer g) (OD : EC K x D) (hsub : mroIn K C (.ref D) = some true)
    (ev : Ev c.M (A.deeper (envOf nm sc L fa cd)) (envOf nm sc L fa cd) h e (fun _ _ => False) (Xp base outer (envOf nm sc L fa cd) g L C))
    {v : Str} (k : ∀ x' g' h', Pt c K A base outer g' → Sv g' L h' v (.ref x') → Ex h' x' C →
      Run c.M ((A.deeper (envOf nm sc L fa cd)).mark (some (.ref x'))) (envOf nm sc L fa cd) [] (s₀ :: suite) h' (fun fl h2 => ∃ u, fl = .ret u ∧ Rd d u h2 ∧ St g' L h2 [] none) NoX)
    (hf : flat d = true := by rfl) (hk : sc.kind = .function := by rfl) (hlo : (envOf nm sc L fa cd).kindOf v = some .local := by rfl) (hx : (envOf nm sc L fa cd).kindOf x = some .globalImplicit := by rfl) (hd : (x == ("__debug__" : Str)) = false := by decide)
    (hi : interactive (envOf nm sc L fa cd) = false := by rfl) (hs : pl e = true := by rfl) :
    RunC c.M (A.deeper (envOf nm sc L fa cd)) (envOf nm sc L fa cd) (frs outer) g (.Try [.Expr e ep] [.ExceptHandler (some (.Name x np)) (some v) (s₀ :: suite) hp] [] [] pos :: rest) h d := by
  refine ⟨fun s Q E es q => ?_⟩
  subst es
  refine wpAny_execs_cons (wpAny_Try_except (wpAny_execs_cons (wpAny_Expr_any (ev.go s _ _ Keep.rfl (fun _ _ _ _ r => r.elim) (fun z h' i r => ?_)) hi (pl_swaps hs))))
  obtain ⟨ex, rfl, G, m, ⟨t, ws, ⟨⟨B, hB, hBG, hl, hfl, hnew⟩, htup⟩, hsm⟩, F⟩ := r
  refine wpAny_looks_onW (Around.frames_deeper PT.bel.stack) rfl hfl fun h₄ hheld₄ hsm₄ => ?_
  refine wpAny_landsW hheld₄ fun h₅ hheld hsm₅' => ?_
  have hsm₅ := hsm₄.trans hsm₅'
  obtain ⟨g₅, T₅, F₅, K₅⟩ := kts_ground PT.bel F hBG hheld.1 (hsm.trans hsm₅)
  have X₅ : K.In g₅ := PT.kin.keeps K₅.stays
  have P₅ : c.T g₅ := PT.top.keeps K₅.stays
  obtain ⟨ob, hob, hobc⟩ := hheld.there
  refine wpAny_handleBy_cons (codeAny_handlers_test (name_K F₅ X₅ (topRead_of P₅) OD.ns ?_ hk hx hd)) (by intro q; cases q)
  refine exc_matches (X₅.keeps F₅.keep) ⟨ob, hob, hobc⟩ OD.ty OD.attr.cls OD.be hsub (codeAny_handlers_suite_as ?_)
  refine lands_againW hheld fun h₆ hfl₆ hsm₆ => ?_
  obtain ⟨g₆, T₆, F₆, K₆⟩ := kts_ground PT.bel F hBG hfl₆.1 ((hsm.trans hsm₅).trans hsm₆)
  obtain ⟨oe, hoe, hoec⟩ := hfl₆.there
  have hne : ∀ h7, Heap.SameBut L h₆ h7 → Ex h7 ex C := fun h7 sb => by
    refine ⟨oe, ?_, hoec⟩
    rw [sb.2 ex ?_]; exact hoe
    intro eL
    obtain ⟨oe', ws', T', oT, ts, a1, a2, a3, _⟩ := hfl₆.2.2.2
    obtain ⟨o, es', ep', ho, hdt, _⟩ := F₆.ns
    rw [← eL, a1] at ho; cases ho
    rw [a3] at hdt; cases hdt
  refine wpAny_storeName_local hlo F₆.ns (fun h₇ hn₇ hs₇ => ?_) (by show (sc.kind == .class || (sc.kind == .module && L != mainGlobals)) = false; rw [hk]; rfl)
  have F₇ := F₆.set hn₇ hs₇
  refine wpAny_noRaise ((k ex g₆ h₇ ⟨K₆, PT.kin, PT.top⟩ ⟨_, F₇, by simp⟩ (hne _ hs₇)).go _ _ _ rfl PassesOwn.never (fun fl h₈ i₈ kp₈ p => ?_) (fun _ _ _ r => r))
  obtain ⟨u, rfl, ⟨as, ru⟩, S₈⟩ := p
  have eas := flat_nil hf ru
  subst eas
  obtain ⟨m₈, F₈, _⟩ := S₈.ex
  refine wpAny_nameGoes hlo F₈.ns (by show (sc.kind == .class || (sc.kind == .module && L != mainGlobals)) = false; rw [hk]; rfl) (fun h₉ m₉ hn₉ hs₉ => ?_)
  have kp₉ : Kp [L] h₈ h₉ := kp_same hs₉
  have k₉ : Keep g₆ h₉ := fun b o e => kp₉ b o (by
    intro hb
    rw [List.mem_singleton] at hb
    rw [hb, kts_self F₈] at e; cases e) (F₈.keep b o e)
  refine q u h₉ _ ⟨fun b o e nb => k₉ b o (T₆.other b o e nb), fun b o e hb => ?_⟩ ⟨[], reads_kp kp₉ (fun a ha => ?_) ru⟩
  · obtain ⟨sl, hsl⟩ := T₆.frame b o e hb
    exact ⟨sl, k₉ _ _ hsl⟩
  · rw [List.mem_singleton] at ha; subst ha
    exact .inr ⟨List.not_mem_nil, noTup_L F₈⟩
/-- the name of the object that was caught -/
theorem ev_exv {x : Str} {pos : Pos} {v : Value} {A' : Around} {X : Value → Heap → Prop} (S : Sv g L h x v) (hk : sc.kind = .function := by rfl) (hl : (envOf nm sc L fa cd).kindOf x = some .local := by rfl)
    (hd : (x == ("__debug__" : Str)) = false := by decide) : Ev c.M A' (envOf nm sc L fa cd) h (.Name x pos) (fun u _ => u = v) X :=
  EvT.ofS fun s Q E k q => by
    obtain ⟨m, F, hm⟩ := S.keep k
    exact ld F hm (q v s.toks rfl) hk hl hd
end

section
variable {c : Cx} {K : Frag} {n : Nat} {f : Str} {d : PyData} {dn : Str} {dp : Arguments} {db : List Stmt} {dsc : Scope} {dps : Pos} {x1 x2 x3 x4 : Str} {d1 d2 d3 d4 : PyData}
theorem fnc1 (hd : (⟨dn, dp, db, dsc, dps⟩ : DefRec) ∈ recsOf c.p ∧ dn = f)
    (hb : ∀ pm cd doc (v1 : Value), bindArgs (docDef dn dp db dsc pm cd doc) ⟨[v1], []⟩ = pure [(x1, v1)])
    (k : ∀ (A : Around) (base : Heap) (outer : List Env) (g h : Heap) (L fa : Addr) (cd : Value), Pt c K A base outer g → Rm (A.deeper (envOf dn dsc L fa cd)) n → St g L h [(x1, d1)] none →
      RunC c.M (A.deeper (envOf dn dsc L fa cd)) (envOf dn dsc L fa cd) (frs outer) g db h d)
    (hnd : [x1].Nodup := by decide +kernel) (hloc : ∀ x ∈ [x1], dsc.names.lookup x = some .local := by decide +kernel)
    (hco : dsc.isCoroutine = false := by rfl) (hgen : dsc.isGenerator = false := by rfl) (hk : dsc.kind = .function := by rfl) (hcell : ∀ x ∈ dsc.names, x.2 ≠ .cell := by decide +kernel) : FnC c K (n + 1) f [d1] d :=
  fnc_core (xs := [x1]) hd (fun pm cd doc vs h => by obtain ⟨v1, rfl⟩ := lens1 h; exact hb pm cd doc v1) rfl hnd hloc hco hgen hk hcell k
end

section
variable {c : Cx} {K : Frag} {A : Around} {nm : Str} {sc : Scope} {L fa : Addr} {cd : Value} {g h : Heap} {ρ : Locs} {μ : Mut} {X : Value → Heap → Prop} {C D : Addr}
/-- isinstance of what was caught, by a class of the text -/
theorem ev_isx {v x y : Str} {fp vp xp pos : Pos} {e : Addr} {b : Bool} (T : c.T g) (B : Bn c) (KX : K.In g) (S : Sv g L h v (.ref e)) (I : Ex h e C) (OC : EC K y C) (OD : EC K x D) (hsub : mroIn K C (.ref D) = some b) (hself : C = D → b = true)
    (hk : sc.kind = .function := by rfl) (hg : (envOf nm sc L fa cd).kindOf (Str.ofString "isinstance") = some .globalImplicit := by rfl) (hl : (envOf nm sc L fa cd).kindOf v = some .local := by rfl)
    (hx : (envOf nm sc L fa cd).kindOf x = some .globalImplicit := by rfl) (hdv : (v == ("__debug__" : Str)) = false := by decide) (hdx : (x == ("__debug__" : Str)) = false := by decide) :
    Ev c.M A (envOf nm sc L fa cd) h (.Call (.Name (Str.ofString "isinstance") fp) [.Name v vp, .Name x xp] [] pos) (Rd (.bool b)) X := by
  refine ⟨fun s Q E k q x' => ?_⟩
  have S' := S.keep k
  refine wpAny_Call_NameR ((ev_bname (x := "isinstance") S'.st T B (by decide) (v := .builtin "isinstance") (by decide +kernel) (by decide) hk hg (by decide)).seq (E := E) Keep.rfl (fun u h1 i k1 r => ?_) x')
  subst r
  refine callWith_builtin1 ?_ rfl rfl
  refine PyProof.Rows.args_cons ((ev_exv (c := c) (S'.keep k1) hk hl hdv (X := X)).go _ _ E Keep.rfl (fun u h2 j k2 r => ?_) (fun y h' i r => x' y h' i r)) rfl
  subst r
  refine PyProof.Rows.args_cons ((ev_gname ((S'.keep k1).keep k2).st T (OD.mg KX T) hk hx hdx (X := X)).go _ _ E Keep.rfl (fun u h3 j k3 r => ?_) (fun y h' i r => x' y h' i r)) rfl
  subst r
  refine PyProof.Rows.args_nil ?_
  have k123 := k1.trans (k2.trans k3)
  have kk := k.trans k123
  obtain ⟨m, F, _⟩ := S'.keep k123
  have KX3 : K.In h3 := KX.keeps F.keep
  refine isx_call (s := { s with heap := h3, toks := j }) KX3 (I.keep kk) OC.attr (fun _ _ X' => looks_typeIn X' OD.ty) (fun _ _ X' => looks_isType X' OD.attr.cls) (fun e => hself ?_) hsub (fun i' => q _ h3 i' k123 ⟨_, .bool b⟩)
  have := beq_iff_eq.mp e
  cases this; rfl
/-- ... by ValueError -/
theorem ev_isv {v y : Str} {fp vp xp pos : Pos} {e : Addr} (T : c.T g) (B : Bn c) (KX : K.In g) (S : Sv g L h v (.ref e)) (I : Ex h e C) (OC : EC K y C)
    (hk : sc.kind = .function := by rfl) (hg : (envOf nm sc L fa cd).kindOf (Str.ofString "isinstance") = some .globalImplicit := by rfl) (hl : (envOf nm sc L fa cd).kindOf v = some .local := by rfl)
    (hx : (envOf nm sc L fa cd).kindOf (Str.ofString "ValueError") = some .globalImplicit := by rfl) (hdv : (v == ("__debug__" : Str)) = false := by decide) :
    Ev c.M A (envOf nm sc L fa cd) h (.Call (.Name (Str.ofString "isinstance") fp) [.Name v vp, .Name (Str.ofString "ValueError") xp] [] pos) (Rd (.bool true)) X := by
  refine ⟨fun s Q E k q x' => ?_⟩
  have S' := S.keep k
  refine wpAny_Call_NameR ((ev_bname (x := "isinstance") S'.st T B (by decide) (v := .builtin "isinstance") (by decide +kernel) (by decide) hk hg (by decide)).seq (E := E) Keep.rfl (fun u h1 i k1 r => ?_) x')
  subst r
  refine callWith_builtin1 ?_ rfl rfl
  refine PyProof.Rows.args_cons ((ev_exv (c := c) (S'.keep k1) hk hl hdv (X := X)).go _ _ E Keep.rfl (fun u h2 j k2 r => ?_) (fun y h' i r => x' y h' i r)) rfl
  subst r
  refine PyProof.Rows.args_cons ((ev_bname (x := "ValueError") ((S'.keep k1).keep k2).st T B (by decide) (v := .type "ValueError") (by decide +kernel) (by decide) hk hx (by decide) (X := X)).go _ _ E Keep.rfl (fun u h3 j k3 r => ?_) (fun y h' i r => x' y h' i r)) rfl
  subst r
  refine PyProof.Rows.args_nil ?_
  have k123 := k1.trans (k2.trans k3)
  have kk := k.trans k123
  obtain ⟨m, F, _⟩ := S'.keep k123
  have KX3 : K.In h3 := KX.keeps F.keep
  exact isx_call (s := { s with heap := h3, toks := j }) KX3 (I.keep kk) OC.attr (fun _ _ _ => Looks.of_pure (by kernel_rfl)) (fun _ _ _ => Looks.of_pure rfl) (fun _ => rfl) OC.ve (fun i' => q _ h3 i' k123 ⟨_, .bool true⟩)
end

/-- the law's own statements: in the end a True, and what stood stands -/
structure RunW (M : Model) (A : Around) (env : Env) (g : Heap) (ss : List Stmt) (h : Heap) : Prop where
  go : ∀ (s : Shared) (Q : Flow → Shared → Prop) (E : Value → Shared → Prop), s.heap = h → PassesOwn M A env E → (∀ h' k, Keep g h' → Q (.ret (.bool true)) { s with heap := h', toks := k }) → wpAny M A (execs ss env) Q E s
structure FnW (c : Cx) (K : Frag) (f : Str) (ds : List PyData) : Prop where
  run : ∀ (h : Heap) (vs : List Value) (a : Addr), c.T h → K.In h → c.mg f = some (.ref a) → RdL ds vs h → ∀ (s : Shared) (Q : Value → Shared → Prop) (E : Value → Shared → Prop), s.heap = h →
    (∀ h' k, Keep h h' → Q (.bool true) { s with heap := h', toks := k }) → wpAny c.M callerA (call (.ref a) vs) Q E s

section
variable {c : Cx} {K : Frag} {n : Nat} {f : Str} {dn : Str} {dp : Arguments} {db : List Stmt} {dsc : Scope} {dps : Pos} {x1 : Str} {d1 : PyData}
theorem fnw1 (hd : (⟨dn, dp, db, dsc, dps⟩ : DefRec) ∈ recsOf c.p ∧ dn = f)
    (hb : ∀ pm cd doc (v1 : Value), bindArgs (docDef dn dp db dsc pm cd doc) ⟨[v1], []⟩ = pure [(x1, v1)])
    (k : ∀ (g h : Heap) (L fa : Addr) (cd : Value), Pt c K callerA g [] g → Rm (callerA.deeper (envOf dn dsc L fa cd)) n → St g L h [(x1, d1)] none →
      RunW c.M (callerA.deeper (envOf dn dsc L fa cd)) (envOf dn dsc L fa cd) g db h)
    (hr : n + 1 ≤ 600 := by decide)
    (hnd : [x1].Nodup := by decide +kernel) (hloc : ∀ x ∈ [x1], dsc.names.lookup x = some .local := by decide +kernel)
    (hco : dsc.isCoroutine = false := by rfl) (hgen : dsc.isGenerator = false := by rfl) (hk : dsc.kind = .function := by rfl) (hcell : ∀ x ∈ dsc.names, x.2 ≠ .cell := by decide +kernel) : FnW c K f [d1] := by
  obtain ⟨hd, hn⟩ := hd
  refine ⟨fun h vs a T KX ha r s Q E es q => ?_⟩
  subst es
  have rm : Rm callerA (n + 1) := rm_caller hr
  obtain ⟨a', o, pm, cd, doc, h1, h2, h3, h4⟩ := T.fn ⟨dn, dp, db, dsc, dps⟩ hd
  dsimp only at h1 h3 h4
  rw [hn, ha] at h1; cases h1
  refine wpAny_call (call_plain (binds := [x1].zip vs) (by have := rm.dep; (first | lia | omega)) h2 h3 T.nolimit h4 (by obtain ⟨v1, rfl⟩ := lens1 r.len; exact hb pm cd doc v1) (fun y hy => hloc _ (List.of_mem_zip (a := y.1) (b := y.2) hy).1) (fun h₁ F => ?_) hco hgen hk hcell)
  have S : St s.heap s.heap.objs.size h₁ [(x1, d1)] none := by
    refine ⟨_, F, fun x d e => ?_, fun q e => nomatch e⟩
    obtain ⟨v, as, e', r'⟩ := zip_reads (xs := [x1]) (ds := [d1]) r hnd rfl x d e
    refine ⟨v, as, e', PyProof.Rows.Reads.keeps F.keep r', fun hL => ?_, fun q e => nomatch e⟩
    obtain ⟨o, ho⟩ := reads_some r' _ hL
    exact absurd (Heap.lt_size ho) (Nat.lt_irrefl _)
  exact (k s.heap h₁ _ a cd ⟨below_caller _, KX, T⟩ rm.deeper S).go _ _ _ rfl PassesOwn.leaving (fun h' i kp => q h' i kp)
theorem law_endW {s₁ : Shared} {fa l : Addr} {d : PyData} {as : List Addr} {cl : Str → Option Addr} {mean : ExcName → Option Value} {args : List WData} {cm : ClaimW} {nm : Str} (F : FnW c K nm [d]) (T : c.T s₁.heap) (KX : K.In s₁.heap) (hmg : c.mg nm = some (.ref fa))
    (r0 : Reads s₁.heap (.ref l) d as) (hg : s₁.gens = #[]) (hn : ∀ cls, cm.raises args cls = false) (hp : cm.post args (.bool true) args = true) :
    wpAny c.M callerA (call (.ref fa) [.ref l]) (fun v s' => GoodWG cm cl mean args s₁ (.ok (.ret v)) s') (fun e s' => GoodWG cm cl mean args s₁ (.error e) s') s₁ := by
  refine F.run s₁.heap [.ref l] fa T KX hmg ⟨_, .cons r0 .nil⟩ s₁ _ _ rfl (fun h' k kk => ?_)
  exact GoodW.toG ⟨.inl ⟨_, .bool true, [], rfl, hn, .bool true, hp, fun _ => ⟨.nil, fun _ ha => nomatch ha⟩⟩, kk, rfl, hg⟩
end

section
variable {c : Cx} {K : Frag} {n : Nat} {A : Around} {nm : Str} {sc : Scope} {L fa : Addr} {cd : Value} {g h : Heap} {ρ : Locs} {μ : Mut} {rest : List Stmt}
/-- ... the usual end -/
theorem rw_run {ss : List Stmt} (S : St g L h ρ μ) (r : Run c.M A (envOf nm sc L fa cd) [] ss h (fun fl h' => Rd (.bool true) (retv fl) h') NoX) : RunW c.M A (envOf nm sc L fa cd) g ss h := by
  refine ⟨fun s Q E es po q => r.go s Q E es po (fun fl h' k kp p => ?_) (fun _ _ _ x => x.elim)⟩
  have hv := rd_bool p
  obtain ⟨m, F, _⟩ := S.ex
  have kk : Keep g h' := fun b o e => kp b o (by
    intro hb
    rw [List.mem_singleton] at hb
    have hb' : b = L := hb
    rw [hb', kts_self F] at e; cases e) (F.keep b o e)
  cases fl with
  | ret v => cases hv; exact q h' k kk
  | next => cases hv
  | brk => cases hv
  | cont => cases hv
/-- ... by a call that catches -/
theorem rw_retc {k : Nat} {f : Str} {p pos rp : Pos} {e : Expr} {es : List Expr} {ds : List PyData} (S : St g L h ρ μ) (PT : Pt c K callerA g [] g) (rm : Rm (callerA.deeper (envOf nm sc L fa cd)) n) (F : FnC c K k f ds (.bool true))
    (a : EvL c.M (callerA.deeper (envOf nm sc L fa cd)) (envOf nm sc L fa cd) h pos (e :: es) ds NoX)
    (hkn : k ≤ n := by decide)
    (hk : sc.kind = .function := by rfl) (hx : (envOf nm sc L fa cd).kindOf f = some .globalImplicit := by rfl) (hd : (f == ("__debug__" : Str)) = false := by decide)
    (he : pl e = true := by rfl) :
    RunW c.M (callerA.deeper (envOf nm sc L fa cd)) (envOf nm sc L fa cd) g (.Return (some (.Call (.Name f p) (e :: es) [] pos)) rp :: rest) h := by
  refine ⟨fun s Q E es po q => ?_⟩; subst es
  refine wpAny_execs_cons (wpAny_Return_some ?_)
  obtain ⟨m, F0, _⟩ := S.ex
  obtain ⟨dr, hdr, hn⟩ := F.isDef
  obtain ⟨a', o, pm, cd', doc, h1, h2, h3, h4⟩ := PT.t.fn dr hdr
  rw [hn] at h1
  refine wpAny_Call_NameR (ld_global_at F0 PT.t.g h1 ?_ hk hx hd)
  refine callWith_def h3 (a.seq Keep.rfl (fun vs h' i k' r => ?_) (fun _ _ _ x => x.elim)) (pl_star he)
  refine ⟨k' _ _ (F0.keep _ _ h2), ?_⟩
  have F1 := F0.after k'
  refine F.run (callerA.deeper (envOf nm sc L fa cd)) g [envOf nm sc L fa cd] h' vs a' ⟨PT.bel.push F1 hk, PT.kin, PT.top⟩ (rm.less hkn) h1 r { s with heap := h', toks := i } _ _ rfl (fun v h2 j tn rd => ?_)
  cases rd_bool rd
  refine q h2 j (fun b o e => tn.1 b o (F1.keep b o e) fun hb => ?_)
  have hb' : b ∈ [L] := hb
  rw [List.mem_singleton] at hb'
  rw [hb', kts_self F1] at e; cases e
/-- ... a name -/
theorem rw_assign {x : Str} {px pos : Pos} {e : Expr} {d : PyData} (S : St g L h ρ μ) (ev : Ev c.M A (envOf nm sc L fa cd) h e (Rf h d) NoX)
    (k : ∀ h', St g L h' ((x, d) :: ρ) μ → RunW c.M A (envOf nm sc L fa cd) g rest h')
    (hμ : ∀ q, μ = some q → q.1 ≠ x := by intro q e; first | (cases e; done) | (cases e; dsimp only; decide)) (hk : sc.kind = .function := by rfl) (hl : (envOf nm sc L fa cd).kindOf x = some .local := by rfl)
    (hs : pl e = true := by rfl) : RunW c.M A (envOf nm sc L fa cd) g (.Assign [.Name x px] e pos :: rest) h := by
  refine ⟨fun s Q E es po q => ?_⟩; subst es
  refine wpAny_execs_cons (wpAny_Assign_Name (ev.go s _ E Keep.rfl (fun v h1 i k1 r => ?_) (fun _ _ _ x => x.elim)) (pl_swaps hs))
  obtain ⟨m, F, hr, hm⟩ := (S.keep k1).ex
  obtain ⟨as, r, hf⟩ := r
  refine wpAny_storeName_local hl F.ns (fun h' hn hsb => ?_) (by show (sc.kind == .class || (sc.kind == .module && L != mainGlobals)) = false; rw [hk]; rfl)
  have S' : St g L h' ((x, d) :: ρ) μ := by
    refine (S.keep k1).store hμ F r (fun hL => ?_) (fun q e hl => ?_) hn hsb
    · obtain ⟨m0, F0, _⟩ := S.ex
      obtain ⟨o, ho⟩ := L_some F0
      rw [hf L hL] at ho; cases ho
    · obtain ⟨m0, F0, _, hm0⟩ := S.ex
      obtain ⟨_, _, _, items, ⟨n, p⟩, _⟩ := hm0 q e
      rw [hf _ hl] at p; cases p
  exact (k h' S').go _ Q E rfl po (fun h2 j kp => q h2 j kp)
theorem rw_set {x : Str} {px pos : Pos} {e : Expr} {d : PyData} (S : St g L h ρ μ) (ev : Ev c.M A (envOf nm sc L fa cd) h e (Rd d) NoX)
    (k : ∀ h', St g L h' ((x, d) :: ρ) μ → RunW c.M A (envOf nm sc L fa cd) g rest h') (hf : flat d = true := by rfl)
    (hμ : ∀ q, μ = some q → q.1 ≠ x := by intro q e; first | (cases e; done) | (cases e; dsimp only; decide)) (hk : sc.kind = .function := by rfl) (hl : (envOf nm sc L fa cd).kindOf x = some .local := by rfl)
    (hs : pl e = true := by rfl) : RunW c.M A (envOf nm sc L fa cd) g (.Assign [.Name x px] e pos :: rest) h :=
  rw_assign S (ev.mono fun _ _ _ r => .of_flat hf r) k hμ hk hl hs
/-- ... a branch that ends the law -/
theorem rw_if {test : Expr} {body : List Stmt} {pos : Pos} {b : Bool} (S : St g L h ρ μ) (t : Tr c.M A (envOf nm sc L fa cd) h test b NoX)
    (k1 : b = true → ∀ h', St g L h' ρ μ → RunW c.M A (envOf nm sc L fa cd) g body h')
    (k2 : b = false → ∀ h', St g L h' ρ μ → RunW c.M A (envOf nm sc L fa cd) g rest h') :
    RunW c.M A (envOf nm sc L fa cd) g (.If test body [] pos :: rest) h := by
  refine ⟨fun s Q E es po q => ?_⟩; subst es
  refine wpAny_execs_cons (wpAny_If (t.go s _ E Keep.rfl (fun c' h1 i k' r => ?_) (fun _ _ _ x => x.elim)))
  subst r
  cases c' with
  | true => exact (k1 rfl h1 (S.keep k')).go _ _ E rfl po (fun h2 j kp => q h2 j kp)
  | false => exact wpAny_execs_nil ((k2 rfl h1 (S.keep k')).go _ Q E rfl po (fun h2 j kp => q h2 j kp))
/-- ... a branch that goes on -/
theorem rw_ifJ {test : Expr} {body orelse : List Stmt} {pos : Pos} {b : Bool} (J : Heap → Prop) (S : St g L h ρ μ) (t : Tr c.M A (envOf nm sc L fa cd) h test b NoX)
    (k1 : b = true → ∀ h', St g L h' ρ μ → Run c.M A (envOf nm sc L fa cd) [] body h' (fun fl h2 => fl = .next ∧ J h2) NoX)
    (k2 : b = false → ∀ h', St g L h' ρ μ → Run c.M A (envOf nm sc L fa cd) [] orelse h' (fun fl h2 => fl = .next ∧ J h2) NoX)
    (k3 : ∀ h', J h' → RunW c.M A (envOf nm sc L fa cd) g rest h') :
    RunW c.M A (envOf nm sc L fa cd) g (.If test body orelse pos :: rest) h := by
  refine ⟨fun s Q E es po q => ?_⟩; subst es
  refine wpAny_execs_cons (wpAny_If (t.go s _ E Keep.rfl (fun c' h1 i k' r => ?_) (fun _ _ _ x => x.elim)))
  subst r
  have fin : ∀ (ss : List Stmt), Run c.M A (envOf nm sc L fa cd) [] ss h1 (fun fl h2 => fl = .next ∧ J h2) NoX →
      wpAny c.M A (execs ss (envOf nm sc L fa cd)) (fun f s' => match f with | .next => wpAny c.M A (execs rest (envOf nm sc L fa cd)) Q E s' | f => Q f s') E { s with heap := h1, toks := i } := by
    intro ss r
    refine r.go _ _ E rfl po (fun fl h2 j kp p => ?_) (fun _ _ _ x => x.elim)
    obtain ⟨rfl, hj⟩ := p
    exact (k3 h2 hj).go _ Q E rfl po (fun h3 j kp => q h3 j kp)
  cases c' with
  | true => exact fin _ (k1 rfl h1 (S.keep k'))
  | false => exact fin _ (k2 rfl h1 (S.keep k'))
end
end Mine

namespace Mine
open PySem PySem.Spec PySem.Calls PyProof.Rows PySem.W

section
variable {prog : Program} {w : World} {A : Around} {env : Env} {h : Heap} {X : Value → Heap → Prop} {n : Nat}
theorem dmin {a b c : Nat} (h : b ≤ c) : min a b ≤ c := Nat.le_trans (Nat.min_le_right _ _) h
theorem op_notin {d : PyData} {xs : List PyData} {v1 v2 : Value} {h' : Heap} (rm : Rm A n) (r1 : Rd d v1 h') (r2 : Rd (.tuple xs) v2 h') (hxs : PyData.canLayAll0 xs = true) (hd : SeqAt.shaped d = true) :
    EvT (model prog w) A h' (compareOp .NotIn v1 v2) (Rd (.bool (!xs.any fun y => PyData.eqv y d))) X := by
  obtain ⟨as, x⟩ := r1; obtain ⟨bs, y⟩ := r2
  have := rm.un
  have := dmin (a := PyData.depthAll xs) (SeqAt.depth_of_shaped hd)
  exact EvT.ofS fun s _ _ k q => SeqAt.notIn_tuple_reads (PyProof.Rows.Reads.keeps k y) (PyProof.Rows.Reads.keeps k x) hxs (SeqAt.canLay_of_shaped hd) (by (first | lia | omega)) (q _ s.toks ⟨_, .bool _⟩)
theorem tr_notin {l r : Expr} {pos : Pos} {d : PyData} {xs : List PyData} (rm : Rm A n) (e1 : Ev (model prog w) A env h l (Rd d) X) (e2 : Ev (model prog w) A env h r (Rd (.tuple xs)) X) (hxs : PyData.canLayAll0 xs = true) (hd : SeqAt.shaped d = true)
    (hm : pl r = true := by rfl) : Tr (model prog w) A env h (.Compare l [.NotIn] [r] pos) (!xs.any fun y => PyData.eqv y d) X := tr_cmp e1 e2 (fun _ _ _ _ r1 r2 => op_notin rm r1 r2 hxs hd) hm
end

section
variable {prog : Program} {w : World} {A : Around} {nm : Str} {sc : Scope} {L fa : Addr} {cd : Value} {g h : Heap} {ρ : Locs} {X : Value → Heap → Prop}
/-- the own list, handed back -/
theorem ev_own {x : Str} {pos : Pos} {l : Addr} {ds : List PyData} (S : St g L h ρ (some (x, l, ds))) (hk : sc.kind = .function := by rfl) (hl : (envOf nm sc L fa cd).kindOf x = some .local := by rfl)
    (hd : (x == ("__debug__" : Str)) = false := by decide) : Ev (model prog w) A (envOf nm sc L fa cd) h (.Name x pos) (Rl g ds) X :=
  EvT.ofS fun s Q E k q => by
    obtain ⟨m, F, _, hm⟩ := (S.keep k).ex
    obtain ⟨hv, hg, _, items, p, r⟩ := hm _ rfl
    exact ld F hv (q _ s.toks ⟨l, items, rfl, p, r, hg⟩) hk hl hd
end

/-- an own class under another -/
structure EU (K : Frag) (x : Str) (C D : Addr) : Prop where
  ec : EC K x C
  sub : mroIn K C (.ref D) = some true
  self : mroIn K C (.ref C) = some true
def wd (b : Bool) : Str := if b then "right" else "left"
def aw : Option Bool → Str
  | none => ""
  | some b => wd b
def runD (s : Bool × Int) : PyData := .tuple [.str (wd s.1), .int s.2]
def pathD (p : Path) : List PyData := p.map runD
theorem pathD_len (p : Path) : (pathD p).length = p.length := by simp [pathD]
theorem pathD_snoc (p : Path) (s : Bool × Int) : pathD (p ++ [s]) = pathD p ++ [runD s] := by simp [pathD]
theorem pathD_flat : ∀ p : Path, flatL (pathD p) = true
  | [] => rfl
  | s :: t => by
    show (flat (runD s) && flatL (pathD t)) = true
    rw [pathD_flat t]; rfl
theorem drop_at {α : Type} {l : List α} {i : Nat} {x : α} (h : l[i]? = some x) : l.drop i = x :: l.drop (i + 1) := by
  obtain ⟨hi, rfl⟩ := List.getElem?_eq_some_iff.mp h
  exact List.drop_eq_getElem_cons hi
end Mine

namespace Mine
open PySem PySem.Spec PySem.Calls PyProof.Rows PySem.W

theorem fresh_size {h h' : Heap} (k : Keep h h') : h.get? h'.objs.size = none := by
  cases hq : h.get? h'.objs.size with
  | none => rfl
  | some o => exact absurd (Heap.lt_size (k _ _ hq)) (Nat.lt_irrefl _)

section
variable {prog : Program} {w : World} {A : Around} {env : Env} {h : Heap} {X : Value → Heap → Prop}
/-- list + list -/
theorem ev_addl {l r : Expr} {pos : Pos} {ds es : List PyData} (e1 : Ev (model prog w) A env h l (Rd (.list ds)) X) (e2 : Ev (model prog w) A env h r (Rd (.list es)) X) (hn : ds.length + es.length ≤ sizeLine) :
    Ev (model prog w) A env h (.BinOp l .Add r pos) (Rl h (ds ++ es)) X := ev_bin e1 e2 fun v1 v2 h' kk r1 r2 => by
  obtain ⟨a, items, rfl, il, r1⟩ := rd_list r1
  obtain ⟨b, items2, rfl, il2, r2⟩ := rd_list r2
  refine ⟨fun s Q E k q x => ?_⟩
  obtain ⟨⟨cls, dd, data, sl⟩, ho, hc, n, hd⟩ := il
  obtain ⟨⟨cls2, dd2, data2, sl2⟩, ho2, hc2, n2, hd2⟩ := il2
  simp only at hc hd hc2 hd2
  subst hc hd hc2 hd2
  have hs1 : items.size = ds.length := by have := r1.len; simpa using this
  have hs2 : items2.size = es.length := by have := r2.len; simpa using this
  refine concat_meets ⟨_, k _ _ ho, rfl⟩ ⟨_, k _ _ ho2, rfl⟩ noFill_list_add seq_list_add PySem.F.slot_list_add PySem.F.entry_list_add (PySem.F.args_list_add_2 _ _) (list_addW a b items items2 n n2 dd dd2 sl sl2 (by rw [hs1, hs2]; exact hn)) ⟨k _ _ ho, k _ _ ho2, ?_⟩
  refine q _ _ s.toks (Keep.push Keep.rfl _) ⟨_, _, rfl, ⟨_, Heap.get?_push_size _ rfl⟩, ?_, fresh_size (kk.trans k)⟩
  rw [Array.toList_append]
  exact (r1.append r2).keep (Keep.push k _)

/-- a method with one argument -/
theorem ev_meth1 {o e : Expr} {name : Str} {T id : String} {ap pos : Pos} {R1 R : Value → Heap → Prop} {d2 : PyData} (pa : PlainAttrs T) (slot : Slot T name id) (hty : typeOf (.builtin id) = pure (.type "method_descriptor"))
    (e1 : Ev (model prog w) A env h o R1 X) (e2 : Ev (model prog w) A env h e (Rd d2) X) (m1 : ∀ v h' h'', Keep h' h'' → R1 v h' → R1 v h'')
    (hT : ∀ v (s : Shared), R1 v s.heap → s.TypeIs v T ∧ (∀ a, v = .ref a → ∃ ob, s.heap.get? a = some ob ∧ ob.dict = none))
    (op : ∀ v1 v2 h', Keep h h' → R1 v1 h' → Rd d2 v2 h' → EvT (model prog w) A h' (call (.builtin id) [v1, v2]) R X)
    (hbase : attributeBase o name env (eval o env) = eval o env := by rfl) (hline : (ap.endLine == pos.line) = true := by rfl) (he : pl e = true := by rfl) :
    Ev (model prog w) A env h (.Call (.Attribute o name ap) [e] [] pos) R X := by
  refine ⟨fun s Q E k q x => ?_⟩
  refine Call_method1 hbase (pl_star he) hline ?_
  refine e1.go s _ E k (fun v1 h1 i k1 r1 => ?_) x
  obtain ⟨t1, t2⟩ := hT v1 { s with heap := h1, toks := i } r1
  refine ⟨T, id, pa, slot, hty, t1, t2, ?_⟩
  refine Calls.callWith_builtin rfl (Calls.evalArgs_plain (Calls.spliced_cons ?_))
  refine (e2.up (k.trans k1)).go { s with heap := h1, toks := i } _ E Keep.rfl (fun v2 h2 j k2 r2 => Calls.spliced_nil ?_) (fun y h' i r => x y h' i r)
  exact (op v1 v2 h2 ((k.trans k1).trans k2) (m1 _ _ _ k2 r1) r2).go { s with heap := h2, toks := j } Q E Keep.rfl (fun v h3 i3 k3 r3 => q v h3 i3 ((Keep.trans k1 k2).trans k3) r3) (fun y h' i r => x y h' i r)

theorem op_countT {g : Heap} {ds : List PyData} {v : Value} {v2 : Value} {k : Bool} (hb : ds.all Shape.bool.has = true) (r : Rl g ds v h) (r2 : Rd (.bool k) v2 h) : EvT (model prog w) A h (call (.builtin "list.count") [v, v2]) (Rd (.int (countIn (.bool k) ds))) X := by
  cases rd_bool r2
  obtain ⟨l, items, rfl, p, ⟨as, ra⟩, _⟩ := r
  refine EvT.ofS fun s Q E kk q => ?_
  have hl : s.heap.IsList l items.toList.toArray := by
    obtain ⟨n, p⟩ := p
    exact ⟨_, kk _ _ p, rfl, n, by simp⟩
  exact count_list_bools hl ra hb (q _ (s.toks + 1) ⟨_, .int _ _⟩)
end

section
variable {prog : Program} {w : World} {A : Around} {nm : Str} {sc : Scope} {L fa : Addr} {cd : Value} {g h : Heap} {ρ : Locs} {μ : Mut} {X : Value → Heap → Prop}
/-- kinds.count(True) -/
theorem ev_countT {x : Str} {xp ap kp pos : Pos} {kk : Nat} {l : Addr} {ds : List PyData} (S : St g L h ρ (some (x, l, ds))) (hb : ds.all Shape.bool.has = true) (hk : sc.kind = .function := by rfl) (hl : (envOf nm sc L fa cd).kindOf x = some .local := by rfl)
    (hd : (x == ("__debug__" : Str)) = false := by decide) (hbase : attributeBase (.Name x xp) "count" (envOf nm sc L fa cd) (eval (.Name x xp) (envOf nm sc L fa cd)) = eval (.Name x xp) (envOf nm sc L fa cd) := by rfl) (hline : (ap.endLine == pos.line) = true := by rfl) :
    Ev (model prog w) A (envOf nm sc L fa cd) h (.Call (.Attribute (.Name x xp) "count" ap) [.Constant (.bool true) kk kp] [] pos) (Rd (.int (countIn (.bool true) ds))) X :=
  ev_meth1 PySem.F.plainAttrs_list PySem.F.slot_list_count PySem.F.type_list_count (ev_own S hk hl hd) ev_bool (fun _ _ _ k r => r.keep k)
    (fun v s r => by
      obtain ⟨l, items, rfl, ⟨n, p⟩, _⟩ := r
      exact ⟨⟨_, p, rfl⟩, fun a e => by cases e; exact ⟨_, p, rfl⟩⟩)
    (fun v1 v2 h' k r1 r2 => op_countT hb r1 r2) hbase hline rfl
end

section
variable {prog : Program} {w : World} {A : Around} {nm : Str} {sc : Scope} {L fa : Addr} {cd : Value} {g h : Heap} {ρ : Locs} {X : Value → Heap → Prop} {Ws : List Addr} {P : Flow → Heap → Prop} {rest : List Stmt}
/-- a new list to a name, while another name holds an object -/
theorem runv_own {x y : Str} {v : Value} {px pos : Pos} {e : Expr} {ds : List PyData} (S : St g L h ρ none) (V : Sv g L h y v) (ev : Ev (model prog w) A (envOf nm sc L fa cd) h e (Rl h ds) X)
    (k : ∀ l h', St g L h' ρ (some (x, l, ds)) → Sv g L h' y v → Run (model prog w) A (envOf nm sc L fa cd) (l :: Ws) rest h' P X) (hxy : y ≠ x := by decide) (hf : flatL ds = true := by rfl) (hx : ρ.lookup x = none := by rfl)
    (hk : sc.kind = .function := by rfl) (hl : (envOf nm sc L fa cd).kindOf x = some .local := by rfl)
    (hs : pl e = true := by rfl) : Run (model prog w) A (envOf nm sc L fa cd) Ws (.Assign [.Name x px] e pos :: rest) h P X := by
  refine ⟨fun s Q E e po q x' => ?_⟩; subst e
  refine wpAny_execs_cons (wpAny_Assign_Name (ev.go s _ E Keep.rfl (fun u h1 i k1 r => ?_) x') (pl_swaps hs))
  obtain ⟨m, F, hv⟩ := V.keep k1
  obtain ⟨l, items, rfl, p, r, fresh⟩ := r
  refine wpAny_storeName_local hl F.ns (fun h' hn hsb => ?_) (by show (sc.kind == .class || (sc.kind == .module && L != mainGlobals)) = false; rw [hk]; rfl)
  have kp1 : Kp [L] h1 h' := kp_same hsb
  have S' : St g L h' ρ (some (x, l, ds)) := by
    refine ⟨_, fr_set F hn hsb, fun y d' e => ?_, fun q e => ?_⟩
    · have hy : y ≠ x := fun hb => by subst hb; rw [hx] at e; cases e
      obtain ⟨m0, F0, hr0, _⟩ := S.ex
      obtain ⟨v', as', a, b, c, _⟩ := hr0 y d' e
      have em : m0 = m := by
        obtain ⟨o, es, ep, h1, h2, _, h4⟩ := (F0.after k1).ns
        obtain ⟨o', es', ep', h1', h2', _, h4'⟩ := F.ns
        rw [h1] at h1'; cases h1'; rw [h2] at h2'; cases h2'
        funext y; rw [← h4, ← h4']
      subst em
      refine ⟨v', as', by simp [hy, a], reads_kp kp1 (fun a ha => ?_) (PyProof.Rows.Reads.keeps k1 b), c, fun q e hq => ?_⟩
      · rw [List.mem_singleton] at ha; subst ha; exact .inr ⟨c, noTup_L F⟩
      · cases e
        have : ∃ o, s.heap.get? l = some o := reads_some b l hq
        obtain ⟨o, ho⟩ := this
        rw [fresh] at ho; cases ho
    · cases e
      refine ⟨by simp, ?_, hf, items, plain_kp kp1 (by simpa using L_ne_list F p) p, rdl_flat_kp kp1 hf (fun a ha => ?_) r⟩
      · exact S.frK.none fresh
      · rw [List.mem_singleton] at ha; subst ha; exact noTup_L F
  refine (k l h' S' ⟨_, fr_set F hn hsb, by simp [hxy, hv]⟩).go _ Q E rfl po (fun fl h2 j kp p' => q fl h2 j ?_ p') (fun y h2 j r => x' y h2 j r)
  intro b o nb eb
  have hbl : b ≠ l := fun e => by subst e; rw [fresh] at eb; cases eb
  have hbL : b ≠ L := fun e => nb (by rw [e]; exact .head _)
  refine kp b o ?_ (kp1 b o (by simpa using hbL) (k1 b o eb))
  intro hb
  cases hb with
  | head => exact nb (.head _)
  | tail _ hb => cases hb with
    | head => exact hbl rfl
    | tail _ hb => exact nb (.tail _ hb)
end

theorem Sv.ex {g : Heap} {L : Addr} {h : Heap} {x : Str} {v : Value} {e C : Addr} (S : Sv g L h x v) (I : Ex g e C) : Ex h e C := let ⟨_, F, _⟩ := S; I.keep F.keep
/-- room, whatever is being handled -/
structure Rv (A : Around) (n : Nat) : Prop where
  dep : A.depth + n < recursionLimit
  un : A.units + 3 * n + 100 < cLine
theorem Rm.v {A : Around} {n : Nat} (r : Rm A n) : Rv A n := ⟨r.dep, r.un⟩
theorem Rv.mark {A : Around} {n : Nat} {x : Option Value} (r : Rv A n) : Rv (A.mark x) n := ⟨r.dep, r.un⟩
theorem Rv.less {A : Around} {n m : Nat} (r : Rv A n) (h : m ≤ n) : Rv A m := ⟨by have := r.dep; (first | lia | omega), by have := r.un; (first | lia | omega)⟩
/-- a caught object is of the class x, or is not -/
structure EI (K : Frag) (C : Addr) (x : Str) (b : Bool) : Prop where
  ex : ∃ D, EC K x D ∧ mroIn K C (.ref D) = some b ∧ (C = D → b = true)
/-- a call with what was caught -/
structure FnV (c : Cx) (K : Frag) (n : Nat) (f : Str) (C : Addr) (b : Bool) : Prop where
  isDef : ∃ dr ∈ recsOf c.p, dr.name = f
  run : ∀ (A : Around) (h : Heap) (e a : Addr), c.T h → K.In h → Rv A n → c.mg f = some (.ref a) → Ex h e C → EvT c.M A h (call (.ref a) [.ref e]) (Rd (.bool b)) NoX

section
variable {c : Cx} {K : Frag} {n : Nat} {f : Str} {C : Addr} {b : Bool} {dn : Str} {dp : Arguments} {db : List Stmt} {dsc : Scope} {dps : Pos} {x1 : Str}
theorem fnv1 (hd : (⟨dn, dp, db, dsc, dps⟩ : DefRec) ∈ recsOf c.p ∧ dn = f)
    (hb : ∀ pm cd doc (v1 : Value), bindArgs (docDef dn dp db dsc pm cd doc) ⟨[v1], []⟩ = pure [(x1, v1)])
    (k : ∀ (A : Around) (g h : Heap) (L fa e : Addr) (cd : Value), c.T g → K.In g → Sv g L h x1 (.ref e) → Ex g e C → Run c.M A (envOf dn dsc L fa cd) [] db h (fun fl h' => Rd (.bool b) (retv fl) h') NoX)
    (hloc : ∀ x ∈ [x1], dsc.names.lookup x = some .local := by decide +kernel)
    (hco : dsc.isCoroutine = false := by rfl) (hgen : dsc.isGenerator = false := by rfl) (hk : dsc.kind = .function := by rfl) (hcell : ∀ x ∈ dsc.names, x.2 ≠ .cell := by decide +kernel) : FnV c K (n + 1) f C b := by
  obtain ⟨hd, hn⟩ := hd
  refine ⟨⟨_, hd, hn⟩, ?_⟩
  intro A h e a T KX rm ha I
  refine ⟨fun s Q E kk q x => ?_⟩
  have T' : c.T s.heap := T.keeps kk
  obtain ⟨a', o, pm, cd, doc, h1, h2, h3, h4⟩ := T'.fn ⟨dn, dp, db, dsc, dps⟩ hd
  dsimp only at h1 h3 h4
  rw [hn, ha] at h1; cases h1
  refine wpAny_call (call_plain (binds := [x1].zip [.ref e]) (by have := rm.dep; (first | lia | omega)) h2 h3 T'.nolimit h4 (hb pm cd doc (.ref e)) (fun y hy => hloc _ (List.of_mem_zip (a := y.1) (b := y.2) hy).1) (fun h₁ F => ?_) hco hgen hk hcell)
  refine (k (A.deeper (envOf dn dsc s.heap.objs.size a cd)) s.heap h₁ _ a e cd T' (KX.keeps kk) ⟨_, F, by simp [List.lookup]⟩ (I.keep kk)).go _ _ _ rfl PassesOwn.leaving (fun fl h' i kp p => ?_) (fun _ _ _ r => r.elim)
  have kz : Keep s.heap h' := fun b o e => kp b o (by
    intro hb
    rw [List.mem_singleton] at hb
    rw [hb] at e
    exact absurd (Heap.lt_size e) (Nat.lt_irrefl _)) (F.keep b o e)
  have := q (retv fl) h' i kz p
  cases fl <;> exact this
end

section
variable {c : Cx} {K : Frag} {n : Nat} {A : Around} {nm : Str} {sc : Scope} {L fa : Addr} {cd : Value} {g h : Heap} {X : Value → Heap → Prop} {C : Addr} {b : Bool}
theorem ev_isk {v x y : Str} {fp vp xp pos : Pos} {e : Addr} (T : c.T g) (B : Bn c) (KX : K.In g) (S : Sv g L h v (.ref e)) (I : Ex h e C) (OC : EC K y C) (i : EI K C x b)
    (hk : sc.kind = .function := by rfl) (hg : (envOf nm sc L fa cd).kindOf (Str.ofString "isinstance") = some .globalImplicit := by rfl) (hl : (envOf nm sc L fa cd).kindOf v = some .local := by rfl)
    (hx : (envOf nm sc L fa cd).kindOf x = some .globalImplicit := by rfl) (hdv : (v == ("__debug__" : Str)) = false := by decide) (hdx : (x == ("__debug__" : Str)) = false := by decide) :
    Ev c.M A (envOf nm sc L fa cd) h (.Call (.Name (Str.ofString "isinstance") fp) [.Name v vp, .Name x xp] [] pos) (Rd (.bool b)) X := by
  obtain ⟨D, OD, hs, hself⟩ := i.ex
  exact ev_isx T B KX S I OC OD hs hself hk hg hl hx hdv hdx
theorem ev_callv {k : Nat} {f y : Str} {p vp pos : Pos} {e : Addr} (T : c.T g) (KX : K.In g) (rv : Rv A n) (V : Sv g L h y (.ref e)) (I : Ex h e C) (F : FnV c K k f C b) (hkn : k ≤ n := by decide)
    (hk : sc.kind = .function := by rfl) (hl : (envOf nm sc L fa cd).kindOf y = some .local := by rfl) (hx : (envOf nm sc L fa cd).kindOf f = some .globalImplicit := by rfl) (hd : (f == ("__debug__" : Str)) = false := by decide) (hdv : (y == ("__debug__" : Str)) = false := by decide) :
    Ev c.M A (envOf nm sc L fa cd) h (.Call (.Name f p) [.Name y vp] [] pos) (Rd (.bool b)) X := by
  refine ⟨fun s Q E k q x => ?_⟩
  have V' := V.keep k
  obtain ⟨m, F0, _⟩ := id V'
  obtain ⟨dr, hdr, hn⟩ := F.isDef
  obtain ⟨a', o, pm, cd', doc, h1, h2, h3, h4⟩ := T.fn dr hdr
  rw [hn] at h1
  refine wpAny_Call_NameR (ld_global_at F0 T.g h1 ?_ hk hx hd)
  refine callWith_def h3 (PyProof.Rows.args_cons ((ev_exv (c := c) V' hk hl hdv (X := X)).go s _ E Keep.rfl (fun u hh2 j k2 r => ?_) (fun y h' i r => x y h' i r)) rfl) rfl
  subst r
  refine PyProof.Rows.args_nil ?_
  refine ⟨k2 _ _ (F0.keep _ _ h2), ?_⟩
  have kg : Keep g hh2 := fun b o e => k2 _ _ (F0.keep b o e)
  exact (F.run A hh2 e a' (T.keeps kg) (KX.keeps kg) (rv.less hkn) h1 ((I.keep k).keep k2)).go { s with heap := hh2, toks := j } Q E Keep.rfl (fun v h3 j3 k3 r3 => q v h3 j3 (Keep.trans k2 k3) r3) (fun _ _ _ r => r.elim)
end
end Mine

namespace Mine
open PySem PySem.Spec PySem.Calls PyProof.Rows PySem.W

/-- read, with no list or dict at L -/
def Rn (L : Addr) (d : PyData) (v : Value) (h : Heap) : Prop := ∃ as, Reads h v d as ∧ L ∉ as
def RnL (L : Addr) (ds : List PyData) (vs : List Value) (h : Heap) : Prop := ∃ as, ReadsAll h vs ds as ∧ L ∉ as
theorem Rn.keep {L : Addr} {d : PyData} {v : Value} {h h' : Heap} (r : Rn L d v h) (k : Keep h h') : Rn L d v h' := let ⟨as, x, n⟩ := r; ⟨as, PyProof.Rows.Reads.keeps k x, n⟩
theorem Rn.rd {L : Addr} {d : PyData} {v : Value} {h : Heap} (r : Rn L d v h) : Rd d v h := let ⟨as, x, _⟩ := r; ⟨as, x⟩
theorem RnL.cons {L : Addr} {d ds v vs} {h : Heap} (a : Rn L d v h) (b : RnL L ds vs h) : RnL L (d :: ds) (v :: vs) h := by
  obtain ⟨as, x, n⟩ := a; obtain ⟨bs, y, m⟩ := b
  exact ⟨_, .cons x y, fun ha => (List.mem_append.mp ha).elim n m⟩
theorem RnL.append {L : Addr} {h : Heap} : ∀ {ds es vs us}, RnL L ds vs h → RnL L es us h → RnL L (ds ++ es) (vs ++ us) h
  | [], es, vs, us, a, b => by
    have e : vs = [] := (show RdL [] vs h from let ⟨as, x, _⟩ := a; ⟨as, x⟩).unnil
    subst e; exact b
  | d :: ds, es, vs, us, a, b => by
    obtain ⟨as, x, n⟩ := a
    cases x with
    | cons x1 x2 => exact RnL.cons ⟨_, x1, fun q => n (List.mem_append_left _ q)⟩ (RnL.append ⟨_, x2, fun q => n (List.mem_append_right _ q)⟩ b)
theorem RnL.keep {L : Addr} {ds : List PyData} {vs : List Value} {h h' : Heap} (r : RnL L ds vs h) (k : Keep h h') : RnL L ds vs h' := let ⟨as, x, n⟩ := r; ⟨as, PyProof.Rows.ReadsAll.keeps k x, n⟩
section
variable {prog : Program} {w : World} {A : Around} {env : Env} {h : Heap} {L : Addr} {X : Value → Heap → Prop}
end
section
variable {prog : Program} {w : World} {A : Around} {nm : Str} {sc : Scope} {L fa : Addr} {cd : Value} {g h : Heap} {ρ : Locs} {μ : Mut} {X : Value → Heap → Prop} {Ws : List Addr} {P : Flow → Heap → Prop} {rest : List Stmt}
theorem St.hL (S : St g L h ρ μ) : ∃ o, h.get? L = some o := let ⟨_, F, _⟩ := S.ex; L_some F
end
end Mine

namespace Mine
open PySem PySem.Spec PySem.Calls PyProof.Rows PySem.W

section
variable {c : Cx} {A : Around} {nm : Str} {sc : Scope} {L fa : Addr} {cd : Value} {g h : Heap} {ρ : Locs} {μ : Mut} {X : Value → Heap → Prop} {W : List Addr}
/-- range(n), range(a, b) -/
theorem iter_range1 {e : Expr} {b : Int} {p pos : Pos} (S : St g L h ρ μ) (T : c.T g) (B : Bn c) (hh : A.handled = none) (e1 : Ev c.M A (envOf nm sc L fa cd) h e (Rd (.int b)) X) (hb : -(2 ^ 61) ≤ b ∧ b ≤ 2 ^ 61) (hold : ∀ b ∈ W, ∃ o, h.get? b = some o)
    (hk : sc.kind = .function := by rfl) (hg : (envOf nm sc L fa cd).kindOf (Str.ofString "range") = some .globalImplicit := by rfl) (he : pl e = true := by rfl) :
    Iter c.prog c.w A (envOf nm sc L fa cd) W h (.Call (.Name (Str.ofString "range") p) [e] [] pos) (rangeD 0 b.toNat) X := by
  rw [show b.toNat = (b - 0).toNat by simp]
  exact iter_rangeC (W := W) (a := 0) (b := b) hh (by decide) hb (ev_tcall (p := p) (pos := pos) S T B (x := Str.ofString "range") (id := "range") (R := fun v h' => ∃ r t u y, v = .ref r ∧ IsRange h' r 0 b 1 t u y) (by decide) (by decide +kernel) (evl_cons e1 evl_nil he) (fun vs h' k r => by
    obtain ⟨v, r', rfl, rd, rn⟩ := r.uncons
    have := rn.unnil
    subst this
    obtain ⟨t, rfl⟩ := rd_int rd
    refine ⟨fun s Q E kk q x => ?_⟩
    refine call_range_1 ?_
    exact q _ _ _ (Keep.push Keep.rfl _) ⟨_, _, _, _, rfl, IsRange.new _ _ _ _ _ _ _⟩) (by decide) hk hg (by decide) he rfl) hold
end
/-- a path's data -/
theorem runD_eqv (s t : Bool × Int) : PyData.eqv (runD s) (runD t) = decide (s = t) := by
  obtain ⟨a, m⟩ := s
  obtain ⟨b, k⟩ := t
  have h1 : (wd a == wd b) = decide (a = b) := by cases a <;> cases b <;> decide +kernel
  simp only [runD, PyData.eqv, PyData.eqvAll, h1, Bool.and_true]
  by_cases e : a = b <;> by_cases f : m = k <;> simp [e, f]
theorem pathD_eqv : ∀ p q : Path, PyData.eqvAll (pathD p) (pathD q) = decide (p = q)
  | [], [] => rfl
  | [], _ :: _ => rfl
  | _ :: _, [] => rfl
  | s :: p, t :: q => by
    show (PyData.eqv (runD s) (runD t) && PyData.eqvAll (pathD p) (pathD q)) = _
    rw [runD_eqv, pathD_eqv p q]
    by_cases e : s = t <;> by_cases f : p = q <;> simp [e, f]
theorem pathD_eq (p q : Path) : PyData.eqv (.list (pathD p)) (.list (pathD q)) = decide (p = q) := by
  show PyData.eqvAll (pathD p) (pathD q) = _
  exact pathD_eqv p q
theorem pathD_lay : ∀ p : Path, PyData.canLayAll0 (pathD p) = true ∧ PyData.depthAll (pathD p) ≤ 1
  | [] => ⟨rfl, by decide⟩
  | s :: p => by
    obtain ⟨a, b⟩ := pathD_lay p
    have h1 : PyData.canLay0 (runD s) = true := by
      obtain ⟨w, m⟩ := s
      have q : PyData.canLay0 (.str (wd w)) = true := by cases w <;> decide +kernel
      show (PyData.canLay0 (.str (wd w)) && (PyData.canLay0 (.int m) && PyData.canLayAll0 [])) = true
      rw [q]; rfl
    refine ⟨?_, ?_⟩
    · show (PyData.canLay0 (runD s) && PyData.canLayAll0 (pathD p)) = true
      rw [h1, a]; rfl
    · show max (PyData.depth (runD s)) (PyData.depthAll (pathD p)) ≤ 1
      have : PyData.depth (runD s) = 1 := rfl
      (first | lia | omega)
theorem pathD_shaped (p : Path) : SeqAt.shaped (.list (pathD p)) = true := by
  obtain ⟨a, b⟩ := pathD_lay p
  unfold SeqAt.shaped
  have h1 : PyData.canLay0 (.list (pathD p)) = true := a
  have h2 : PyData.depth (.list (pathD p)) = PyData.depthAll (pathD p) + 1 := rfl
  rw [h1, h2]; simp; (first | lia | omega)
end Mine

namespace Mine
open PySem PySem.Spec PySem.Calls PyProof.Rows PySem.W
end Mine

namespace Mine
open PySem PySem.Spec PySem.Calls PyProof.Rows PySem.W
section
variable {prog : Program} {w : World} {A : Around} {env : Env} {h : Heap} {X : Value → Heap → Prop}
end
section
variable {prog : Program} {w : World} {A : Around} {nm : Str} {sc : Scope} {L fa : Addr} {cd : Value} {g h : Heap} {ρ : Locs} {X : Value → Heap → Prop}
end
end Mine

namespace Mine
open PySem PySem.Spec PySem.Calls PyProof.Rows PySem.W

section
variable {prog : Program} {w : World} {A : Around} {env : Env} {h : Heap} {X : Value → Heap → Prop} {n : Nat}
/-- str + str -/
theorem ev_adds {l r : Expr} {pos : Pos} {a b : Str} (e1 : Ev (model prog w) A env h l (Rd (.str a)) X) (e2 : Ev (model prog w) A env h r (Rd (.str b)) X) (hn : a.length + b.length ≤ sizeLine) :
    Ev (model prog w) A env h (.BinOp l .Add r pos) (Rd (.str (a ++ b))) X := ev_bin e1 e2 fun v1 v2 h' k r1 r2 => by
  obtain ⟨t, rfl⟩ := rd_str r1; obtain ⟨u, rfl⟩ := rd_str r2
  exact EvT.ofS fun s _ _ _ q => PyProof.Rows.add_str (fun t' k => q _ k ⟨_, .str _ _⟩) hn
/-- str not in str -/
theorem tr_notins {l r : Expr} {pos : Pos} {a b : Str} (e1 : Ev (model prog w) A env h l (Rd (.str a)) X) (e2 : Ev (model prog w) A env h r (Rd (.str b)) X) (hm : pl r = true := by rfl) :
    Tr (model prog w) A env h (.Compare l [.NotIn] [r] pos) (!Txt.contains b a) X := tr_cmp e1 e2 (fun v1 v2 h' k r1 r2 => by
  obtain ⟨t, rfl⟩ := rd_str r1; obtain ⟨u, rfl⟩ := rd_str r2
  exact EvT.ofS fun s _ _ _ q => P.notIn_str (q _ s.toks ⟨_, .bool _⟩)) hm
/-- an item of a str -/
theorem ev_sidx {v i : Expr} {pos : Pos} {x : Str} {k : Int} (e1 : Ev (model prog w) A env h v (Rd (.str x)) X) (e2 : Ev (model prog w) A env h i (Rd (.int k)) X) (h0 : 0 ≤ k) (h1 : k < x.length) (hf : k < 2 ^ 62)
    (hs : pl i = true := by rfl) (ht : ∀ o r, letTemporaryGo v o r = pure () := by intro _ _; rfl) : Ev (model prog w) A env h (.Subscript v i pos) (Rd (.str (Txt.item x k))) X := by
  refine ⟨fun s Q E k' q x' => ?_⟩
  refine Subscript_ (EvT.two e1 e2 rd_mono (v := fun a b => subscriptTail v i a b) (R' := Rd (.str (Txt.item x k))) (fun v1 v2 h' kk r1 r2 => ?_) k' q x')
  obtain ⟨u, rfl⟩ := rd_int r2
  obtain ⟨t, rfl⟩ := rd_str r1
  refine EvT.ofS fun s' Q' E' k1 q1 => item_str (by simp only [fitsSsize, decide_eq_true_eq, Bool.and_eq_true, Bool.not_eq_true', Bool.or_eq_false_iff, decide_eq_false_iff_not]; (first | lia | omega)) (by (first | lia | omega)) h1 (fun _ => q1 _ _ ⟨_, .str _ _⟩) (pl_sub hs) (fun r => ht _ r)
/-- x[:j], x[i:] -/
theorem ev_slice_to {v u : Expr} {p pos : Pos} {x : Str} {j : Int} (e1 : Ev (model prog w) A env h v (Rd (.str x)) X) (e2 : Ev (model prog w) A env h u (Rd (.int j)) X) (hn : x.length ≤ sizeLine)
    (ht : ∀ o r, letTemporaryGo v o r = pure () := by intro _ _; rfl) : Ev (model prog w) A env h (.Subscript v (.Slice none (some u) none p) pos) (Rd (.str (Txt.slice x none (some j)))) X := by
  refine ⟨fun s Q E k q x' => ?_⟩
  refine Subscript_Slice (e1.go s _ E k (fun v1 h1 i1 k1 r1 => ?_) x') ht
  obtain ⟨t, rfl⟩ := rd_str r1
  refine wpAny_Slice (evalPart_none_step (evalPart_some_step ?_))
  refine (e2.up (k.trans k1)).go { s with heap := h1, toks := i1 } _ E Keep.rfl (fun v2 h2 i2 k2 r2 => ?_) (fun y h i r => x' y h i r)
  obtain ⟨u2, rfl⟩ := rd_int r2
  refine evalPart_none_step ?_
  refine SBH.sliceItem_ns (s := { s with heap := h2, toks := i2 }) (P := fun h' => Keep h2 h') (fun h' ob p => p.push ob) Keep.rfl (fun h' t' k' kp => q _ h' k' (Keep.trans k1 (Keep.trans k2 kp)) ⟨_, .str _ _⟩) hn
theorem ev_slice_from {v u : Expr} {p pos : Pos} {x : Str} {j : Int} (e1 : Ev (model prog w) A env h v (Rd (.str x)) X) (e2 : Ev (model prog w) A env h u (Rd (.int j)) X) (hn : x.length ≤ sizeLine)
    (ht : ∀ o r, letTemporaryGo v o r = pure () := by intro _ _; rfl) : Ev (model prog w) A env h (.Subscript v (.Slice (some u) none none p) pos) (Rd (.str (Txt.slice x (some j) none))) X := by
  refine ⟨fun s Q E k q x' => ?_⟩
  refine Subscript_Slice (e1.go s _ E k (fun v1 h1 i1 k1 r1 => ?_) x') ht
  obtain ⟨t, rfl⟩ := rd_str r1
  refine wpAny_Slice (evalPart_some_step ?_)
  refine (e2.up (k.trans k1)).go { s with heap := h1, toks := i1 } _ E Keep.rfl (fun v2 h2 i2 k2 r2 => ?_) (fun y h i r => x' y h i r)
  obtain ⟨u2, rfl⟩ := rd_int r2
  refine evalPart_none_step (evalPart_none_step ?_)
  refine SBH.sliceItem_sn (s := { s with heap := h2, toks := i2 }) (P := fun h' => Keep h2 h') (fun h' ob p => p.push ob) Keep.rfl (fun h' t' k' kp => q _ h' k' (Keep.trans k1 (Keep.trans k2 kp)) ⟨_, .str _ _⟩) hn
end

section
variable {c : Cx} {A : Around} {nm : Str} {sc : Scope} {L fa : Addr} {cd : Value} {g h : Heap} {ρ : Locs} {μ : Mut} {X : Value → Heap → Prop}
/-- a constant of the text -/
theorem ev_gconst {x : Str} {pos : Pos} {d : PyData} (S : St g L h ρ μ) (T : c.T g) (hv : valOf c.p x = some d)
    (hk : sc.kind = .function := by rfl) (hx : (envOf nm sc L fa cd).kindOf x = some .globalImplicit := by rfl) (hd : (x == ("__debug__" : Str)) = false := by decide) :
    Ev c.M A (envOf nm sc L fa cd) h (.Name x pos) (Rd d) X := by
  obtain ⟨v, hm, hr⟩ := T.const x d hv
  exact (ev_gname S T hm hk hx hd).mono fun u h' _ e => by subst e; exact ⟨_, hr h'⟩
/-- str(int), int(text) -/
theorem ev_str1 {e : Expr} {p pos : Pos} {a : Int} (S : St g L h ρ μ) (T : c.T g) (B : Bn c) (e1 : Ev c.M A (envOf nm sc L fa cd) h e (Rd (.int a)) X) (ha : a.natAbs.log2 < 1920)
    (hk : sc.kind = .function := by rfl) (hg : (envOf nm sc L fa cd).kindOf (Str.ofString "str") = some .globalImplicit := by rfl) (he : pl e = true := by rfl) :
    Ev c.M A (envOf nm sc L fa cd) h (.Call (.Name (Str.ofString "str") p) [e] [] pos) (Rd (.str (Str.ofString (toString a)))) X :=
  ev_tcall S T B (x := Str.ofString "str") (id := "str") (by decide) (by decide +kernel) (evl_cons e1 evl_nil he) (fun vs h' k r => by
    obtain ⟨v, r', rfl, rd, rn⟩ := r.uncons
    have := rn.unnil
    subst this
    obtain ⟨t, rfl⟩ := rd_int rd
    exact EvT.ofS fun s _ _ _ q => P.str_of_int ha (q _ _ ⟨_, .str _ _⟩)) (by decide) hk hg (by decide) he rfl
theorem ev_int1 {e : Expr} {p pos : Pos} {x : Str} {a : Int} (S : St g L h ρ μ) (T : c.T g) (B : Bn c) (e1 : Ev c.M A (envOf nm sc L fa cd) h e (Rd (.str x)) X) (ha : PySem.intText? x = some a) (hl : x.length ≤ 640)
    (hk : sc.kind = .function := by rfl) (hg : (envOf nm sc L fa cd).kindOf (Str.ofString "int") = some .globalImplicit := by rfl) (he : pl e = true := by rfl) :
    Ev c.M A (envOf nm sc L fa cd) h (.Call (.Name (Str.ofString "int") p) [e] [] pos) (Rd (.int a)) X :=
  ev_tcall S T B (x := Str.ofString "int") (id := "int") (by decide) (by decide +kernel) (evl_cons e1 evl_nil he) (fun vs h' k r => by
    obtain ⟨v, r', rfl, rd, rn⟩ := r.uncons
    have := rn.unnil
    subst this
    obtain ⟨t, rfl⟩ := rd_str rd
    exact EvT.ofS fun s _ _ _ q => KIN.call_text ha hl (q _ _ ⟨_, .int _ _⟩)) (by decide) hk hg (by decide) he rfl
end

theorem rdl_strs {h : Heap} : ∀ {ts : List Str} {vs : List Value}, RdL (ts.map PyData.str) vs h → ∃ l : List (Str × Tok), vs = strValues l ∧ l.map (·.1) = ts
  | [], vs, r => ⟨[], r.unnil, rfl⟩
  | t :: ts, vs, r => by
    obtain ⟨v, rs, rfl, r1, r2⟩ := RdL.uncons (d := .str t) (ds := ts.map PyData.str) r
    obtain ⟨u, rfl⟩ := rd_str r1
    obtain ⟨l, rfl, e⟩ := rdl_strs r2
    exact ⟨(t, u) :: l, rfl, by simp [e]⟩
theorem strs_rdl {h : Heap} : ∀ (l : List (Str × Tok)), RdL ((l.map (·.1)).map PyData.str) (strValues l) h
  | [] => RdL.nil
  | (t, u) :: l => RdL.cons ⟨_, .str t u⟩ (strs_rdl l)
theorem strs_flat : ∀ ts : List Str, flatL (ts.map PyData.str) = true
  | [] => rfl
  | t :: ts => by
    show (flat (.str t) && flatL (ts.map PyData.str)) = true
    rw [strs_flat ts]; rfl

section
variable {prog : Program} {w : World} {A : Around} {env : Env} {h : Heap} {X : Value → Heap → Prop}
theorem str_typ {x : Str} : ∀ v (s : Shared), Rd (.str x) v s.heap → s.TypeIs v "str" ∧ (∀ a, v = .ref a → ∃ ob, s.heap.get? a = some ob ∧ ob.dict = none) := fun v s r => by
  obtain ⟨t, rfl⟩ := rd_str r
  exact ⟨typeIs_str _ _ _, fun a e => nomatch e⟩
/-- sep.join(list) -/
theorem ev_join {o e : Expr} {ap pos : Pos} {x : Str} {ts : List Str} (e1 : Ev (model prog w) A env h o (Rd (.str x)) X) (e2 : Ev (model prog w) A env h e (Rd (.list (ts.map PyData.str))) X) (hok : JoinOk x ts = true)
    (hbase : attributeBase o "join" env (eval o env) = eval o env := by rfl) (hline : (ap.endLine == pos.line) = true := by rfl) (he : pl e = true := by rfl) :
    Ev (model prog w) A env h (.Call (.Attribute o "join" ap) [e] [] pos) (Rd (.str (Txt.join x ts))) X :=
  ev_meth1 PySem.F.plainAttrs_str PySem.F.slot_str_join PySem.F.type_str_join e1 e2 (fun _ _ _ k r => r.keep k) str_typ (fun v1 v2 h' k r1 r2 => by
    obtain ⟨t, rfl⟩ := rd_str r1
    obtain ⟨a, items, rfl, il, rr⟩ := rd_list r2
    obtain ⟨l, e, et⟩ := rdl_strs rr
    have ei : items = (strValues l).toArray := by rw [← e]
    subst ei
    obtain ⟨ob, ho, ht⟩ := il
    exact EvT.ofS fun s _ _ kk q => SC.join ⟨ob, kk _ _ ho, ht⟩ et hok (fun t' k => q _ k ⟨_, .str _ _⟩)) hbase hline he
/-- line.split(sep), to be gone over -/
theorem src_split {o e : Expr} {ap pos : Pos} {x y : Str} {W : List Addr} (e1 : Ev (model prog w) A env h o (Rd (.str x)) X) (e2 : Ev (model prog w) A env h e (Rd (.str y)) X) (hy : (y.length == 0) = false) (hn : x.length + 2 ≤ sizeLine)
    (hold : ∀ b ∈ W, ∃ ob, h.get? b = some ob) (hW : ∀ a ∈ W, ∀ items, h.IsList a items → items.size = 0)
    (hbase : attributeBase o "split" env (eval o env) = eval o env := by rfl) (hline : (ap.endLine == pos.line) = true := by rfl) (he : pl e = true := by rfl) :
    Ev (model prog w) A env h (.Call (.Attribute o "split" ap) [e] [] pos) (SrcL W ((Txt.split x y).map PyData.str)) X :=
  ev_meth1 PySem.F.plainAttrs_str PySem.F.slot_str_split PySem.F.type_str_split e1 e2 (fun _ _ _ k r => r.keep k) str_typ (fun v1 v2 h' k r1 r2 => by
    obtain ⟨t, rfl⟩ := rd_str r1
    obtain ⟨u, rfl⟩ := rd_str r2
    refine ⟨fun s Q E kk q x' => ?_⟩
    refine SCH.split1 (P := fun h2 => Keep s.heap h2) (fun h2 ob p => p.push ob) Keep.rfl hy (fun D l h2 i el kp hl => ?_) (by (first | lia | omega)) ?_
    · refine q _ h2 i kp ⟨D, _, rfl, hl, fun hD => ?_, fun h3 _ => ?_⟩
      · obtain ⟨ob, ho⟩ := hold D hD
        obtain ⟨ob2, ho2, ht2⟩ := id hl
        have e3 := kp _ _ (kk _ _ (k _ _ ho))
        rw [ho2] at e3; cases e3
        have z := hW D hD _ ⟨ob, ho, ht2⟩
        have p := PyProof.Rows.len_of_split el
        simp [strValues] at z
        rw [z] at p
        simp at p
      · have := strs_rdl (h := h3) l
        rw [el] at this
        simpa using this
    · rw [PyProof.Rows.len_partsBetween]
      have := StrLaws.occ_length_le x y 0 x.length (x.length + 1)
      (first | lia | omega)) hbase hline he
end

section
variable {prog : Program} {w : World} {A : Around} {E : Value → Shared → Prop} {s : Shared}
theorem setItem_plain {l : Addr} {items : Array Value} {k : Int} {t : Tok} {v : Value} {Q : Unit → Shared → Prop} (hl : s.heap.PlainList l items) (h0 : 0 ≤ k) (hfit : k < 2 ^ 63) (hn : k < items.size)
    (hQ : ∀ h', h'.PlainList l (items.setIfInBounds k.toNat v) → Heap.SameBut l s.heap h' → Q () { s with heap := h' }) : wpAny (model prog w) A (setItem (.ref l) (.int k t) v) Q E s := by
  obtain ⟨n, ho⟩ := id hl
  have hT : s.TypeIs (.ref l) "list" := ⟨_, ho, rfl⟩
  unfold setItem
  try with_reducible refine wpAny_holding ?_
  first | refine wpAny_bind (wpAny_pure ?_) | skip
  refine wpAny_bind (wpAny_sequenceKey hT (by decide) ?_)
  refine wpAny_bind (wpAny_callSpecial?_slot (name := Str.ofString "__setitem__") hT slot_list_setitem
    (wpAny_call_entry slot_list_setitem hT entry_list_setitem ?_ (args_list_setitem _ _ _)))
  show wpAny _ _ (Builtin.List.listSubscript? (.int k t) >>= _) _ _ s
  refine wpAny_bind (wpAny_listSubscript_int (fitsIndex_of h0 hfit) ?_)
  clear hfit
  obtain ⟨j, rfl⟩ := Int.eq_ofNat_of_zero_le h0
  have hj : j < items.size := by (first | lia | omega)
  have hx' : items[j]? = some items[j] := Array.getElem?_eq_getElem hj
  show wpAny _ _ ((seqItemAt l j >>= fun r => pure (r.map (j, ·))) >>= _) _ _ s
  refine wpAny_bind (wpAny_bind (wpAny_seqItemAt ho rfl (wpAny_pure ?_)))
  rw [hx']
  show wpAny _ _ (setSeqItemAt l j v >>= _) _ _ s
  have hfin : (s.heap.update l (Obj.mapSeq (·.setIfInBounds j v))).PlainList l (items.setIfInBounds j v) := by
    obtain ⟨n', hd'⟩ := Obj.data_mapSeq (o := { cls := .type "list", data := .seq items n }) rfl (·.setIfInBounds j v)
    refine ⟨n, (Heap.get?_update_self _ ho (Obj.isFreed_of_seq hd')).trans ?_⟩
    simp [Obj.mapSeq]
  refine wpAny_bind (wpAny_setSeqItemAt ho rfl ?_)
  first
    | exact wpAny_bind (wpAny_pure (wpAny_pure ⟨.none, rfl, wpAny_pure (hQ _ hfin (Heap.SameBut.update ..))⟩))
    | exact wpAny_pure ⟨.none, rfl, wpAny_pure (hQ _ hfin (Heap.SameBut.update ..))⟩
end

section
variable {prog : Program} {w : World} {A : Around} {nm : Str} {sc : Scope} {L fa : Addr} {cd : Value} {g h : Heap} {ρ : Locs} {X : Value → Heap → Prop} {Ws : List Addr} {P : Flow → Heap → Prop} {rest : List Stmt}
theorem rdl_set {h : Heap} : ∀ {ds : List PyData} {vs : List Value} (k : Nat) {d : PyData} {v : Value}, RdL ds vs h → Rd d v h → RdL (ds.set k d) (vs.set k v) h
  | [], vs, k, d, v, r, r2 => by rw [r.unnil]; exact RdL.nil
  | d0 :: ds, vs, 0, d, v, r, r2 => by
    obtain ⟨v0, rs, rfl, r1, r3⟩ := r.uncons
    exact RdL.cons r2 r3
  | d0 :: ds, vs, k + 1, d, v, r, r2 => by
    obtain ⟨v0, rs, rfl, r1, r3⟩ := r.uncons
    exact RdL.cons r1 (rdl_set k r3 r2)
theorem flatL_set : ∀ {ds : List PyData} (k : Nat) {d : PyData}, flatL ds = true → flat d = true → flatL (ds.set k d) = true
  | [], k, d, _, _ => rfl
  | d0 :: ds, 0, d, h1, h2 => by
    have q := Bool.and_eq_true_iff.mp h1
    show (flat d && flatL ds) = true
    rw [h2, q.2]; rfl
  | d0 :: ds, k + 1, d, h1, h2 => by
    have q := Bool.and_eq_true_iff.mp h1
    show (flat d0 && flatL (ds.set k d)) = true
    rw [q.1, flatL_set k q.2 h2]; rfl
/-- own[i] = value -/
theorem run_setitem {x : Str} {l : Addr} {ds : List PyData} {d : PyData} {k : Int} {e i : Expr} {px sp pos : Pos} (S : St g L h ρ (some (x, l, ds))) (ev : Ev (model prog w) A (envOf nm sc L fa cd) h e (Rd d) X) (ei : Ev (model prog w) A (envOf nm sc L fa cd) h i (Rd (.int k)) X)
    (hf : flat d = true) (hl : l ∈ Ws) (h0 : 0 ≤ k) (hk1 : k < ds.length) (hfit : k < 2 ^ 63)
    (kk : ∀ h', St g L h' ρ (some (x, l, ds.set k.toNat d)) → Run (model prog w) A (envOf nm sc L fa cd) Ws rest h' P X)
    (hk : sc.kind = .function := by rfl) (hloc : (envOf nm sc L fa cd).kindOf x = some .local := by rfl) (hd : (x == ("__debug__" : Str)) = false := by decide)
    (hs : swapsWith e (some (.Subscript (.Name x px) i sp)) pos.line (envOf nm sc L fa cd) = pure false := by rfl) :
    Run (model prog w) A (envOf nm sc L fa cd) Ws (.Assign [.Subscript (.Name x px) i sp] e pos :: rest) h P X := by
  refine ⟨fun s Q E e' po q x' => ?_⟩; subst e'
  refine wpAny_execs_cons (wpAny_Assign_Subscript ?_ hs)
  refine ev.go s _ E Keep.rfl (fun v h1 i1 k1 r1 => ?_) x'
  refine (ev_mutL (S.keep k1) hk hloc hd (X := X)).go { s with heap := h1, toks := i1 } _ E Keep.rfl (fun u h2 i2 k2 r2 => ?_) (fun y h i r => x' y h i r)
  subst r2
  refine (ei.up (Keep.trans k1 k2)).go { s with heap := h2, toks := i2 } _ E Keep.rfl (fun iv h3 i3 k3 r3 => ?_) (fun y h i r => x' y h i r)
  obtain ⟨ti, rfl⟩ := rd_int r3
  have S3 := ((S.keep k1).keep k2).keep k3
  obtain ⟨m2, F2, hr2, hm2⟩ := S3.ex
  obtain ⟨hx2, hg2, hf2, items2, p2, rr2⟩ := hm2 _ rfl
  have hlen : items2.size = ds.length := by have := rr2.len; simpa using this
  refine setItem_plain (s := { s with heap := h3, toks := i3 }) p2 h0 hfit (by rw [hlen]; exact hk1) (fun h4 p4 hsb => ?_)
  have kp := kp_same hsb
  have hlL : l ≠ L := L_ne_list F2 p2
  have wok : ∀ (bs : List Addr), l ∉ bs → ∀ a ∈ [l], Odd a h3 ∨ (a ∉ bs ∧ NoTup a h3) := fun bs hb a ha => by
    rw [List.mem_singleton] at ha; subst ha; exact .inr ⟨hb, noTup_list p2⟩
  have S4 : St g L h4 ρ (some (x, l, ds.set k.toNat d)) := by
    refine ⟨m2, ⟨?_, fun b o e => kp b o (fun hb => ?_) (F2.keep b o e), F2.above⟩, fun y d' e => ?_, fun q e => ?_⟩
    · obtain ⟨o, es, ep, ho, r⟩ := F2.ns
      exact ⟨o, es, ep, kp _ _ (by simpa using hlL.symm) ho, r⟩
    · rw [List.mem_singleton] at hb; subst hb; rw [hg2] at e; cases e
    · obtain ⟨v, as, a, b, c, dd⟩ := hr2 y d' e
      exact ⟨v, as, a, reads_kp kp (wok _ (dd _ rfl)) b, c, fun q e => by cases e; exact dd (x, l, ds) rfl⟩
    · cases e
      refine ⟨hx2, hg2, flatL_set _ hf2 hf, _, p4, ?_⟩
      rw [Array.toList_setIfInBounds]
      have ra : RdL ds items2.toList h4 := rdl_flat_kp kp hf2 (fun a ha => by rw [List.mem_singleton] at ha; subst ha; exact noTup_list p2) rr2
      have rb : Rd d v h4 := by
        obtain ⟨as, z⟩ := (r1.keep k2).keep k3
        have e := flat_nil hf z
        subst e
        exact ⟨_, reads_kp kp (wok _ List.not_mem_nil) z⟩
      exact rdl_set _ ra rb
  refine (kk h4 S4).go _ Q E rfl po (fun fl h5 j5 kp5 p5 => q fl h5 j5 (((Keep.trans k1 (Keep.trans k2 k3)).kp.trans (kp.mono fun b hb => ?_)).trans kp5) p5) (fun y h2 j r => x' y h2 j r)
  rw [List.mem_singleton] at hb; subst hb; exact .tail _ hl
end
end Mine

namespace Mine
open PySem PySem.Spec PySem.Calls PyProof.Rows PySem.W

theorem str_ext {x y : Str} (h : x.cps.toList = y.cps.toList) : x = y := by
  obtain ⟨a⟩ := x; obtain ⟨b⟩ := y
  congr 1
  exact Array.toList_inj.mp h
theorem str_app (x y : Str) : (x ++ y).cps.toList = x.cps.toList ++ y.cps.toList := by
  obtain ⟨a⟩ := x; obtain ⟨b⟩ := y
  show (a ++ b).toList = _
  simp
theorem str_len (x : Str) : x.length = x.cps.toList.length := by simp [Str.length]
/-- the sign of a blank -/
abbrev sp : Str := ⟨#[32]⟩
theorem join_cons2 (x y : Str) (r : List Str) : (Str.join sp (x :: y :: r)).cps.toList = x.cps.toList ++ 32 :: (Str.join sp (y :: r)).cps.toList := by
  show (x ++ sp ++ Str.join sp (y :: r)).cps.toList = _
  rw [str_app, str_app]; simp
/-- a number's signs -/
abbrev tS (m : Int) : Str := Str.ofString (toString m)
def dg (n : Nat) : List Nat := (Nat.toDigits 10 n).map Char.toNat
theorem tS_cps {m : Int} (h : 0 ≤ m) : (tS m).cps.toList = dg m.toNat := by
  obtain ⟨n, rfl⟩ := Int.eq_ofNat_of_zero_le h
  exact KIN.signs_num n
theorem dg_lt {n : Nat} (h : n < 10) : dg n = [48 + n] := by
  unfold dg
  rw [Nat.toDigits_of_lt_base h]
  have : ∀ d : Nat, d < 10 → [(Nat.digitChar d).toNat] = [48 + d] := by decide
  exact this n h
theorem dg_ge {n : Nat} (h : 10 ≤ n) : dg n = dg (n / 10) ++ [48 + n % 10] := by
  have hm : n % 10 < 10 := Nat.mod_lt n (by decide)
  have t : Nat.toDigits 10 (n / 10) ++ Nat.toDigits 10 (n % 10) = Nat.toDigits 10 (10 * (n / 10) + n % 10) := Nat.toDigits_append_toDigits (by decide) (by (first | lia | omega)) hm
  rw [Nat.div_add_mod] at t
  have := dg_lt hm
  unfold dg at this ⊢
  rw [← t, List.map_append, this]
theorem dg_props (n : Nat) : (∀ c ∈ dg n, 48 ≤ c ∧ c ≤ 57) ∧ dg n ≠ [] ∧ (1 ≤ n → (dg n)[0]? ≠ some 48) := by
  induction n using Nat.strongRecOn with
  | _ n ih =>
    by_cases h : n < 10
    · rw [dg_lt h]
      refine ⟨fun c hc => ?_, by simp, fun h1 e => ?_⟩
      · rw [List.mem_singleton] at hc; (first | lia | omega)
      · simp at e; (first | lia | omega)
    · obtain ⟨a, b, c⟩ := ih (n / 10) (by (first | lia | omega))
      rw [dg_ge (by (first | lia | omega))]
      refine ⟨fun x hx => ?_, by simp, fun h1 e => ?_⟩
      · rcases List.mem_append.mp hx with q | q
        · exact a x q
        · rw [List.mem_singleton] at q; (first | lia | omega)
      · have hl : 0 < (dg (n / 10)).length := List.length_pos_iff.mpr b
        rw [List.getElem?_append_left hl] at e
        exact c (by (first | lia | omega)) e
theorem dg_len : ∀ (k n : Nat), n < 10 ^ (k + 1) → (dg n).length ≤ k + 1
  | 0, n, h => by rw [dg_lt (by simpa using h)]; simp
  | k + 1, n, h => by
    by_cases h' : n < 10
    · rw [dg_lt h']; simp
    · rw [dg_ge (by (first | lia | omega))]
      have := dg_len k (n / 10) (by rw [Nat.pow_succ] at h; (first | lia | omega))
      simp; (first | lia | omega)
theorem tS_len {m : Int} {k : Nat} (h : 0 ≤ m) (h1 : m < 10 ^ (k + 1)) : (tS m).length ≤ k + 1 := by
  rw [str_len, tS_cps h]
  refine dg_len k _ ?_
  have : ((m.toNat : Nat) : Int) < 10 ^ (k + 1) := by (first | lia | omega)
  exact_mod_cast this
/-- a run of a path, in signs -/
def sg (b : Bool) : Str := if b then "R" else "L"
def runS (s : Bool × Int) : Str := sg s.1 ++ tS s.2
def lineS (p : Path) : Str := if p = [] then "top" else Txt.join sp (p.map runS)
theorem sg_cps (b : Bool) : (sg b).cps.toList = [if b then 82 else 76] := by cases b <;> decide +kernel
theorem runS_cps {s : Bool × Int} (h : 0 ≤ s.2) : (runS s).cps.toList = (if s.1 then 82 else 76) :: dg s.2.toNat := by
  unfold runS
  rw [str_app, sg_cps, tS_cps h]; rfl
/-- plain signs -/
def asc (x : Str) : Prop := ∀ c ∈ x.cps.toList, c < 128
theorem asc_shaped {x : Str} (h : asc x) : SeqAt.shaped (.str x) = true := by
  have h1 : PyData.canLay0 (.str x) = true := by
    show x.cps.all (fun c => decide (c < 0x110000)) = true
    rw [← Array.all_toList, List.all_eq_true]
    intro c hc
    have := h c hc
    simp; (first | lia | omega)
  unfold SeqAt.shaped
  have h2 : PyData.depth (.str x) = 0 := rfl
  rw [h1, h2]; rfl
theorem runS_asc {s : Bool × Int} (h : 0 ≤ s.2) : asc (runS s) := fun c hc => by
  rw [runS_cps h] at hc
  rcases List.mem_cons.mp hc with q | q
  · rw [q]; cases s.1 <;> decide
  · have := (dg_props s.2.toNat).1 c q; (first | lia | omega)
theorem join_asc : ∀ {ws : List Str}, (∀ w ∈ ws, asc w) → asc (Str.join sp ws)
  | [], _ => fun c hc => by revert hc; show c ∈ (Str.empty).cps.toList → _; simp [Str.empty]
  | [x], h => h x (.head _)
  | x :: y :: r, h => fun c hc => by
    rw [join_cons2] at hc
    rcases List.mem_append.mp hc with q | q
    · exact h x (.head _) c q
    · rcases List.mem_cons.mp q with q | q
      · (first | lia | omega)
      · exact join_asc (ws := y :: r) (fun w hw => h w (.tail _ hw)) c q
theorem lineS_asc {p : Path} (h : ∀ s ∈ p, 0 ≤ s.2) : asc (lineS p) := by
  unfold lineS
  split
  · intro c hc
    have e : (Str.ofString "top").cps.toList = [116, 111, 112] := by decide +kernel
    rw [show ("top" : Str) = Str.ofString "top" from rfl, e] at hc
    simp at hc; (first | lia | omega)
  · show asc (Builtin.Str.glued sp (p.map runS))
    rw [StrLaws.glued_eq_join]
    refine join_asc fun w hw => ?_
    obtain ⟨s, hs, rfl⟩ := List.mem_map.mp hw
    exact runS_asc (h s hs)
theorem runS_len {s : Bool × Int} (h : 0 ≤ s.2) (h1 : s.2 ≤ 10 ^ 60) : (runS s).length ≤ 63 := by
  have := dg_len 60 s.2.toNat (by
    have : ((s.2.toNat : Nat) : Int) < 10 ^ 61 := by (first | lia | omega)
    exact_mod_cast this)
  rw [str_len, runS_cps h]; simp; (first | lia | omega)
theorem sum_le : ∀ {ws : List Str} {K : Nat}, (∀ w ∈ ws, w.length ≤ K) → (ws.map (·.length)).sum ≤ ws.length * K
  | [], _, _ => by simp
  | w :: ws, K, h => by
    have a := h w (.head _)
    have b := sum_le (fun x hx => h x (.tail _ hx))
    simp [Nat.add_mul]; (first | lia | omega)
theorem fold_le : ∀ {ws : List Str} {K a : Nat}, (∀ w ∈ ws, w.length ≤ K) → ws.foldl (fun n w => n + w.length + sp.length) a ≤ a + ws.length * (K + 1)
  | [], _, _, _ => by simp
  | w :: ws, K, a, h => by
    have b := h w (.head _)
    have c := fold_le (a := a + w.length + sp.length) (fun x hx => h x (.tail _ hx))
    have d : sp.length = 1 := rfl
    simp only [List.foldl_cons, List.length_cons, Nat.add_mul] at *
    (first | lia | omega)
theorem joinOk_runs {p : Path} (h : ∀ s ∈ p, 0 ≤ s.2) (h1 : ∀ s ∈ p, s.2 ≤ 10 ^ 60) (hl : p.length ≤ 300) : JoinOk sp (p.map runS) = true ∧ (lineS p).length + 2 ≤ sizeLine := by
  have hw : ∀ w ∈ p.map runS, w.length ≤ 63 := fun w hw => by
    obtain ⟨s, hs, rfl⟩ := List.mem_map.mp hw
    exact runS_len (h s hs) (h1 s hs)
  have hs : sizeLine = 2 ^ 24 := rfl
  constructor
  · unfold JoinOk
    have := fold_le (a := 0) hw
    rw [List.length_map] at this
    have e : (p.map runS).toArray.foldl (fun n w => n + w.length + sp.length) 0 = (p.map runS).foldl (fun n w => n + w.length + sp.length) 0 := by simp
    rw [e]
    simp only [Builtin.Str.tooLong, Bool.not_eq_true', decide_eq_false_iff_not]
    (first | lia | omega)
  · unfold lineS
    split
    · decide +kernel
    · have q := sum_le hw
      have z := size_glued sp (p.map runS)
      rw [List.length_map] at q z
      show (Builtin.Str.glued sp (p.map runS)).length + 2 ≤ _
      have d : sp.length = 1 := rfl
      rw [z, d]; (first | lia | omega)
theorem log_ok {m : Int} (h : 0 ≤ m) (h1 : m ≤ 10 ^ 60) : m.natAbs.log2 < 1920 := by
  by_cases h0 : m.natAbs = 0
  · rw [h0]; decide
  · refine (Nat.log2_lt h0).mpr ?_
    have q : (10 : Nat) ^ 60 < 2 ^ 1920 := by decide +kernel
    have : m.natAbs ≤ 10 ^ 60 := by
      have : ((m.natAbs : Nat) : Int) ≤ 10 ^ 60 := by (first | lia | omega)
      exact_mod_cast this
    (first | lia | omega)
theorem fig_in {c : Nat} (h : 48 ≤ c ∧ c ≤ 57) : Txt.contains (Str.ofString "0123456789") ⟨#[c]⟩ = true := by
  have : ∀ d : Nat, d < 10 → Txt.contains (Str.ofString "0123456789") ⟨#[48 + d]⟩ = true := by decide +kernel
  have := this (c - 48) (by (first | lia | omega))
  rwa [show 48 + (c - 48) = c by (first | lia | omega)] at this

theorem strs_lay : ∀ {ws : List Str}, (∀ w ∈ ws, asc w) → PyData.canLayAll0 (ws.map PyData.str) = true ∧ PyData.depthAll (ws.map PyData.str) = 0
  | [], _ => ⟨rfl, rfl⟩
  | w :: ws, h => by
    obtain ⟨a, b⟩ := strs_lay (fun x hx => h x (.tail _ hx))
    have q := SeqAt.canLay_of_shaped (asc_shaped (h w (.head _)))
    constructor
    · show (PyData.canLay0 (.str w) && PyData.canLayAll0 (ws.map PyData.str)) = true
      rw [q, a]; rfl
    · show max (PyData.depth (.str w)) (PyData.depthAll (ws.map PyData.str)) = 0
      rw [b]; rfl
theorem strs_shaped {ws : List Str} (h : ∀ w ∈ ws, asc w) : SeqAt.shaped (.list (ws.map PyData.str)) = true := by
  obtain ⟨a, b⟩ := strs_lay h
  unfold SeqAt.shaped
  have h1 : PyData.canLay0 (.list (ws.map PyData.str)) = true := a
  have h2 : PyData.depth (.list (ws.map PyData.str)) = PyData.depthAll (ws.map PyData.str) + 1 := rfl
  rw [h1, h2, b]; rfl

theorem words_snoc {p : Path} {i : Nat} {s : Bool × Int} (h : p[i]? = some s) : ((p.take (i + 1)).map runS).map PyData.str = ((p.take i).map runS).map PyData.str ++ [.str (runS s)] := by
  rw [List.take_add_one, h]; simp

def asg : Option Bool → Str
  | none => ""
  | some b => sg b
end Mine

namespace Mine
open PySem PySem.Spec PySem.Calls PyProof.Rows PySem.W PySem.Builtin PySem.Builtin.Str PySem.NumText

section
variable {prog : Program} {w : World} {A : Around} {env : Env} {h : Heap} {X : Value → Heap → Prop}
/-- x[i:], whatever gives x -/
theorem ev_slice_fromv {v u : Expr} {p pos : Pos} {x : PySem.Str} {j : Int} (e1 : Ev (model prog w) A env h v (Rd (.str x)) X) (e2 : Ev (model prog w) A env h u (Rd (.int j)) X) (hn : x.length ≤ sizeLine)
    (ht : ∀ t r, letTemporaryGo v (.str x t) r = pure () := by intro _ _; rfl) : Ev (model prog w) A env h (.Subscript v (.Slice (some u) none none p) pos) (Rd (.str (Txt.slice x (some j) none))) X := by
  refine ⟨fun s Q E k q x' => ?_⟩
  refine Subscript_ (e1.go s _ E k (fun v1 h1 i1 k1 r1 => ?_) x')
  obtain ⟨t, rfl⟩ := rd_str r1
  refine wpAny_Slice (evalPart_some_step ?_)
  refine (e2.up (k.trans k1)).go { s with heap := h1, toks := i1 } _ E Keep.rfl (fun v2 h2 i2 k2 r2 => ?_) (fun y h i r => x' y h i r)
  obtain ⟨u2, rfl⟩ := rd_int r2
  refine evalPart_none_step (evalPart_none_step ?_)
  exact tail_of_ItemOn (SBH.sliceItem_sn (s := { s with heap := h2, toks := i2 }) (P := fun h' => Keep h2 h') (fun h' ob p => p.push ob) Keep.rfl (fun h' t' k' kp => q _ h' k' (Keep.trans k1 (Keep.trans k2 kp)) ⟨_, .str _ _⟩) hn) (by rfl) (ht t)
end

/-- figures -/
def Dg (x : PySem.Str) : Prop := ∀ c ∈ x.cps.toList, 48 ≤ c ∧ c ≤ 57
theorem Dg.free {x : PySem.Str} (h : Dg x) : 46 ∉ x.cps.toList := fun q => by have := h 46 q; (first | lia | omega)
theorem Dg.asc {x : PySem.Str} (h : Dg x) : asc x := fun c hc => by have := h c hc; (first | lia | omega)
theorem dv_app : ∀ (a b : List Nat), digitsVal (a ++ b) = b.foldl (fun acc c => acc * 10 + (c - 48)) (digitsVal a) := by
  intro a b
  unfold digitsVal
  rw [List.foldl_append]
theorem signs_mem {x : PySem.Str} {i : Nat} {d : PyData} (h : (signsD x)[i]? = some d) : ∃ c, x.cps.toList[i]? = some c ∧ d = .str ⟨#[c]⟩ := by
  simp only [signsD, List.getElem?_map, Option.map_eq_some_iff] at h
  obtain ⟨c, q, rfl⟩ := h
  exact ⟨c, q, rfl⟩
theorem signs_flat (x : PySem.Str) : ∀ d ∈ signsD x, flat d = true := fun d hd => by
  obtain ⟨k, _, rfl⟩ := List.mem_map.mp hd
  rfl
theorem signs_len (x : PySem.Str) : (signsD x).length = x.cps.toList.length := by simp [signsD]
section
variable {c : Cx} {A : Around} {nm : PySem.Str} {sc : Scope} {L fa : Addr} {cd : Value} {g h : Heap} {ρ : Locs} {μ : Mut} {X : Value → Heap → Prop}
theorem ev_lens {e : Expr} {p pos : Pos} {x : PySem.Str} (S : St g L h ρ μ) (T : c.T g) (B : Bn c) (e1 : Ev c.M A (envOf nm sc L fa cd) h e (Rd (.str x)) X) (hk : sc.kind = .function := by rfl) (hg : (envOf nm sc L fa cd).kindOf (PySem.Str.ofString "len") = some .globalImplicit := by rfl)
    (he : pl e = true := by rfl) (hn : x.length < 2 ^ 62 := by (first | lia | omega)) :
    Ev c.M A (envOf nm sc L fa cd) h (.Call (.Name (PySem.Str.ofString "len") p) [e] [] pos) (Rd (.int x.length)) X :=
  ev_bcall S T B (x := PySem.Str.ofString "len") (id := "len") (by decide) (by decide +kernel) (evl_cons e1 evl_nil he) (fun vs h' k r => by
    obtain ⟨v, r', rfl, rd, rn⟩ := r.uncons
    have := rn.unnil
    subst this
    obtain ⟨t, rfl⟩ := rd_str rd
    exact EvT.ofS fun s _ _ _ q => P.len_str (by (first | lia | omega)) (q _ _ ⟨_, .int _ _⟩)) (by decide) hk hg (by decide) he rfl
end

section
variable {prog : Program} {w : World} {A : Around} {env : Env} {h : Heap} {X : Value → Heap → Prop}
theorem ev_ne {l r : Expr} {pos : Pos} {d1 d2 : PyData} {n : Nat} (rm : Rm A n) (e1 : Ev (model prog w) A env h l (Rd d1) X) (e2 : Ev (model prog w) A env h r (Rd d2) X) (h1 : SeqAt.shaped d1 = true) (h2 : SeqAt.shaped d2 = true)
    (hm : pl r = true := by rfl) : Ev (model prog w) A env h (.Compare l [.NotEq] [r] pos) (Rd (.bool (!PyData.eqv d1 d2))) X :=
  ev_cmp e1 e2 (fun v1 v2 h' _ r1 r2 => by
    obtain ⟨as, x⟩ := r1; obtain ⟨bs, y⟩ := r2
    exact EvT.ofS fun s _ _ k q => ne_dataH (PyProof.Rows.Reads.keeps k x) (PyProof.Rows.Reads.keeps k y) h1 h2 (by have := rm.un; (first | lia | omega)) (q _ s.toks ⟨_, .bool _⟩)) hm
end
end Mine

namespace Mine
open PySem PySem.Spec PySem.Calls PyProof.Rows PySem.W

section
variable {prog : Program} {w : World} {A : Around} {env : Env} {h : Heap} {X : Value → Heap → Prop}
end

section
variable {c : Cx} {A : Around} {nm : Str} {sc : Scope} {L fa : Addr} {cd : Value} {g h : Heap} {ρ : Locs} {μ : Mut} {X : Value → Heap → Prop}
end
end Mine

namespace Mine
open PySem PySem.Spec PySem.Calls PyProof.Rows PySem.W PySem.NumText

/-- slices, as lists of signs -/
theorem sl_to {x : Str} {j : Int} (h0 : 0 ≤ j) (h1 : j ≤ x.length) : (Txt.slice x none (some j)).cps.toList = x.cps.toList.take j.toNat := by
  rw [beq_iff_eq.mp (slice_closes_toL h0 h1)]; simp
theorem sl_from {x : Str} {j : Int} (h0 : 0 ≤ j) : (Txt.slice x (some j) none).cps.toList = x.cps.toList.drop j.toNat := by
  by_cases h : j ≤ x.length
  · rw [slice_from_eq (b := x.length) h0 h rfl]
    show (x.cps.toList.drop j.toNat).take _ = _
    rw [List.take_of_length_le]
    rw [List.length_drop, ← str_len]; (first | lia | omega)
  · rw [slice_beyond (by (first | lia | omega))]
    rw [List.drop_eq_nil_of_le (by rw [← str_len]; (first | lia | omega))]; rfl
theorem sl_to1 (x : Str) : (Txt.slice x none (some 1)).cps.toList = x.cps.toList.take 1 := by
  by_cases h : (1 : Int) ≤ x.length
  · exact sl_to (by decide) h
  · have : x = ⟨#[]⟩ := str_ext (List.eq_nil_of_length_eq_zero (by rw [← str_len]; (first | lia | omega)))
    subst this; decide +kernel
theorem item_at {x : Str} {k : Nat} {c : Nat} (h : x.cps.toList[k]? = some c) : Txt.item x (k : Int) = ⟨#[c]⟩ := by
  have h' : x.cps[k]? = some c := by rw [← Array.getElem?_toList]; exact h
  have hl : k < x.cps.size := by
    rcases Nat.lt_or_ge k x.cps.size with q | q
    · exact q
    · rw [Array.getElem?_eq_none q] at h'; cases h'
  have e : Txt.charAt x (k : Int) = some c := by
    have z : ¬ ((k : Int) < 0) := by (first | lia | omega)
    have z2 : (k : Int) < (x.cps.size : Int) := by (first | lia | omega)
    show (seqIndex? (k : Int) x.cps.size).bind (fun j => x.cps[j]?) = some c
    simp only [seqIndex?, z, if_false, z2, decide_true, Bool.and_true]
    simp [h']
  show (⟨#[(Txt.charAt x (k : Int)).getD 0]⟩ : Str) = _
  rw [e]; rfl

/-- the longest run of figures -/
def isD (c : Nat) : Bool := decide (48 ≤ c) && decide (c ≤ 57)
theorem isD_iff {c : Nat} : isD c = true ↔ 48 ≤ c ∧ c ≤ 57 := by simp [isD]
def pre : List Nat → Nat
  | [] => 0
  | c :: l => if isD c = true then pre l + 1 else 0
def mx : List Nat → Nat
  | [] => 0
  | c :: l => max (pre (c :: l)) (mx l)
theorem pre_app (x y : List Nat) : pre (x ++ y) ≤ pre x + pre y ∧ pre x ≤ pre (x ++ y) := by
  induction x with
  | nil => exact ⟨by show pre y ≤ 0 + pre y; (first | lia | omega), Nat.zero_le _⟩
  | cons c l ih =>
    show (if isD c = true then pre (l ++ y) + 1 else 0) ≤ (if isD c = true then pre l + 1 else 0) + pre y ∧ (if isD c = true then pre l + 1 else 0) ≤ (if isD c = true then pre (l ++ y) + 1 else 0)
    split <;> (first | lia | omega)
theorem pre_mx (l : List Nat) : pre l ≤ mx l := by
  cases l with
  | nil => exact Nat.le_refl _
  | cons c l => exact Nat.le_max_left _ _
theorem mx_app (x y : List Nat) : mx (x ++ y) ≤ mx x + mx y ∧ mx x ≤ mx (x ++ y) ∧ mx y ≤ mx (x ++ y) := by
  induction x with
  | nil => exact ⟨by show mx y ≤ 0 + mx y; (first | lia | omega), Nat.zero_le _, Nat.le_refl _⟩
  | cons c l ih =>
    have h := pre_app (c :: l) y
    have h2 := pre_mx y
    show max (pre (c :: l ++ y)) (mx (l ++ y)) ≤ max (pre (c :: l)) (mx l) + mx y ∧ max (pre (c :: l)) (mx l) ≤ max (pre (c :: l ++ y)) (mx (l ++ y)) ∧ mx y ≤ max (pre (c :: l ++ y)) (mx (l ++ y))
    (first | lia | omega)
theorem mx_sep {c : Nat} (hc : isD c = false) (x y : List Nat) : mx (x ++ c :: y) ≤ max (mx x) (mx y) := by
  have hp : pre (c :: y) = 0 := by show (if isD c = true then pre y + 1 else 0) = 0; rw [hc]; rfl
  induction x with
  | nil =>
    show max (pre (c :: y)) (mx y) ≤ max 0 (mx y)
    rw [hp]; exact Nat.le_refl _
  | cons a l ih =>
    have h := (pre_app (a :: l) (c :: y)).1
    show max (pre (a :: l ++ c :: y)) (mx (l ++ c :: y)) ≤ max (max (pre (a :: l)) (mx l)) (mx y)
    (first | lia | omega)
theorem mx_len (l : List Nat) : pre l ≤ l.length ∧ mx l ≤ l.length := by
  induction l with
  | nil => exact ⟨Nat.le_refl _, Nat.le_refl _⟩
  | cons c l ih =>
    have : pre (c :: l) ≤ l.length + 1 := by
      show (if isD c = true then pre l + 1 else 0) ≤ _
      split <;> (first | lia | omega)
    refine ⟨this, ?_⟩
    show max (pre (c :: l)) (mx l) ≤ l.length + 1
    (first | lia | omega)
theorem pre_all {l : List Nat} (h : ∀ c ∈ l, 48 ≤ c ∧ c ≤ 57) : l.length ≤ mx l := by
  refine Nat.le_trans ?_ (pre_mx l)
  induction l with
  | nil => exact Nat.le_refl _
  | cons c l ih =>
    show l.length + 1 ≤ if isD c = true then pre l + 1 else 0
    rw [if_pos (isD_iff.mpr (h c (.head _)))]
    have := ih fun x hx => h x (.tail _ hx)
    (first | lia | omega)

/-- a plain text without a long run of figures -/
structure TX (N : Nat) (x : Str) : Prop where
  a : asc x
  m : mx x.cps.toList ≤ N
  l : x.length ≤ 40000 + N
theorem TX.mono {N M : Nat} {x : Str} (h : TX N x) (e : N ≤ M) : TX M x := ⟨h.a, by have := h.m; (first | lia | omega), by have := h.l; (first | lia | omega)⟩
theorem TX.edit {N : Nat} {x y : Str} (h : TX N x) {a d b m : List Nat} (ex : x.cps.toList = a ++ (d ++ b)) (ey : y.cps.toList = a ++ (m ++ b)) (hm : m.length ≤ 1) (ha : ∀ c ∈ m, c < 128) : TX (2 * N + 1) y := by
  obtain ⟨h1, h2, h3⟩ := h
  rw [str_len, ex] at h3
  rw [ex] at h2
  have q1 := (mx_app a (d ++ b)).2
  have q2 := (mx_app d b).2.2
  have q3 := (mx_app a (m ++ b)).1
  have q4 := (mx_app m b).1
  have q5 := (mx_len m).2
  refine ⟨fun c hc => ?_, by rw [ey]; (first | lia | omega), ?_⟩
  · rw [ey] at hc
    rcases List.mem_append.mp hc with q | q
    · exact h1 c (by rw [ex]; exact List.mem_append_left _ q)
    · rcases List.mem_append.mp q with q | q
      · exact ha c q
      · exact h1 c (by rw [ex]; exact List.mem_append_right _ (List.mem_append_right _ q))
  · rw [str_len, ey]
    simp only [List.length_append] at h3 ⊢
    (first | lia | omega)
/-- the words of a text -/
theorem join_part {ws : List Str} : ∀ {i : Nat} {w : Str}, ws[i]? = some w → ∃ a b, (Str.join sp ws).cps.toList = a ++ (w.cps.toList ++ b) ∧ ∀ u : Str, (Str.join sp (ws.set i u)).cps.toList = a ++ (u.cps.toList ++ b) := by
  induction ws with
  | nil => intro i w h; simp at h
  | cons x r ih =>
    intro i w h
    cases i with
    | zero =>
      have : x = w := by simpa using h
      subst this
      cases r with
      | nil => exact ⟨[], [], by rw [List.append_nil]; rfl, fun u => by rw [List.append_nil]; rfl⟩
      | cons y q => exact ⟨[], 32 :: (Str.join sp (y :: q)).cps.toList, join_cons2 x y q, fun u => join_cons2 u y q⟩
    | succ i =>
      have h' : r[i]? = some w := by simpa using h
      obtain ⟨a, b, e1, e2⟩ := ih h'
      cases r with
      | nil => simp at h'
      | cons y q =>
        refine ⟨x.cps.toList ++ 32 :: a, b, ?_, fun u => ?_⟩
        · rw [join_cons2, e1]; simp
        · have e3 := e2 u
          cases i with
          | zero =>
            show (Str.join sp (x :: u :: q)).cps.toList = _
            rw [join_cons2]
            rw [show (y :: q).set 0 u = u :: q from rfl] at e3
            rw [e3]; simp
          | succ i =>
            show (Str.join sp (x :: y :: q.set i u)).cps.toList = _
            rw [join_cons2]
            rw [show (y :: q).set (i + 1) u = y :: q.set i u from rfl] at e3
            rw [e3]; simp
theorem split_ne (x : Str) : Txt.split x sp ≠ [] := fun e => by have := split_pos x sp; rw [e] at this; simp at this
theorem word_part {x w : Str} {i : Nat} (h : (Txt.split x sp)[i]? = some w) : ∃ a b, x.cps.toList = a ++ (w.cps.toList ++ b) ∧ ∀ u : Str, (Txt.join sp ((Txt.split x sp).set i u)).cps.toList = a ++ (u.cps.toList ++ b) := by
  obtain ⟨a, b, e1, e2⟩ := join_part h
  rw [StrLaws.join_split] at e1
  refine ⟨a, b, e1, fun u => ?_⟩
  rw [show Txt.join sp ((Txt.split x sp).set i u) = Str.join sp ((Txt.split x sp).set i u) from StrLaws.glued_eq_join _ _]
  exact e2 u
theorem TX.word {N : Nat} {x w : Str} (h : TX N x) {i : Nat} (hw : (Txt.split x sp)[i]? = some w) : TX N w := by
  obtain ⟨a, b, e, _⟩ := word_part hw
  obtain ⟨h1, h2, h3⟩ := h
  rw [e] at h2
  have q1 := (mx_app a (w.cps.toList ++ b)).2.2
  have q2 := (mx_app w.cps.toList b).2.1
  refine ⟨fun c hc => h1 c (by rw [e]; simp [hc]), by (first | lia | omega), ?_⟩
  rw [str_len] at h3 ⊢
  rw [e] at h3
  simp only [List.length_append] at h3
  (first | lia | omega)
theorem split_len {x : Str} {N : Nat} (h : TX N x) : (Txt.split x sp).length ≤ x.length + 1 := by
  have e := StrLaws.join_split x sp
  have g : ∀ ws : List Str, ws.length ≤ (Str.join sp ws).cps.toList.length + 1 := fun ws => by
    induction ws with
    | nil => exact Nat.zero_le _
    | cons w r ih =>
      cases r with
      | nil => show 1 ≤ _; (first | lia | omega)
      | cons y q =>
        rw [join_cons2]
        simp only [List.length_cons, List.length_append] at ih ⊢
        (first | lia | omega)
  have := g (Txt.split x sp)
  rw [e] at this
  rw [str_len]; exact this
/-- a path's text -/
theorem runS_mx {s : Bool × Int} (h : 0 ≤ s.2) (h1 : s.2 ≤ 10 ^ 60) : mx (runS s).cps.toList ≤ 63 := Nat.le_trans (mx_len _).2 (by rw [← str_len]; exact runS_len h h1)
theorem mx_join {ws : List Str} {N : Nat} (h : ∀ w ∈ ws, mx w.cps.toList ≤ N) : mx (Str.join sp ws).cps.toList ≤ N := by
  induction ws with
  | nil => exact Nat.zero_le _
  | cons w r ih =>
    cases r with
    | nil => exact h w (.head _)
    | cons y q =>
      rw [join_cons2]
      have a := mx_sep (c := 32) (by decide) w.cps.toList (Str.join sp (y :: q)).cps.toList
      have b := h w (.head _)
      have c := ih fun u hu => h u (.tail _ hu)
      (first | lia | omega)
theorem line_TX {p : Path} (h : ∀ s ∈ p, 0 ≤ s.2) (h1 : ∀ s ∈ p, s.2 ≤ 10 ^ 60) (hl : p.length ≤ 300) : TX 63 (lineS p) := by
  refine ⟨lineS_asc h, ?_, ?_⟩
  · unfold lineS
    split
    · decide +kernel
    · show mx (Builtin.Str.glued sp (p.map runS)).cps.toList ≤ _
      rw [StrLaws.glued_eq_join]
      refine mx_join fun w hw => ?_
      obtain ⟨s, hs, rfl⟩ := List.mem_map.mp hw
      exact runS_mx (h s hs) (h1 s hs)
  · have hw : ∀ w ∈ p.map runS, w.length ≤ 63 := fun w hw => by
      obtain ⟨s, hs, rfl⟩ := List.mem_map.mp hw
      exact runS_len (h s hs) (h1 s hs)
    unfold lineS
    split
    · decide +kernel
    · have q := sum_le hw
      have z := size_glued sp (p.map runS)
      rw [List.length_map] at q z
      show (Builtin.Str.glued sp (p.map runS)).length ≤ _
      have d : sp.length = 1 := rfl
      rw [z, d]; (first | lia | omega)

/-- figures -/
def figB (l : List Nat) : Bool := l.all isD && !l.isEmpty
theorem fig_out {c : Nat} (h : isD c = false) (h2 : c < 128) : Txt.contains (Str.ofString "0123456789") ⟨#[c]⟩ = false := by
  have : ∀ d : Nat, d < 128 → isD d = false → Txt.contains (Str.ofString "0123456789") ⟨#[d]⟩ = false := by decide +kernel
  exact this c h2 h
theorem fig_is {c : Nat} (h2 : c < 128) : Txt.contains (Str.ofString "0123456789") ⟨#[c]⟩ = isD c := by
  cases h : isD c with
  | true => exact fig_in (isD_iff.mp h)
  | false => exact fig_out h h2
/-- a good word, behind the way a -/
def goodW (a : Option Bool) (w : Str) (s : Bool × Int) : Prop := ∃ f : List Nat, w.cps.toList = (if s.1 then 82 else 76) :: f ∧ a ≠ some s.1 ∧ figB f = true ∧ f[0]? ≠ some 48 ∧ s.2 = (digitsVal f : Nat)
def condW (a : Option Bool) (w : Str) : Bool := !([PyData.str "L", .str "R"].any fun y => PyData.eqv y (.str (Txt.slice w none (some 1)))) || (PyData.eqv (.str (Txt.slice w none (some 1))) (.str (asg a)) || (!figB (w.cps.toList.drop 1) || (PyData.eqv (.str (Txt.item (Txt.slice w (some 1) none) 0)) (.str "0") || false)))
theorem dv_pos {l : List Nat} (h : figB l = true) (h0 : l[0]? ≠ some 48) : 1 ≤ digitsVal l := by
  obtain ⟨h1, h2⟩ := Bool.and_eq_true_iff.mp h
  cases l with
  | nil => simp at h2
  | cons c t =>
    have hc := isD_iff.mp (List.all_eq_true.mp h1 c (.head _))
    have hc0 : c ≠ 48 := fun q => h0 (by rw [q]; rfl)
    have e : digitsVal (c :: t) = t.foldl (fun acc c => acc * 10 + (c - 48)) (digitsVal [c]) := dv_app [c] t
    have g : ∀ (t : List Nat) (a : Nat), 1 ≤ a → 1 ≤ t.foldl (fun acc c => acc * 10 + (c - 48)) a := fun t => by
      induction t with
      | nil => intro a h; exact h
      | cons d u ih => intro a h; exact ih (a * 10 + (d - 48)) (Nat.le_trans h (by (first | lia | omega)))
    rw [e]
    refine g t _ ?_
    show 1 ≤ 0 * 10 + (c - 48)
    (first | lia | omega)
theorem eqs {x y : Str} : PyData.eqv (.str x) (.str y) = true ↔ x = y := by
  show (x == y) = true ↔ _
  exact beq_iff_eq
theorem fig_item {w : Str} (h : figB (w.cps.toList.drop 1) = true) : ∃ c, (w.cps.toList.drop 1)[0]? = some c ∧ Txt.item (Txt.slice w (some 1) none) 0 = ⟨#[c]⟩ ∧ Txt.item w 1 = ⟨#[c]⟩ := by
  obtain ⟨h1, h2⟩ := Bool.and_eq_true_iff.mp h
  cases e : w.cps.toList.drop 1 with
  | nil => rw [e] at h2; simp at h2
  | cons c t =>
    refine ⟨c, rfl, ?_, ?_⟩
    · exact item_at (k := 0) (by rw [sl_from (by decide)]; show (w.cps.toList.drop 1)[0]? = _; rw [e]; rfl)
    · refine item_at (k := 1) ?_
      have : w.cps.toList[1]? = (w.cps.toList.drop 1)[0]? := by rw [List.getElem?_drop]
      rw [this, e]; rfl
theorem sign_in {w : Str} : ([PyData.str "L", .str "R"].any fun y => PyData.eqv y (.str (Txt.slice w none (some 1)))) = true ↔ ∃ b, w.cps.toList.take 1 = [if b then 82 else 76] ∧ Txt.slice w none (some 1) = sg b := by
  have g : ∀ b, Txt.slice w none (some 1) = sg b ↔ w.cps.toList.take 1 = [if b then 82 else 76] := fun b => by
    rw [← sl_to1 w, ← sg_cps b]
    exact ⟨fun e => by rw [e], fun e => str_ext e⟩
  constructor
  · intro h
    simp only [List.any_cons, List.any_nil, Bool.or_false, Bool.or_eq_true] at h
    rcases h with h | h
    · have e : Txt.slice w none (some 1) = sg false := (eqs.mp h).symm
      exact ⟨false, (g false).mp e, e⟩
    · have e : Txt.slice w none (some 1) = sg true := (eqs.mp h).symm
      exact ⟨true, (g true).mp e, e⟩
  · rintro ⟨b, _, e⟩
    rw [e]
    cases b <;> decide +kernel
theorem cond_good {a : Option Bool} {w : Str} (h : condW a w = false) : ∃ s, goodW a w s := by
  unfold condW at h
  simp only [Bool.or_eq_false_iff, Bool.not_eq_false'] at h
  obtain ⟨h1, h2, h3, h4, _⟩ := h
  obtain ⟨b, e1, e2⟩ := sign_in.mp h1
  obtain ⟨c, f1, f2, _⟩ := fig_item h3
  refine ⟨(b, (digitsVal (w.cps.toList.drop 1) : Nat)), w.cps.toList.drop 1, ?_, ?_, h3, ?_, rfl⟩
  · rw [← List.take_append_drop 1 w.cps.toList, e1]; simp
  · intro q
    rw [q, e2] at h2
    have : PyData.eqv (.str (sg b)) (.str (asg (some b))) = true := eqs.mpr rfl
    rw [this] at h2; cases h2
  · intro q
    rw [f1] at q
    cases q
    rw [f2] at h4
    exact absurd h4 (by decide +kernel)
theorem good_cond {a : Option Bool} {w : Str} {s : Bool × Int} (h : goodW a w s) : condW a w = false ∧ Txt.slice w none (some 1) = sg s.1 ∧ (Txt.slice w (some 1) none).cps.toList = w.cps.toList.drop 1 ∧ figB (w.cps.toList.drop 1) = true ∧ 1 ≤ s.2 ∧ s.2 = (digitsVal (w.cps.toList.drop 1) : Nat) ∧ a ≠ some s.1 := by
  obtain ⟨f, e, ha, hf, h0, hv⟩ := h
  have ed : w.cps.toList.drop 1 = f := by rw [e]; rfl
  have et : Txt.slice w none (some 1) = sg s.1 := str_ext (by rw [sl_to1, e, sg_cps]; rfl)
  have hd := dv_pos hf h0
  refine ⟨?_, et, sl_from (by decide), by rw [ed]; exact hf, by (first | lia | omega), by rw [ed]; exact hv, ha⟩
  unfold condW
  obtain ⟨c, f1, f2, _⟩ := fig_item (w := w) (by rw [ed]; exact hf)
  simp only [Bool.or_eq_false_iff, Bool.not_eq_false']
  refine ⟨sign_in.mpr ⟨s.1, by rw [e]; rfl, et⟩, ?_, by rw [ed]; exact hf, ?_, trivial⟩
  · rw [et]
    cases q : PyData.eqv (.str (sg s.1)) (.str (asg a)) with
    | false => rfl
    | true =>
      exfalso
      have e3 := eqs.mp q
      rcases a with _ | b
      · have := congrArg (·.cps.toList) e3
        rw [show asg none = (Str.ofString "") from rfl] at this
        simp only [sg_cps] at this
        rw [show (Str.ofString "").cps.toList = [] by decide +kernel] at this
        cases this
      · have := congrArg (·.cps.toList) e3
        rw [show asg (some b) = sg b from rfl] at this
        simp only [sg_cps] at this
        apply ha
        cases b <;> cases hs : s.1 <;> rw [hs] at this <;> first | rfl | (simp at this)
  · rw [f2]
    cases q : PyData.eqv (.str (⟨#[c]⟩ : Str)) (.str "0") with
    | false => rfl
    | true =>
      exfalso
      have e3 := congrArg (·.cps.toList) (eqs.mp q)
      simp only [show (Str.ofString "0").cps.toList = [48] by decide +kernel] at e3
      rw [ed] at f1
      apply h0
      rw [f1]
      simpa using e3
/-- the way ahead of the j-th run -/
def wayA (p : Path) : Nat → Option Bool
  | 0 => none
  | j + 1 => p[j]?.map (·.1)
/-- what the words of a text tell: the runs ahead of the first bad word -/
structure Due (ws : List Str) (p : Path) (bad : Bool) : Prop where
  le : p.length ≤ ws.length
  good : ∀ j s, p[j]? = some s → ∃ w, ws[j]? = some w ∧ goodW (wayA p j) w s
  ok : bad = false → p.length = ws.length
  stop : bad = true → ∃ w, ws[p.length]? = some w ∧ condW (wayA p p.length) w = true
theorem wayA_app {p : Path} {x : Bool × Int} {j : Nat} (h : j ≤ p.length) : wayA (p ++ [x]) j = wayA p j := by
  cases j with
  | zero => rfl
  | succ j => show ((p ++ [x])[j]?).map _ = (p[j]?).map _; rw [List.getElem?_append_left (by (first | lia | omega))]
theorem due_ex (ws : List Str) : ∃ p bad, Due ws p bad := by
  have key : ∀ n, n ≤ ws.length → (∃ p : Path, p.length = n ∧ ∀ j s, p[j]? = some s → ∃ w, ws[j]? = some w ∧ goodW (wayA p j) w s) ∨ ∃ p, Due ws p true := by
    intro n
    induction n with
    | zero => exact fun _ => .inl ⟨[], rfl, fun j s e => by simp at e⟩
    | succ n ih =>
      intro hn
      rcases ih (by (first | lia | omega)) with ⟨p, hp, hg⟩ | h
      · obtain ⟨w, hw⟩ : ∃ w, ws[n]? = some w := ⟨_, List.getElem?_eq_getElem (by (first | lia | omega))⟩
        cases hcw : condW (wayA p n) w with
        | true => exact .inr ⟨p, by (first | lia | omega), hg, (fun e => by cases e), fun _ => ⟨w, by rw [hp]; exact hw, by rw [hp]; exact hcw⟩⟩
        | false =>
          obtain ⟨s, hs⟩ := cond_good hcw
          refine .inl ⟨p ++ [s], by simp [hp], fun j t e => ?_⟩
          rcases Nat.lt_or_ge j p.length with q | q
          · rw [List.getElem?_append_left q] at e
            rw [wayA_app (by (first | lia | omega))]
            exact hg j t e
          · have hj : j = p.length := by
              have : j < (p ++ [s]).length := by
                rcases Nat.lt_or_ge j (p ++ [s]).length with z | z
                · exact z
                · rw [List.getElem?_eq_none z] at e; cases e
              simp at this; (first | lia | omega)
            subst hj
            have : s = t := by simpa using e
            subst this
            rw [wayA_app (Nat.le_refl _), hp]
            exact ⟨w, hw, hs⟩
      · exact .inr h
  rcases key ws.length (Nat.le_refl _) with ⟨p, hp, hg⟩ | ⟨p, hd⟩
  · exact ⟨p, false, by (first | lia | omega), hg, fun _ => hp, fun e => by cases e⟩
  · exact ⟨p, true, hd⟩
theorem okP_of {p : Path} : ∀ {a : Option Bool}, (∀ j s, p[j]? = some s → 1 ≤ s.2 ∧ (if j = 0 then a else wayA p j) ≠ some s.1) → okP a p := by
  induction p with
  | nil => intro a _; trivial
  | cons x t ih =>
    intro a h
    have h0 := h 0 x rfl
    refine ⟨h0.1, by simpa using h0.2, ih fun j s e => ?_⟩
    have h1 := h (j + 1) s (by simpa using e)
    refine ⟨h1.1, ?_⟩
    have h2 : wayA (x :: t) (j + 1) ≠ some s.1 := by simpa using h1.2
    cases j with
    | zero => exact h2
    | succ j => exact h2
theorem Due.okp {ws : List Str} {p : Path} {bad : Bool} (h : Due ws p bad) : okP none p := okP_of fun j s e => by
  obtain ⟨w, _, hg⟩ := h.good j s e
  obtain ⟨_, _, _, _, h1, _, h2⟩ := good_cond hg
  refine ⟨h1, ?_⟩
  split
  · exact fun q => by cases q
  · exact h2
/-- the words of a text that is plain -/
theorem TX.fig {N : Nat} {w : Str} (h : TX N w) (hf : figB (w.cps.toList.drop 1) = true) : (Txt.slice w (some 1) none).length ≤ N ∧ Dg (Txt.slice w (some 1) none) ∧ (Txt.slice w (some 1) none).cps.toList ≠ [] := by
  have e := sl_from (x := w) (j := 1) (by decide)
  rw [show ((1 : Int).toNat) = 1 from rfl] at e
  obtain ⟨h1, h2⟩ := Bool.and_eq_true_iff.mp hf
  have hd : ∀ c ∈ w.cps.toList.drop 1, 48 ≤ c ∧ c ≤ 57 := fun c hc => isD_iff.mp (List.all_eq_true.mp h1 c hc)
  refine ⟨?_, fun c hc => ?_, ?_⟩
  · rw [str_len, e]
    have q := pre_all hd
    have m := h.m
    have z := (mx_app (w.cps.toList.take 1) (w.cps.toList.drop 1)).2.2
    rw [List.take_append_drop] at z
    (first | lia | omega)
  · rw [e] at hc; exact hd c hc
  · rw [e]; intro q; rw [q] at h2; simp at h2
theorem fig_reads {x : Str} (h1 : Dg x) (h2 : x.cps.toList ≠ []) (h3 : x.length ≤ 600) : PySem.intText? x = some ((digitsVal x.cps.toList : Nat) : Int) := intText_digits h1 h2 (by (first | lia | omega))
/-- the other way to ask for a bad word -/
def condW2 (a : Option Bool) (w : Str) : Bool := !([PyData.str "L", .str "R"].any fun y => PyData.eqv y (.str (Txt.slice w none (some 1)))) || (PyData.eqv (.str (Txt.slice w none (some 1))) (.str (asg a)) || (!figB (w.cps.toList.drop 1) || (PyData.eqv (.str (Txt.item w 1)) (.str "0") || false)))
theorem cond2 (a : Option Bool) (w : Str) : condW2 a w = condW a w := by
  unfold condW2 condW
  cases h : figB (w.cps.toList.drop 1) with
  | false => rfl
  | true =>
    obtain ⟨c, _, e1, e2⟩ := fig_item h
    rw [e1, e2]
theorem asc_slice_to {x : Str} (h : asc x) : asc (Txt.slice x none (some 1)) := fun c hc => h c (by rw [sl_to1] at hc; exact List.mem_of_mem_take hc)
theorem asc_slice_from {x : Str} (h : asc x) : asc (Txt.slice x (some 1) none) := fun c hc => h c (by rw [sl_from (by decide)] at hc; exact List.mem_of_mem_drop hc)
end Mine

namespace Mine
open PySem PySem.Spec PySem.Calls PyProof.Rows PySem.W PySem.Builtin PySem.Builtin.Str
section
variable {prog : Program} {w : World} {A : Around} {env : Env} {h : Heap} {X : Value → Heap → Prop}
/-- line.split(sep), as a new list -/
theorem op_split {x y : PySem.Str} {t u : Tok} (hy : (y.length == 0) = false) (hn : x.length + 2 ≤ sizeLine) : EvT (model prog w) A h (call (.builtin "str.split") [.str x t, .str y u]) (Rl h ((Txt.split x y).map PyData.str)) X := by
  refine EvT.of fun s Q E k q => ?_
  have fin : ∀ (l : List (PySem.Str × Tok)) (i : Nat), l.map (·.1) = Txt.split x y → Q (.ref s.heap.objs.size) { s with heap := s.heap.push { cls := .type "list", data := .seq (strValues l).toArray }, toks := i } := fun l i e => by
    refine q _ _ i (Keep.rfl.push _) ⟨_, _, rfl, ⟨0, Heap.get?_push_size _ rfl⟩, ?_, fresh_size k⟩
    have := strs_rdl (h := s.heap.push { cls := .type "list", data := .seq (strValues l).toArray }) l
    rw [e] at this
    simpa using this
  have hcnt : (partsBetween x (occurrences x y 0 x.length (x.length + 1)) y.length).length ≤ sizeLine := by
    rw [PyProof.Rows.len_partsBetween]
    have := StrLaws.occ_length_le x y 0 x.length (x.length + 1)
    (first | lia | omega)
  cases c1 : (decide (x.length < y.length) || decide (strKind x < strKind y)) with
  | true =>
    refine call_meets F.slot_str_split (typeIs_str _ _ _) F.entry_str_split (F.args_str_split_2 _ _) (meets_str_split_cannot_occur x y t u c1) ?_
    exact fin [(x, t)] _ (if_pos c1).symm
  | false =>
    cases c2 : (occurrences x y 0 x.length (x.length + 1)).isEmpty with
    | true =>
      refine call_meets F.slot_str_split (typeIs_str _ _ _) F.entry_str_split (F.args_str_split_2 _ _) (meets_str_split_not_found x y t u c1 hy c2) ?_
      exact fin [(x, t)] _ ((if_neg (ne_true_of_eq_false c1)).trans (if_pos c2)).symm
    | false =>
      refine call_meets F.slot_str_split (typeIs_str _ _ _) F.entry_str_split (F.args_str_split_2 _ _) (meets_str_split_sep x y t u c1 hy c2 (by (first | lia | omega)) hcnt) ?_
      show wants Q E _ { s with toks := _, heap := s.heap.push { cls := .type "list", data := .seq (strsFrom s.toks (partsBetween x (occurrences x y 0 x.length (x.length + 1)) y.length)).toArray } }
      rw [strsFrom_eq]
      exact fin (numbered s.toks _) _ ((numbered_texts _ _).trans ((if_neg (ne_true_of_eq_false c1)).trans (if_neg (ne_true_of_eq_false c2))).symm)
theorem ev_split {o e : Expr} {ap pos : Pos} {x y : PySem.Str} (e1 : Ev (model prog w) A env h o (Rd (.str x)) X) (e2 : Ev (model prog w) A env h e (Rd (.str y)) X) (hy : (y.length == 0) = false) (hn : x.length + 2 ≤ sizeLine)
    (hbase : attributeBase o "split" env (eval o env) = eval o env := by rfl) (hline : (ap.endLine == pos.line) = true := by rfl) (he : pl e = true := by rfl) :
    Ev (model prog w) A env h (.Call (.Attribute o "split" ap) [e] [] pos) (Rl h ((Txt.split x y).map PyData.str)) X :=
  ev_meth1 PySem.F.plainAttrs_str PySem.F.slot_str_split PySem.F.type_str_split e1 e2 (fun _ _ _ k r => r.keep k) str_typ (fun v1 v2 h' k r1 r2 => by
    obtain ⟨t, rfl⟩ := rd_str r1
    obtain ⟨u, rfl⟩ := rd_str r2
    exact (op_split hy hn).mono fun _ _ _ r => r.old k) hbase hline he
theorem ev_to {e : Expr} {d d' : PyData} (r : Ev (model prog w) A env h e (Rd d) X) (q : d = d') : Ev (model prog w) A env h e (Rd d') X := q ▸ r
/-- an item of a str, whatever gives it -/
theorem ev_sidxv {v i : Expr} {pos : Pos} {x : PySem.Str} {k : Int} (e1 : Ev (model prog w) A env h v (Rd (.str x)) X) (e2 : Ev (model prog w) A env h i (Rd (.int k)) X) (h0 : 0 ≤ k) (h1 : k < x.length) (hf : k < 2 ^ 62)
    (hs : pl i = true := by rfl) (ht : ∀ t r, letTemporaryGo v (.str x t) r = pure () := by intro _ _; rfl) : Ev (model prog w) A env h (.Subscript v i pos) (Rd (.str (Txt.item x k))) X := by
  refine ⟨fun s Q E k' q x' => ?_⟩
  refine Subscript_ (EvT.two e1 e2 rd_mono (v := fun a b => subscriptTail v i a b) (R' := Rd (.str (Txt.item x k))) (fun v1 v2 h' kk r1 r2 => ?_) k' q x')
  obtain ⟨u, rfl⟩ := rd_int r2
  obtain ⟨t, rfl⟩ := rd_str r1
  refine EvT.ofS fun s' Q' E' k1 q1 => item_str (by simp only [fitsSsize, decide_eq_true_eq, Bool.and_eq_true, Bool.not_eq_true', Bool.or_eq_false_iff, decide_eq_false_iff_not]; (first | lia | omega)) (by (first | lia | omega)) h1 (fun _ => q1 _ _ ⟨_, .str _ _⟩) (pl_sub hs) (fun r => ht t r)
/-- x[:j], whatever gives x -/
theorem ev_slice_tov {v u : Expr} {p pos : Pos} {x : PySem.Str} {j : Int} (e1 : Ev (model prog w) A env h v (Rd (.str x)) X) (e2 : Ev (model prog w) A env h u (Rd (.int j)) X) (hn : x.length ≤ sizeLine)
    (ht : ∀ t r, letTemporaryGo v (.str x t) r = pure () := by intro _ _; rfl) : Ev (model prog w) A env h (.Subscript v (.Slice none (some u) none p) pos) (Rd (.str (Txt.slice x none (some j)))) X := by
  refine ⟨fun s Q E k q x' => ?_⟩
  refine Subscript_ (e1.go s _ E k (fun v1 h1 i1 k1 r1 => ?_) x')
  obtain ⟨t, rfl⟩ := rd_str r1
  refine wpAny_Slice (evalPart_none_step (evalPart_some_step ?_))
  refine (e2.up (k.trans k1)).go { s with heap := h1, toks := i1 } _ E Keep.rfl (fun v2 h2 i2 k2 r2 => ?_) (fun y h i r => x' y h i r)
  obtain ⟨u2, rfl⟩ := rd_int r2
  refine evalPart_none_step ?_
  exact tail_of_ItemOn (SBH.sliceItem_ns (s := { s with heap := h2, toks := i2 }) (P := fun h' => Keep h2 h') (fun h' ob p => p.push ob) Keep.rfl (fun h' t' k' kp => q _ h' k' (Keep.trans k1 (Keep.trans k2 kp)) ⟨_, .str _ _⟩) hn) (by rfl) (ht t)
end
theorem fold_join {ws : List PySem.Str} (h : ws ≠ []) : ∀ a : Nat, ws.foldl (fun n w => n + w.length + sp.length) a = a + (PySem.Str.join sp ws).length + 1 := by
  induction ws with
  | nil => exact absurd rfl h
  | cons x r ih =>
    intro a
    cases r with
    | nil => show a + x.length + 1 = a + (PySem.Str.join sp [x]).length + 1; rfl
    | cons y q =>
      rw [List.foldl_cons, ih (by simp), str_len (PySem.Str.join sp (x :: y :: q)), join_cons2, str_len (PySem.Str.join sp (y :: q)), str_len x]
      simp only [List.length_append, List.length_cons]
      have : sp.length = 1 := rfl
      (first | lia | omega)
theorem joinOk_of {ws : List PySem.Str} (h : ws ≠ []) (hl : (PySem.Str.join sp ws).length < 2 ^ 20) : JoinOk sp ws = true := by
  unfold JoinOk
  have e : ws.toArray.foldl (fun n w => n + w.length + sp.length) 0 = ws.foldl (fun n w => n + w.length + sp.length) 0 := by simp
  rw [e, fold_join h]
  have hs : sizeLine = 2 ^ 24 := rfl
  simp only [Builtin.Str.tooLong, Bool.not_eq_true', decide_eq_false_iff_not]
  (first | lia | omega)
/-- the plain signs but the percent sign -/
def signsZ : PySem.Str := ⟨(((List.range 95).map (· + 32)).filter (fun x => x != 37)).toArray⟩
theorem sign_ok {k : Int} (h0 : 0 ≤ k) (h1 : k < 94) : ∃ c : Nat, c < 128 ∧ Txt.item signsZ k = ⟨#[c]⟩ := by
  have hl : signsZ.cps.toList.length = 94 := by decide +kernel
  have ha : ∀ c ∈ signsZ.cps.toList, c < 128 := by decide +kernel
  have hk : k.toNat < signsZ.cps.toList.length := by (first | lia | omega)
  refine ⟨signsZ.cps.toList[k.toNat], ha _ (List.getElem_mem hk), ?_⟩
  have := item_at (x := signsZ) (k := k.toNat) (List.getElem?_eq_getElem hk)
  have e : ((k.toNat : Nat) : Int) = k := by (first | lia | omega)
  rwa [e] at this
theorem asc_one {c : Nat} (h : c < 128) : asc (⟨#[c]⟩ : PySem.Str) := fun x hx => by simp at hx; (first | lia | omega)
theorem figB_no {l : List Nat} {i c : Nat} (h : l[i]? = some c) (hc : isD c = false) : figB l = false := by
  have : l.all isD = false := by
    rw [List.all_eq_false]
    exact ⟨c, List.mem_of_getElem? h, by rw [hc]; decide⟩
  unfold figB; rw [this]; rfl
theorem figB_all {l : List Nat} (h : ∀ (i c : Nat), l[i]? = some c → isD c = true) : figB l = !l.isEmpty := by
  have : l.all isD = true := List.all_eq_true.mpr fun c hc => by
    obtain ⟨i, hi⟩ := List.mem_iff_getElem?.mp hc
    exact h i c hi
  unfold figB; rw [this]; rfl
theorem eqs_ne {x y : PySem.Str} (h : x ≠ y) : PyData.eqv (.str x) (.str y) = false := by
  cases q : PyData.eqv (.str x) (.str y) with
  | true => exact absurd (eqs.mp q) h
  | false => rfl
theorem own_empty {g h : Heap} {L l : Addr} {ρ : Locs} {x : PySem.Str} (S : St g L h ρ (some (x, l, []))) : ∀ a ∈ L :: [l], ∀ items, h.IsList a items → items.size = 0 := by
  intro a ha items hi
  obtain ⟨m, F, _, hm⟩ := S.ex
  obtain ⟨_, _, _, items2, p2, rr2⟩ := hm _ rfl
  rcases List.mem_cons.mp ha with q | q
  · subst q
    obtain ⟨o, es, ep, ho, hd, _⟩ := F.ns
    obtain ⟨o', ho', _, n, hd'⟩ := hi
    rw [ho] at ho'; cases ho'
    rw [hd] at hd'; cases hd'
  · rw [List.mem_singleton] at q; subst q
    obtain ⟨n, p2⟩ := p2
    obtain ⟨o', ho', _, n', hd'⟩ := hi
    rw [p2] at ho'; cases ho'
    cases hd'
    have := rr2.len
    simpa using this
theorem Due.at {ws : List PySem.Str} {p : Path} {bad : Bool} {i : Nat} {w : PySem.Str} (D : Due ws p bad) (hi : i ≤ p.length) (hw : ws[i]? = some w) :
    (condW (wayA p i) w = true ∧ bad = true) ∨ (condW (wayA p i) w = false ∧ i < p.length ∧ ∃ s, p[i]? = some s ∧ goodW (wayA p i) w s) := by
  rcases Nat.lt_or_eq_of_le hi with q | q
  · obtain ⟨s, hs⟩ : ∃ s, p[i]? = some s := ⟨_, List.getElem?_eq_getElem q⟩
    obtain ⟨w', hw', hg⟩ := D.good i s hs
    rw [hw] at hw'; cases hw'
    exact .inr ⟨(good_cond hg).1, q, s, hs, hg⟩
  · subst q
    cases bad with
    | true =>
      obtain ⟨w', hw', hg⟩ := D.stop rfl
      rw [hw] at hw'; cases hw'
      exact .inl ⟨hg, rfl⟩
    | false =>
      have := D.ok rfl
      rw [List.getElem?_eq_none (by (first | lia | omega))] at hw; cases hw
theorem Due.end {ws : List PySem.Str} {p : Path} {bad : Bool} (D : Due ws p bad) (hi : ws.length ≤ p.length) : bad = false ∧ p.length = ws.length := by
  have hl := D.le
  cases bad with
  | false => exact ⟨rfl, by (first | lia | omega)⟩
  | true =>
    obtain ⟨w', hw', _⟩ := D.stop rfl
    rw [List.getElem?_eq_none (by (first | lia | omega))] at hw'; cases hw'
theorem fig_at1 {w : PySem.Str} (ha : asc w) (h : figB (w.cps.toList.drop 1) = true) : 1 < w.length ∧ 0 < (Txt.slice w (some 1) none).length ∧ SeqAt.shaped (.str (Txt.item w 1)) = true ∧ SeqAt.shaped (.str (Txt.item (Txt.slice w (some 1) none) 0)) = true := by
  obtain ⟨c, e, e1, e2⟩ := fig_item h
  have hc : c ∈ w.cps.toList.drop 1 := List.mem_of_getElem? e
  have hlt := ha c (List.mem_of_mem_drop hc)
  have hl : 0 < (w.cps.toList.drop 1).length := List.length_pos_of_mem hc
  have hs := asc_shaped (asc_one hlt)
  have z := sl_from (x := w) (j := 1) (by decide)
  rw [show ((1 : Int).toNat) = 1 from rfl] at z
  refine ⟨?_, ?_, by rw [e2]; exact hs, by rw [e1]; exact hs⟩
  · rw [str_len]; rw [List.length_drop] at hl; (first | lia | omega)
  · rw [str_len, z]; exact hl
theorem app_len (x y : PySem.Str) : (x ++ y).length = x.length + y.length := by
  rw [str_len, str_app, str_len, str_len, List.length_append]
theorem item_ex {x : PySem.Str} {k : Int} (ha : asc x) (h0 : 0 ≤ k) (h1 : k < x.length) : ∃ c : Nat, c < 128 ∧ Txt.item x k = ⟨#[c]⟩ := by
  have hk : k.toNat < x.cps.toList.length := by rw [← str_len]; (first | lia | omega)
  refine ⟨x.cps.toList[k.toNat], ha _ (List.getElem_mem hk), ?_⟩
  have := item_at (x := x) (k := k.toNat) (List.getElem?_eq_getElem hk)
  have e : ((k.toNat : Nat) : Int) = k := by (first | lia | omega)
  rwa [e] at this
/-- a line with a sign put in, in the place of another, or left out -/
def turnF (x : PySem.Str) (w at_ : Int) (s : PySem.Str) : PySem.Str := if w = 1 then Txt.slice x none (some at_) ++ s ++ Txt.slice x (some at_) none else if w = 2 then Txt.slice x none (some at_) ++ s ++ Txt.slice x (some (at_ + 1)) none else if w = 3 then Txt.slice x none (some at_) ++ Txt.slice x (some (at_ + 1)) none else x
theorem turn_parts {x : PySem.Str} {w at_ : Int} {ch : Nat} (h0 : 0 ≤ at_) (h1 : at_ ≤ x.length) : turnF x w at_ ⟨#[ch]⟩ = x ∨ ∃ a d b m : List Nat, x.cps.toList = a ++ (d ++ b) ∧ (turnF x w at_ ⟨#[ch]⟩).cps.toList = a ++ (m ++ b) ∧ m.length ≤ 1 ∧ ∀ c ∈ m, c = ch := by
  have e1 : (at_ + 1).toNat = at_.toNat + 1 := by (first | lia | omega)
  have e2 : x.cps.toList = x.cps.toList.take at_.toNat ++ ((x.cps.toList.drop at_.toNat).take 1 ++ x.cps.toList.drop (at_.toNat + 1)) := by
    have : x.cps.toList.drop (at_.toNat + 1) = (x.cps.toList.drop at_.toNat).drop 1 := by rw [List.drop_drop]
    rw [this, List.take_append_drop, List.take_append_drop]
  unfold turnF
  split
  · refine .inr ⟨x.cps.toList.take at_.toNat, [], x.cps.toList.drop at_.toNat, [ch], by simp, ?_, by simp, fun c hc => by simpa using hc⟩
    rw [str_app, str_app, sl_to h0 h1, sl_from h0]; simp
  · split
    · refine .inr ⟨_, _, _, [ch], e2, ?_, by simp, fun c hc => by simpa using hc⟩
      rw [str_app, str_app, sl_to h0 h1, sl_from (by (first | lia | omega)), e1]; simp
    · split
      · refine .inr ⟨_, _, _, [], e2, ?_, by simp, fun c hc => by cases hc⟩
        rw [str_app, sl_to h0 h1, sl_from (by (first | lia | omega)), e1]; simp
      · exact .inl rfl
theorem turn_tx {N : Nat} {x : PySem.Str} {w at_ : Int} {ch : Nat} (h : TX N x) (h0 : 0 ≤ at_) (h1 : at_ ≤ x.length) (hc : ch < 128) : TX (2 * N + 1) (turnF x w at_ ⟨#[ch]⟩) := by
  rcases turn_parts (w := w) (ch := ch) h0 h1 with e | ⟨a, d, b, m, e1, e2, e3, e4⟩
  · rw [e]; exact h.mono (by (first | lia | omega))
  · exact h.edit e1 e2 e3 fun c q => by rw [e4 c q]; exact hc
/-- a nought put in behind a word's first sign -/
theorem TX.zero {N : Nat} {x : PySem.Str} (h : TX N x) (hN : N ≤ 1000) {i : Nat} {w : PySem.Str} (hw : (Txt.split x sp)[i]? = some w) :
    TX (2 * N + 1) (Txt.join sp ((Txt.split x sp).set i (Txt.slice w none (some 1) ++ "0" ++ Txt.slice w (some 1) none))) ∧ JoinOk sp ((Txt.split x sp).set i (Txt.slice w none (some 1) ++ "0" ++ Txt.slice w (some 1) none)) = true := by
  obtain ⟨a, b, e1, e2⟩ := word_part hw
  have e3 := e2 (Txt.slice w none (some 1) ++ "0" ++ Txt.slice w (some 1) none)
  have ez : (PySem.Str.ofString "0").cps.toList = [48] := by decide +kernel
  have ez2 : ((1 : Int).toNat) = 1 := rfl
  have t : TX (2 * N + 1) (Txt.join sp ((Txt.split x sp).set i (Txt.slice w none (some 1) ++ "0" ++ Txt.slice w (some 1) none))) := by
    refine h.edit (a := a ++ w.cps.toList.take 1) (d := []) (b := w.cps.toList.drop 1 ++ b) (m := [48]) ?_ ?_ (by simp) (fun c hc => by simp at hc; (first | lia | omega))
    · rw [e1]
      have : w.cps.toList = w.cps.toList.take 1 ++ w.cps.toList.drop 1 := (List.take_append_drop 1 _).symm
      rw [List.append_assoc, List.nil_append, ← List.append_assoc (w.cps.toList.take 1), ← this]
    · rw [e3, str_app, str_app, sl_to1, sl_from (by decide), ez, ez2]; simp
  refine ⟨t, joinOk_of (by intro q; exact split_ne x (List.length_eq_zero_iff.mp (by have := congrArg List.length q; simpa using this))) ?_⟩
  have hl := t.l
  rw [show Txt.join sp ((Txt.split x sp).set i (Txt.slice w none (some 1) ++ "0" ++ Txt.slice w (some 1) none)) = PySem.Str.join sp ((Txt.split x sp).set i (Txt.slice w none (some 1) ++ "0" ++ Txt.slice w (some 1) none)) from StrLaws.glued_eq_join _ _] at hl
  (first | lia | omega)
def dueD (p : Path) (bad : Bool) : PyData := if bad then .none else .list (pathD p)
/-- what a line tells -/
structure DueL (y : PySem.Str) (p : Path) (bad : Bool) : Prop where
  top : y = "top" → p = [] ∧ bad = false
  due : y ≠ "top" → Due (Txt.split y sp) p bad
theorem dueL_ex (y : PySem.Str) : ∃ p bad, DueL y p bad := by
  by_cases h : y = "top"
  · exact ⟨[], false, fun _ => ⟨rfl, rfl⟩, fun q => absurd h q⟩
  · obtain ⟨p, bad, D⟩ := due_ex (Txt.split y sp)
    exact ⟨p, bad, fun q => absurd q h, fun _ => D⟩
theorem DueL.ok {y : PySem.Str} {p : Path} {bad : Bool} {N : Nat} (D : DueL y p bad) (h : TX N y) : okP none p ∧ p.length ≤ y.length + 1 := by
  by_cases q : y = "top"
  · obtain ⟨rfl, _⟩ := D.top q
    exact ⟨trivial, Nat.zero_le _⟩
  · have d := D.due q
    have := split_len h
    exact ⟨d.okp, by have := d.le; (first | lia | omega)⟩
/-- a raise goes on as X -/
structure RaiseOK (M : Model) (A : Around) (env : Env) (g : Heap) (L : Addr) (x : PySem.Str) (X : Value → Heap → Prop) : Prop where
  go : ∀ (Ws : List Addr) (h : Heap) (ρ : Locs) (μ : Mut) (rest : List Stmt) (P : Flow → Heap → Prop) (np cpos pos : Pos) (e : Expr) (d : PyData), St g L h ρ μ → Ev M A env h e (Rd d) X → pl e = true →
    Run M A env Ws (.Raise (some (.Call (.Name x np) [e] [] cpos)) none pos :: rest) h P X
section
variable {c : Cx} {n : Nat} {f : PySem.Str} {R : Heap → Value → Heap → Prop} {dn : PySem.Str} {dp : Arguments} {db : List Stmt} {dsc : Scope} {dps : Pos} {x1 : PySem.Str} {d1 : PyData}
/-- a def that hands back something, or raises: walked once -/
theorem fnlr1 {x : PySem.Str} (bad : Bool) (hd : (⟨dn, dp, db, dsc, dps⟩ : DefRec) ∈ recsOf c.p ∧ dn = f) (hR : ∀ h0 h1 v h', Keep h0 h1 → R h1 v h' → R h0 v h')
    (hb : ∀ pm cd doc (v1 : Value), bindArgs (docDef dn dp db dsc pm cd doc) ⟨[v1], []⟩ = pure [(x1, v1)])
    (k : ∀ (A : Around) (X : Value → Heap → Prop) (g h : Heap) (L fa : Addr) (cd : Value), c.T g → Rm A n → (bad = true → RaiseOK c.M A (envOf dn dsc L fa cd) g L x X) → St g L h [(x1, d1)] none →
      Run c.M A (envOf dn dsc L fa cd) [] db h (fun fl h' => bad = false ∧ R g (retv fl) h') X)
    (hx : ∀ L fa cd, (envOf dn dsc L fa cd).kindOf x = some .globalImplicit := by intros; rfl) (hdx : (x == ("__debug__" : PySem.Str)) = false := by decide)
    (hnd : [x1].Nodup := by decide +kernel) (hloc : ∀ x ∈ [x1], dsc.names.lookup x = some .local := by decide +kernel)
    (hco : dsc.isCoroutine = false := by rfl) (hgen : dsc.isGenerator = false := by rfl) (hk : dsc.kind = .function := by rfl) (hcell : ∀ x ∈ dsc.names, x.2 ≠ .cell := by decide +kernel) :
    (bad = false → Fn c (n + 1) f [d1] R) ∧ (bad = true → ∀ (K : Frag) (C : Addr), EC K x C → FnR c K (n + 1) f [d1] C) := by
  refine ⟨fun b0 => fn1 hd hR hb (fun A g h L fa cd T rm S => ?_) hnd hloc hco hgen hk hcell, fun b1 K C OC => fnr1 hd hb (fun A base outer g h L fa cd PT rm S => ?_) hnd hloc hco hgen hk hcell⟩
  · exact run_mono (k A NoX g h L fa cd T rm (fun q => by rw [b0] at q; cases q) S) fun _ _ p => p.2
  · refine run_mono (k _ (Xb base outer (envOf dn dsc L fa cd) g L C) g h L fa cd PT.t rm (fun _ => ⟨fun Ws h ρ μ rest P np cpos pos e d S ev he => ?_⟩) S) fun _ _ p => by rw [b1] at p; cases p.1
    exact run_raise S PT.t PT.k OC rm.hd ev hk (hx L fa cd) hdx he
end
end Mine

namespace Mine
open PySem PySem.Spec PySem.Calls PyProof.Rows PySem.W
/-- the objects that stand at some places -/
def fragAt (as : List Addr) (h : Heap) : Frag := as.filterMap fun a => (h.get? a).map fun o => (a, o)
theorem fragAt_in {as : List Addr} {h : Heap} : (fragAt as h).In h := by
  intro a o e
  unfold fragAt at e
  induction as with
  | nil => cases e
  | cons b r ih =>
    rw [List.filterMap_cons] at e
    cases hb : h.get? b with
    | none => rw [hb] at e; exact ih e
    | some o' =>
      rw [hb] at e
      have e2 : List.lookup a ((b, o') :: r.filterMap fun a => (h.get? a).map fun o => (a, o)) = some o := e
      rw [List.lookup_cons] at e2
      cases q : a == b with
      | true => rw [q] at e2; cases e2; rw [eq_of_beq q]; exact hb
      | false => rw [q] at e2; exact ih e2
/-- what is asked of the text's exception classes -/
def obsRow (K : Frag) (c : Str × Addr) := (nsIn K mainGlobals c.1, findIn K (.ref c.2) "__getattribute__", findIn K (.ref c.2) "__getattr__", findIn K (.ref c.2) "__class__", mroIn K c.2 (.type "object"), (clsIn K c.2).isSome, typeIn K (.ref c.2), mroIn K c.2 (.type "BaseException"), mroIn K c.2 (.type "ValueError"), excIn K c.2 bmV "ValueError.__new__")
def rowOf (c : Str × Addr) : Option (Option Value) × Option (Option Value) × Option (Option Value) × Option (Option Value) × Option Bool × Bool × Option Value × Option Bool × Option Bool × Bool := (some (some (.ref c.2)), some (some (.builtin "BaseException.__getattribute__")), some none, some (some (.builtin "object.__class__")), some true, true, some (.type "type"), some true, some true, true)
def obsAll (cs : List (Str × Addr)) (K : Frag) := (cs.map (obsRow K), cs.map (fun c => cs.map fun d => mroIn K c.2 (.ref d.2)), specialIn K (.builtin "object.__class__") "__get__", takesIn K (.builtin "object.__class__"))
def expAll (cs : List (Str × Addr)) (F : Addr) : List (Option (Option Value) × Option (Option Value) × Option (Option Value) × Option (Option Value) × Option Bool × Bool × Option Value × Option Bool × Option Bool × Bool) × List (List (Option Bool)) × Option (Option Value) × Option Bool :=
  (cs.map rowOf, cs.map (fun c => cs.map fun d => some (c.2 == d.2 || d.2 == F)), some (some (.builtin "getset_descriptor.__get__")), some true)
structure Cl (cs : List (Str × Addr)) (F : Addr) (K : Frag) : Prop where
  ec : ∀ c ∈ cs, EC K c.1 c.2
  mro : ∀ c ∈ cs, ∀ d ∈ cs, mroIn K c.2 (.ref d.2) = some (c.2 == d.2 || d.2 == F)
theorem cl_of {cs : List (Str × Addr)} {F : Addr} {K : Frag} (e : obsAll cs K = expAll cs F) : Cl cs F K := by
  obtain ⟨e1, e2, e3, e4⟩ : cs.map (obsRow K) = cs.map rowOf ∧ cs.map (fun c => cs.map fun d => mroIn K c.2 (.ref d.2)) = cs.map (fun c => cs.map fun d => some (c.2 == d.2 || d.2 == F)) ∧ specialIn K (.builtin "object.__class__") "__get__" = some (some (.builtin "getset_descriptor.__get__")) ∧ takesIn K (.builtin "object.__class__") = some true := by
    simpa only [obsAll, expAll, Prod.mk.injEq] using e
  refine ⟨fun c hc => ?_, fun c hc d hd => List.map_inj_left.mp (List.map_inj_left.mp e2 c hc) d hd⟩
  have r := List.map_inj_left.mp e1 c hc
  simp only [obsRow, rowOf, Prod.mk.injEq] at r
  obtain ⟨r1, r2, r3, r4, r5, r6, r7, r8, r9, r10⟩ := r
  exact ⟨r1, ⟨r2, r3, r4, e3, e4, r5, r8, r6⟩, r7, r8, r9, r10⟩
def ecHook (as : List Addr) (cs : List (Str × Addr)) (F : Addr) : Hook :=
  ⟨_, fun s => obsAll cs (fragAt as s.heap), fun _ => expAll cs F, fun _ h => ∃ K : Frag, K.In h ∧ Cl cs F K, fun _ _ e => ⟨_, fragAt_in, cl_of e⟩, fun _ _ _ ⟨K, i, c⟩ k => ⟨K, i.keeps k, c⟩⟩
theorem Cl.eu {cs : List (Str × Addr)} {F : Addr} {K : Frag} (C : Cl cs F K) {x y : Str} {a : Addr} (hc : (x, a) ∈ cs) (hf : (y, F) ∈ cs) : EU K x a F :=
  ⟨C.ec _ hc, by have := C.mro _ hc _ hf; simpa using this, by have := C.mro _ hc _ hc; simpa using this⟩
theorem Cl.ei {cs : List (Str × Addr)} {F : Addr} {K : Frag} (C : Cl cs F K) {x y : Str} {a b : Addr} (t : Bool) (hc : (x, a) ∈ cs) (hd : (y, b) ∈ cs) (ht : (a == b || b == F) = t) : EI K a y t :=
  ⟨b, C.ec _ hd, by rw [← ht]; exact C.mro _ hc _ hd, fun q => by rw [← ht, q]; simp⟩
end Mine

namespace Mine
open PySem PySem.Spec PySem.Calls PyProof.Rows PySem.W
/-- the looks at the top's end, one by one -/
theorem looks_of {q : Program} {loose mods : List Str} {Xt : Shared → Bool} {s : Shared} {A : Bool} {α : Type} {y y' : α} (h0 : A = true)
    (h1 : seen ((recsOf q).map (·.name)) (ownsOf q) [] { s with gens := #[] } = expectedOf q) (h2 : s.heap.bltView = bltViewBooted)
    (h3 : (s.heap.keysOk (looseW q loose) ((recsOf q).map (·.name)) ((litsOf q).map (·.1)) ((clssOf q (looseW q loose)).map (·.name)) && s.heap.accountedOkI mods && s.heap.isNs mainGlobals && s.heap.isNs builtinsNs && tablesOk q s.heap && Xt s && (if true = true then s.gens.size == 0 else !leftWithCleanup s.gens)) = true)
    (h4 : tabsOk q s = true) (h5 : pinSeenD q (drecsOf q) s = pinGoodD (drecsOf q)) (h6 : plainSeenE q (looseW q loose) s = plainGoodE q (looseW q loose)) (h7 : plainSeenD q loose s = plainGoodD q loose) (h8 : wideSeen q s = wideGood q) (h9 : clsSeenW q loose s = clsGoodW q loose) (hy : y = y') :
    (A, openSeen q loose mods Xt true s, y) = (true, openGood q loose, y') := by
  unfold openSeen openGood
  rw [h0, h1, h2, h3, h4, h5, h6, h7, h8, h9, hy]
end Mine

set_option maxHeartbeats 400000
namespace Mine
open PySem PySem.Spec PySem.Calls PyProof.Rows PySem.W PySem.Challenge
/-- the script's cell, and a draw -/
def cell (ns : List Int) (k : Int) : Int := ns.getD k.toNat 0
def wayF (ns : List Int) (k : Int) (m : Int) : Int := (cell ns k * 48271 + 7919 * (ns.length : Int)) % 2147483647 % m
theorem wayF_lo {ns : List Int} {k : Int} {m : Int} (h : 0 < m) : 0 ≤ wayF ns k m := Int.emod_nonneg _ (by (first | lia | omega))
theorem wayF_hi {ns : List Int} {k : Int} {m : Int} (h : 0 < m) : wayF ns k m < m := Int.emod_lt_of_pos _ h
abbrev scr (ns : List Int) : PyData := .list (ns.map PyData.int)
def isInt : PyData → Bool
  | .int _ => true
  | _ => false
local macro_rules | `(tactic| walk_at "sz") => `(tactic| first | with_reducible assumption | assumption | exact sz_lit (by decide) | exact Sz.mul (by walk_at "sz") (by walk_at "sz") | exact Sz.add (by walk_at "sz") (by walk_at "sz") | exact Sz.sub (by walk_at "sz") (by walk_at "sz") | exact Sz.abs (by walk_at "sz") | exact Sz.neg (by walk_at "sz"))
local macro_rules | `(tactic| walk_at "mul") => `(tactic| first | exact IntMulOk.of_left (by decide) | exact IntMulOk.of_right (by decide) | exact mul_ok (by walk_at "sz") (by walk_at "sz"))
local macro_rules | `(tactic| walk_at "pos") => `(tactic| first | assumption | decide | (first | lia | omega))
local macro_rules | `(tactic| walk_at "small") => `(tactic| first | decide | exact div_ok (by walk_at "sz") | (first | lia | omega))
local macro_rules | `(tactic| walk_at "shaped") => `(tactic| first | rfl | decide | decide +kernel)
local macro_rules | `(tactic| walk_at "len") => `(tactic| first | decide | (simp only [List.length_cons, List.length_nil]; decide) | (simp; (first | lia | omega)) | (first | lia | omega))

section
variable {c : Cx} (hc : recsOf c.p = recsOf pw_uf050018_07) (B : Bn c)
include hc

theorem f_cell (B : Bn c) {ns : List Int} {k : Int} (h0 : 0 ≤ k) (h1 : k < 2 ^ 60) (hn : ns.length ≤ 63) : FnD c 1 "_law_cell_at" [scr ns, .int k] (.int (cell ns k)) := by
  have hdef := def_at (f := "_law_cell_at") hc 15 rfl rfl rfl (by kernel_rfl)
  refine fn2 (x1 := "_law_script") (x2 := "_law_k") hdef rf_old (by intros; rfl) (fun A g h L fa cd T rm S => ?_)
  have hl : (ns.map PyData.int).length < 2 ^ 62 := by simp; (first | lia | omega)
  refine run_if S (tr_icmp (ev_var S rfl) (ev_lenl S T B (ev_var S rfl) hl) rfl) (fun e h S => ?_) (fun e h S => ?_)
  · have e' : k < ns.length := by simpa using e
    have hx : (ns.map PyData.int)[k.toNat]? = some (.int (cell ns k)) := by
      have : k.toNat < ns.length := by (first | lia | omega)
      simp [cell, this]
    exact run_ret (ev_lidx (ev_var S rfl) (ev_var S rfl) hx h0 (by (first | lia | omega))) fun v h' _ r => Rf.of_flat rfl r
  · have e' : ¬ k < ns.length := by simpa using e
    have hx : cell ns k = 0 := by
      have : ns.length ≤ k.toNat := by (first | lia | omega)
      simp [cell, List.getElem?_eq_none this]
    rw [hx]
    exact run_nil (run_ret ev_int fun v h' _ r => Rf.of_flat rfl r)

theorem f_way (B : Bn c) {ns : List Int} {k m : Int} (h0 : 0 ≤ k) (h1 : k < 2 ^ 60) (hn : ns.length ≤ 63) (hm : 0 < m) : FnD c 2 "_law_way" [scr ns, .int k, .int m] (.int (wayF ns k m)) := by
  have hdef := def_at (f := "_law_way") hc 16 rfl rfl rfl (by kernel_rfl)
  refine fn3 (x1 := "_law_script") (x2 := "_law_k") (x3 := "_law_many") hdef rf_old (by intros; rfl) (fun A g h L fa cd T rm S => ?_)
  have hl : (ns.map PyData.int).length < 2 ^ 62 := by simp; (first | lia | omega)
  have e : wayF ns k m = (cell ns k * 48271 + 7919 * ((ns.map PyData.int).length : Int)) % 2147483647 % m := by simp [wayF]
  rw [e]
  exact run_ret (ev_mod (ev_mod (ev_add (ev_mul (ev_calld S T rm (f_cell hc B h0 h1 hn) (evl_cons (ev_var S rfl) (evl_cons (ev_var S rfl) evl_nil))) ev_int (by walk_at "mul")) (ev_mul ev_int (ev_lenl S T B (ev_var S rfl) hl) (by walk_at "mul"))) ev_int (by decide)) (ev_var S rfl) hm) fun v h' _ r => Rf.of_flat rfl r

theorem f_whole (B : Bn c) {d : PyData} : FnD c 1 "_law_whole" [d] (.bool (isInt d)) := by
  have hdef := def_at (f := "_law_whole") hc 17 rfl rfl rfl (by kernel_rfl)
  refine fn1 (x1 := "_law_found") hdef rf_old (by intros; rfl) (fun A g h L fa cd T rm S => ?_)
  have e : isInt d = (isiB d "int" && !isiB d "bool") := by cases d <;> rfl
  rw [e]
  exact run_ret (ev_bop (bo_and (ev_isi S T B (ev_var S rfl)) fun _ => (bo_last (ev_not (ev_isi S T B (ev_var S rfl)))))) fun v h' _ r => Rf.of_flat rfl r

/-- the runs that a script draws -/
def mvF (ns : List Int) (k M : Int) : Int := if 9 + k < ns.length then 1 + cell ns (9 + k) % M else 1 + (cell ns 1 * 48271 + k * 7919) % 2147483647 % M
def pathF (ns : List Int) (n : Nat) (M : Int) : Path := (List.range n).map fun (i : Nat) => (decide ((cell ns 1 + (i : Int)) % 2 = 1), mvF ns (i : Int) M)
omit hc in
theorem pathF_snoc (ns : List Int) (n : Nat) (M : Int) : pathF ns (n + 1) M = pathF ns n M ++ [(decide ((cell ns 1 + n) % 2 = 1), mvF ns n M)] := by
  simp [pathF, List.range_succ]
omit hc in
theorem pathF_len (ns : List Int) (n : Nat) (M : Int) : (pathF ns n M).length = n := by simp [pathF]
omit hc in
theorem mvF_ok {ns : List Int} {k M : Int} (h : 0 < M) : 1 ≤ mvF ns k M ∧ mvF ns k M ≤ M := by
  unfold mvF
  split
  · have := Int.emod_nonneg (cell ns (9 + k)) (b := M) (by (first | lia | omega))
    have := Int.emod_lt_of_pos (cell ns (9 + k)) h
    (first | lia | omega)
  · have := Int.emod_nonneg ((cell ns 1 * 48271 + k * 7919) % 2147483647) (b := M) (by (first | lia | omega))
    have := Int.emod_lt_of_pos ((cell ns 1 * 48271 + k * 7919) % 2147483647) h
    (first | lia | omega)
omit hc in
theorem pathF_ok {ns : List Int} {M : Int} (h : 0 < M) : ∀ n : Nat, altP (decide (cell ns 1 % 2 = 1)) (pathF ns n M) ∧ leP M (pathF ns n M)
  | 0 => ⟨trivial, fun _ h => nomatch h⟩
  | n + 1 => by
    obtain ⟨a, b⟩ := pathF_ok h n
    obtain ⟨m1, m2⟩ := mvF_ok (ns := ns) (k := n) h
    rw [pathF_snoc]
    refine ⟨a.snoc m1 ?_, b.snoc m2⟩
    rw [pathF_len]
    have e1 : cell ns 1 % 2 = 0 ∨ cell ns 1 % 2 = 1 := by (first | lia | omega)
    have e2 : n % 2 = 0 ∨ n % 2 = 1 := by (first | lia | omega)
    rcases e1 with q | q <;> rcases e2 with r | r
    · have : ¬ (cell ns 1 + n) % 2 = 1 := by (first | lia | omega)
      simp [q, r, this]
    · have : (cell ns 1 + n) % 2 = 1 := by (first | lia | omega)
      simp [q, r, this]
    · have : (cell ns 1 + n) % 2 = 1 := by (first | lia | omega)
      simp [q, r, this]
    · have : ¬ (cell ns 1 + n) % 2 = 1 := by (first | lia | omega)
      simp [q, r, this]

theorem f_many_by (B : Bn c) {ns : List Int} {k M : Int} (hn : ns.length ≤ 63) (h0 : 0 ≤ k) (h1 : k < 1000) (hM : 0 < M) : FnD c 2 "_law_many_by" [scr ns, .int k, .int M] (.int (mvF ns k M)) := by
  have hl : (ns.map PyData.int).length < 2 ^ 62 := by simp; (first | lia | omega)
  have hdef := def_at (f := "_law_many_by") hc 19 rfl rfl rfl (by kernel_rfl)
  refine fn3 (x1 := "_law_script") (x2 := "_law_k") (x3 := "_law_most") hdef rf_old (by intros; rfl) (fun A g h L fa cd T rm S => ?_)
  refine run_if S (tr_icmp (ev_add ev_int (ev_var S rfl)) (ev_lenl S T B (ev_var S rfl) hl) rfl) (fun e h S => ?_) (fun e h S => run_nil ?_)
  · have e' : 9 + k < ns.length := by simpa using e
    have hx : (ns.map PyData.int)[(9 + k).toNat]? = some (.int (cell ns (9 + k))) := by
      have : (9 + k).toNat < ns.length := by (first | lia | omega)
      simp [cell, this]
    have ev : mvF ns k M = 1 + cell ns (9 + k) % M := if_pos e'
    rw [ev]
    exact run_ret (ev_add ev_int (ev_mod (ev_lidx (ev_var S rfl) (ev_add ev_int (ev_var S rfl)) hx (by (first | lia | omega)) (by (first | lia | omega))) (ev_var S rfl) hM)) fun v h' _ r => Rf.of_flat rfl r
  · have e' : ¬ 9 + k < ns.length := by simpa using e
    have ev : mvF ns k M = 1 + (cell ns 1 * 48271 + k * 7919) % 2147483647 % M := if_neg e'
    rw [ev]
    exact run_ret (ev_add ev_int (ev_mod (ev_mod (ev_add (ev_mul (ev_calld S T rm (f_cell hc B (by decide) (by decide) hn) (evl_cons (ev_var S rfl) (evl_cons ev_int evl_nil))) ev_int (by walk_at "mul")) (ev_mul (ev_var S rfl) ev_int (by walk_at "mul"))) ev_int (by decide)) (ev_var S rfl) hM)) fun v h' _ r => Rf.of_flat rfl r


theorem f_path_by (B : Bn c) {ns : List Int} (hn : ns.length ≤ 63) : ∃ (p : Path) (b : Bool), FnL c 3 "_law_path_by" [scr ns] (pathD p) ∧ altP b p ∧ leP (10 ^ 60) p ∧ p.length ≤ 299 := by
  have a0 := wayF_lo (ns := ns) (k := 0) (m := 9) (by decide)
  have a1 := wayF_hi (ns := ns) (k := 0) (m := 9) (by decide)
  have a2 := wayF_lo (ns := ns) (k := 1) (m := 300) (by decide)
  have a3 := wayF_hi (ns := ns) (k := 1) (m := 300) (by decide)
  have a4 := wayF_lo (ns := ns) (k := 4) (m := 16) (by decide)
  have a5 := wayF_hi (ns := ns) (k := 4) (m := 16) (by decide)
  have a6 := wayF_lo (ns := ns) (k := 3) (m := 100003) (by decide)
  obtain ⟨cnt, hcnt, c0, c1⟩ : ∃ cnt : Int, cnt = (if wayF ns 0 36 / 9 = 1 then wayF ns 1 300 else wayF ns 0 9) ∧ 0 ≤ cnt ∧ cnt ≤ 299 := ⟨_, rfl, by split <;> (first | lia | omega), by split <;> (first | lia | omega)⟩
  have key : ∃ M : Int, ([PyData.int 9, .int (10 ^ (6 : Int).toNat)] : List PyData)[(wayF ns 4 16 / 8).toNat]? = some (.int M) ∧ 0 < M ∧ M ≤ 10 ^ 6 := by
    have : wayF ns 4 16 / 8 = 0 ∨ wayF ns 4 16 / 8 = 1 := by (first | lia | omega)
    rcases this with e | e <;> rw [e]
    · exact ⟨9, rfl, by decide, by decide⟩
    · exact ⟨10 ^ 6, rfl, by decide, by decide⟩
  obtain ⟨M, hM, hM0, hM1⟩ := key
  obtain ⟨al, lm⟩ := pathF_ok (ns := ns) hM0 cnt.toNat
  have hlen := pathF_len ns cnt.toNat M
  have le : leP (10 ^ 60) (pathF ns cnt.toNat M) := fun s hs => by have := lm s hs; (first | lia | omega)
  have p58 : (0 : Int) < 10 ^ (58 : Int).toNat := by decide +kernel
  have d1 := Int.emod_nonneg (cell ns 3) (b := 10 ^ (58 : Int).toNat) (by (first | lia | omega))
  have d2 := Int.emod_lt_of_pos (cell ns 3) p58
  have d3 : (10 : Int) ^ (58 : Int).toNat = 10 ^ 58 := rfl
  have go : ∀ (res : Path), (0 < cnt → wayF ns 2 3 = 1 → ∃ s, (pathF ns cnt.toNat M)[(wayF ns 3 100003 % cnt).toNat]? = some s ∧ res = (pathF ns cnt.toNat M).set (wayF ns 3 100003 % cnt).toNat (s.1, 1 + cell ns 3 % 10 ^ (58 : Int).toNat)) → (¬ (0 < cnt ∧ wayF ns 2 3 = 1) → res = pathF ns cnt.toNat M) → FnL c 3 "_law_path_by" [scr ns] (pathD res) := by
    intro res hyes hno
    have hdef := (def_at (f := "_law_path_by") hc 20 rfl rfl rfl (by kernel_rfl))
    refine fn1 (x1 := "_law_script") hdef rl_old (by intros; rfl) (fun A g h L fa cd T rm S => ?_)
    refine run_set S (ev_calld S T rm (f_way hc B (by decide) (by decide) hn (by decide)) (evl_cons (ev_var S rfl) (evl_cons ev_int (evl_cons ev_int evl_nil)))) fun h S => ?_
    refine run_ifJ (fun h => St g L h [("_law_script", scr ns), ("_law_count", .int cnt)] none) S (tr_icmp (ev_div (ev_calld S T rm (f_way hc B (by decide) (by decide) hn (by decide)) (evl_cons (ev_var S rfl) (evl_cons ev_int (evl_cons ev_int evl_nil)))) ev_int (by walk_at "pos") (by walk_at "small")) ev_int rfl) (fun e h S => ?_) (fun e h S => ?_) ?_
    · rw [hcnt, if_pos (by simpa using e)]
      exact run_set S (ev_calld S T rm (f_way hc B (by decide) (by decide) hn (by decide)) (evl_cons (ev_var S rfl) (evl_cons ev_int (evl_cons ev_int evl_nil)))) fun h S => run_nil ⟨rfl, S.pick ⟨rfl, rfl, trivial⟩⟩
    · rw [hcnt, if_neg (by simpa using e)]
      exact S.pick ⟨rfl, rfl, trivial⟩
    intro h S
    refine run_set S (ev_lidx ((ev_list (evl_cons ev_int (evl_cons (ev_pow ev_int ev_int (by decide) (by decide) (by decide)) evl_nil))).mono fun _ _ _ r => r.rd) (ev_div (ev_calld S T rm (f_way hc B (by decide) (by decide) hn (by decide)) (evl_cons (ev_var S rfl) (evl_cons ev_int (evl_cons ev_int evl_nil)))) ev_int (by walk_at "pos") (by walk_at "small")) hM (by (first | lia | omega)) (by (first | lia | omega))) fun h S => ?_
    refine run_own S (ev_list evl_nil) fun l h S => ?_
    refine run_cut (fun h => St g L h [("_law_script", scr ns), ("_law_count", .int cnt)] (some ("_law_path", l, pathD (pathF ns cnt.toNat M)))) ?_ ?_
    · refine run_for (fun i ρ μ => i ≤ cnt.toNat ∧ μ = (some ("_law_path", l, pathD (pathF ns i M)) : Mut) ∧ ρ = ([("_law_script", scr ns), ("_law_count", .int cnt), ("_law_most", .int M)] : Locs)) (S.pick (ρ' := [("_law_script", scr ns), ("_law_count", .int cnt), ("_law_most", .int M)]) ⟨rfl, rfl, rfl, trivial⟩) (iter_range1 S T B rm.hd (ev_var S rfl) (by (first | lia | omega)) (w_hold S wok_one)) ⟨by (first | lia | omega), rfl, rfl⟩ (w_hold S wok_one) ?_ ?_ ?_ ?_
      · rintro i d ρ μ h hd ⟨_, rfl, rfl⟩ S
        rw [rangeD_at] at hd
        split at hd
        case isFalse => cases hd
        rename_i hi
        cases hd
        have ez : (0 + (i : Int)) = (i : Int) := by (first | lia | omega)
        rw [ez] at S
        have hw : ([PyData.str "left", .str "right"] : List PyData)[((cell ns 1 + i) % 2).toNat]? = some (.str (wd (decide ((cell ns 1 + i) % 2 = 1)))) := by
          have : (cell ns 1 + i) % 2 = 0 ∨ (cell ns 1 + i) % 2 = 1 := by (first | lia | omega)
          rcases this with e | e <;> rw [e] <;> rfl
        refine run_set S (ev_lidx ((ev_list (evl_cons ev_str (evl_cons ev_str evl_nil))).mono fun _ _ _ r => r.rd) (ev_mod (ev_add (ev_calld S T rm (f_cell hc B (by decide) (by decide) hn) (evl_cons (ev_var S rfl) (evl_cons ev_int evl_nil))) (ev_var S rfl)) ev_int (by walk_at "pos")) hw (by (first | lia | omega)) (by (first | lia | omega))) fun h S => ?_
        refine run_append S (ev_tup (evl_cons (ev_var S rfl) (evl_cons (ev_calld S T rm (f_many_by hc B hn (by (first | lia | omega)) (by (first | lia | omega)) hM0) (evl_cons (ev_var S rfl) (evl_cons (ev_var S rfl) (evl_cons (ev_var S rfl) evl_nil)))) evl_nil))) rfl (.head _) (by rw [pathD_len, pathF_len]; (first | lia | omega)) fun h S => run_nil ⟨_, _, ⟨by (first | lia | omega), ?_, rfl⟩, S.pick ⟨rfl, rfl, rfl, trivial⟩⟩
        rw [pathF_snoc, pathD_snoc]; rfl
      · rintro ρ μ h ⟨_, rfl, rfl⟩ S
        rw [rangeD_len] at S
        exact run_nil ⟨rfl, S.pick ⟨rfl, rfl, trivial⟩⟩
      · exact rangeD_flat _ _
      · rintro i ρ μ ⟨_, rfl, rfl⟩ q' e
        cases e
        dsimp only
        decide
    intro h S
    by_cases hs : 0 < cnt ∧ wayF ns 2 3 = 1
    · obtain ⟨s, hs1, rfl⟩ := hyes hs.1 hs.2
      have g1 := Int.emod_nonneg (wayF ns 3 100003) (b := cnt) (by (first | lia | omega))
      have g2 := Int.emod_lt_of_pos (wayF ns 3 100003) hs.1
      refine run_if S (tr_bool (all_and (tr_icmp (ev_var S rfl) ev_int rfl) fun _ => (all_and (tr_icmp (ev_calld S T rm (f_way hc B (by decide) (by decide) hn (by decide)) (evl_cons (ev_var S rfl) (evl_cons ev_int (evl_cons ev_int evl_nil)))) ev_int rfl) fun _ => all_and_nil))) (fun e h S => ?_) (fun e h S => by simp [hs.1, hs.2] at e)
      refine run_set S (ev_mod (ev_calld S T rm (f_way hc B (by decide) (by decide) hn (by decide)) (evl_cons (ev_var S rfl) (evl_cons ev_int (evl_cons ev_int evl_nil)))) (ev_var S rfl) hs.1) fun h S => ?_
      generalize wayF ns 3 100003 % cnt = at_ at *
      have hx : (pathD (pathF ns cnt.toNat M))[at_.toNat]? = some (runD s) := by simp [pathD, hs1]
      refine run_setitem S (ev_tup (evl_cons (ev_tidx (ds := [.str (wd s.1), .int s.2]) (ev_lidx (ev_mut S) (ev_var S rfl) hx g1 (by (first | lia | omega))) ev_int) (evl_cons (ev_add ev_int (ev_mod (ev_calld S T rm (f_cell hc B (by decide) (by decide) hn) (evl_cons (ev_var S rfl) (evl_cons ev_int evl_nil))) (ev_pow ev_int ev_int (by decide) (by decide) (by decide)) p58)) evl_nil))) (ev_var S rfl) rfl (.head _) g1 (by rw [pathD_len, pathF_len]; (first | lia | omega)) (by (first | lia | omega)) fun h S => run_nil ?_
      have eset : pathD ((pathF ns cnt.toNat M).set at_.toNat (s.1, 1 + cell ns 3 % 10 ^ (58 : Int).toNat)) = (pathD (pathF ns cnt.toNat M)).set at_.toNat (.tuple [.str (wd s.1), .int (1 + cell ns 3 % 10 ^ (58 : Int).toNat)]) := by
        unfold pathD; rw [List.map_set]; rfl
      rw [eset]
      exact run_ret (ev_own S) fun v h' _ r => r
    · rw [hno hs]
      refine run_if S (tr_bool (all_and (tr_icmp (ev_var S rfl) ev_int rfl) fun _ => (all_and (tr_icmp (ev_calld S T rm (f_way hc B (by decide) (by decide) hn (by decide)) (evl_cons (ev_var S rfl) (evl_cons ev_int (evl_cons ev_int evl_nil)))) ev_int rfl) fun _ => all_and_nil))) (fun e h S => ?_) (fun e h S => run_nil ?_)
      · exfalso
        simp at e
        exact hs e
      exact run_ret (ev_own S) fun v h' _ r => r
  by_cases hs : 0 < cnt ∧ wayF ns 2 3 = 1
  · have g1 := Int.emod_nonneg (wayF ns 3 100003) (b := cnt) (by (first | lia | omega))
    have g2 := Int.emod_lt_of_pos (wayF ns 3 100003) hs.1
    have hlt : (wayF ns 3 100003 % cnt).toNat < (pathF ns cnt.toNat M).length := by rw [hlen]; (first | lia | omega)
    have hget : (pathF ns cnt.toNat M)[(wayF ns 3 100003 % cnt).toNat]? = some (pathF ns cnt.toNat M)[(wayF ns 3 100003 % cnt).toNat] := List.getElem?_eq_getElem hlt
    refine ⟨_, _, go _ (fun _ _ => ⟨_, hget, rfl⟩) (fun q => absurd hs q), al.set hget (by (first | lia | omega)), le.set (by show 1 + cell ns 3 % 10 ^ (58 : Int).toNat ≤ _; (first | lia | omega)), by rw [List.length_set, hlen]; (first | lia | omega)⟩
  · exact ⟨_, _, go _ (fun q1 q2 => absurd ⟨q1, q2⟩ hs) (fun _ => rfl), al, le, by rw [hlen]; (first | lia | omega)⟩


theorem f_is_path (B : Bn c) {p : Path} (ok : okP none p) : FnD c 2 "_law_is_path" [.list (pathD p)] (.bool true) := by
  have hdef := def_at (f := "_law_is_path") hc 18 rfl rfl rfl (by kernel_rfl)
  refine fn1 (x1 := "_law_path") hdef rf_old (by intros; rfl) (fun A g h L fa cd T rm S => ?_)
  refine run_if S (tr_not (tr_val (ev_isi S T B (ev_var S rfl)))) (fun e h S => by simp [isiB] at e) (fun e h S => run_nil ?_)
  refine run_set S ev_str fun h S => ?_
  refine run_for (fun i ρ μ => ∃ (a : Option Bool), okP a (p.drop i) ∧ μ = none ∧ ρ = ([("_law_ahead", .str (aw a))] : Locs)) (S.pick (ρ' := [("_law_ahead", .str (aw none))]) ⟨rfl, trivial⟩) (iter_list rm.hd (src_var S rfl wok_nil) (w_hold S wok_nil)) ⟨none, ok, rfl, rfl⟩ (w_hold S wok_nil) ?_ ?_ ?_ ?_
  · rintro i d ρ μ h hd ⟨a, hok, rfl, rfl⟩ S
    have hd' : ∃ s, p[i]? = some s ∧ runD s = d := by
      simp only [pathD, List.getElem?_map, Option.map_eq_some_iff] at hd
      exact hd
    obtain ⟨⟨w, m⟩, hpi, rfl⟩ := hd'
    have hdr := drop_at hpi
    rw [hdr] at hok
    have hm : 1 ≤ m := hok.1
    have hne : a ≠ some w := hok.2.1
    have e3 : PyData.eqv (.str (wd w)) (.str (aw a)) = false := by
      rcases a with _ | _ | _ <;> cases w <;> first | exact absurd rfl hne | decide +kernel
    have e1 : ([PyData.str "left", .str "right"].any fun y => PyData.eqv y (.str (wd w))) = true := by cases w <;> decide +kernel
    have hsw : SeqAt.shaped (.str (wd w)) = true := by cases w <;> decide +kernel
    have hsa : SeqAt.shaped (.str (aw a)) = true := by rcases a with _ | _ | _ <;> decide +kernel
    refine run_if S (tr_bool (all_or (tr_not (tr_val (ev_isi S T B (ev_var S rfl)))) fun _ => (all_or (tr_icmp (ev_lent S T B (ev_var S rfl) (by walk_at "len")) ev_int rfl) fun _ => (all_or (tr_not (tr_val (ev_isi S T B (ev_tidx (ev_var S rfl) ev_int)))) fun _ => (all_or (tr_not (tr_val (ev_calld S T rm (f_whole hc B) (evl_cons (ev_tidx (ev_var S rfl) ev_int) evl_nil)))) fun _ => all_or_nil))))) (fun e h S => by simp [isiB, isInt, runD] at e) (fun e h S => run_nil ?_)
    refine run_if S (tr_bool (all_or (tr_notin rm (ev_tidx (ds := [.str (wd w), .int m]) (ev_var S rfl) ev_int) (ev_tup (evl_cons ev_str (evl_cons ev_str evl_nil))) (by decide +kernel) hsw) fun _ => (all_or (tr_eq rm (ev_tidx (ds := [.str (wd w), .int m]) (ev_var S rfl) ev_int) (ev_var S rfl) hsw hsa) fun _ => (all_or (tr_icmp (ev_tidx (ev_var S rfl) ev_int) ev_int rfl) fun _ => all_or_nil)))) (fun e h S => ?_) (fun e h S => run_nil ?_)
    · rw [e1, e3] at e; simp at e; (first | lia | omega)
    exact run_set S (ev_tidx (ds := [.str (wd w), .int m]) (ev_var S rfl) ev_int) fun h S => run_nil ⟨_, _, ⟨some w, hok.2.2, rfl, rfl⟩, S.pick ⟨rfl, trivial⟩⟩
  · rintro ρ μ h ⟨a, hok, rfl, rfl⟩ S
    exact run_ret ev_bool fun v h' _ r => Rf.of_flat rfl r
  · intro d hd
    obtain ⟨s, _, rfl⟩ := List.mem_map.mp hd
    rfl
  · rintro i ρ μ ⟨a, hok, rfl, rfl⟩ q' e
    cases e


theorem f_line_of (B : Bn c) {p : Path} {b : Bool} (al : altP b p) (le : leP (10 ^ 60) p) (hl : p.length ≤ 300) : FnD c 1 "_law_line_of" [.list (pathD p)] (.str (lineS p)) := by
  have hp0 : ∀ s ∈ p, 0 ≤ s.2 := fun s hs => by have := al.pos s hs; (first | lia | omega)
  obtain ⟨hok, _⟩ := joinOk_runs hp0 le hl
  have hdef := def_at (f := "_law_line_of") hc 21 rfl rfl rfl (by kernel_rfl)
  refine fn1 (x1 := "_law_path") hdef rf_old (by intros; rfl) (fun A g h L fa cd T rm S => ?_)
  refine run_own S (ev_list evl_nil) fun l h S => ?_
  refine run_for (fun i ρ μ => μ = (some ("_law_words", l, ((p.take i).map runS).map PyData.str) : Mut) ∧ ρ = ([] : Locs)) (S.pick (ρ' := []) trivial) (iter_list rm.hd (src_var S rfl wok_one) (w_hold S wok_one)) ⟨rfl, rfl⟩ (w_hold S wok_one) ?_ ?_ ?_ ?_
  · rintro i d ρ μ h hd ⟨rfl, rfl⟩ S
    have hd' : ∃ s, p[i]? = some s ∧ runD s = d := by
      simp only [pathD, List.getElem?_map, Option.map_eq_some_iff] at hd
      exact hd
    obtain ⟨⟨w, m⟩, hpi, rfl⟩ := hd'
    have hmem := List.mem_of_getElem? hpi
    have hm0 : 0 ≤ m := hp0 _ hmem
    have hm1 : m ≤ 10 ^ 60 := le _ hmem
    have htl := tS_len (m := m) (k := 60) hm0 (by (first | lia | omega))
    have htk : p.take (i + 1) = p.take i ++ [(w, m)] := by rw [List.take_add_one, hpi]; rfl
    have hsz : (((p.take i).map runS).map PyData.str).length ≤ 2 ^ 20 := by simp; (first | lia | omega)
    have hfit : ("L" : Str).length + (tS m).length ≤ sizeLine := by have e : sizeLine = 2 ^ 24 := rfl; have q : ("L" : Str).length = 1 := (by decide +kernel); (first | lia | omega)
    have hfit2 : ("R" : Str).length + (tS m).length ≤ sizeLine := by have e : sizeLine = 2 ^ 24 := rfl; have q : ("R" : Str).length = 1 := (by decide +kernel); (first | lia | omega)
    cases w
    · refine run_if S (tr_eq rm (ev_tidx (ds := [.str (wd false), .int m]) (ev_var S rfl) ev_int) ev_str (by decide +kernel) (by decide +kernel)) (fun e h S => ?_) (fun e h S => by exact absurd e (by decide +kernel))
      refine run_append S (ev_adds ev_str (ev_str1 S T B (ev_tidx (ev_var S rfl) ev_int) (log_ok hm0 hm1)) hfit) rfl (.head _) hsz fun h S => run_nil (run_nil ⟨_, _, ⟨?_, rfl⟩, S.pick trivial⟩)
      rw [words_snoc hpi]; rfl
    · refine run_if S (tr_eq rm (ev_tidx (ds := [.str (wd true), .int m]) (ev_var S rfl) ev_int) ev_str (by decide +kernel) (by decide +kernel)) (fun e h S => by exact absurd e (by decide +kernel)) (fun e h S => ?_)
      refine run_append S (ev_adds ev_str (ev_str1 S T B (ev_tidx (ev_var S rfl) ev_int) (log_ok hm0 hm1)) hfit2) rfl (.head _) hsz fun h S => run_nil (run_nil ⟨_, _, ⟨?_, rfl⟩, S.pick trivial⟩)
      rw [words_snoc hpi]; rfl
  · rintro ρ μ h ⟨rfl, rfl⟩ S
    rw [pathD_len, List.take_length] at S
    have esp : (Str.ofString " ") = sp := by decide +kernel
    have hsh : SeqAt.shaped (.list ((p.map runS).map PyData.str)) = true := strs_shaped (fun w hw => by
      obtain ⟨s, hs, rfl⟩ := List.mem_map.mp hw
      exact runS_asc (hp0 s hs))
    by_cases hp : p = []
    · subst hp
      refine run_if S (tr_eq rm (ev_mut S) ((ev_list evl_nil).mono fun _ _ _ r => r.rd) hsh (by decide +kernel)) (fun e h S => ?_) (fun e h S => by exact absurd e (by decide))
      exact run_ret ev_str fun v h' _ r => Rf.of_flat rfl r
    · refine run_if S (tr_eq rm (ev_mut S) ((ev_list evl_nil).mono fun _ _ _ r => r.rd) hsh (by decide +kernel)) (fun e h S => ?_) (fun e h S => run_nil ?_)
      · exfalso
        cases p with
        | nil => exact hp rfl
        | cons s t => exact Bool.false_ne_true e
      have eline : lineS p = Txt.join sp (p.map runS) := if_neg hp
      rw [eline]
      exact run_ret (ev_join (x := sp) (esp ▸ ev_str) (ev_mut S) hok) fun v h' _ r => Rf.of_flat rfl r
  · intro d hd
    obtain ⟨s, _, rfl⟩ := List.mem_map.mp hd
    rfl
  · rintro i ρ μ ⟨rfl, rfl⟩ q' e
    cases e
    dsimp only
    decide


theorem f_isfig (hF : valOf c.p "FIGURES" = some (.str "0123456789")) {x : Str} (ha : asc x) : FnD c 1 "is_figures" [.str x] (.bool (figB x.cps.toList)) := by
  have hsh := asc_shaped ha
  have hdef := (def_at (f := "is_figures") hc 12 rfl rfl rfl (by kernel_rfl))
  refine fn1 (x1 := "word") hdef rf_old (by intros; rfl) (fun A g h L fa cd T rm S => ?_)
  by_cases hx : x = ""
  · have e0 := eqs.mpr hx
    refine run_if S (tr_eq rm (ev_var S rfl) ev_str hsh (by decide +kernel)) (fun e h S => ?_) (fun e h S => by rw [e0] at e; cases e)
    have ef : figB x.cps.toList = false := by rw [hx]; decide +kernel
    rw [ef]
    exact run_ret ev_bool fun v h' _ r => Rf.of_flat rfl r
  have e0 := eqs_ne hx
  refine run_if S (tr_eq rm (ev_var S rfl) ev_str hsh (by decide +kernel)) (fun e h S => by rw [e0] at e; cases e) (fun e h S => run_nil ?_)
  refine run_for (fun i ρ μ => (∀ j k, j < i → x.cps.toList[j]? = some k → isD k = true) ∧ ρ = ([] : Locs) ∧ μ = none) (S.pick (ρ' := []) trivial) (iter_str rm.hd (ev_var S rfl) (w_hold S wok_nil)) ⟨fun j k q => by (first | lia | omega), rfl, rfl⟩ (w_hold S wok_nil) ?_ ?_ (signs_flat x) ?_
  · rintro i d ρ μ h hd' ⟨hj, rfl, rfl⟩ S
    obtain ⟨k, hk, rfl⟩ := signs_mem hd'
    have hin := fig_is (ha k (List.mem_of_getElem? hk))
    refine run_if S (tr_notins (ev_var S rfl) (ev_gconst S T hF)) (fun e h S => ?_) (fun e h S => run_nil (run_nil ⟨_, _, ⟨fun j k' q1 q2 => ?_, rfl, rfl⟩, S.pick trivial⟩))
    · have hk0 : isD k = false := by rw [hin] at e; simpa using e
      have ef := figB_no hk hk0
      exact run_ret ev_bool fun v h' _ r => Rf.of_flat rfl (by rw [ef]; exact r)
    · have hk1 : isD k = true := by rw [hin] at e; simpa using e
      rcases Nat.lt_or_eq_of_le (Nat.lt_succ_iff.mp q1) with z | z
      · exact hj j k' z q2
      · subst z; rw [hk] at q2; cases q2; exact hk1
  · rintro ρ μ h ⟨hj, rfl, rfl⟩ S
    have ef : figB x.cps.toList = true := by
      rw [figB_all fun i k q => hj i k (by rw [signs_len]; exact (List.getElem?_eq_some_iff.mp q).1) q]
      cases q : x.cps.toList with
      | nil => exact absurd (str_ext (q.trans (by decide +kernel))) hx
      | cons _ _ => rfl
    rw [ef]
    exact run_ret ev_bool fun v h' _ r => Rf.of_flat rfl r
  · rintro i ρ μ ⟨_, rfl, rfl⟩ q' e
    cases e

theorem f_fig {x : Str} (ha : asc x) : FnD c 1 "_law_figures" [.str x] (.bool (figB x.cps.toList)) := by
  have hsh := asc_shaped ha
  have hdef := (def_at (f := "_law_figures") hc 24 rfl rfl rfl (by kernel_rfl))
  refine fn1 (x1 := "_law_word") hdef rf_old (by intros; rfl) (fun A g h L fa cd T rm S => ?_)
  refine run_for (fun i ρ μ => (∀ j k, j < i → x.cps.toList[j]? = some k → isD k = true) ∧ ρ = ([("_law_word", .str x)] : Locs) ∧ μ = none) S (iter_str rm.hd (ev_var S rfl) (w_hold S wok_nil)) ⟨fun j k q => by (first | lia | omega), rfl, rfl⟩ (w_hold S wok_nil) ?_ ?_ (signs_flat x) ?_
  · rintro i d ρ μ h hd' ⟨hj, rfl, rfl⟩ S
    obtain ⟨k, hk, rfl⟩ := signs_mem hd'
    have hin := fig_is (ha k (List.mem_of_getElem? hk))
    refine run_if S (tr_notins (ev_var S rfl) ev_str) (fun e h S => ?_) (fun e h S => run_nil (run_nil ⟨_, _, ⟨fun j k' q1 q2 => ?_, rfl, rfl⟩, S.pick ⟨rfl, trivial⟩⟩))
    · have hk0 : isD k = false := by rw [hin] at e; simpa using e
      have ef := figB_no hk hk0
      exact run_ret ev_bool fun v h' _ r => Rf.of_flat rfl (by rw [ef]; exact r)
    · have hk1 : isD k = true := by rw [hin] at e; simpa using e
      rcases Nat.lt_or_eq_of_le (Nat.lt_succ_iff.mp q1) with z | z
      · exact hj j k' z q2
      · subst z; rw [hk] at q2; cases q2; exact hk1
  · rintro ρ μ h ⟨hj, rfl, rfl⟩ S
    refine run_ret (ev_ne rm (ev_var S rfl) ev_str hsh (by decide +kernel)) fun v h' _ r => Rf.of_flat rfl ?_
    have ef : figB x.cps.toList = !PyData.eqv (.str x) (.str "") := by
      rw [figB_all fun i k q => hj i k (by rw [signs_len]; exact (List.getElem?_eq_some_iff.mp q).1) q]
      by_cases hx : x = ""
      · rw [eqs.mpr hx, hx]; decide +kernel
      · rw [eqs_ne hx]
        cases q : x.cps.toList with
        | nil => exact absurd (str_ext (q.trans (by decide +kernel))) hx
        | cons _ _ => rfl
    rw [ef]; exact r
  · rintro i ρ μ ⟨_, rfl, rfl⟩ q' e
    cases e

theorem f_sign_by {k : Int} (h0 : 0 ≤ k) (h1 : k < 94) : FnD c 1 "_law_sign_by" [.int k] (.str (Txt.item signsZ k)) := by
  have hl : signsZ.length = 94 := by decide +kernel
  have hdef := (def_at (f := "_law_sign_by") hc 22 rfl rfl rfl (by kernel_rfl))
  refine fn1 (x1 := "_law_cell") hdef rf_old (by intros; rfl) (fun A g h L fa cd T rm S => ?_)
  refine run_set S ev_str fun h S => ?_
  refine run_set (d := .str signsZ) S (ev_to (ev_adds (ev_var S rfl) ev_str (by decide +kernel)) (congrArg PyData.str (by decide +kernel))) fun h S => ?_
  exact run_ret (ev_sidx (ev_var S rfl) (ev_var S rfl) h0 (by (first | lia | omega)) (by (first | lia | omega))) fun v h' _ r => Rf.of_flat rfl r

theorem f_turned (B : Bn c) {x : Str} {wv pl : Int} {ch : Nat} (hl : x.length ≤ 50000) (hp : 0 ≤ pl) : ∃ at_ : Int, 0 ≤ at_ ∧ at_ ≤ x.length ∧ FnD c 1 "_law_turned" [.str x, .int wv, .int pl, .str ⟨#[ch]⟩] (.str (turnF x wv at_ ⟨#[ch]⟩)) := by
  have hsl : sizeLine = 2 ^ 24 := rfl
  have g0 : (0 : Int) < (x.length : Int) + 1 := by (first | lia | omega)
  obtain ⟨at_, hat⟩ : ∃ a : Int, a = pl % ((x.length : Int) + 1) := ⟨_, rfl⟩
  have g1 : 0 ≤ at_ := by rw [hat]; exact Int.emod_nonneg _ (by (first | lia | omega))
  have g2 : at_ < (x.length : Int) + 1 := by rw [hat]; exact Int.emod_lt_of_pos _ g0
  refine ⟨at_, g1, by (first | lia | omega), ?_⟩
  have s1 := Txt.slice_le x none (some at_)
  have s2 := Txt.slice_le x (some at_) none
  have s3 := Txt.slice_le x (some (at_ + 1)) none
  have hone : (⟨#[ch]⟩ : Str).length = 1 := rfl
  have hdef := (def_at (f := "_law_turned") hc 23 rfl rfl rfl (by kernel_rfl))
  refine fn4 (x1 := "_law_line") (x2 := "_law_way_here") (x3 := "_law_place") (x4 := "_law_sign") hdef rf_old (by intros; rfl) (fun A g h L fa cd T rm S => ?_)
  refine run_set S (ev_mod (ev_var S rfl) (ev_add (ev_lens S T B (ev_var S rfl)) ev_int) g0) fun h S => ?_
  rw [← hat] at S
  unfold turnF
  refine run_if S (tr_icmp (ev_var S rfl) ev_int rfl) (fun e h S => ?_) (fun e h S => run_nil ?_)
  · rw [if_pos (by simpa using e)]
    exact run_ret (ev_adds (ev_adds (ev_slice_to (ev_var S rfl) (ev_var S rfl) (by (first | lia | omega))) (ev_var S rfl) (by (first | lia | omega))) (ev_slice_from (ev_var S rfl) (ev_var S rfl) (by (first | lia | omega))) (by rw [app_len]; (first | lia | omega))) fun v h' _ r => Rf.of_flat rfl r
  rw [if_neg (by simpa using e)]
  refine run_if S (tr_icmp (ev_var S rfl) ev_int rfl) (fun e h S => ?_) (fun e h S => run_nil ?_)
  · rw [if_pos (by simpa using e)]
    exact run_ret (ev_adds (ev_adds (ev_slice_to (ev_var S rfl) (ev_var S rfl) (by (first | lia | omega))) (ev_var S rfl) (by (first | lia | omega))) (ev_slice_from (ev_var S rfl) (ev_add (ev_var S rfl) ev_int) (by (first | lia | omega))) (by rw [app_len]; (first | lia | omega))) fun v h' _ r => Rf.of_flat rfl r
  rw [if_neg (by simpa using e)]
  refine run_if S (tr_icmp (ev_var S rfl) ev_int rfl) (fun e h S => ?_) (fun e h S => run_nil ?_)
  · rw [if_pos (by simpa using e)]
    exact run_ret (ev_adds (ev_slice_to (ev_var S rfl) (ev_var S rfl) (by (first | lia | omega))) (ev_slice_from (ev_var S rfl) (ev_add (ev_var S rfl) ev_int) (by (first | lia | omega))) (by (first | lia | omega))) fun v h' _ r => Rf.of_flat rfl r
  rw [if_neg (by simpa using e)]
  exact run_ret (ev_var S rfl) fun v h' _ r => Rf.of_flat rfl r


theorem f_alone (B : Bn c) {K : Frag} {C : Addr} {y : Str} {b1 b2 b3 b4 b5 b6 b7 : Bool} (OC : EC K y C) (i1 : EI K C "NoFraction" b1) (i2 : EI K C "NoPath" b2) (i3 : EI K C "NoBounds" b3) (i4 : EI K C "NoRoom" b4) (i5 : EI K C "Unsure" b5) (i6 : EI K C "NoText" b6) (i7 : EI K C "NoNumber" b7)
    (hcnt : (PySem.Spec.countIn (.bool true) [.bool b1, .bool b2, .bool b3, .bool b4, .bool b5, .bool b6, .bool b7] == 1) = true) : FnV c K 1 "_law_alone" C true := by
  have hdef := (def_at (f := "_law_alone") hc 27 rfl rfl rfl (by kernel_rfl))
  refine fnv1 (n := 0) (x1 := "_law_e") hdef (by intros; rfl) (fun A g h L fa e cd T KX V I => ?_)
  have I1 := V.ex I
  refine runv_own V.st V (ev_list (evl_cons (ev_isk T B KX V I1 OC i1) (evl_cons (ev_isk T B KX V I1 OC i2) (evl_cons (ev_isk T B KX V I1 OC i3) (evl_cons (ev_isk T B KX V I1 OC i4) evl_nil))))) fun l h2 S V => ?_
  have I2 := V.ex I
  refine runv_own (S.freeze.pick (ρ' := []) trivial) V (ev_addl (ev_mut S) ((ev_list (evl_cons (ev_isk T B KX V I2 OC i5) (evl_cons (ev_isk T B KX V I2 OC i6) (evl_cons (ev_isk T B KX V I2 OC i7) evl_nil)))).mono fun _ _ _ r => r.rd) (by simp only [List.length_cons, List.length_nil]; decide)) fun l h2 S V => ?_
  have I3 := V.ex I
  refine run_ret (ev_bop (bo_and (ev_icmp (ev_countT S rfl) ev_int rfl) fun _ => bo_last (ev_isv T B KX V I3 OC))) fun v h' _ r => ?_
  have e : (PySem.Spec.countIn (.bool true) ([.bool b1, .bool b2, .bool b3, .bool b4] ++ [.bool b5, .bool b6, .bool b7]) == 1 && true) = true := by simpa using hcnt
  rw [e] at r; exact r


def oddL1 : List Str := ["", " ", "Top", "top ", " top", "topL1", "L", "R", "L0", "R0", "L01", "l1", "r2", "L1 L1", "R2 R3"]
def oddL2 : List Str := ["L1  R1", "L1,R1", "L-1", "R+1", "L 1", "1L", "L1 ", " R1", "L1 R1 top"]
omit hc in
theorem odd_tx : ∀ y ∈ oddL1 ++ oddL2, TX 10 y := by
  have h : ∀ y ∈ oddL1 ++ oddL2, (∀ c ∈ y.cps.toList, c < 128) ∧ mx y.cps.toList ≤ 10 ∧ y.length ≤ 40000 + 10 := by decide +kernel
  exact fun y hy => ⟨(h y hy).1, (h y hy).2.1, (h y hy).2.2⟩

theorem f_odd_line {k : Int} (h0 : 0 ≤ k) (h1 : k < 24) : ∃ y, TX 10 y ∧ FnD c 1 "_law_odd_line" [.int k] (.str y) := by
  have hlt : k.toNat < (oddL1 ++ oddL2).length := by have : (oddL1 ++ oddL2).length = 24 := rfl; (first | lia | omega)
  refine ⟨(oddL1 ++ oddL2)[k.toNat], odd_tx _ (List.getElem_mem hlt), ?_⟩
  have hx : (oddL1.map PyData.str ++ oddL2.map PyData.str)[k.toNat]? = some (.str (oddL1 ++ oddL2)[k.toNat]) := by
    rw [← List.map_append, List.getElem?_map, List.getElem?_eq_getElem hlt]; rfl
  have hdef := (def_at (f := "_law_odd_line") hc 26 rfl rfl rfl (by kernel_rfl))
  refine fn1 (x1 := "_law_cell") hdef rf_old (by intros; rfl) (fun A g h L fa cd T rm S => ?_)
  refine run_assign (d := .list (oddL1.map PyData.str)) S ((ev_list (evl_cons ev_str (evl_cons ev_str (evl_cons ev_str (evl_cons ev_str (evl_cons ev_str (evl_cons ev_str (evl_cons ev_str (evl_cons ev_str (evl_cons ev_str (evl_cons ev_str (evl_cons ev_str (evl_cons ev_str (evl_cons ev_str (evl_cons ev_str (evl_cons ev_str evl_nil)))))))))))))))).mono fun _ _ _ r => r.rf rfl) fun h S => ?_
  refine run_assign (d := .list (oddL1.map PyData.str ++ oddL2.map PyData.str)) S ((ev_addl (ev_var S rfl) ((ev_list (evl_cons ev_str (evl_cons ev_str (evl_cons ev_str (evl_cons ev_str (evl_cons ev_str (evl_cons ev_str (evl_cons ev_str (evl_cons ev_str (evl_cons ev_str evl_nil)))))))))).mono fun _ _ _ r => r.rd) (by decide)).mono fun _ _ _ r => r.rf rfl) fun h S => ?_
  exact run_ret (ev_lidx (ev_var S rfl) (ev_var S rfl) hx h0 (by (first | lia | omega))) fun v h' _ r => Rf.of_flat rfl r

omit hc in
theorem split_at {y : Str} {i : Nat} {d : PyData} (hd : ((Txt.split y sp).map PyData.str)[i]? = some d) : ∃ w, (Txt.split y sp)[i]? = some w ∧ d = .str w := by
  simp only [List.getElem?_map, Option.map_eq_some_iff] at hd
  obtain ⟨w, q, rfl⟩ := hd
  exact ⟨w, q, rfl⟩
omit hc in
theorem asg_sh (a : Option Bool) : SeqAt.shaped (.str (asg a)) = true := by rcases a with _ | _ | _ <;> decide +kernel
omit hc in
theorem wayA_next {p : Path} {i : Nat} {s : Bool × Int} (h : p[i]? = some s) : asg (wayA p (i + 1)) = sg s.1 := by
  show asg ((p[i]?).map _) = _; rw [h]; rfl
omit hc in
theorem take_next {p : Path} {i : Nat} {s : Bool × Int} (h : p[i]? = some s) : pathD (p.take (i + 1)) = pathD (p.take i) ++ [runD s] := by
  rw [List.take_add_one, h]; exact pathD_snoc _ _

theorem f_due_of (B : Bn c) {y : Str} {p : Path} {bad : Bool} (hy : TX 511 y) (D : DueL y p bad) : FnD c 2 "_law_due_of" [.str y] (dueD p bad) := by
  have hsh := asc_shaped hy.a
  have hl := hy.l
  have hsl : sizeLine = 2 ^ 24 := rfl
  have hpl := (D.ok hy).2
  have esp : (Str.ofString " ") = sp := by decide +kernel
  have hdef := (def_at (f := "_law_due_of") hc 25 rfl rfl rfl (by kernel_rfl))
  refine fn1 (x1 := "_law_line") hdef rf_old (by intros; rfl) (fun A g h L fa cd T rm S => ?_)
  by_cases hp : y = "top"
  · obtain ⟨rfl, rfl⟩ := D.top hp
    have e0 := eqs.mpr hp
    refine run_if S (tr_eq rm (ev_var S rfl) ev_str hsh (by decide +kernel)) (fun e h S => ?_) (fun e h S => by rw [e0] at e; cases e)
    exact run_ret (ev_list evl_nil) fun v h' _ r => (r.rf rfl).old S.frK
  have D := D.due hp
  have e0 := eqs_ne hp
  refine run_if S (tr_eq rm (ev_var S rfl) ev_str hsh (by decide +kernel)) (fun e h S => by rw [e0] at e; cases e) (fun e h S => run_nil ?_)
  refine run_own S (ev_list evl_nil) fun l h S => ?_
  refine run_set S ev_str fun h S => ?_
  refine run_for (fun i ρ μ => i ≤ p.length ∧ μ = (some ("_law_path", l, pathD (p.take i)) : Mut) ∧ ρ = ([("_law_ahead", .str (asg (wayA p i)))] : Locs)) (S.pick (ρ' := [("_law_ahead", .str (asg (wayA p 0)))]) ⟨rfl, trivial⟩) (iter_list rm.hd (src_split (x := y) (y := sp) (ev_var S rfl) (esp ▸ ev_str) rfl (by (first | lia | omega)) (w_hold S wok_one) (own_empty S)) (w_hold S wok_one)) ⟨Nat.zero_le _, rfl, rfl⟩ (w_hold S wok_one) ?_ ?_ ?_ ?_
  · rintro i d ρ μ h hd ⟨hi, rfl, rfl⟩ S
    obtain ⟨w, hw, rfl⟩ := split_at hd
    have tw := hy.word hw
    have hww : w.length ≤ sizeLine := by have := tw.l; (first | lia | omega)
    have hs1 := asc_shaped (asc_slice_to tw.a)
    have hsa := asg_sh (wayA p i)
    have ff : FnD c 1 "_law_figures" [.str (Txt.slice w (some 1) none)] (.bool (figB (w.cps.toList.drop 1))) := by
      have := f_fig hc (asc_slice_from tw.a)
      rw [sl_from (by decide)] at this; exact this
    refine run_if S (c := condW2 (wayA p i) w) (tr_bool (all_or (tr_notin rm (ev_slice_to (ev_var S rfl) ev_int hww) (ev_tup (evl_cons ev_str (evl_cons ev_str evl_nil))) (by decide +kernel) hs1) fun _ => (all_or (tr_eq rm (ev_slice_to (ev_var S rfl) ev_int hww) (ev_var S rfl) hs1 hsa) fun _ => (all_or (tr_not (tr_val (ev_calld S T rm ff (evl_cons (ev_slice_from (ev_var S rfl) ev_int hww (ht := by intro _ _; rfl)) evl_nil)))) fun q => (all_or (tr_eq rm (ev_sidx (ev_var S rfl) ev_int (by decide) (by have := (fig_at1 tw.a (by simpa using q)).1; (first | lia | omega)) (by decide)) ev_str (fig_at1 tw.a (by simpa using q)).2.2.1 (by decide +kernel)) fun _ => all_or_nil))))) (fun e h S => ?_) (fun e h S => run_nil ?_)
    · rw [cond2] at e
      rcases D.at hi hw with ⟨hcd, hbad⟩ | ⟨hcd, hi2, s, hs, hg⟩
      · subst hbad
        exact run_ret ev_none fun v h' _ r => Rf.of_flat rfl r
      · rw [hcd] at e; cases e
    rw [cond2] at e
    obtain ⟨hi2, s, hs, hg⟩ : i < p.length ∧ ∃ s, p[i]? = some s ∧ goodW (wayA p i) w s := by
      rcases D.at hi hw with ⟨hcd, hbad⟩ | q
      · rw [hcd] at e; cases e
      · exact q.2
    obtain ⟨_, q1, q2, q3, q4, q5, _⟩ := good_cond hg
    obtain ⟨z1, z2, z3⟩ := tw.fig q3
    have hint : PySem.intText? (Txt.slice w (some 1) none) = some s.2 := by rw [fig_reads z2 z3 (by (first | lia | omega)), q2, q5]
    refine run_set S (ev_slice_to (ev_var S rfl) ev_int hww) fun h S => ?_
    rw [q1] at S
    have hsz : (pathD (p.take i)).length ≤ 2 ^ 20 := by rw [pathD_len, List.length_take]; (first | lia | omega)
    have hsw : SeqAt.shaped (.str (sg s.1)) = true := by cases s.1 <;> decide +kernel
    refine run_append (d := runD s) S (ev_tup (evl_cons (d := .str (wd s.1)) (ev_ife (tr_eq rm (ev_var S rfl) ev_str hsw (by decide +kernel)) (fun e => ?_) (fun e => ?_)) (evl_cons (ev_int1 S T B (ev_slice_from (ev_var S rfl) ev_int hww) hint (by (first | lia | omega))) evl_nil))) rfl (.head _) hsz fun h S => run_nil ⟨_, _, ⟨hi2, by rw [take_next hs], rfl⟩, S.pick ⟨by rw [wayA_next hs]; rfl, trivial⟩⟩
    · cases hb : s.1 with
      | false => exact ev_str
      | true => rw [hb] at e; exact absurd e (by decide +kernel)
    · cases hb : s.1 with
      | false => rw [hb] at e; exact absurd e (by decide +kernel)
      | true => exact ev_str
  · rintro ρ μ h ⟨hi, rfl, rfl⟩ S
    rw [List.length_map] at hi S
    obtain ⟨rfl, e⟩ := D.end hi
    rw [← e, List.take_length] at S
    exact run_ret (ev_own S) fun v h' _ r => r.rf (pathD_flat p)
  · intro d hd
    obtain ⟨w, _, rfl⟩ := List.mem_map.mp hd
    rfl
  · rintro i ρ μ ⟨_, rfl, rfl⟩ q' e
    cases e
    dsimp only
    decide

theorem f_read7 (B : Bn c) (hT : valOf c.p "TOP" = some (.str "top")) (hF : valOf c.p "FIGURES" = some (.str "0123456789")) {y : Str} {p : Path} {bad : Bool} (hy : TX 511 y) (D : DueL y p bad) :
    (bad = false → FnL c 2 "read" [.str y] (pathD p)) ∧ (bad = true → ∀ (K : Frag) (C : Addr), EC K "NoText" C → FnR c K 2 "read" [.str y] C) := by
  have hsh := asc_shaped hy.a
  have hl := hy.l
  have hsl : sizeLine = 2 ^ 24 := rfl
  have hpl := (D.ok hy).2
  have esp : (Str.ofString " ") = sp := by decide +kernel
  have hdef := (def_at (f := "read") hc 13 rfl rfl rfl (by kernel_rfl))
  refine fnlr1 (R := fun h => Rl h (pathD p)) (x := "NoText") (x1 := "line") (n := 1) bad hdef rl_old (by intros; rfl) (fun A X g h L fa cd T rm ro S => ?_)
  by_cases hp : y = "top"
  · obtain ⟨rfl, rfl⟩ := D.top hp
    have e0 := eqs.mpr hp
    refine run_if S (tr_eq rm (ev_var S rfl) (ev_gconst S T hT) hsh (by decide +kernel)) (fun e h S => ?_) (fun e h S => by rw [e0] at e; cases e)
    exact run_ret (ev_list evl_nil) fun v h' _ r => ⟨rfl, r.old S.frK⟩
  have D := D.due hp
  have e0 := eqs_ne hp
  refine run_if S (tr_eq rm (ev_var S rfl) (ev_gconst S T hT) hsh (by decide +kernel)) (fun e h S => by rw [e0] at e; cases e) (fun e h S => run_nil ?_)
  refine run_own S (ev_list evl_nil) fun l h S => ?_
  refine run_set S ev_str fun h S => ?_
  refine run_for (fun i ρ μ => i ≤ p.length ∧ μ = (some ("path", l, pathD (p.take i)) : Mut) ∧ ρ = ([("ahead", .str (asg (wayA p i)))] : Locs)) (S.pick (ρ' := [("ahead", .str (asg (wayA p 0)))]) ⟨rfl, trivial⟩) (iter_list rm.hd (src_split (x := y) (y := sp) (ev_var S rfl) (esp ▸ ev_str) rfl (by (first | lia | omega)) (w_hold S wok_one) (own_empty S)) (w_hold S wok_one)) ⟨Nat.zero_le _, rfl, rfl⟩ (w_hold S wok_one) ?_ ?_ ?_ ?_
  · rintro i d ρ μ h hd ⟨hi, rfl, rfl⟩ S
    obtain ⟨w, hw, rfl⟩ := split_at hd
    have tw := hy.word hw
    have hww : w.length ≤ sizeLine := by have := tw.l; (first | lia | omega)
    have hs1 := asc_shaped (asc_slice_to tw.a)
    have hsa := asg_sh (wayA p i)
    have ff : FnD c 1 "is_figures" [.str (Txt.slice w (some 1) none)] (.bool (figB (w.cps.toList.drop 1))) := by
      have := f_isfig hc hF (asc_slice_from tw.a)
      rw [sl_from (by decide)] at this; exact this
    refine run_set S (ev_slice_to (ev_var S rfl) ev_int hww) fun h S => ?_
    refine run_set S (ev_slice_from (ev_var S rfl) ev_int hww) fun h S => ?_
    refine run_if S (c := condW (wayA p i) w) (tr_bool (all_or (tr_notin rm (ev_var S rfl) (ev_tup (evl_cons ev_str (evl_cons ev_str evl_nil))) (by decide +kernel) hs1) fun _ => (all_or (tr_eq rm (ev_var S rfl) (ev_var S rfl) hs1 hsa) fun _ => (all_or (tr_not (tr_val (ev_calld S T rm (ff) (evl_cons (ev_var S rfl) evl_nil)))) fun q => (all_or (tr_eq rm (ev_sidx (ev_var S rfl) ev_int (by decide) (by have := (fig_at1 tw.a (by simpa using q)).2.1; (first | lia | omega)) (by decide)) ev_str (fig_at1 tw.a (by simpa using q)).2.2.2 (by decide +kernel)) fun _ => all_or_nil))))) (fun e h S => ?_) (fun e h S => run_nil ?_)
    · rcases D.at hi hw with ⟨hcd, hbad⟩ | ⟨hcd, hi2, s, hs, hg⟩
      · exact (ro hbad).go _ _ _ _ _ _ _ _ _ _ _ S ev_str rfl
      · rw [hcd] at e; cases e
    obtain ⟨hi2, s, hs, hg⟩ : i < p.length ∧ ∃ s, p[i]? = some s ∧ goodW (wayA p i) w s := by
      rcases D.at hi hw with ⟨hcd, hbad⟩ | q
      · rw [hcd] at e; cases e
      · exact q.2
    obtain ⟨_, q1, q2, q3, q4, q5, _⟩ := good_cond hg
    obtain ⟨z1, z2, z3⟩ := tw.fig q3
    have hint : PySem.intText? (Txt.slice w (some 1) none) = some s.2 := by rw [fig_reads z2 z3 (by (first | lia | omega)), q2, q5]
    rw [q1] at S
    have hsz : (pathD (p.take i)).length ≤ 2 ^ 20 := by rw [pathD_len, List.length_take]; (first | lia | omega)
    have hsw : SeqAt.shaped (.str (sg s.1)) = true := by cases s.1 <;> decide +kernel
    refine run_set S ev_str fun h S => ?_
    refine run_ifJ (fun h => St g L h [("way", .str (wd s.1)), ("sign", .str (sg s.1)), ("figures", .str (Txt.slice w (some 1) none))] (some ("path", l, pathD (p.take i)))) S (tr_eq rm (ev_var S rfl) ev_str hsw (by decide +kernel)) (fun e h S => ?_) (fun e h S => ?_) ?_
    · cases hb : s.1 with
      | false => rw [hb] at S; exact run_set S ev_str fun h S => run_nil ⟨rfl, S.pick ⟨rfl, rfl, rfl, trivial⟩⟩
      | true => rw [hb] at e; exact absurd e (by decide +kernel)
    · cases hb : s.1 with
      | false => rw [hb] at e; exact absurd e (by decide +kernel)
      | true => rw [hb] at S; exact S.pick ⟨rfl, rfl, rfl, trivial⟩
    intro h S
    refine run_append (d := runD s) S (ev_tup (evl_cons (ev_var S rfl) (evl_cons (ev_int1 S T B (ev_var S rfl) hint (by (first | lia | omega))) evl_nil))) rfl (.head _) hsz fun h S => ?_
    exact run_set S (ev_var S rfl) fun h S => run_nil ⟨_, _, ⟨hi2, by rw [take_next hs], rfl⟩, S.pick ⟨by rw [wayA_next hs]; rfl, trivial⟩⟩
  · rintro ρ μ h ⟨hi, rfl, rfl⟩ S
    rw [List.length_map] at hi S
    obtain ⟨e1, e⟩ := D.end hi
    rw [← e, List.take_length] at S
    exact run_ret (ev_own S) fun v h' _ r => ⟨e1, r⟩
  · intro d hd
    obtain ⟨w, _, rfl⟩ := List.mem_map.mp hd
    rfl
  · rintro i ρ μ ⟨_, rfl, rfl⟩ q' e
    cases e
    dsimp only
    decide

theorem f_refused (B : Bn c) {K : Frag} {C D : Addr} (eN : EU K "NoText" C D) (eF : EC K "FractionError" D) (fv : FnV c K 1 "_law_alone" C true) {y : Str} (fr : FnR c K 2 "read" [.str y] C) : FnC c K 3 "_law_refused" [.str y] (.bool true) := by
  have hdef := (def_at (f := "_law_refused") hc 28 rfl rfl rfl (by kernel_rfl))
  refine fnc1 (n := 2) (x1 := "_law_line") hdef (by intros; rfl) (fun A base outer g h L fa cd PT rm S => ?_)
  refine rc_try S PT eF eN.sub (ev_callr S PT rm fr (evl_cons (ev_var S rfl) evl_nil)) (fun x g' h' PT' V I => ?_)
  exact run_ret (ev_bop (bo_and (ev_isx PT'.t B PT'.k V I eN.ec eN.ec eN.self (fun _ => rfl)) fun _ => bo_last (ev_callv PT'.t PT'.k rm.v.mark V I fv))) fun v h2 k r => ⟨v, rfl, r, (V.keep k).st⟩

theorem f_law (B : Bn c) (hT : valOf c.p "TOP" = some (.str "top")) (hF : valOf c.p "FIGURES" = some (.str "0123456789")) {K : Frag} {C D : Addr} (eN : EU K "NoText" C D) (eF : EC K "FractionError" D) (i1 : EI K C "NoFraction" false) (i2 : EI K C "NoPath" false) (i3 : EI K C "NoBounds" false) (i4 : EI K C "NoRoom" false) (i5 : EI K C "Unsure" false) (i6 : EI K C "NoText" true) (i7 : EI K C "NoNumber" false) {ns : List Int} (hn : ns.length ≤ 63) : FnW c K "law" [scr ns] := by
  have fv := f_alone hc B eN.ec i1 i2 i3 i4 i5 i6 i7 rfl
  obtain ⟨p0, b, fpb, al, le, hl0⟩ := f_path_by hc B hn
  have tx0 : TX 63 (lineS p0) := line_TX (fun s hs => by have := al.pos s hs; (first | lia | omega)) le (by (first | lia | omega))
  have esp : (Str.ofString " ") = sp := by decide +kernel
  have hsl : sizeLine = 2 ^ 24 := rfl
  have hdef := (def_at (f := "law") hc 29 rfl rfl rfl (by kernel_rfl))
  refine fnw1 (n := 6) (x1 := "_law_script") hdef (by intros; rfl) (fun g h L fa cd PT rm S => ?_)
  have T := PT.t
  refine rw_set S (ev_calld S T rm (f_line_of hc B al le (by (first | lia | omega))) (evl_cons ((ev_call S T rm (fpb) (evl_cons (ev_var S rfl) evl_nil)).mono fun _ _ _ r => r.rd) evl_nil)) fun h S => ?_
  refine rw_set S (ev_calld S T rm (f_way hc B (by decide) (by decide) hn (by decide)) (evl_cons (ev_var S rfl) (evl_cons ev_int (evl_cons ev_int evl_nil)))) fun h S => ?_
  have p5 := wayF_lo (ns := ns) (k := 5) (m := 100003) (by decide)
  refine rw_ifJ (fun h => ∃ y, TX 63 y ∧ St g L h [("_law_script", scr ns), ("_law_line", .str y), ("_law_way_here", .int (wayF ns 4 8))] none) S (tr_icmp (ev_var S rfl) ev_int rfl) (fun e h S => ?_) (fun e h S => run_nil ⟨rfl, _, tx0, S.pick ⟨rfl, rfl, rfl, trivial⟩⟩) ?_
  · obtain ⟨y, ty, fo⟩ := f_odd_line hc (k := wayF ns 5 24) (wayF_lo (by decide)) (wayF_hi (by decide))
    exact run_set S (ev_calld S T rm (fo) (evl_cons (ev_calld S T rm (f_way hc B (by decide) (by decide) hn (by decide)) (evl_cons (ev_var S rfl) (evl_cons ev_int (evl_cons ev_int evl_nil)))) evl_nil)) fun h S => run_nil ⟨rfl, y, ty.mono (by decide), S.pick ⟨rfl, rfl, rfl, trivial⟩⟩
  rintro h ⟨y1, t1, S⟩
  refine rw_ifJ (fun h => ∃ y, TX 127 y ∧ St g L h [("_law_script", scr ns), ("_law_line", .str y), ("_law_way_here", .int (wayF ns 4 8))] none) S (tr_icmp (ev_var S rfl) ev_int rfl) (fun e h S => ?_) (fun e h S => run_nil ⟨rfl, _, t1.mono (by decide), S.pick ⟨rfl, rfl, rfl, trivial⟩⟩) ?_
  · have fs := f_sign_by hc (k := wayF ns 6 94) (wayF_lo (by decide)) (wayF_hi (by decide))
    obtain ⟨ch, hch, esg⟩ := sign_ok (k := wayF ns 6 94) (wayF_lo (by decide)) (wayF_hi (by decide))
    rw [esg] at fs
    obtain ⟨at_, g1, g2, ft⟩ := f_turned hc B (x := y1) (wv := wayF ns 4 8) (pl := wayF ns 5 100003) (ch := ch) (by have := t1.l; (first | lia | omega)) p5
    exact run_set S (ev_calld S T rm (ft) (evl_cons (ev_var S rfl) (evl_cons (ev_var S rfl) (evl_cons (ev_calld S T rm (f_way hc B (by decide) (by decide) hn (by decide)) (evl_cons (ev_var S rfl) (evl_cons ev_int (evl_cons ev_int evl_nil)))) (evl_cons (ev_calld S T rm (fs) (evl_cons (ev_calld S T rm (f_way hc B (by decide) (by decide) hn (by decide)) (evl_cons (ev_var S rfl) (evl_cons ev_int (evl_cons ev_int evl_nil)))) evl_nil)) evl_nil))))) fun h S => run_nil ⟨rfl, _, turn_tx t1 g1 g2 hch, S.pick ⟨rfl, rfl, rfl, trivial⟩⟩
  rintro h ⟨y2, t2, S⟩
  refine rw_ifJ (fun h => ∃ y, TX 255 y ∧ St g L h [("_law_script", scr ns), ("_law_line", .str y), ("_law_way_here", .int (wayF ns 4 8))] none) S (tr_icmp (ev_var S rfl) ev_int rfl) (fun e h S => ?_) (fun e h S => run_nil ⟨rfl, _, t2.mono (by decide), S.pick ⟨rfl, rfl, rfl, trivial⟩⟩) ?_
  · have hl2 := t2.l
    have hwl := split_len t2
    have hwn := split_ne y2
    have hw0 := List.length_pos_iff.mpr hwn
    refine run_own S (ev_split (x := y2) (y := sp) (ev_var S rfl) (esp ▸ ev_str) rfl (by (first | lia | omega))) (fun l h S => ?_) (strs_flat _)
    have hml : ((Txt.split y2 sp).map PyData.str).length = (Txt.split y2 sp).length := List.length_map _
    have hpos : (0 : Int) < (((Txt.split y2 sp).map PyData.str).length : Int) := by (first | lia | omega)
    obtain ⟨at_, hat⟩ : ∃ x : Int, x = wayF ns 5 100003 % (((Txt.split y2 sp).map PyData.str).length : Int) := ⟨_, rfl⟩
    have g1 : 0 ≤ at_ := by rw [hat]; exact Int.emod_nonneg _ (by (first | lia | omega))
    have g2 : at_ < (((Txt.split y2 sp).map PyData.str).length : Int) := by rw [hat]; exact Int.emod_lt_of_pos _ hpos
    obtain ⟨w, hw⟩ : ∃ w, (Txt.split y2 sp)[at_.toNat]? = some w := ⟨_, List.getElem?_eq_getElem (by (first | lia | omega))⟩
    have hx : ((Txt.split y2 sp).map PyData.str)[at_.toNat]? = some (.str w) := by rw [List.getElem?_map, hw]; rfl
    have tw := (t2.word hw).l
    have s1 := Txt.slice_le w none (some 1)
    have s2 := Txt.slice_le w (some 1) none
    have hz : (Str.ofString "0").length = 1 := by decide +kernel
    obtain ⟨t3, hok⟩ := t2.zero (by decide) hw
    refine run_set S (ev_mod (ev_calld S T rm (f_way hc B (by decide) (by decide) hn (by decide)) (evl_cons (ev_var S rfl) (evl_cons ev_int (evl_cons ev_int evl_nil)))) (ev_lenl S T B (ev_mut S) (by (first | lia | omega))) hpos) fun h S => ?_
    rw [← hat] at S
    refine run_setitem S (ev_adds (ev_adds (ev_slice_tov (ev_lidx (ev_mut S) (ev_var S rfl) hx g1 (by (first | lia | omega))) ev_int (by (first | lia | omega))) ev_str (by (first | lia | omega))) (ev_slice_fromv (ev_lidx (ev_mut S) (ev_var S rfl) hx g1 (by (first | lia | omega))) ev_int (by (first | lia | omega))) (by rw [app_len]; (first | lia | omega))) (ev_var S rfl) rfl (.head _) g1 g2 (by (first | lia | omega)) fun h S => ?_
    rw [← List.map_set] at S
    exact run_set S (ev_join (x := sp) (esp ▸ ev_str) (ev_mut S) hok) fun h S => run_nil ⟨rfl, _, t3, (S.freeze).pick ⟨rfl, rfl, rfl, trivial⟩⟩
  rintro h ⟨y3, t3, S⟩
  refine rw_ifJ (fun h => ∃ y, TX 511 y ∧ St g L h [("_law_script", scr ns), ("_law_line", .str y)] none) S (tr_icmp (ev_var S rfl) ev_int rfl) (fun e h S => ?_) (fun e h S => run_nil ⟨rfl, _, t3.mono (by decide), S.pick ⟨rfl, rfl, trivial⟩⟩) ?_
  · have v0 := wayF_lo (ns := ns) (k := 6) (m := 13) (by decide)
    have v1 := wayF_hi (ns := ns) (k := 6) (m := 13) (by decide)
    have hlen : (Str.ofString "LR 0123456789").length = 13 := by decide +kernel
    obtain ⟨ch, hch, esg⟩ := item_ex (x := Str.ofString "LR 0123456789") (k := wayF ns 6 13) (by unfold asc; decide +kernel) v0 (by (first | lia | omega))
    obtain ⟨at_, g1, g2, ft⟩ := f_turned hc B (x := y3) (wv := 2) (pl := wayF ns 5 100003) (ch := ch) (by have := t3.l; (first | lia | omega)) p5
    refine run_set S (ev_sidxv (x := Str.ofString "LR 0123456789") ev_str (ev_calld S T rm (f_way hc B (by decide) (by decide) hn (by decide)) (evl_cons (ev_var S rfl) (evl_cons ev_int (evl_cons ev_int evl_nil)))) v0 (by (first | lia | omega)) (by (first | lia | omega))) fun h S => ?_
    rw [esg] at S
    exact run_set S (ev_calld S T rm (ft) (evl_cons (ev_var S rfl) (evl_cons ev_int (evl_cons (ev_calld S T rm (f_way hc B (by decide) (by decide) hn (by decide)) (evl_cons (ev_var S rfl) (evl_cons ev_int (evl_cons ev_int evl_nil)))) (evl_cons (ev_var S rfl) evl_nil))))) fun h S => run_nil ⟨rfl, _, turn_tx t3 g1 g2 hch, S.pick ⟨rfl, rfl, trivial⟩⟩
  rintro h ⟨y, ty, S⟩
  obtain ⟨p, bad, D⟩ := dueL_ex y
  obtain ⟨fr0, fr1⟩ := f_read7 hc B hT hF ty D
  have fd := f_due_of hc B ty D
  obtain ⟨ok, hpl⟩ := D.ok ty
  have hyl := ty.l
  refine rw_assign S (ev_call S T rm fd (evl_cons (ev_var S rfl) evl_nil)) fun h S => ?_
  have hsh := pathD_shaped p
  cases bad with
  | true =>
    refine rw_if S (tr_is (ev_var S rfl) ev_none rfl) (fun e h S => ?_) (fun e h S => by cases e)
    exact rw_retc S PT rm (f_refused hc B eN eF fv (fr1 rfl K C eN.ec)) (evl_cons (ev_var S rfl) evl_nil)
  | false =>
    have fr := fr0 rfl
    refine rw_if S (tr_is (ev_var S rfl) ev_none rfl) (fun e h S => by cases e) (fun e h S => ?_)
    have S : St g L h (("_law_due", .list (pathD p)) :: [("_law_script", scr ns), ("_law_line", .str y)]) none := S
    refine rw_run S ?_
    refine run_own S (ev_call S T rm fr (evl_cons (ev_var S rfl) evl_nil)) (fun l h S => ?_) (pathD_flat p)
    refine run_if S (tr_bool (all_or (tr_not (tr_val (ev_calld S T rm (f_is_path hc B ok) (evl_cons (ev_mut S) evl_nil)))) fun _ => (all_or (tr_ne rm (ev_mut S) (ev_var S rfl) hsh hsh) fun _ => all_or_nil))) (fun e h S => by rw [pathD_eq] at e; simp at e) (fun e h S => run_nil ?_)
    refine run_append S (ev_tup (evl_cons ev_str (evl_cons ev_int evl_nil))) rfl (.head _) (by rw [pathD_len]; (first | lia | omega)) fun h S => ?_
    refine run_assign S ((ev_call S T rm fr (evl_cons (ev_var S rfl) evl_nil)).mono fun _ _ _ r => r.rf (pathD_flat p)) fun h S => ?_
    refine run_ret (ev_bop (bo_and (ev_calld S T rm (f_is_path hc B ok) (evl_cons (ev_var S rfl) evl_nil)) fun _ => bo_last (ev_eq rm (ev_var S rfl) (ev_var S rfl) hsh hsh))) fun v h' _ r => ?_
    rw [pathD_eq] at r; simpa [retv] using r
end

end Mine

namespace Mine
open PySem PySem.Spec PySem.Calls PyProof.Rows PySem.W
noncomputable section
abbrev hp : Program := PySem.Challenge.pw_uf050018_07
/-- the defs' parts, by their places -/
def hfp (i : Nat) : Arguments := match hp.main.body[i]? with | some (.FunctionDef _ ps _ _ _ _ _ _ _ _) => ps | _ => { posonlyargs := [], args := [], vararg := none, kwonlyargs := [], kw_defaults := [], kwarg := none, defaults := [] }
def hfb (i : Nat) : List Stmt := match hp.main.body[i]? with | some (.FunctionDef _ _ b _ _ _ _ _ _ _) => b | _ => []
def hfs (i : Nat) : Scope := match hp.main.body[i]? with | some (.FunctionDef _ _ _ _ _ _ sc _ _ _) => sc | _ => { kind := .module, names := [], isGenerator := false, isCoroutine := false }
/-- the objects that stand on the way (written by a program of mine from a run of the top) -/
def hob204 : Params → Obj := fun _ => { cls := Value.type "code", data := Data.fields #[Value.str (Str.ofString "_law_whole") 365, Value.str (Str.ofString "_law_whole") 366, Value.str (Str.ofString "/claim/cut.py") 367, Value.int 51 0, Value.int 1 0, Value.int 0 0, Value.int 0 0, Value.int 3 0, Value.ref 140, Value.bool true, Value.int 181 0, Value.ref 141, Value.none, Value.ref 142, Value.ref 143, Value.ref 144, Value.int 369 0, Value.int 51 0, Value.str (Str.ofString "/claim/cut.py") 370] }
def hob180 : Params → Obj := fun _ => { cls := Value.none, data := Data.func { name := Str.ofString "read", qualname := Str.ofString "read", params := hfp 13, body := FuncBody.stmts (hfb 13), scope := hfs 13, globals := 0, closure := [], defaults := Value.none, kwdefaults := Value.none } }
def hob83 : Params → Obj := fun _ => { cls := Value.type "builtin_function_or_method", data := Data.fields #[Value.builtin "type.__prepare__", Value.type "type"] }
def hob84 : Params → Obj := fun P => { cls := Value.type "dict", data := Data.dict #[{ hash := PyData.keyHash P (Str.ofString "__module__"), key := Value.str (Str.ofString "__module__") 230, val := Value.str (Str.ofString "nearfrac.errors") 187 }, { hash := PyData.keyHash P (Str.ofString "__qualname__"), key := Value.str (Str.ofString "__qualname__") 232, val := Value.str (Str.ofString "NoPath") 231 }, { hash := PyData.keyHash P (Str.ofString "__firstlineno__"), key := Value.str (Str.ofString "__firstlineno__") 234, val := Value.int 6 233 }, { hash := PyData.keyHash P (Str.ofString "__static_attributes__"), key := Value.str (Str.ofString "__static_attributes__") 235, val := Value.ref 47 }] 4 }
def hob268 : Params → Obj := fun _ => { cls := Value.type "function", data := Data.func { name := Str.ofString "_law_odd_line", qualname := Str.ofString "_law_odd_line", params := hfp 26, body := FuncBody.stmts (hfb 26), scope := hfs 26, globals := 3, closure := [], defaults := Value.none, kwdefaults := Value.none, pyModule := Value.str (Str.ofString "law_uf050018_07") 346, code := Value.ref 208 } }
def hob61 : Params → Obj := fun _ => { cls := Value.type "getset_descriptor", data := Data.fields #[Value.str (Str.ofString "__weakref__") 202, Value.ref 24, Value.builtin "ExceptionGroup.__weakref__", Value.none] }
def hob146 : Params → Obj := fun _ => { cls := Value.none, data := Data.fields #[] }
def hob232 : Params → Obj := fun _ => { cls := Value.type "code", data := Data.fields #[Value.str (Str.ofString "_law_line_of") 403, Value.str (Str.ofString "_law_line_of") 404, Value.str (Str.ofString "/claim/cut.py") 405, Value.int 81 0, Value.int 1 0, Value.int 0 0, Value.int 0 0, Value.int 3 0, Value.ref 168, Value.bool true, Value.int 181 0, Value.ref 169, Value.none, Value.ref 170, Value.ref 171, Value.ref 172, Value.int 409 0, Value.int 81 0, Value.str (Str.ofString "/claim/cut.py") 410] }
def hob66 : Params → Obj := fun _ => { cls := Value.type "type", data := Data.cls { name := Str.ofString "FractionError", bases := [Value.type "ValueError"], mro := [Value.ref 24, Value.type "ValueError", Value.type "Exception", Value.type "BaseException", Value.type "object"], ns := 23, qualname := Str.ofString "FractionError", subclasses := [Value.ref 37] }, slots := #[some (Value.ref 15), none, some (Value.str (Str.ofString "FractionError") 189), some (Value.str (Str.ofString "FractionError") 197), some (Value.builtin "ValueError.__new__"), some (Value.bool true)] }
def hob285 : Params → Obj := fun _ => { cls := Value.type "tuple", data := Data.seq #[] }
def hob69 : Params → Obj := fun P => { cls := Value.type "dict", data := Data.dict #[{ hash := PyData.keyHash P (Str.ofString "__module__"), key := Value.str (Str.ofString "__module__") 214, val := Value.str (Str.ofString "nearfrac.errors") 187 }, { hash := PyData.keyHash P (Str.ofString "__qualname__"), key := Value.str (Str.ofString "__qualname__") 216, val := Value.str (Str.ofString "NoFraction") 215 }, { hash := PyData.keyHash P (Str.ofString "__firstlineno__"), key := Value.str (Str.ofString "__firstlineno__") 218, val := Value.int 4 217 }, { hash := PyData.keyHash P (Str.ofString "__static_attributes__"), key := Value.str (Str.ofString "__static_attributes__") 219, val := Value.ref 35 }] 4 }
def hob68 : Params → Obj := fun _ => { cls := Value.type "builtin_function_or_method", data := Data.fields #[Value.builtin "type.__prepare__", Value.type "type"] }
def hob51 : Params → Obj := fun _ => { cls := Value.type "tuple", data := Data.seq #[Value.type "ValueError"] }
def hob110 : Params → Obj := fun _ => { cls := Value.none, data := Data.fields #[Value.int 2 0, Value.int 0 0, Value.ref 20, Value.int 4 0, Value.int 0 0, Value.ref 33, Value.int 6 0, Value.int 0 0, Value.ref 45, Value.int 8 0, Value.int 0 0, Value.ref 57, Value.int 10 0, Value.int 0 0, Value.ref 69] }
def hob75 : Params → Obj := fun P => { cls := Value.type "dict", data := Data.dict #[{ hash := PyData.keyHash P (Str.ofString "__module__"), key := Value.str (Str.ofString "__module__") 214, val := Value.str (Str.ofString "nearfrac.errors") 187 }, { hash := PyData.keyHash P (Str.ofString "__firstlineno__"), key := Value.str (Str.ofString "__firstlineno__") 218, val := Value.int 4 217 }, { hash := PyData.keyHash P (Str.ofString "__static_attributes__"), key := Value.str (Str.ofString "__static_attributes__") 219, val := Value.ref 35 }, { hash := PyData.keyHash P (Str.ofString "__doc__"), key := Value.str (Str.ofString "__doc__") 220, val := Value.none }] 2 }
def hob183 : Params → Obj := fun _ => { cls := Value.type "tuple", data := Data.seq #[] }
def hob237 : Params → Obj := fun _ => { cls := Value.type "tuple", data := Data.seq #[] }
def hob251 : Params → Obj := fun _ => { cls := Value.type "tuple", data := Data.seq #[] }
def hob89 : Params → Obj := fun _ => { cls := Value.type "tuple", data := Data.seq #[] }
def hob120 : Params → Obj := fun P => { cls := Value.type "dict", data := Data.dict #[{ hash := PyData.keyHash P (Str.ofString "__module__"), key := Value.str (Str.ofString "__module__") 262, val := Value.str (Str.ofString "nearfrac.errors") 187 }, { hash := PyData.keyHash P (Str.ofString "__firstlineno__"), key := Value.str (Str.ofString "__firstlineno__") 266, val := Value.int 10 265 }, { hash := PyData.keyHash P (Str.ofString "__static_attributes__"), key := Value.str (Str.ofString "__static_attributes__") 267, val := Value.ref 71 }, { hash := PyData.keyHash P (Str.ofString "__doc__"), key := Value.str (Str.ofString "__doc__") 268, val := Value.none }] 2 }
def hob138 : Params → Obj := fun _ => { cls := Value.type "builtin_function_or_method", data := Data.fields #[Value.builtin "object.__init_subclass__", Value.ref 85] }
def hob46 : Params → Obj := fun _ => { cls := Value.type "frame", slots := #[some (Value.ref 13), some (Value.ref 3), some (Value.ref 3), none, some (Value.str (Str.ofString "__main__") 164), none, some (Value.ref 0)] }
def hob212 : Params → Obj := fun _ => { cls := Value.type "function", data := Data.func { name := Str.ofString "_law_is_path", qualname := Str.ofString "_law_is_path", params := hfp 18, body := FuncBody.stmts (hfb 18), scope := hfs 18, globals := 3, closure := [], defaults := Value.none, kwdefaults := Value.none, pyModule := Value.str (Str.ofString "law_uf050018_07") 346, code := Value.ref 152 } }
def hob291 : Params → Obj := fun _ => { cls := Value.type "function", data := Data.func { name := Str.ofString "law", qualname := Str.ofString "law", params := hfp 29, body := FuncBody.stmts (hfb 29), scope := hfs 29, globals := 3, closure := [], defaults := Value.none, kwdefaults := Value.none, pyModule := Value.str (Str.ofString "law_uf050018_07") 346, code := Value.ref 229 } }
def hob257 : Params → Obj := fun _ => { cls := Value.type "tuple", data := Data.seq #[Value.str (Str.ofString "_law_line") 442, Value.str (Str.ofString "_law_path") 443, Value.str (Str.ofString "_law_ahead") 444, Value.str (Str.ofString "_law_word") 445] }
def hob128 : Params → Obj := fun _ => { cls := Value.type "builtin_function_or_method", data := Data.fields #[Value.builtin "type.__prepare__", Value.type "type"] }
def hob279 : Params → Obj := fun _ => { cls := Value.type "tuple", data := Data.seq #[] }
def hob240 : Params → Obj := fun _ => { cls := Value.type "function", data := Data.func { name := Str.ofString "_law_sign_by", qualname := Str.ofString "_law_sign_by", params := hfp 22, body := FuncBody.stmts (hfb 22), scope := hfs 22, globals := 3, closure := [], defaults := Value.none, kwdefaults := Value.none, pyModule := Value.str (Str.ofString "law_uf050018_07") 346, code := Value.ref 180 } }
def hob185 : Params → Obj := fun _ => { cls := Value.type "tuple", data := Data.seq #[Value.str (Str.ofString "_law_script") 351, Value.str (Str.ofString "_law_k") 352] }
def hob250 : Params → Obj := fun _ => { cls := Value.type "tuple", data := Data.seq #[Value.str (Str.ofString "_law_word") 434, Value.str (Str.ofString "_law_sign") 435] }
def hob133 : Params → Obj := fun _ => { cls := Value.type "frame", slots := #[some (Value.ref 81), some (Value.ref 3), some (Value.ref 78), none, some (Value.str (Str.ofString "nearfrac.errors") 187), none, some (Value.ref 0)] }
def hob45 : Params → Obj := fun _ => { cls := Value.type "code", data := Data.fields #[Value.str (Str.ofString "<module>") 182, Value.str (Str.ofString "<module>") 183, Value.str (Str.ofString "/claim/cut.py") 184, Value.int 1 0, Value.int 0 0, Value.int 0 0, Value.int 0 0, Value.int 0 0, Value.ref 11, Value.bool false, Value.int 181 0, Value.ref 12, Value.none, Value.none, Value.none, Value.none, Value.int 185 0, Value.int 1 0, Value.str (Str.ofString "/claim/cut.py") 186] }
def hob203 : Params → Obj := fun _ => { cls := Value.none, data := Data.func { name := Str.ofString "_law_whole", qualname := Str.ofString "_law_whole", params := hfp 17, body := FuncBody.stmts (hfb 17), scope := hfs 17, globals := 0, closure := [], defaults := Value.none, kwdefaults := Value.none } }
def hob168 : Params → Obj := fun _ => { cls := Value.type "builtin_function_or_method", data := Data.fields #[Value.builtin "object.__init_subclass__", Value.ref 109] }
def hob170 : Params → Obj := fun _ => { cls := Value.none, data := Data.fields #[] }
def hob90 : Params → Obj := fun P => { cls := Value.type "dict", data := Data.dict #[{ hash := PyData.keyHash P (Str.ofString "__module__"), key := Value.str (Str.ofString "__module__") 230, val := Value.str (Str.ofString "nearfrac.errors") 187 }, { hash := PyData.keyHash P (Str.ofString "__firstlineno__"), key := Value.str (Str.ofString "__firstlineno__") 234, val := Value.int 6 233 }, { hash := PyData.keyHash P (Str.ofString "__static_attributes__"), key := Value.str (Str.ofString "__static_attributes__") 235, val := Value.ref 47 }, { hash := PyData.keyHash P (Str.ofString "__doc__"), key := Value.str (Str.ofString "__doc__") 236, val := Value.none }] 2 }
def hob261 : Params → Obj := fun _ => { cls := Value.type "function", data := Data.func { name := Str.ofString "_law_due_of", qualname := Str.ofString "_law_due_of", params := hfp 25, body := FuncBody.stmts (hfb 25), scope := hfs 25, globals := 3, closure := [], defaults := Value.none, kwdefaults := Value.none, pyModule := Value.str (Str.ofString "law_uf050018_07") 346, code := Value.ref 201 } }
def hob272 : Params → Obj := fun _ => { cls := Value.type "tuple", data := Data.seq #[] }
def hob238 : Params → Obj := fun _ => { cls := Value.none, data := Data.func { name := Str.ofString "_law_sign_by", qualname := Str.ofString "_law_sign_by", params := hfp 22, body := FuncBody.stmts (hfb 22), scope := hfs 22, globals := 0, closure := [], defaults := Value.none, kwdefaults := Value.none } }
def hob195 : Params → Obj := fun _ => { cls := Value.type "code", data := Data.fields #[Value.str (Str.ofString "_law_way") 356, Value.str (Str.ofString "_law_way") 357, Value.str (Str.ofString "/claim/cut.py") 358, Value.int 49 0, Value.int 3 0, Value.int 0 0, Value.int 0 0, Value.int 3 0, Value.ref 133, Value.bool true, Value.int 181 0, Value.ref 134, Value.none, Value.ref 135, Value.ref 136, Value.ref 137, Value.int 362 0, Value.int 49 0, Value.str (Str.ofString "/claim/cut.py") 363] }
def hob121 : Params → Obj := fun _ => { cls := Value.type "type", data := Data.cls { name := Str.ofString "NoRoom", bases := [Value.ref 24], mro := [Value.ref 73, Value.ref 24, Value.type "ValueError", Value.type "Exception", Value.type "BaseException", Value.type "object"], ns := 72, qualname := Str.ofString "NoRoom" }, slots := #[some (Value.ref 64), none, some (Value.str (Str.ofString "NoRoom") 255), some (Value.str (Str.ofString "NoRoom") 263), some (Value.builtin "ValueError.__new__"), some (Value.bool true)] }
def hob116 : Params → Obj := fun _ => { cls := Value.none, data := Data.fields #[] }
def hob118 : Params → Obj := fun _ => { cls := Value.type "frame", slots := #[some (Value.ref 69), some (Value.ref 3), some (Value.ref 66), none, some (Value.str (Str.ofString "nearfrac.errors") 187), none, some (Value.ref 0)] }
def hob267 : Params → Obj := fun _ => { cls := Value.type "code", data := Data.fields #[Value.str (Str.ofString "_law_odd_line") 449, Value.str (Str.ofString "_law_odd_line") 450, Value.str (Str.ofString "/claim/cut.py") 451, Value.int 120 0, Value.int 1 0, Value.int 0 0, Value.int 0 0, Value.int 3 0, Value.ref 203, Value.bool true, Value.int 181 0, Value.ref 204, Value.none, Value.ref 205, Value.ref 206, Value.ref 207, Value.int 454 0, Value.int 120 0, Value.str (Str.ofString "/claim/cut.py") 455] }
def hob260 : Params → Obj := fun _ => { cls := Value.type "code", data := Data.fields #[Value.str (Str.ofString "_law_due_of") 439, Value.str (Str.ofString "_law_due_of") 440, Value.str (Str.ofString "/claim/cut.py") 441, Value.int 109 0, Value.int 1 0, Value.int 0 0, Value.int 0 0, Value.int 3 0, Value.ref 196, Value.bool true, Value.int 181 0, Value.ref 197, Value.none, Value.ref 198, Value.ref 199, Value.ref 200, Value.int 446 0, Value.int 109 0, Value.str (Str.ofString "/claim/cut.py") 447] }
def hob200 : Params → Obj := fun _ => { cls := Value.none, data := Data.fields #[] }
def hob179 : Params → Obj := fun _ => { cls := Value.type "tuple", data := Data.seq #[] }
def hob108 : Params → Obj := fun _ => { cls := Value.type "builtin_function_or_method", data := Data.fields #[Value.builtin "object.__init_subclass__", Value.ref 61] }
def hob290 : Params → Obj := fun _ => { cls := Value.type "code", data := Data.fields #[Value.str (Str.ofString "law") 473, Value.str (Str.ofString "law") 474, Value.str (Str.ofString "/claim/cut.py") 475, Value.int 134 0, Value.int 1 0, Value.int 0 0, Value.int 0 0, Value.int 3 0, Value.ref 224, Value.bool true, Value.int 181 0, Value.ref 225, Value.none, Value.ref 226, Value.ref 227, Value.ref 228, Value.int 485 0, Value.int 134 0, Value.str (Str.ofString "/claim/cut.py") 486] }
def hob149 : Params → Obj := fun _ => { cls := Value.type "tuple", data := Data.seq #[] }
def hob213 : Params → Obj := fun _ => { cls := Value.type "tuple", data := Data.seq #[] }
def hob193 : Params → Obj := fun _ => { cls := Value.type "tuple", data := Data.seq #[] }
def hob111 : Params → Obj := fun _ => { cls := Value.type "type", data := Data.cls { name := Str.ofString "FractionError", bases := [Value.type "ValueError"], mro := [Value.ref 24, Value.type "ValueError", Value.type "Exception", Value.type "BaseException", Value.type "object"], ns := 23, qualname := Str.ofString "FractionError", subclasses := [Value.ref 37, Value.ref 49, Value.ref 61, Value.ref 73] }, slots := #[some (Value.ref 15), none, some (Value.str (Str.ofString "FractionError") 189), some (Value.str (Str.ofString "FractionError") 197), some (Value.builtin "ValueError.__new__"), some (Value.bool true)] }
def hob160 : Params → Obj := fun _ => { cls := Value.type "tuple", data := Data.seq #[] }
def hob228 : Params → Obj := fun _ => { cls := Value.none, data := Data.fields #[] }
def hob188 : Params → Obj := fun _ => { cls := Value.type "code", data := Data.fields #[Value.str (Str.ofString "_law_cell_at") 348, Value.str (Str.ofString "_law_cell_at") 349, Value.str (Str.ofString "/claim/cut.py") 350, Value.int 45 0, Value.int 2 0, Value.int 0 0, Value.int 0 0, Value.int 3 0, Value.ref 126, Value.bool true, Value.int 181 0, Value.ref 127, Value.none, Value.ref 128, Value.ref 129, Value.ref 130, Value.int 353 0, Value.int 45 0, Value.str (Str.ofString "/claim/cut.py") 354] }
def hob248 : Params → Obj := fun _ => { cls := Value.type "tuple", data := Data.seq #[] }
def hob227 : Params → Obj := fun _ => { cls := Value.type "tuple", data := Data.seq #[] }
def hob236 : Params → Obj := fun _ => { cls := Value.type "tuple", data := Data.seq #[Value.str (Str.ofString "_law_cell") 415, Value.str (Str.ofString "_law_some") 416] }
def hob189 : Params → Obj := fun _ => { cls := Value.type "function", data := Data.func { name := Str.ofString "_law_cell_at", qualname := Str.ofString "_law_cell_at", params := hfp 15, body := FuncBody.stmts (hfb 15), scope := hfs 15, globals := 3, closure := [], defaults := Value.none, kwdefaults := Value.none, pyModule := Value.str (Str.ofString "law_uf050018_07") 346, code := Value.ref 131 } }
def hob163 : Params → Obj := fun _ => { cls := Value.type "frame", slots := #[some (Value.ref 105), some (Value.ref 3), some (Value.ref 102), none, some (Value.str (Str.ofString "nearfrac.errors") 187), none, some (Value.ref 0)] }
def hob156 : Params → Obj := fun _ => { cls := Value.type "type", data := Data.cls { name := Str.ofString "FractionError", bases := [Value.type "ValueError"], mro := [Value.ref 24, Value.type "ValueError", Value.type "Exception", Value.type "BaseException", Value.type "object"], ns := 23, qualname := Str.ofString "FractionError", subclasses := [Value.ref 37, Value.ref 49, Value.ref 61, Value.ref 73, Value.ref 85, Value.ref 97, Value.ref 109] }, slots := #[some (Value.ref 15), none, some (Value.str (Str.ofString "FractionError") 189), some (Value.str (Str.ofString "FractionError") 197), some (Value.builtin "ValueError.__new__"), some (Value.bool true)] }
def hob191 : Params → Obj := fun _ => { cls := Value.none, data := Data.fields #[] }
def hob98 : Params → Obj := fun _ => { cls := Value.type "builtin_function_or_method", data := Data.fields #[Value.builtin "type.__prepare__", Value.type "type"] }
def hob95 : Params → Obj := fun _ => { cls := Value.none, data := Data.fields #[Value.int 2 0, Value.int 0 0, Value.ref 20, Value.int 4 0, Value.int 0 0, Value.ref 33, Value.int 6 0, Value.int 0 0, Value.ref 45, Value.int 8 0, Value.int 0 0, Value.ref 57] }
def hob135 : Params → Obj := fun P => { cls := Value.type "dict", data := Data.dict #[{ hash := PyData.keyHash P (Str.ofString "__module__"), key := Value.str (Str.ofString "__module__") 278, val := Value.str (Str.ofString "nearfrac.errors") 187 }, { hash := PyData.keyHash P (Str.ofString "__firstlineno__"), key := Value.str (Str.ofString "__firstlineno__") 282, val := Value.int 12 281 }, { hash := PyData.keyHash P (Str.ofString "__static_attributes__"), key := Value.str (Str.ofString "__static_attributes__") 283, val := Value.ref 83 }, { hash := PyData.keyHash P (Str.ofString "__doc__"), key := Value.str (Str.ofString "__doc__") 284, val := Value.none }] 2 }
def hob79 : Params → Obj := fun P => { cls := Value.type "dict", data := Data.dict #[{ hash := PyData.keyHash P (Str.ofString "__name__"), key := Value.str (Str.ofString "__name__") 165, val := Value.str (Str.ofString "nearfrac.errors") 187 }, { hash := PyData.keyHash P (Str.ofString "__doc__"), key := Value.str (Str.ofString "__doc__") 166, val := Value.none }, { hash := PyData.keyHash P (Str.ofString "__package__"), key := Value.str (Str.ofString "__package__") 167, val := Value.none }, { hash := PyData.keyHash P (Str.ofString "__loader__"), key := Value.str (Str.ofString "__loader__") 168, val := Value.builtin "__main__.__loader__#opaque" }, { hash := PyData.keyHash P (Str.ofString "__spec__"), key := Value.str (Str.ofString "__spec__") 169, val := Value.none }, { hash := PyData.keyHash P (Str.ofString "__annotations__"), key := Value.str (Str.ofString "__annotations__") 170, val := Value.ref 6 }, { hash := PyData.keyHash P (Str.ofString "__builtins__"), key := Value.str (Str.ofString "__builtins__") 171, val := Value.ref 4 }, { hash := PyData.keyHash P (Str.ofString "__file__"), key := Value.str (Str.ofString "__file__") 173, val := Value.str (Str.ofString "/claim/cut.py") 172 }, { hash := PyData.keyHash P (Str.ofString "__cached__"), key := Value.str (Str.ofString "__cached__") 174, val := Value.none }, { hash := PyData.keyHash P (Str.ofString "FractionError"), key := Value.str (Str.ofString "FractionError") 206, val := Value.ref 24 }, { hash := PyData.keyHash P (Str.ofString "NoFraction"), key := Value.str (Str.ofString "NoFraction") 222, val := Value.ref 37 }, { hash := PyData.keyHash P (Str.ofString "NoPath"), key := Value.str (Str.ofString "NoPath") 238, val := Value.ref 49 }] 12 }
def hob231 : Params → Obj := fun _ => { cls := Value.none, data := Data.func { name := Str.ofString "_law_line_of", qualname := Str.ofString "_law_line_of", params := hfp 21, body := FuncBody.stmts (hfb 21), scope := hfs 21, globals := 0, closure := [], defaults := Value.none, kwdefaults := Value.none } }
def hob74 : Params → Obj := fun _ => { cls := Value.type "tuple", data := Data.seq #[] }
def hob273 : Params → Obj := fun _ => { cls := Value.none, data := Data.func { name := Str.ofString "_law_alone", qualname := Str.ofString "_law_alone", params := hfp 27, body := FuncBody.stmts (hfb 27), scope := hfs 27, globals := 0, closure := [], defaults := Value.none, kwdefaults := Value.none } }
def hob229 : Params → Obj := fun _ => { cls := Value.type "tuple", data := Data.seq #[Value.str (Str.ofString "_law_path") 406, Value.str (Str.ofString "_law_words") 407, Value.str (Str.ofString "_law_run") 408] }
def hob216 : Params → Obj := fun _ => { cls := Value.type "tuple", data := Data.seq #[] }
def hob124 : Params → Obj := fun P => { cls := Value.type "dict", data := Data.dict #[{ hash := PyData.keyHash P (Str.ofString "__name__"), key := Value.str (Str.ofString "__name__") 165, val := Value.str (Str.ofString "nearfrac.errors") 187 }, { hash := PyData.keyHash P (Str.ofString "__doc__"), key := Value.str (Str.ofString "__doc__") 166, val := Value.none }, { hash := PyData.keyHash P (Str.ofString "__package__"), key := Value.str (Str.ofString "__package__") 167, val := Value.none }, { hash := PyData.keyHash P (Str.ofString "__loader__"), key := Value.str (Str.ofString "__loader__") 168, val := Value.builtin "__main__.__loader__#opaque" }, { hash := PyData.keyHash P (Str.ofString "__spec__"), key := Value.str (Str.ofString "__spec__") 169, val := Value.none }, { hash := PyData.keyHash P (Str.ofString "__annotations__"), key := Value.str (Str.ofString "__annotations__") 170, val := Value.ref 6 }, { hash := PyData.keyHash P (Str.ofString "__builtins__"), key := Value.str (Str.ofString "__builtins__") 171, val := Value.ref 4 }, { hash := PyData.keyHash P (Str.ofString "__file__"), key := Value.str (Str.ofString "__file__") 173, val := Value.str (Str.ofString "/claim/cut.py") 172 }, { hash := PyData.keyHash P (Str.ofString "__cached__"), key := Value.str (Str.ofString "__cached__") 174, val := Value.none }, { hash := PyData.keyHash P (Str.ofString "FractionError"), key := Value.str (Str.ofString "FractionError") 206, val := Value.ref 24 }, { hash := PyData.keyHash P (Str.ofString "NoFraction"), key := Value.str (Str.ofString "NoFraction") 222, val := Value.ref 37 }, { hash := PyData.keyHash P (Str.ofString "NoPath"), key := Value.str (Str.ofString "NoPath") 238, val := Value.ref 49 }, { hash := PyData.keyHash P (Str.ofString "NoBounds"), key := Value.str (Str.ofString "NoBounds") 254, val := Value.ref 61 }, { hash := PyData.keyHash P (Str.ofString "NoRoom"), key := Value.str (Str.ofString "NoRoom") 270, val := Value.ref 73 }, { hash := PyData.keyHash P (Str.ofString "Unsure"), key := Value.str (Str.ofString "Unsure") 286, val := Value.ref 85 }] 15 }
def hob92 : Params → Obj := fun _ => { cls := Value.type "super", data := Data.fields #[Value.ref 49, Value.ref 49, Value.ref 49] }
def hob199 : Params → Obj := fun _ => { cls := Value.type "tuple", data := Data.seq #[] }
def hob217 : Params → Obj := fun _ => { cls := Value.none, data := Data.func { name := Str.ofString "_law_many_by", qualname := Str.ofString "_law_many_by", params := hfp 19, body := FuncBody.stmts (hfb 19), scope := hfs 19, globals := 0, closure := [], defaults := Value.none, kwdefaults := Value.none } }
def hob152 : Params → Obj := fun _ => { cls := Value.type "super", data := Data.fields #[Value.ref 97, Value.ref 97, Value.ref 97] }
def hob230 : Params → Obj := fun _ => { cls := Value.type "tuple", data := Data.seq #[] }
def hob171 : Params → Obj := fun _ => { cls := Value.type "tuple", data := Data.seq #[Value.str (Str.ofString "word") 328, Value.str (Str.ofString "sign") 329] }
def hob207 : Params → Obj := fun _ => { cls := Value.none, data := Data.fields #[] }
def hob233 : Params → Obj := fun _ => { cls := Value.type "function", data := Data.func { name := Str.ofString "_law_line_of", qualname := Str.ofString "_law_line_of", params := hfp 21, body := FuncBody.stmts (hfb 21), scope := hfs 21, globals := 3, closure := [], defaults := Value.none, kwdefaults := Value.none, pyModule := Value.str (Str.ofString "law_uf050018_07") 346, code := Value.ref 173 } }
def hob241 : Params → Obj := fun _ => { cls := Value.type "tuple", data := Data.seq #[] }
def hob282 : Params → Obj := fun _ => { cls := Value.type "function", data := Data.func { name := Str.ofString "_law_refused", qualname := Str.ofString "_law_refused", params := hfp 28, body := FuncBody.stmts (hfb 28), scope := hfs 28, globals := 3, closure := [], defaults := Value.none, kwdefaults := Value.none, pyModule := Value.str (Str.ofString "law_uf050018_07") 346, code := Value.ref 222 } }
def hob107 : Params → Obj := fun _ => { cls := Value.type "super", data := Data.fields #[Value.ref 61, Value.ref 61, Value.ref 61] }
def hob141 : Params → Obj := fun _ => { cls := Value.type "type", data := Data.cls { name := Str.ofString "FractionError", bases := [Value.type "ValueError"], mro := [Value.ref 24, Value.type "ValueError", Value.type "Exception", Value.type "BaseException", Value.type "object"], ns := 23, qualname := Str.ofString "FractionError", subclasses := [Value.ref 37, Value.ref 49, Value.ref 61, Value.ref 73, Value.ref 85, Value.ref 97] }, slots := #[some (Value.ref 15), none, some (Value.str (Str.ofString "FractionError") 189), some (Value.str (Str.ofString "FractionError") 197), some (Value.builtin "ValueError.__new__"), some (Value.bool true)] }
def hob147 : Params → Obj := fun _ => { cls := Value.type "code", data := Data.fields #[Value.str (Str.ofString "NoText") 289, Value.str (Str.ofString "NoText") 290, Value.str (Str.ofString "/claim/cut.py") 291, Value.int 14 0, Value.int 0 0, Value.int 0 0, Value.int 0 0, Value.int 0 0, Value.ref 91, Value.bool false, Value.int 181 0, Value.ref 92, Value.none, Value.none, Value.none, Value.none, Value.int 292 0, Value.int 14 0, Value.str (Str.ofString "/claim/cut.py") 293] }
def hob72 : Params → Obj := fun _ => { cls := Value.type "code", data := Data.fields #[Value.str (Str.ofString "NoFraction") 209, Value.str (Str.ofString "NoFraction") 210, Value.str (Str.ofString "/claim/cut.py") 211, Value.int 4 0, Value.int 0 0, Value.int 0 0, Value.int 0 0, Value.int 0 0, Value.ref 31, Value.bool false, Value.int 181 0, Value.ref 32, Value.none, Value.none, Value.none, Value.none, Value.int 212 0, Value.int 4 0, Value.str (Str.ofString "/claim/cut.py") 213] }
def hob93 : Params → Obj := fun _ => { cls := Value.type "builtin_function_or_method", data := Data.fields #[Value.builtin "object.__init_subclass__", Value.ref 49] }
def hob102 : Params → Obj := fun _ => { cls := Value.type "code", data := Data.fields #[Value.str (Str.ofString "NoBounds") 241, Value.str (Str.ofString "NoBounds") 242, Value.str (Str.ofString "/claim/cut.py") 243, Value.int 8 0, Value.int 0 0, Value.int 0 0, Value.int 0 0, Value.int 0 0, Value.ref 55, Value.bool false, Value.int 181 0, Value.ref 56, Value.none, Value.none, Value.none, Value.none, Value.int 244 0, Value.int 8 0, Value.str (Str.ofString "/claim/cut.py") 245] }
def hob247 : Params → Obj := fun _ => { cls := Value.type "function", data := Data.func { name := Str.ofString "_law_turned", qualname := Str.ofString "_law_turned", params := hfp 23, body := FuncBody.stmts (hfb 23), scope := hfs 23, globals := 3, closure := [], defaults := Value.none, kwdefaults := Value.none, pyModule := Value.str (Str.ofString "law_uf050018_07") 346, code := Value.ref 187 } }
def hob57 : Params → Obj := fun _ => { cls := Value.type "frame", slots := #[some (Value.ref 20), some (Value.ref 3), some (Value.ref 17), none, some (Value.str (Str.ofString "nearfrac.errors") 187), none, some (Value.ref 0)] }
def hob94 : Params → Obj := fun P => { cls := Value.type "dict", data := Data.dict #[{ hash := PyData.keyHash P (Str.ofString "__name__"), key := Value.str (Str.ofString "__name__") 165, val := Value.str (Str.ofString "nearfrac.errors") 187 }, { hash := PyData.keyHash P (Str.ofString "__doc__"), key := Value.str (Str.ofString "__doc__") 166, val := Value.none }, { hash := PyData.keyHash P (Str.ofString "__package__"), key := Value.str (Str.ofString "__package__") 167, val := Value.none }, { hash := PyData.keyHash P (Str.ofString "__loader__"), key := Value.str (Str.ofString "__loader__") 168, val := Value.builtin "__main__.__loader__#opaque" }, { hash := PyData.keyHash P (Str.ofString "__spec__"), key := Value.str (Str.ofString "__spec__") 169, val := Value.none }, { hash := PyData.keyHash P (Str.ofString "__annotations__"), key := Value.str (Str.ofString "__annotations__") 170, val := Value.ref 6 }, { hash := PyData.keyHash P (Str.ofString "__builtins__"), key := Value.str (Str.ofString "__builtins__") 171, val := Value.ref 4 }, { hash := PyData.keyHash P (Str.ofString "__file__"), key := Value.str (Str.ofString "__file__") 173, val := Value.str (Str.ofString "/claim/cut.py") 172 }, { hash := PyData.keyHash P (Str.ofString "__cached__"), key := Value.str (Str.ofString "__cached__") 174, val := Value.none }, { hash := PyData.keyHash P (Str.ofString "FractionError"), key := Value.str (Str.ofString "FractionError") 206, val := Value.ref 24 }, { hash := PyData.keyHash P (Str.ofString "NoFraction"), key := Value.str (Str.ofString "NoFraction") 222, val := Value.ref 37 }, { hash := PyData.keyHash P (Str.ofString "NoPath"), key := Value.str (Str.ofString "NoPath") 238, val := Value.ref 49 }, { hash := PyData.keyHash P (Str.ofString "NoBounds"), key := Value.str (Str.ofString "NoBounds") 254, val := Value.ref 61 }] 13 }
def hob194 : Params → Obj := fun _ => { cls := Value.none, data := Data.func { name := Str.ofString "_law_way", qualname := Str.ofString "_law_way", params := hfp 16, body := FuncBody.stmts (hfb 16), scope := hfs 16, globals := 0, closure := [], defaults := Value.none, kwdefaults := Value.none } }
def hob55 : Params → Obj := fun _ => { cls := Value.none, data := Data.fields #[] }
def hob144 : Params → Obj := fun P => { cls := Value.type "dict", data := Data.dict #[{ hash := PyData.keyHash P (Str.ofString "__module__"), key := Value.str (Str.ofString "__module__") 294, val := Value.str (Str.ofString "nearfrac.errors") 187 }, { hash := PyData.keyHash P (Str.ofString "__qualname__"), key := Value.str (Str.ofString "__qualname__") 296, val := Value.str (Str.ofString "NoText") 295 }, { hash := PyData.keyHash P (Str.ofString "__firstlineno__"), key := Value.str (Str.ofString "__firstlineno__") 298, val := Value.int 14 297 }, { hash := PyData.keyHash P (Str.ofString "__static_attributes__"), key := Value.str (Str.ofString "__static_attributes__") 299, val := Value.ref 95 }] 4 }
def hob58 : Params → Obj := fun _ => { cls := Value.type "tuple", data := Data.seq #[] }
def hob205 : Params → Obj := fun _ => { cls := Value.type "function", data := Data.func { name := Str.ofString "_law_whole", qualname := Str.ofString "_law_whole", params := hfp 17, body := FuncBody.stmts (hfb 17), scope := hfs 17, globals := 3, closure := [], defaults := Value.none, kwdefaults := Value.none, pyModule := Value.str (Str.ofString "law_uf050018_07") 346, code := Value.ref 145 } }
def hob85 : Params → Obj := fun _ => { cls := Value.type "tuple", data := Data.seq #[] }
def hob259 : Params → Obj := fun _ => { cls := Value.none, data := Data.func { name := Str.ofString "_law_due_of", qualname := Str.ofString "_law_due_of", params := hfp 25, body := FuncBody.stmts (hfb 25), scope := hfs 25, globals := 0, closure := [], defaults := Value.none, kwdefaults := Value.none } }
def hob182 : Params → Obj := fun _ => { cls := Value.type "function", data := Data.func { name := Str.ofString "read", qualname := Str.ofString "read", params := hfp 13, body := FuncBody.stmts (hfb 13), scope := hfs 13, globals := 3, closure := [], defaults := Value.none, kwdefaults := Value.none, pyModule := Value.str (Str.ofString "nearfrac.notes") 319, code := Value.ref 124 } }
def hob82 : Params → Obj := fun _ => { cls := Value.type "tuple", data := Data.seq #[Value.ref 24] }
def hob255 : Params → Obj := fun _ => { cls := Value.type "tuple", data := Data.seq #[] }
def hob181 : Params → Obj := fun _ => { cls := Value.type "code", data := Data.fields #[Value.str (Str.ofString "read") 333, Value.str (Str.ofString "read") 334, Value.str (Str.ofString "/claim/cut.py") 335, Value.int 28 0, Value.int 1 0, Value.int 0 0, Value.int 0 0, Value.int 3 0, Value.ref 119, Value.bool true, Value.int 181 0, Value.ref 120, Value.none, Value.ref 121, Value.ref 122, Value.ref 123, Value.int 343 0, Value.int 28 0, Value.str (Str.ofString "/claim/cut.py") 344] }
def hob78 : Params → Obj := fun _ => { cls := Value.type "builtin_function_or_method", data := Data.fields #[Value.builtin "object.__init_subclass__", Value.ref 37] }
def hob166 : Params → Obj := fun _ => { cls := Value.type "type", data := Data.cls { name := Str.ofString "NoNumber", bases := [Value.ref 24], mro := [Value.ref 109, Value.ref 24, Value.type "ValueError", Value.type "Exception", Value.type "BaseException", Value.type "object"], ns := 108, qualname := Str.ofString "NoNumber" }, slots := #[some (Value.ref 100), none, some (Value.str (Str.ofString "NoNumber") 303), some (Value.str (Str.ofString "NoNumber") 311), some (Value.builtin "ValueError.__new__"), some (Value.bool true)] }
def hob86 : Params → Obj := fun _ => { cls := Value.none, data := Data.fields #[] }
def hob63 : Params → Obj := fun _ => { cls := Value.type "builtin_function_or_method", data := Data.fields #[Value.builtin "object.__init_subclass__", Value.ref 24] }
def hob44 : Params → Obj := fun _ => { cls := Value.none, data := Data.fields #[] }
def hob109 : Params → Obj := fun P => { cls := Value.type "dict", data := Data.dict #[{ hash := PyData.keyHash P (Str.ofString "__name__"), key := Value.str (Str.ofString "__name__") 165, val := Value.str (Str.ofString "nearfrac.errors") 187 }, { hash := PyData.keyHash P (Str.ofString "__doc__"), key := Value.str (Str.ofString "__doc__") 166, val := Value.none }, { hash := PyData.keyHash P (Str.ofString "__package__"), key := Value.str (Str.ofString "__package__") 167, val := Value.none }, { hash := PyData.keyHash P (Str.ofString "__loader__"), key := Value.str (Str.ofString "__loader__") 168, val := Value.builtin "__main__.__loader__#opaque" }, { hash := PyData.keyHash P (Str.ofString "__spec__"), key := Value.str (Str.ofString "__spec__") 169, val := Value.none }, { hash := PyData.keyHash P (Str.ofString "__annotations__"), key := Value.str (Str.ofString "__annotations__") 170, val := Value.ref 6 }, { hash := PyData.keyHash P (Str.ofString "__builtins__"), key := Value.str (Str.ofString "__builtins__") 171, val := Value.ref 4 }, { hash := PyData.keyHash P (Str.ofString "__file__"), key := Value.str (Str.ofString "__file__") 173, val := Value.str (Str.ofString "/claim/cut.py") 172 }, { hash := PyData.keyHash P (Str.ofString "__cached__"), key := Value.str (Str.ofString "__cached__") 174, val := Value.none }, { hash := PyData.keyHash P (Str.ofString "FractionError"), key := Value.str (Str.ofString "FractionError") 206, val := Value.ref 24 }, { hash := PyData.keyHash P (Str.ofString "NoFraction"), key := Value.str (Str.ofString "NoFraction") 222, val := Value.ref 37 }, { hash := PyData.keyHash P (Str.ofString "NoPath"), key := Value.str (Str.ofString "NoPath") 238, val := Value.ref 49 }, { hash := PyData.keyHash P (Str.ofString "NoBounds"), key := Value.str (Str.ofString "NoBounds") 254, val := Value.ref 61 }, { hash := PyData.keyHash P (Str.ofString "NoRoom"), key := Value.str (Str.ofString "NoRoom") 270, val := Value.ref 73 }] 14 }
def hob142 : Params → Obj := fun _ => { cls := Value.type "tuple", data := Data.seq #[Value.ref 24] }
def hob59 : Params → Obj := fun P => { cls := Value.type "dict", data := Data.dict #[{ hash := PyData.keyHash P (Str.ofString "__module__"), key := Value.str (Str.ofString "__module__") 196, val := Value.str (Str.ofString "nearfrac.errors") 187 }, { hash := PyData.keyHash P (Str.ofString "__firstlineno__"), key := Value.str (Str.ofString "__firstlineno__") 200, val := Value.int 2 199 }, { hash := PyData.keyHash P (Str.ofString "__static_attributes__"), key := Value.str (Str.ofString "__static_attributes__") 201, val := Value.ref 22 }, { hash := PyData.keyHash P (Str.ofString "__weakref__"), key := Value.str (Str.ofString "__weakref__") 203, val := Value.ref 25 }, { hash := PyData.keyHash P (Str.ofString "__doc__"), key := Value.str (Str.ofString "__doc__") 204, val := Value.none }] 3 }
def hob190 : Params → Obj := fun _ => { cls := Value.type "tuple", data := Data.seq #[] }
def hob219 : Params → Obj := fun _ => { cls := Value.type "function", data := Data.func { name := Str.ofString "_law_many_by", qualname := Str.ofString "_law_many_by", params := hfp 19, body := FuncBody.stmts (hfb 19), scope := hfs 19, globals := 3, closure := [], defaults := Value.none, kwdefaults := Value.none, pyModule := Value.str (Str.ofString "law_uf050018_07") 346, code := Value.ref 159 } }
def hob114 : Params → Obj := fun P => { cls := Value.type "dict", data := Data.dict #[{ hash := PyData.keyHash P (Str.ofString "__module__"), key := Value.str (Str.ofString "__module__") 262, val := Value.str (Str.ofString "nearfrac.errors") 187 }, { hash := PyData.keyHash P (Str.ofString "__qualname__"), key := Value.str (Str.ofString "__qualname__") 264, val := Value.str (Str.ofString "NoRoom") 263 }, { hash := PyData.keyHash P (Str.ofString "__firstlineno__"), key := Value.str (Str.ofString "__firstlineno__") 266, val := Value.int 10 265 }, { hash := PyData.keyHash P (Str.ofString "__static_attributes__"), key := Value.str (Str.ofString "__static_attributes__") 267, val := Value.ref 71 }] 4 }
def hob136 : Params → Obj := fun _ => { cls := Value.type "type", data := Data.cls { name := Str.ofString "Unsure", bases := [Value.ref 24], mro := [Value.ref 85, Value.ref 24, Value.type "ValueError", Value.type "Exception", Value.type "BaseException", Value.type "object"], ns := 84, qualname := Str.ofString "Unsure" }, slots := #[some (Value.ref 76), none, some (Value.str (Str.ofString "Unsure") 271), some (Value.str (Str.ofString "Unsure") 279), some (Value.builtin "ValueError.__new__"), some (Value.bool true)] }
def hob277 : Params → Obj := fun _ => { cls := Value.none, data := Data.fields #[] }
def hob178 : Params → Obj := fun _ => { cls := Value.type "tuple", data := Data.seq #[Value.str (Str.ofString "line") 336, Value.str (Str.ofString "path") 337, Value.str (Str.ofString "ahead") 338, Value.str (Str.ofString "word") 339, Value.str (Str.ofString "sign") 340, Value.str (Str.ofString "figures") 341, Value.str (Str.ofString "way") 342] }
def hob192 : Params → Obj := fun _ => { cls := Value.type "tuple", data := Data.seq #[Value.str (Str.ofString "_law_script") 359, Value.str (Str.ofString "_law_k") 360, Value.str (Str.ofString "_law_many") 361] }
def hob104 : Params → Obj := fun _ => { cls := Value.type "tuple", data := Data.seq #[] }
def hob177 : Params → Obj := fun _ => { cls := Value.none, data := Data.fields #[] }
def hob43 : Params → Obj := fun _ => { cls := Value.type "tuple", data := Data.seq #[] }
def hob281 : Params → Obj := fun _ => { cls := Value.type "code", data := Data.fields #[Value.str (Str.ofString "_law_refused") 465, Value.str (Str.ofString "_law_refused") 466, Value.str (Str.ofString "/claim/cut.py") 467, Value.int 128 0, Value.int 1 0, Value.int 0 0, Value.int 0 0, Value.int 3 0, Value.ref 217, Value.bool true, Value.int 181 0, Value.ref 218, Value.none, Value.ref 219, Value.ref 220, Value.ref 221, Value.int 470 0, Value.int 128 0, Value.str (Str.ofString "/claim/cut.py") 471] }
def hob220 : Params → Obj := fun _ => { cls := Value.type "tuple", data := Data.seq #[] }
def hob218 : Params → Obj := fun _ => { cls := Value.type "code", data := Data.fields #[Value.str (Str.ofString "_law_many_by") 381, Value.str (Str.ofString "_law_many_by") 382, Value.str (Str.ofString "/claim/cut.py") 383, Value.int 64 0, Value.int 3 0, Value.int 0 0, Value.int 0 0, Value.int 3 0, Value.ref 154, Value.bool true, Value.int 181 0, Value.ref 155, Value.none, Value.ref 156, Value.ref 157, Value.ref 158, Value.int 387 0, Value.int 64 0, Value.str (Str.ofString "/claim/cut.py") 388] }
def hob284 : Params → Obj := fun _ => { cls := Value.none, data := Data.fields #[Value.int 2 0, Value.int 0 0, Value.ref 20, Value.int 4 0, Value.int 0 0, Value.ref 33, Value.int 6 0, Value.int 0 0, Value.ref 45, Value.int 8 0, Value.int 0 0, Value.ref 57, Value.int 10 0, Value.int 0 0, Value.ref 69, Value.int 12 0, Value.int 0 0, Value.ref 81, Value.int 14 0, Value.int 0 0, Value.ref 93, Value.int 16 0, Value.int 0 0, Value.ref 105, Value.int 21 0, Value.int 0 0, Value.ref 117, Value.int 28 0, Value.int 0 0, Value.ref 124, Value.int 45 0, Value.int 0 0, Value.ref 131, Value.int 49 0, Value.int 0 0, Value.ref 138, Value.int 51 0, Value.int 0 0, Value.ref 145, Value.int 53 0, Value.int 0 0, Value.ref 152, Value.int 64 0, Value.int 0 0, Value.ref 159, Value.int 68 0, Value.int 0 0, Value.ref 166, Value.int 81 0, Value.int 0 0, Value.ref 173, Value.int 91 0, Value.int 0 0, Value.ref 180, Value.int 95 0, Value.int 0 0, Value.ref 187, Value.int 104 0, Value.int 0 0, Value.ref 194, Value.int 109 0, Value.int 0 0, Value.ref 201, Value.int 120 0, Value.int 0 0, Value.ref 208, Value.int 124 0, Value.int 0 0, Value.ref 215, Value.int 128 0, Value.int 0 0, Value.ref 222, Value.int 134 0, Value.int 0 0, Value.ref 229] }
def hob245 : Params → Obj := fun _ => { cls := Value.none, data := Data.func { name := Str.ofString "_law_turned", qualname := Str.ofString "_law_turned", params := hfp 23, body := FuncBody.stmts (hfb 23), scope := hfs 23, globals := 0, closure := [], defaults := Value.none, kwdefaults := Value.none } }
def hob214 : Params → Obj := fun _ => { cls := Value.none, data := Data.fields #[] }
def hob174 : Params → Obj := fun _ => { cls := Value.type "code", data := Data.fields #[Value.str (Str.ofString "is_figures") 325, Value.str (Str.ofString "is_figures") 326, Value.str (Str.ofString "/claim/cut.py") 327, Value.int 21 0, Value.int 1 0, Value.int 0 0, Value.int 0 0, Value.int 3 0, Value.ref 112, Value.bool true, Value.int 181 0, Value.ref 113, Value.none, Value.ref 114, Value.ref 115, Value.ref 116, Value.int 330 0, Value.int 21 0, Value.str (Str.ofString "/claim/cut.py") 331] }
def hob271 : Params → Obj := fun _ => { cls := Value.type "tuple", data := Data.seq #[Value.str (Str.ofString "_law_e") 460, Value.str (Str.ofString "_law_kinds") 461] }
def hob73 : Params → Obj := fun _ => { cls := Value.type "frame", slots := #[some (Value.ref 33), some (Value.ref 3), some (Value.ref 30), none, some (Value.str (Str.ofString "nearfrac.errors") 187), none, some (Value.ref 0)] }
def hob139 : Params → Obj := fun P => { cls := Value.type "dict", data := Data.dict #[{ hash := PyData.keyHash P (Str.ofString "__name__"), key := Value.str (Str.ofString "__name__") 165, val := Value.str (Str.ofString "nearfrac.errors") 187 }, { hash := PyData.keyHash P (Str.ofString "__doc__"), key := Value.str (Str.ofString "__doc__") 166, val := Value.none }, { hash := PyData.keyHash P (Str.ofString "__package__"), key := Value.str (Str.ofString "__package__") 167, val := Value.none }, { hash := PyData.keyHash P (Str.ofString "__loader__"), key := Value.str (Str.ofString "__loader__") 168, val := Value.builtin "__main__.__loader__#opaque" }, { hash := PyData.keyHash P (Str.ofString "__spec__"), key := Value.str (Str.ofString "__spec__") 169, val := Value.none }, { hash := PyData.keyHash P (Str.ofString "__annotations__"), key := Value.str (Str.ofString "__annotations__") 170, val := Value.ref 6 }, { hash := PyData.keyHash P (Str.ofString "__builtins__"), key := Value.str (Str.ofString "__builtins__") 171, val := Value.ref 4 }, { hash := PyData.keyHash P (Str.ofString "__file__"), key := Value.str (Str.ofString "__file__") 173, val := Value.str (Str.ofString "/claim/cut.py") 172 }, { hash := PyData.keyHash P (Str.ofString "__cached__"), key := Value.str (Str.ofString "__cached__") 174, val := Value.none }, { hash := PyData.keyHash P (Str.ofString "FractionError"), key := Value.str (Str.ofString "FractionError") 206, val := Value.ref 24 }, { hash := PyData.keyHash P (Str.ofString "NoFraction"), key := Value.str (Str.ofString "NoFraction") 222, val := Value.ref 37 }, { hash := PyData.keyHash P (Str.ofString "NoPath"), key := Value.str (Str.ofString "NoPath") 238, val := Value.ref 49 }, { hash := PyData.keyHash P (Str.ofString "NoBounds"), key := Value.str (Str.ofString "NoBounds") 254, val := Value.ref 61 }, { hash := PyData.keyHash P (Str.ofString "NoRoom"), key := Value.str (Str.ofString "NoRoom") 270, val := Value.ref 73 }, { hash := PyData.keyHash P (Str.ofString "Unsure"), key := Value.str (Str.ofString "Unsure") 286, val := Value.ref 85 }, { hash := PyData.keyHash P (Str.ofString "NoText"), key := Value.str (Str.ofString "NoText") 302, val := Value.ref 97 }] 16 }
def hob198 : Params → Obj := fun _ => { cls := Value.none, data := Data.fields #[Value.int 2 0, Value.int 0 0, Value.ref 20, Value.int 4 0, Value.int 0 0, Value.ref 33, Value.int 6 0, Value.int 0 0, Value.ref 45, Value.int 8 0, Value.int 0 0, Value.ref 57, Value.int 10 0, Value.int 0 0, Value.ref 69, Value.int 12 0, Value.int 0 0, Value.ref 81, Value.int 14 0, Value.int 0 0, Value.ref 93, Value.int 16 0, Value.int 0 0, Value.ref 105, Value.int 21 0, Value.int 0 0, Value.ref 117, Value.int 28 0, Value.int 0 0, Value.ref 124, Value.int 45 0, Value.int 0 0, Value.ref 131, Value.int 49 0, Value.int 0 0, Value.ref 138, Value.int 51 0, Value.int 0 0, Value.ref 145, Value.int 53 0, Value.int 0 0, Value.ref 152, Value.int 64 0, Value.int 0 0, Value.ref 159, Value.int 68 0, Value.int 0 0, Value.ref 166, Value.int 81 0, Value.int 0 0, Value.ref 173, Value.int 91 0, Value.int 0 0, Value.ref 180, Value.int 95 0, Value.int 0 0, Value.ref 187, Value.int 104 0, Value.int 0 0, Value.ref 194, Value.int 109 0, Value.int 0 0, Value.ref 201, Value.int 120 0, Value.int 0 0, Value.ref 208, Value.int 124 0, Value.int 0 0, Value.ref 215, Value.int 128 0, Value.int 0 0, Value.ref 222] }
def hob186 : Params → Obj := fun _ => { cls := Value.type "tuple", data := Data.seq #[] }
def hob165 : Params → Obj := fun P => { cls := Value.type "dict", data := Data.dict #[{ hash := PyData.keyHash P (Str.ofString "__module__"), key := Value.str (Str.ofString "__module__") 310, val := Value.str (Str.ofString "nearfrac.errors") 187 }, { hash := PyData.keyHash P (Str.ofString "__firstlineno__"), key := Value.str (Str.ofString "__firstlineno__") 314, val := Value.int 16 313 }, { hash := PyData.keyHash P (Str.ofString "__static_attributes__"), key := Value.str (Str.ofString "__static_attributes__") 315, val := Value.ref 107 }, { hash := PyData.keyHash P (Str.ofString "__doc__"), key := Value.str (Str.ofString "__doc__") 316, val := Value.none }] 2 }
def hob278 : Params → Obj := fun _ => { cls := Value.type "tuple", data := Data.seq #[Value.str (Str.ofString "_law_line") 468, Value.str (Str.ofString "_law_e") 469] }
def hob289 : Params → Obj := fun _ => { cls := Value.none, data := Data.func { name := Str.ofString "law", qualname := Str.ofString "law", params := hfp 29, body := FuncBody.stmts (hfb 29), scope := hfs 29, globals := 0, closure := [], defaults := Value.none, kwdefaults := Value.none } }
def hob223 : Params → Obj := fun _ => { cls := Value.type "tuple", data := Data.seq #[] }
def hob65 : Params → Obj := fun _ => { cls := Value.none, data := Data.fields #[Value.int 2 0, Value.int 0 0, Value.ref 20, Value.int 4 0, Value.int 0 0, Value.ref 33] }
def hob239 : Params → Obj := fun _ => { cls := Value.type "code", data := Data.fields #[Value.str (Str.ofString "_law_sign_by") 412, Value.str (Str.ofString "_law_sign_by") 413, Value.str (Str.ofString "/claim/cut.py") 414, Value.int 91 0, Value.int 1 0, Value.int 0 0, Value.int 0 0, Value.int 3 0, Value.ref 175, Value.bool true, Value.int 181 0, Value.ref 176, Value.none, Value.ref 177, Value.ref 178, Value.ref 179, Value.int 417 0, Value.int 91 0, Value.str (Str.ofString "/claim/cut.py") 418] }
def hob158 : Params → Obj := fun _ => { cls := Value.type "builtin_function_or_method", data := Data.fields #[Value.builtin "type.__prepare__", Value.type "type"] }
def hob131 : Params → Obj := fun _ => { cls := Value.none, data := Data.fields #[] }
def hob176 : Params → Obj := fun _ => { cls := Value.type "tuple", data := Data.seq #[] }
def hob151 : Params → Obj := fun _ => { cls := Value.type "type", data := Data.cls { name := Str.ofString "NoText", bases := [Value.ref 24], mro := [Value.ref 97, Value.ref 24, Value.type "ValueError", Value.type "Exception", Value.type "BaseException", Value.type "object"], ns := 96, qualname := Str.ofString "NoText" }, slots := #[some (Value.ref 88), none, some (Value.str (Str.ofString "NoText") 287), some (Value.str (Str.ofString "NoText") 295), some (Value.builtin "ValueError.__new__"), some (Value.bool true)] }
def hob235 : Params → Obj := fun _ => { cls := Value.none, data := Data.fields #[] }
def hob175 : Params → Obj := fun _ => { cls := Value.type "function", data := Data.func { name := Str.ofString "is_figures", qualname := Str.ofString "is_figures", params := hfp 12, body := FuncBody.stmts (hfb 12), scope := hfs 12, globals := 3, closure := [], defaults := Value.none, kwdefaults := Value.none, pyModule := Value.str (Str.ofString "nearfrac.notes") 319, code := Value.ref 117 } }
def hob100 : Params → Obj := fun _ => { cls := Value.type "tuple", data := Data.seq #[] }
def hob54 : Params → Obj := fun _ => { cls := Value.type "tuple", data := Data.seq #[] }
def hob209 : Params → Obj := fun _ => { cls := Value.type "tuple", data := Data.seq #[] }
def hob145 : Params → Obj := fun _ => { cls := Value.type "tuple", data := Data.seq #[] }
def hob153 : Params → Obj := fun _ => { cls := Value.type "builtin_function_or_method", data := Data.fields #[Value.builtin "object.__init_subclass__", Value.ref 97] }
def hob262 : Params → Obj := fun _ => { cls := Value.type "tuple", data := Data.seq #[] }
def hob130 : Params → Obj := fun _ => { cls := Value.type "tuple", data := Data.seq #[] }
def hob80 : Params → Obj := fun _ => { cls := Value.none, data := Data.fields #[Value.int 2 0, Value.int 0 0, Value.ref 20, Value.int 4 0, Value.int 0 0, Value.ref 33, Value.int 6 0, Value.int 0 0, Value.ref 45] }
def hob215 : Params → Obj := fun _ => { cls := Value.type "tuple", data := Data.seq #[Value.str (Str.ofString "_law_script") 384, Value.str (Str.ofString "_law_k") 385, Value.str (Str.ofString "_law_most") 386] }
def hob88 : Params → Obj := fun _ => { cls := Value.type "frame", slots := #[some (Value.ref 45), some (Value.ref 3), some (Value.ref 42), none, some (Value.str (Str.ofString "nearfrac.errors") 187), none, some (Value.ref 0)] }
def hob286 : Params → Obj := fun _ => { cls := Value.none, data := Data.fields #[] }
def hob162 : Params → Obj := fun _ => { cls := Value.type "code", data := Data.fields #[Value.str (Str.ofString "NoNumber") 305, Value.str (Str.ofString "NoNumber") 306, Value.str (Str.ofString "/claim/cut.py") 307, Value.int 16 0, Value.int 0 0, Value.int 0 0, Value.int 0 0, Value.int 0 0, Value.ref 103, Value.bool false, Value.int 181 0, Value.ref 104, Value.none, Value.none, Value.none, Value.none, Value.int 308 0, Value.int 16 0, Value.str (Str.ofString "/claim/cut.py") 309] }
def hob276 : Params → Obj := fun _ => { cls := Value.type "tuple", data := Data.seq #[] }
def hob70 : Params → Obj := fun _ => { cls := Value.type "tuple", data := Data.seq #[] }
def hob106 : Params → Obj := fun _ => { cls := Value.type "type", data := Data.cls { name := Str.ofString "NoBounds", bases := [Value.ref 24], mro := [Value.ref 61, Value.ref 24, Value.type "ValueError", Value.type "Exception", Value.type "BaseException", Value.type "object"], ns := 60, qualname := Str.ofString "NoBounds" }, slots := #[some (Value.ref 52), none, some (Value.str (Str.ofString "NoBounds") 239), some (Value.str (Str.ofString "NoBounds") 247), some (Value.builtin "ValueError.__new__"), some (Value.bool true)] }
def hob169 : Params → Obj := fun _ => { cls := Value.type "tuple", data := Data.seq #[] }
def hob123 : Params → Obj := fun _ => { cls := Value.type "builtin_function_or_method", data := Data.fields #[Value.builtin "object.__init_subclass__", Value.ref 73] }
def hob164 : Params → Obj := fun _ => { cls := Value.type "tuple", data := Data.seq #[] }
def hob53 : Params → Obj := fun P => { cls := Value.type "dict", data := Data.dict #[{ hash := PyData.keyHash P (Str.ofString "__module__"), key := Value.str (Str.ofString "__module__") 196, val := Value.str (Str.ofString "nearfrac.errors") 187 }, { hash := PyData.keyHash P (Str.ofString "__qualname__"), key := Value.str (Str.ofString "__qualname__") 198, val := Value.str (Str.ofString "FractionError") 197 }, { hash := PyData.keyHash P (Str.ofString "__firstlineno__"), key := Value.str (Str.ofString "__firstlineno__") 200, val := Value.int 2 199 }, { hash := PyData.keyHash P (Str.ofString "__static_attributes__"), key := Value.str (Str.ofString "__static_attributes__") 201, val := Value.ref 22 }] 4 }
def hob159 : Params → Obj := fun P => { cls := Value.type "dict", data := Data.dict #[{ hash := PyData.keyHash P (Str.ofString "__module__"), key := Value.str (Str.ofString "__module__") 310, val := Value.str (Str.ofString "nearfrac.errors") 187 }, { hash := PyData.keyHash P (Str.ofString "__qualname__"), key := Value.str (Str.ofString "__qualname__") 312, val := Value.str (Str.ofString "NoNumber") 311 }, { hash := PyData.keyHash P (Str.ofString "__firstlineno__"), key := Value.str (Str.ofString "__firstlineno__") 314, val := Value.int 16 313 }, { hash := PyData.keyHash P (Str.ofString "__static_attributes__"), key := Value.str (Str.ofString "__static_attributes__") 315, val := Value.ref 107 }] 4 }
def hob221 : Params → Obj := fun _ => { cls := Value.none, data := Data.fields #[] }
def hob210 : Params → Obj := fun _ => { cls := Value.none, data := Data.func { name := Str.ofString "_law_is_path", qualname := Str.ofString "_law_is_path", params := hfp 18, body := FuncBody.stmts (hfb 18), scope := hfs 18, globals := 0, closure := [], defaults := Value.none, kwdefaults := Value.none } }
def hob253 : Params → Obj := fun _ => { cls := Value.type "code", data := Data.fields #[Value.str (Str.ofString "_law_figures") 431, Value.str (Str.ofString "_law_figures") 432, Value.str (Str.ofString "/claim/cut.py") 433, Value.int 104 0, Value.int 1 0, Value.int 0 0, Value.int 0 0, Value.int 3 0, Value.ref 189, Value.bool true, Value.int 181 0, Value.ref 190, Value.none, Value.ref 191, Value.ref 192, Value.ref 193, Value.int 436 0, Value.int 104 0, Value.str (Str.ofString "/claim/cut.py") 437] }
def hob288 : Params → Obj := fun _ => { cls := Value.type "tuple", data := Data.seq #[] }
def hob254 : Params → Obj := fun _ => { cls := Value.type "function", data := Data.func { name := Str.ofString "_law_figures", qualname := Str.ofString "_law_figures", params := hfp 24, body := FuncBody.stmts (hfb 24), scope := hfs 24, globals := 3, closure := [], defaults := Value.none, kwdefaults := Value.none, pyModule := Value.str (Str.ofString "law_uf050018_07") 346, code := Value.ref 194 } }
def hob287 : Params → Obj := fun _ => { cls := Value.type "tuple", data := Data.seq #[Value.str (Str.ofString "_law_script") 476, Value.str (Str.ofString "_law_line") 477, Value.str (Str.ofString "_law_way_here") 478, Value.str (Str.ofString "_law_words") 479, Value.str (Str.ofString "_law_at") 480, Value.str (Str.ofString "_law_sign") 481, Value.str (Str.ofString "_law_due") 482, Value.str (Str.ofString "_law_found") 483, Value.str (Str.ofString "_law_back") 484] }
def hob244 : Params → Obj := fun _ => { cls := Value.type "tuple", data := Data.seq #[] }
def hob161 : Params → Obj := fun _ => { cls := Value.none, data := Data.fields #[] }
def hob274 : Params → Obj := fun _ => { cls := Value.type "code", data := Data.fields #[Value.str (Str.ofString "_law_alone") 457, Value.str (Str.ofString "_law_alone") 458, Value.str (Str.ofString "/claim/cut.py") 459, Value.int 124 0, Value.int 1 0, Value.int 0 0, Value.int 0 0, Value.int 3 0, Value.ref 210, Value.bool true, Value.int 181 0, Value.ref 211, Value.none, Value.ref 212, Value.ref 213, Value.ref 214, Value.int 462 0, Value.int 124 0, Value.str (Str.ofString "/claim/cut.py") 463] }
def hob115 : Params → Obj := fun _ => { cls := Value.type "tuple", data := Data.seq #[] }
def hob264 : Params → Obj := fun _ => { cls := Value.type "tuple", data := Data.seq #[Value.str (Str.ofString "_law_cell") 452, Value.str (Str.ofString "_law_some") 453] }
def hob91 : Params → Obj := fun _ => { cls := Value.type "type", data := Data.cls { name := Str.ofString "NoPath", bases := [Value.ref 24], mro := [Value.ref 49, Value.ref 24, Value.type "ValueError", Value.type "Exception", Value.type "BaseException", Value.type "object"], ns := 48, qualname := Str.ofString "NoPath" }, slots := #[some (Value.ref 40), none, some (Value.str (Str.ofString "NoPath") 223), some (Value.str (Str.ofString "NoPath") 231), some (Value.builtin "ValueError.__new__"), some (Value.bool true)] }
def hob112 : Params → Obj := fun _ => { cls := Value.type "tuple", data := Data.seq #[Value.ref 24] }
def hob234 : Params → Obj := fun _ => { cls := Value.type "tuple", data := Data.seq #[] }
def hob197 : Params → Obj := fun P => { cls := Value.type "dict", data := Data.dict #[{ hash := PyData.keyHash P (Str.ofString "__name__"), key := Value.str (Str.ofString "__name__") 165, val := Value.str (Str.ofString "law_uf050018_07") 346 }, { hash := PyData.keyHash P (Str.ofString "__doc__"), key := Value.str (Str.ofString "__doc__") 166, val := Value.none }, { hash := PyData.keyHash P (Str.ofString "__package__"), key := Value.str (Str.ofString "__package__") 167, val := Value.none }, { hash := PyData.keyHash P (Str.ofString "__loader__"), key := Value.str (Str.ofString "__loader__") 168, val := Value.builtin "__main__.__loader__#opaque" }, { hash := PyData.keyHash P (Str.ofString "__spec__"), key := Value.str (Str.ofString "__spec__") 169, val := Value.none }, { hash := PyData.keyHash P (Str.ofString "__annotations__"), key := Value.str (Str.ofString "__annotations__") 170, val := Value.ref 6 }, { hash := PyData.keyHash P (Str.ofString "__builtins__"), key := Value.str (Str.ofString "__builtins__") 171, val := Value.ref 4 }, { hash := PyData.keyHash P (Str.ofString "__file__"), key := Value.str (Str.ofString "__file__") 173, val := Value.str (Str.ofString "/claim/cut.py") 172 }, { hash := PyData.keyHash P (Str.ofString "__cached__"), key := Value.str (Str.ofString "__cached__") 174, val := Value.none }, { hash := PyData.keyHash P (Str.ofString "FractionError"), key := Value.str (Str.ofString "FractionError") 206, val := Value.ref 24 }, { hash := PyData.keyHash P (Str.ofString "NoFraction"), key := Value.str (Str.ofString "NoFraction") 222, val := Value.ref 37 }, { hash := PyData.keyHash P (Str.ofString "NoPath"), key := Value.str (Str.ofString "NoPath") 238, val := Value.ref 49 }, { hash := PyData.keyHash P (Str.ofString "NoBounds"), key := Value.str (Str.ofString "NoBounds") 254, val := Value.ref 61 }, { hash := PyData.keyHash P (Str.ofString "NoRoom"), key := Value.str (Str.ofString "NoRoom") 270, val := Value.ref 73 }, { hash := PyData.keyHash P (Str.ofString "Unsure"), key := Value.str (Str.ofString "Unsure") 286, val := Value.ref 85 }, { hash := PyData.keyHash P (Str.ofString "NoText"), key := Value.str (Str.ofString "NoText") 302, val := Value.ref 97 }, { hash := PyData.keyHash P (Str.ofString "NoNumber"), key := Value.str (Str.ofString "NoNumber") 318, val := Value.ref 109 }, { hash := PyData.keyHash P (Str.ofString "FIGURES"), key := Value.str (Str.ofString "FIGURES") 322, val := Value.str (Str.ofString "0123456789") 321 }, { hash := PyData.keyHash P (Str.ofString "TOP"), key := Value.str (Str.ofString "TOP") 324, val := Value.str (Str.ofString "top") 323 }, { hash := PyData.keyHash P (Str.ofString "is_figures"), key := Value.str (Str.ofString "is_figures") 332, val := Value.ref 118 }, { hash := PyData.keyHash P (Str.ofString "read"), key := Value.str (Str.ofString "read") 345, val := Value.ref 125 }, { hash := PyData.keyHash P (Str.ofString "_law_cell_at"), key := Value.str (Str.ofString "_law_cell_at") 355, val := Value.ref 132 }, { hash := PyData.keyHash P (Str.ofString "_law_way"), key := Value.str (Str.ofString "_law_way") 364, val := Value.ref 139 }, { hash := PyData.keyHash P (Str.ofString "_law_whole"), key := Value.str (Str.ofString "_law_whole") 371, val := Value.ref 146 }, { hash := PyData.keyHash P (Str.ofString "_law_is_path"), key := Value.str (Str.ofString "_law_is_path") 380, val := Value.ref 153 }, { hash := PyData.keyHash P (Str.ofString "_law_many_by"), key := Value.str (Str.ofString "_law_many_by") 389, val := Value.ref 160 }, { hash := PyData.keyHash P (Str.ofString "_law_path_by"), key := Value.str (Str.ofString "_law_path_by") 402, val := Value.ref 167 }, { hash := PyData.keyHash P (Str.ofString "_law_line_of"), key := Value.str (Str.ofString "_law_line_of") 411, val := Value.ref 174 }, { hash := PyData.keyHash P (Str.ofString "_law_sign_by"), key := Value.str (Str.ofString "_law_sign_by") 419, val := Value.ref 181 }, { hash := PyData.keyHash P (Str.ofString "_law_turned"), key := Value.str (Str.ofString "_law_turned") 430, val := Value.ref 188 }, { hash := PyData.keyHash P (Str.ofString "_law_figures"), key := Value.str (Str.ofString "_law_figures") 438, val := Value.ref 195 }, { hash := PyData.keyHash P (Str.ofString "_law_due_of"), key := Value.str (Str.ofString "_law_due_of") 448, val := Value.ref 202 }, { hash := PyData.keyHash P (Str.ofString "_law_odd_line"), key := Value.str (Str.ofString "_law_odd_line") 456, val := Value.ref 209 }, { hash := PyData.keyHash P (Str.ofString "_law_alone"), key := Value.str (Str.ofString "_law_alone") 464, val := Value.ref 216 }, { hash := PyData.keyHash P (Str.ofString "_law_refused"), key := Value.str (Str.ofString "_law_refused") 472, val := Value.ref 223 }] 35 }
def hob77 : Params → Obj := fun _ => { cls := Value.type "super", data := Data.fields #[Value.ref 37, Value.ref 37, Value.ref 37] }
def hob280 : Params → Obj := fun _ => { cls := Value.none, data := Data.func { name := Str.ofString "_law_refused", qualname := Str.ofString "_law_refused", params := hfp 28, body := FuncBody.stmts (hfb 28), scope := hfs 28, globals := 0, closure := [], defaults := Value.none, kwdefaults := Value.none } }
def hob225 : Params → Obj := fun _ => { cls := Value.type "code", data := Data.fields #[Value.str (Str.ofString "_law_path_by") 390, Value.str (Str.ofString "_law_path_by") 391, Value.str (Str.ofString "/claim/cut.py") 392, Value.int 68 0, Value.int 1 0, Value.int 0 0, Value.int 0 0, Value.int 3 0, Value.ref 161, Value.bool true, Value.int 181 0, Value.ref 162, Value.none, Value.ref 163, Value.ref 164, Value.ref 165, Value.int 400 0, Value.int 68 0, Value.str (Str.ofString "/claim/cut.py") 401] }
def hob226 : Params → Obj := fun _ => { cls := Value.type "function", data := Data.func { name := Str.ofString "_law_path_by", qualname := Str.ofString "_law_path_by", params := hfp 20, body := FuncBody.stmts (hfb 20), scope := hfs 20, globals := 3, closure := [], defaults := Value.none, kwdefaults := Value.none, pyModule := Value.str (Str.ofString "law_uf050018_07") 346, code := Value.ref 166 } }
def hob196 : Params → Obj := fun _ => { cls := Value.type "function", data := Data.func { name := Str.ofString "_law_way", qualname := Str.ofString "_law_way", params := hfp 16, body := FuncBody.stmts (hfb 16), scope := hfs 16, globals := 3, closure := [], defaults := Value.none, kwdefaults := Value.none, pyModule := Value.str (Str.ofString "law_uf050018_07") 346, code := Value.ref 138 } }
def hob81 : Params → Obj := fun _ => { cls := Value.type "type", data := Data.cls { name := Str.ofString "FractionError", bases := [Value.type "ValueError"], mro := [Value.ref 24, Value.type "ValueError", Value.type "Exception", Value.type "BaseException", Value.type "object"], ns := 23, qualname := Str.ofString "FractionError", subclasses := [Value.ref 37, Value.ref 49] }, slots := #[some (Value.ref 15), none, some (Value.str (Str.ofString "FractionError") 189), some (Value.str (Str.ofString "FractionError") 197), some (Value.builtin "ValueError.__new__"), some (Value.bool true)] }
def hob283 : Params → Obj := fun P => { cls := Value.type "dict", data := Data.dict #[{ hash := PyData.keyHash P (Str.ofString "__name__"), key := Value.str (Str.ofString "__name__") 165, val := Value.str (Str.ofString "law_uf050018_07") 346 }, { hash := PyData.keyHash P (Str.ofString "__doc__"), key := Value.str (Str.ofString "__doc__") 166, val := Value.none }, { hash := PyData.keyHash P (Str.ofString "__package__"), key := Value.str (Str.ofString "__package__") 167, val := Value.none }, { hash := PyData.keyHash P (Str.ofString "__loader__"), key := Value.str (Str.ofString "__loader__") 168, val := Value.builtin "__main__.__loader__#opaque" }, { hash := PyData.keyHash P (Str.ofString "__spec__"), key := Value.str (Str.ofString "__spec__") 169, val := Value.none }, { hash := PyData.keyHash P (Str.ofString "__annotations__"), key := Value.str (Str.ofString "__annotations__") 170, val := Value.ref 6 }, { hash := PyData.keyHash P (Str.ofString "__builtins__"), key := Value.str (Str.ofString "__builtins__") 171, val := Value.ref 4 }, { hash := PyData.keyHash P (Str.ofString "__file__"), key := Value.str (Str.ofString "__file__") 173, val := Value.str (Str.ofString "/claim/cut.py") 172 }, { hash := PyData.keyHash P (Str.ofString "__cached__"), key := Value.str (Str.ofString "__cached__") 174, val := Value.none }, { hash := PyData.keyHash P (Str.ofString "FractionError"), key := Value.str (Str.ofString "FractionError") 206, val := Value.ref 24 }, { hash := PyData.keyHash P (Str.ofString "NoFraction"), key := Value.str (Str.ofString "NoFraction") 222, val := Value.ref 37 }, { hash := PyData.keyHash P (Str.ofString "NoPath"), key := Value.str (Str.ofString "NoPath") 238, val := Value.ref 49 }, { hash := PyData.keyHash P (Str.ofString "NoBounds"), key := Value.str (Str.ofString "NoBounds") 254, val := Value.ref 61 }, { hash := PyData.keyHash P (Str.ofString "NoRoom"), key := Value.str (Str.ofString "NoRoom") 270, val := Value.ref 73 }, { hash := PyData.keyHash P (Str.ofString "Unsure"), key := Value.str (Str.ofString "Unsure") 286, val := Value.ref 85 }, { hash := PyData.keyHash P (Str.ofString "NoText"), key := Value.str (Str.ofString "NoText") 302, val := Value.ref 97 }, { hash := PyData.keyHash P (Str.ofString "NoNumber"), key := Value.str (Str.ofString "NoNumber") 318, val := Value.ref 109 }, { hash := PyData.keyHash P (Str.ofString "FIGURES"), key := Value.str (Str.ofString "FIGURES") 322, val := Value.str (Str.ofString "0123456789") 321 }, { hash := PyData.keyHash P (Str.ofString "TOP"), key := Value.str (Str.ofString "TOP") 324, val := Value.str (Str.ofString "top") 323 }, { hash := PyData.keyHash P (Str.ofString "is_figures"), key := Value.str (Str.ofString "is_figures") 332, val := Value.ref 118 }, { hash := PyData.keyHash P (Str.ofString "read"), key := Value.str (Str.ofString "read") 345, val := Value.ref 125 }, { hash := PyData.keyHash P (Str.ofString "_law_cell_at"), key := Value.str (Str.ofString "_law_cell_at") 355, val := Value.ref 132 }, { hash := PyData.keyHash P (Str.ofString "_law_way"), key := Value.str (Str.ofString "_law_way") 364, val := Value.ref 139 }, { hash := PyData.keyHash P (Str.ofString "_law_whole"), key := Value.str (Str.ofString "_law_whole") 371, val := Value.ref 146 }, { hash := PyData.keyHash P (Str.ofString "_law_is_path"), key := Value.str (Str.ofString "_law_is_path") 380, val := Value.ref 153 }, { hash := PyData.keyHash P (Str.ofString "_law_many_by"), key := Value.str (Str.ofString "_law_many_by") 389, val := Value.ref 160 }, { hash := PyData.keyHash P (Str.ofString "_law_path_by"), key := Value.str (Str.ofString "_law_path_by") 402, val := Value.ref 167 }, { hash := PyData.keyHash P (Str.ofString "_law_line_of"), key := Value.str (Str.ofString "_law_line_of") 411, val := Value.ref 174 }, { hash := PyData.keyHash P (Str.ofString "_law_sign_by"), key := Value.str (Str.ofString "_law_sign_by") 419, val := Value.ref 181 }, { hash := PyData.keyHash P (Str.ofString "_law_turned"), key := Value.str (Str.ofString "_law_turned") 430, val := Value.ref 188 }, { hash := PyData.keyHash P (Str.ofString "_law_figures"), key := Value.str (Str.ofString "_law_figures") 438, val := Value.ref 195 }, { hash := PyData.keyHash P (Str.ofString "_law_due_of"), key := Value.str (Str.ofString "_law_due_of") 448, val := Value.ref 202 }, { hash := PyData.keyHash P (Str.ofString "_law_odd_line"), key := Value.str (Str.ofString "_law_odd_line") 456, val := Value.ref 209 }, { hash := PyData.keyHash P (Str.ofString "_law_alone"), key := Value.str (Str.ofString "_law_alone") 464, val := Value.ref 216 }, { hash := PyData.keyHash P (Str.ofString "_law_refused"), key := Value.str (Str.ofString "_law_refused") 472, val := Value.ref 223 }, { hash := PyData.keyHash P (Str.ofString "law"), key := Value.str (Str.ofString "law") 487, val := Value.ref 230 }] 36 }
def hob132 : Params → Obj := fun _ => { cls := Value.type "code", data := Data.fields #[Value.str (Str.ofString "Unsure") 273, Value.str (Str.ofString "Unsure") 274, Value.str (Str.ofString "/claim/cut.py") 275, Value.int 12 0, Value.int 0 0, Value.int 0 0, Value.int 0 0, Value.int 0 0, Value.ref 79, Value.bool false, Value.int 181 0, Value.ref 80, Value.none, Value.none, Value.none, Value.none, Value.int 276 0, Value.int 12 0, Value.str (Str.ofString "/claim/cut.py") 277] }
def hob206 : Params → Obj := fun _ => { cls := Value.type "tuple", data := Data.seq #[] }
def hob71 : Params → Obj := fun _ => { cls := Value.none, data := Data.fields #[] }
def hob105 : Params → Obj := fun P => { cls := Value.type "dict", data := Data.dict #[{ hash := PyData.keyHash P (Str.ofString "__module__"), key := Value.str (Str.ofString "__module__") 246, val := Value.str (Str.ofString "nearfrac.errors") 187 }, { hash := PyData.keyHash P (Str.ofString "__firstlineno__"), key := Value.str (Str.ofString "__firstlineno__") 250, val := Value.int 8 249 }, { hash := PyData.keyHash P (Str.ofString "__static_attributes__"), key := Value.str (Str.ofString "__static_attributes__") 251, val := Value.ref 59 }, { hash := PyData.keyHash P (Str.ofString "__doc__"), key := Value.str (Str.ofString "__doc__") 252, val := Value.none }] 2 }
def hob258 : Params → Obj := fun _ => { cls := Value.type "tuple", data := Data.seq #[] }
def hob60 : Params → Obj := fun _ => { cls := Value.type "type", data := Data.cls { name := Str.ofString "FractionError", bases := [Value.type "ValueError"], mro := [Value.ref 24, Value.type "ValueError", Value.type "Exception", Value.type "BaseException", Value.type "object"], ns := 23, qualname := Str.ofString "FractionError" }, slots := #[some (Value.ref 15), none, some (Value.str (Str.ofString "FractionError") 189), some (Value.str (Str.ofString "FractionError") 197), some (Value.builtin "ValueError.__new__"), some (Value.bool true)] }
def hob122 : Params → Obj := fun _ => { cls := Value.type "super", data := Data.fields #[Value.ref 73, Value.ref 73, Value.ref 73] }
def hob252 : Params → Obj := fun _ => { cls := Value.none, data := Data.func { name := Str.ofString "_law_figures", qualname := Str.ofString "_law_figures", params := hfp 24, body := FuncBody.stmts (hfb 24), scope := hfs 24, globals := 0, closure := [], defaults := Value.none, kwdefaults := Value.none } }
def hob187 : Params → Obj := fun _ => { cls := Value.none, data := Data.func { name := Str.ofString "_law_cell_at", qualname := Str.ofString "_law_cell_at", params := hfp 15, body := FuncBody.stmts (hfb 15), scope := hfs 15, globals := 0, closure := [], defaults := Value.none, kwdefaults := Value.none } }
def hob103 : Params → Obj := fun _ => { cls := Value.type "frame", slots := #[some (Value.ref 57), some (Value.ref 3), some (Value.ref 54), none, some (Value.str (Str.ofString "nearfrac.errors") 187), none, some (Value.ref 0)] }
def hob157 : Params → Obj := fun _ => { cls := Value.type "tuple", data := Data.seq #[Value.ref 24] }
def hob243 : Params → Obj := fun _ => { cls := Value.type "tuple", data := Data.seq #[Value.str (Str.ofString "_law_line") 423, Value.str (Str.ofString "_law_way_here") 424, Value.str (Str.ofString "_law_place") 425, Value.str (Str.ofString "_law_sign") 426, Value.str (Str.ofString "_law_at") 427] }
def hob56 : Params → Obj := fun _ => { cls := Value.type "code", data := Data.fields #[Value.str (Str.ofString "FractionError") 191, Value.str (Str.ofString "FractionError") 192, Value.str (Str.ofString "/claim/cut.py") 193, Value.int 2 0, Value.int 0 0, Value.int 0 0, Value.int 0 0, Value.int 0 0, Value.ref 18, Value.bool false, Value.int 181 0, Value.ref 19, Value.none, Value.none, Value.none, Value.none, Value.int 194 0, Value.int 2 0, Value.str (Str.ofString "/claim/cut.py") 195] }
def hob49 : Params → Obj := fun P => { cls := Value.type "dict", data := Data.dict #[{ hash := PyData.keyHash P (Str.ofString "__name__"), key := Value.str (Str.ofString "__name__") 165, val := Value.str (Str.ofString "nearfrac.errors") 187 }, { hash := PyData.keyHash P (Str.ofString "__doc__"), key := Value.str (Str.ofString "__doc__") 166, val := Value.none }, { hash := PyData.keyHash P (Str.ofString "__package__"), key := Value.str (Str.ofString "__package__") 167, val := Value.none }, { hash := PyData.keyHash P (Str.ofString "__loader__"), key := Value.str (Str.ofString "__loader__") 168, val := Value.builtin "__main__.__loader__#opaque" }, { hash := PyData.keyHash P (Str.ofString "__spec__"), key := Value.str (Str.ofString "__spec__") 169, val := Value.none }, { hash := PyData.keyHash P (Str.ofString "__annotations__"), key := Value.str (Str.ofString "__annotations__") 170, val := Value.ref 6 }, { hash := PyData.keyHash P (Str.ofString "__builtins__"), key := Value.str (Str.ofString "__builtins__") 171, val := Value.ref 4 }, { hash := PyData.keyHash P (Str.ofString "__file__"), key := Value.str (Str.ofString "__file__") 173, val := Value.str (Str.ofString "/claim/cut.py") 172 }, { hash := PyData.keyHash P (Str.ofString "__cached__"), key := Value.str (Str.ofString "__cached__") 174, val := Value.none }, { hash := PyData.keyHash P (Str.ofString "FractionError"), key := Value.str (Str.ofString "FractionError") 206, val := Value.ref 24 }] 10 }
def hob62 : Params → Obj := fun _ => { cls := Value.type "super", data := Data.fields #[Value.ref 24, Value.ref 24, Value.ref 24] }
def hob211 : Params → Obj := fun _ => { cls := Value.type "code", data := Data.fields #[Value.str (Str.ofString "_law_is_path") 372, Value.str (Str.ofString "_law_is_path") 373, Value.str (Str.ofString "/claim/cut.py") 374, Value.int 53 0, Value.int 1 0, Value.int 0 0, Value.int 0 0, Value.int 3 0, Value.ref 147, Value.bool true, Value.int 181 0, Value.ref 148, Value.none, Value.ref 149, Value.ref 150, Value.ref 151, Value.int 378 0, Value.int 53 0, Value.str (Str.ofString "/claim/cut.py") 379] }
def hob167 : Params → Obj := fun _ => { cls := Value.type "super", data := Data.fields #[Value.ref 109, Value.ref 109, Value.ref 109] }
def hob50 : Params → Obj := fun _ => { cls := Value.none, data := Data.fields #[Value.int 2 0, Value.int 0 0, Value.ref 20] }
def hob172 : Params → Obj := fun _ => { cls := Value.type "tuple", data := Data.seq #[] }
def hob155 : Params → Obj := fun _ => { cls := Value.none, data := Data.fields #[Value.int 2 0, Value.int 0 0, Value.ref 20, Value.int 4 0, Value.int 0 0, Value.ref 33, Value.int 6 0, Value.int 0 0, Value.ref 45, Value.int 8 0, Value.int 0 0, Value.ref 57, Value.int 10 0, Value.int 0 0, Value.ref 69, Value.int 12 0, Value.int 0 0, Value.ref 81, Value.int 14 0, Value.int 0 0, Value.ref 93, Value.int 16 0, Value.int 0 0, Value.ref 105, Value.int 21 0, Value.int 0 0, Value.ref 117, Value.int 28 0, Value.int 0 0, Value.ref 124, Value.int 45 0, Value.int 0 0, Value.ref 131, Value.int 49 0, Value.int 0 0, Value.ref 138] }
def hob263 : Params → Obj := fun _ => { cls := Value.none, data := Data.fields #[] }
def hob67 : Params → Obj := fun _ => { cls := Value.type "tuple", data := Data.seq #[Value.ref 24] }
def hob269 : Params → Obj := fun _ => { cls := Value.type "tuple", data := Data.seq #[] }
def hob97 : Params → Obj := fun _ => { cls := Value.type "tuple", data := Data.seq #[Value.ref 24] }
def hob137 : Params → Obj := fun _ => { cls := Value.type "super", data := Data.fields #[Value.ref 85, Value.ref 85, Value.ref 85] }
def hob202 : Params → Obj := fun _ => { cls := Value.type "tuple", data := Data.seq #[] }
def hob140 : Params → Obj := fun _ => { cls := Value.none, data := Data.fields #[Value.int 2 0, Value.int 0 0, Value.ref 20, Value.int 4 0, Value.int 0 0, Value.ref 33, Value.int 6 0, Value.int 0 0, Value.ref 45, Value.int 8 0, Value.int 0 0, Value.ref 57, Value.int 10 0, Value.int 0 0, Value.ref 69, Value.int 12 0, Value.int 0 0, Value.ref 81, Value.int 14 0, Value.int 0 0, Value.ref 93] }
def hob148 : Params → Obj := fun _ => { cls := Value.type "frame", slots := #[some (Value.ref 93), some (Value.ref 3), some (Value.ref 90), none, some (Value.str (Str.ofString "nearfrac.errors") 187), none, some (Value.ref 0)] }
def hob76 : Params → Obj := fun _ => { cls := Value.type "type", data := Data.cls { name := Str.ofString "NoFraction", bases := [Value.ref 24], mro := [Value.ref 37, Value.ref 24, Value.type "ValueError", Value.type "Exception", Value.type "BaseException", Value.type "object"], ns := 36, qualname := Str.ofString "NoFraction" }, slots := #[some (Value.ref 28), none, some (Value.str (Str.ofString "NoFraction") 207), some (Value.str (Str.ofString "NoFraction") 215), some (Value.builtin "ValueError.__new__"), some (Value.bool true)] }
def hob129 : Params → Obj := fun P => { cls := Value.type "dict", data := Data.dict #[{ hash := PyData.keyHash P (Str.ofString "__module__"), key := Value.str (Str.ofString "__module__") 278, val := Value.str (Str.ofString "nearfrac.errors") 187 }, { hash := PyData.keyHash P (Str.ofString "__qualname__"), key := Value.str (Str.ofString "__qualname__") 280, val := Value.str (Str.ofString "Unsure") 279 }, { hash := PyData.keyHash P (Str.ofString "__firstlineno__"), key := Value.str (Str.ofString "__firstlineno__") 282, val := Value.int 12 281 }, { hash := PyData.keyHash P (Str.ofString "__static_attributes__"), key := Value.str (Str.ofString "__static_attributes__") 283, val := Value.ref 83 }] 4 }
def hob64 : Params → Obj := fun P => { cls := Value.type "dict", data := Data.dict #[{ hash := PyData.keyHash P (Str.ofString "__name__"), key := Value.str (Str.ofString "__name__") 165, val := Value.str (Str.ofString "nearfrac.errors") 187 }, { hash := PyData.keyHash P (Str.ofString "__doc__"), key := Value.str (Str.ofString "__doc__") 166, val := Value.none }, { hash := PyData.keyHash P (Str.ofString "__package__"), key := Value.str (Str.ofString "__package__") 167, val := Value.none }, { hash := PyData.keyHash P (Str.ofString "__loader__"), key := Value.str (Str.ofString "__loader__") 168, val := Value.builtin "__main__.__loader__#opaque" }, { hash := PyData.keyHash P (Str.ofString "__spec__"), key := Value.str (Str.ofString "__spec__") 169, val := Value.none }, { hash := PyData.keyHash P (Str.ofString "__annotations__"), key := Value.str (Str.ofString "__annotations__") 170, val := Value.ref 6 }, { hash := PyData.keyHash P (Str.ofString "__builtins__"), key := Value.str (Str.ofString "__builtins__") 171, val := Value.ref 4 }, { hash := PyData.keyHash P (Str.ofString "__file__"), key := Value.str (Str.ofString "__file__") 173, val := Value.str (Str.ofString "/claim/cut.py") 172 }, { hash := PyData.keyHash P (Str.ofString "__cached__"), key := Value.str (Str.ofString "__cached__") 174, val := Value.none }, { hash := PyData.keyHash P (Str.ofString "FractionError"), key := Value.str (Str.ofString "FractionError") 206, val := Value.ref 24 }, { hash := PyData.keyHash P (Str.ofString "NoFraction"), key := Value.str (Str.ofString "NoFraction") 222, val := Value.ref 37 }] 11 }
def hob246 : Params → Obj := fun _ => { cls := Value.type "code", data := Data.fields #[Value.str (Str.ofString "_law_turned") 420, Value.str (Str.ofString "_law_turned") 421, Value.str (Str.ofString "/claim/cut.py") 422, Value.int 95 0, Value.int 4 0, Value.int 0 0, Value.int 0 0, Value.int 3 0, Value.ref 182, Value.bool true, Value.int 181 0, Value.ref 183, Value.none, Value.ref 184, Value.ref 185, Value.ref 186, Value.int 428 0, Value.int 95 0, Value.str (Str.ofString "/claim/cut.py") 429] }
def hob270 : Params → Obj := fun _ => { cls := Value.none, data := Data.fields #[] }
def hob150 : Params → Obj := fun P => { cls := Value.type "dict", data := Data.dict #[{ hash := PyData.keyHash P (Str.ofString "__module__"), key := Value.str (Str.ofString "__module__") 294, val := Value.str (Str.ofString "nearfrac.errors") 187 }, { hash := PyData.keyHash P (Str.ofString "__firstlineno__"), key := Value.str (Str.ofString "__firstlineno__") 298, val := Value.int 14 297 }, { hash := PyData.keyHash P (Str.ofString "__static_attributes__"), key := Value.str (Str.ofString "__static_attributes__") 299, val := Value.ref 95 }, { hash := PyData.keyHash P (Str.ofString "__doc__"), key := Value.str (Str.ofString "__doc__") 300, val := Value.none }] 2 }
def hob127 : Params → Obj := fun _ => { cls := Value.type "tuple", data := Data.seq #[Value.ref 24] }
def hob266 : Params → Obj := fun _ => { cls := Value.none, data := Data.func { name := Str.ofString "_law_odd_line", qualname := Str.ofString "_law_odd_line", params := hfp 26, body := FuncBody.stmts (hfb 26), scope := hfs 26, globals := 0, closure := [], defaults := Value.none, kwdefaults := Value.none } }
def hob249 : Params → Obj := fun _ => { cls := Value.none, data := Data.fields #[] }
def hob242 : Params → Obj := fun _ => { cls := Value.none, data := Data.fields #[] }
def hob201 : Params → Obj := fun _ => { cls := Value.type "tuple", data := Data.seq #[Value.str (Str.ofString "_law_found") 368] }
def hob208 : Params → Obj := fun _ => { cls := Value.type "tuple", data := Data.seq #[Value.str (Str.ofString "_law_path") 375, Value.str (Str.ofString "_law_ahead") 376, Value.str (Str.ofString "_law_run") 377] }
def hob134 : Params → Obj := fun _ => { cls := Value.type "tuple", data := Data.seq #[] }
def hob87 : Params → Obj := fun _ => { cls := Value.type "code", data := Data.fields #[Value.str (Str.ofString "NoPath") 225, Value.str (Str.ofString "NoPath") 226, Value.str (Str.ofString "/claim/cut.py") 227, Value.int 6 0, Value.int 0 0, Value.int 0 0, Value.int 0 0, Value.int 0 0, Value.ref 43, Value.bool false, Value.int 181 0, Value.ref 44, Value.none, Value.none, Value.none, Value.none, Value.int 228 0, Value.int 6 0, Value.str (Str.ofString "/claim/cut.py") 229] }
def hob125 : Params → Obj := fun _ => { cls := Value.none, data := Data.fields #[Value.int 2 0, Value.int 0 0, Value.ref 20, Value.int 4 0, Value.int 0 0, Value.ref 33, Value.int 6 0, Value.int 0 0, Value.ref 45, Value.int 8 0, Value.int 0 0, Value.ref 57, Value.int 10 0, Value.int 0 0, Value.ref 69, Value.int 12 0, Value.int 0 0, Value.ref 81] }
def hob265 : Params → Obj := fun _ => { cls := Value.type "tuple", data := Data.seq #[] }
def hob119 : Params → Obj := fun _ => { cls := Value.type "tuple", data := Data.seq #[] }
def hob52 : Params → Obj := fun _ => { cls := Value.type "builtin_function_or_method", data := Data.fields #[Value.builtin "type.__prepare__", Value.type "type"] }
def hob224 : Params → Obj := fun _ => { cls := Value.none, data := Data.func { name := Str.ofString "_law_path_by", qualname := Str.ofString "_law_path_by", params := hfp 20, body := FuncBody.stmts (hfb 20), scope := hfs 20, globals := 0, closure := [], defaults := Value.none, kwdefaults := Value.none } }
def hob126 : Params → Obj := fun _ => { cls := Value.type "type", data := Data.cls { name := Str.ofString "FractionError", bases := [Value.type "ValueError"], mro := [Value.ref 24, Value.type "ValueError", Value.type "Exception", Value.type "BaseException", Value.type "object"], ns := 23, qualname := Str.ofString "FractionError", subclasses := [Value.ref 37, Value.ref 49, Value.ref 61, Value.ref 73, Value.ref 85] }, slots := #[some (Value.ref 15), none, some (Value.str (Str.ofString "FractionError") 189), some (Value.str (Str.ofString "FractionError") 197), some (Value.builtin "ValueError.__new__"), some (Value.bool true)] }
def hob113 : Params → Obj := fun _ => { cls := Value.type "builtin_function_or_method", data := Data.fields #[Value.builtin "type.__prepare__", Value.type "type"] }
def hob117 : Params → Obj := fun _ => { cls := Value.type "code", data := Data.fields #[Value.str (Str.ofString "NoRoom") 257, Value.str (Str.ofString "NoRoom") 258, Value.str (Str.ofString "/claim/cut.py") 259, Value.int 10 0, Value.int 0 0, Value.int 0 0, Value.int 0 0, Value.int 0 0, Value.ref 67, Value.bool false, Value.int 181 0, Value.ref 68, Value.none, Value.none, Value.none, Value.none, Value.int 260 0, Value.int 10 0, Value.str (Str.ofString "/claim/cut.py") 261] }
def hob173 : Params → Obj := fun _ => { cls := Value.none, data := Data.func { name := Str.ofString "is_figures", qualname := Str.ofString "is_figures", params := hfp 12, body := FuncBody.stmts (hfb 12), scope := hfs 12, globals := 0, closure := [], defaults := Value.none, kwdefaults := Value.none } }
def hob154 : Params → Obj := fun P => { cls := Value.type "dict", data := Data.dict #[{ hash := PyData.keyHash P (Str.ofString "__name__"), key := Value.str (Str.ofString "__name__") 165, val := Value.str (Str.ofString "law_uf050018_07") 346 }, { hash := PyData.keyHash P (Str.ofString "__doc__"), key := Value.str (Str.ofString "__doc__") 166, val := Value.none }, { hash := PyData.keyHash P (Str.ofString "__package__"), key := Value.str (Str.ofString "__package__") 167, val := Value.none }, { hash := PyData.keyHash P (Str.ofString "__loader__"), key := Value.str (Str.ofString "__loader__") 168, val := Value.builtin "__main__.__loader__#opaque" }, { hash := PyData.keyHash P (Str.ofString "__spec__"), key := Value.str (Str.ofString "__spec__") 169, val := Value.none }, { hash := PyData.keyHash P (Str.ofString "__annotations__"), key := Value.str (Str.ofString "__annotations__") 170, val := Value.ref 6 }, { hash := PyData.keyHash P (Str.ofString "__builtins__"), key := Value.str (Str.ofString "__builtins__") 171, val := Value.ref 4 }, { hash := PyData.keyHash P (Str.ofString "__file__"), key := Value.str (Str.ofString "__file__") 173, val := Value.str (Str.ofString "/claim/cut.py") 172 }, { hash := PyData.keyHash P (Str.ofString "__cached__"), key := Value.str (Str.ofString "__cached__") 174, val := Value.none }, { hash := PyData.keyHash P (Str.ofString "FractionError"), key := Value.str (Str.ofString "FractionError") 206, val := Value.ref 24 }, { hash := PyData.keyHash P (Str.ofString "NoFraction"), key := Value.str (Str.ofString "NoFraction") 222, val := Value.ref 37 }, { hash := PyData.keyHash P (Str.ofString "NoPath"), key := Value.str (Str.ofString "NoPath") 238, val := Value.ref 49 }, { hash := PyData.keyHash P (Str.ofString "NoBounds"), key := Value.str (Str.ofString "NoBounds") 254, val := Value.ref 61 }, { hash := PyData.keyHash P (Str.ofString "NoRoom"), key := Value.str (Str.ofString "NoRoom") 270, val := Value.ref 73 }, { hash := PyData.keyHash P (Str.ofString "Unsure"), key := Value.str (Str.ofString "Unsure") 286, val := Value.ref 85 }, { hash := PyData.keyHash P (Str.ofString "NoText"), key := Value.str (Str.ofString "NoText") 302, val := Value.ref 97 }, { hash := PyData.keyHash P (Str.ofString "NoNumber"), key := Value.str (Str.ofString "NoNumber") 318, val := Value.ref 109 }, { hash := PyData.keyHash P (Str.ofString "FIGURES"), key := Value.str (Str.ofString "FIGURES") 322, val := Value.str (Str.ofString "0123456789") 321 }, { hash := PyData.keyHash P (Str.ofString "TOP"), key := Value.str (Str.ofString "TOP") 324, val := Value.str (Str.ofString "top") 323 }, { hash := PyData.keyHash P (Str.ofString "is_figures"), key := Value.str (Str.ofString "is_figures") 332, val := Value.ref 118 }, { hash := PyData.keyHash P (Str.ofString "read"), key := Value.str (Str.ofString "read") 345, val := Value.ref 125 }, { hash := PyData.keyHash P (Str.ofString "_law_cell_at"), key := Value.str (Str.ofString "_law_cell_at") 355, val := Value.ref 132 }, { hash := PyData.keyHash P (Str.ofString "_law_way"), key := Value.str (Str.ofString "_law_way") 364, val := Value.ref 139 }] 23 }
def hob256 : Params → Obj := fun _ => { cls := Value.none, data := Data.fields #[] }
def hob99 : Params → Obj := fun P => { cls := Value.type "dict", data := Data.dict #[{ hash := PyData.keyHash P (Str.ofString "__module__"), key := Value.str (Str.ofString "__module__") 246, val := Value.str (Str.ofString "nearfrac.errors") 187 }, { hash := PyData.keyHash P (Str.ofString "__qualname__"), key := Value.str (Str.ofString "__qualname__") 248, val := Value.str (Str.ofString "NoBounds") 247 }, { hash := PyData.keyHash P (Str.ofString "__firstlineno__"), key := Value.str (Str.ofString "__firstlineno__") 250, val := Value.int 8 249 }, { hash := PyData.keyHash P (Str.ofString "__static_attributes__"), key := Value.str (Str.ofString "__static_attributes__") 251, val := Value.ref 59 }] 4 }
def hob143 : Params → Obj := fun _ => { cls := Value.type "builtin_function_or_method", data := Data.fields #[Value.builtin "type.__prepare__", Value.type "type"] }
def hob275 : Params → Obj := fun _ => { cls := Value.type "function", data := Data.func { name := Str.ofString "_law_alone", qualname := Str.ofString "_law_alone", params := hfp 27, body := FuncBody.stmts (hfb 27), scope := hfs 27, globals := 3, closure := [], defaults := Value.none, kwdefaults := Value.none, pyModule := Value.str (Str.ofString "law_uf050018_07") 346, code := Value.ref 215 } }
def hob222 : Params → Obj := fun _ => { cls := Value.type "tuple", data := Data.seq #[Value.str (Str.ofString "_law_script") 393, Value.str (Str.ofString "_law_count") 394, Value.str (Str.ofString "_law_most") 395, Value.str (Str.ofString "_law_path") 396, Value.str (Str.ofString "_law_k") 397, Value.str (Str.ofString "_law_way_here") 398, Value.str (Str.ofString "_law_at") 399] }
def hob101 : Params → Obj := fun _ => { cls := Value.none, data := Data.fields #[] }
def hob184 : Params → Obj := fun _ => { cls := Value.none, data := Data.fields #[] }
def hob96 : Params → Obj := fun _ => { cls := Value.type "type", data := Data.cls { name := Str.ofString "FractionError", bases := [Value.type "ValueError"], mro := [Value.ref 24, Value.type "ValueError", Value.type "Exception", Value.type "BaseException", Value.type "object"], ns := 23, qualname := Str.ofString "FractionError", subclasses := [Value.ref 37, Value.ref 49, Value.ref 61] }, slots := #[some (Value.ref 15), none, some (Value.str (Str.ofString "FractionError") 189), some (Value.str (Str.ofString "FractionError") 197), some (Value.builtin "ValueError.__new__"), some (Value.bool true)] }
def ht78 (P : Params) : BT := (.node (boot_o_0 P) (.node (boot_o_1 P) (.node (hob64 P) (.node (boot_o_7 P) (.node (hob51 P) (.node (hob70 P) .nil .nil) .nil) (.node (hob59 P) (.node (hob78 P) .nil .nil) .nil)) (.node (hob43 P) (.node (hob55 P) (.node (hob74 P) .nil .nil) .nil) (.node (hob63 P) .nil .nil))) (.node (boot_o_5 P) (.node (boot_o_9 P) (.node (hob53 P) (.node (hob72 P) .nil .nil) .nil) (.node (hob61 P) .nil .nil)) (.node (hob45 P) (.node (hob57 P) (.node (hob76 P) .nil .nil) .nil) (.node (hob68 P) .nil .nil)))) (.node (boot_o_2 P) (.node (boot_o_4 P) (.node (boot_o_8 P) (.node (hob52 P) (.node (hob71 P) .nil .nil) .nil) (.node (hob66 P) .nil .nil)) (.node (hob65 P) (.node (hob56 P) (.node (hob75 P) .nil .nil) .nil) (.node (hob67 P) .nil .nil))) (.node (boot_o_6 P) (.node (boot_o_10 P) (.node (hob54 P) (.node (hob73 P) .nil .nil) .nil) (.node (hob62 P) .nil .nil)) (.node (hob46 P) (.node (hob58 P) (.node (hob77 P) .nil .nil) .nil) (.node (hob69 P) .nil .nil)))))
def ht108 (P : Params) : BT := (.node (boot_o_0 P) (.node (boot_o_1 P) (.node (hob94 P) (.node (boot_o_7 P) (.node (hob51 P) (.node (hob70 P) (.node (hob108 P) .nil .nil) .nil) (.node (hob89 P) .nil .nil)) (.node (hob59 P) (.node (hob78 P) .nil .nil) (.node (hob100 P) .nil .nil))) (.node (hob43 P) (.node (hob55 P) (.node (hob74 P) .nil .nil) (.node (hob93 P) .nil .nil)) (.node (hob63 P) (.node (hob85 P) .nil .nil) (.node (hob104 P) .nil .nil)))) (.node (boot_o_5 P) (.node (boot_o_9 P) (.node (hob53 P) (.node (hob72 P) .nil .nil) (.node (hob91 P) .nil .nil)) (.node (hob61 P) (.node (hob83 P) .nil .nil) (.node (hob102 P) .nil .nil))) (.node (hob45 P) (.node (hob57 P) (.node (hob76 P) .nil .nil) (.node (hob98 P) .nil .nil)) (.node (hob68 P) (.node (hob87 P) .nil .nil) (.node (hob106 P) .nil .nil))))) (.node (boot_o_2 P) (.node (boot_o_4 P) (.node (boot_o_8 P) (.node (hob52 P) (.node (hob71 P) .nil .nil) (.node (hob90 P) .nil .nil)) (.node (hob96 P) (.node (hob82 P) .nil .nil) (.node (hob101 P) .nil .nil))) (.node (hob95 P) (.node (hob56 P) (.node (hob75 P) .nil .nil) (.node (hob97 P) .nil .nil)) (.node (hob67 P) (.node (hob86 P) .nil .nil) (.node (hob105 P) .nil .nil)))) (.node (boot_o_6 P) (.node (boot_o_10 P) (.node (hob54 P) (.node (hob73 P) .nil .nil) (.node (hob92 P) .nil .nil)) (.node (hob62 P) (.node (hob84 P) .nil .nil) (.node (hob103 P) .nil .nil))) (.node (hob46 P) (.node (hob58 P) (.node (hob77 P) .nil .nil) (.node (hob99 P) .nil .nil)) (.node (hob69 P) (.node (hob88 P) .nil .nil) (.node (hob107 P) .nil .nil))))))
def ht123 (P : Params) : BT := (.node (boot_o_0 P) (.node (boot_o_1 P) (.node (hob109 P) (.node (boot_o_7 P) (.node (hob51 P) (.node (hob70 P) (.node (hob108 P) .nil .nil) .nil) (.node (hob89 P) .nil .nil)) (.node (hob59 P) (.node (hob78 P) (.node (hob119 P) .nil .nil) .nil) (.node (hob100 P) .nil .nil))) (.node (hob43 P) (.node (hob55 P) (.node (hob74 P) (.node (hob115 P) .nil .nil) .nil) (.node (hob93 P) .nil .nil)) (.node (hob63 P) (.node (hob85 P) (.node (hob123 P) .nil .nil) .nil) (.node (hob104 P) .nil .nil)))) (.node (boot_o_5 P) (.node (boot_o_9 P) (.node (hob53 P) (.node (hob72 P) (.node (hob113 P) .nil .nil) .nil) (.node (hob91 P) .nil .nil)) (.node (hob61 P) (.node (hob83 P) (.node (hob121 P) .nil .nil) .nil) (.node (hob102 P) .nil .nil))) (.node (hob45 P) (.node (hob57 P) (.node (hob76 P) (.node (hob117 P) .nil .nil) .nil) (.node (hob98 P) .nil .nil)) (.node (hob68 P) (.node (hob87 P) .nil .nil) (.node (hob106 P) .nil .nil))))) (.node (boot_o_2 P) (.node (boot_o_4 P) (.node (boot_o_8 P) (.node (hob52 P) (.node (hob71 P) (.node (hob112 P) .nil .nil) .nil) (.node (hob90 P) .nil .nil)) (.node (hob111 P) (.node (hob82 P) (.node (hob120 P) .nil .nil) .nil) (.node (hob101 P) .nil .nil))) (.node (hob110 P) (.node (hob56 P) (.node (hob75 P) (.node (hob116 P) .nil .nil) .nil) (.node (hob97 P) .nil .nil)) (.node (hob67 P) (.node (hob86 P) .nil .nil) (.node (hob105 P) .nil .nil)))) (.node (boot_o_6 P) (.node (boot_o_10 P) (.node (hob54 P) (.node (hob73 P) (.node (hob114 P) .nil .nil) .nil) (.node (hob92 P) .nil .nil)) (.node (hob62 P) (.node (hob84 P) (.node (hob122 P) .nil .nil) .nil) (.node (hob103 P) .nil .nil))) (.node (hob46 P) (.node (hob58 P) (.node (hob77 P) (.node (hob118 P) .nil .nil) .nil) (.node (hob99 P) .nil .nil)) (.node (hob69 P) (.node (hob88 P) .nil .nil) (.node (hob107 P) .nil .nil))))))
def hh292 (P : Params) : Heap := ⟨Array.mk [boot_o_0 P, boot_o_1 P, boot_o_2 P, hob283 P, boot_o_4 P, boot_o_5 P, boot_o_6 P, boot_o_7 P, boot_o_8 P, boot_o_9 P, boot_o_10 P, hob43 P, hob284 P, hob45 P, hob46 P, hob51 P, hob52 P, hob53 P, hob54 P, hob55 P, hob56 P, hob57 P, hob58 P, hob59 P, hob156 P, hob61 P, hob62 P, hob63 P, hob67 P, hob68 P, hob69 P, hob70 P, hob71 P, hob72 P, hob73 P, hob74 P, hob75 P, hob76 P, hob77 P, hob78 P, hob82 P, hob83 P, hob84 P, hob85 P, hob86 P, hob87 P, hob88 P, hob89 P, hob90 P, hob91 P, hob92 P, hob93 P, hob97 P, hob98 P, hob99 P, hob100 P, hob101 P, hob102 P, hob103 P, hob104 P, hob105 P, hob106 P, hob107 P, hob108 P, hob112 P, hob113 P, hob114 P, hob115 P, hob116 P, hob117 P, hob118 P, hob119 P, hob120 P, hob121 P, hob122 P, hob123 P, hob127 P, hob128 P, hob129 P, hob130 P, hob131 P, hob132 P, hob133 P, hob134 P, hob135 P, hob136 P, hob137 P, hob138 P, hob142 P, hob143 P, hob144 P, hob145 P, hob146 P, hob147 P, hob148 P, hob149 P, hob150 P, hob151 P, hob152 P, hob153 P, hob157 P, hob158 P, hob159 P, hob160 P, hob161 P, hob162 P, hob163 P, hob164 P, hob165 P, hob166 P, hob167 P, hob168 P, hob169 P, hob170 P, hob171 P, hob172 P, hob173 P, hob174 P, hob175 P, hob176 P, hob177 P, hob178 P, hob179 P, hob180 P, hob181 P, hob182 P, hob183 P, hob184 P, hob185 P, hob186 P, hob187 P, hob188 P, hob189 P, hob190 P, hob191 P, hob192 P, hob193 P, hob194 P, hob195 P, hob196 P, hob199 P, hob200 P, hob201 P, hob202 P, hob203 P, hob204 P, hob205 P, hob206 P, hob207 P, hob208 P, hob209 P, hob210 P, hob211 P, hob212 P, hob213 P, hob214 P, hob215 P, hob216 P, hob217 P, hob218 P, hob219 P, hob220 P, hob221 P, hob222 P, hob223 P, hob224 P, hob225 P, hob226 P, hob227 P, hob228 P, hob229 P, hob230 P, hob231 P, hob232 P, hob233 P, hob234 P, hob235 P, hob236 P, hob237 P, hob238 P, hob239 P, hob240 P, hob241 P, hob242 P, hob243 P, hob244 P, hob245 P, hob246 P, hob247 P, hob248 P, hob249 P, hob250 P, hob251 P, hob252 P, hob253 P, hob254 P, hob255 P, hob256 P, hob257 P, hob258 P, hob259 P, hob260 P, hob261 P, hob262 P, hob263 P, hob264 P, hob265 P, hob266 P, hob267 P, hob268 P, hob269 P, hob270 P, hob271 P, hob272 P, hob273 P, hob274 P, hob275 P, hob276 P, hob277 P, hob278 P, hob279 P, hob280 P, hob281 P, hob282 P, hob285 P, hob286 P, hob287 P, hob288 P, hob289 P, hob290 P, hob291 P], {}⟩
def ht138 (P : Params) : BT := (.node (boot_o_0 P) (.node (boot_o_1 P) (.node (hob124 P) (.node (boot_o_7 P) (.node (hob51 P) (.node (hob70 P) (.node (hob108 P) .nil .nil) .nil) (.node (hob89 P) (.node (hob130 P) .nil .nil) .nil)) (.node (hob59 P) (.node (hob78 P) (.node (hob119 P) .nil .nil) .nil) (.node (hob100 P) (.node (hob138 P) .nil .nil) .nil))) (.node (hob43 P) (.node (hob55 P) (.node (hob74 P) (.node (hob115 P) .nil .nil) .nil) (.node (hob93 P) (.node (hob134 P) .nil .nil) .nil)) (.node (hob63 P) (.node (hob85 P) (.node (hob123 P) .nil .nil) .nil) (.node (hob104 P) .nil .nil)))) (.node (boot_o_5 P) (.node (boot_o_9 P) (.node (hob53 P) (.node (hob72 P) (.node (hob113 P) .nil .nil) .nil) (.node (hob91 P) (.node (hob132 P) .nil .nil) .nil)) (.node (hob61 P) (.node (hob83 P) (.node (hob121 P) .nil .nil) .nil) (.node (hob102 P) .nil .nil))) (.node (hob45 P) (.node (hob57 P) (.node (hob76 P) (.node (hob117 P) .nil .nil) .nil) (.node (hob98 P) (.node (hob136 P) .nil .nil) .nil)) (.node (hob68 P) (.node (hob87 P) (.node (hob128 P) .nil .nil) .nil) (.node (hob106 P) .nil .nil))))) (.node (boot_o_2 P) (.node (boot_o_4 P) (.node (boot_o_8 P) (.node (hob52 P) (.node (hob71 P) (.node (hob112 P) .nil .nil) .nil) (.node (hob90 P) (.node (hob131 P) .nil .nil) .nil)) (.node (hob126 P) (.node (hob82 P) (.node (hob120 P) .nil .nil) .nil) (.node (hob101 P) .nil .nil))) (.node (hob125 P) (.node (hob56 P) (.node (hob75 P) (.node (hob116 P) .nil .nil) .nil) (.node (hob97 P) (.node (hob135 P) .nil .nil) .nil)) (.node (hob67 P) (.node (hob86 P) (.node (hob127 P) .nil .nil) .nil) (.node (hob105 P) .nil .nil)))) (.node (boot_o_6 P) (.node (boot_o_10 P) (.node (hob54 P) (.node (hob73 P) (.node (hob114 P) .nil .nil) .nil) (.node (hob92 P) (.node (hob133 P) .nil .nil) .nil)) (.node (hob62 P) (.node (hob84 P) (.node (hob122 P) .nil .nil) .nil) (.node (hob103 P) .nil .nil))) (.node (hob46 P) (.node (hob58 P) (.node (hob77 P) (.node (hob118 P) .nil .nil) .nil) (.node (hob99 P) (.node (hob137 P) .nil .nil) .nil)) (.node (hob69 P) (.node (hob88 P) (.node (hob129 P) .nil .nil) .nil) (.node (hob107 P) .nil .nil))))))
def ht291 (P : Params) : BT := (.node (boot_o_0 P) (.node (boot_o_1 P) (.node (hob283 P) (.node (boot_o_7 P) (.node (hob51 P) (.node (hob70 P) (.node (hob108 P) (.node (hob184 P) .nil .nil) (.node (hob250 P) .nil .nil)) (.node (hob149 P) (.node (hob218 P) .nil .nil) (.node (hob282 P) .nil .nil))) (.node (hob89 P) (.node (hob130 P) (.node (hob202 P) .nil .nil) (.node (hob266 P) .nil .nil)) (.node (hob168 P) (.node (hob234 P) .nil .nil) .nil))) (.node (hob59 P) (.node (hob78 P) (.node (hob119 P) (.node (hob192 P) .nil .nil) (.node (hob258 P) .nil .nil)) (.node (hob160 P) (.node (hob226 P) .nil .nil) .nil)) (.node (hob100 P) (.node (hob138 P) (.node (hob210 P) .nil .nil) (.node (hob274 P) .nil .nil)) (.node (hob176 P) (.node (hob242 P) .nil .nil) .nil)))) (.node (hob43 P) (.node (hob55 P) (.node (hob74 P) (.node (hob115 P) (.node (hob188 P) .nil .nil) (.node (hob254 P) .nil .nil)) (.node (hob153 P) (.node (hob222 P) .nil .nil) (.node (hob288 P) .nil .nil))) (.node (hob93 P) (.node (hob134 P) (.node (hob206 P) .nil .nil) (.node (hob270 P) .nil .nil)) (.node (hob172 P) (.node (hob238 P) .nil .nil) .nil))) (.node (hob63 P) (.node (hob85 P) (.node (hob123 P) (.node (hob196 P) .nil .nil) (.node (hob262 P) .nil .nil)) (.node (hob164 P) (.node (hob230 P) .nil .nil) .nil)) (.node (hob104 P) (.node (hob145 P) (.node (hob214 P) .nil .nil) (.node (hob278 P) .nil .nil)) (.node (hob180 P) (.node (hob246 P) .nil .nil) .nil))))) (.node (boot_o_5 P) (.node (boot_o_9 P) (.node (hob53 P) (.node (hob72 P) (.node (hob113 P) (.node (hob186 P) .nil .nil) (.node (hob252 P) .nil .nil)) (.node (hob151 P) (.node (hob220 P) .nil .nil) (.node (hob286 P) .nil .nil))) (.node (hob91 P) (.node (hob132 P) (.node (hob204 P) .nil .nil) (.node (hob268 P) .nil .nil)) (.node (hob170 P) (.node (hob236 P) .nil .nil) .nil))) (.node (hob61 P) (.node (hob83 P) (.node (hob121 P) (.node (hob194 P) .nil .nil) (.node (hob260 P) .nil .nil)) (.node (hob162 P) (.node (hob228 P) .nil .nil) .nil)) (.node (hob102 P) (.node (hob143 P) (.node (hob212 P) .nil .nil) (.node (hob276 P) .nil .nil)) (.node (hob178 P) (.node (hob244 P) .nil .nil) .nil)))) (.node (hob45 P) (.node (hob57 P) (.node (hob76 P) (.node (hob117 P) (.node (hob190 P) .nil .nil) (.node (hob256 P) .nil .nil)) (.node (hob158 P) (.node (hob224 P) .nil .nil) (.node (hob290 P) .nil .nil))) (.node (hob98 P) (.node (hob136 P) (.node (hob208 P) .nil .nil) (.node (hob272 P) .nil .nil)) (.node (hob174 P) (.node (hob240 P) .nil .nil) .nil))) (.node (hob68 P) (.node (hob87 P) (.node (hob128 P) (.node (hob200 P) .nil .nil) (.node (hob264 P) .nil .nil)) (.node (hob166 P) (.node (hob232 P) .nil .nil) .nil)) (.node (hob106 P) (.node (hob147 P) (.node (hob216 P) .nil .nil) (.node (hob280 P) .nil .nil)) (.node (hob182 P) (.node (hob248 P) .nil .nil) .nil)))))) (.node (boot_o_2 P) (.node (boot_o_4 P) (.node (boot_o_8 P) (.node (hob52 P) (.node (hob71 P) (.node (hob112 P) (.node (hob185 P) .nil .nil) (.node (hob251 P) .nil .nil)) (.node (hob150 P) (.node (hob219 P) .nil .nil) (.node (hob285 P) .nil .nil))) (.node (hob90 P) (.node (hob131 P) (.node (hob203 P) .nil .nil) (.node (hob267 P) .nil .nil)) (.node (hob169 P) (.node (hob235 P) .nil .nil) .nil))) (.node (hob156 P) (.node (hob82 P) (.node (hob120 P) (.node (hob193 P) .nil .nil) (.node (hob259 P) .nil .nil)) (.node (hob161 P) (.node (hob227 P) .nil .nil) .nil)) (.node (hob101 P) (.node (hob142 P) (.node (hob211 P) .nil .nil) (.node (hob275 P) .nil .nil)) (.node (hob177 P) (.node (hob243 P) .nil .nil) .nil)))) (.node (hob284 P) (.node (hob56 P) (.node (hob75 P) (.node (hob116 P) (.node (hob189 P) .nil .nil) (.node (hob255 P) .nil .nil)) (.node (hob157 P) (.node (hob223 P) .nil .nil) (.node (hob289 P) .nil .nil))) (.node (hob97 P) (.node (hob135 P) (.node (hob207 P) .nil .nil) (.node (hob271 P) .nil .nil)) (.node (hob173 P) (.node (hob239 P) .nil .nil) .nil))) (.node (hob67 P) (.node (hob86 P) (.node (hob127 P) (.node (hob199 P) .nil .nil) (.node (hob263 P) .nil .nil)) (.node (hob165 P) (.node (hob231 P) .nil .nil) .nil)) (.node (hob105 P) (.node (hob146 P) (.node (hob215 P) .nil .nil) (.node (hob279 P) .nil .nil)) (.node (hob181 P) (.node (hob247 P) .nil .nil) .nil))))) (.node (boot_o_6 P) (.node (boot_o_10 P) (.node (hob54 P) (.node (hob73 P) (.node (hob114 P) (.node (hob187 P) .nil .nil) (.node (hob253 P) .nil .nil)) (.node (hob152 P) (.node (hob221 P) .nil .nil) (.node (hob287 P) .nil .nil))) (.node (hob92 P) (.node (hob133 P) (.node (hob205 P) .nil .nil) (.node (hob269 P) .nil .nil)) (.node (hob171 P) (.node (hob237 P) .nil .nil) .nil))) (.node (hob62 P) (.node (hob84 P) (.node (hob122 P) (.node (hob195 P) .nil .nil) (.node (hob261 P) .nil .nil)) (.node (hob163 P) (.node (hob229 P) .nil .nil) .nil)) (.node (hob103 P) (.node (hob144 P) (.node (hob213 P) .nil .nil) (.node (hob277 P) .nil .nil)) (.node (hob179 P) (.node (hob245 P) .nil .nil) .nil)))) (.node (hob46 P) (.node (hob58 P) (.node (hob77 P) (.node (hob118 P) (.node (hob191 P) .nil .nil) (.node (hob257 P) .nil .nil)) (.node (hob159 P) (.node (hob225 P) .nil .nil) (.node (hob291 P) .nil .nil))) (.node (hob99 P) (.node (hob137 P) (.node (hob209 P) .nil .nil) (.node (hob273 P) .nil .nil)) (.node (hob175 P) (.node (hob241 P) .nil .nil) .nil))) (.node (hob69 P) (.node (hob88 P) (.node (hob129 P) (.node (hob201 P) .nil .nil) (.node (hob265 P) .nil .nil)) (.node (hob167 P) (.node (hob233 P) .nil .nil) .nil)) (.node (hob107 P) (.node (hob148 P) (.node (hob217 P) .nil .nil) (.node (hob281 P) .nil .nil)) (.node (hob183 P) (.node (hob249 P) .nil .nil) .nil)))))))
def ht47 (P : Params) : BT := (.node (boot_o_0 P) (.node (boot_o_1 P) (.node (boot_o_3 P) (.node (boot_o_7 P) .nil .nil) (.node (hob43 P) .nil .nil)) (.node (boot_o_5 P) (.node (boot_o_9 P) .nil .nil) (.node (hob45 P) .nil .nil))) (.node (boot_o_2 P) (.node (boot_o_4 P) (.node (boot_o_8 P) .nil .nil) (.node (hob44 P) .nil .nil)) (.node (boot_o_6 P) (.node (boot_o_10 P) .nil .nil) (.node (hob46 P) .nil .nil))))
def ht282 (P : Params) : BT := (.node (boot_o_0 P) (.node (boot_o_1 P) (.node (hob197 P) (.node (boot_o_7 P) (.node (hob51 P) (.node (hob70 P) (.node (hob108 P) (.node (hob184 P) .nil .nil) (.node (hob250 P) .nil .nil)) (.node (hob149 P) (.node (hob218 P) .nil .nil) (.node (hob282 P) .nil .nil))) (.node (hob89 P) (.node (hob130 P) (.node (hob202 P) .nil .nil) (.node (hob266 P) .nil .nil)) (.node (hob168 P) (.node (hob234 P) .nil .nil) .nil))) (.node (hob59 P) (.node (hob78 P) (.node (hob119 P) (.node (hob192 P) .nil .nil) (.node (hob258 P) .nil .nil)) (.node (hob160 P) (.node (hob226 P) .nil .nil) .nil)) (.node (hob100 P) (.node (hob138 P) (.node (hob210 P) .nil .nil) (.node (hob274 P) .nil .nil)) (.node (hob176 P) (.node (hob242 P) .nil .nil) .nil)))) (.node (hob43 P) (.node (hob55 P) (.node (hob74 P) (.node (hob115 P) (.node (hob188 P) .nil .nil) (.node (hob254 P) .nil .nil)) (.node (hob153 P) (.node (hob222 P) .nil .nil) .nil)) (.node (hob93 P) (.node (hob134 P) (.node (hob206 P) .nil .nil) (.node (hob270 P) .nil .nil)) (.node (hob172 P) (.node (hob238 P) .nil .nil) .nil))) (.node (hob63 P) (.node (hob85 P) (.node (hob123 P) (.node (hob196 P) .nil .nil) (.node (hob262 P) .nil .nil)) (.node (hob164 P) (.node (hob230 P) .nil .nil) .nil)) (.node (hob104 P) (.node (hob145 P) (.node (hob214 P) .nil .nil) (.node (hob278 P) .nil .nil)) (.node (hob180 P) (.node (hob246 P) .nil .nil) .nil))))) (.node (boot_o_5 P) (.node (boot_o_9 P) (.node (hob53 P) (.node (hob72 P) (.node (hob113 P) (.node (hob186 P) .nil .nil) (.node (hob252 P) .nil .nil)) (.node (hob151 P) (.node (hob220 P) .nil .nil) .nil)) (.node (hob91 P) (.node (hob132 P) (.node (hob204 P) .nil .nil) (.node (hob268 P) .nil .nil)) (.node (hob170 P) (.node (hob236 P) .nil .nil) .nil))) (.node (hob61 P) (.node (hob83 P) (.node (hob121 P) (.node (hob194 P) .nil .nil) (.node (hob260 P) .nil .nil)) (.node (hob162 P) (.node (hob228 P) .nil .nil) .nil)) (.node (hob102 P) (.node (hob143 P) (.node (hob212 P) .nil .nil) (.node (hob276 P) .nil .nil)) (.node (hob178 P) (.node (hob244 P) .nil .nil) .nil)))) (.node (hob45 P) (.node (hob57 P) (.node (hob76 P) (.node (hob117 P) (.node (hob190 P) .nil .nil) (.node (hob256 P) .nil .nil)) (.node (hob158 P) (.node (hob224 P) .nil .nil) .nil)) (.node (hob98 P) (.node (hob136 P) (.node (hob208 P) .nil .nil) (.node (hob272 P) .nil .nil)) (.node (hob174 P) (.node (hob240 P) .nil .nil) .nil))) (.node (hob68 P) (.node (hob87 P) (.node (hob128 P) (.node (hob200 P) .nil .nil) (.node (hob264 P) .nil .nil)) (.node (hob166 P) (.node (hob232 P) .nil .nil) .nil)) (.node (hob106 P) (.node (hob147 P) (.node (hob216 P) .nil .nil) (.node (hob280 P) .nil .nil)) (.node (hob182 P) (.node (hob248 P) .nil .nil) .nil)))))) (.node (boot_o_2 P) (.node (boot_o_4 P) (.node (boot_o_8 P) (.node (hob52 P) (.node (hob71 P) (.node (hob112 P) (.node (hob185 P) .nil .nil) (.node (hob251 P) .nil .nil)) (.node (hob150 P) (.node (hob219 P) .nil .nil) .nil)) (.node (hob90 P) (.node (hob131 P) (.node (hob203 P) .nil .nil) (.node (hob267 P) .nil .nil)) (.node (hob169 P) (.node (hob235 P) .nil .nil) .nil))) (.node (hob156 P) (.node (hob82 P) (.node (hob120 P) (.node (hob193 P) .nil .nil) (.node (hob259 P) .nil .nil)) (.node (hob161 P) (.node (hob227 P) .nil .nil) .nil)) (.node (hob101 P) (.node (hob142 P) (.node (hob211 P) .nil .nil) (.node (hob275 P) .nil .nil)) (.node (hob177 P) (.node (hob243 P) .nil .nil) .nil)))) (.node (hob198 P) (.node (hob56 P) (.node (hob75 P) (.node (hob116 P) (.node (hob189 P) .nil .nil) (.node (hob255 P) .nil .nil)) (.node (hob157 P) (.node (hob223 P) .nil .nil) .nil)) (.node (hob97 P) (.node (hob135 P) (.node (hob207 P) .nil .nil) (.node (hob271 P) .nil .nil)) (.node (hob173 P) (.node (hob239 P) .nil .nil) .nil))) (.node (hob67 P) (.node (hob86 P) (.node (hob127 P) (.node (hob199 P) .nil .nil) (.node (hob263 P) .nil .nil)) (.node (hob165 P) (.node (hob231 P) .nil .nil) .nil)) (.node (hob105 P) (.node (hob146 P) (.node (hob215 P) .nil .nil) (.node (hob279 P) .nil .nil)) (.node (hob181 P) (.node (hob247 P) .nil .nil) .nil))))) (.node (boot_o_6 P) (.node (boot_o_10 P) (.node (hob54 P) (.node (hob73 P) (.node (hob114 P) (.node (hob187 P) .nil .nil) (.node (hob253 P) .nil .nil)) (.node (hob152 P) (.node (hob221 P) .nil .nil) .nil)) (.node (hob92 P) (.node (hob133 P) (.node (hob205 P) .nil .nil) (.node (hob269 P) .nil .nil)) (.node (hob171 P) (.node (hob237 P) .nil .nil) .nil))) (.node (hob62 P) (.node (hob84 P) (.node (hob122 P) (.node (hob195 P) .nil .nil) (.node (hob261 P) .nil .nil)) (.node (hob163 P) (.node (hob229 P) .nil .nil) .nil)) (.node (hob103 P) (.node (hob144 P) (.node (hob213 P) .nil .nil) (.node (hob277 P) .nil .nil)) (.node (hob179 P) (.node (hob245 P) .nil .nil) .nil)))) (.node (hob46 P) (.node (hob58 P) (.node (hob77 P) (.node (hob118 P) (.node (hob191 P) .nil .nil) (.node (hob257 P) .nil .nil)) (.node (hob159 P) (.node (hob225 P) .nil .nil) .nil)) (.node (hob99 P) (.node (hob137 P) (.node (hob209 P) .nil .nil) (.node (hob273 P) .nil .nil)) (.node (hob175 P) (.node (hob241 P) .nil .nil) .nil))) (.node (hob69 P) (.node (hob88 P) (.node (hob129 P) (.node (hob201 P) .nil .nil) (.node (hob265 P) .nil .nil)) (.node (hob167 P) (.node (hob233 P) .nil .nil) .nil)) (.node (hob107 P) (.node (hob148 P) (.node (hob217 P) .nil .nil) (.node (hob281 P) .nil .nil)) (.node (hob183 P) (.node (hob249 P) .nil .nil) .nil)))))))
def ht196 (P : Params) : BT := (.node (boot_o_0 P) (.node (boot_o_1 P) (.node (hob154 P) (.node (boot_o_7 P) (.node (hob51 P) (.node (hob70 P) (.node (hob108 P) (.node (hob184 P) .nil .nil) .nil) (.node (hob149 P) .nil .nil)) (.node (hob89 P) (.node (hob130 P) .nil .nil) (.node (hob168 P) .nil .nil))) (.node (hob59 P) (.node (hob78 P) (.node (hob119 P) (.node (hob192 P) .nil .nil) .nil) (.node (hob160 P) .nil .nil)) (.node (hob100 P) (.node (hob138 P) .nil .nil) (.node (hob176 P) .nil .nil)))) (.node (hob43 P) (.node (hob55 P) (.node (hob74 P) (.node (hob115 P) (.node (hob188 P) .nil .nil) .nil) (.node (hob153 P) .nil .nil)) (.node (hob93 P) (.node (hob134 P) .nil .nil) (.node (hob172 P) .nil .nil))) (.node (hob63 P) (.node (hob85 P) (.node (hob123 P) (.node (hob196 P) .nil .nil) .nil) (.node (hob164 P) .nil .nil)) (.node (hob104 P) (.node (hob145 P) .nil .nil) (.node (hob180 P) .nil .nil))))) (.node (boot_o_5 P) (.node (boot_o_9 P) (.node (hob53 P) (.node (hob72 P) (.node (hob113 P) (.node (hob186 P) .nil .nil) .nil) (.node (hob151 P) .nil .nil)) (.node (hob91 P) (.node (hob132 P) .nil .nil) (.node (hob170 P) .nil .nil))) (.node (hob61 P) (.node (hob83 P) (.node (hob121 P) (.node (hob194 P) .nil .nil) .nil) (.node (hob162 P) .nil .nil)) (.node (hob102 P) (.node (hob143 P) .nil .nil) (.node (hob178 P) .nil .nil)))) (.node (hob45 P) (.node (hob57 P) (.node (hob76 P) (.node (hob117 P) (.node (hob190 P) .nil .nil) .nil) (.node (hob158 P) .nil .nil)) (.node (hob98 P) (.node (hob136 P) .nil .nil) (.node (hob174 P) .nil .nil))) (.node (hob68 P) (.node (hob87 P) (.node (hob128 P) .nil .nil) (.node (hob166 P) .nil .nil)) (.node (hob106 P) (.node (hob147 P) .nil .nil) (.node (hob182 P) .nil .nil)))))) (.node (boot_o_2 P) (.node (boot_o_4 P) (.node (boot_o_8 P) (.node (hob52 P) (.node (hob71 P) (.node (hob112 P) (.node (hob185 P) .nil .nil) .nil) (.node (hob150 P) .nil .nil)) (.node (hob90 P) (.node (hob131 P) .nil .nil) (.node (hob169 P) .nil .nil))) (.node (hob156 P) (.node (hob82 P) (.node (hob120 P) (.node (hob193 P) .nil .nil) .nil) (.node (hob161 P) .nil .nil)) (.node (hob101 P) (.node (hob142 P) .nil .nil) (.node (hob177 P) .nil .nil)))) (.node (hob155 P) (.node (hob56 P) (.node (hob75 P) (.node (hob116 P) (.node (hob189 P) .nil .nil) .nil) (.node (hob157 P) .nil .nil)) (.node (hob97 P) (.node (hob135 P) .nil .nil) (.node (hob173 P) .nil .nil))) (.node (hob67 P) (.node (hob86 P) (.node (hob127 P) .nil .nil) (.node (hob165 P) .nil .nil)) (.node (hob105 P) (.node (hob146 P) .nil .nil) (.node (hob181 P) .nil .nil))))) (.node (boot_o_6 P) (.node (boot_o_10 P) (.node (hob54 P) (.node (hob73 P) (.node (hob114 P) (.node (hob187 P) .nil .nil) .nil) (.node (hob152 P) .nil .nil)) (.node (hob92 P) (.node (hob133 P) .nil .nil) (.node (hob171 P) .nil .nil))) (.node (hob62 P) (.node (hob84 P) (.node (hob122 P) (.node (hob195 P) .nil .nil) .nil) (.node (hob163 P) .nil .nil)) (.node (hob103 P) (.node (hob144 P) .nil .nil) (.node (hob179 P) .nil .nil)))) (.node (hob46 P) (.node (hob58 P) (.node (hob77 P) (.node (hob118 P) (.node (hob191 P) .nil .nil) .nil) (.node (hob159 P) .nil .nil)) (.node (hob99 P) (.node (hob137 P) .nil .nil) (.node (hob175 P) .nil .nil))) (.node (hob69 P) (.node (hob88 P) (.node (hob129 P) .nil .nil) (.node (hob167 P) .nil .nil)) (.node (hob107 P) (.node (hob148 P) .nil .nil) (.node (hob183 P) .nil .nil)))))))
def ht93 (P : Params) : BT := (.node (boot_o_0 P) (.node (boot_o_1 P) (.node (hob79 P) (.node (boot_o_7 P) (.node (hob51 P) (.node (hob70 P) .nil .nil) (.node (hob89 P) .nil .nil)) (.node (hob59 P) (.node (hob78 P) .nil .nil) .nil)) (.node (hob43 P) (.node (hob55 P) (.node (hob74 P) .nil .nil) (.node (hob93 P) .nil .nil)) (.node (hob63 P) (.node (hob85 P) .nil .nil) .nil))) (.node (boot_o_5 P) (.node (boot_o_9 P) (.node (hob53 P) (.node (hob72 P) .nil .nil) (.node (hob91 P) .nil .nil)) (.node (hob61 P) (.node (hob83 P) .nil .nil) .nil)) (.node (hob45 P) (.node (hob57 P) (.node (hob76 P) .nil .nil) .nil) (.node (hob68 P) (.node (hob87 P) .nil .nil) .nil)))) (.node (boot_o_2 P) (.node (boot_o_4 P) (.node (boot_o_8 P) (.node (hob52 P) (.node (hob71 P) .nil .nil) (.node (hob90 P) .nil .nil)) (.node (hob81 P) (.node (hob82 P) .nil .nil) .nil)) (.node (hob80 P) (.node (hob56 P) (.node (hob75 P) .nil .nil) .nil) (.node (hob67 P) (.node (hob86 P) .nil .nil) .nil))) (.node (boot_o_6 P) (.node (boot_o_10 P) (.node (hob54 P) (.node (hob73 P) .nil .nil) (.node (hob92 P) .nil .nil)) (.node (hob62 P) (.node (hob84 P) .nil .nil) .nil)) (.node (hob46 P) (.node (hob58 P) (.node (hob77 P) .nil .nil) .nil) (.node (hob69 P) (.node (hob88 P) .nil .nil) .nil)))))
def ht63 (P : Params) : BT := (.node (boot_o_0 P) (.node (boot_o_1 P) (.node (hob49 P) (.node (boot_o_7 P) (.node (hob51 P) .nil .nil) (.node (hob59 P) .nil .nil)) (.node (hob43 P) (.node (hob55 P) .nil .nil) (.node (hob63 P) .nil .nil))) (.node (boot_o_5 P) (.node (boot_o_9 P) (.node (hob53 P) .nil .nil) (.node (hob61 P) .nil .nil)) (.node (hob45 P) (.node (hob57 P) .nil .nil) .nil))) (.node (boot_o_2 P) (.node (boot_o_4 P) (.node (boot_o_8 P) (.node (hob52 P) .nil .nil) (.node (hob60 P) .nil .nil)) (.node (hob50 P) (.node (hob56 P) .nil .nil) .nil)) (.node (boot_o_6 P) (.node (boot_o_10 P) (.node (hob54 P) .nil .nil) (.node (hob62 P) .nil .nil)) (.node (hob46 P) (.node (hob58 P) .nil .nil) .nil))))
def ht153 (P : Params) : BT := (.node (boot_o_0 P) (.node (boot_o_1 P) (.node (hob139 P) (.node (boot_o_7 P) (.node (hob51 P) (.node (hob70 P) (.node (hob108 P) .nil .nil) (.node (hob149 P) .nil .nil)) (.node (hob89 P) (.node (hob130 P) .nil .nil) .nil)) (.node (hob59 P) (.node (hob78 P) (.node (hob119 P) .nil .nil) .nil) (.node (hob100 P) (.node (hob138 P) .nil .nil) .nil))) (.node (hob43 P) (.node (hob55 P) (.node (hob74 P) (.node (hob115 P) .nil .nil) (.node (hob153 P) .nil .nil)) (.node (hob93 P) (.node (hob134 P) .nil .nil) .nil)) (.node (hob63 P) (.node (hob85 P) (.node (hob123 P) .nil .nil) .nil) (.node (hob104 P) (.node (hob145 P) .nil .nil) .nil)))) (.node (boot_o_5 P) (.node (boot_o_9 P) (.node (hob53 P) (.node (hob72 P) (.node (hob113 P) .nil .nil) (.node (hob151 P) .nil .nil)) (.node (hob91 P) (.node (hob132 P) .nil .nil) .nil)) (.node (hob61 P) (.node (hob83 P) (.node (hob121 P) .nil .nil) .nil) (.node (hob102 P) (.node (hob143 P) .nil .nil) .nil))) (.node (hob45 P) (.node (hob57 P) (.node (hob76 P) (.node (hob117 P) .nil .nil) .nil) (.node (hob98 P) (.node (hob136 P) .nil .nil) .nil)) (.node (hob68 P) (.node (hob87 P) (.node (hob128 P) .nil .nil) .nil) (.node (hob106 P) (.node (hob147 P) .nil .nil) .nil))))) (.node (boot_o_2 P) (.node (boot_o_4 P) (.node (boot_o_8 P) (.node (hob52 P) (.node (hob71 P) (.node (hob112 P) .nil .nil) (.node (hob150 P) .nil .nil)) (.node (hob90 P) (.node (hob131 P) .nil .nil) .nil)) (.node (hob141 P) (.node (hob82 P) (.node (hob120 P) .nil .nil) .nil) (.node (hob101 P) (.node (hob142 P) .nil .nil) .nil))) (.node (hob140 P) (.node (hob56 P) (.node (hob75 P) (.node (hob116 P) .nil .nil) .nil) (.node (hob97 P) (.node (hob135 P) .nil .nil) .nil)) (.node (hob67 P) (.node (hob86 P) (.node (hob127 P) .nil .nil) .nil) (.node (hob105 P) (.node (hob146 P) .nil .nil) .nil)))) (.node (boot_o_6 P) (.node (boot_o_10 P) (.node (hob54 P) (.node (hob73 P) (.node (hob114 P) .nil .nil) (.node (hob152 P) .nil .nil)) (.node (hob92 P) (.node (hob133 P) .nil .nil) .nil)) (.node (hob62 P) (.node (hob84 P) (.node (hob122 P) .nil .nil) .nil) (.node (hob103 P) (.node (hob144 P) .nil .nil) .nil))) (.node (hob46 P) (.node (hob58 P) (.node (hob77 P) (.node (hob118 P) .nil .nil) .nil) (.node (hob99 P) (.node (hob137 P) .nil .nil) .nil)) (.node (hob69 P) (.node (hob88 P) (.node (hob129 P) .nil .nil) .nil) (.node (hob107 P) (.node (hob148 P) .nil .nil) .nil))))))
def hen : Env := { scope := hp.main.scope, locals := mainNs, globals := mainNs, cells := [], code := .ref 13, frame := some 14 }
def hvw : Program := view hp ((List.range 30).filter fun i => !([0, 9, 14].contains i))
def hcs : List (Str × Addr) := [("FractionError", 24), ("NoFraction", 37), ("NoPath", 49), ("NoBounds", 61), ("NoRoom", 73), ("Unsure", 85), ("NoText", 97), ("NoNumber", 109)]
def hpl : List Addr := [3, 24, 23, 37, 36, 49, 48, 61, 60, 73, 72, 85, 84, 97, 96, 109, 108]
abbrev hz : Pos := { line := 0, col := 0, endLine := 0, endCol := 0 }
abbrev hcE : Code := .body (behindTheImports hp) hen
abbrev hXt (s : Shared) : Bool := xlAt hvw [] s && recOk (RowW.records PySem.Challenge.rw_uf050018_07.row.toRowW) s
abbrev hH : Hook := ecHook hpl hcs 24
abbrev hs0 (w : World) (os : OsState) : SharedT := { tree := ht47 w.params, n := 15, life := {}, gens := Array.mk [], drawn := {}, toks := 187, os := os }
abbrev hs1 (w : World) (os : OsState) : SharedT := { tree := ht63 w.params, n := 28, life := {}, gens := Array.mk [], drawn := {}, toks := 207, os := os }
abbrev hs2 (w : World) (os : OsState) : SharedT := { tree := ht78 w.params, n := 40, life := {}, gens := Array.mk [], drawn := {}, toks := 223, os := os }
abbrev hs3 (w : World) (os : OsState) : SharedT := { tree := ht93 w.params, n := 52, life := {}, gens := Array.mk [], drawn := {}, toks := 239, os := os }
abbrev hs4 (w : World) (os : OsState) : SharedT := { tree := ht108 w.params, n := 64, life := {}, gens := Array.mk [], drawn := {}, toks := 255, os := os }
abbrev hs5 (w : World) (os : OsState) : SharedT := { tree := ht123 w.params, n := 76, life := {}, gens := Array.mk [], drawn := {}, toks := 271, os := os }
abbrev hs6 (w : World) (os : OsState) : SharedT := { tree := ht138 w.params, n := 88, life := {}, gens := Array.mk [], drawn := {}, toks := 287, os := os }
abbrev hs7 (w : World) (os : OsState) : SharedT := { tree := ht153 w.params, n := 100, life := {}, gens := Array.mk [], drawn := {}, toks := 303, os := os }
abbrev hs8 (w : World) (os : OsState) : SharedT := { tree := ht196 w.params, n := 140, life := {}, gens := Array.mk [], drawn := {}, toks := 365, os := os }
abbrev hs9 (w : World) (os : OsState) : SharedT := { tree := ht282 w.params, n := 224, life := {}, gens := Array.mk [], drawn := {}, toks := 473, os := os }
abbrev hs10 (w : World) (os : OsState) : SharedT := { tree := ht291 w.params, n := 231, life := {}, gens := Array.mk [], drawn := {}, toks := 488, os := os }
abbrev hsf (w : World) (os : OsState) : Shared := ⟨hh292 w.params, Array.mk [], {}, 488, os⟩
theorem h_size (w : World) : ((boot_heap w.params).isNs mainGlobals && (Array.mk [] : Array GenState).size == 0, (boot_heap w.params).objs.size, (boot_heap w.params).nsMap mainGlobals "__annotations__") = (true, 11, some (.ref 6)) := by rw [PySem.W.Fast.te8920871248978507458]; kernel_rfl
theorem h_pre (w : World) (os : OsState) : topGo treeTable hp w 11 (some (.ref 6)) 12 ⟨boot_heap w.params, Array.mk [], boot_drawn, boot_toks, os⟩ (topStub hp) = some ((hs0 w os).abs, ⟨denote treeTable hcE, hcE, hz, [topFrame hz]⟩) := by rw [PySem.W.Fast.te15667345088766844465, PySem.W.Fast.te14364793385576792824, PySem.W.Fast.te11892475500146522536]; kernel_rfl
theorem h_blk (w : World) (os : OsState) : segRun treeTable hp w 11 (some (.ref 6)) 1 1 (hs0 w os).abs (blockOf (behindTheImports hp) hen hcE hz [topFrame hz]) = some (.next, (hs0 w os).abs, hcE, hz) := by rw [PySem.W.Fast.te14374325043358763698, PySem.W.Fast.te14364793385576792824]; kernel_rfl
theorem h_p0 (w : World) (os : OsState) : segRunT treeTable hp w 11 (some (.ref 6)) 1 196 (hs0 w os) (piecesOf (((behindTheImports hp).drop 0).take 2) hen hcE { line := 0, col := 0, endLine := 0, endCol := 0 } [topFrame hz]) = some (.next, hs1 w os, hcE, { line := 2, col := 0, endLine := 3, endCol := 8 }) := by rw [PySem.W.Fast.te10110043849684766642, PySem.W.Fast.te14364793385576792824]; kernel_rfl
theorem h_p1 (w : World) (os : OsState) : segRunT treeTable hp w 11 (some (.ref 6)) 1 214 (hs1 w os) (piecesOf (((behindTheImports hp).drop 2).take 1) hen hcE { line := 2, col := 0, endLine := 3, endCol := 8 } [topFrame hz]) = some (.next, hs2 w os, hcE, { line := 4, col := 0, endLine := 5, endCol := 8 }) := by rw [PySem.W.Fast.te10110043849684766642, PySem.W.Fast.te14364793385576792824]; kernel_rfl
theorem h_p2 (w : World) (os : OsState) : segRunT treeTable hp w 11 (some (.ref 6)) 1 214 (hs2 w os) (piecesOf (((behindTheImports hp).drop 3).take 1) hen hcE { line := 4, col := 0, endLine := 5, endCol := 8 } [topFrame hz]) = some (.next, hs3 w os, hcE, { line := 6, col := 0, endLine := 7, endCol := 8 }) := by rw [PySem.W.Fast.te10110043849684766642, PySem.W.Fast.te14364793385576792824]; kernel_rfl
theorem h_p3 (w : World) (os : OsState) : segRunT treeTable hp w 11 (some (.ref 6)) 1 214 (hs3 w os) (piecesOf (((behindTheImports hp).drop 4).take 1) hen hcE { line := 6, col := 0, endLine := 7, endCol := 8 } [topFrame hz]) = some (.next, hs4 w os, hcE, { line := 8, col := 0, endLine := 9, endCol := 8 }) := by rw [PySem.W.Fast.te10110043849684766642, PySem.W.Fast.te14364793385576792824]; kernel_rfl
theorem h_p4 (w : World) (os : OsState) : segRunT treeTable hp w 11 (some (.ref 6)) 1 214 (hs4 w os) (piecesOf (((behindTheImports hp).drop 5).take 1) hen hcE { line := 8, col := 0, endLine := 9, endCol := 8 } [topFrame hz]) = some (.next, hs5 w os, hcE, { line := 10, col := 0, endLine := 11, endCol := 8 }) := by rw [PySem.W.Fast.te10110043849684766642, PySem.W.Fast.te14364793385576792824]; kernel_rfl
theorem h_p5 (w : World) (os : OsState) : segRunT treeTable hp w 11 (some (.ref 6)) 1 214 (hs5 w os) (piecesOf (((behindTheImports hp).drop 6).take 1) hen hcE { line := 10, col := 0, endLine := 11, endCol := 8 } [topFrame hz]) = some (.next, hs6 w os, hcE, { line := 12, col := 0, endLine := 13, endCol := 8 }) := by rw [PySem.W.Fast.te10110043849684766642, PySem.W.Fast.te14364793385576792824]; kernel_rfl
theorem h_p6 (w : World) (os : OsState) : segRunT treeTable hp w 11 (some (.ref 6)) 1 214 (hs6 w os) (piecesOf (((behindTheImports hp).drop 7).take 1) hen hcE { line := 12, col := 0, endLine := 13, endCol := 8 } [topFrame hz]) = some (.next, hs7 w os, hcE, { line := 14, col := 0, endLine := 15, endCol := 8 }) := by rw [PySem.W.Fast.te10110043849684766642, PySem.W.Fast.te14364793385576792824]; kernel_rfl
theorem h_p7 (w : World) (os : OsState) : segRunT treeTable hp w 11 (some (.ref 6)) 1 376 (hs7 w os) (piecesOf (((behindTheImports hp).drop 8).take 9) hen hcE { line := 14, col := 0, endLine := 15, endCol := 8 } [topFrame hz]) = some (.next, hs8 w os, hcE, { line := 49, col := 0, endLine := 50, endCol := 105 }) := by rw [PySem.W.Fast.te10110043849684766642, PySem.W.Fast.te14364793385576792824]; kernel_rfl
theorem h_p8 (w : World) (os : OsState) : segRunT treeTable hp w 11 (some (.ref 6)) 1 373 (hs8 w os) (piecesOf (((behindTheImports hp).drop 17).take 12) hen hcE { line := 49, col := 0, endLine := 50, endCol := 105 } [topFrame hz]) = some (.next, hs9 w os, hcE, { line := 128, col := 0, endLine := 133, endCol := 16 }) := by rw [PySem.W.Fast.te10110043849684766642, PySem.W.Fast.te14364793385576792824]; kernel_rfl
theorem h_p9 (w : World) (os : OsState) : segRunT treeTable hp w 11 (some (.ref 6)) 1 38 (hs9 w os) (piecesOf (((behindTheImports hp).drop 29).take 1) hen hcE { line := 128, col := 0, endLine := 133, endCol := 16 } [topFrame hz]) = some (.next, hs10 w os, hcE, { line := 134, col := 0, endLine := 157, endCol := 60 }) := by rw [PySem.W.Fast.te10110043849684766642, PySem.W.Fast.te14364793385576792824]; kernel_rfl
theorem h_fin (w : World) (os : OsState) : topRun treeTable hp w 11 (some (.ref 6)) 2 (hs10 w os).abs ⟨doneF .next, hcE, { line := 134, col := 0, endLine := 157, endCol := 60 }, [topFrame hz]⟩ = some (hsf w os) := by rw [PySem.W.Fast.te14082659384304107361, PySem.W.Fast.te14364793385576792824]; kernel_rfl
theorem h_l0 (w : World) (os : OsState) : (staticsOk (importedModules hp.main.body) (boot_heap w.params) (hsf w os).heap && namesBound hp (hsf w os).heap && gensDone (hsf w os) && laidKept (boot_heap w.params) (hsf w os).heap) = true := by rw [PySem.W.Fast.te5923862056798008813]; kernel_rfl
theorem h_l1 (w : World) (os : OsState) : seen ((recsOf hvw).map (·.name)) (ownsOf hvw) [] { hsf w os with gens := #[] } = expectedOf hvw := by rw [PySem.W.Fast.te5160383126252970620, PySem.W.Fast.te3399658132070893891, PySem.W.Fast.te5991557255702980513]; kernel_rfl
theorem h_l2 (w : World) (os : OsState) : (hsf w os).heap.bltView = bltViewBooted := by kernel_rfl
theorem h_l3 (w : World) (os : OsState) : ((hsf w os).heap.keysOk (looseW hvw []) ((recsOf hvw).map (·.name)) ((litsOf hvw).map (·.1)) ((clssOf hvw (looseW hvw [])).map (·.name)) && (hsf w os).heap.accountedOkI (importedModules hp.main.body) && (hsf w os).heap.isNs mainGlobals && (hsf w os).heap.isNs builtinsNs && tablesOk hvw (hsf w os).heap && hXt (hsf w os) && (if true = true then (hsf w os).gens.size == 0 else !leftWithCleanup (hsf w os).gens)) = true := by rw [PySem.W.Fast.te10880121769531294198, PySem.W.Fast.te821141287760084731, PySem.W.Fast.te3399658132070893891, PySem.W.Fast.te7409074990110511671, PySem.W.Fast.te13664370479719496447, PySem.W.Fast.te14722251495701143533, PySem.W.Fast.te5923862056798008813, PySem.W.Fast.te10994771534591457954]; kernel_rfl
theorem h_l4 (w : World) (os : OsState) : tabsOk hvw (hsf w os) = true := by rw [PySem.W.Fast.te479339242167458305]; kernel_rfl
theorem h_l5 (w : World) (os : OsState) : pinSeenD hvw (drecsOf hvw) (hsf w os) = pinGoodD (drecsOf hvw) := by rw [PySem.W.Fast.te16090120013241838585, PySem.W.Fast.te3247288618530077131]; kernel_rfl
theorem h_l6 (w : World) (os : OsState) : plainSeenE hvw (looseW hvw []) (hsf w os) = plainGoodE hvw (looseW hvw []) := by rw [PySem.W.Fast.te2386780881361962483, PySem.W.Fast.te821141287760084731]; kernel_rfl
theorem h_l7 (w : World) (os : OsState) : plainSeenD hvw [] (hsf w os) = plainGoodD hvw [] := by rw [PySem.W.Fast.te11698064438423848299]; kernel_rfl
theorem h_l8 (w : World) (os : OsState) : wideSeen hvw (hsf w os) = wideGood hvw := by rw [PySem.W.Fast.te7317090234206586261]; kernel_rfl
theorem h_l9 (w : World) (os : OsState) : clsSeenW hvw [] (hsf w os) = clsGoodW hvw [] := by rw [PySem.W.Fast.te7369524293546568484]; kernel_rfl
theorem h_ly (w : World) (os : OsState) : hH.obs (hsf w os) = hH.val w := by kernel_rfl
theorem h_open : ∀ w : World, (fencedOpening treeTable hp w 5600).map (fun s => (s.heap, s.gens, s.drawn, s.toks)) = some (boot_heap w.params, Array.mk [], boot_drawn, boot_toks) := boot_open (by kernel_rfl) (by kernel_rfl) (fun s => by kernel_rfl)
theorem h_parts : ((behindTheImports hp).drop 0).take 2 ++ (((behindTheImports hp).drop 2).take 1 ++ (((behindTheImports hp).drop 3).take 1 ++ (((behindTheImports hp).drop 4).take 1 ++ (((behindTheImports hp).drop 5).take 1 ++ (((behindTheImports hp).drop 6).take 1 ++ (((behindTheImports hp).drop 7).take 1 ++ (((behindTheImports hp).drop 8).take 9 ++ (((behindTheImports hp).drop 17).take 12 ++ (((behindTheImports hp).drop 29).take 1 ++ ([])))))))))) = behindTheImports hp := by kernel_rfl
theorem h_run (w : World) (os : OsState) : topRun treeTable hp w 11 (some (.ref 6)) (12 + (1 + (196 + (214 + (214 + (214 + (214 + (214 + (214 + (376 + (373 + (38 + (2))))))))))))) ⟨boot_heap w.params, Array.mk [], boot_drawn, boot_toks, os⟩ (topStub hp) = some (hsf w os) := by
  have r := piece_nil (env := hen) (h_fin w os)
  have r := piece_app (segRun_of (h_p9 w os)) r
  have r := piece_app (segRun_of (h_p8 w os)) r
  have r := piece_app (segRun_of (h_p7 w os)) r
  have r := piece_app (segRun_of (h_p6 w os)) r
  have r := piece_app (segRun_of (h_p5 w os)) r
  have r := piece_app (segRun_of (h_p4 w os)) r
  have r := piece_app (segRun_of (h_p3 w os)) r
  have r := piece_app (segRun_of (h_p2 w os)) r
  have r := piece_app (segRun_of (h_p1 w os)) r
  have r := piece_app (segRun_of (h_p0 w os)) r
  rw [h_parts] at r
  exact go_top (h_pre w os) (piece_block (h_blk w os) r)
theorem h_left : LeftO hp hvw [] hXt hH.obs hH.val 5600 :=
  LeftO.of_pieces (H₁ := hh292) (gs₁ := Array.mk []) (d₁ := {}) (k₁ := 488) h_open h_size h_run (by kernel_rfl) fun w => funext fun os =>
    looks_of (h_l0 w os) (h_l1 w os) (h_l2 w os) (h_l3 w os) (h_l4 w os) (h_l5 w os) (h_l6 w os) (h_l7 w os) (h_l8 w os) (h_l9 w os) (h_ly w os)
abbrev hl : OpenLaw := PySem.Challenge.rw_uf050018_07
theorem h_q1 : namesResolve hl.row.prog = true := by kernel_rfl
theorem h_q2 : hl.row.prog.boundNames.all (fun n => !worldNames.contains n) = true := by kernel_rfl
theorem h_q3 : (["vars", "dir", "locals"] : List Str).filter (readsOut hl.row.prog hl.row.prog.main.body) = [] := by kernel_rfl
theorem h_q4 : noRoadLSs { strict := !(importedModules hl.row.prog.main.body).all cThrough.contains, foot := none, bare := (["vars", "dir", "locals"] : List Str).filter (readsOut hl.row.prog hl.row.prog.main.body) } hl.row.prog.main.body = true := by rw [h_q3]; kernel_rfl
theorem h_q5 : namesMeet hl.row.prog hl.row.prog.main.body (fun _ n => attrL n) = true := by kernel_rfl
theorem h_s1 : looksOpen hl.row.prog = true := by unfold looksOpen; rw [h_q1, h_q2, h_q4, h_q5]; kernel_rfl
theorem h_s2 : noRoadLSs { strict := true, foot := some hl.bound', writes := hl.writes, may := hl.may } hl.footing = true := by kernel_rfl
theorem h_s3 : hl.bound'.all (fun n => !builtinNamed n || hl.about == [n] || !hl.reads n) = true := by kernel_rfl
theorem h_s4 : namesMeet hl.prog hl.footing (fun sc n => (!(["type", "isinstance", "issubclass", "getattr", "hasattr"] : List Str).contains n || sc.names.lookup n == some .globalImplicit) &&
    (hl.may != some n || sc.kind == .module || sc.names.lookup n == some .globalImplicit)) = true := by kernel_rfl
theorem h_s5 : namesMeet hl.prog hl.above (fun _ n => !hl.own.contains n) = true := by kernel_rfl
theorem h_s6 : namesMeet hl.prog hl.footing (fun sc n => sc.kind == .module || sc.names.lookup n != some .globalExplicit) = true := by kernel_rfl
theorem h_said : hl.wellSaid = true := by unfold OpenLaw.wellSaid OpenRow.wellSaid OpenRow.partSaid; rw [h_s1, h_s2, h_s3, h_s4, h_s5, h_s6]; kernel_rfl
theorem h_ok : (chainsOk hvw && opensWell PySem.Challenge.rw_uf050018_07.row.prog && (frees PySem.Challenge.rw_uf050018_07.row.toRowW && PySem.Challenge.rw_uf050018_07.row.within.isEmpty)) = true := by kernel_rfl
end
end Mine

open PySem PySem.W PyProof.Rows
set_option maxHeartbeats 8000000 in
theorem PySem.Challenge.cw_uf050018_07_holds : PySem.Challenge.rw_uf050018_07.Holds := by
  refine holds_law Mine.h_said fun said => ?_
  refine holds_open (q := Mine.hvw) (loose := []) (Xt := Mine.hXt) (XP := XL Mine.hvw []) (Yf := Mine.hH.obs) (Ya := Mine.hH.val) (YP := Mine.hH.says) (N := 5600) Mine.h_left Mine.hH.of Mine.hH.keeps (fun s e => xl_of s (Bool.and_eq_true_iff.mp e).1) XL.keeps (by rfl) (by rfl) (by rfl) (fun s e => recFacts_of (Bool.and_eq_true_iff.mp e).2) (by rfl) said Mine.h_ok ⟨rfl, rfl, rfl, rfl, rfl, by decide +kernel⟩ ?hw ?hc
  (case hw => w_witness2)
  intro w s₀ s₁ mg mb G Y fa o pm cd doc dV kV ho hd hcd hD hmg hg args vals as hpre hlay hrd hwl hlo
  have T := G.T
  wrow_args hpre hlay hrd hwl hlo
  rename_i ns _ _ _ _ _ _ _ _ _ _ _ _ _ r0 _ _ hcond _
  have hn : ns.length ≤ 63 := by omega
  have hB : Mine.Bn ⟨PySem.Challenge.rw_uf050018_07.row.prog, w, _, _, _, mg, mb⟩ := Mine.bn_of T (by kernel_rfl)
  obtain ⟨K, KX, C⟩ := Y
  have m0 : ((("FractionError" : Str), 24) : Str × Addr) ∈ Mine.hcs := .head _
  have m1 : ((("NoFraction" : Str), 37) : Str × Addr) ∈ Mine.hcs := .tail _ (.head _)
  have m2 : ((("NoPath" : Str), 49) : Str × Addr) ∈ Mine.hcs := .tail _ (.tail _ (.head _))
  have m3 : ((("NoBounds" : Str), 61) : Str × Addr) ∈ Mine.hcs := .tail _ (.tail _ (.tail _ (.head _)))
  have m4 : ((("NoRoom" : Str), 73) : Str × Addr) ∈ Mine.hcs := .tail _ (.tail _ (.tail _ (.tail _ (.head _))))
  have m5 : ((("Unsure" : Str), 85) : Str × Addr) ∈ Mine.hcs := .tail _ (.tail _ (.tail _ (.tail _ (.tail _ (.head _)))))
  have m6 : ((("NoText" : Str), 97) : Str × Addr) ∈ Mine.hcs := .tail _ (.tail _ (.tail _ (.tail _ (.tail _ (.tail _ (.head _))))))
  have m7 : ((("NoNumber" : Str), 109) : Str × Addr) ∈ Mine.hcs := .tail _ (.tail _ (.tail _ (.tail _ (.tail _ (.tail _ (.tail _ (.head _)))))))
  exact Mine.law_endW (c := ⟨PySem.Challenge.rw_uf050018_07.row.prog, w, _, _, _, mg, mb⟩) (Mine.f_law (by kernel_rfl) hB (by kernel_rfl) (by kernel_rfl) (C.eu m6 m0) (C.ec _ m0) (C.ei false m6 m1 (by decide)) (C.ei false m6 m2 (by decide)) (C.ei false m6 m3 (by decide)) (C.ei false m6 m4 (by decide)) (C.ei false m6 m5 (by decide)) (C.ei true m6 m6 (by decide)) (C.ei false m6 m7 (by decide)) hn) T KX hmg r0 hg (raisesW_false (fun _ h => nomatch h)) (postW_of rfl rfl (by first | rfl | decide | simp [same] | w_fin))
