import PyProof.Rows.All
import Wide.All
import OpenK.KLine
import Wide.FinOn
import PyProof.Rows.Top
import PyProof.Rows.RowHeap
import PyProof.Rows.Tup
import PyProof.Rows.TupSub
import PyProof.Rows.IntRules
import PyProof.Rows.Nodes
import PyProof.Rows.OwnEval
import PyProof.Rows.CatchSeen
import PyProof.FitsBits
import PyProof.NoPylong
import PyProof.PureInt
import PyProof.StrOps
import PyProof.PlainList
import PyProof.Rules3
import PyProof.TupleIter
import PyProof.IsRules
import PyProof.PassesOwn
import PyProof.ForRange
import PyProof.IsiPairs
import PyProof.IsiSeqPairs
import PyProof.IsiNone
import PyProof.WalkInts
import PyProof.Rows.Exc
import PyProof.Rows.RuleN_abs
import PyProof.Rows.StrTemp
import PyProof.Rows.RuleB_floordiv
import PyProof.Rows.RuleB_small
import PyProof.Rows.SeqMore
import PyProof.Rows.StrRules
import PyProof.Rows.EqDataRows
import PyProof.Rows.Lst
import PyProof.Conv_int_bool
import PyProof.WalksPairs
import PyProof.RangeFor
import PyProof.ForAny
import PyProof.ForAppend
import PyProof.Rows.TupAssign
import PyProof.RulesMatch
import PyProof.Rows.Method
import PyProof.Rows.RuleB_pow
import PyProof.StrLoop
import Wide.Ends
import Wide.BridgeG
import Open.Head
import KE.KTryDeep
import PyProof.ExcArgs
import KE.KIsNot
import PyProof.P3In
import PyProof.Rows.CountFlat
import PyProof.StrBlock
import PyProof.Dict
import PyProof.ListCopy
import PyProof.AutoListH
import PyProof.CallType
import PyProof.FactsAll.list_2
import PyProof.StrBlockH
import PyProof.StrBlockI
import PyProof.CallStr
import PyProof.Rows.StrSub
import KE.KIntText
import PyProof.Rows.CatFin
import PyProof.Rows.StrClose5
import PyProof.StrLawsChain
import PyProof.StrLawsTight
import KE.IntTextLaws
import PyProof.MeetsStr
import PyProof.StrCalls
import PyProof.Rows.StrPartPair
import PySem.Challenge.RW_uf050018_10
set_option Elab.async false
set_option maxRecDepth 100000
set_option linter.all false
namespace Mine

/-- a path: runs, true = to the right -/
abbrev Path := List (Bool × Int)
def okP : Option Bool → Path → Prop
  | _, [] => True
  | a, s :: t => 1 ≤ s.2 ∧ a ≠ some s.1 ∧ okP (some s.1) t
/-- where a path ends, from its first run on -/
def endP : Path → Int × Int
  | [] => (1, 1)
  | (true, m) :: t => ((endP t).1 + m * (endP t).2, (endP t).2)
  | (false, m) :: t => ((endP t).1, (endP t).2 + m * (endP t).1)
structure Q4 where
  l0 : Int
  l1 : Int
  r0 : Int
  r1 : Int
def stepP (q : Q4) : Bool × Int → Q4
  | (true, m) => ⟨q.l0 + m * q.r0, q.l1 + m * q.r1, q.r0, q.r1⟩
  | (false, m) => ⟨q.l0, q.l1, q.r0 + m * q.l0, q.r1 + m * q.l1⟩
def q0 : Q4 := ⟨0, 1, 1, 0⟩
def walkP (p : Path) : Q4 := p.foldl stepP q0

theorem end_pos : ∀ {a : Option Bool} {p : Path}, okP a p → 1 ≤ (endP p).1 ∧ 1 ≤ (endP p).2
  | _, [], _ => ⟨by decide, by decide⟩
  | _, (true, m) :: t, h => by
    obtain ⟨a, b⟩ := end_pos h.2.2
    have hm : 1 ≤ m := h.1
    have := Int.mul_nonneg (show 0 ≤ m by (first | lia | omega)) (show 0 ≤ (endP t).2 by (first | lia | omega))
    refine ⟨?_, b⟩
    show 1 ≤ (endP t).1 + m * (endP t).2
    (first | lia | omega)
  | _, (false, m) :: t, h => by
    obtain ⟨a, b⟩ := end_pos h.2.2
    have hm : 1 ≤ m := h.1
    have := Int.mul_nonneg (show 0 ≤ m by (first | lia | omega)) (show 0 ≤ (endP t).1 by (first | lia | omega))
    refine ⟨a, ?_⟩
    show 1 ≤ (endP t).2 + m * (endP t).1
    (first | lia | omega)

theorem end_side : ∀ {w : Bool} {p : Path}, okP (some w) p → if w then (endP p).1 ≤ (endP p).2 else (endP p).2 ≤ (endP p).1
  | w, [], _ => by cases w <;> simp [endP]
  | w, (true, m) :: t, h => by
    obtain ⟨a, b⟩ := end_pos h.2.2
    have hm : 1 ≤ m := h.1
    have hw : w = false := by have := h.2.1; cases w <;> simp_all
    subst hw
    have := Int.mul_le_mul_of_nonneg_right hm (show 0 ≤ (endP t).2 by (first | lia | omega))
    show (endP t).2 ≤ (endP t).1 + m * (endP t).2
    (first | lia | omega)
  | w, (false, m) :: t, h => by
    obtain ⟨a, b⟩ := end_pos h.2.2
    have hm : 1 ≤ m := h.1
    have hw : w = true := by have := h.2.1; cases w <;> simp_all
    subst hw
    have := Int.mul_le_mul_of_nonneg_right hm (show 0 ≤ (endP t).1 by (first | lia | omega))
    show (endP t).1 ≤ (endP t).2 + m * (endP t).1
    (first | lia | omega)

/-- the first run, read off the end -/
theorem end_right {m : Int} {t : Path} {a : Option Bool} (h : okP a ((true, m) :: t)) : (endP ((true, m) :: t)).2 < (endP ((true, m) :: t)).1 ∧ ((endP ((true, m) :: t)).1 - 1) / (endP ((true, m) :: t)).2 = m ∧
    (endP ((true, m) :: t)).1 - m * (endP ((true, m) :: t)).2 = (endP t).1 := by
  obtain ⟨x, y⟩ := end_pos h.2.2
  have hm : 1 ≤ m := h.1
  have hs : (endP t).1 ≤ (endP t).2 := end_side (w := true) h.2.2
  show (endP t).2 < (endP t).1 + m * (endP t).2 ∧ ((endP t).1 + m * (endP t).2 - 1) / (endP t).2 = m ∧ (endP t).1 + m * (endP t).2 - m * (endP t).2 = (endP t).1
  generalize (endP t).1 = u at *
  generalize (endP t).2 = l at *
  have := Int.mul_le_mul_of_nonneg_right hm (show 0 ≤ l by (first | lia | omega))
  refine ⟨by (first | lia | omega), ?_, by (first | lia | omega)⟩
  have e : u + m * l - 1 = (u - 1) + m * l := by (first | lia | omega)
  rw [e, Int.add_mul_ediv_right _ _ (by (first | lia | omega)), Int.ediv_eq_zero_of_lt (by (first | lia | omega)) (by (first | lia | omega))]; (first | lia | omega)
theorem end_left {m : Int} {t : Path} {a : Option Bool} (h : okP a ((false, m) :: t)) : (endP ((false, m) :: t)).1 < (endP ((false, m) :: t)).2 ∧ ((endP ((false, m) :: t)).2 - 1) / (endP ((false, m) :: t)).1 = m ∧
    (endP ((false, m) :: t)).2 - m * (endP ((false, m) :: t)).1 = (endP t).2 := by
  obtain ⟨x, y⟩ := end_pos h.2.2
  have hm : 1 ≤ m := h.1
  have hs : (endP t).2 ≤ (endP t).1 := end_side (w := false) h.2.2
  show (endP t).1 < (endP t).2 + m * (endP t).1 ∧ ((endP t).2 + m * (endP t).1 - 1) / (endP t).1 = m ∧ (endP t).2 + m * (endP t).1 - m * (endP t).1 = (endP t).2
  generalize (endP t).1 = l at *
  generalize (endP t).2 = u at *
  have := Int.mul_le_mul_of_nonneg_right hm (show 0 ≤ l by (first | lia | omega))
  refine ⟨by (first | lia | omega), ?_, by (first | lia | omega)⟩
  have e : u + m * l - 1 = (u - 1) + m * l := by (first | lia | omega)
  rw [e, Int.add_mul_ediv_right _ _ (by (first | lia | omega)), Int.ediv_eq_zero_of_lt (by (first | lia | omega)) (by (first | lia | omega))]; (first | lia | omega)

/-- the path on the other side -/
def flipP (p : Path) : Path := p.map fun s => (!s.1, s.2)
theorem flip_end : ∀ p : Path, endP (flipP p) = ((endP p).2, (endP p).1)
  | [] => rfl
  | (true, m) :: t => by show ((endP (flipP t)).1, (endP (flipP t)).2 + m * (endP (flipP t)).1) = _; rw [flip_end t]; rfl
  | (false, m) :: t => by show ((endP (flipP t)).1 + m * (endP (flipP t)).2, (endP (flipP t)).2) = _; rw [flip_end t]; rfl
theorem flip_ok : ∀ {a : Option Bool} {p : Path}, okP a p → okP (a.map (!·)) (flipP p)
  | _, [], _ => trivial
  | a, s :: t, h => ⟨h.1, by have := h.2.1; cases a with | none => simp | some b => cases b <;> cases hs : s.1 <;> simp_all, flip_ok (a := some s.1) h.2.2⟩
/-- ... of u over l -/
def HasP (u l : Int) : Prop := ∃ p, okP none p ∧ endP p = (u, l) ∧ (u ≤ l → okP (some true) p) ∧ (l ≤ u → okP (some false) p)
theorem HasP.flip {u l : Int} (h : HasP u l) : HasP l u := by
  obtain ⟨p, a, b, c, d⟩ := h
  exact ⟨flipP p, flip_ok a, by rw [flip_end, b], fun q => flip_ok (d q), fun q => flip_ok (c q)⟩
theorem path_step {u l : Int} (hl : 1 ≤ l) (h : l < u) (hg : Int.gcd u l = 1) (ih : ∀ v, 1 ≤ v → v < u → Int.gcd v l = 1 → HasP v l) : HasP u l := by
  have hd := Int.mul_ediv_add_emod (u - 1) l
  have h1 := Int.emod_nonneg (u - 1) (b := l) (by (first | lia | omega))
  have h2 := Int.emod_lt_of_pos (u - 1) (b := l) (by (first | lia | omega))
  have hm : 1 ≤ (u - 1) / l := Int.le_ediv_of_mul_le (by (first | lia | omega)) (by (first | lia | omega))
  generalize (u - 1) / l = m at *
  have hpos := Int.mul_le_mul_of_nonneg_left hm (show 0 ≤ l by (first | lia | omega))
  have hg' : Int.gcd (u - l * m) l = 1 := by rw [Int.gcd_comm, Int.gcd_sub_mul_left_right, Int.gcd_comm]; exact hg
  obtain ⟨t, ok, en, ok2, _⟩ := ih (u - l * m) (by (first | lia | omega)) (by (first | lia | omega)) hg'
  have hok := ok2 (by (first | lia | omega))
  refine ⟨(true, m) :: t, ⟨hm, by simp, hok⟩, ?_, fun q => by (first | lia | omega), fun _ => ⟨hm, by simp, hok⟩⟩
  show ((endP t).1 + m * (endP t).2, (endP t).2) = (u, l)
  rw [en]; simp only [Prod.mk.injEq, and_true]; rw [Int.mul_comm m l]; (first | lia | omega)
/-- every fraction in lowest terms has a path -/
theorem path_exists : ∀ (n : Nat) (u l : Int), 1 ≤ u → 1 ≤ l → Int.gcd u l = 1 → (u + l).toNat ≤ n → HasP u l
  | 0, u, l, hu, hl, _, hn => by (first | lia | omega)
  | n + 1, u, l, hu, hl, hg, hn => by
    rcases Int.lt_trichotomy u l with h | h | h
    · exact (path_step hu h (by rw [Int.gcd_comm]; exact hg) fun v h1 h2 h3 => (path_exists n u v hu h1 (by rw [Int.gcd_comm]; exact h3) (by (first | lia | omega))).flip).flip
    · subst h
      have : u = 1 := by
        have : (Int.gcd u u : Int) = u := by simp [Int.gcd_self]; (first | lia | omega)
        (first | lia | omega)
      subst this
      exact ⟨[], trivial, rfl, fun _ => trivial, fun _ => trivial⟩
    · exact path_step hl h hg fun v h1 h2 h3 => path_exists n v l h1 hl h3 (by (first | lia | omega))
theorem path_for {u l : Int} (hu : 1 ≤ u) (hl : 1 ≤ l) (hg : Int.gcd u l = 1) : ∃ p, okP none p ∧ endP p = (u, l) := let ⟨p, a, b, _⟩ := path_exists _ u l hu hl hg (Nat.le_refl _); ⟨p, a, b⟩

theorem stepR (u l m r x : Int) : (u + m * l) * r + l * x = u * r + l * (x + m * r) := by grind
theorem stepL (u l m r x : Int) : u * r + (l + m * u) * x = u * (r + m * x) + l * x := by grind
/-- what stands between while a path is walked -/
theorem walk_end : ∀ (p : Path) (q : Q4), (p.foldl stepP q).l0 + (p.foldl stepP q).r0 = (endP p).1 * q.r0 + (endP p).2 * q.l0 ∧ (p.foldl stepP q).l1 + (p.foldl stepP q).r1 = (endP p).1 * q.r1 + (endP p).2 * q.l1
  | [], q => by simp [endP]; (first | lia | omega)
  | (true, m) :: t, q => ⟨(walk_end t (stepP q (true, m))).1.trans (stepR (endP t).1 (endP t).2 m q.r0 q.l0).symm, (walk_end t (stepP q (true, m))).2.trans (stepR (endP t).1 (endP t).2 m q.r1 q.l1).symm⟩
  | (false, m) :: t, q => ⟨(walk_end t (stepP q (false, m))).1.trans (stepL (endP t).1 (endP t).2 m q.r0 q.l0).symm, (walk_end t (stepP q (false, m))).2.trans (stepL (endP t).1 (endP t).2 m q.r1 q.l1).symm⟩
theorem walk_det : ∀ (p : Path) (q : Q4), let q' := p.foldl stepP q; q'.r0 * q'.l1 - q'.l0 * q'.r1 = q.r0 * q.l1 - q.l0 * q.r1
  | [], q => rfl
  | (true, m) :: t, q => by
    have h := walk_det t (stepP q (true, m))
    simp only [List.foldl_cons]
    refine h.trans ?_
    simp only [stepP]; grind
  | (false, m) :: t, q => by
    have h := walk_det t (stepP q (false, m))
    simp only [List.foldl_cons]
    refine h.trans ?_
    simp only [stepP]; grind
structure Q4.nn (q : Q4) : Prop where
  a : 0 ≤ q.l0
  b : 0 ≤ q.l1
  c : 0 ≤ q.r0
  d : 0 ≤ q.r1
theorem q0_nn : q0.nn := ⟨by decide, by decide, by decide, by decide⟩
theorem step_nn {q : Q4} (h : q.nn) {s : Bool × Int} (hs : 0 ≤ s.2) : (stepP q s).nn := by
  obtain ⟨w, m⟩ := s
  have h1 := Int.mul_nonneg hs h.a
  have h2 := Int.mul_nonneg hs h.b
  have h3 := Int.mul_nonneg hs h.c
  have h4 := Int.mul_nonneg hs h.d
  have := h.a; have := h.b; have := h.c; have := h.d
  dsimp only at *
  cases w
  · exact ⟨by show 0 ≤ q.l0; (first | lia | omega), by show 0 ≤ q.l1; (first | lia | omega), by show 0 ≤ q.r0 + m * q.l0; (first | lia | omega), by show 0 ≤ q.r1 + m * q.l1; (first | lia | omega)⟩
  · exact ⟨by show 0 ≤ q.l0 + m * q.r0; (first | lia | omega), by show 0 ≤ q.l1 + m * q.r1; (first | lia | omega), by show 0 ≤ q.r0; (first | lia | omega), by show 0 ≤ q.r1; (first | lia | omega)⟩
theorem walk_nn : ∀ {a : Option Bool} {p : Path} {q : Q4}, okP a p → q.nn → (p.foldl stepP q).nn
  | _, [], _, _, h => h
  | _, s :: t, q, ok, h => walk_nn (p := t) ok.2.2 (step_nn h (by have := ok.1; (first | lia | omega)))
/-- the bounds on the way stay below the end -/
theorem walk_le {a : Option Bool} {p : Path} {q : Q4} {U V : Int} (ok : okP a p) (hn : q.nn) (h0 : (endP p).1 * q.r0 + (endP p).2 * q.l0 = U) (h1 : (endP p).1 * q.r1 + (endP p).2 * q.l1 = V) : q.l0 ≤ U ∧ q.r0 ≤ U ∧ q.l1 ≤ V ∧ q.r1 ≤ V := by
  obtain ⟨x, y⟩ := end_pos ok
  have a1 := Int.mul_le_mul_of_nonneg_right x hn.c
  have a2 := Int.mul_le_mul_of_nonneg_right y hn.a
  have a3 := Int.mul_le_mul_of_nonneg_right x hn.d
  have a4 := Int.mul_le_mul_of_nonneg_right y hn.b
  have := hn.a; have := hn.b; have := hn.c; have := hn.d
  refine ⟨?_, ?_, ?_, ?_⟩ <;> (first | lia | omega)
theorem runs_le : ∀ {a : Option Bool} {p : Path}, okP a p → ∀ s ∈ p, s.2 ≤ (endP p).1 + (endP p).2
  | _, [], _, s, h => nomatch h
  | _, (true, m) :: t, ok, s, h => by
    obtain ⟨x, y⟩ := end_pos ok.2.2
    have hm : 1 ≤ m := ok.1
    have := Int.mul_le_mul_of_nonneg_left y (show 0 ≤ m by (first | lia | omega))
    have hp := Int.mul_nonneg (show 0 ≤ m by (first | lia | omega)) (show 0 ≤ (endP t).2 by (first | lia | omega))
    show s.2 ≤ (endP t).1 + m * (endP t).2 + (endP t).2
    rcases List.mem_cons.mp h with rfl | h
    · dsimp only; (first | lia | omega)
    · have := runs_le ok.2.2 s h; (first | lia | omega)
  | _, (false, m) :: t, ok, s, h => by
    obtain ⟨x, y⟩ := end_pos ok.2.2
    have hm : 1 ≤ m := ok.1
    have := Int.mul_le_mul_of_nonneg_left x (show 0 ≤ m by (first | lia | omega))
    have hp := Int.mul_nonneg (show 0 ≤ m by (first | lia | omega)) (show 0 ≤ (endP t).1 by (first | lia | omega))
    show s.2 ≤ (endP t).1 + ((endP t).2 + m * (endP t).1)
    rcases List.mem_cons.mp h with rfl | h
    · dsimp only; (first | lia | omega)
    · have := runs_le ok.2.2 s h; (first | lia | omega)
theorem len_le : ∀ {a : Option Bool} {p : Path}, okP a p → 2 * 3 ^ p.length ≤ 2 ^ p.length * ((endP p).1 + (endP p).2)
  | _, [], _ => by simp [endP]
  | _, (w, m) :: t, ok => by
    obtain ⟨x, y⟩ := end_pos ok.2.2
    have hm : 1 ≤ m := ok.1
    have ih := len_le ok.2.2
    have hs := end_side ok.2.2
    have hp : (0 : Int) ≤ 2 ^ t.length := Int.le_of_lt (Int.pow_pos (by decide))
    have key : 3 * ((endP t).1 + (endP t).2) ≤ 2 * ((endP ((w, m) :: t)).1 + (endP ((w, m) :: t)).2) := by
      cases w
      · have := Int.mul_le_mul_of_nonneg_right hm (show 0 ≤ (endP t).1 by (first | lia | omega))
        simp at hs
        show _ ≤ 2 * ((endP t).1 + ((endP t).2 + m * (endP t).1))
        (first | lia | omega)
      · have := Int.mul_le_mul_of_nonneg_right hm (show 0 ≤ (endP t).2 by (first | lia | omega))
        simp at hs
        show _ ≤ 2 * ((endP t).1 + m * (endP t).2 + (endP t).2)
        (first | lia | omega)
    have k2 := Int.mul_le_mul_of_nonneg_left key hp
    generalize (endP ((w, m) :: t)).1 + (endP ((w, m) :: t)).2 = E at *
    generalize (endP t).1 + (endP t).2 = F at *
    simp only [List.length_cons, Int.pow_succ]
    generalize (2 : Int) ^ t.length = P at *
    generalize (3 : Int) ^ t.length = R at *
    have e1 : P * (3 * F) = 3 * (P * F) := by grind
    have e2 : P * 2 * E = P * (2 * E) := by grind
    rw [e2]; (first | lia | omega)
theorem pow23 (k : Nat) : (2 : Int) ^ k ≤ 3 ^ k := by
  induction k with
  | zero => decide
  | succ n ih => rw [Int.pow_succ, Int.pow_succ]; have : (0 : Int) < 3 ^ n := Int.pow_pos (by decide); (first | lia | omega)
/-- no long path -/
theorem len_small {a : Option Bool} {p : Path} (ok : okP a p) (h : (endP p).1 + (endP p).2 ≤ 10 ^ 101) : p.length < 600 := by
  have h1 := len_le ok
  apply Classical.byContradiction
  intro hl
  obtain ⟨k, hk⟩ : ∃ k, p.length = 600 + k := ⟨p.length - 600, by (first | lia | omega)⟩
  rw [hk, Int.pow_add, Int.pow_add] at h1
  have p2 : (0 : Int) < 2 ^ k := Int.pow_pos (by decide)
  have c1 : (2 : Int) ^ 600 * 10 ^ 101 < 2 * 3 ^ 600 := by decide +kernel
  have q := pow23 k
  generalize (endP p).1 + (endP p).2 = S at *
  have e1 : (2 : Int) ^ 600 * 2 ^ k * S ≤ 2 ^ 600 * 2 ^ k * 10 ^ 101 := Int.mul_le_mul_of_nonneg_left h (Int.mul_nonneg (by decide +kernel) (by (first | lia | omega)))
  have e2 : (2 : Int) ^ 600 * 2 ^ k * 10 ^ 101 = 2 ^ 600 * 10 ^ 101 * 2 ^ k := by rw [Int.mul_assoc, Int.mul_comm (2 ^ k), ← Int.mul_assoc]
  have e3 : (2 : Int) ^ 600 * 10 ^ 101 * 2 ^ k < 2 * 3 ^ 600 * 2 ^ k := Int.mul_lt_mul_of_pos_right c1 p2
  have e4 : (2 : Int) * 3 ^ 600 * 2 ^ k ≤ 2 * 3 ^ 600 * 3 ^ k := Int.mul_le_mul_of_nonneg_left q (by decide +kernel)
  have e5 : (2 : Int) * (3 ^ 600 * 3 ^ k) = 2 * 3 ^ 600 * 3 ^ k := by rw [Int.mul_assoc]
  rw [e5] at h1
  rw [e2] at e1
  exact absurd (Int.lt_of_le_of_lt (Int.le_trans h1 e1) (Int.lt_of_lt_of_le e3 e4)) (Int.lt_irrefl _)
theorem end_ne {a : Option Bool} {s : Bool × Int} {t : Path} (ok : okP a (s :: t)) : (endP (s :: t)).1 ≠ (endP (s :: t)).2 := by
  obtain ⟨w, m⟩ := s
  cases w
  · have := (end_left ok).1; (first | lia | omega)
  · have := (end_right ok).1; (first | lia | omega)
end Mine

namespace Mine

/-- the simplest fraction between a/b and c/d: its parts, and the last one -/
inductive CF : Int → Int → Int → Int → List Int → Int → Prop
  | stop {a b c d : Int} (h : a % b = 0 ∨ a / b ≠ c / d) : CF a b c d [] ((a + b - 1) / b)
  | step {a b c d : Int} {ps : List Int} {c0 : Int} (h1 : a % b ≠ 0) (h2 : a / b = c / d) (r : CF d (c - a / b * d) b (a - a / b * b) ps c0) : CF a b c d (a / b :: ps) c0
def cfv : List Int → Int → Int × Int
  | [], c0 => (c0, 1)
  | k :: ps, c0 => (k * (cfv ps c0).1 + (cfv ps c0).2, (cfv ps c0).1)
structure Bd (a b c d : Int) : Prop where
  a0 : 0 ≤ a
  b1 : 1 ≤ b
  c0 : 0 ≤ c
  d1 : 1 ≤ d
  le : a * d ≤ c * b

theorem sub_ediv {a b : Int} : a - a / b * b = a % b := by rw [Int.emod_def, Int.mul_comm]

theorem Bd.turn {a b c d : Int} (h : Bd a b c d) (h1 : a % b ≠ 0) (h2 : a / b = c / d) : Bd d (c - a / b * d) b (a - a / b * b) ∧ c - a / b * d < d ∧ a - a / b * b < b ∧ 0 ≤ a / b := by
  have hb := h.b1
  have hd := h.d1
  have e1 : a - a / b * b = a % b := sub_ediv
  have e2 : c - a / b * d = c % d := by rw [h2]; exact sub_ediv
  have l1 := Int.emod_nonneg a (b := b) (by (first | lia | omega))
  have l2 := Int.emod_lt_of_pos a (b := b) (by (first | lia | omega))
  have l3 := Int.emod_nonneg c (b := d) (by (first | lia | omega))
  have l4 := Int.emod_lt_of_pos c (b := d) (by (first | lia | omega))
  have hk : 0 ≤ a / b := Int.ediv_nonneg h.a0 (by (first | lia | omega))
  have hle : d * (a - a / b * b) ≤ b * (c - a / b * d) := by
    have := h.le
    have e3 : d * (a - a / b * b) = a * d - a / b * (b * d) := by rw [Int.mul_sub, Int.mul_comm d a, ← Int.mul_assoc, Int.mul_comm d (a / b), Int.mul_assoc, Int.mul_comm d b]
    have e4 : b * (c - a / b * d) = c * b - a / b * (b * d) := by rw [Int.mul_sub, Int.mul_comm b c, ← Int.mul_assoc, Int.mul_comm b (a / b), Int.mul_assoc]
    rw [e3, e4]; (first | lia | omega)
  have hc1 : 1 ≤ c - a / b * d := by
    rcases Int.lt_or_eq_of_le l3 with q | q
    · (first | lia | omega)
    · exfalso
      rw [e2, ← q, Int.mul_zero] at hle
      have : 0 < d * (a - a / b * b) := Int.mul_pos (by (first | lia | omega)) (by (first | lia | omega))
      (first | lia | omega)
  exact ⟨⟨by (first | lia | omega), hc1, by (first | lia | omega), by (first | lia | omega), hle⟩, by (first | lia | omega), by (first | lia | omega), hk⟩

theorem cf_exists : ∀ (n : Nat) (a b c d : Int), Bd a b c d → (b + d).toNat ≤ n → ∃ ps c0, CF a b c d ps c0
  | 0, a, b, c, d, h, hn => by have := h.b1; have := h.d1; (first | lia | omega)
  | n + 1, a, b, c, d, h, hn => by
    by_cases h1 : a % b = 0
    · exact ⟨_, _, .stop (.inl h1)⟩
    · by_cases h2 : a / b = c / d
      · obtain ⟨hb, x1, x2, _⟩ := h.turn h1 h2
        obtain ⟨ps, c0, r⟩ := cf_exists n d (c - a / b * d) b (a - a / b * b) hb (by (first | lia | omega))
        exact ⟨_, _, .step h1 h2 r⟩
      · exact ⟨_, _, .stop (.inr h2)⟩
theorem cf_for {a b c d : Int} (h : Bd a b c d) : ∃ ps c0, CF a b c d ps c0 := cf_exists _ a b c d h (Nat.le_refl _)

structure Smp (a b c d u l : Int) : Prop where
  l1 : 1 ≤ l
  u0 : 0 ≤ u
  co : Int.gcd u l = 1
  lo : a * l ≤ u * b
  hi : u * d ≤ c * l
  mn : ∀ x y : Int, 1 ≤ y → a * y ≤ x * b → x * d ≤ c * y → u ≤ x ∧ l ≤ y

theorem ceil_mul {a b : Int} (hb : 1 ≤ b) : a ≤ (a + b - 1) / b * b := by
  have h1 := Int.mul_ediv_add_emod (a + b - 1) b
  have h2 := Int.emod_lt_of_pos (a + b - 1) (b := b) (by (first | lia | omega))
  rw [Int.mul_comm] at h1
  (first | lia | omega)
theorem ceil_le {a b x : Int} (hb : 1 ≤ b) (h : a ≤ x * b) : (a + b - 1) / b ≤ x := by
  have : (a + b - 1) / b < x + 1 := Int.ediv_lt_of_lt_mul (by (first | lia | omega)) (by rw [Int.add_mul]; (first | lia | omega))
  (first | lia | omega)
theorem ceil_hi {a b c d : Int} (h : Bd a b c d) (hs : a % b = 0 ∨ a / b ≠ c / d) : (a + b - 1) / b * d ≤ c := by
  have hb := h.b1
  have hd := h.d1
  have le := h.le
  rcases hs with hs | hs
  · have e : (a + b - 1) / b * b = a := by
      have q := ceil_mul (a := a) hb
      have q2 : (a + b - 1) / b ≤ a / b := ceil_le hb (by have := Int.mul_ediv_add_emod a b; rw [Int.mul_comm] at this; (first | lia | omega))
      have q3 := Int.mul_le_mul_of_nonneg_right q2 (show 0 ≤ b by (first | lia | omega))
      have q4 := Int.mul_ediv_add_emod a b
      rw [Int.mul_comm] at q4
      (first | lia | omega)
    have : (a + b - 1) / b * d * b ≤ c * b := by
      rw [Int.mul_assoc, Int.mul_comm d b, ← Int.mul_assoc, e]; exact le
    exact Int.le_of_mul_le_mul_right this (by (first | lia | omega))
  · have h1 := Int.mul_ediv_add_emod a b
    have h2 := Int.emod_lt_of_pos a (b := b) (by (first | lia | omega))
    have h3 := Int.emod_nonneg a (b := b) (by (first | lia | omega))
    have h4 := Int.mul_ediv_add_emod c d
    have h5 := Int.emod_nonneg c (b := d) (by (first | lia | omega))
    have h6 := Int.emod_lt_of_pos c (b := d) (by (first | lia | omega))
    have hle : a / b ≤ c / d := by
      apply Int.le_ediv_of_mul_le (by (first | lia | omega))
      have : a / b * d * b ≤ c * b := by
        have : a / b * b ≤ a := by rw [Int.mul_comm]; (first | lia | omega)
        have := Int.mul_le_mul_of_nonneg_right this (show 0 ≤ d by (first | lia | omega))
        have e : a / b * d * b = a / b * b * d := by rw [Int.mul_assoc, Int.mul_comm d b, ← Int.mul_assoc]
        rw [e]; (first | lia | omega)
      exact Int.le_of_mul_le_mul_right this (by (first | lia | omega))
    have hlt : a / b + 1 ≤ c / d := by (first | lia | omega)
    have hc : (a + b - 1) / b ≤ a / b + 1 := ceil_le hb (by rw [Int.add_mul, Int.mul_comm (a / b)]; (first | lia | omega))
    have := Int.mul_le_mul_of_nonneg_right (Int.le_trans hc hlt) (show 0 ≤ d by (first | lia | omega))
    rw [Int.mul_comm (c / d)] at this
    (first | lia | omega)

theorem cf_main {a b c d : Int} {ps : List Int} {c0 : Int} (r : CF a b c d ps c0) : Bd a b c d → Smp a b c d (cfv ps c0).1 (cfv ps c0).2 := by
  induction r with
  | @stop a b c d h =>
    intro hb
    have hb1 := hb.b1
    show Smp a b c d ((a + b - 1) / b) 1
    refine ⟨by (first | lia | omega), Int.ediv_nonneg (by have := hb.a0; (first | lia | omega)) (by (first | lia | omega)), by simp, by rw [Int.mul_one]; exact ceil_mul hb1, by rw [Int.mul_one]; exact ceil_hi hb h, fun x y hy h1 h2 => ⟨ceil_le hb1 ?_, hy⟩⟩
    have := Int.mul_le_mul_of_nonneg_left hy hb.a0
    (first | lia | omega)
  | @step a b c d ps c0 h1 h2 r ih =>
    intro hb
    obtain ⟨hb', x1, x2, hk⟩ := hb.turn h1 h2
    have s := ih hb'
    show Smp a b c d (a / b * (cfv ps c0).1 + (cfv ps c0).2) (cfv ps c0).1
    generalize (cfv ps c0).1 = u at *
    generalize (cfv ps c0).2 = l at *
    generalize a / b = k at *
    have hu : 1 ≤ u := by
      have q1 := s.lo
      have q2 := Int.mul_le_mul_of_nonneg_right hb.d1 (show 0 ≤ l by have := s.l1; (first | lia | omega))
      have q3 := s.l1
      rcases Int.lt_or_eq_of_le s.u0 with q | q
      · (first | lia | omega)
      · rw [← q, Int.zero_mul] at q1; (first | lia | omega)
    refine ⟨hu, ?_, ?_, ?_, ?_, ?_⟩
    · have := Int.mul_nonneg hk s.u0; have := s.l1; (first | lia | omega)
    · have e : Int.gcd (k * u + l) u = Int.gcd u l := by rw [Int.gcd_comm, Int.add_comm, Int.gcd_add_mul_right_right]
      rw [e]; exact s.co
    · have := s.hi; grind
    · have := s.lo; grind
    · intro x y hy q1 q2
      have hx : 1 ≤ x - k * y := by
        have p1 : 1 * y ≤ (a - k * b) * y := Int.mul_le_mul_of_nonneg_right hb'.d1 (by (first | lia | omega))
        have p2 : (a - k * b) * y ≤ (x - k * y) * b := by grind
        have p3 : 0 < (x - k * y) * b := by (first | lia | omega)
        exact Int.pos_of_mul_pos_left p3 (by have := hb.b1; (first | lia | omega))
      obtain ⟨m1, m2⟩ := s.mn y (x - k * y) hx (by grind) (by grind)
      have := Int.mul_le_mul_of_nonneg_left m1 hk
      exact ⟨by (first | lia | omega), m1⟩

/-- what is built from the last part on -/
def okc : List Int → Int → Prop
  | [], c0 => 0 ≤ c0
  | k :: ps, c0 => 0 ≤ k ∧ 1 ≤ (cfv ps c0).1 ∧ 1 ≤ (cfv ps c0).2 ∧ okc ps c0
theorem cf_okc {a b c d : Int} {ps : List Int} {c0 : Int} (r : CF a b c d ps c0) : Bd a b c d → okc ps c0 := by
  induction r with
  | @stop a b c d h => intro hb; exact Int.ediv_nonneg (by have := hb.a0; have := hb.b1; (first | lia | omega)) (by have := hb.b1; (first | lia | omega))
  | @step a b c d ps c0 h1 h2 r ih =>
    intro hb
    obtain ⟨hb', x1, x2, hk⟩ := hb.turn h1 h2
    have s := cf_main r hb'
    have o := ih hb'
    have hu : 1 ≤ (cfv ps c0).1 := by
      have q1 := s.lo
      have q2 := Int.mul_le_mul_of_nonneg_right hb.d1 (show 0 ≤ (cfv ps c0).2 by have := s.l1; (first | lia | omega))
      have q3 := s.l1
      rcases Int.lt_or_eq_of_le s.u0 with q | q
      · (first | lia | omega)
      · rw [← q, Int.zero_mul] at q1; (first | lia | omega)
    exact ⟨hk, hu, s.l1, o⟩
theorem okc_pos : ∀ {ps : List Int} {c0 : Int}, okc ps c0 → 0 ≤ (cfv ps c0).1 ∧ 1 ≤ (cfv ps c0).2
  | [], c0, h => ⟨h, by show (1 : Int) ≤ 1; (first | lia | omega)⟩
  | k :: ps, c0, h => by
    have := Int.mul_nonneg h.1 (show 0 ≤ (cfv ps c0).1 by have := h.2.1; (first | lia | omega))
    exact ⟨by show 0 ≤ k * (cfv ps c0).1 + (cfv ps c0).2; have := h.2.2.1; (first | lia | omega), h.2.1⟩
theorem okc_drop : ∀ {ps : List Int} {c0 : Int}, okc ps c0 → ∀ i, okc (ps.drop i) c0 ∧ (cfv (ps.drop i) c0).1 + (cfv (ps.drop i) c0).2 ≤ (cfv ps c0).1 + (cfv ps c0).2
  | ps, c0, h, 0 => ⟨h, Int.le_refl _⟩
  | [], c0, h, i + 1 => by rw [List.drop_nil]; exact ⟨h, Int.le_refl _⟩
  | k :: ps, c0, h, i + 1 => by
    obtain ⟨a, b⟩ := okc_drop h.2.2.2 i
    refine ⟨a, Int.le_trans b ?_⟩
    have := Int.mul_nonneg h.1 (show 0 ≤ (cfv ps c0).1 by have := h.2.1; (first | lia | omega))
    show (cfv ps c0).1 + (cfv ps c0).2 ≤ k * (cfv ps c0).1 + (cfv ps c0).2 + (cfv ps c0).1
    (first | lia | omega)
theorem okc_part {k : Int} {ps : List Int} {c0 : Int} (h : okc (k :: ps) c0) : k ≤ (cfv (k :: ps) c0).1 := by
  have := Int.mul_le_mul_of_nonneg_left h.2.1 h.1
  show k ≤ k * (cfv ps c0).1 + (cfv ps c0).2
  have := h.2.2.1
  (first | lia | omega)
theorem cf_len {a b c d : Int} {ps : List Int} {c0 : Int} (r : CF a b c d ps c0) : Bd a b c d → b ≤ a → 2 * 3 ^ ps.length ≤ 2 ^ ps.length * ((cfv ps c0).1 + (cfv ps c0).2) := by
  induction r with
  | @stop a b c d h =>
    intro hb hab
    have hb1 := hb.b1
    have : 1 ≤ (a + b - 1) / b := Int.le_ediv_of_mul_le (by (first | lia | omega)) (by (first | lia | omega))
    show 2 * 3 ^ 0 ≤ 2 ^ 0 * ((a + b - 1) / b + 1)
    simp; (first | lia | omega)
  | @step a b c d ps c0 h1 h2 r ih =>
    intro hb hab
    obtain ⟨hb', x1, x2, hk⟩ := hb.turn h1 h2
    have s := cf_main r hb'
    have o := ih hb' (by (first | lia | omega))
    have hk1 : 1 ≤ a / b := Int.le_ediv_of_mul_le (by have := hb.b1; (first | lia | omega)) (by (first | lia | omega))
    have hul : (cfv ps c0).2 ≤ (cfv ps c0).1 := by
      have q1 := s.lo
      have q2 := Int.mul_le_mul_of_nonneg_right (show c - a / b * d ≤ d by (first | lia | omega)) (show 0 ≤ (cfv ps c0).1 by exact s.u0)
      rw [Int.mul_comm (c - a / b * d)] at q2
      have q3 : d * (cfv ps c0).2 ≤ d * (cfv ps c0).1 := by (first | lia | omega)
      exact Int.le_of_mul_le_mul_left q3 (by have := hb.d1; (first | lia | omega))
    have key : 3 * ((cfv ps c0).1 + (cfv ps c0).2) ≤ 2 * ((cfv (a / b :: ps) c0).1 + (cfv (a / b :: ps) c0).2) := by
      show _ ≤ 2 * (a / b * (cfv ps c0).1 + (cfv ps c0).2 + (cfv ps c0).1)
      have := Int.mul_le_mul_of_nonneg_right hk1 (show 0 ≤ (cfv ps c0).1 by exact s.u0)
      (first | lia | omega)
    have hp : (0 : Int) ≤ 2 ^ ps.length := Int.le_of_lt (Int.pow_pos (by decide))
    have k2 := Int.mul_le_mul_of_nonneg_left key hp
    generalize (cfv (a / b :: ps) c0).1 + (cfv (a / b :: ps) c0).2 = E at *
    generalize (cfv ps c0).1 + (cfv ps c0).2 = F at *
    simp only [List.length_cons, Int.pow_succ]
    generalize (2 : Int) ^ ps.length = P at *
    generalize (3 : Int) ^ ps.length = R at *
    have e1 : P * (3 * F) = 3 * (P * F) := by grind
    have e2 : P * 2 * E = P * (2 * E) := by grind
    rw [e2]; (first | lia | omega)
theorem pow_len {n : Nat} {S : Int} (h1 : 2 * 3 ^ n ≤ 2 ^ n * S) (h : S ≤ 10 ^ 70) : n < 500 := by
  apply Classical.byContradiction
  intro hl
  obtain ⟨k, hk⟩ : ∃ k, n = 500 + k := ⟨n - 500, by (first | lia | omega)⟩
  rw [hk, Int.pow_add, Int.pow_add] at h1
  have p2 : (0 : Int) < 2 ^ k := Int.pow_pos (by decide)
  have c1 : (2 : Int) ^ 500 * 10 ^ 70 < 2 * 3 ^ 500 := by decide +kernel
  have q := pow23 k
  have e1 : (2 : Int) ^ 500 * 2 ^ k * S ≤ 2 ^ 500 * 2 ^ k * 10 ^ 70 := Int.mul_le_mul_of_nonneg_left h (Int.mul_nonneg (by decide +kernel) (by (first | lia | omega)))
  have e2 : (2 : Int) ^ 500 * 2 ^ k * 10 ^ 70 = 2 ^ 500 * 10 ^ 70 * 2 ^ k := by rw [Int.mul_assoc, Int.mul_comm (2 ^ k), ← Int.mul_assoc]
  have e3 : (2 : Int) ^ 500 * 10 ^ 70 * 2 ^ k < 2 * 3 ^ 500 * 2 ^ k := Int.mul_lt_mul_of_pos_right c1 p2
  have e4 : (2 : Int) * 3 ^ 500 * 2 ^ k ≤ 2 * 3 ^ 500 * 3 ^ k := Int.mul_le_mul_of_nonneg_left q (by decide +kernel)
  have e5 : (2 : Int) * (3 ^ 500 * 3 ^ k) = 2 * 3 ^ 500 * 3 ^ k := by rw [Int.mul_assoc]
  rw [e5] at h1
  rw [e2] at e1
  exact absurd (Int.lt_of_le_of_lt (Int.le_trans h1 e1) (Int.lt_of_lt_of_le e3 e4)) (Int.lt_irrefl _)
theorem cf_short {a b c d : Int} {ps : List Int} {c0 : Int} (r : CF a b c d ps c0) (hb : Bd a b c d) (h : a + b ≤ 10 ^ 70) : ps.length < 502 := by
  have s := cf_main r hb
  obtain ⟨m1, m2⟩ := s.mn a b hb.b1 (Int.le_refl _) hb.le
  cases r with
  | stop h => simp
  | @step _ _ _ _ ps c0 h1 h2 r =>
    obtain ⟨hb', x1, x2, hk⟩ := hb.turn h1 h2
    have s' := cf_main r hb'
    have o := cf_len r hb' (by (first | lia | omega))
    have : ps.length < 500 := pow_len o (by
      have e1 : (cfv (a / b :: ps) c0).1 = a / b * (cfv ps c0).1 + (cfv ps c0).2 := rfl
      have e2 : (cfv (a / b :: ps) c0).2 = (cfv ps c0).1 := rfl
      have := Int.mul_nonneg hk s'.u0
      (first | lia | omega))
    simp; (first | lia | omega)
end Mine

namespace Mine

structure Tg (t0 t1 M : Int) : Prop where
  nn : 0 ≤ t0
  co : Int.gcd t0 t1 = 1
  m1 : 1 ≤ M
  lt : M < t1

theorem dvd_cross {t0 t1 x y : Int} (hg : Int.gcd t0 t1 = 1) (e : t0 * y = x * t1) : t1 ∣ y := by
  have h : t1 ∣ t0 * y := ⟨x, by rw [e, Int.mul_comm]⟩
  have h2 : t1.natAbs ∣ t0.natAbs * y.natAbs := by rw [← Int.natAbs_mul]; exact Int.natAbs_dvd_natAbs.mpr h
  have hc : Nat.Coprime t1.natAbs t0.natAbs := by rw [Nat.coprime_comm]; exact hg
  exact Int.natAbs_dvd_natAbs.mp (hc.dvd_of_dvd_mul_left h2)
theorem no_cross {t0 t1 M x y : Int} (T : Tg t0 t1 M) (h1 : 1 ≤ y) (h2 : y ≤ M) : t0 * y ≠ x * t1 := by
  intro e
  have := Int.le_of_dvd (by (first | lia | omega)) (dvd_cross T.co e)
  have := T.lt
  (first | lia | omega)
theorem Tg.pos {t0 t1 M : Int} (T : Tg t0 t1 M) : 1 ≤ t0 := by
  have := T.nn
  rcases Int.lt_or_eq_of_le this with h | h
  · (first | lia | omega)
  · exfalso
    have := no_cross (x := 0) (y := 1) T (by (first | lia | omega)) T.m1
    rw [← h] at this; simp at this

end Mine
namespace Mine
end Mine

namespace Mine
open PySem PySem.Spec PySem.Calls PyProof.Rows

/-- the usual kinds of expressions -/
def pl : Expr → Bool
  | .Starred .. | .ListComp .. | .SetComp .. | .DictComp .. | .Set .. | .Slice .. => false
  | _ => true
theorem pl_star {x : Expr} {es : List Expr} {env : Env} (h : pl x = true) : starEach (x :: es) env = (false, eval x env) :: starEach es env := by cases x <;> first | rfl | cases h
theorem pl_marks {op : CmpOp} {x : Expr} (h : pl x = true) : behindInMarks op x = false := by cases x <;> first | rfl | cases h
theorem pl_swaps {x : Expr} {t : Option Expr} {n : Nat} {env : Env} (h : pl x = true) : swapsWith x t n env = pure false := by cases x <;> first | rfl | cases h
theorem pl_fold {x : Expr} {env : Env} (h : pl x = true) (v : Value) : foldedSetIterable x env v = pure v := by cases x <;> first | rfl | cases h
theorem pl_sub {x : Expr} {o i : Value} (h : pl x = true) : subscripted x false o i = operate [o, i] (getItem o i) := by cases x <;> first | rfl | cases h
def plT : Expr → Bool
  | .UnaryOp .Not _ _ | .BoolOp .. | .IfExp .. | .Compare .. => false
  | _ => true
theorem plT_eq {x : Expr} {env : Env} {t : Sem Value} (h : plT x = true) : isTrue x env t = (do let v ← t; standAt x.pos; holding [v] (truthy v)) := by
  cases x with
  | UnaryOp op _ _ => cases op <;> first | rfl | cases h
  | _ => first | rfl | cases h

abbrev Keep (h h' : Heap) : Prop := ∀ b o, h.get? b = some o → h'.get? b = some o
theorem Keep.rfl {h : Heap} : Keep h h := fun _ _ e => e
theorem Keep.trans {h h' h'' : Heap} (a : Keep h h') (b : Keep h' h'') : Keep h h'' := fun x o e => b x o (a x o e)
theorem Keep.push {h h' : Heap} (a : Keep h h') (o : Obj) : Keep h (h'.push o) := fun x o' e => Heap.get?_push_of_some _ (a x o' e)
theorem Keep.none {h h' : Heap} (a : Keep h h') {l : Addr} (n : h'.get? l = none) : h.get? l = none := by
  cases hq : h.get? l with
  | none => rfl
  | some o => rw [a l o hq] at n; cases n
/-- every object stands, but for those at W -/
def Kp (W : List Addr) (h h' : Heap) : Prop := ∀ b o, b ∉ W → h.get? b = some o → h'.get? b = some o
theorem Keep.kp {W : List Addr} {h h' : Heap} (k : Keep h h') : Kp W h h' := fun b o _ e => k b o e
theorem Kp.rfl {W : List Addr} {h : Heap} : Kp W h h := fun _ _ _ e => e
theorem Kp.trans {W : List Addr} {h h' h'' : Heap} (a : Kp W h h') (b : Kp W h' h'') : Kp W h h'' := fun x o n e => b x o n (a x o n e)
theorem Kp.mono {W W' : List Addr} {h h' : Heap} (a : Kp W h h') (s : ∀ b ∈ W, b ∈ W') : Kp W' h h' := fun x o n e => a x o (fun hx => n (s x hx)) e

/-- a tree that changes no object that stands -/
structure EvT {α : Type} (M : Model) (A : Around) (h : Heap) (t : Sem α) (R : α → Heap → Prop) (X : Value → Heap → Prop) : Prop where
  go : ∀ (s : Shared) (Q : α → Shared → Prop) (E : Value → Shared → Prop), Keep h s.heap →
    (∀ a h' k, Keep s.heap h' → R a h' → Q a { s with heap := h', toks := k }) →
    (∀ x h' k, X x h' → E x { s with heap := h', toks := k }) → wpAny M A t Q E s

abbrev Ev (M : Model) (A : Around) (env : Env) (h : Heap) (e : Expr) (R X : Value → Heap → Prop) : Prop := EvT M A h (eval e env) R X
abbrev Tr (M : Model) (A : Around) (env : Env) (h : Heap) (e : Expr) (b : Bool) (X : Value → Heap → Prop) : Prop := EvT M A h (isTrue e env (eval e env)) (fun c _ => c = b) X

/-- the value v reads as d -/
def Rd (d : PyData) (v : Value) (h : Heap) : Prop := ∃ as, Reads h v d as
theorem Rd.keep {d : PyData} {v : Value} {h h' : Heap} (r : Rd d v h) (k : Keep h h') : Rd d v h' := let ⟨as, x⟩ := r; ⟨as, PyProof.Rows.Reads.keeps k x⟩
def RdL (ds : List PyData) (vs : List Value) (h : Heap) : Prop := ∃ as, ReadsAll h vs ds as
theorem RdL.keep {ds : List PyData} {vs : List Value} {h h' : Heap} (r : RdL ds vs h) (k : Keep h h') : RdL ds vs h' := let ⟨as, x⟩ := r; ⟨as, PyProof.Rows.ReadsAll.keeps k x⟩
theorem RdL.nil {h : Heap} : RdL [] [] h := ⟨_, .nil⟩
theorem RdL.cons {d ds v vs} {h : Heap} (a : Rd d v h) (b : RdL ds vs h) : RdL (d :: ds) (v :: vs) h := let ⟨_, x⟩ := a; let ⟨_, y⟩ := b; ⟨_, .cons x y⟩
theorem RdL.len {ds vs} {h : Heap} (a : RdL ds vs h) : vs.length = ds.length := by
  obtain ⟨as, x⟩ := a
  induction ds generalizing vs as with
  | nil => cases x; rfl
  | cons d ds ih => cases x with | cons _ y => simp [ih _ y]
theorem RdL.at {ds vs} {h : Heap} (a : RdL ds vs h) {i : Nat} {d : PyData} (e : ds[i]? = some d) : ∃ v, vs[i]? = some v ∧ Rd d v h := by
  obtain ⟨as, x⟩ := a
  induction ds generalizing vs as i with
  | nil => simp at e
  | cons d' ds ih =>
    cases x with
    | cons r y =>
      cases i with
      | zero => simp at e; subst e; exact ⟨_, rfl, _, r⟩
      | succ i =>
        obtain ⟨v, q⟩ := ih (i := i) (by simpa using e) _ y
        exact ⟨v, by simpa using q⟩
theorem RdL.uncons {d ds vs} {h : Heap} (a : RdL (d :: ds) vs h) : ∃ v r, vs = v :: r ∧ Rd d v h ∧ RdL ds r h := by
  obtain ⟨as, x⟩ := a
  cases x with | cons r y => exact ⟨_, _, rfl, ⟨_, r⟩, ⟨_, y⟩⟩
theorem RdL.unnil {vs} {h : Heap} (a : RdL [] vs h) : vs = [] := by
  obtain ⟨as, x⟩ := a
  cases x; rfl
theorem RdL.append {ds es vs us} {h : Heap} (a : RdL ds vs h) (b : RdL es us h) : RdL (ds ++ es) (vs ++ us) h := by
  obtain ⟨as, x⟩ := a
  induction ds generalizing vs as with
  | nil => cases x; exact b
  | cons d ds ih => cases x with | cons r y => exact RdL.cons ⟨_, r⟩ (ih _ y)
mutual
/-- no list and no dict in it -/
def flat : PyData → Bool
  | .list _ | .dict _ => false
  | .tuple xs => flatL xs
  | _ => true
def flatL : List PyData → Bool
  | [] => true
  | x :: xs => flat x && flatL xs
end
theorem flat_nil {h : Heap} {d : PyData} {v : Value} {as : List Addr} (hf : flat d = true) (r : Reads h v d as) : as = [] :=
  Reads.rec (motive_1 := fun _ d as _ => flat d = true → as = []) (motive_2 := fun _ ds as _ => flatL ds = true → as = [])
    (fun _ => rfl) (fun _ _ => rfl) (fun _ _ _ => rfl) (fun _ _ _ => rfl) (fun _ _ _ _ _ hf => nomatch hf) (fun _ _ _ _ ih hf => ih hf) (fun _ _ _ _ _ _ _ hf => nomatch hf)
    (fun _ => rfl) (fun _ _ ih1 ih2 hf => by
      have q := Bool.and_eq_true_iff.mp hf
      rw [ih1 q.1, ih2 q.2]; rfl) r hf
theorem flatL_nil {h : Heap} {ds : List PyData} {vs : List Value} {as : List Addr} (hf : flatL ds = true) (r : ReadsAll h vs ds as) : as = [] :=
  ReadsAll.rec (motive_1 := fun _ _ _ _ => True) (motive_2 := fun _ ds as _ => flatL ds = true → as = [])
    trivial (fun _ => trivial) (fun _ _ => trivial) (fun _ _ => trivial) (fun _ _ _ _ _ => trivial) (fun _ _ _ _ _ => trivial) (fun _ _ _ _ _ _ _ => trivial)
    (fun _ => rfl) (fun x _ _ ih2 hf => by
      have q := Bool.and_eq_true_iff.mp hf
      rw [flat_nil q.1 x, ih2 q.2]; rfl) r hf

/-- ... and whatever list is in it is new against h₀ -/
def Rf (h₀ : Heap) (d : PyData) (v : Value) (h : Heap) : Prop := ∃ as, Reads h v d as ∧ ∀ a ∈ as, h₀.get? a = none
theorem Rf.rd {h₀ : Heap} {d : PyData} {v : Value} {h : Heap} (r : Rf h₀ d v h) : Rd d v h := let ⟨as, x, _⟩ := r; ⟨as, x⟩
theorem Rf.of_flat {h₀ : Heap} {d : PyData} {v : Value} {h : Heap} (f : flat d = true) (r : Rd d v h) : Rf h₀ d v h := by
  obtain ⟨as, x⟩ := r
  refine ⟨as, x, ?_⟩
  rw [flat_nil f x]; exact fun _ ha => nomatch ha
theorem Rf.keep {h₀ : Heap} {d : PyData} {v : Value} {h h' : Heap} (r : Rf h₀ d v h) (k : Keep h h') : Rf h₀ d v h' := let ⟨as, x, n⟩ := r; ⟨as, PyProof.Rows.Reads.keeps k x, n⟩
theorem Rf.old {h₀ h₁ : Heap} {d : PyData} {v : Value} {h : Heap} (r : Rf h₁ d v h) (k : Keep h₀ h₁) : Rf h₀ d v h := by
  obtain ⟨as, x, n⟩ := r
  exact ⟨as, x, fun a ha => k.none (n a ha)⟩
/-- a new list of flat things -/
def Rl (h₀ : Heap) (ds : List PyData) (v : Value) (h : Heap) : Prop := ∃ l items, v = .ref l ∧ h.PlainList l items ∧ RdL ds items.toList h ∧ h₀.get? l = none
theorem Rl.keep {h₀ : Heap} {ds} {v : Value} {h h' : Heap} (r : Rl h₀ ds v h) (k : Keep h h') : Rl h₀ ds v h' := by
  obtain ⟨l, items, e, ⟨n, p⟩, x, f⟩ := r
  exact ⟨l, items, e, ⟨n, k _ _ p⟩, x.keep k, f⟩
theorem Rl.old {h₀ h₁ : Heap} {ds} {v : Value} {h : Heap} (r : Rl h₁ ds v h) (k : Keep h₀ h₁) : Rl h₀ ds v h := by
  obtain ⟨l, items, e, p, x, f⟩ := r
  exact ⟨l, items, e, p, x, k.none f⟩
theorem Rl.rd {h₀ : Heap} {ds} {v : Value} {h : Heap} (r : Rl h₀ ds v h) : Rd (.list ds) v h := by
  obtain ⟨l, items, e, ⟨n, p⟩, ⟨as, x⟩, _⟩ := r
  subst e
  exact ⟨_, .list p rfl rfl x⟩
theorem Rl.rf {h₀ : Heap} {ds} {v : Value} {h : Heap} (hf : flatL ds = true) (r : Rl h₀ ds v h) : Rf h₀ (.list ds) v h := by
  obtain ⟨l, items, e, ⟨n, p⟩, ⟨as, x⟩, f⟩ := r
  subst e
  refine ⟨_, .list p rfl rfl x, ?_⟩
  rw [flatL_nil hf x]
  intro a ha
  cases ha with
  | head => exact f
  | tail _ h => cases h

section
variable {α β : Type} {M : Model} {A : Around} {env : Env} {h : Heap} {X : Value → Heap → Prop}

theorem EvT.up {h' : Heap} {t : Sem α} {R : α → Heap → Prop} (e : EvT M A h t R X) (k : Keep h h') : EvT M A h' t R X := ⟨fun s Q E k' q x => e.go s Q E (k.trans k') q x⟩
theorem EvT.mono {t : Sem α} {R R' : α → Heap → Prop} (e : EvT M A h t R X) (m : ∀ a h', Keep h h' → R a h' → R' a h') : EvT M A h t R' X :=
  ⟨fun s Q E k q x => e.go s Q E k (fun a h' i k' r => q a h' i k' (m a h' (k.trans k') r)) x⟩
theorem EvT.of {t : Sem α} {R : α → Heap → Prop}
    (e : ∀ (s : Shared) (Q : α → Shared → Prop) (E : Value → Shared → Prop), Keep h s.heap → (∀ a h' k, Keep s.heap h' → R a h' → Q a { s with heap := h', toks := k }) → wpAny M A t Q E s) : EvT M A h t R X :=
  ⟨fun s Q E k q _ => e s Q E k q⟩
theorem EvT.ofS {t : Sem α} {R : α → Heap → Prop}
    (e : ∀ (s : Shared) (Q : α → Shared → Prop) (E : Value → Shared → Prop), Keep h s.heap → (∀ a k, R a s.heap → Q a { s with toks := k }) → wpAny M A t Q E s) : EvT M A h t R X :=
  ⟨fun s Q E k q _ => e s Q E k fun a k' r => q a s.heap k' Keep.rfl r⟩
theorem EvT.pure {a : α} {R : α → Heap → Prop} (r : ∀ h', Keep h h' → R a h') : EvT M A h (Pure.pure a) R X :=
  EvT.of fun s _ _ k q => wpAny_pure (q a s.heap s.toks Keep.rfl (r _ k))
theorem EvT.bind {t : Sem α} {f : α → Sem β} {R : α → Heap → Prop} {R' : β → Heap → Prop} (e : EvT M A h t R X)
    (n : ∀ a h', Keep h h' → R a h' → EvT M A h' (f a) R' X) : EvT M A h (t >>= f) R' X := by
  refine ⟨fun s Q E k q x => ?_⟩
  refine wpAny_bind (e.go s _ E k (fun a h' i k' r => ?_) x)
  exact (n a h' (k.trans k') r).go _ Q E (fun b o e => e) (fun a' h'' j k'' r' => q a' h'' j (k'.trans k'') r') (fun y h'' j r' => x y h'' j r')
theorem EvT.seq {t : Sem α} {R : α → Heap → Prop} (e : EvT M A h t R X) {s : Shared} {Q : α → Shared → Prop} {E : Value → Shared → Prop} (k : Keep h s.heap)
    (q : ∀ a h' i, Keep s.heap h' → R a h' → Q a { s with heap := h', toks := i }) (x : ∀ y h' i, X y h' → E y { s with heap := h', toks := i }) : wpAny M A t Q E s := e.go s Q E k q x
/-- two trees, one behind the other -/
theorem EvT.two {γ : Type} {t : Sem α} {u : Sem β} {R : α → Heap → Prop} {R2 : β → Heap → Prop} {v : α → β → Sem γ} {R' : γ → Heap → Prop} (e : EvT M A h t R X) (e2 : EvT M A h u R2 X)
    (m : ∀ a h' h'', Keep h' h'' → R a h' → R a h'') (n : ∀ a b h', Keep h h' → R a h' → R2 b h' → EvT M A h' (v a b) R' X)
    {s : Shared} {Q : γ → Shared → Prop} {E : Value → Shared → Prop} (k : Keep h s.heap)
    (q : ∀ a h' i, Keep s.heap h' → R' a h' → Q a { s with heap := h', toks := i }) (x : ∀ y h' i, X y h' → E y { s with heap := h', toks := i }) :
    wpAny M A t (fun a s₁ => wpAny M A u (fun b s₂ => wpAny M A (v a b) Q E s₂) E s₁) E s := by
  refine e.go s _ E k (fun a h1 i k1 r1 => ?_) x
  refine (e2.up (k.trans k1)).seq (s := { s with heap := h1, toks := i }) Keep.rfl (fun b h2 j k2 r2 => ?_) (fun y h2 j r => x y h2 j r)
  exact (n a b h2 (k.trans (Keep.trans k1 k2)) (m _ _ _ k2 r1) r2).seq (s := { s with heap := h2, toks := j }) Keep.rfl (fun c h3 j k3 r3 => q c h3 j (Keep.trans k1 (Keep.trans k2 k3)) r3) (fun y h3 j r => x y h3 j r)
end
theorem rd_mono {d : PyData} : ∀ a h' h'', Keep h' h'' → Rd d a h' → Rd d a h'' := fun _ _ _ k r => r.keep k

section
variable {prog : Program} {w : World} {A : Around} {env : Env} {h : Heap} {X : Value → Heap → Prop}

theorem ev_int {i : Int} {k pos} : Ev (model prog w) A env h (.Constant (.int i) k pos) (Rd (.int i)) X :=
  EvT.ofS fun _ _ _ _ q => wpAny_Constant_int (q _ _ ⟨_, .int _ _⟩)
theorem ev_str {x : Str} {k pos} : Ev (model prog w) A env h (.Constant (.str x) k pos) (Rd (.str x)) X :=
  EvT.ofS fun _ _ _ _ q => wpAny_Constant_str (q _ _ ⟨_, .str _ _⟩)
theorem ev_bool {b : Bool} {k pos} : Ev (model prog w) A env h (.Constant (.bool b) k pos) (Rd (.bool b)) X :=
  EvT.ofS fun s _ _ _ q => wpAny_Constant_bool (q _ s.toks ⟨_, .bool _⟩)
theorem ev_bin {l r : Expr} {op : Operator} {pos : Pos} {d1 d2 : PyData} {R : Value → Heap → Prop} (e1 : Ev (model prog w) A env h l (Rd d1) X) (e2 : Ev (model prog w) A env h r (Rd d2) X)
    (o : ∀ v1 v2 h', Keep h h' → Rd d1 v1 h' → Rd d2 v2 h' → EvT (model prog w) A h' (binaryOp op v1 v2) R X) : Ev (model prog w) A env h (.BinOp l op r pos) R X := by
  refine ⟨fun s Q E k q x => ?_⟩
  exact wpAny_BinOp (EvT.two e1 e2 rd_mono o k q x)

theorem rd_int {i : Int} {v : Value} {h : Heap} (r : Rd (.int i) v h) : ∃ t, v = .int i t := by obtain ⟨as, x⟩ := r; cases x; exact ⟨_, rfl⟩
theorem rd_str {i : Str} {v : Value} {h : Heap} (r : Rd (.str i) v h) : ∃ t, v = .str i t := by obtain ⟨as, x⟩ := r; cases x; exact ⟨_, rfl⟩
theorem rd_bool {i : Bool} {v : Value} {h : Heap} (r : Rd (.bool i) v h) : v = .bool i := by obtain ⟨as, x⟩ := r; cases x; rfl
theorem rd_tup {ds : List PyData} {v : Value} {h : Heap} (r : Rd (.tuple ds) v h) : ∃ a items, v = .ref a ∧ h.IsTuple a items ∧ RdL ds items.toList h := by
  obtain ⟨as, x⟩ := r
  cases x with | tuple h1 h2 h3 y => exact ⟨_, _, rfl, ⟨_, h1, h2, _, h3⟩, _, y⟩
theorem rd_list {ds : List PyData} {v : Value} {h : Heap} (r : Rd (.list ds) v h) : ∃ a items, v = .ref a ∧ h.IsList a items ∧ RdL ds items.toList h := by
  obtain ⟨as, x⟩ := r
  cases x with | list h1 h2 h3 y => exact ⟨_, _, rfl, ⟨_, h1, h2, _, h3⟩, _, y⟩

theorem ev_add {l r : Expr} {pos : Pos} {a b : Int} (e1 : Ev (model prog w) A env h l (Rd (.int a)) X) (e2 : Ev (model prog w) A env h r (Rd (.int b)) X) :
    Ev (model prog w) A env h (.BinOp l .Add r pos) (Rd (.int (a + b))) X := ev_bin e1 e2 fun v1 v2 h' k r1 r2 => by
  obtain ⟨t, rfl⟩ := rd_int r1; obtain ⟨u, rfl⟩ := rd_int r2
  exact EvT.ofS fun _ _ _ _ q => P.add_int (q _ _ ⟨_, .int _ _⟩)
theorem ev_sub {l r : Expr} {pos : Pos} {a b : Int} (e1 : Ev (model prog w) A env h l (Rd (.int a)) X) (e2 : Ev (model prog w) A env h r (Rd (.int b)) X) :
    Ev (model prog w) A env h (.BinOp l .Sub r pos) (Rd (.int (a - b))) X := ev_bin e1 e2 fun v1 v2 h' k r1 r2 => by
  obtain ⟨t, rfl⟩ := rd_int r1; obtain ⟨u, rfl⟩ := rd_int r2
  exact EvT.ofS fun _ _ _ _ q => P.sub_int (q _ _ ⟨_, .int _ _⟩)
theorem ev_mul {l r : Expr} {pos : Pos} {a b : Int} (e1 : Ev (model prog w) A env h l (Rd (.int a)) X) (e2 : Ev (model prog w) A env h r (Rd (.int b)) X) (hm : IntMulOk a b) :
    Ev (model prog w) A env h (.BinOp l .Mult r pos) (Rd (.int (a * b))) X := ev_bin e1 e2 fun v1 v2 h' k r1 r2 => by
  obtain ⟨t, rfl⟩ := rd_int r1; obtain ⟨u, rfl⟩ := rd_int r2
  exact EvT.ofS fun _ _ _ _ q => P.mul_int (q _ _ ⟨_, .int _ _⟩) hm
theorem ev_mod {l r : Expr} {pos : Pos} {a b : Int} (e1 : Ev (model prog w) A env h l (Rd (.int a)) X) (e2 : Ev (model prog w) A env h r (Rd (.int b)) X) (hb : 0 < b) :
    Ev (model prog w) A env h (.BinOp l .Mod r pos) (Rd (.int (a % b))) X := ev_bin e1 e2 fun v1 v2 h' k r1 r2 => by
  obtain ⟨t, rfl⟩ := rd_int r1; obtain ⟨u, rfl⟩ := rd_int r2
  refine EvT.ofS fun _ _ _ _ q => PyProof.Rows.mod_int (by (first | lia | omega)) ?_
  rw [Int.fmod_eq_emod_of_nonneg _ (by (first | lia | omega))]
  exact q _ _ ⟨_, .int _ _⟩
/-- one comparison, as a value and as a test -/
theorem ev_cmp {l r : Expr} {op : CmpOp} {pos : Pos} {d1 d2 : PyData} {R : Value → Heap → Prop} (e1 : Ev (model prog w) A env h l (Rd d1) X) (e2 : Ev (model prog w) A env h r (Rd d2) X)
    (o : ∀ v1 v2 h', Keep h h' → Rd d1 v1 h' → Rd d2 v2 h' → EvT (model prog w) A h' (compareOp op v1 v2) R X) (hm : pl r = true := by rfl) :
    Ev (model prog w) A env h (.Compare l [op] [r] pos) R X := by
  refine ⟨fun s Q E k q x => ?_⟩
  exact wpAny_Compare1 (EvT.two e1 e2 rd_mono o k q x) (pl_marks hm)
theorem tr_cmp {l r : Expr} {op : CmpOp} {pos : Pos} {d1 d2 : PyData} {b : Bool} (e1 : Ev (model prog w) A env h l (Rd d1) X) (e2 : Ev (model prog w) A env h r (Rd d2) X)
    (o : ∀ v1 v2 h', Keep h h' → Rd d1 v1 h' → Rd d2 v2 h' → EvT (model prog w) A h' (compareOp op v1 v2) (Rd (.bool b)) X) (hm : pl r = true := by rfl) :
    Tr (model prog w) A env h (.Compare l [op] [r] pos) b X := by
  refine ⟨fun s Q E k q x => ?_⟩
  refine wpAny_isTrue_Compare1 ?_ (pl_marks hm)
  exact EvT.two (v := fun a b => compareOp op a b) (Q := fun c s₃ => wpAny (model prog w) A (truthy c) Q E s₃) e1 e2 rd_mono o k (fun c h' i k' r => by cases rd_bool r; exact wpAny_truthy_bool (q _ _ _ k' rfl)) x

/-- int comparisons -/
def icmp : CmpOp → Int → Int → Option Bool
  | .Lt, a, b => some (decide (a < b))
  | .LtE, a, b => some (decide (a ≤ b))
  | .Gt, a, b => some (decide (a > b))
  | .GtE, a, b => some (decide (a ≥ b))
  | .Eq, a, b => some (a == b)
  | .NotEq, a, b => some (a != b)
  | _, _, _ => none
theorem op_icmp {op : CmpOp} {a b : Int} {c : Bool} (e : icmp op a b = some c) {v1 v2 : Value} {h' : Heap} (r1 : Rd (.int a) v1 h') (r2 : Rd (.int b) v2 h') :
    EvT (model prog w) A h' (compareOp op v1 v2) (Rd (.bool c)) X := by
  obtain ⟨t, rfl⟩ := rd_int r1; obtain ⟨u, rfl⟩ := rd_int r2
  cases op <;> cases e
  · exact EvT.ofS fun s _ _ _ q => P.eq_int (q _ s.toks ⟨_, .bool _⟩)
  · exact EvT.ofS fun s _ _ _ q => P.ne_int (q _ s.toks ⟨_, .bool _⟩)
  · exact EvT.ofS fun s _ _ _ q => P.lt_int (q _ s.toks ⟨_, .bool _⟩)
  · exact EvT.ofS fun s _ _ _ q => P.le_int (q _ s.toks ⟨_, .bool _⟩)
  · exact EvT.ofS fun s _ _ _ q => P.gt_int (q _ s.toks ⟨_, .bool _⟩)
  · exact EvT.ofS fun s _ _ _ q => P.ge_int (q _ s.toks ⟨_, .bool _⟩)
theorem ev_icmp {l r : Expr} {op : CmpOp} {pos : Pos} {a b : Int} {c : Bool} (e1 : Ev (model prog w) A env h l (Rd (.int a)) X) (e2 : Ev (model prog w) A env h r (Rd (.int b)) X) (e : icmp op a b = some c)
    (hm : pl r = true := by rfl) : Ev (model prog w) A env h (.Compare l [op] [r] pos) (Rd (.bool c)) X :=
  ev_cmp e1 e2 (fun _ _ _ _ r1 r2 => op_icmp e r1 r2) hm
theorem tr_icmp {l r : Expr} {op : CmpOp} {pos : Pos} {a b : Int} {c : Bool} (e1 : Ev (model prog w) A env h l (Rd (.int a)) X) (e2 : Ev (model prog w) A env h r (Rd (.int b)) X) (e : icmp op a b = some c)
    (hm : pl r = true := by rfl) : Tr (model prog w) A env h (.Compare l [op] [r] pos) c X :=
  tr_cmp e1 e2 (fun _ _ _ _ r1 r2 => op_icmp e r1 r2) hm

/-- tests -/
theorem tr_not {x : Expr} {pos : Pos} {b : Bool} (e : Tr (model prog w) A env h x b X) : Tr (model prog w) A env h (.UnaryOp .Not x pos) (!b) X := by
  refine ⟨fun s Q E k q x => ?_⟩
  refine wpAny_isTrue_Not (e.go s _ E k (fun c h1 i k1 r1 => ?_) x)
  subst r1; exact q _ _ _ k1 rfl
theorem tr_bool {op : BoolOp} {es : List Expr} {pos : Pos} {b : Bool} (e : EvT (model prog w) A h (allTrue op es env) (fun c _ => c = b) X) : Tr (model prog w) A env h (.BoolOp op es pos) b X := by
  refine ⟨fun s Q E k q x => ?_⟩
  exact wpAny_isTrue_BoolOp (e.go s Q E k q x)
theorem all_and_nil : EvT (model prog w) A h (allTrue .And [] env) (fun c _ => c = true) X := EvT.ofS fun s _ _ _ q => wpAny_allTrue_And_nil (q _ s.toks rfl)
theorem all_and {x : Expr} {es : List Expr} {a b : Bool} (e : Tr (model prog w) A env h x a X) (e2 : a = true → EvT (model prog w) A h (allTrue .And es env) (fun c _ => c = b) X) :
    EvT (model prog w) A h (allTrue .And (x :: es) env) (fun c _ => c = (a && b)) X := by
  refine ⟨fun s Q E k q x => ?_⟩
  refine wpAny_allTrue_And_cons (e.go s _ E k (fun c h1 i k1 r1 => ?_) x)
  subst r1
  cases c with
  | false => exact q _ _ _ k1 rfl
  | true => exact ((e2 rfl).up (k.trans k1)).seq (s := { s with heap := h1, toks := i }) Keep.rfl (fun c h2 j k2 r2 => q c h2 j (Keep.trans k1 k2) (by simpa using r2)) (fun y h2 j r => x y h2 j r)
theorem all_or_nil : EvT (model prog w) A h (allTrue .Or [] env) (fun c _ => c = false) X := EvT.ofS fun s _ _ _ q => wpAny_pure (a := false) (q _ s.toks rfl)
theorem all_or {x : Expr} {es : List Expr} {a b : Bool} (e : Tr (model prog w) A env h x a X) (e2 : a = false → EvT (model prog w) A h (allTrue .Or es env) (fun c _ => c = b) X) :
    EvT (model prog w) A h (allTrue .Or (x :: es) env) (fun c _ => c = (a || b)) X := by
  refine ⟨fun s Q E k q x => ?_⟩
  refine wpAny_allTrue_Or_cons (e.go s _ E k (fun c h1 i k1 r1 => ?_) x)
  subst r1
  cases c with
  | true => exact q _ _ _ k1 rfl
  | false => exact ((e2 rfl).up (k.trans k1)).seq (s := { s with heap := h1, toks := i }) Keep.rfl (fun c h2 j k2 r2 => q c h2 j (Keep.trans k1 k2) (by simpa using r2)) (fun y h2 j r => x y h2 j r)
theorem tr_val {e : Expr} {b : Bool} (e1 : Ev (model prog w) A env h e (Rd (.bool b)) X)
    (he : plT e = true := by rfl) : Tr (model prog w) A env h e b X := by
  refine ⟨fun s Q E k q x => ?_⟩
  refine wpAny_isTrue_value (e1.go s _ E k (fun c h1 i k1 r1 => ?_) x) (plT_eq he)
  cases rd_bool r1; exact wpAny_truthy_bool (q _ _ _ k1 rfl)
theorem ev_not {x : Expr} {pos : Pos} {b : Bool} (e : Ev (model prog w) A env h x (Rd (.bool b)) X) : Ev (model prog w) A env h (.UnaryOp .Not x pos) (Rd (.bool (!b))) X := by
  refine ⟨fun s Q E k q x => ?_⟩
  refine wpAny_UnaryOp (e.go s _ E k (fun v h1 i k1 r1 => ?_) x)
  cases rd_bool r1
  exact PyProof.Rows.not_of (wpAny_truthy_bool (q _ _ _ k1 ⟨_, .bool _⟩))

/-- and, or as values: all of them bools -/
theorem bo_last {op : BoolOp} {x : Expr} {pos : Pos} {R : Value → Heap → Prop} (e : Ev (model prog w) A env h x R X) : EvT (model prog w) A h (boolOp pos op [eval x env]) R X := e
theorem bo_and {x y : Expr} {es : List Expr} {pos : Pos} {a b : Bool} (e : Ev (model prog w) A env h x (Rd (.bool a)) X)
    (e2 : a = true → EvT (model prog w) A h (boolOp pos .And (evalEach (y :: es) env)) (Rd (.bool b)) X) :
    EvT (model prog w) A h (boolOp pos .And (evalEach (x :: y :: es) env)) (Rd (.bool (a && b))) X := by
  refine ⟨fun s Q E k q x' => ?_⟩
  show wpAny (model prog w) A (do
    let v ← eval x env
    standAt pos
    let t ← holding [v] (truthy v)
    match BoolOp.And, t with
    | .And, false | .Or, true => pure v
    | _, _ => boolOp pos .And (evalEach (y :: es) env)) Q E s
  refine wpAny_bind (e.go s _ E k (fun v h1 i k1 r1 => ?_) x')
  cases rd_bool r1
  refine wpAny_bind (wpAny_standAt (wpAny_bind (wpAny_holding (wpAny_truthy_bool ?_))))
  cases a with
  | false => exact wpAny_pure (q _ _ _ k1 ⟨_, .bool _⟩)
  | true => exact ((e2 rfl).up (k.trans k1)).seq (s := { s with heap := h1, toks := i }) Keep.rfl (fun c h2 j k2 r2 => q c h2 j (Keep.trans k1 k2) (by simpa using r2)) (fun y h2 j r => x' y h2 j r)
theorem ev_bop {op : BoolOp} {es : List Expr} {pos : Pos} {R : Value → Heap → Prop} (e : EvT (model prog w) A h (boolOp pos op (evalEach es env)) R X) : Ev (model prog w) A env h (.BoolOp op es pos) R X := by
  refine ⟨fun s Q E k q x => ?_⟩
  rw [arm_eval_BoolOp]; exact e.go s Q E k q x
/-- argument lists, displays -/
abbrev EvL (M : Model) (A : Around) (env : Env) (h : Heap) (pos : Pos) (es : List Expr) (ds : List PyData) (X : Value → Heap → Prop) : Prop := EvT M A h (spliced (backTo pos (starEach es env))) (RdL ds) X
theorem evl_nil {pos : Pos} : EvL (model prog w) A env h pos [] [] X := EvT.ofS fun s _ _ _ q => PyProof.Rows.args_nil (q _ s.toks RdL.nil)
theorem evl_cons {pos : Pos} {x : Expr} {es : List Expr} {d : PyData} {ds : List PyData} (e : Ev (model prog w) A env h x (Rd d) X) (e2 : EvL (model prog w) A env h pos es ds X)
    (he : pl x = true := by rfl) : EvL (model prog w) A env h pos (x :: es) (d :: ds) X := by
  refine ⟨fun s Q E k q x => ?_⟩
  refine PyProof.Rows.args_cons (e.go s _ E k (fun v h1 i k1 r1 => ?_) x) (pl_star he)
  exact (e2.up (k.trans k1)).seq (s := { s with heap := h1, toks := i }) Keep.rfl (fun c h2 j k2 r2 => q _ h2 j (Keep.trans k1 k2) (RdL.cons (r1.keep k2) r2)) (fun y h2 j r => x y h2 j r)

theorem ev_tup {es : List Expr} {n : Nat} {pos : Pos} {ds : List PyData} (e : EvL (model prog w) A env h pos es ds X) (hn : ds.length ≤ sizeLine := by simp only [List.length_cons, List.length_nil]; decide) : Ev (model prog w) A env h (.Tuple es n pos) (Rd (.tuple ds)) X := by
  refine ⟨fun s Q E k q x => ?_⟩
  refine wpAny_Tuple (e.go s _ E k (fun vs h1 i k1 r1 => ⟨by rw [r1.len]; exact hn, ?_⟩) x)
  obtain ⟨as, y⟩ := r1.keep (Keep.push Keep.rfl { cls := .type "tuple", data := .seq vs.toArray })
  exact q _ _ _ (Keep.push k1 _) ⟨_, .tuple (Heap.get?_push_size _ rfl) rfl rfl (by simpa using y)⟩
theorem ev_list {es : List Expr} {pos : Pos} {ds : List PyData} (e : EvL (model prog w) A env h pos es ds X) (hn : ds.length ≤ sizeLine := by simp only [List.length_cons, List.length_nil]; decide) : Ev (model prog w) A env h (.List es pos) (Rl h ds) X := by
  refine ⟨fun s Q E k q x => ?_⟩
  refine wpAny_List (e.go s _ E k (fun vs h1 i k1 r1 => ⟨by rw [r1.len]; exact hn, ?_⟩) x)
  refine q _ _ _ (Keep.push k1 _) ⟨_, _, rfl, ⟨_, Heap.get?_push_size _ rfl⟩, by simpa using r1.keep (Keep.push Keep.rfl _), ?_⟩
  cases hq : h.get? h1.objs.size with
  | none => rfl
  | some o => exact absurd (Heap.lt_size (k1 _ _ (k _ _ hq))) (Nat.lt_irrefl _)
end
end Mine

namespace Mine
open PySem PySem.Spec PySem.Calls PyProof.Rows

/-- an object that no datum is read from -/
def Odd (a : Addr) (h : Heap) : Prop := ∀ o, h.get? a = some o → (∀ vs n, o.data ≠ .seq vs n) ∧ (∀ es n, o.data ≠ .dict es n)
/-- an object that is no tuple -/
def NoTup (a : Addr) (h : Heap) : Prop := ∀ o, h.get? a = some o → o.cls = .type "tuple" → ∀ vs n, o.data ≠ .seq vs n

theorem reads_kp {W : List Addr} {h h' : Heap} (k : Kp W h h') {v : Value} {d : PyData} {as : List Addr} (hw : ∀ a ∈ W, Odd a h ∨ (a ∉ as ∧ NoTup a h)) (r : Reads h v d as) : Reads h' v d as :=
  Reads.rec (motive_1 := fun v d as _ => (∀ a ∈ W, Odd a h ∨ (a ∉ as ∧ NoTup a h)) → Reads h' v d as) (motive_2 := fun vs ds as _ => (∀ a ∈ W, Odd a h ∨ (a ∉ as ∧ NoTup a h)) → ReadsAll h' vs ds as)
    (fun _ => .none) (fun b _ => .bool b) (fun i t _ => .int i t) (fun x t _ => .str x t)
    (fun h1 h2 h3 _ ih hw => .list (k _ _ (fun ha => (hw _ ha).elim (fun q => (q _ h1).1 _ _ h3) (fun q => q.1 (.head _))) h1) h2 h3 (ih fun b hb => (hw b hb).imp id fun q => ⟨fun e => q.1 (.tail _ e), q.2⟩))
    (fun h1 h2 h3 _ ih hw => .tuple (k _ _ (fun ha => (hw _ ha).elim (fun q => (q _ h1).1 _ _ h3) (fun q => q.2 _ h1 h2 _ _ h3)) h1) h2 h3 (ih hw))
    (fun h1 h2 h3 _ _ ih1 ih2 hw => .dict (k _ _ (fun ha => (hw _ ha).elim (fun q => (q _ h1).2 _ _ h3) (fun q => q.1 (.head _))) h1) h2 h3 (ih1 fun b hb => (hw b hb).imp id fun q => ⟨fun e => q.1 (.tail _ (List.mem_append_left _ e)), q.2⟩)
      (ih2 fun b hb => (hw b hb).imp id fun q => ⟨fun e => q.1 (.tail _ (List.mem_append_right _ e)), q.2⟩))
    (fun _ => .nil) (fun _ _ ih1 ih2 hw => .cons (ih1 fun b hb => (hw b hb).imp id fun q => ⟨fun e => q.1 (List.mem_append_left _ e), q.2⟩) (ih2 fun b hb => (hw b hb).imp id fun q => ⟨fun e => q.1 (List.mem_append_right _ e), q.2⟩)) r hw
theorem readsAll_kp {W : List Addr} {h h' : Heap} (k : Kp W h h') {vs : List Value} {ds : List PyData} {as : List Addr} (hw : ∀ a ∈ W, Odd a h ∨ (a ∉ as ∧ NoTup a h)) (r : ReadsAll h vs ds as) : ReadsAll h' vs ds as :=
  ReadsAll.rec (motive_1 := fun _ _ _ _ => True) (motive_2 := fun vs ds as _ => (∀ a ∈ W, Odd a h ∨ (a ∉ as ∧ NoTup a h)) → ReadsAll h' vs ds as)
    trivial (fun _ => trivial) (fun _ _ => trivial) (fun _ _ => trivial) (fun _ _ _ _ _ => trivial) (fun _ _ _ _ _ => trivial) (fun _ _ _ _ _ _ _ => trivial)
    (fun _ => .nil) (fun x _ _ ih2 hw => .cons (reads_kp k (fun b hb => (hw b hb).imp id fun q => ⟨fun e => q.1 (List.mem_append_left _ e), q.2⟩) x) (ih2 fun b hb => (hw b hb).imp id fun q => ⟨fun e => q.1 (List.mem_append_right _ e), q.2⟩)) r hw
theorem reads_some {h : Heap} {v : Value} {d : PyData} {as : List Addr} (r : Reads h v d as) : ∀ a ∈ as, ∃ o, h.get? a = some o :=
  Reads.rec (motive_1 := fun _ _ as _ => ∀ a ∈ as, ∃ o, h.get? a = some o) (motive_2 := fun _ _ as _ => ∀ a ∈ as, ∃ o, h.get? a = some o)
    (fun _ ha => nomatch ha) (fun _ _ ha => nomatch ha) (fun _ _ _ ha => nomatch ha) (fun _ _ _ ha => nomatch ha)
    (fun h1 _ _ _ ih a ha => (List.mem_cons.mp ha).elim (fun e => e ▸ ⟨_, h1⟩) (ih a)) (fun _ _ _ _ ih => ih)
    (fun h1 _ _ _ _ ih1 ih2 a ha => (List.mem_cons.mp ha).elim (fun e => e ▸ ⟨_, h1⟩) (fun e => (List.mem_append.mp e).elim (ih1 a) (ih2 a)))
    (fun _ ha => nomatch ha) (fun _ _ ih1 ih2 a ha => (List.mem_append.mp ha).elim (ih1 a) (ih2 a)) r

abbrev Locs := List (Str × PyData)
abbrev Mut := Option (Str × Addr × List PyData)
/-- what is known of a frame: some of its names, and one list of its own that may be changed -/
structure St (g : Heap) (L : Addr) (h : Heap) (ρ : Locs) (μ : Mut) : Prop where
  ex : ∃ m, Fr g L h m ∧ (∀ x d, ρ.lookup x = some d → ∃ v as, m x = some v ∧ Reads h v d as ∧ L ∉ as ∧ ∀ q, μ = some q → q.2.1 ∉ as) ∧
    (∀ q, μ = some q → m q.1 = some (.ref q.2.1) ∧ g.get? q.2.1 = none ∧ flatL q.2.2 = true ∧ ∃ items, h.PlainList q.2.1 items ∧ RdL q.2.2 items.toList h)

theorem noTup_L {h₀ h : Heap} {L : Addr} {m} (F : Fr h₀ L h m) : NoTup L h := by
  obtain ⟨o, es, ep, ho, hd, _⟩ := F.ns
  intro o' ho' _ vs n e
  rw [ho] at ho'; cases ho'; rw [hd] at e; cases e
theorem noTup_list {h : Heap} {l : Addr} {items} (p : h.PlainList l items) : NoTup l h := by
  obtain ⟨n, p⟩ := p
  intro o ho hc
  rw [p] at ho; cases ho; simp at hc
theorem L_some {h₀ h : Heap} {L : Addr} {m} (F : Fr h₀ L h m) : ∃ o, h.get? L = some o := by
  obtain ⟨o, es, ep, ho, r⟩ := F.ns
  exact ⟨o, ho⟩
theorem L_ne_list {h₀ h : Heap} {L l : Addr} {m} {items} (F : Fr h₀ L h m) (p : h.PlainList l items) : l ≠ L := by
  obtain ⟨n, p⟩ := p
  obtain ⟨o, es, ep, ho, hd, _⟩ := F.ns
  intro e; subst e
  rw [p] at ho; cases ho; cases hd

theorem plain_kp {W : List Addr} {h h' : Heap} {l : Addr} {items} (k : Kp W h h') (n : l ∉ W) (p : h.PlainList l items) : h'.PlainList l items := let ⟨i, p⟩ := p; ⟨i, k _ _ n p⟩
theorem rdl_flat_kp {W : List Addr} {h h' : Heap} {ds vs} (k : Kp W h h') (hf : flatL ds = true) (hw : ∀ a ∈ W, NoTup a h) (r : RdL ds vs h) : RdL ds vs h' := by
  obtain ⟨as, x⟩ := r
  have e := flatL_nil hf x
  subst e
  exact ⟨_, readsAll_kp k (fun a ha => .inr ⟨List.not_mem_nil, hw a ha⟩) x⟩

section
variable {g h h' : Heap} {L : Addr} {ρ ρ' : Locs} {μ : Mut}
theorem St.keep (S : St g L h ρ μ) (k : Keep h h') : St g L h' ρ μ := by
  obtain ⟨m, F, hr, hm⟩ := S.ex
  refine ⟨m, F.after k, fun x d e => ?_, fun q e => ?_⟩
  · obtain ⟨v, as, a, b, c⟩ := hr x d e
    exact ⟨v, as, a, PyProof.Rows.Reads.keeps k b, c⟩
  · obtain ⟨a, b, c, items, ⟨n, p⟩, r⟩ := hm q e
    exact ⟨a, b, c, items, ⟨n, k _ _ p⟩, r.keep k⟩
theorem St.frK (S : St g L h ρ μ) : Keep g h := by obtain ⟨m, F, _⟩ := S.ex; exact F.keep
def Sub (ρ : Locs) : Locs → Prop
  | [] => True
  | p :: r => ρ.lookup p.1 = some p.2 ∧ Sub ρ r
theorem Sub.at {ρ : Locs} : ∀ {ρ' : Locs}, Sub ρ ρ' → ∀ x d, ρ'.lookup x = some d → ρ.lookup x = some d
  | [], _, _, _, e => nomatch e
  | (y, d') :: r, hs, x, d, e => by
    rw [List.lookup_cons] at e
    cases hb : x == y with
    | true => rw [hb] at e; cases e; rw [eq_of_beq hb]; exact hs.1
    | false => rw [hb] at e; exact hs.2.at x d e
theorem St.pick (S : St g L h ρ μ) (hs : Sub ρ ρ') : St g L h ρ' μ := by
  obtain ⟨m, F, hr, hm⟩ := S.ex
  exact ⟨m, F, fun x d e => hr x d (hs.at x d e), hm⟩
/-- changes at objects that bear nothing known -/
theorem St.odd {a : Addr} (S : St g L h ρ μ) (ho : Odd a h) (hs : ∃ o, h.get? a = some o) (hg : g.get? a = none) (k : Kp [a] h h') : St g L h' ρ μ := by
  obtain ⟨m, F, hr, hm⟩ := S.ex
  obtain ⟨o, hs⟩ := hs
  have hL : L ≠ a := by
    intro e; subst e
    obtain ⟨o', es, ep, ho', hd, _⟩ := F.ns
    exact (ho o' ho').2 _ _ hd
  refine ⟨m, ⟨?_, fun b o e => k b o ?_ (F.keep b o e), F.above⟩, fun x d e => ?_, fun q e => ?_⟩
  · obtain ⟨o', es, ep, ho', r⟩ := F.ns
    exact ⟨o', es, ep, k _ _ (by simp [hL]) ho', r⟩
  · intro hb
    rw [List.mem_singleton] at hb; subst hb; rw [hg] at e; cases e
  · obtain ⟨v, as, a, b, c⟩ := hr x d e
    exact ⟨v, as, a, reads_kp k (fun y hy => by rw [List.mem_singleton] at hy; subst hy; exact .inl ho) b, c⟩
  · obtain ⟨a', b, c, items, p, r⟩ := hm q e
    have hl : q.2.1 ≠ a := by
      intro e; obtain ⟨n, p⟩ := p
      rw [e] at p
      exact (ho _ p).1 _ _ rfl
    refine ⟨a', b, c, items, plain_kp k (by simp [hl]) p, ?_⟩
    obtain ⟨as, r⟩ := r
    exact ⟨as, readsAll_kp k (fun y hy => by rw [List.mem_singleton] at hy; subst hy; exact .inl ho) r⟩
end

/-- statements: whatever stands stays, but for the frame's names and the lists at Ws -/
structure Run (M : Model) (A : Around) (env : Env) (Ws : List Addr) (ss : List Stmt) (h : Heap) (P : Flow → Heap → Prop) (X : Value → Heap → Prop) : Prop where
  go : ∀ (s : Shared) (Q : Flow → Shared → Prop) (E : Value → Shared → Prop), s.heap = h → PassesOwn M A env E →
    (∀ fl h' k, Kp (env.locals :: Ws) h h' → P fl h' → Q fl { s with heap := h', toks := k }) →
    (∀ x h' k, X x h' → E x { s with heap := h', toks := k }) → wpAny M A (execs ss env) Q E s
abbrev NoX : Value → Heap → Prop := fun _ _ => False

section
variable {prog : Program} {w : World} {A : Around} {env : Env} {h : Heap} {X : Value → Heap → Prop} {Ws : List Addr} {P : Flow → Heap → Prop} {rest : List Stmt}
theorem run_nil (p : P .next h) : Run (model prog w) A env Ws [] h P X := by
  refine ⟨fun s Q E e po q x => ?_⟩; subst e
  exact wpAny_execs_nil (q _ s.heap s.toks Kp.rfl p)
theorem run_sub {Ws' : List Addr} {ss : List Stmt} (r : Run (model prog w) A env Ws ss h P X) (hs : ∀ b ∈ Ws, b ∈ Ws') : Run (model prog w) A env Ws' ss h P X := by
  refine ⟨fun s Q E e po q x => ?_⟩
  exact r.go s Q E e po (fun fl h' k kp p => q fl h' k (kp.mono fun b hb => by
    cases hb with
    | head => exact .head _
    | tail _ hb => exact .tail _ (hs b hb)) p) x
theorem run_mono {P' : Flow → Heap → Prop} {ss : List Stmt} (r : Run (model prog w) A env Ws ss h P X) (m : ∀ fl h', P fl h' → P' fl h') : Run (model prog w) A env Ws ss h P' X := by
  refine ⟨fun s Q E e po q x => ?_⟩
  exact r.go s Q E e po (fun fl h' k kp p => q fl h' k kp (m _ _ p)) x
theorem run_ret {e : Expr} {pos : Pos} {R : Value → Heap → Prop} (ev : Ev (model prog w) A env h e R X) (k : ∀ v h', Keep h h' → R v h' → P (.ret v) h') : Run (model prog w) A env Ws (.Return (some e) pos :: rest) h P X := by
  refine ⟨fun s Q E e po q x => ?_⟩; subst e
  refine wpAny_execs_cons (wpAny_Return_some (ev.go s _ E Keep.rfl (fun v h' i k' r => ?_) x))
  exact q _ _ _ k'.kp (k v h' k' r)
theorem run_expr {e : Expr} {pos : Pos} {R : Value → Heap → Prop} (ev : Ev (model prog w) A env h e R X) (k : ∀ v h', Keep h h' → R v h' → Run (model prog w) A env Ws rest h' P X)
    (hi : interactive env = false := by rfl) (hs : pl e = true := by rfl) : Run (model prog w) A env Ws (.Expr e pos :: rest) h P X := by
  refine ⟨fun s Q E e po q x => ?_⟩; subst e
  refine wpAny_execs_cons (wpAny_Expr_any (ev.go s _ E Keep.rfl (fun v h' i k' r => ?_) x) hi (pl_swaps hs))
  exact (k v h' k' r).go _ Q E rfl po (fun fl h2 j kp p => q fl h2 j (k'.kp.trans kp) p) (fun y h2 j r => x y h2 j r)

theorem run_ifH {test : Expr} {body orelse : List Stmt} {pos : Pos} {c : Bool} (t : Tr (model prog w) A env h test c X)
    (k1 : c = true → ∀ h', Keep h h' → Run (model prog w) A env Ws body h' (fun fl h2 => match fl with | .next => Run (model prog w) A env Ws rest h2 P X | fl => P fl h2) X)
    (k2 : c = false → ∀ h', Keep h h' → Run (model prog w) A env Ws orelse h' (fun fl h2 => match fl with | .next => Run (model prog w) A env Ws rest h2 P X | fl => P fl h2) X) :
    Run (model prog w) A env Ws (.If test body orelse pos :: rest) h P X := by
  refine ⟨fun s Q E e po q x => ?_⟩; subst e
  refine wpAny_execs_cons (wpAny_If (t.go s _ E Keep.rfl (fun c' h1 i k' r => ?_) x))
  subst r
  have fin : ∀ (ss : List Stmt), Run (model prog w) A env Ws ss h1 (fun fl h2 => match fl with | .next => Run (model prog w) A env Ws rest h2 P X | fl => P fl h2) X →
      wpAny (model prog w) A (execs ss env) (fun f s' => match f with | .next => wpAny (model prog w) A (execs rest env) Q E s' | f => Q f s') E { s with heap := h1, toks := i } := by
    intro ss r
    refine r.go _ _ E rfl po (fun fl h2 j kp p => ?_) (fun y h2 j r => x y h2 j r)
    cases fl with
    | next => exact p.go _ Q E rfl po (fun fl h3 j kp' p' => q fl h3 j (k'.kp.trans (kp.trans kp')) p') (fun y h2 j r => x y h2 j r)
    | brk => exact q _ _ _ (k'.kp.trans kp) p
    | cont => exact q _ _ _ (k'.kp.trans kp) p
    | ret v => exact q _ _ _ (k'.kp.trans kp) p
  cases c' with
  | true => exact fin _ (k1 rfl h1 k')
  | false => exact fin _ (k2 rfl h1 k')
end

section
variable {prog : Program} {w : World} {A : Around} {nm : Str} {sc : Scope} {L fa : Addr} {cd : Value} {g h : Heap} {ρ : Locs} {μ : Mut} {X : Value → Heap → Prop} {Ws : List Addr} {P : Flow → Heap → Prop} {rest : List Stmt}

theorem ev_var {x : Str} {pos : Pos} {d : PyData} (S : St g L h ρ μ) (hv : ρ.lookup x = some d) (hk : sc.kind = .function := by rfl) (hl : (envOf nm sc L fa cd).kindOf x = some .local := by rfl)
    (hd : (x == ("__debug__" : Str)) = false := by decide) : Ev (model prog w) A (envOf nm sc L fa cd) h (.Name x pos) (Rd d) X :=
  EvT.ofS fun s Q E k q => by
    obtain ⟨m, F, hr, _⟩ := (S.keep k).ex
    obtain ⟨v, as, hm, r, _⟩ := hr x d hv
    exact ld F hm (q v s.toks ⟨as, r⟩) hk hl hd
theorem ev_mutL {x : Str} {pos : Pos} {l : Addr} {ds : List PyData} (S : St g L h ρ (some (x, l, ds))) (hk : sc.kind = .function := by rfl) (hl : (envOf nm sc L fa cd).kindOf x = some .local := by rfl)
    (hd : (x == ("__debug__" : Str)) = false := by decide) : Ev (model prog w) A (envOf nm sc L fa cd) h (.Name x pos) (fun v _ => v = .ref l) X :=
  EvT.ofS fun s Q E k q => by
    obtain ⟨m, F, _, hm⟩ := (S.keep k).ex
    obtain ⟨hv, _⟩ := hm _ rfl
    exact ld F hv (q _ s.toks rfl) hk hl hd

theorem fr_set {m : Str → Option Value} {h' : Heap} {x : Str} {v : Value} (F : Fr g L h m) (hn : h'.Ns L (fun y => if y = x then some v else m y)) (hs : Heap.SameBut L h h') : Fr g L h' (fun y => if y = x then some v else m y) := F.set hn hs
theorem kp_same {a : Addr} {h h' : Heap} (hs : Heap.SameBut a h h') : Kp [a] h h' := fun b o n e => by
  rw [hs.2 b (by simpa using n)]; exact e

/-- a name bound to a datum -/
theorem St.store {x : Str} {v : Value} {d : PyData} {as : List Addr} {h' : Heap} {m : Str → Option Value} (S : St g L h ρ μ) (hμ : ∀ q, μ = some q → q.1 ≠ x) (F₀ : Fr g L h m) (r : Reads h v d as) (nL : L ∉ as) (nl : ∀ q, μ = some q → q.2.1 ∉ as)
    (hn : h'.Ns L (fun y => if y = x then some v else m y)) (hs : Heap.SameBut L h h') : St g L h' ((x, d) :: ρ) μ := by
  obtain ⟨m', F, hr, hm⟩ := S.ex
  have em : m' = m := by
    obtain ⟨o, es, ep, h1, h2, _, h4⟩ := F.ns
    obtain ⟨o', es', ep', h1', h2', _, h4'⟩ := F₀.ns
    rw [h1] at h1'; cases h1'; rw [h2] at h2'; cases h2'
    funext y; rw [← h4, ← h4']
  subst em
  have k := kp_same hs
  have hW : ∀ (bs : List Addr), L ∉ bs → ∀ a ∈ [L], Odd a h ∨ (a ∉ bs ∧ NoTup a h) := fun bs hb a ha => by
    rw [List.mem_singleton] at ha; subst ha; exact .inr ⟨hb, noTup_L F⟩
  refine ⟨_, fr_set F hn hs, fun y d' e => ?_, fun q e => ?_⟩
  · rw [List.lookup_cons] at e
    by_cases hb : y = x
    · subst hb
      rw [beq_self_eq_true] at e; cases e
      exact ⟨v, as, by simp, reads_kp k (hW _ nL) r, nL, nl⟩
    · rw [beq_eq_false_iff_ne.mpr hb] at e
      obtain ⟨v', as', a, b, c, d⟩ := hr y d' e
      exact ⟨v', as', by simp [hb, a], reads_kp k (hW _ c) b, c, d⟩
  · obtain ⟨a, b, c, items, p, r'⟩ := hm q e
    refine ⟨by simp [hμ q e, a], b, c, items, plain_kp k (by simpa using L_ne_list F p) p, rdl_flat_kp k c (fun a ha => ?_) r'⟩
    rw [List.mem_singleton] at ha; subst ha; exact noTup_L F

theorem run_assign {x : Str} {px pos : Pos} {e : Expr} {d : PyData} (S : St g L h ρ μ) (ev : Ev (model prog w) A (envOf nm sc L fa cd) h e (Rf h d) X)
    (k : ∀ h', St g L h' ((x, d) :: ρ) μ → Run (model prog w) A (envOf nm sc L fa cd) Ws rest h' P X)
    (hμ : ∀ q, μ = some q → q.1 ≠ x := by intro q e; first | (cases e; done) | (cases e; dsimp only; decide)) (hk : sc.kind = .function := by rfl) (hl : (envOf nm sc L fa cd).kindOf x = some .local := by rfl)
    (hs : pl e = true := by rfl) : Run (model prog w) A (envOf nm sc L fa cd) Ws (.Assign [.Name x px] e pos :: rest) h P X := by
  refine ⟨fun s Q E e po q x' => ?_⟩; subst e
  refine wpAny_execs_cons (wpAny_Assign_Name (ev.go s _ E Keep.rfl (fun v h1 i k1 r => ?_) x') (pl_swaps hs))
  obtain ⟨m, F, hr, hm⟩ := (S.keep k1).ex
  obtain ⟨as, r, hf⟩ := r
  refine wpAny_storeName_local hl F.ns (fun h' hn hsb => ?_) (by show (sc.kind == .class || (sc.kind == .module && L != mainGlobals)) = false; rw [hk]; rfl)
  have S' : St g L h' ((x, d) :: ρ) μ := by
    refine (S.keep k1).store hμ F r (fun hL => ?_) (fun q e hl => ?_) hn hsb
    · obtain ⟨m0, F0, _⟩ := S.ex
      obtain ⟨o, ho⟩ := L_some F0
      rw [hf L hL] at ho; cases ho
    · obtain ⟨m0, F0, _, hm0⟩ := S.ex
      obtain ⟨_, _, _, items, ⟨n, p⟩, _⟩ := hm0 q e
      rw [hf _ hl] at p; cases p
  exact (k h' S').go _ Q E rfl po (fun fl h2 j kp p => q fl h2 j ((k1.kp.trans ((kp_same hsb).mono fun b hb => by rw [List.mem_singleton] at hb; subst hb; exact .head _)).trans kp) p) (fun y h2 j r => x' y h2 j r)
/-- ... a datum without lists in it -/
theorem run_set {x : Str} {px pos : Pos} {e : Expr} {d : PyData} (S : St g L h ρ μ) (ev : Ev (model prog w) A (envOf nm sc L fa cd) h e (Rd d) X)
    (k : ∀ h', St g L h' ((x, d) :: ρ) μ → Run (model prog w) A (envOf nm sc L fa cd) Ws rest h' P X) (hf : flat d = true := by rfl)
    (hμ : ∀ q, μ = some q → q.1 ≠ x := by intro q e; first | (cases e; done) | (cases e; dsimp only; decide)) (hk : sc.kind = .function := by rfl) (hl : (envOf nm sc L fa cd).kindOf x = some .local := by rfl)
    (hs : pl e = true := by rfl) : Run (model prog w) A (envOf nm sc L fa cd) Ws (.Assign [.Name x px] e pos :: rest) h P X :=
  run_assign S (ev.mono fun _ _ _ r => .of_flat hf r) k hμ hk hl hs
/-- ... a new list that is to be changed -/
theorem run_own {x : Str} {px pos : Pos} {e : Expr} {ds : List PyData} (S : St g L h ρ none) (ev : Ev (model prog w) A (envOf nm sc L fa cd) h e (Rl h ds) X)
    (k : ∀ l h', St g L h' ρ (some (x, l, ds)) → Run (model prog w) A (envOf nm sc L fa cd) (l :: Ws) rest h' P X) (hf : flatL ds = true := by rfl) (hx : ρ.lookup x = none := by rfl)
    (hk : sc.kind = .function := by rfl) (hl : (envOf nm sc L fa cd).kindOf x = some .local := by rfl)
    (hs : pl e = true := by rfl) : Run (model prog w) A (envOf nm sc L fa cd) Ws (.Assign [.Name x px] e pos :: rest) h P X := by
  refine ⟨fun s Q E e po q x' => ?_⟩; subst e
  refine wpAny_execs_cons (wpAny_Assign_Name (ev.go s _ E Keep.rfl (fun v h1 i k1 r => ?_) x') (pl_swaps hs))
  obtain ⟨m, F, hr, hm⟩ := (S.keep k1).ex
  obtain ⟨l, items, rfl, p, r, fresh⟩ := r
  refine wpAny_storeName_local hl F.ns (fun h' hn hsb => ?_) (by show (sc.kind == .class || (sc.kind == .module && L != mainGlobals)) = false; rw [hk]; rfl)
  have kp1 : Kp [L] h1 h' := kp_same hsb
  have S' : St g L h' ρ (some (x, l, ds)) := by
    refine ⟨_, fr_set F hn hsb, fun y d' e => ?_, fun q e => ?_⟩
    · have hy : y ≠ x := fun hb => by subst hb; rw [hx] at e; cases e
      obtain ⟨m0, F0, hr0, _⟩ := S.ex
      obtain ⟨v', as', a, b, c, _⟩ := hr0 y d' e
      have em : m0 = m := by
        obtain ⟨o, es, ep, h1, h2, _, h4⟩ := (F0.after k1).ns
        obtain ⟨o', es', ep', h1', h2', _, h4'⟩ := F.ns
        rw [h1] at h1'; cases h1'; rw [h2] at h2'; cases h2'
        funext y; rw [← h4, ← h4']
      subst em
      refine ⟨v', as', by simp [hy, a], reads_kp kp1 (fun a ha => ?_) (PyProof.Rows.Reads.keeps k1 b), c, fun q e hq => ?_⟩
      · rw [List.mem_singleton] at ha; subst ha; exact .inr ⟨c, noTup_L F⟩
      · cases e
        have : ∃ o, s.heap.get? l = some o := reads_some b l hq
        obtain ⟨o, ho⟩ := this
        rw [fresh] at ho; cases ho
    · cases e
      refine ⟨by simp, ?_, hf, items, plain_kp kp1 (by simpa using L_ne_list F p) p, rdl_flat_kp kp1 hf (fun a ha => ?_) r⟩
      · exact S.frK.none fresh
      · rw [List.mem_singleton] at ha; subst ha; exact noTup_L F
  refine (k l h' S').go _ Q E rfl po (fun fl h2 j kp p' => q fl h2 j ?_ p') (fun y h2 j r => x' y h2 j r)
  intro b o nb eb
  have hbl : b ≠ l := fun e => by subst e; rw [fresh] at eb; cases eb
  have hbL : b ≠ L := fun e => nb (by rw [e]; exact .head _)
  refine kp b o ?_ (kp1 b o (by simpa using hbL) (k1 b o eb))
  intro hb
  cases hb with
  | head => exact nb (.head _)
  | tail _ hb => cases hb with
    | head => exact hbl rfl
    | tail _ hb => exact nb (.tail _ hb)

theorem run_if {test : Expr} {body orelse : List Stmt} {pos : Pos} {c : Bool} (S : St g L h ρ μ) (t : Tr (model prog w) A (envOf nm sc L fa cd) h test c X)
    (k1 : c = true → ∀ h', St g L h' ρ μ → Run (model prog w) A (envOf nm sc L fa cd) Ws body h' (fun fl h2 => match fl with | .next => Run (model prog w) A (envOf nm sc L fa cd) Ws rest h2 P X | fl => P fl h2) X)
    (k2 : c = false → ∀ h', St g L h' ρ μ → Run (model prog w) A (envOf nm sc L fa cd) Ws orelse h' (fun fl h2 => match fl with | .next => Run (model prog w) A (envOf nm sc L fa cd) Ws rest h2 P X | fl => P fl h2) X) :
    Run (model prog w) A (envOf nm sc L fa cd) Ws (.If test body orelse pos :: rest) h P X :=
  run_ifH t (fun e h' kp => k1 e h' (S.keep kp)) (fun e h' kp => k2 e h' (S.keep kp))

theorem run_while {test : Expr} {body : List Stmt} {pos : Pos} (J : Nat → Locs → Mut → Prop) (n : Nat) (S : St g L h ρ μ) (j0 : J n ρ μ)
    (step : ∀ n ρ μ h, J n ρ μ → St g L h ρ μ → ∃ b, Tr (model prog w) A (envOf nm sc L fa cd) h test b X ∧
      (b = true → ∀ h', St g L h' ρ μ → Run (model prog w) A (envOf nm sc L fa cd) Ws body h' (fun fl h2 => match fl with
        | .next | .cont => ∃ m ρ' μ', m < n ∧ J m ρ' μ' ∧ St g L h2 ρ' μ'
        | .brk => Run (model prog w) A (envOf nm sc L fa cd) Ws rest h2 P X
        | .ret v => P (.ret v) h2) X) ∧
      (b = false → ∀ h', St g L h' ρ μ → Run (model prog w) A (envOf nm sc L fa cd) Ws rest h' P X)) :
    Run (model prog w) A (envOf nm sc L fa cd) Ws (.While test body [] pos :: rest) h P X := by
  refine ⟨fun s Q E e po q x => ?_⟩; subst e
  refine wpAny_execs_cons (wpAny_While ?_)
  refine codeAny_whileLoop (I := fun n s' => ∃ h' k ρ μ, s' = { s with heap := h', toks := k } ∧ Kp (L :: Ws) s.heap h' ∧ J n ρ μ ∧ St g L h' ρ μ) (fun n s' hI => ?_) n ⟨s.heap, s.toks, ρ, μ, rfl, Kp.rfl, j0, S⟩
  obtain ⟨h1, k1, ρ1, μ1, rfl, kp1, hJ, S1⟩ := hI
  obtain ⟨b, tr, yes, no⟩ := step n ρ1 μ1 h1 hJ S1
  refine wpAny_mono (tr.seq (s := { s with heap := h1, toks := k1 }) (Q := fun c s' => ∃ h2 k2, c = b ∧ s' = { s with heap := h2, toks := k2 } ∧ Keep h1 h2) (E := E) Keep.rfl (fun c h2 k2 kk r => ⟨h2, k2, r, rfl, kk⟩) (fun y h2 j r => x y h2 j r)) (fun c s' hc => ?_) po
  obtain ⟨h2, k2, r, rfl, kk⟩ := hc
  subst r
  have goOn : ∀ h3, Kp (L :: Ws) s.heap h3 → Run (model prog w) A (envOf nm sc L fa cd) Ws rest h3 P X → ∀ k3, wpAny (model prog w) A (execs rest (envOf nm sc L fa cd)) Q E { s with heap := h3, toks := k3 } := by
    intro h3 kp3 r k3
    exact r.go _ Q E rfl po (fun fl h4 k4 kp4 p => q fl h4 k4 (kp3.trans kp4) p) (fun y h4 k4 r => x y h4 k4 r)
  cases c with
  | true =>
    simp only [if_true]
    refine wpAny_passesOwn po ((yes rfl h2 (S1.keep kk)).go _ _ (E) rfl po (fun fl h3 k3 kp3 p => ?_) (fun y h2 j r => x y h2 j r))
    have kpAll : Kp (L :: Ws) s.heap h3 := (kp1.trans kk.kp).trans kp3
    cases fl with
    | next => obtain ⟨m, ρ', μ', hm, hJ', S'⟩ := p; exact ⟨m, hm, h3, k3, ρ', μ', rfl, kpAll, hJ', S'⟩
    | cont => obtain ⟨m, ρ', μ', hm, hJ', S'⟩ := p; exact ⟨m, hm, h3, k3, ρ', μ', rfl, kpAll, hJ', S'⟩
    | brk => exact goOn h3 kpAll p k3
    | ret v => exact q _ _ _ kpAll p
  | false =>
    simp only [Bool.false_eq_true, if_false]
    exact wpAny_execs_nil (goOn h2 (kp1.trans kk.kp) (no rfl h2 (S1.keep kk)) k2)
end
end Mine

namespace Mine
open PySem PySem.Spec PySem.Calls PyProof.Rows

structure Cx where
  prog : Program
  w : World
  p : Program
  loose : List Str
  mean : ExcName → Option Value
  mg : Str → Option Value
  mb : Str → Option Value
abbrev Cx.T (c : Cx) (h : Heap) : Prop := Top c.p c.loose c.mean c.mg c.mb h
abbrev Cx.M (c : Cx) : Model := model c.prog c.w

/-- room for n more frames -/
structure Rm (A : Around) (n : Nat) : Prop where
  hd : A.handled = none
  dep : A.depth + n < recursionLimit
  un : A.units + 3 * n + 100 < cLine
theorem Rm.deeper {A : Around} {n : Nat} {env : Env} (r : Rm A (n + 1)) : Rm (A.deeper env) n :=
  ⟨r.hd, by have := r.dep; show A.depth + 1 + n < _; (first | lia | omega), by have := r.un; show A.units + 3 + 3 * n + 100 < _; (first | lia | omega)⟩
theorem Rm.less {A : Around} {n m : Nat} (r : Rm A n) (h : m ≤ n) : Rm A m := ⟨r.hd, by have := r.dep; (first | lia | omega), by have := r.un; (first | lia | omega)⟩

def retv : Flow → Value
  | .ret v => v
  | _ => .none

/-- what a call of a def gives -/
structure Fn (c : Cx) (n : Nat) (f : Str) (ds : List PyData) (R : Heap → Value → Heap → Prop) : Prop where
  isDef : ∃ dr ∈ recsOf c.p, dr.name = f
  run : ∀ (A : Around) (h : Heap) (vs : List Value) (a : Addr), c.T h → Rm A n → c.mg f = some (.ref a) → RdL ds vs h → EvT c.M A h (call (.ref a) vs) (R h) NoX
abbrev FnD (c : Cx) (n : Nat) (f : Str) (ds : List PyData) (d : PyData) : Prop := Fn c n f ds fun h => Rf h d
abbrev FnL (c : Cx) (n : Nat) (f : Str) (ds : List PyData) (rs : List PyData) : Prop := Fn c n f ds fun h => Rl h rs

theorem rf_old {d : PyData} : ∀ h0 h1 v h', Keep h0 h1 → Rf h1 d v h' → Rf h0 d v h' := fun _ _ _ _ k r => r.old k
theorem rl_old {ds : List PyData} : ∀ h0 h1 v h', Keep h0 h1 → Rl h1 ds v h' → Rl h0 ds v h' := fun _ _ _ _ k r => r.old k

def zipL : List Str → List PyData → Locs
  | x :: xs, d :: ds => (x, d) :: zipL xs ds
  | _, _ => []
theorem zip_reads {g : Heap} : ∀ {xs : List Str} {ds : List PyData} {vs : List Value}, RdL ds vs g → xs.Nodup → xs.length = ds.length →
    ∀ x d, (zipL xs ds).lookup x = some d → ∃ v as, (xs.zip vs).reverse.lookup x = some v ∧ Reads g v d as
  | [], _, _, _, _, _, x, d, e => by simp [zipL] at e
  | y :: xs, [], _, _, _, hl, x, d, e => by simp at hl
  | y :: xs, d' :: ds, vs, r, hn, hl, x, d, e => by
    obtain ⟨v, vs', rfl, r1, r2⟩ := r.uncons
    rw [List.nodup_cons] at hn
    rw [zipL, List.lookup_cons] at e
    rw [List.zip_cons_cons, List.reverse_cons, List.lookup_append]
    by_cases hb : x = y
    · subst hb
      rw [beq_self_eq_true] at e; cases e
      obtain ⟨as, r1⟩ := r1
      refine ⟨v, as, ?_, r1⟩
      have : (xs.zip vs').reverse.lookup x = none := by
        rw [List.lookup_eq_none_iff]
        intro p hp
        have hp' : p ∈ xs.zip vs' := by simpa using hp
        have := (List.of_mem_zip (a := p.1) (b := p.2) hp').1
        rw [bne_iff_ne]
        intro e; rw [e] at hn; exact hn.1 this
      rw [this]; simp [List.lookup]
    · rw [beq_eq_false_iff_ne.mpr hb] at e
      obtain ⟨v', as, q, r⟩ := zip_reads r2 hn.2 (by simpa using hl) x d e
      exact ⟨v', as, by rw [q]; rfl, r⟩

theorem recs_at {p : Program} {g : Stmt → Option DefRec} (hg : recsOf p = p.main.body.filterMap g) {i : Nat} {st : Stmt} {d : DefRec} (h1 : p.main.body[i]? = some st) (h2 : g st = some d) : d ∈ recsOf p := by
  rw [hg]; exact List.mem_filterMap.mpr ⟨st, List.mem_of_getElem? h1, h2⟩
/-- the def at a place of the top -/
theorem def_at {p q : Program} (hq : recsOf q = recsOf p) {g : Stmt → Option DefRec} (i : Nat) {dn : Str} {dp : Arguments} {db : List Stmt} {dd dr' dt bd ts} {dsc : Scope} {dps : Pos} {f : Str} (h1 : p.main.body[i]? = some (.FunctionDef dn dp db dd dr' dt dsc ts bd dps)) (hn : dn = f) (hg : recsOf p = p.main.body.filterMap g)
    (h2 : g (.FunctionDef dn dp db dd dr' dt dsc ts bd dps) = some ⟨dn, dp, db, dsc, dps⟩) : (⟨dn, dp, db, dsc, dps⟩ : DefRec) ∈ recsOf q ∧ dn = f := ⟨by rw [hq]; exact recs_at hg h1 h2, hn⟩

section
variable {c : Cx} {n : Nat} {f : Str} {ds : List PyData} {R : Heap → Value → Heap → Prop}
theorem fn_core {dn : Str} {dp : Arguments} {db : List Stmt} {dsc : Scope} {dps : Pos} {xs : List Str} (hd : (⟨dn, dp, db, dsc, dps⟩ : DefRec) ∈ recsOf c.p ∧ dn = f)
    (hb : ∀ pm cd doc (vs : List Value), vs.length = ds.length → bindArgs (docDef dn dp db dsc pm cd doc) ⟨vs, []⟩ = pure (xs.zip vs))
    (hlen : xs.length = ds.length) (hnd : xs.Nodup) (hloc : ∀ x ∈ xs, dsc.names.lookup x = some .local)
    (hco : dsc.isCoroutine = false) (hgen : dsc.isGenerator = false) (hk : dsc.kind = .function) (hcell : ∀ x ∈ dsc.names, x.2 ≠ .cell)
    (hR : ∀ h0 h1 v h', Keep h0 h1 → R h1 v h' → R h0 v h')
    (k : ∀ (A : Around) (g h : Heap) (L fa : Addr) (cd : Value), c.T g → Rm A n → St g L h (zipL xs ds) none → Run c.M A (envOf dn dsc L fa cd) [] db h (fun fl h' => R g (retv fl) h') NoX) : Fn c (n + 1) f ds R := by
  obtain ⟨hd, hn⟩ := hd
  refine ⟨⟨_, hd, hn⟩, ?_⟩
  intro A h vs a T rm ha r
  refine ⟨fun s Q E kp q x => ?_⟩
  obtain ⟨a', o, pm, cd, doc, h1, h2, h3, h4⟩ := T.fn ⟨dn, dp, db, dsc, dps⟩ hd
  dsimp only at h1 h3 h4
  rw [hn, ha] at h1; cases h1
  refine wpAny_call (call_plain (by have := rm.dep; (first | lia | omega)) (kp _ _ h2) h3 (T.nolimit.keeps kp) (h4.keeps kp) (hb pm cd doc vs (r.len)) (fun y hy => hloc _ (List.of_mem_zip (a := y.1) (b := y.2) hy).1) (fun h₁ F => ?_) hco hgen hk hcell)
  have S : St s.heap s.heap.objs.size h₁ (zipL xs ds) none := by
    refine ⟨_, F, fun x d e => ?_, fun q e => nomatch e⟩
    obtain ⟨v, as, e', r'⟩ := zip_reads (r.keep kp) hnd hlen x d e
    refine ⟨v, as, e', PyProof.Rows.Reads.keeps F.keep r', fun hL => ?_, fun q e => nomatch e⟩
    obtain ⟨o, ho⟩ := reads_some r' _ hL
    exact absurd (Heap.lt_size ho) (Nat.lt_irrefl _)
  refine (k (A.deeper (envOf dn dsc s.heap.objs.size a cd)) s.heap h₁ _ a cd (T.keeps kp) rm.deeper S).go _ _ _ rfl PassesOwn.leaving (fun fl h' i kp' p => ?_) (fun _ _ _ r => r.elim)
  have kk : Keep s.heap h' := fun b o e => kp' b o (by
    intro hb
    rw [List.mem_singleton] at hb
    rw [hb] at e
    exact absurd (Heap.lt_size e) (Nat.lt_irrefl _)) (F.keep b o e)
  have := q (retv fl) h' i kk (hR _ _ _ _ kp p)
  cases fl <;> exact this
end

theorem lens1 {α : Type} {vs : List α} (h : vs.length = 1) : ∃ a, vs = [a] := by
  match vs, h with
  | [a], _ => exact ⟨a, rfl⟩
theorem lens2 {α : Type} {vs : List α} (h : vs.length = 2) : ∃ a b, vs = [a, b] := by
  match vs, h with
  | [a, b], _ => exact ⟨a, b, rfl⟩
theorem lens3 {α : Type} {vs : List α} (h : vs.length = 3) : ∃ a b c, vs = [a, b, c] := by
  match vs, h with
  | [a, b, c], _ => exact ⟨a, b, c, rfl⟩
section
variable {c : Cx} {n : Nat} {f : Str} {R : Heap → Value → Heap → Prop} {dn : Str} {dp : Arguments} {db : List Stmt} {dsc : Scope} {dps : Pos} {x1 x2 x3 x4 : Str} {d1 d2 d3 d4 : PyData}
theorem fn1 (hd : (⟨dn, dp, db, dsc, dps⟩ : DefRec) ∈ recsOf c.p ∧ dn = f) (hR : ∀ h0 h1 v h', Keep h0 h1 → R h1 v h' → R h0 v h')
    (hb : ∀ pm cd doc (v1 : Value), bindArgs (docDef dn dp db dsc pm cd doc) ⟨[v1], []⟩ = pure [(x1, v1)])
    (k : ∀ (A : Around) (g h : Heap) (L fa : Addr) (cd : Value), c.T g → Rm A n → St g L h [(x1, d1)] none → Run c.M A (envOf dn dsc L fa cd) [] db h (fun fl h' => R g (retv fl) h') NoX)
    (hnd : [x1].Nodup := by decide +kernel) (hloc : ∀ x ∈ [x1], dsc.names.lookup x = some .local := by decide +kernel)
    (hco : dsc.isCoroutine = false := by rfl) (hgen : dsc.isGenerator = false := by rfl) (hk : dsc.kind = .function := by rfl) (hcell : ∀ x ∈ dsc.names, x.2 ≠ .cell := by decide +kernel) : Fn c (n + 1) f [d1] R :=
  fn_core (xs := [x1]) hd (fun pm cd doc vs h => by obtain ⟨v1, rfl⟩ := lens1 h; exact hb pm cd doc v1) rfl hnd hloc hco hgen hk hcell hR k
theorem fn2 (hd : (⟨dn, dp, db, dsc, dps⟩ : DefRec) ∈ recsOf c.p ∧ dn = f) (hR : ∀ h0 h1 v h', Keep h0 h1 → R h1 v h' → R h0 v h')
    (hb : ∀ pm cd doc (v1 v2 : Value), bindArgs (docDef dn dp db dsc pm cd doc) ⟨[v1, v2], []⟩ = pure [(x1, v1), (x2, v2)])
    (k : ∀ (A : Around) (g h : Heap) (L fa : Addr) (cd : Value), c.T g → Rm A n → St g L h [(x1, d1), (x2, d2)] none → Run c.M A (envOf dn dsc L fa cd) [] db h (fun fl h' => R g (retv fl) h') NoX)
    (hnd : [x1, x2].Nodup := by decide +kernel) (hloc : ∀ x ∈ [x1, x2], dsc.names.lookup x = some .local := by decide +kernel)
    (hco : dsc.isCoroutine = false := by rfl) (hgen : dsc.isGenerator = false := by rfl) (hk : dsc.kind = .function := by rfl) (hcell : ∀ x ∈ dsc.names, x.2 ≠ .cell := by decide +kernel) : Fn c (n + 1) f [d1, d2] R :=
  fn_core (xs := [x1, x2]) hd (fun pm cd doc vs h => by obtain ⟨v1, v2, rfl⟩ := lens2 h; exact hb pm cd doc v1 v2) rfl hnd hloc hco hgen hk hcell hR k
theorem fn3 (hd : (⟨dn, dp, db, dsc, dps⟩ : DefRec) ∈ recsOf c.p ∧ dn = f) (hR : ∀ h0 h1 v h', Keep h0 h1 → R h1 v h' → R h0 v h')
    (hb : ∀ pm cd doc (v1 v2 v3 : Value), bindArgs (docDef dn dp db dsc pm cd doc) ⟨[v1, v2, v3], []⟩ = pure [(x1, v1), (x2, v2), (x3, v3)])
    (k : ∀ (A : Around) (g h : Heap) (L fa : Addr) (cd : Value), c.T g → Rm A n → St g L h [(x1, d1), (x2, d2), (x3, d3)] none → Run c.M A (envOf dn dsc L fa cd) [] db h (fun fl h' => R g (retv fl) h') NoX)
    (hnd : [x1, x2, x3].Nodup := by decide +kernel) (hloc : ∀ x ∈ [x1, x2, x3], dsc.names.lookup x = some .local := by decide +kernel)
    (hco : dsc.isCoroutine = false := by rfl) (hgen : dsc.isGenerator = false := by rfl) (hk : dsc.kind = .function := by rfl) (hcell : ∀ x ∈ dsc.names, x.2 ≠ .cell := by decide +kernel) : Fn c (n + 1) f [d1, d2, d3] R :=
  fn_core (xs := [x1, x2, x3]) hd (fun pm cd doc vs h => by obtain ⟨v1, v2, v3, rfl⟩ := lens3 h; exact hb pm cd doc v1 v2 v3) rfl hnd hloc hco hgen hk hcell hR k
end

section
variable {c : Cx} {n : Nat} {A : Around} {nm : Str} {sc : Scope} {L fa : Addr} {cd : Value} {g h : Heap} {ρ : Locs} {μ : Mut} {X : Value → Heap → Prop}
/-- a call of a def by its name -/
theorem ev_call {k : Nat} {f : Str} {p pos : Pos} {e : Expr} {es : List Expr} {ds : List PyData} {R : Heap → Value → Heap → Prop} (S : St g L h ρ μ) (T : c.T g) (rm : Rm A n) (F : Fn c k f ds R) (a : EvL c.M A (envOf nm sc L fa cd) h pos (e :: es) ds X)
    (hkn : k ≤ n := by decide) (hR : ∀ h0 h1 v h', Keep h0 h1 → R h1 v h' → R h0 v h' := by first | exact rf_old | exact rl_old)
    (hk : sc.kind = .function := by rfl) (hx : (envOf nm sc L fa cd).kindOf f = some .globalImplicit := by rfl) (hd : (f == ("__debug__" : Str)) = false := by decide)
    (he : pl e = true := by rfl) :
    Ev c.M A (envOf nm sc L fa cd) h (.Call (.Name f p) (e :: es) [] pos) (R h) X := by
  refine ⟨fun s Q E k q x => ?_⟩
  obtain ⟨m, F0, _⟩ := (S.keep k).ex
  obtain ⟨dr, hdr, hn⟩ := F.isDef
  obtain ⟨a', o, pm, cd', doc, h1, h2, h3, h4⟩ := T.fn dr hdr
  rw [hn] at h1
  refine wpAny_Call_NameR (ld_global_at F0 T.g h1 ?_ hk hx hd)
  refine callWith_def h3 (a.seq k (fun vs h' i k' r => ?_) x) (pl_star he)
  refine ⟨k' _ _ (F0.keep _ _ h2), ?_⟩
  have T' : c.T h' := T.keeps fun b o e => k' _ _ (F0.keep b o e)
  exact (F.run A h' vs a' T' (rm.less hkn) h1 r).seq (s := { s with heap := h', toks := i }) Keep.rfl (fun v h2 j k2 r2 => q v h2 j (Keep.trans k' k2) (hR _ _ _ _ (k.trans k') r2)) (fun _ _ _ r => r.elim)
/-- ... a datum comes back -/
theorem ev_calld {k : Nat} {f : Str} {p pos : Pos} {e : Expr} {es : List Expr} {ds : List PyData} {d : PyData} (S : St g L h ρ μ) (T : c.T g) (rm : Rm A n) (F : FnD c k f ds d) (a : EvL c.M A (envOf nm sc L fa cd) h pos (e :: es) ds X)
    (hkn : k ≤ n := by decide)
    (hk : sc.kind = .function := by rfl) (hx : (envOf nm sc L fa cd).kindOf f = some .globalImplicit := by rfl) (hd : (f == ("__debug__" : Str)) = false := by decide)
    (he : pl e = true := by rfl) :
    Ev c.M A (envOf nm sc L fa cd) h (.Call (.Name f p) (e :: es) [] pos) (Rd d) X := (ev_call S T rm F a hkn rf_old hk hx hd he).mono fun _ _ _ r => r.rd
end
end Mine

namespace Mine
open PySem PySem.Spec PySem.Calls PyProof.Rows

theorem pl_plain {pos : Pos} {env : Env} : ∀ {es : List Expr}, es.all pl = true → (backTo pos (starEach es env)).any (·.1) = false
  | [], _ => rfl
  | x :: es, h => by
    simp only [List.all_cons, Bool.and_eq_true] at h
    rw [pl_star h.1]
    show (false || (backTo pos (starEach es env)).any (·.1)) = false
    rw [pl_plain h.2]; rfl
/-- the names that the text does not bind -/
def bnames : List Str := ["isinstance", "int", "bool", "tuple", "list", "str", "len", "abs", "min", "max", "range", "reversed", "ValueError"]
def Bn (c : Cx) : Prop := ∀ x ∈ bnames, c.mg x = none

section
variable {c : Cx} {A : Around} {nm : Str} {sc : Scope} {L fa : Addr} {cd : Value} {g h : Heap} {ρ : Locs} {μ : Mut} {X : Value → Heap → Prop}
theorem ev_bname {x : Str} {pos : Pos} {v : Value} (S : St g L h ρ μ) (T : c.T g) (B : Bn c) (hx : x ∈ bnames) (hv : bootBuiltins x = some v) (hn : x ≠ "__name__" := by decide)
    (hk : sc.kind = .function := by rfl) (hg : (envOf nm sc L fa cd).kindOf x = some .globalImplicit := by rfl) (hd : (x == ("__debug__" : Str)) = false := by decide) :
    Ev c.M A (envOf nm sc L fa cd) h (.Name x pos) (fun v' _ => v' = v) X :=
  EvT.ofS fun s Q E k q => by
    obtain ⟨m, F, _⟩ := (S.keep k).ex
    exact ld_builtin_at F T.g (B x hx) T.b ((T.builtins x hn).trans hv) (q v s.toks rfl) hk hg hd
theorem ev_gname {x : Str} {pos : Pos} {v : Value} (S : St g L h ρ μ) (T : c.T g) (hv : c.mg x = some v)
    (hk : sc.kind = .function := by rfl) (hg : (envOf nm sc L fa cd).kindOf x = some .globalImplicit := by rfl) (hd : (x == ("__debug__" : Str)) = false := by decide) :
    Ev c.M A (envOf nm sc L fa cd) h (.Name x pos) (fun v' _ => v' = v) X :=
  EvT.ofS fun s Q E k q => by
    obtain ⟨m, F, _⟩ := (S.keep k).ex
    exact ld_global_at F T.g hv (q v s.toks rfl) hk hg hd

/-- a built-in function by its name -/
theorem ev_bcall {x : Str} {id : String} {p pos : Pos} {e : Expr} {es : List Expr} {ds : List PyData} {R : Value → Heap → Prop} (S : St g L h ρ μ) (T : c.T g) (B : Bn c) (hx : x ∈ bnames) (hv : bootBuiltins x = some (.builtin id))
    (a : EvL c.M A (envOf nm sc L fa cd) h pos (e :: es) ds X) (o : ∀ vs h', Keep h h' → RdL ds vs h' → EvT c.M A h' (call (.builtin id) vs) R X) (hn : x ≠ "__name__" := by decide)
    (hk : sc.kind = .function := by rfl) (hg : (envOf nm sc L fa cd).kindOf x = some .globalImplicit := by rfl) (hd : (x == ("__debug__" : Str)) = false := by decide)
    (he : pl e = true := by rfl) (hpl : es.all pl = true := by rfl) :
    Ev c.M A (envOf nm sc L fa cd) h (.Call (.Name x p) (e :: es) [] pos) R X := by
  refine ⟨fun s Q E k q x' => ?_⟩
  refine wpAny_Call_NameR ((ev_bname S T B hx hv hn hk hg hd).seq k (fun v h1 i k1 r => ?_) x')
  subst r
  refine callWith_builtin1 ((a.up (k.trans k1)).seq (s := { s with heap := h1, toks := i }) Keep.rfl (fun vs h2 j k2 r2 => ?_) (fun y h2 j r => x' y h2 j r)) (pl_star he) (pl_plain hpl)
  exact (o vs h2 (k.trans (Keep.trans k1 k2)) r2).seq (s := { s with heap := h2, toks := j }) Keep.rfl (fun v h3 j k3 r3 => q v h3 j (Keep.trans k1 (Keep.trans k2 k3)) r3) (fun y h3 j r => x' y h3 j r)
/-- a built-in class by its name -/
theorem ev_tcall {x : Str} {id : String} {p pos : Pos} {e : Expr} {es : List Expr} {ds : List PyData} {R : Value → Heap → Prop} (S : St g L h ρ μ) (T : c.T g) (B : Bn c) (hx : x ∈ bnames) (hv : bootBuiltins x = some (.type id))
    (a : EvL c.M A (envOf nm sc L fa cd) h pos (e :: es) ds X) (o : ∀ vs h', Keep h h' → RdL ds vs h' → EvT c.M A h' (call (.type id) vs) R X) (hn : x ≠ "__name__" := by decide)
    (hk : sc.kind = .function := by rfl) (hg : (envOf nm sc L fa cd).kindOf x = some .globalImplicit := by rfl) (hd : (x == ("__debug__" : Str)) = false := by decide)
    (he : pl e = true := by rfl) (hpl : es.all pl = true := by rfl) :
    Ev c.M A (envOf nm sc L fa cd) h (.Call (.Name x p) (e :: es) [] pos) R X := by
  refine ⟨fun s Q E k q x' => ?_⟩
  refine wpAny_Call_NameR ((ev_bname S T B hx hv hn hk hg hd).seq k (fun v h1 i k1 r => ?_) x')
  subst r
  refine PyProof.Rows.callWith_type1 ((a.up (k.trans k1)).seq (s := { s with heap := h1, toks := i }) Keep.rfl (fun vs h2 j k2 r2 => ?_) (fun y h2 j r => x' y h2 j r)) (pl_star he) (pl_plain hpl)
  exact (o vs h2 (k.trans (Keep.trans k1 k2)) r2).seq (s := { s with heap := h2, toks := j }) Keep.rfl (fun v h3 j k3 r3 => q v h3 j (Keep.trans k1 (Keep.trans k2 k3)) r3) (fun y h3 j r => x' y h3 j r)
end

section
variable {prog : Program} {w : World} {A : Around} {h : Heap} {X : Value → Heap → Prop}
def isiB : PyData → String → Bool
  | .int _, T => T == "int"
  | .bool _, T => T == "bool" || T == "int"
  | .str _, T => T == "str"
  | .none, _ => false
  | .list _, T => T == "list"
  | .tuple _, T => T == "tuple"
  | .dict _, T => T == "dict"
def isiTs : List String := ["int", "bool", "tuple", "list", "str"]
theorem op_isi {d : PyData} {T : String} {v : Value} (hT : T ∈ isiTs) (r : Rd d v h) : EvT (model prog w) A h (call (.builtin "isinstance") [v, .type T]) (Rd (.bool (isiB d T))) X := by
  refine EvT.of fun s Q E k q => ?_
  have qt : ∀ b, Rd (.bool b) (.bool b) s.heap := fun b => ⟨_, .bool _⟩
  obtain ⟨as, r⟩ := r
  simp only [isiTs, List.mem_cons, List.not_mem_nil, or_false] at hT
  cases r with
  | int i t =>
    rcases hT with rfl | rfl | rfl | rfl | rfl
    · exact IsiPair.int_int (q _ s.heap s.toks Keep.rfl (qt _))
    · exact IsiPair.int_bool (q _ s.heap _ Keep.rfl (qt _))
    · exact IsiPair.int_tuple (q _ s.heap _ Keep.rfl (qt _))
    · exact IsiPair.int_list (q _ s.heap _ Keep.rfl (qt _))
    · exact IsiPair.int_str (q _ s.heap _ Keep.rfl (qt _))
  | bool b =>
    rcases hT with rfl | rfl | rfl | rfl | rfl
    · exact IsiPair.bool_int (q _ s.heap s.toks Keep.rfl (qt _))
    · exact IsiPair.bool_bool (q _ s.heap s.toks Keep.rfl (qt _))
    · exact IsiPair.bool_tuple (q _ s.heap _ Keep.rfl (qt _))
    · exact IsiPair.bool_list (q _ s.heap _ Keep.rfl (qt _))
    · exact IsiPair.bool_str (q _ s.heap _ Keep.rfl (qt _))
  | str x t =>
    rcases hT with rfl | rfl | rfl | rfl | rfl
    · exact IsiPair.str_int (q _ s.heap _ Keep.rfl (qt _))
    · exact IsiPair.str_bool (q _ s.heap _ Keep.rfl (qt _))
    · exact IsiPair.str_tuple (q _ s.heap _ Keep.rfl (qt _))
    · exact IsiPair.str_list (q _ s.heap _ Keep.rfl (qt _))
    · exact IsiPair.str_str (q _ s.heap s.toks Keep.rfl (qt _))
  | none =>
    rcases hT with rfl | rfl | rfl | rfl | rfl
    · exact call_isinstance (isinstance_false_none (by decide +kernel) F.isi_meta_int (by kernel_rfl)) (q _ s.heap _ Keep.rfl (qt _))
    · exact call_isinstance (isinstance_false_none (by decide +kernel) F.isi_meta_bool (by kernel_rfl)) (q _ s.heap _ Keep.rfl (qt _))
    · exact call_isinstance (isinstance_false_none (by decide +kernel) F.isi_meta_tuple (by kernel_rfl)) (q _ s.heap _ Keep.rfl (qt _))
    · exact call_isinstance (isinstance_false_none (by decide +kernel) F.isi_meta_list (by kernel_rfl)) (q _ s.heap _ Keep.rfl (qt _))
    · exact call_isinstance (isinstance_false_none (by decide +kernel) F.isi_meta_str (by kernel_rfl)) (q _ s.heap _ Keep.rfl (qt _))
  | list h1 h2 h3 y =>
    rcases hT with rfl | rfl | rfl | rfl | rfl
    · exact IsiPair.list_int (k _ _ h1) h2 (q _ s.heap _ Keep.rfl (qt _))
    · exact IsiPair.list_bool (k _ _ h1) h2 (q _ s.heap _ Keep.rfl (qt _))
    · exact IsiPair.list_tuple (k _ _ h1) h2 (q _ s.heap _ Keep.rfl (qt _))
    · exact IsiPair.list_list (k _ _ h1) h2 (q _ s.heap s.toks Keep.rfl (qt _))
    · exact IsiPair.list_str (k _ _ h1) h2 (q _ s.heap _ Keep.rfl (qt _))
  | tuple h1 h2 h3 y =>
    rcases hT with rfl | rfl | rfl | rfl | rfl
    · exact IsiPair.tuple_int (k _ _ h1) h2 (q _ s.heap _ Keep.rfl (qt _))
    · exact IsiPair.tuple_bool (k _ _ h1) h2 (q _ s.heap _ Keep.rfl (qt _))
    · exact IsiPair.tuple_tuple (k _ _ h1) h2 (q _ s.heap s.toks Keep.rfl (qt _))
    · exact IsiPair.tuple_list (k _ _ h1) h2 (q _ s.heap _ Keep.rfl (qt _))
    · exact IsiPair.tuple_str (k _ _ h1) h2 (q _ s.heap _ Keep.rfl (qt _))
  | dict h1 h2 h3 y z =>
    rcases hT with rfl | rfl | rfl | rfl | rfl
    · exact IsiPair.dict_int (k _ _ h1) h2 (q _ s.heap _ Keep.rfl (qt _))
    · exact IsiPair.dict_bool (k _ _ h1) h2 (q _ s.heap _ Keep.rfl (qt _))
    · exact IsiPair.dict_tuple (k _ _ h1) h2 (q _ s.heap _ Keep.rfl (qt _))
    · exact IsiPair.dict_list (k _ _ h1) h2 (q _ s.heap _ Keep.rfl (qt _))
    · exact IsiPair.dict_str (k _ _ h1) h2 (q _ s.heap _ Keep.rfl (qt _))
theorem op_len {ds : List PyData} {v : Value} (hn : ds.length < 2 ^ 62) (r : Rd (.list ds) v h ∨ Rd (.tuple ds) v h) : EvT (model prog w) A h (call (.builtin "len") [v]) (Rd (.int ds.length)) X := by
  refine EvT.ofS fun s Q E k q => ?_
  rcases r with r | r
  · obtain ⟨a, items, rfl, il, r⟩ := rd_list r
    have e : items.size = ds.length := by have := r.len; simpa using this
    obtain ⟨o, ho, il⟩ := il
    refine PyProof.Rows.len_list (items := items) ⟨o, k _ _ ho, il⟩ (by rw [e]; (first | lia | omega)) ?_
    rw [e]; exact q _ _ ⟨_, .int _ _⟩
  · obtain ⟨a, items, rfl, il, r⟩ := rd_tup r
    have e : items.size = ds.length := by have := r.len; simpa using this
    obtain ⟨o, ho, il⟩ := il
    refine PyProof.Rows.len_tuple (items := items) ⟨o, k _ _ ho, il⟩ (by rw [e]; (first | lia | omega)) ?_
    rw [e]; exact q _ _ ⟨_, .int _ _⟩
theorem op_max {a b : Int} {v1 v2 : Value} (hh : A.handled = none) (r1 : Rd (.int a) v1 h) (r2 : Rd (.int b) v2 h) : EvT (model prog w) A h (call (.builtin "max") [v1, v2]) (Rd (.int (max a b))) X := by
  obtain ⟨t, rfl⟩ := rd_int r1; obtain ⟨u, rfl⟩ := rd_int r2
  refine EvT.of fun s Q E k q => max_two_ints hh fun h' tk kk => ?_
  by_cases e : b > a
  · rw [if_pos e]; have e' : max a b = b := by (first | lia | omega)
    rw [e'] at q; exact q _ _ _ kk ⟨_, .int _ _⟩
  · rw [if_neg e]; have e' : max a b = a := by (first | lia | omega)
    rw [e'] at q; exact q _ _ _ kk ⟨_, .int _ _⟩
end
end Mine

namespace Mine
open PySem PySem.Spec PySem.Calls PyProof.Rows

section
variable {prog : Program} {w : World} {A : Around} {env : Env} {h : Heap} {X : Value → Heap → Prop}
/-- an item of a tuple, of a list -/
theorem ev_idx {v i : Expr} {pos : Pos} {ds : List PyData} {k : Int} {d : PyData} (ty : Bool) (e1 : Ev (model prog w) A env h v (Rd (if ty then .tuple ds else .list ds)) X) (e2 : Ev (model prog w) A env h i (Rd (.int k)) X)
    (h0 : 0 ≤ k) (hfit : k < 2 ^ 63) (hx : ds[k.toNat]? = some d)
    (hs : pl i = true := by rfl) :
    Ev (model prog w) A env h (.Subscript v i pos) (Rd d) X := by
  refine ⟨fun s Q E k' q x => ?_⟩
  refine Subscript_ (EvT.two e1 e2 rd_mono (v := fun a b => subscriptTail v i a b) (R' := Rd d) (fun v1 v2 h' kk r1 r2 => ?_) k' q x)
  obtain ⟨u, rfl⟩ := rd_int r2
  cases ty with
  | true =>
    obtain ⟨a, items, rfl, ht, r⟩ := rd_tup r1
    obtain ⟨y, hy, ry⟩ := r.at hx
    obtain ⟨o, ho, ht'⟩ := id ht
    refine EvT.ofS fun s' Q' E' k1 q1 => tail_any (T := "tuple") ⟨o, k1 _ _ ho, ht'.1⟩ slot_tuple_getitem.lookup ?_ (pl_sub hs)
    have hj : seqIndex? k items.size = some k.toNat := by
      have : k.toNat < items.size := by
        have := List.getElem?_eq_some_iff.mp hy
        obtain ⟨h1, _⟩ := this
        simpa using h1
      have h1 : ¬ k < 0 := by (first | lia | omega)
      have h2 : k < (items.size : Int) := by (first | lia | omega)
      simp [seqIndex?, h1, h0, h2]
    exact getItem_tuple (items := items) (j := k.toNat) ⟨o, k1 _ _ ho, ht'⟩ (by (first | lia | omega)) hfit hj (by simpa using hy) (q1 _ s'.toks (ry.keep k1))
  | false =>
    obtain ⟨a, items, rfl, ht, r⟩ := rd_list r1
    obtain ⟨y, hy, ry⟩ := r.at hx
    obtain ⟨o, ho, ht'⟩ := id ht
    refine EvT.ofS fun s' Q' E' k1 q1 => tail_any (T := "list") ⟨o, k1 _ _ ho, ht'.1⟩ slot_list_getitem.lookup ?_ (pl_sub hs)
    exact wpAny_getItem_list (items := items) ⟨o, k1 _ _ ho, ht'⟩ h0 hfit (by simpa using hy) (q1 _ s'.toks (ry.keep k1))
theorem ev_tidx {v i : Expr} {pos : Pos} {ds : List PyData} {k : Int} {d : PyData} (e1 : Ev (model prog w) A env h v (Rd (.tuple ds)) X) (e2 : Ev (model prog w) A env h i (Rd (.int k)) X)
    (hx : ds[k.toNat]? = some d := by rfl) (h0 : 0 ≤ k := by decide) (hfit : k < 2 ^ 63 := by decide)
    (hs : pl i = true := by rfl) :
    Ev (model prog w) A env h (.Subscript v i pos) (Rd d) X := ev_idx true e1 e2 h0 hfit hx hs
theorem ev_lidx {v i : Expr} {pos : Pos} {ds : List PyData} {k : Int} {d : PyData} (e1 : Ev (model prog w) A env h v (Rd (.list ds)) X) (e2 : Ev (model prog w) A env h i (Rd (.int k)) X)
    (hx : ds[k.toNat]? = some d) (h0 : 0 ≤ k) (hfit : k < 2 ^ 63)
    (hs : pl i = true := by rfl) :
    Ev (model prog w) A env h (.Subscript v i pos) (Rd d) X := ev_idx false e1 e2 h0 hfit hx hs

theorem ev_div {l r : Expr} {pos : Pos} {a b : Int} (e1 : Ev (model prog w) A env h l (Rd (.int a)) X) (e2 : Ev (model prog w) A env h r (Rd (.int b)) X) (hb : 0 < b) (hs : b < 10 ^ 250) :
    Ev (model prog w) A env h (.BinOp l .FloorDiv r pos) (Rd (.int (a / b))) X := ev_bin e1 e2 fun v1 v2 h' k r1 r2 => by
  obtain ⟨t, rfl⟩ := rd_int r1; obtain ⟨u, rfl⟩ := rd_int r2
  refine EvT.ofS fun _ _ _ _ q => PyProof.Rows.floordiv_int (by (first | lia | omega)) ?_ (.inl (PyProof.noPylong_of_log2 ?_))
  · rw [Int.fdiv_eq_ediv_of_nonneg _ (by (first | lia | omega))]
    exact q _ _ ⟨_, .int _ _⟩
  · have h1 : b.natAbs < 10 ^ 250 := by (first | lia | omega)
    have h2 : (10 : Nat) ^ 250 ≤ 2 ^ 9000 := by decide +kernel
    have h3 : b.natAbs ≠ 0 := by (first | lia | omega)
    exact (Nat.log2_lt h3).mpr (Nat.lt_of_lt_of_le h1 h2)
theorem ev_pow {l r : Expr} {pos : Pos} {a n : Int} (e1 : Ev (model prog w) A env h l (Rd (.int a)) X) (e2 : Ev (model prog w) A env h r (Rd (.int n)) X) (hn : 0 ≤ n) (hn2 : n ≤ 1000000) (ha : a.natAbs < 2 ^ 64) :
    Ev (model prog w) A env h (.BinOp l .Pow r pos) (Rd (.int (a ^ n.toNat))) X := ev_bin e1 e2 fun v1 v2 h' k r1 r2 => by
  obtain ⟨t, rfl⟩ := rd_int r1; obtain ⟨u, rfl⟩ := rd_int r2
  exact EvT.ofS fun _ _ _ _ q => PyProof.Rows.pow_int_small hn hn2 ha (q _ _ ⟨_, .int _ _⟩)

theorem tr_eq {l r : Expr} {pos : Pos} {d1 d2 : PyData} {n : Nat} (rm : Rm A n) (e1 : Ev (model prog w) A env h l (Rd d1) X) (e2 : Ev (model prog w) A env h r (Rd d2) X) (h1 : SeqAt.shaped d1 = true) (h2 : SeqAt.shaped d2 = true)
    (hm : pl r = true := by rfl) : Tr (model prog w) A env h (.Compare l [.Eq] [r] pos) (PyData.eqv d1 d2) X :=
  tr_cmp e1 e2 (fun v1 v2 h' _ r1 r2 => by
    obtain ⟨as, x⟩ := r1; obtain ⟨bs, y⟩ := r2
    exact EvT.ofS fun s _ _ k q => eq_dataH (PyProof.Rows.Reads.keeps k x) (PyProof.Rows.Reads.keeps k y) h1 h2 (by have := rm.un; (first | lia | omega)) (q _ s.toks ⟨_, .bool _⟩)) hm
theorem tr_ne {l r : Expr} {pos : Pos} {d1 d2 : PyData} {n : Nat} (rm : Rm A n) (e1 : Ev (model prog w) A env h l (Rd d1) X) (e2 : Ev (model prog w) A env h r (Rd d2) X) (h1 : SeqAt.shaped d1 = true) (h2 : SeqAt.shaped d2 = true)
    (hm : pl r = true := by rfl) : Tr (model prog w) A env h (.Compare l [.NotEq] [r] pos) (!PyData.eqv d1 d2) X :=
  tr_cmp e1 e2 (fun v1 v2 h' _ r1 r2 => by
    obtain ⟨as, x⟩ := r1; obtain ⟨bs, y⟩ := r2
    exact EvT.ofS fun s _ _ k q => ne_dataH (PyProof.Rows.Reads.keeps k x) (PyProof.Rows.Reads.keeps k y) h1 h2 (by have := rm.un; (first | lia | omega)) (q _ s.toks ⟨_, .bool _⟩)) hm
end

section
variable {c : Cx} {n : Nat} {A : Around} {nm : Str} {sc : Scope} {L fa : Addr} {cd : Value} {g h : Heap} {ρ : Locs} {μ : Mut} {X : Value → Heap → Prop}
theorem ev_isi {T : String} {e : Expr} {p p2 pos : Pos} {d : PyData} (S : St g L h ρ μ) (Tp : c.T g) (B : Bn c) (e1 : Ev c.M A (envOf nm sc L fa cd) h e (Rd d) X) (hx : Str.ofString T ∈ bnames := by decide) (hv : bootBuiltins (Str.ofString T) = some (.type T) := by decide +kernel) (hT : T ∈ isiTs := by decide)
    (hk : sc.kind = .function := by rfl) (hg : (envOf nm sc L fa cd).kindOf (Str.ofString T) = some .globalImplicit := by rfl) (hgi : (envOf nm sc L fa cd).kindOf (Str.ofString "isinstance") = some .globalImplicit := by rfl) (hn : Str.ofString T ≠ "__name__" := by decide) (hd : (Str.ofString T == ("__debug__" : Str)) = false := by decide)
    (he : pl e = true := by rfl) :
    Ev c.M A (envOf nm sc L fa cd) h (.Call (.Name (Str.ofString "isinstance") p) [e, .Name (Str.ofString T) p2] [] pos) (Rd (.bool (isiB d T))) X := by
  refine ⟨fun s Q E k q x' => ?_⟩
  refine wpAny_Call_NameR ((ev_bname (v := .builtin "isinstance") S Tp B (by decide) (by decide +kernel) (by decide) hk hgi (by decide)).seq k (fun v h1 i k1 r => ?_) x')
  subst r
  refine callWith_builtin1 ?_ (pl_star he) rfl
  refine args_cons ((e1.up (k.trans k1)).seq (s := { s with heap := h1, toks := i }) Keep.rfl (fun v h2 j k2 r2 => ?_) (fun y h2 j r => x' y h2 j r)) (pl_star he)
  refine args_cons (((ev_bname (pos := p2) S Tp B hx hv hn hk hg hd).up (k.trans (Keep.trans k1 k2))).seq (s := { s with heap := h2, toks := j }) Keep.rfl (fun v3 h3 j3 k3 r3 => ?_) (fun y h2 j r => x' y h2 j r)) rfl
  subst r3
  refine args_nil ?_
  exact (op_isi hT (r2.keep k3)).seq (s := { s with heap := h3, toks := j3 }) Keep.rfl (fun c h4 j4 k4 r4 => q c h4 j4 (Keep.trans k1 (Keep.trans k2 (Keep.trans k3 k4))) r4) (fun y h3 j r => x' y h3 j r)
end
end Mine

namespace Mine
open PySem PySem.Spec PySem.Calls PyProof.Rows

section
variable {prog : Program} {w : World} {A : Around} {nm : Str} {sc : Scope} {L fa : Addr} {cd : Value} {g h : Heap} {ρ : Locs} {μ : Mut} {X : Value → Heap → Prop} {Ws : List Addr} {P : Flow → Heap → Prop} {rest : List Stmt}

theorem keep_fresh {h h' : Heap} (e : Heap.ExtBut h.objs.size h h') : Keep h h' := fun b o hb => e b o (Nat.ne_of_lt (Heap.lt_size hb)) hb
theorem kp_ext {a : Addr} {h h' : Heap} (e : Heap.ExtBut a h h') : Kp [a] h h' := fun b o n hb => e b o (by simpa using n) hb

theorem st_name {x : Str} {v : Value} {d : PyData} {s : Shared} {Q : Unit → Shared → Prop} {E : Value → Shared → Prop} (S : St g L s.heap ρ μ) (r : Rd d v s.heap) (hf : flat d = true) (hμ : ∀ q, μ = some q → q.1 ≠ x)
    (q : ∀ h' k, Kp [L] s.heap h' → St g L h' ((x, d) :: ρ) μ → Q () { s with heap := h', toks := k })
    (hk : sc.kind = .function) (hl : (envOf nm sc L fa cd).kindOf x = some .local) : wpAny (model prog w) A (storeName (envOf nm sc L fa cd) x v) Q E s := by
  obtain ⟨m, F, hr, hm⟩ := S.ex
  obtain ⟨as, r⟩ := r
  have e := flat_nil hf r
  subst e
  refine wpAny_storeName_local hl F.ns (fun h' hn hsb => ?_) (by show (sc.kind == .class || (sc.kind == .module && L != mainGlobals)) = false; rw [hk]; rfl)
  exact q h' _ (kp_same hsb) (S.store hμ F r List.not_mem_nil (fun _ _ => List.not_mem_nil) hn hsb)

/-- a pair handed to two names -/
theorem assign2 {x y : Str} {px py tp : Pos} {n : Nat} {v : Value} {d1 d2 : PyData} {s : Shared} {Q : Unit → Shared → Prop} {E : Value → Shared → Prop} (hh : A.handled = none) (S : St g L s.heap ρ μ) (r : Rd (.tuple [d1, d2]) v s.heap)
    (h1 : flat d1 = true) (h2 : flat d2 = true) (hx : ∀ q, μ = some q → q.1 ≠ x) (hy : ∀ q, μ = some q → q.1 ≠ y)
    (q : ∀ h' k, Kp [L] s.heap h' → St g L h' ((y, d2) :: (x, d1) :: ρ) μ → Q () { s with heap := h', toks := k })
    (hk : sc.kind = .function) (hlx : (envOf nm sc L fa cd).kindOf x = some .local) (hly : (envOf nm sc L fa cd).kindOf y = some .local) :
    wpAny (model prog w) A (assign (.Tuple [.Name x px, .Name y py] n tp) (envOf nm sc L fa cd) v) Q E s := by
  obtain ⟨a, items, rfl, ht, r⟩ := rd_tup r
  obtain ⟨v1, r', e1, r1, r'⟩ := r.uncons
  obtain ⟨v2, r'', e2, r2, r''⟩ := r'.uncons
  have e3 := r''.unnil
  subst e3; subst e2
  refine wpAny_assign_Tuple hh ht (by rw [← Array.length_toList, e1]; rfl) rfl (fun h' he => ?_)
  have kk := keep_fresh he
  rw [e1]
  refine wpAny_assignInOrder_more (PyProof.Rows.assign_Name (st_name (s := { s with heap := h' }) (S.keep kk) (r1.keep kk) h1 hx (fun h2' k2 kp2 S2 => ?_) hk hlx))
  have r2' : Rd d2 v2 h2' := by
    obtain ⟨as, z⟩ := r2.keep kk
    have e := flat_nil h2 z
    subst e
    obtain ⟨m, F, _⟩ := (S.keep kk).ex
    exact ⟨_, reads_kp kp2 (fun a ha => by rw [List.mem_singleton] at ha; subst ha; exact .inr ⟨List.not_mem_nil, noTup_L F⟩) z⟩
  refine wpAny_assignInOrder_more (PyProof.Rows.assign_Name (st_name (s := { s with heap := h2', toks := k2 }) S2 r2' h2 hy (fun h3 k3 kp3 S3 => ?_) hk hly))
  exact wpAny_assignInOrder_none (q h3 k3 ((kk.kp.trans kp2).trans kp3) S3)
theorem run_unpack2 {x y : Str} {px py tp pos : Pos} {n : Nat} {e : Expr} {d1 d2 : PyData} (hh : A.handled = none) (S : St g L h ρ μ) (ev : Ev (model prog w) A (envOf nm sc L fa cd) h e (Rd (.tuple [d1, d2])) X)
    (k : ∀ h', St g L h' ((y, d2) :: (x, d1) :: ρ) μ → Run (model prog w) A (envOf nm sc L fa cd) Ws rest h' P X) (h1 : flat d1 = true := by rfl) (h2 : flat d2 = true := by rfl)
    (hx : ∀ q, μ = some q → q.1 ≠ x := by intro q e; first | (cases e; done) | (cases e; dsimp only; decide)) (hy : ∀ q, μ = some q → q.1 ≠ y := by intro q e; first | (cases e; done) | (cases e; dsimp only; decide))
    (hk : sc.kind = .function := by rfl) (hlx : (envOf nm sc L fa cd).kindOf x = some .local := by rfl) (hly : (envOf nm sc L fa cd).kindOf y = some .local := by rfl)
    (hs : swapsWithSole [.Tuple [.Name x px, .Name y py] n tp] e pos.line (envOf nm sc L fa cd) = pure false := by rfl) (hw : swappedStores [.Tuple [.Name x px, .Name y py] n tp] e (envOf nm sc L fa cd) = pure none := by rfl) :
    Run (model prog w) A (envOf nm sc L fa cd) Ws (.Assign [.Tuple [.Name x px, .Name y py] n tp] e pos :: rest) h P X := by
  refine ⟨fun s Q E e po q x' => ?_⟩; subst e
  refine wpAny_execs_cons (Assign_Tuple (ev.go s _ E Keep.rfl (fun v h1' i k1 r => ?_) x') hs hw)
  refine assign2 (s := { s with heap := h1', toks := i }) hh (S.keep k1) r h1 h2 hx hy (fun h' k' kp S' => ?_) hk hlx hly
  exact (k h' S').go _ Q E rfl po (fun fl h2 j kp' p => q fl h2 j ((k1.kp.trans (kp.mono fun b hb => by rw [List.mem_singleton] at hb; subst hb; exact .head _)).trans kp') p) (fun y h2 j r => x' y h2 j r)
/-- a triple handed to three names -/
theorem run_unpack3 {x y z : Str} {px py pz tp pos : Pos} {n : Nat} {e : Expr} {d1 d2 d3 : PyData} (hh : A.handled = none) (S : St g L h ρ μ) (ev : Ev (model prog w) A (envOf nm sc L fa cd) h e (Rd (.tuple [d1, d2, d3])) X)
    (k : ∀ h', St g L h' ((z, d3) :: (y, d2) :: (x, d1) :: ρ) μ → Run (model prog w) A (envOf nm sc L fa cd) Ws rest h' P X) (h1 : flat d1 = true := by rfl) (h2 : flat d2 = true := by rfl) (h3 : flat d3 = true := by rfl)
    (hx : ∀ q, μ = some q → q.1 ≠ x := by intro q e; first | (cases e; done) | (cases e; dsimp only; decide)) (hy : ∀ q, μ = some q → q.1 ≠ y := by intro q e; first | (cases e; done) | (cases e; dsimp only; decide))
    (hz : ∀ q, μ = some q → q.1 ≠ z := by intro q e; first | (cases e; done) | (cases e; dsimp only; decide))
    (hk : sc.kind = .function := by rfl) (hlx : (envOf nm sc L fa cd).kindOf x = some .local := by rfl) (hly : (envOf nm sc L fa cd).kindOf y = some .local := by rfl) (hlz : (envOf nm sc L fa cd).kindOf z = some .local := by rfl)
    (hs : swapsWithSole [.Tuple [.Name x px, .Name y py, .Name z pz] n tp] e pos.line (envOf nm sc L fa cd) = pure false := by rfl) (hw : swappedStores [.Tuple [.Name x px, .Name y py, .Name z pz] n tp] e (envOf nm sc L fa cd) = pure none := by rfl) :
    Run (model prog w) A (envOf nm sc L fa cd) Ws (.Assign [.Tuple [.Name x px, .Name y py, .Name z pz] n tp] e pos :: rest) h P X := by
  refine ⟨fun s Q E e po q x' => ?_⟩; subst e
  refine wpAny_execs_cons (Assign_Tuple (ev.go s _ E Keep.rfl (fun v h1' i k1 r => ?_) x') hs hw)
  obtain ⟨a, items, rfl, ht, r⟩ := rd_tup r
  obtain ⟨v1, r', e1, r1, r'⟩ := r.uncons
  obtain ⟨v2, r'', e2, r2, r''⟩ := r'.uncons
  obtain ⟨v3, r3', e3, r3, r3'⟩ := r''.uncons
  have e4 := r3'.unnil
  subst e4; subst e3; subst e2
  refine wpAny_assign_Tuple (s := { s with heap := h1', toks := i }) hh ht (by rw [← Array.length_toList, e1]; rfl) rfl (fun h' he => ?_)
  have kk := keep_fresh he
  rw [e1]
  have S1 := (S.keep k1).keep kk
  have stab : ∀ {d : PyData} {v : Value} {ha hb : Heap} {ρ' : Locs}, flat d = true → St g L ha ρ' μ → Kp [L] ha hb → Rd d v ha → Rd d v hb := by
    intro d v ha hb ρ' hf Sa kp r
    obtain ⟨as, z⟩ := r
    have e := flat_nil hf z
    subst e
    obtain ⟨m, F, _⟩ := Sa.ex
    exact ⟨_, reads_kp kp (fun a ha => by rw [List.mem_singleton] at ha; subst ha; exact .inr ⟨List.not_mem_nil, noTup_L F⟩) z⟩
  refine wpAny_assignInOrder_more (PyProof.Rows.assign_Name (st_name (s := { s with heap := h', toks := i }) S1 (r1.keep kk) h1 hx (fun h2' k2 kp2 S2 => ?_) hk hlx))
  refine wpAny_assignInOrder_more (PyProof.Rows.assign_Name (st_name (s := { s with heap := h2', toks := k2 }) S2 (stab h2 S1 kp2 (r2.keep kk)) h2 hy (fun h3' k3 kp3 S3 => ?_) hk hly))
  refine wpAny_assignInOrder_more (PyProof.Rows.assign_Name (st_name (s := { s with heap := h3', toks := k3 }) S3 (stab h3 S2 kp3 (stab h3 S1 kp2 (r3.keep kk))) h3 hz (fun h4 k4 kp4 S4 => ?_) hk hlz))
  refine wpAny_assignInOrder_none ?_
  have kpA : Kp (L :: Ws) s.heap h4 := (k1.kp.trans (((kk.kp.trans kp2).trans kp3).trans kp4 |>.mono fun b hb => by rw [List.mem_singleton] at hb; subst hb; exact .head _))
  exact (k h4 S4).go _ Q E rfl po (fun fl h2 j kp' p => q fl h2 j (kpA.trans kp') p) (fun y h2 j r => x' y h2 j r)
/-- x, y = e1, e2: the stores go from behind -/
theorem run_swap2 {x y : Str} {px py tp pos vp : Pos} {n n' : Nat} {es : List Expr} {d1 d2 : PyData} (hh : A.handled = none) (S : St g L h ρ μ) (ev : EvL (model prog w) A (envOf nm sc L fa cd) h vp es [d1, d2] X)
    (k : ∀ h', St g L h' ((x, d1) :: (y, d2) :: ρ) μ → Run (model prog w) A (envOf nm sc L fa cd) Ws rest h' P X) (h1 : flat d1 = true := by rfl) (h2 : flat d2 = true := by rfl)
    (hx : ∀ q, μ = some q → q.1 ≠ x := by intro q e; first | (cases e; done) | (cases e; dsimp only; decide)) (hy : ∀ q, μ = some q → q.1 ≠ y := by intro q e; first | (cases e; done) | (cases e; dsimp only; decide))
    (hk : sc.kind = .function := by rfl) (hlx : (envOf nm sc L fa cd).kindOf x = some .local := by rfl) (hly : (envOf nm sc L fa cd).kindOf y = some .local := by rfl)
    (hs : swapsWithSole [.Tuple [.Name x px, .Name y py] n tp] (.Tuple es n' vp) pos.line (envOf nm sc L fa cd) = pure false := by rfl) (hw : swappedStores [.Tuple [.Name x px, .Name y py] n tp] (.Tuple es n' vp) (envOf nm sc L fa cd) = pure (some [x, y]) := by rfl) :
    Run (model prog w) A (envOf nm sc L fa cd) Ws (.Assign [.Tuple [.Name x px, .Name y py] n tp] (.Tuple es n' vp) pos :: rest) h P X := by
  refine ⟨fun s Q E e po q x' => ?_⟩; subst e
  refine wpAny_execs_cons (Assign_Tuple_swapped (names := [x, y]) ((ev_tup ev).go s _ E Keep.rfl (fun v h1' i k1 r => ?_) x') hs hw)
  obtain ⟨a, items, rfl, ht, r⟩ := rd_tup r
  obtain ⟨v1, r', e1, r1, r'⟩ := r.uncons
  obtain ⟨v2, r'', e2, r2, r''⟩ := r'.uncons
  have e3 := r''.unnil
  subst e3; subst e2
  have hsz : ([x, y] : List Str).length = items.size := by rw [← Array.length_toList, e1]; rfl
  rw [hsz]
  refine wpAny_unpackItems_tuple (s := { s with heap := h1', toks := i }) hh ht (fun h' he => ?_)
  have kk := keep_fresh he
  rw [e1]
  refine wpAny_assignInOrder_more (wpAny_bindName (st_name (s := { s with heap := h', toks := i }) ((S.keep k1).keep kk) (r2.keep kk) h2 hy (fun h2' k2 kp2 S2 => ?_) hk hly))
  have r1' : Rd d1 v1 h2' := by
    obtain ⟨as, z⟩ := r1.keep kk
    have e := flat_nil h1 z
    subst e
    obtain ⟨m, F, _⟩ := ((S.keep k1).keep kk).ex
    exact ⟨_, reads_kp kp2 (fun a ha => by rw [List.mem_singleton] at ha; subst ha; exact .inr ⟨List.not_mem_nil, noTup_L F⟩) z⟩
  refine wpAny_assignInOrder_more (wpAny_bindName (st_name (s := { s with heap := h2', toks := k2 }) S2 r1' h1 hx (fun h3 k3 kp3 S3 => ?_) hk hlx))
  refine wpAny_assignInOrder_none ?_
  have kpA : Kp (L :: Ws) s.heap h3 := (k1.kp.trans ((kk.kp.trans kp2).trans kp3 |>.mono fun b hb => by rw [List.mem_singleton] at hb; subst hb; exact .head _))
  exact (k h3 S3).go _ Q E rfl po (fun fl h2 j kp' p => q fl h2 j (kpA.trans kp') p) (fun y h2 j r => x' y h2 j r)
end

/-- an iterator that is at its i-th thing -/
structure Itr (prog : Program) (w : World) (A : Around) (W : List Addr) (it : Addr) (ds : List PyData) (I : Nat → Heap → Prop) : Prop where
  item : ∀ {i d} {s : Shared} {Q : Option Value → Shared → Prop} {E : Value → Shared → Prop}, ds[i]? = some d → I i s.heap →
    (∀ v h' k, I (i + 1) h' → Kp [it] s.heap h' → Rd d v h' → Q (some v) { s with heap := h', toks := k }) → wpAny (model prog w) A (pyNext (.ref it)) Q E s
  stop : ∀ {s : Shared} {Q : Option Value → Shared → Prop} {E : Value → Shared → Prop}, I ds.length s.heap →
    (∀ h' k, Kp [it] s.heap h' → Q none { s with heap := h', toks := k }) → wpAny (model prog w) A (pyNext (.ref it)) Q E s
  stay : ∀ {i h h'}, I i h → Kp W h h' → I i h'
  odd : ∀ {i h}, I i h → Odd it h ∧ ∃ o, h.get? it = some o
  go : ∀ {i} {s : Shared} {elts x1 pos T} {Q : Unit → Shared → Prop} {E : Value → Shared → Prop}, I i s.heap → Q () s → wpAny (model prog w) A (letOwnedTupleGo (.Tuple elts x1 pos) (.ref it) (.ref T)) Q E s
/-- what a for goes over -/
def Iter (prog : Program) (w : World) (A : Around) (env : Env) (W : List Addr) (h : Heap) (e : Expr) (ds : List PyData) (X : Value → Heap → Prop) : Prop :=
  ∀ (s : Shared) (Q : Value → Shared → Prop) (E : Value → Shared → Prop), Keep h s.heap →
    (∀ it I h' k, Keep s.heap h' → Itr prog w A W it ds I → I 0 h' → s.heap.get? it = none → Q (.ref it) { s with heap := h', toks := k }) →
    (∀ x h' k, X x h' → E x { s with heap := h', toks := k }) →
    wpAny (model prog w) A (eval e env) (fun x s₁ => wpAny (model prog w) A (pyIter x) Q E s₁) E s

section
variable {prog : Program} {w : World} {A : Around} {nm : Str} {sc : Scope} {L fa : Addr} {cd : Value} {g h : Heap} {ρ : Locs} {μ : Mut} {X : Value → Heap → Prop} {Ws : List Addr} {P : Flow → Heap → Prop} {rest : List Stmt}

/-- the loop, whatever the target -/
theorem run_forG {target : Expr} {iter : Expr} {body : List Stmt} {pos : Pos} {ds : List PyData} (J : Nat → Locs → Mut → Prop) (S : St g L h ρ μ) (it : Iter prog w A (envOf nm sc L fa cd) (L :: Ws) h iter ds X) (j0 : J 0 ρ μ)
    (hold : ∀ b ∈ L :: Ws, ∃ o, h.get? b = some o)
    (asg : ∀ {i d ρ μ} {s : Shared} {Q : Unit → Shared → Prop} {E : Value → Shared → Prop} {it' : Addr} {I : Nat → Heap → Prop} {v : Value}, ds[i]? = some d → J i ρ μ → St g L s.heap ρ μ → Rd d v s.heap → Itr prog w A (L :: Ws) it' ds I → I (i + 1) s.heap →
      (∀ h' k, Kp [L] s.heap h' → (Run (model prog w) A (envOf nm sc L fa cd) Ws body h' (fun fl h2 => match fl with
        | .next | .cont => ∃ ρ' μ', J (i + 1) ρ' μ' ∧ St g L h2 ρ' μ'
        | .brk => Run (model prog w) A (envOf nm sc L fa cd) Ws rest h2 P X
        | .ret v => P (.ret v) h2) X) → Q () { s with heap := h', toks := k }) →
      wpAny (model prog w) A (letOwnedTupleGo target (.ref it') v) (fun _ s' => wpAny (model prog w) A (assign target (envOf nm sc L fa cd) v) Q E s') E s)
    (fin : ∀ ρ μ h, J ds.length ρ μ → St g L h ρ μ → Run (model prog w) A (envOf nm sc L fa cd) Ws rest h P X)
    (hs : pl iter = true := by rfl) :
    Run (model prog w) A (envOf nm sc L fa cd) Ws (.For target iter body [] pos :: rest) h P X := by
  refine ⟨fun s Q E e po q x => ?_⟩; subst e
  refine wpAny_execs_cons (wpAny_For (it s _ E Keep.rfl (fun it' I h1 k1 kk hit hI hnew => ?_) x) (pl_fold hs))
  have hitW : ∀ b ∈ L :: Ws, b ≠ it' := fun b hb e => by
    obtain ⟨o, ho⟩ := hold b hb
    subst e; rw [hnew] at ho; cases ho
  have hg : g.get? it' = none := S.frK.none hnew
  -- what changes at the iterator alone was not there before
  have goOn : ∀ h3, Kp (it' :: L :: Ws) s.heap h3 → Run (model prog w) A (envOf nm sc L fa cd) Ws rest h3 P X → ∀ k3, wpAny (model prog w) A (execs rest (envOf nm sc L fa cd)) Q E { s with heap := h3, toks := k3 } := by
    intro h3 kp3 r k3
    refine r.go _ Q E rfl po (fun fl h4 k4 kp4 p => q fl h4 k4 ?_ p) (fun y h4 k4 r => x y h4 k4 r)
    intro b o nb eb
    refine kp4 b o nb (kp3 b o (fun hb => ?_) eb)
    cases hb with
    | head => rw [hnew] at eb; cases eb
    | tail _ hb => exact nb hb
  refine codeAny_forLoop_any (I := fun n s' => ∃ i h' k ρ μ, n = ds.length - i ∧ i ≤ ds.length ∧ s' = { s with heap := h', toks := k } ∧ Kp (it' :: L :: Ws) s.heap h' ∧ I i h' ∧ J i ρ μ ∧ St g L h' ρ μ) (fun n s' hI' => ?_) ds.length
    ⟨0, h1, k1, ρ, μ, rfl, Nat.zero_le _, rfl, kk.kp, hI, j0, S.keep kk⟩
  obtain ⟨i, h2, k2, ρ2, μ2, rfl, hi, rfl, kp2, hI2, hJ2, S2⟩ := hI'
  have kpIt : ∀ {ha hb : Heap}, Kp (it' :: L :: Ws) s.heap ha → Kp [it'] ha hb → Kp (it' :: L :: Ws) s.heap hb := fun k1 k2 => k1.trans (k2.mono fun b hb => by rw [List.mem_singleton] at hb; subst hb; exact .head _)
  by_cases hlt : i < ds.length
  · have hd : ds[i]? = some ds[i] := List.getElem?_eq_getElem hlt
    refine hit.item (s := { s with heap := h2, toks := k2 }) hd hI2 (fun v h3 k3 hI3 kp3 r3 => ?_)
    have S3 : St g L h3 ρ2 μ2 := S2.odd (hit.odd hI2).1 (hit.odd hI2).2 hg kp3
    refine wpAny_mono (asg (s := { s with heap := h3, toks := k3 }) hd hJ2 S3 r3 hit hI3 (Q := fun _ s' => ∃ h4 k4, s' = { s with heap := h4, toks := k4 } ∧ Kp [L] h3 h4 ∧ Run (model prog w) A (envOf nm sc L fa cd) Ws body h4 (fun fl h2 => match fl with
        | .next | .cont => ∃ ρ' μ', J (i + 1) ρ' μ' ∧ St g L h2 ρ' μ'
        | .brk => Run (model prog w) A (envOf nm sc L fa cd) Ws rest h2 P X
        | .ret v => P (.ret v) h2) X) (E := E) (fun h4 k4 kp4 R4 => ⟨h4, k4, rfl, kp4, R4⟩)) (fun _ s' hs' => wpAny_mono hs' (fun _ s'' hq => ?_) po) po
    obtain ⟨h4, k4, rfl, kp4, R4⟩ := hq
    have hI4 : I (i + 1) h4 := hit.stay hI3 (kp4.mono fun b hb => by rw [List.mem_singleton] at hb; subst hb; exact .head _)
    have kpA : Kp (it' :: L :: Ws) s.heap h4 := (kpIt kp2 kp3).trans (kp4.mono fun b hb => by rw [List.mem_singleton] at hb; subst hb; exact .tail _ (.head _))
    refine wpAny_passesOwn po (R4.go _ _ (E) rfl po (fun fl h5 k5 kp5 p => ?_) (fun y h2 j r => x y h2 j r))
    have kpB : Kp (it' :: L :: Ws) s.heap h5 := kpA.trans (kp5.mono fun b hb => .tail _ hb)
    have kpC : Kp (L :: Ws) s.heap h5 := fun b o nb eb => kpB b o (fun hb => by
      cases hb with
      | head => rw [hnew] at eb; cases eb
      | tail _ hb => exact nb hb) eb
    cases fl with
    | next => obtain ⟨ρ', μ', hJ', S'⟩ := p; exact ⟨ds.length - (i + 1), by (first | lia | omega), i + 1, h5, k5, ρ', μ', rfl, by (first | lia | omega), rfl, kpB, hit.stay hI4 kp5, hJ', S'⟩
    | cont => obtain ⟨ρ', μ', hJ', S'⟩ := p; exact ⟨ds.length - (i + 1), by (first | lia | omega), i + 1, h5, k5, ρ', μ', rfl, by (first | lia | omega), rfl, kpB, hit.stay hI4 kp5, hJ', S'⟩
    | brk => exact goOn h5 kpB p k5
    | ret v => exact q _ _ _ kpC p
  · have e : i = ds.length := by (first | lia | omega)
    subst e
    refine hit.stop (s := { s with heap := h2, toks := k2 }) hI2 (fun h3 k3 kp3 => ?_)
    have S3 : St g L h3 ρ2 μ2 := S2.odd (hit.odd hI2).1 (hit.odd hI2).2 hg kp3
    exact wpAny_execs_nil (goOn h3 (kpIt kp2 kp3) (fin ρ2 μ2 h3 hJ2 S3) k3)

/-- for x in .. -/
theorem run_for {x : Str} {px : Pos} {iter : Expr} {body : List Stmt} {pos : Pos} {ds : List PyData} (J : Nat → Locs → Mut → Prop) (S : St g L h ρ μ) (it : Iter prog w A (envOf nm sc L fa cd) (L :: Ws) h iter ds X) (j0 : J 0 ρ μ)
    (hold : ∀ b ∈ L :: Ws, ∃ o, h.get? b = some o)
    (step : ∀ i d ρ μ h, ds[i]? = some d → J i ρ μ → St g L h ((x, d) :: ρ) μ → Run (model prog w) A (envOf nm sc L fa cd) Ws body h (fun fl h2 => match fl with
        | .next | .cont => ∃ ρ' μ', J (i + 1) ρ' μ' ∧ St g L h2 ρ' μ'
        | .brk => Run (model prog w) A (envOf nm sc L fa cd) Ws rest h2 P X
        | .ret v => P (.ret v) h2) X)
    (fin : ∀ ρ μ h, J ds.length ρ μ → St g L h ρ μ → Run (model prog w) A (envOf nm sc L fa cd) Ws rest h P X)
    (hf : ∀ d ∈ ds, flat d = true) (hμ : ∀ i ρ μ, J i ρ μ → ∀ q, μ = some q → q.1 ≠ x)
    (hs : pl iter = true := by rfl) (hk : sc.kind = .function := by rfl) (hl : (envOf nm sc L fa cd).kindOf x = some .local := by rfl) :
    Run (model prog w) A (envOf nm sc L fa cd) Ws (.For (.Name x px) iter body [] pos :: rest) h P X := by
  refine run_forG J S it j0 hold ?_ fin hs
  intro i d ρ μ s Q E it' I v hd hJ S r hit hI q
  refine wpAny_of_eq (a := ()) rfl ?_
  refine PyProof.Rows.assign_Name (st_name S r (hf d (List.mem_of_getElem? hd)) (hμ i ρ μ hJ) (fun h' k kp S' => q h' k kp (step i d ρ μ h' hd hJ S')) hk hl)
/-- for x, y in .. -/
theorem run_for2 {x y : Str} {px py tp : Pos} {n : Nat} {iter : Expr} {body : List Stmt} {pos : Pos} {ds : List PyData} (hh : A.handled = none) (J : Nat → Locs → Mut → Prop) (S : St g L h ρ μ) (it : Iter prog w A (envOf nm sc L fa cd) (L :: Ws) h iter ds X) (j0 : J 0 ρ μ)
    (hold : ∀ b ∈ L :: Ws, ∃ o, h.get? b = some o)
    (step : ∀ i d1 d2 ρ μ h, ds[i]? = some (.tuple [d1, d2]) → J i ρ μ → St g L h ((y, d2) :: (x, d1) :: ρ) μ → Run (model prog w) A (envOf nm sc L fa cd) Ws body h (fun fl h2 => match fl with
        | .next | .cont => ∃ ρ' μ', J (i + 1) ρ' μ' ∧ St g L h2 ρ' μ'
        | .brk => Run (model prog w) A (envOf nm sc L fa cd) Ws rest h2 P X
        | .ret v => P (.ret v) h2) X)
    (fin : ∀ ρ μ h, J ds.length ρ μ → St g L h ρ μ → Run (model prog w) A (envOf nm sc L fa cd) Ws rest h P X)
    (hf : ∀ d ∈ ds, ∃ d1 d2, d = .tuple [d1, d2] ∧ flat d1 = true ∧ flat d2 = true) (hx : ∀ i ρ μ, J i ρ μ → ∀ q, μ = some q → q.1 ≠ x ∧ q.1 ≠ y)
    (hs : pl iter = true := by rfl) (hk : sc.kind = .function := by rfl) (hlx : (envOf nm sc L fa cd).kindOf x = some .local := by rfl) (hly : (envOf nm sc L fa cd).kindOf y = some .local := by rfl) :
    Run (model prog w) A (envOf nm sc L fa cd) Ws (.For (.Tuple [.Name x px, .Name y py] n tp) iter body [] pos :: rest) h P X := by
  refine run_forG J S it j0 hold ?_ fin hs
  intro i d ρ μ s Q E it' I v hd hJ S r hit hI q
  obtain ⟨d1, d2, rfl, h1, h2⟩ := hf d (List.mem_of_getElem? hd)
  obtain ⟨a, items, rfl, _⟩ := rd_tup r
  refine hit.go hI ?_
  exact assign2 hh S r h1 h2 (fun q e => (hx i ρ μ hJ q e).1) (fun q e => (hx i ρ μ hJ q e).2) (fun h' k kp S' => q h' k kp (step i d1 d2 ρ μ h' hd hJ S')) hk hlx hly
end
end Mine

namespace Mine
open PySem PySem.Spec PySem.Calls PyProof.Rows

theorem flatL_append {ds es : List PyData} (h : flatL ds = true) (h' : flatL es = true) : flatL (ds ++ es) = true := by
  induction ds with
  | nil => exact h'
  | cons a r ih =>
    simp only [flatL, Bool.and_eq_true] at h
    simp only [List.cons_append, flatL, Bool.and_eq_true]
    exact ⟨h.1, ih h.2⟩
theorem flatL_snoc {ds : List PyData} {d : PyData} (h : flatL ds = true) (h' : flat d = true) : flatL (ds ++ [d]) = true := flatL_append h (by simp [flatL, h'])
/-- a list that is not written to by the loop -/
def SrcL (W : List Addr) (ds : List PyData) (v : Value) (h : Heap) : Prop := ∃ l items, v = .ref l ∧ h.IsList l items ∧ l ∉ W ∧ ∀ h', Kp W h h' → RdL ds items.toList h'
section
variable {g h : Heap} {L : Addr} {ρ : Locs} {μ : Mut} {Ws : List Addr}
/-- the places that may be written are the frame and its own list -/
def Wok (μ : Mut) (Ws : List Addr) : Prop := ∀ a ∈ Ws, ∃ q, μ = some q ∧ q.2.1 = a
theorem wok_nil : Wok μ [] := fun _ h => nomatch h
theorem w_noTup (S : St g L h ρ μ) (hW : Wok μ Ws) : ∀ a ∈ L :: Ws, NoTup a h ∧ ∃ o, h.get? a = some o := by
  obtain ⟨m, F, _, hm⟩ := S.ex
  intro a ha
  cases ha with
  | head => exact ⟨noTup_L F, L_some F⟩
  | tail _ ha =>
    obtain ⟨q, e, rfl⟩ := hW a ha
    obtain ⟨_, _, _, items, p, _⟩ := hm q e
    exact ⟨noTup_list p, let ⟨_, p⟩ := p; ⟨_, p⟩⟩
theorem w_hold (S : St g L h ρ μ) (hW : Wok μ Ws) : ∀ b ∈ L :: Ws, ∃ o, h.get? b = some o := fun b hb => (w_noTup S hW b hb).2
end

theorem listIter_kp {W : List Addr} {h h' : Heap} {it l : Addr} {i : Nat} (k : Kp W h h') (n : it ∉ W) (x : h.IsListIter it l i) : h'.IsListIter it l i := let ⟨o, ho, r⟩ := x; ⟨o, k _ _ n ho, r⟩
theorem isList_kp {W : List Addr} {h h' : Heap} {l : Addr} {items} (k : Kp W h h') (n : l ∉ W) (x : h.IsList l items) : h'.IsList l items := let ⟨o, ho, r⟩ := x; ⟨o, k _ _ n ho, r⟩
theorem size_none (h : Heap) : h.get? h.objs.size = none := by
  cases hq : h.get? h.objs.size with
  | none => rfl
  | some o => exact absurd (Heap.lt_size hq) (Nat.lt_irrefl _)
theorem kp_push {W : List Addr} {h h' : Heap} {o : Obj} (k : Kp (h.objs.size :: W) (h.push o) h') : Kp W h h' := fun b o' n e => k b o' (fun hb => by
  cases hb with
  | head => rw [size_none] at e; cases e
  | tail _ hb => exact n hb) (Heap.get?_push_of_some _ e)

section
variable {prog : Program} {w : World} {A : Around} {env : Env} {W : List Addr} {h : Heap} {X : Value → Heap → Prop}

theorem odd_fields {h : Heap} {a : Addr} {o : Obj} {fs : Array Value} (ho : h.get? a = some o) (hd : o.data = .fields fs) : Odd a h ∧ ∃ o, h.get? a = some o :=
  ⟨fun o' e => by rw [ho] at e; cases e; rw [hd]; exact ⟨(fun _ _ e => by cases e), (fun _ _ e => by cases e)⟩, o, ho⟩

theorem iter_list {e : Expr} {ds : List PyData} (hh : A.handled = none) (ev : Ev (model prog w) A env h e (SrcL W ds) X) (hold : ∀ b ∈ W, ∃ o, h.get? b = some o) : Iter prog w A env W h e ds X := by
  intro s Q E k q x
  refine ev.go s _ E k (fun v h1 i k1 r => ?_) x
  obtain ⟨l, items, rfl, hl, hlW, st⟩ := r
  refine wpAny_pyIter_list (s := { s with heap := h1, toks := i }) hl ?_
  have hitW : h1.objs.size ∉ W := fun hm => by
    obtain ⟨o, ho⟩ := hold _ hm
    have := k1 _ _ (k _ _ ho)
    rw [size_none] at this; cases this
  have hlit : l ≠ h1.objs.size := fun e => by
    obtain ⟨o, ho, _⟩ := hl
    rw [e, size_none] at ho; cases ho
  have hlen : items.size = ds.length := by
    have := (st h1 Kp.rfl).len
    simpa using this
  refine q h1.objs.size (fun i h' => h'.IsListIter h1.objs.size l i ∧ h'.IsList l items ∧ ∀ h'', Kp (h1.objs.size :: W) h' h'' → RdL ds items.toList h'') _ _ (Keep.push k1 _) ?_ ⟨⟨_, Heap.get?_push_size _ rfl, rfl, rfl⟩, hl.push _, fun h'' kp => st h'' (kp_push kp)⟩ ?_
  · refine ⟨?_, ?_, ?_, ?_, ?_⟩
    · intro i d s' Q' E' hd hI q'
      obtain ⟨h1', h2', h3'⟩ := hI
      obtain ⟨v, hv, _⟩ := (h3' s'.heap Kp.rfl).at hd
      refine wpAny_pyNext_list_item h1' h2' (x := v) (by simpa using hv) (fun h'' hit'' hsb => ?_)
      have kp := kp_same hsb
      have r'' : RdL ds items.toList h'' := h3' h'' (kp.mono fun b hb => by rw [List.mem_singleton] at hb; subst hb; exact .head _)
      obtain ⟨v', hv', rv⟩ := r''.at hd
      rw [hv] at hv'; cases hv'
      exact q' v h'' s'.toks ⟨hit'', isList_kp kp (by simpa using hlit) h2', fun h3 kp3 => h3' h3 ((kp.mono fun b hb => by rw [List.mem_singleton] at hb; subst hb; exact .head _).trans kp3)⟩ kp rv
    · intro s' Q' E' hI q'
      obtain ⟨h1', h2', h3'⟩ := hI
      refine wpAny_pyNext_list_end hh h1' h2' (by simp [hlen]) (fun h'' he => q' h'' s'.toks (kp_ext he))
    · intro i ha hb hI kp
      obtain ⟨h1', h2', h3'⟩ := hI
      exact ⟨listIter_kp kp hitW h1', isList_kp kp hlW h2', fun h3 kp3 => h3' h3 ((kp.mono fun b hb => .tail _ hb).trans kp3)⟩
    · intro i ha hI
      obtain ⟨⟨o, ho, hc, hd⟩, _⟩ := hI
      exact odd_fields ho hd
    · intro i s' elts x1 pos T Q' E' hI q'
      exact wpAny_letOwnedTupleGo_listiter hI.1 q'
  · exact k1.none (size_none h1)

/-- the signs of a text -/
def signsD (x : Str) : List PyData := x.cps.toList.map fun c => PyData.str ⟨#[c]⟩
theorem iter_str {e : Expr} {x : Str} (hh : A.handled = none) (ev : Ev (model prog w) A env h e (Rd (.str x)) X) (hold : ∀ b ∈ W, ∃ o, h.get? b = some o) : Iter prog w A env W h e (signsD x) X := by
  intro s Q E k q x'
  refine ev.go s _ E k (fun v h1 i k1 r => ?_) x'
  obtain ⟨t, rfl⟩ := rd_str r
  have hitW : h1.objs.size ∉ W := fun hm => by
    obtain ⟨o, ho⟩ := hold _ hm
    have := k1 _ _ (k _ _ ho)
    rw [size_none] at this; cases this
  have hlen : (signsD x).length = x.cps.size := by simp [signsD]
  have hat : ∀ (i : Nat) (d : PyData), (signsD x)[i]? = some d → ∃ c, x.cps[i]? = some c ∧ d = .str ⟨#[c]⟩ := by
    intro i d hd
    simp only [signsD, List.getElem?_map, Option.map_eq_some_iff] at hd
    obtain ⟨c, hc, rfl⟩ := hd
    exact ⟨c, by simpa using hc, rfl⟩
  cases ha : x.cps.all (· < 128)
  · refine wpAny_pyIter_wide (s := { s with heap := h1, toks := i }) ha ?_
    refine q h1.objs.size (fun i h' => h'.IsStrIter h1.objs.size "str_iterator" x t i) _ _ (Keep.push k1 _) ?_ ⟨_, Heap.get?_push_size _ rfl, rfl, rfl⟩ (k1.none (size_none h1))
    refine ⟨?_, ?_, ?_, ?_, ?_⟩
    · intro i d s' Q' E' hd hI q'
      obtain ⟨c, hc, rfl⟩ := hat i d hd
      exact wpAny_pyNext_wide_item hI hc (fun h'' hit'' hsb => q' _ h'' _ hit'' (kp_same hsb) ⟨_, .str _ _⟩)
    · intro s' Q' E' hI q'
      rw [hlen] at hI
      exact wpAny_pyNext_wide_end hh hI (by simp) (fun h'' he => q' h'' s'.toks (kp_ext he))
    · intro i ha hb hI kp
      obtain ⟨o, ho, r⟩ := hI
      exact ⟨o, kp _ _ hitW ho, r⟩
    · intro i ha hI
      obtain ⟨o, ho, hc, hd⟩ := hI
      exact odd_fields ho hd
    · intro i s' elts x1 pos T Q' E' hI q'
      obtain ⟨o, ho, hc, hd⟩ := hI
      unfold letOwnedTupleGo
      refine wpAny_bind (wpAny_load ho ?_)
      rw [hc, hd]
      refine wpAny_ite_false ?_ (wpAny_pure q')
      simp
  · refine wpAny_pyIter_ascii (s := { s with heap := h1, toks := i }) ha ?_
    refine q h1.objs.size (fun i h' => h'.IsStrIter h1.objs.size "str_ascii_iterator" x t i) _ _ (Keep.push k1 _) ?_ ⟨_, Heap.get?_push_size _ rfl, rfl, rfl⟩ (k1.none (size_none h1))
    refine ⟨?_, ?_, ?_, ?_, ?_⟩
    · intro i d s' Q' E' hd hI q'
      obtain ⟨c, hc, rfl⟩ := hat i d hd
      exact wpAny_pyNext_ascii_item hI hc (fun h'' hit'' hsb => q' _ h'' _ hit'' (kp_same hsb) ⟨_, .str _ _⟩)
    · intro s' Q' E' hI q'
      rw [hlen] at hI
      exact wpAny_pyNext_ascii_end hh hI (by simp) (fun h'' he => q' h'' s'.toks (kp_ext he))
    · intro i ha hb hI kp
      obtain ⟨o, ho, r⟩ := hI
      exact ⟨o, kp _ _ hitW ho, r⟩
    · intro i ha hI
      obtain ⟨o, ho, hc, hd⟩ := hI
      exact odd_fields ho hd
    · intro i s' elts x1 pos T Q' E' hI q'
      obtain ⟨o, ho, hc, hd⟩ := hI
      unfold letOwnedTupleGo
      refine wpAny_bind (wpAny_load ho ?_)
      rw [hc, hd]
      refine wpAny_ite_false ?_ (wpAny_pure q')
      simp
end

section
variable {prog : Program} {w : World} {A : Around} {nm : Str} {sc : Scope} {L fa : Addr} {cd : Value} {g h : Heap} {ρ : Locs} {μ : Mut} {X : Value → Heap → Prop} {Ws : List Addr} {P : Flow → Heap → Prop} {rest : List Stmt}
/-- a list of the frame's names, to be gone over -/
theorem src_var {x : Str} {pos : Pos} {ds : List PyData} (S : St g L h ρ μ) (hv : ρ.lookup x = some (.list ds)) (hW : Wok μ Ws) (hk : sc.kind = .function := by rfl) (hl : (envOf nm sc L fa cd).kindOf x = some .local := by rfl)
    (hd : (x == ("__debug__" : Str)) = false := by decide) : Ev (model prog w) A (envOf nm sc L fa cd) h (.Name x pos) (SrcL (L :: Ws) ds) X :=
  EvT.ofS fun s Q E k q => by
    have S' := S.keep k
    have hnt := w_noTup S' hW
    obtain ⟨m, F, hr, _⟩ := S'.ex
    obtain ⟨v, as, hm, r, nL, nl⟩ := hr x _ hv
    refine ld F hm (q v s.toks ?_) hk hl hd
    cases r with
    | list h1 h2 h3 y =>
      have hW' : ∀ a ∈ L :: Ws, a ∉ _ := fun a ha => by
        cases ha with
        | head => exact nL
        | tail _ ha => obtain ⟨p, e, rfl⟩ := hW a ha; exact nl p e
      exact ⟨_, _, rfl, ⟨_, h1, h2, _, h3⟩, fun ha => hW' _ ha (.head _), fun h' kp => ⟨_, readsAll_kp kp (fun a ha => .inr ⟨fun e => hW' a ha (.tail _ e), (hnt a ha).1⟩) y⟩⟩
/-- a list of g's, handed on by an argument's name or not: any list that is read and not among W -/
theorem run_append {x : Str} {l : Addr} {ds : List PyData} {d : PyData} {e : Expr} {px ap pos ep : Pos} (S : St g L h ρ (some (x, l, ds))) (ev : Ev (model prog w) A (envOf nm sc L fa cd) h e (Rd d) X) (hf : flat d = true) (hl : l ∈ Ws) (hsz : ds.length ≤ 2 ^ 20)
    (k : ∀ h', St g L h' ρ (some (x, l, ds ++ [d])) → Run (model prog w) A (envOf nm sc L fa cd) Ws rest h' P X)
    (hbase : attributeBase (.Name x px) "append" (envOf nm sc L fa cd) (eval (.Name x px) (envOf nm sc L fa cd)) = eval (.Name x px) (envOf nm sc L fa cd) := by rfl) (hline : (ap.endLine == pos.line) = true := by rfl)
    (hk : sc.kind = .function := by rfl) (hloc : (envOf nm sc L fa cd).kindOf x = some .local := by rfl) (hd : (x == ("__debug__" : Str)) = false := by decide)
    (htr0 : pl e = true := by rfl)
    (hi : interactive (envOf nm sc L fa cd) = false := by rfl) (hs : True := trivial) :
    Run (model prog w) A (envOf nm sc L fa cd) Ws (.Expr (.Call (.Attribute (.Name x px) "append" ap) [e] [] pos) ep :: rest) h P X := by
  refine ⟨fun s Q E e' po q x' => ?_⟩; subst e'
  have htr : backTo pos (starEach [e] (envOf nm sc L fa cd)) = [(false, eval e (envOf nm sc L fa cd))] := by rw [pl_star htr0]; rfl
  refine wpAny_execs_cons (wpAny_Expr_any ?_ hi (pl_swaps rfl))
  refine wpAny_Call_append hbase (by rw [htr]; rfl) hline htr ?_
  refine (ev_mutL S hk hloc hd).seq Keep.rfl (fun v h1 i k1 r => ?_) x'
  subst r
  have S1 := S.keep k1
  obtain ⟨m, F, _, hm⟩ := S1.ex
  obtain ⟨_, _, _, items, ⟨n, p⟩, _⟩ := hm _ rfl
  refine ⟨l, items, rfl, ⟨_, n, p, rfl, rfl, rfl⟩, ?_⟩
  refine (ev.up k1).seq (s := { s with heap := h1, toks := i }) Keep.rfl (fun y h2 j k2 r2 => ?_) (fun y h2 j r => x' y h2 j r)
  have S2 := S1.keep k2
  obtain ⟨m2, F2, hr2, hm2⟩ := S2.ex
  obtain ⟨hx2, hg2, hf2, items2, p2, rr2⟩ := hm2 _ rfl
  have hlen : items2.size = ds.length := by have := rr2.len; simpa using this
  refine wpAny_list_append_plain (s := { s with heap := h2, toks := j }) (hsz := by rw [hlen]; have e : sizeLine = 2 ^ 24 := rfl; (first | lia | omega)) p2 (fun h3 p3 hsb => ?_)
  have kp := kp_same hsb
  have hlL : l ≠ L := L_ne_list F2 p2
  have wok : ∀ (bs : List Addr), l ∉ bs → ∀ a ∈ [l], Odd a h2 ∨ (a ∉ bs ∧ NoTup a h2) := fun bs hb a ha => by
    rw [List.mem_singleton] at ha; subst ha; exact .inr ⟨hb, noTup_list p2⟩
  have S3 : St g L h3 ρ (some (x, l, ds ++ [d])) := by
    refine ⟨m2, ⟨?_, fun b o e => kp b o (fun hb => ?_) (F2.keep b o e), F2.above⟩, fun y d' e => ?_, fun q e => ?_⟩
    · obtain ⟨o, es, ep, ho, r⟩ := F2.ns
      exact ⟨o, es, ep, kp _ _ (by simpa using hlL.symm) ho, r⟩
    · rw [List.mem_singleton] at hb; subst hb; rw [hg2] at e; cases e
    · obtain ⟨v, as, a, b, c, dd⟩ := hr2 y d' e
      exact ⟨v, as, a, reads_kp kp (wok _ (dd _ rfl)) b, c, fun q e => by cases e; exact dd (x, l, ds) rfl⟩
    · cases e
      refine ⟨hx2, hg2, ?_, _, p3, ?_⟩
      · show flatL (ds ++ [d]) = true
        exact flatL_snoc hf2 hf
      · rw [Array.toList_push]
        have ra : RdL ds items2.toList h3 := rdl_flat_kp kp hf2 (fun a ha => by rw [List.mem_singleton] at ha; subst ha; exact noTup_list p2) rr2
        have rb : Rd d y h3 := by
          obtain ⟨as, z⟩ := r2
          have e := flat_nil hf z
          subst e
          exact ⟨_, reads_kp kp (wok _ List.not_mem_nil) z⟩
        exact ra.append (RdL.cons rb RdL.nil)
  refine (k h3 S3).go _ Q E rfl po (fun fl h4 j4 kp4 p4 => q fl h4 j4 (((Keep.trans k1 k2).kp.trans (kp.mono fun b hb => ?_)).trans kp4) p4) (fun y h2 j r => x' y h2 j r)
  rw [List.mem_singleton] at hb; subst hb; exact .tail _ hl
/-- an if whose two ways meet behind it -/
theorem run_ifJ {test : Expr} {body : List Stmt} {pos : Pos} {b : Bool} (J : Heap → Prop) (S : St g L h ρ μ) (t : Tr (model prog w) A (envOf nm sc L fa cd) h test b X)
    (k1 : b = true → ∀ h', St g L h' ρ μ → Run (model prog w) A (envOf nm sc L fa cd) Ws body h' (fun fl h2 => fl = .next ∧ J h2) X)
    (k2 : b = false → ∀ h', St g L h' ρ μ → J h') (k : ∀ h', J h' → Run (model prog w) A (envOf nm sc L fa cd) Ws rest h' P X) :
    Run (model prog w) A (envOf nm sc L fa cd) Ws (.If test body [] pos :: rest) h P X := by
  refine run_if S t (fun e h' S' => run_mono (k1 e h' S') fun fl h2 q => ?_) (fun e h' S' => run_nil (k h' (k2 e h' S')))
  obtain ⟨rfl, j⟩ := q
  exact k h2 j
/-- a statement by what holds behind it -/
theorem run_cut {st : Stmt} (J : Heap → Prop) (a : Run (model prog w) A (envOf nm sc L fa cd) Ws [st] h (fun fl h2 => fl = .next ∧ J h2) X) (k : ∀ h', J h' → Run (model prog w) A (envOf nm sc L fa cd) Ws rest h' P X) :
    Run (model prog w) A (envOf nm sc L fa cd) Ws (st :: rest) h P X := by
  refine ⟨fun s Q E e po q x => ?_⟩; subst e
  have h1 := a.go s (fun f s' => ∃ h' j, f = .next ∧ s' = { s with heap := h', toks := j } ∧ Kp (L :: Ws) s.heap h' ∧ J h') E rfl po (fun fl h' j kp p => ⟨h', j, p.1, rfl, kp, p.2⟩) x
  have h2 : wpAny (model prog w) A (exec st (envOf nm sc L fa cd)) (fun f s' => ∃ h' j, f = .next ∧ s' = { s with heap := h', toks := j } ∧ Kp (L :: Ws) s.heap h' ∧ J h') E s := by
    intro Γ p hΓ
    have := h1 Γ p hΓ
    rw [execs_cons, Sem.wp_bind'] at this
    refine Sem.wp_mono _ Γ _ (fun f p' s' h' => ?_) (fun _ _ _ h' => h') _ _ this
    cases f <;> exact h'
  refine wpAny_execs_cons (wpAny_mono h2 (fun f s' hq => ?_) fun _ _ y => y)
  obtain ⟨h', j, rfl, rfl, kp, hJ⟩ := hq
  exact (k h' hJ).go _ Q E rfl po (fun fl h2 j2 kp2 p => q fl h2 j2 (kp.trans kp2) p) (fun y h2 j2 r => x y h2 j2 r)
end
end Mine

namespace Mine
open PySem PySem.Spec PySem.Calls PyProof.Rows PySem.W

/-- sizes -/
def Sz (n : Nat) (a : Int) : Prop := -(10 ^ n : Int) < a ∧ a < (10 ^ n : Int)
theorem pow_pos10 (n : Nat) : (0 : Int) < 10 ^ n := Int.pow_pos (by decide)
theorem pow_mono10 {n m : Nat} (h : n ≤ m) : (10 : Int) ^ n ≤ 10 ^ m := by
  have : (10 : Nat) ^ n ≤ 10 ^ m := Nat.pow_le_pow_right (by decide) h
  exact_mod_cast this
theorem Sz.mono {n m : Nat} {a : Int} (h : Sz n a) (hm : n ≤ m) : Sz m a := by
  have := pow_mono10 hm
  obtain ⟨h1, h2⟩ := h
  exact ⟨by (first | lia | omega), by (first | lia | omega)⟩
theorem Sz.natAbs {n : Nat} {a : Int} (h : Sz n a) : a.natAbs < 10 ^ n := by
  obtain ⟨h1, h2⟩ := h
  have e : ((10 ^ n : Nat) : Int) = (10 : Int) ^ n := by simp
  (first | lia | omega)
theorem Sz.of_natAbs {n : Nat} {a : Int} (h : a.natAbs < 10 ^ n) : Sz n a := by
  have e : ((10 ^ n : Nat) : Int) = (10 : Int) ^ n := by simp
  exact ⟨by (first | lia | omega), by (first | lia | omega)⟩
theorem Sz.mul {n m : Nat} {a b : Int} (ha : Sz n a) (hb : Sz m b) : Sz (n + m) (a * b) := by
  refine Sz.of_natAbs ?_
  rw [Int.natAbs_mul, Nat.pow_add]
  exact Nat.mul_lt_mul'' ha.natAbs hb.natAbs
theorem Sz.add {n m : Nat} {a b : Int} (ha : Sz n a) (hb : Sz m b) : Sz (max n m + 1) (a + b) := by
  refine Sz.of_natAbs ?_
  have h1 := (ha.mono (Nat.le_max_left n m)).natAbs
  have h2 := (hb.mono (Nat.le_max_right n m)).natAbs
  have h3 := Int.natAbs_add_le a b
  rw [Nat.pow_succ]; (first | lia | omega)
theorem Sz.neg {n : Nat} {a : Int} (ha : Sz n a) : Sz n (-a) := ⟨by have := ha.2; (first | lia | omega), by have := ha.1; (first | lia | omega)⟩
theorem Sz.sub {n m : Nat} {a b : Int} (ha : Sz n a) (hb : Sz m b) : Sz (max n m + 1) (a - b) := by rw [Int.sub_eq_add_neg]; exact ha.add hb.neg
theorem Sz.le {n : Nat} {a b : Int} (hb : Sz n b) (h0 : 0 ≤ a) (h : a ≤ b) : Sz n a := ⟨by have := pow_pos10 n; (first | lia | omega), by have := hb.2; (first | lia | omega)⟩
theorem Sz.abs {n : Nat} {a : Int} (ha : Sz n a) : Sz n a.natAbs := Sz.of_natAbs (by simpa using ha.natAbs)
theorem intBits_le {n : Nat} {a : Int} (h : Sz n a) (hn : n ≤ 1000) : Builtin.Int.intBits a ≤ 2 ^ 20 := by
  unfold Builtin.Int.intBits
  split
  · exact Nat.zero_le _
  · rename_i h0
    have ha : a.natAbs ≠ 0 := by
      intro e; apply h0; simp; (first | lia | omega)
    have h1 := h.natAbs
    have h2 : (10 : Nat) ^ n ≤ 2 ^ (4 * n) := by
      rw [Nat.pow_mul]; exact Nat.pow_le_pow_left (by decide) n
    have h3 : a.natAbs.log2 < 4 * n := (Nat.log2_lt ha).mpr (Nat.lt_of_lt_of_le h1 h2)
    (first | lia | omega)
theorem mul_ok {n m : Nat} {a b : Int} (ha : Sz n a) (hb : Sz m b) (hn : n ≤ 1000 := by decide) (hm : m ≤ 1000 := by decide) : IntMulOk a b := IntMulOk.of_bits (intBits_le ha hn) (intBits_le hb hm)
theorem div_ok {n : Nat} {b : Int} (hb : Sz n b) (hn : n ≤ 250 := by decide) : b < 10 ^ 250 := by have := (hb.mono hn).2; exact this

theorem rm_caller {n : Nat} (h : n ≤ 600 := by decide) : Rm callerA n := ⟨rfl, by show 1 + claimMargin + n < recursionLimit; simp only [claimMargin, recursionLimit]; (first | lia | omega), by show 4 + 3 * n + 100 < cLine; simp only [cLine]; (first | lia | omega)⟩

theorem law_end {c : Cx} {s₁ : Shared} {fa l : Addr} {d : PyData} {as : List Addr} {cl : Str → Option Addr} {mean : ExcName → Option Value} {args : List WData} {cm : ClaimW} {nm : Str} {n : Nat} (F : FnD c n nm [d] (.bool true)) (T : c.T s₁.heap) (hmg : c.mg nm = some (.ref fa))
    (r0 : Reads s₁.heap (.ref l) d as) (hg : s₁.gens = #[]) (hn : ∀ cls, cm.raises args cls = false) (hp : cm.post args (.bool true) args = true) (hr : n ≤ 600 := by decide) :
    wpAny c.M callerA (call (.ref fa) [.ref l]) (fun v s' => GoodWG cm cl mean args s₁ (.ok (.ret v)) s') (fun e s' => GoodWG cm cl mean args s₁ (.error e) s') s₁ := by
  refine (F.run callerA s₁.heap [.ref l] fa T (rm_caller hr) hmg ⟨_, .cons r0 .nil⟩).go s₁ _ _ Keep.rfl (fun v h' k kk r => ?_) (fun _ _ _ r => r.elim)
  cases rd_bool r.rd
  exact GoodW.toG ⟨.inl ⟨_, .bool true, [], rfl, hn, .bool true, hp, fun _ => ⟨.nil, fun _ ha => nomatch ha⟩⟩, kk, rfl, hg⟩

section
variable {c : Cx} {n : Nat} {A : Around} {nm : Str} {sc : Scope} {L fa : Addr} {cd : Value} {g h : Heap} {ρ : Locs} {μ : Mut} {X : Value → Heap → Prop} {p pos : Pos}
theorem ev_lenl {e : Expr} {ds : List PyData} (S : St g L h ρ μ) (T : c.T g) (B : Bn c) (e1 : Ev c.M A (envOf nm sc L fa cd) h e (Rd (.list ds)) X) (hn : ds.length < 2 ^ 62) (hk : sc.kind = .function := by rfl) (hg : (envOf nm sc L fa cd).kindOf (Str.ofString "len") = some .globalImplicit := by rfl)
    (he : pl e = true := by rfl) : Ev c.M A (envOf nm sc L fa cd) h (.Call (.Name (Str.ofString "len") p) [e] [] pos) (Rd (.int ds.length)) X :=
  ev_bcall (id := "len") S T B (by decide) (by decide +kernel) (evl_cons e1 evl_nil he) (fun vs h' k r => by
    obtain ⟨v, r', rfl, r1, r2⟩ := r.uncons
    cases r2.unnil
    exact op_len hn (.inl r1)) (by decide) hk hg (by decide) he rfl
theorem ev_lent {e : Expr} {ds : List PyData} (S : St g L h ρ μ) (T : c.T g) (B : Bn c) (e1 : Ev c.M A (envOf nm sc L fa cd) h e (Rd (.tuple ds)) X) (hn : ds.length < 2 ^ 62) (hk : sc.kind = .function := by rfl) (hg : (envOf nm sc L fa cd).kindOf (Str.ofString "len") = some .globalImplicit := by rfl)
    (he : pl e = true := by rfl) : Ev c.M A (envOf nm sc L fa cd) h (.Call (.Name (Str.ofString "len") p) [e] [] pos) (Rd (.int ds.length)) X :=
  ev_bcall (id := "len") S T B (by decide) (by decide +kernel) (evl_cons e1 evl_nil he) (fun vs h' k r => by
    obtain ⟨v, r', rfl, r1, r2⟩ := r.uncons
    cases r2.unnil
    exact op_len hn (.inr r1)) (by decide) hk hg (by decide) he rfl
theorem ev_max {e e' : Expr} {a b : Int} (S : St g L h ρ μ) (T : c.T g) (B : Bn c) (hh : A.handled = none) (e1 : Ev c.M A (envOf nm sc L fa cd) h e (Rd (.int a)) X) (e2 : Ev c.M A (envOf nm sc L fa cd) h e' (Rd (.int b)) X) (hk : sc.kind = .function := by rfl) (hg : (envOf nm sc L fa cd).kindOf (Str.ofString "max") = some .globalImplicit := by rfl)
    (he : pl e = true := by rfl) (he2 : pl e' = true := by rfl) :
    Ev c.M A (envOf nm sc L fa cd) h (.Call (.Name (Str.ofString "max") p) [e, e'] [] pos) (Rd (.int (max a b))) X :=
  ev_bcall (id := "max") S T B (by decide) (by decide +kernel) (evl_cons e1 (evl_cons e2 evl_nil he2) he) (fun vs h' k r => by
    obtain ⟨v, r', rfl, r1, r2⟩ := r.uncons
    obtain ⟨v2, r3, rfl, r4, r5⟩ := r2.uncons
    cases r5.unnil
    exact op_max hh r1 r4) (by decide) hk hg (by decide) he (by simp [he2])
end
theorem sz_lit {a : Int} (h : decide (-(10 ^ 10 : Int) < a ∧ a < 10 ^ 10) = true) : Sz 10 a := by have := of_decide_eq_true h; exact this
end Mine

namespace Mine
open PySem PySem.Spec PySem.Calls PyProof.Rows PySem.W
def bnOk (p : Program) (loose : List Str) : Bool := bnames.all fun x => !(startupNames.contains x || loose.contains x || ((recsOf p).map (·.name)).contains x || ((litsOf p).map (·.1)).contains x || ((clssOf p loose).map (·.name)).contains x)
theorem bn_of {prog p : Program} {w : World} {loose : List Str} {mean : ExcName → Option Value} {mg mb : Str → Option Value} {h : Heap} (T : Top p loose mean mg mb h) (hb : bnOk p loose = true) : Bn ⟨prog, w, p, loose, mean, mg, mb⟩ := by
  intro x hx
  have := List.all_eq_true.mp hb x hx
  simp only [Bool.not_eq_true', Bool.or_eq_false_iff] at this
  obtain ⟨⟨⟨⟨h1, h2⟩, h3⟩, h4⟩, h5⟩ := this
  have no : ∀ {l : List Str}, l.contains x = false → x ∉ l := fun e hm => by rw [List.contains_iff_mem.mpr hm] at e; cases e
  exact T.free x (no h1) (no h2) (no h3) (no h4) (no h5)
end Mine

namespace Mine
open PySem PySem.Spec PySem.Calls PyProof.Rows PySem.W PySem.Builtin PySem.Builtin.ObjectAttr PySem.Builtin.Getset_descriptor

/-- an object of the class C -/
def Ex (h : Heap) (x C : Addr) : Prop := ∃ o, h.get? x = some o ∧ o.cls = .ref C
theorem Ex.keep {h h' : Heap} {x C : Addr} (i : Ex h x C) (k : Keep h h') : Ex h' x C := let ⟨o, a, b⟩ := i; ⟨o, k _ _ a, b⟩
theorem Ex.type {M : Model} {h : Heap} {x C : Addr} (i : Ex h x C) : Looks M h (typeOf (.ref x)) (.ref C) := by
  obtain ⟨o, a, b⟩ := i
  exact b ▸ (Looks.ld a).andThen .now

section
variable {prog : Program} {w : World} {A : Around} {E : Value → Shared → Prop} {s : Shared} {K : Frag} {x C : Addr} {name : Str}

/-- what is asked of a class for its objects' «__class__» -/
structure ClsAttr (K : Frag) (C : Addr) : Prop where
  ga : findIn K (.ref C) "__getattribute__" = some (some (.builtin "BaseException.__getattribute__"))
  gk : findIn K (.ref C) "__getattr__" = some none
  at_ : findIn K (.ref C) "__class__" = some (some (.builtin "object.__class__"))
  get : specialIn K (.builtin "object.__class__") "__get__" = some (some (.builtin "getset_descriptor.__get__"))
  data : takesIn K (.builtin "object.__class__") = some true
  obj : mroIn K C (.type "object") = some true
  be : mroIn K C (.type "BaseException") = some true
  cls : (clsIn K C).isSome = true

end

/-- where the frames lie below -/
structure Pt (c : Cx) (K : Frag) (A : Around) (base : Heap) (outer : List Env) (g : Heap) : Prop where
  bel : Below A base outer g
  kin : K.In base
  top : c.T base

/-- an exception that has left the frames ahead of l -/
def Rz (base : Heap) (l : List Env) (G : Heap) (C e : Addr) (h' : Heap) : Prop := ∃ t vs, RaisedS base G l e (.ref C) t vs [] h' ∧ G.UpToSlots h'
/-- an exception on its way out of a frame -/
def Xb (base : Heap) (outer : List Env) (env : Env) (g : Heap) (L C : Addr) (x : Value) (h' : Heap) : Prop :=
  ∃ e, x = .ref e ∧ ((∃ h m vs, Heap.MadeExcOf h h' e (.ref C) vs ∧ Fr g L h m) ∨ (∃ G m, Rz base (env :: outer) G C e h' ∧ Fr g L G m))

section
variable {c : Cx} {K : Frag} {n : Nat} {f : Str} {ds : List PyData} {C : Addr}
end
end Mine

namespace Mine
open PySem PySem.Spec PySem.Calls PyProof.Rows PySem.W

section
variable {M : Model} {A : Around} {E : Value → Shared → Prop} {K : Frag} {e C D : Addr} {h : Heap} {g : Array GenState} {d : Drawn} {t : Nat} {os : OsState}
end

abbrev bmV : List Value := [.type "ValueError", .type "Exception", .type "BaseException", .type "object"]
/-- an exception class of the text, under ValueError -/
structure EC (K : Frag) (x : Str) (C : Addr) : Prop where
  ns : nsIn K mainGlobals x = some (some (.ref C))
  attr : ClsAttr K C
  ty : typeIn K (.ref C) = some (.type "type")
  be : mroIn K C (.type "BaseException") = some true
  ve : mroIn K C (.type "ValueError") = some true
  exc : excIn K C bmV "ValueError.__new__" = true
theorem EC.mg {c : Cx} {K : Frag} {x : Str} {C : Addr} {h : Heap} (X : K.In h) (T : c.T h) (e : EC K x C) : c.mg x = some (.ref C) := mg_of X T.g e.ns
theorem EC.own {c : Cx} {K : Frag} {x : Str} {C : Addr} {h : Heap} (X : K.In h) (T : c.T h) (e : EC K x C) : OwnCls x C bmV "ValueError.__new__" c.mg h := own_of_in X (topRead_of T) e.ns e.exc

/-- ... that comes from a call -/
def Xp (base : Heap) (outer : List Env) (env : Env) (g : Heap) (L C : Addr) (x : Value) (h' : Heap) : Prop := ∃ e, x = .ref e ∧ ∃ G m, Rz base (env :: outer) G C e h' ∧ Fr g L G m
theorem Xp.b {base : Heap} {outer : List Env} {env : Env} {g : Heap} {L C : Addr} {x : Value} {h' : Heap} (r : Xp base outer env g L C x h') : Xb base outer env g L C x h' := let ⟨e, a, b⟩ := r; ⟨e, a, .inr b⟩
theorem Pt.t {c : Cx} {K : Frag} {A : Around} {base : Heap} {outer : List Env} {g : Heap} (P : Pt c K A base outer g) : c.T g := P.top.keeps P.bel.stays
theorem Pt.k {c : Cx} {K : Frag} {A : Around} {base : Heap} {outer : List Env} {g : Heap} (P : Pt c K A base outer g) : K.In g := P.kin.keeps P.bel.stays

section
variable {c : Cx} {K : Frag} {n : Nat} {f : Str} {C : Addr} {dn : Str} {dp : Arguments} {db : List Stmt} {dsc : Scope} {dps : Pos} {x1 x2 x3 x4 : Str} {d1 d2 d3 d4 : PyData}
end

section
variable {c : Cx} {K : Frag} {n : Nat} {A : Around} {nm : Str} {sc : Scope} {L fa : Addr} {cd : Value} {g h base : Heap} {outer : List Env} {ρ : Locs} {μ : Mut} {C : Addr} {X : Value → Heap → Prop}
variable {Ws : List Addr} {P : Flow → Heap → Prop} {rest : List Stmt}
end
end Mine

namespace Mine
open PySem PySem.Spec PySem.Calls PyProof.Rows PySem.W

/-- a frame's name that holds an object -/
def Sv (g : Heap) (L : Addr) (h : Heap) (x : Str) (v : Value) : Prop := ∃ m, Fr g L h m ∧ m x = some v
theorem Sv.keep {g : Heap} {L : Addr} {h h' : Heap} {x : Str} {v : Value} (S : Sv g L h x v) (k : Keep h h') : Sv g L h' x v := let ⟨m, F, e⟩ := S; ⟨m, F.after k, e⟩
theorem Sv.st {g : Heap} {L : Addr} {h : Heap} {x : Str} {v : Value} (S : Sv g L h x v) : St g L h [] none := let ⟨m, F, _⟩ := S; ⟨m, F, fun _ _ e => (nomatch e), fun _ e => (nomatch e)⟩

section
variable {c : Cx} {K : Frag} {n : Nat} {f : Str} {ds : List PyData} {d : PyData}
end

section
variable {c : Cx} {K : Frag} {n : Nat} {A : Around} {nm : Str} {sc : Scope} {L fa : Addr} {cd : Value} {g h base : Heap} {outer : List Env} {ρ : Locs} {μ : Mut} {C D : Addr} {d : PyData}
end

section
variable {c : Cx} {K : Frag} {n : Nat} {f : Str} {d : PyData} {dn : Str} {dp : Arguments} {db : List Stmt} {dsc : Scope} {dps : Pos} {x1 x2 x3 x4 : Str} {d1 d2 d3 d4 : PyData}
end

section
variable {c : Cx} {K : Frag} {A : Around} {nm : Str} {sc : Scope} {L fa : Addr} {cd : Value} {g h : Heap} {ρ : Locs} {μ : Mut} {X : Value → Heap → Prop} {C D : Addr}
end

section
variable {c : Cx} {K : Frag} {n : Nat} {f : Str} {dn : Str} {dp : Arguments} {db : List Stmt} {dsc : Scope} {dps : Pos} {x1 : Str} {d1 : PyData}
end

section
variable {c : Cx} {K : Frag} {n : Nat} {A : Around} {nm : Str} {sc : Scope} {L fa : Addr} {cd : Value} {g h : Heap} {ρ : Locs} {μ : Mut} {rest : List Stmt}
end
end Mine

namespace Mine
open PySem PySem.Spec PySem.Calls PyProof.Rows PySem.W

section
variable {prog : Program} {w : World} {A : Around} {env : Env} {h : Heap} {X : Value → Heap → Prop} {n : Nat}
theorem dmin {a b c : Nat} (h : b ≤ c) : min a b ≤ c := Nat.le_trans (Nat.min_le_right _ _) h
theorem op_notin {d : PyData} {xs : List PyData} {v1 v2 : Value} {h' : Heap} (rm : Rm A n) (r1 : Rd d v1 h') (r2 : Rd (.tuple xs) v2 h') (hxs : PyData.canLayAll0 xs = true) (hd : SeqAt.shaped d = true) :
    EvT (model prog w) A h' (compareOp .NotIn v1 v2) (Rd (.bool (!xs.any fun y => PyData.eqv y d))) X := by
  obtain ⟨as, x⟩ := r1; obtain ⟨bs, y⟩ := r2
  have := rm.un
  have := dmin (a := PyData.depthAll xs) (SeqAt.depth_of_shaped hd)
  exact EvT.ofS fun s _ _ k q => SeqAt.notIn_tuple_reads (PyProof.Rows.Reads.keeps k y) (PyProof.Rows.Reads.keeps k x) hxs (SeqAt.canLay_of_shaped hd) (by (first | lia | omega)) (q _ s.toks ⟨_, .bool _⟩)
theorem tr_notin {l r : Expr} {pos : Pos} {d : PyData} {xs : List PyData} (rm : Rm A n) (e1 : Ev (model prog w) A env h l (Rd d) X) (e2 : Ev (model prog w) A env h r (Rd (.tuple xs)) X) (hxs : PyData.canLayAll0 xs = true) (hd : SeqAt.shaped d = true)
    (hm : pl r = true := by rfl) : Tr (model prog w) A env h (.Compare l [.NotIn] [r] pos) (!xs.any fun y => PyData.eqv y d) X := tr_cmp e1 e2 (fun _ _ _ _ r1 r2 => op_notin rm r1 r2 hxs hd) hm
end

section
variable {prog : Program} {w : World} {A : Around} {nm : Str} {sc : Scope} {L fa : Addr} {cd : Value} {g h : Heap} {ρ : Locs} {X : Value → Heap → Prop}
/-- the own list, handed back -/
theorem ev_own {x : Str} {pos : Pos} {l : Addr} {ds : List PyData} (S : St g L h ρ (some (x, l, ds))) (hk : sc.kind = .function := by rfl) (hl : (envOf nm sc L fa cd).kindOf x = some .local := by rfl)
    (hd : (x == ("__debug__" : Str)) = false := by decide) : Ev (model prog w) A (envOf nm sc L fa cd) h (.Name x pos) (Rl g ds) X :=
  EvT.ofS fun s Q E k q => by
    obtain ⟨m, F, _, hm⟩ := (S.keep k).ex
    obtain ⟨hv, hg, _, items, p, r⟩ := hm _ rfl
    exact ld F hv (q _ s.toks ⟨l, items, rfl, p, r, hg⟩) hk hl hd
end

def wd (b : Bool) : Str := if b then "right" else "left"
def aw : Option Bool → Str
  | none => ""
  | some b => wd b
def runD (s : Bool × Int) : PyData := .tuple [.str (wd s.1), .int s.2]
def pathD (p : Path) : List PyData := p.map runD
theorem pathD_len (p : Path) : (pathD p).length = p.length := by simp [pathD]
theorem pathD_snoc (p : Path) (s : Bool × Int) : pathD (p ++ [s]) = pathD p ++ [runD s] := by simp [pathD]
abbrev PD (a b : Int) : PyData := .tuple [.int a, .int b]
theorem drop_at {α : Type} {l : List α} {i : Nat} {x : α} (h : l[i]? = some x) : l.drop i = x :: l.drop (i + 1) := by
  obtain ⟨hi, rfl⟩ := List.getElem?_eq_some_iff.mp h
  exact List.drop_eq_getElem_cons hi
end Mine

namespace Mine
open PySem PySem.Spec PySem.Calls PyProof.Rows PySem.W

section
variable {prog : Program} {w : World} {A : Around} {env : Env} {h : Heap} {X : Value → Heap → Prop}
/-- a method with one argument -/
theorem ev_meth1 {o e : Expr} {name : Str} {T id : String} {ap pos : Pos} {R1 R : Value → Heap → Prop} {d2 : PyData} (pa : PlainAttrs T) (slot : Slot T name id) (hty : typeOf (.builtin id) = pure (.type "method_descriptor"))
    (e1 : Ev (model prog w) A env h o R1 X) (e2 : Ev (model prog w) A env h e (Rd d2) X) (m1 : ∀ v h' h'', Keep h' h'' → R1 v h' → R1 v h'')
    (hT : ∀ v (s : Shared), R1 v s.heap → s.TypeIs v T ∧ (∀ a, v = .ref a → ∃ ob, s.heap.get? a = some ob ∧ ob.dict = none))
    (op : ∀ v1 v2 h', Keep h h' → R1 v1 h' → Rd d2 v2 h' → EvT (model prog w) A h' (call (.builtin id) [v1, v2]) R X)
    (hbase : attributeBase o name env (eval o env) = eval o env := by rfl) (hline : (ap.endLine == pos.line) = true := by rfl) (he : pl e = true := by rfl) :
    Ev (model prog w) A env h (.Call (.Attribute o name ap) [e] [] pos) R X := by
  refine ⟨fun s Q E k q x => ?_⟩
  refine Call_method1 hbase (pl_star he) hline ?_
  refine e1.go s _ E k (fun v1 h1 i k1 r1 => ?_) x
  obtain ⟨t1, t2⟩ := hT v1 { s with heap := h1, toks := i } r1
  refine ⟨T, id, pa, slot, hty, t1, t2, ?_⟩
  refine Calls.callWith_builtin rfl (Calls.evalArgs_plain (Calls.spliced_cons ?_))
  refine (e2.up (k.trans k1)).go { s with heap := h1, toks := i } _ E Keep.rfl (fun v2 h2 j k2 r2 => Calls.spliced_nil ?_) (fun y h' i r => x y h' i r)
  exact (op v1 v2 h2 ((k.trans k1).trans k2) (m1 _ _ _ k2 r1) r2).go { s with heap := h2, toks := j } Q E Keep.rfl (fun v h3 i3 k3 r3 => q v h3 i3 ((Keep.trans k1 k2).trans k3) r3) (fun y h' i r => x y h' i r)

end

section
variable {prog : Program} {w : World} {A : Around} {nm : Str} {sc : Scope} {L fa : Addr} {cd : Value} {g h : Heap} {ρ : Locs} {μ : Mut} {X : Value → Heap → Prop}
end

section
variable {prog : Program} {w : World} {A : Around} {nm : Str} {sc : Scope} {L fa : Addr} {cd : Value} {g h : Heap} {ρ : Locs} {X : Value → Heap → Prop} {Ws : List Addr} {P : Flow → Heap → Prop} {rest : List Stmt}
end

theorem Sv.ex {g : Heap} {L : Addr} {h : Heap} {x : Str} {v : Value} {e C : Addr} (S : Sv g L h x v) (I : Ex g e C) : Ex h e C := let ⟨_, F, _⟩ := S; I.keep F.keep
/-- room, whatever is being handled -/
structure Rv (A : Around) (n : Nat) : Prop where
  dep : A.depth + n < recursionLimit
  un : A.units + 3 * n + 100 < cLine
theorem Rm.v {A : Around} {n : Nat} (r : Rm A n) : Rv A n := ⟨r.dep, r.un⟩
theorem Rv.less {A : Around} {n m : Nat} (r : Rv A n) (h : m ≤ n) : Rv A m := ⟨by have := r.dep; (first | lia | omega), by have := r.un; (first | lia | omega)⟩
section
variable {c : Cx} {K : Frag} {n : Nat} {f : Str} {C : Addr} {b : Bool} {dn : Str} {dp : Arguments} {db : List Stmt} {dsc : Scope} {dps : Pos} {x1 : Str}
end

section
variable {c : Cx} {K : Frag} {n : Nat} {A : Around} {nm : Str} {sc : Scope} {L fa : Addr} {cd : Value} {g h : Heap} {X : Value → Heap → Prop} {C : Addr} {b : Bool}
end
end Mine

namespace Mine
open PySem PySem.Spec PySem.Calls PyProof.Rows PySem.W

/-- read, with no list or dict at L -/
def Rn (L : Addr) (d : PyData) (v : Value) (h : Heap) : Prop := ∃ as, Reads h v d as ∧ L ∉ as
def RnL (L : Addr) (ds : List PyData) (vs : List Value) (h : Heap) : Prop := ∃ as, ReadsAll h vs ds as ∧ L ∉ as
theorem Rn.keep {L : Addr} {d : PyData} {v : Value} {h h' : Heap} (r : Rn L d v h) (k : Keep h h') : Rn L d v h' := let ⟨as, x, n⟩ := r; ⟨as, PyProof.Rows.Reads.keeps k x, n⟩
theorem Rn.rd {L : Addr} {d : PyData} {v : Value} {h : Heap} (r : Rn L d v h) : Rd d v h := let ⟨as, x, _⟩ := r; ⟨as, x⟩
theorem RnL.cons {L : Addr} {d ds v vs} {h : Heap} (a : Rn L d v h) (b : RnL L ds vs h) : RnL L (d :: ds) (v :: vs) h := by
  obtain ⟨as, x, n⟩ := a; obtain ⟨bs, y, m⟩ := b
  exact ⟨_, .cons x y, fun ha => (List.mem_append.mp ha).elim n m⟩
theorem RnL.append {L : Addr} {h : Heap} : ∀ {ds es vs us}, RnL L ds vs h → RnL L es us h → RnL L (ds ++ es) (vs ++ us) h
  | [], es, vs, us, a, b => by
    have e : vs = [] := (show RdL [] vs h from let ⟨as, x, _⟩ := a; ⟨as, x⟩).unnil
    subst e; exact b
  | d :: ds, es, vs, us, a, b => by
    obtain ⟨as, x, n⟩ := a
    cases x with
    | cons x1 x2 => exact RnL.cons ⟨_, x1, fun q => n (List.mem_append_left _ q)⟩ (RnL.append ⟨_, x2, fun q => n (List.mem_append_right _ q)⟩ b)
theorem RnL.keep {L : Addr} {ds : List PyData} {vs : List Value} {h h' : Heap} (r : RnL L ds vs h) (k : Keep h h') : RnL L ds vs h' := let ⟨as, x, n⟩ := r; ⟨as, PyProof.Rows.ReadsAll.keeps k x, n⟩
section
variable {prog : Program} {w : World} {A : Around} {env : Env} {h : Heap} {L : Addr} {X : Value → Heap → Prop}
end
section
variable {prog : Program} {w : World} {A : Around} {nm : Str} {sc : Scope} {L fa : Addr} {cd : Value} {g h : Heap} {ρ : Locs} {μ : Mut} {X : Value → Heap → Prop} {Ws : List Addr} {P : Flow → Heap → Prop} {rest : List Stmt}
theorem St.hL (S : St g L h ρ μ) : ∃ o, h.get? L = some o := let ⟨_, F, _⟩ := S.ex; L_some F
end
end Mine

namespace Mine
open PySem PySem.Spec PySem.Calls PyProof.Rows PySem.W

section
variable {c : Cx} {A : Around} {nm : Str} {sc : Scope} {L fa : Addr} {cd : Value} {g h : Heap} {ρ : Locs} {μ : Mut} {X : Value → Heap → Prop} {W : List Addr}
end
end Mine

namespace Mine
open PySem PySem.Spec PySem.Calls PyProof.Rows PySem.W
section
variable {prog : Program} {w : World} {A : Around} {env : Env} {h : Heap} {X : Value → Heap → Prop}
end
section
variable {prog : Program} {w : World} {A : Around} {nm : Str} {sc : Scope} {L fa : Addr} {cd : Value} {g h : Heap} {ρ : Locs} {X : Value → Heap → Prop}
end
end Mine

namespace Mine
open PySem PySem.Spec PySem.Calls PyProof.Rows PySem.W PySem.Builtin

/-- a list's reverse iterator -/
def IsRev (h : Heap) (it l : Addr) (k : Int) : Prop := ∃ o, h.get? it = some o ∧ o.cls = .type "list_reverseiterator" ∧ o.data = .fields #[.ref l, .int k 0]
theorem IsRev.typeIs {s : Shared} {it l : Addr} {k : Int} (y : IsRev s.heap it l k) : s.TypeIs (.ref it) "list_reverseiterator" := let ⟨o, ho, hc, _⟩ := y; ⟨o, ho, hc⟩
theorem slot_rev_next : Slot "list_reverseiterator" "__next__" "list_reverseiterator.__next__" :=
  .of (owner := "list_reverseiterator") (n := "__next__") (by rw [typeLookup_type, builtinLookup_eq_fast]; kernel_rfl) (by decide +kernel) (by decide +kernel) (by decide +kernel)
    (by first | exact .inl (by decide +kernel) | exact .inr (by decide +kernel)) (by rw [isSubtype_type]; kernel_rfl)
theorem slot_rev_iter : Slot "list_reverseiterator" "__iter__" "list_reverseiterator.__iter__" :=
  .of (owner := "list_reverseiterator") (n := "__iter__") (by rw [typeLookup_type, builtinLookup_eq_fast]; kernel_rfl) (by decide +kernel) (by decide +kernel) (by decide +kernel)
    (by first | exact .inl (by decide +kernel) | exact .inr (by decide +kernel)) (by rw [isSubtype_type]; kernel_rfl)
theorem entry_rev_next : entryFor table "list_reverseiterator.__next__" = some Builtin.«list_reverseiterator.__next__» := entryFor_of_tree (by kernel_rfl)
theorem entry_rev_iter : entryFor table "list_reverseiterator.__iter__" = some Builtin.«dict_keyiterator.__iter__» :=
  entryFor_alias (id' := "dict_keyiterator.__iter__") (by kernel_rfl) (by first | rfl | decide +kernel) (by decide +kernel) (by kernel_rfl)
theorem args_rev_next (a : Value) : argsOk "list_reverseiterator.__next__" ⟨[a], []⟩ := by unfold argsOk; kernel_rfl
theorem args_rev_iter (a : Value) : argsOk "list_reverseiterator.__iter__" ⟨[a], []⟩ := by unfold argsOk; kernel_rfl

section
variable {prog : Program} {w : World} {A : Around} {E : Value → Shared → Prop} {s : Shared}
theorem pyIter_rev {it l : Addr} {k : Int} {Q : Value → Shared → Prop} (hit : IsRev s.heap it l k) (hQ : Q (.ref it) s) : wpAny (model prog w) A (pyIter (.ref it)) Q E s := by
  refine wpAny_pyIter_slot hit.typeIs slot_rev_iter (wpAny_call_entry slot_rev_iter hit.typeIs entry_rev_iter ?_ (args_rev_iter _))
  show wpAny _ _ (ret (.ref it)) _ _ s
  exact wpAny_pure ⟨_, rfl, "list_reverseiterator", _, hit.typeIs, slot_rev_next.lookup, hQ⟩
theorem pyNext_rev_item {it l : Addr} {k : Nat} {items : Array Value} {x : Value} {Q : Option Value → Shared → Prop} (hit : IsRev s.heap it l k) (hl : s.heap.IsList l items) (hx : items[k]? = some x)
    (hQ : ∀ h', IsRev h' it l ((k : Int) - 1) → Heap.SameBut it s.heap h' → Q (some x) { s with heap := h' }) : wpAny (model prog w) A (pyNext (.ref it)) Q E s := by
  obtain ⟨o, ho, hc, hd⟩ := id hit
  obtain ⟨ol, hol, _, nl, hdl⟩ := hl
  unfold pyNext
  refine wpAny_bind (wpAny_attempt (wpAny_callSpecial?_slot (name := Str.ofString "__next__") hit.typeIs slot_rev_next
    (wpAny_call_entry slot_rev_next hit.typeIs entry_rev_next ?_ (args_rev_next _))))
  show wpAny _ _ (field (.ref it) 1 >>= _) _ _ s
  refine wpAny_bind (wpAny_field ho hd (x := .int k 0) rfl ?_)
  show wpAny _ _ (if (k : Int) < 0 then _ else _) _ _ s
  rw [if_neg (show ¬ ((k : Int) < 0) by (first | lia | omega))]
  show wpAny _ _ (field (.ref it) 0 >>= _) _ _ s
  refine wpAny_bind (wpAny_field ho hd (x := .ref l) rfl ?_)
  show wpAny _ _ (seqItems? (.ref l) >>= _) _ _ s
  refine wpAny_bind (wpAny_seqItems hol hdl ?_)
  simp only [Int.toNat_natCast, hx]
  refine wpAny_bind (wpAny_setField ho hd (by simp) (wpAny_pure ⟨x, rfl, wpAny_pure (hQ _ ?_ (Heap.SameBut.update ..))⟩))
  exact ⟨_, Heap.get?_update_self _ ho (Obj.isFreed_of_fields (Obj.data_mapFields hd _)), (Obj.cls_mapFields ..).trans hc, by
    rw [Obj.data_mapFields hd]; simp [rawInt]⟩
theorem pyNext_rev_end {it l : Addr} {Q : Option Value → Shared → Prop} (hh : A.handled = none) (hit : IsRev s.heap it l (-1))
    (hQ : ∀ h', Heap.ExtBut it s.heap h' → Q none { s with heap := h' }) : wpAny (model prog w) A (pyNext (.ref it)) Q E s := by
  obtain ⟨o, ho, hc, hd⟩ := id hit
  unfold pyNext
  refine wpAny_bind (wpAny_attempt (wpAny_callSpecial?_slot (name := Str.ofString "__next__") hit.typeIs slot_rev_next
    (wpAny_call_entry slot_rev_next hit.typeIs entry_rev_next ?_ (args_rev_next _))))
  show wpAny _ _ (field (.ref it) 1 >>= _) _ _ s
  refine wpAny_bind (wpAny_field ho hd (x := .int (-1) 0) rfl ?_)
  show wpAny _ _ (if (-1 : Int) < 0 then _ else _) _ _ s
  rw [if_pos (show ((-1 : Int) < 0) by decide)]
  refine wpAny_bind (wpAny_rule ?_)
  refine wpAny_bind ?_
  show wpAny _ _ (newExc (.type "StopIteration") [] >>= _) _ _ _
  refine wpAny_bind ?_
  simp only [newExc, newTuple]
  refine wpAny_bind (wpAny_newObj_type ?_ (by size_fits))
  refine wpAny_bind (m := firstArgMember _ _) (wpAny_of_eq (a := Value.none) (by first | rfl | (simp only [firstArgMember]; rfl)) ?_)
  refine wpAny_newObj_type ?_ (by size_fits)
  simp only [raiseNew]
  refine wpAny_bind (wpAny_handled ?_)
  rw [show A.in1.handled = none from hh]
  refine wpAny_bind (wpAny_pure (wpAny_throw ?_))
  refine wpAny_bind (wpAny_isInstance (T := "StopIteration") (b := true) ⟨_, Heap.get?_push_size _ rfl, rfl⟩ isSubtype_stop ?_)
  exact wpAny_pure (hQ _ (fun b o hb e => Heap.get?_push_of_some _ (Heap.get?_push_of_some _ e)))
end
end Mine
namespace Mine
open PySem PySem.Spec PySem.Calls PyProof.Rows PySem.W PySem.Builtin
theorem mro_reversed : mroOf (.type "reversed") = pure [.type "reversed", .type "object"] := by rw [mroOf_type]; kernel_rfl
theorem lookup_reversed_new : typeLookup (.type "reversed") "__new__" = pure (some (.builtin "reversed.__new__")) := by rw [typeLookup_type, builtinLookup_eq_fast]; kernel_rfl
theorem entry_reversed_new : entryFor table "reversed.__new__" = some Builtin.«reversed.__new__» := entryFor_of_tree (by kernel_rfl)
section
variable {prog : Program} {w : World} {A : Around} {E : Value → Shared → Prop} {s : Shared}
theorem call_reversed {l : Addr} {items : Array Value} {n : Nat} {Q : Value → Shared → Prop} (hl : s.heap.get? l = some { cls := .type "list", data := .seq items n })
    (hQ : Q (.ref s.heap.objs.size) { s with heap := s.heap.push { cls := .type "list_reverseiterator", data := .fields #[.ref l, rawInt (((items.size : Nat) : Int) - 1)] } }) :
    wpAny (model prog w) A (call (.type "reversed") [.ref l]) Q E s := by
  have hmade : Bind.madeBy (.type "reversed") = pure (some "reversed.__new__") := madeBy_type mro_reversed lookup_reversed_new (by decide +kernel)
  have hmro := mro_reversed
  have h1 : (Value.type "reversed" == Value.type "type") = false := by decide +kernel
  have h2 : ((Manifest.find? "reversed").bind (·.mro.findSome? fun t => (Manifest.find? t).bind fun b => if b.noNew then some true else if b.attrs.any (·.1 == "__new__") then some false else none)).getD false = false := by decide +kernel
  have hct : checkTypeCall "reversed" ⟨[.ref l], []⟩ = pure () := by kernel_rfl
  have hcn : checkBuiltinCall "reversed.__new__" ⟨[.type "reversed", .ref l], []⟩ = pure () := by kernel_rfl
  refine wpAny_call (codeAny_of_tree ?_)
  show wpAny _ _ (callAny (.type "reversed") _) _ _ _
  refine wpAny_pure ⟨Code.quiet_builtin _ (by decide +kernel), codeAny_builtin F.entry_type_call ?_⟩
  rw [Around.under_plain (weight_type_call_type "reversed" [.ref l] []) (units_type_call_type "reversed" [.ref l] [])]
  repeat (any_goals (first | assumption | wp_step))
  have hsub : isSubtype (.type "reversed") (.type "reversed") = pure true := by rw [isSubtype_type]; kernel_rfl
  have hsub2 : isSubtype (.type "list_reverseiterator") (.type "reversed") = pure false := by rw [isSubtype_type]; kernel_rfl
  have f1 := PySem.F.slot_list_reversed.lookup
  have f2 := PySem.F.slot_list_reversed.bind (.ref l)
  have hT : s.TypeIs (.ref l) "list" := ⟨_, hl, rfl⟩
  refine codeAny_call_builtin (by decide +kernel) entry_reversed_new (wpAny_of_eq hcn ?_)
  show wpAny _ _ (Builtin.«reversed.__new__» ⟨[.type "reversed", .ref l], []⟩) _ _ _
  have hnew : SmallTypes.newClass "reversed" ⟨[.type "reversed", .ref l], []⟩ = pure (Value.type "reversed", [Value.ref l]) := by
    unfold SmallTypes.newClass
    have e : isType (.type "reversed") = pure true := rfl
    simp only [e, hsub]
    rfl
  unfold Builtin.«reversed.__new__»
  refine wpAny_bind (wpAny_of_eq hnew ?_)
  refine wpAny_bind (wpAny_of_eq (a := ()) rfl ?_)
  refine wpAny_bind (wpAny_of_eq (a := ()) rfl ?_)
  refine wpAny_bind (wpAny_specialOf hT f1 ?_)
  refine wpAny_bind (wpAny_of_eq f2 ?_)
  refine wpAny_bind (wpAny_rule ?_)
  have hcall : codeAny (model prog w) A.in1.in1 (.call (.builtin "list.__reversed__") ⟨[.ref l], []⟩) (fun r s' => r = .ok (.ret (.ref s.heap.objs.size)) ∧ s' = { s with heap := s.heap.push { cls := .type "list_reverseiterator", data := .fields #[.ref l, rawInt (((items.size : Nat) : Int) - 1)] } }) s :=
    codeAny_call_builtin PySem.F.slot_list_reversed.plain PySem.F.entry_list_reversed (PySem.F.slot_list_reversed.check _ _ _ _ _ _ _ _ hT (PySem.F.args_list_reversed_1 _) (AutoListH.list___reversed___list_0 l items n prog w A.in1.in1 (fun r s' => r = .ok (.ret (.ref s.heap.objs.size)) ∧ s' = { s with heap := s.heap.push { cls := .type "list_reverseiterator", data := .fields #[.ref l, rawInt (((items.size : Nat) : Int) - 1)] } }) s ⟨hl, rfl, rfl⟩))
  refine wpAny_bind (wpAny_runValue (codeAny_mono hcall fun r s₁ hr => ?_))
  obtain ⟨rfl, rfl⟩ := hr
  refine wpAny_pure ?_
  refine wpAny_bind (wpAny_isInstance (T := "list_reverseiterator") (b := false) ⟨_, Heap.get?_push_size _ rfl, rfl⟩ hsub2 ?_)
  refine wpAny_bind (wpAny_rule ?_)
  exact wpAny_pure hQ
end

section
variable {c : Cx} {A : Around} {nm : Str} {sc : Scope} {L fa : Addr} {cd : Value} {g h : Heap} {ρ : Locs} {X : Value → Heap → Prop}
/-- reversed(own list) -/
theorem iter_rev {x : Str} {l : Addr} {ds : List PyData} {p px pos : Pos} (S : St g L h ρ (some (x, l, ds))) (T : c.T g) (B : Bn c) (hh : A.handled = none)
    (hk : sc.kind = .function := by rfl) (hg : (envOf nm sc L fa cd).kindOf (Str.ofString "reversed") = some .globalImplicit := by rfl) (hl : (envOf nm sc L fa cd).kindOf x = some .local := by rfl) (hd : (x == ("__debug__" : Str)) = false := by decide) :
    Iter c.prog c.w A (envOf nm sc L fa cd) [L] h (.Call (.Name (Str.ofString "reversed") p) [.Name x px] [] pos) ds.reverse X := by
  intro s Q E k q x'
  refine wpAny_Call_NameR ((ev_bname (S.keep k) T B (x := Str.ofString "reversed") (v := .type "reversed") (by decide) (by decide +kernel) (by decide) hk hg (by decide)).seq Keep.rfl (fun v h1 i k1 r => ?_) x')
  subst r
  refine PyProof.Rows.callWith_type1 (PyProof.Rows.args_cons ((ev_mutL ((S.keep k).keep k1) hk hl hd (X := X)).go { s with heap := h1, toks := i } _ E Keep.rfl (fun v h2 j k2 r => ?_) (fun y h2 j r => x' y h2 j r)) rfl) rfl rfl
  subst r
  refine PyProof.Rows.args_nil ?_
  have S2 := ((S.keep k).keep k1).keep k2
  obtain ⟨m, F, _, hm⟩ := S2.ex
  obtain ⟨_, hgl, hf, items, ⟨n, pl⟩, rr⟩ := hm _ rfl
  have hlL : l ≠ L := L_ne_list F ⟨n, pl⟩
  have hsz : items.size = ds.length := by have := rr.len; simpa using this
  refine call_reversed (s := { s with heap := h2, toks := j }) pl ?_
  have hitn : h2.get? h2.objs.size = none := size_none h2
  have hitl : l ≠ h2.objs.size := fun e => by rw [← e] at hitn; dsimp only at pl; rw [hitn] at pl; cases pl
  have hitL : h2.objs.size ≠ L := fun e => by
    obtain ⟨o, ho⟩ := L_some F
    rw [← e, hitn] at ho; cases ho
  have hrev0 : IsRev (h2.push { cls := .type "list_reverseiterator", data := .fields #[.ref l, rawInt (((items.size : Nat) : Int) - 1)] }) h2.objs.size l ((ds.length : Int) - 1 - (0 : Nat)) := ⟨_, Heap.get?_push_size _ rfl, rfl, by rw [hsz]; simp [rawInt]⟩
  refine pyIter_rev hrev0 ?_
  have nt : NoTup h2.objs.size (h2.push { cls := .type "list_reverseiterator", data := .fields #[.ref l, rawInt (((items.size : Nat) : Int) - 1)] }) := by
    intro o' ho' hc' vs n' hd'
    rw [Heap.get?_push_size _ rfl] at ho'; cases ho'
    have hq : (Value.type "list_reverseiterator") = Value.type "tuple" := hc'
    exact absurd hq (by decide +kernel)
  have ntL := noTup_L (F.after (Keep.push Keep.rfl { cls := .type "list_reverseiterator", data := .fields #[.ref l, rawInt (((items.size : Nat) : Int) - 1)] }))
  have r0 := rr.keep (Keep.push Keep.rfl { cls := .type "list_reverseiterator", data := .fields #[.ref l, rawInt (((items.size : Nat) : Int) - 1)] })
  refine q h2.objs.size (fun i h' => IsRev h' h2.objs.size l ((ds.length : Int) - 1 - i) ∧ h'.IsList l items ∧ ∀ h'', Kp (h2.objs.size :: [L]) h' h'' → RdL ds items.toList h'') _ _ ((Keep.trans k1 k2).push _) ?_ ⟨hrev0, ⟨_, Heap.get?_push_of_some _ pl, rfl, n, rfl⟩, fun h'' kp => rdl_flat_kp kp hf (fun a ha => ?_) r0⟩ ((Keep.trans k1 k2).none hitn)
  · refine ⟨?_, ?_, ?_, ?_, ?_⟩
    · intro i d s' Q' E' hd' hI q'
      obtain ⟨a1, a2, a3⟩ := hI
      have hi : i < ds.length := by have := List.getElem?_eq_some_iff.mp hd'; obtain ⟨h, _⟩ := this; simpa using h
      have hdd : ds[ds.length - 1 - i]? = some d := by rw [List.getElem?_reverse hi] at hd'; exact hd'
      obtain ⟨v, hv, _⟩ := (a3 s'.heap Kp.rfl).at hdd
      have ek : ((ds.length : Int) - 1 - i) = ((ds.length - 1 - i : Nat) : Int) := by (first | lia | omega)
      rw [ek] at a1
      refine pyNext_rev_item a1 a2 (x := v) (by simpa using hv) (fun h'' hit'' hsb => ?_)
      have kp := kp_same hsb
      have kp2 : Kp (h2.objs.size :: [L]) s'.heap h'' := kp.mono fun b hb => by rw [List.mem_singleton] at hb; subst hb; exact .head _
      have r'' : RdL ds items.toList h'' := a3 h'' kp2
      obtain ⟨v', hv', rv⟩ := r''.at hdd
      rw [hv] at hv'; cases hv'
      refine q' v h'' s'.toks ⟨?_, isList_kp kp (by simpa using hitl) a2, fun h3 kp3 => a3 h3 (kp2.trans kp3)⟩ kp rv
      have e2 : ((ds.length : Int) - 1 - ((i + 1 : Nat) : Int)) = ((ds.length - 1 - i : Nat) : Int) - 1 := by (first | lia | omega)
      rw [e2]; exact hit''
    · intro s' Q' E' hI q'
      obtain ⟨a1, a2, a3⟩ := hI
      have ek : ((ds.length : Int) - 1 - (ds.reverse.length : Nat)) = -1 := by simp; (first | lia | omega)
      rw [ek] at a1
      exact pyNext_rev_end hh a1 (fun h'' he => q' h'' s'.toks (kp_ext he))
    · intro i ha hb hI kp
      obtain ⟨⟨o, ho, hc, hd⟩, a2, a3⟩ := hI
      exact ⟨⟨o, kp _ _ (by simpa using hitL) ho, hc, hd⟩, isList_kp kp (by simpa using hlL) a2, fun h3 kp3 => a3 h3 ((kp.mono fun b hb => .tail _ hb).trans kp3)⟩
    · intro i ha hI
      obtain ⟨⟨o, ho, hc, hd⟩, _⟩ := hI
      exact odd_fields ho hd
    · intro i s' elts x1 pos T Q' E' hI q'
      obtain ⟨⟨o, ho, hc, hd⟩, _⟩ := hI
      unfold letOwnedTupleGo
      refine wpAny_bind (wpAny_load ho ?_)
      rw [hc, hd]
      refine wpAny_ite_false ?_ (wpAny_pure q')
      simp
  · rcases List.mem_cons.mp ha with e | e
    · subst e; exact nt
    · rw [List.mem_singleton] at e; subst e; exact ntL
end
end Mine

namespace Mine
open PySem PySem.Spec PySem.Calls PyProof.Rows PySem.W

section
variable {prog : Program} {w : World} {A : Around} {env : Env} {h : Heap} {X : Value → Heap → Prop} {n : Nat}
/-- str + str -/
theorem ev_adds {l r : Expr} {pos : Pos} {a b : Str} (e1 : Ev (model prog w) A env h l (Rd (.str a)) X) (e2 : Ev (model prog w) A env h r (Rd (.str b)) X) (hn : a.length + b.length ≤ sizeLine) :
    Ev (model prog w) A env h (.BinOp l .Add r pos) (Rd (.str (a ++ b))) X := ev_bin e1 e2 fun v1 v2 h' k r1 r2 => by
  obtain ⟨t, rfl⟩ := rd_str r1; obtain ⟨u, rfl⟩ := rd_str r2
  exact EvT.ofS fun s _ _ _ q => PyProof.Rows.add_str (fun t' k => q _ k ⟨_, .str _ _⟩) hn
/-- str not in str -/
theorem tr_notins {l r : Expr} {pos : Pos} {a b : Str} (e1 : Ev (model prog w) A env h l (Rd (.str a)) X) (e2 : Ev (model prog w) A env h r (Rd (.str b)) X) (hm : pl r = true := by rfl) :
    Tr (model prog w) A env h (.Compare l [.NotIn] [r] pos) (!Txt.contains b a) X := tr_cmp e1 e2 (fun v1 v2 h' k r1 r2 => by
  obtain ⟨t, rfl⟩ := rd_str r1; obtain ⟨u, rfl⟩ := rd_str r2
  exact EvT.ofS fun s _ _ _ q => P.notIn_str (q _ s.toks ⟨_, .bool _⟩)) hm
/-- an item of a str -/
theorem ev_sidx {v i : Expr} {pos : Pos} {x : Str} {k : Int} (e1 : Ev (model prog w) A env h v (Rd (.str x)) X) (e2 : Ev (model prog w) A env h i (Rd (.int k)) X) (h0 : 0 ≤ k) (h1 : k < x.length) (hf : k < 2 ^ 62)
    (hs : pl i = true := by rfl) (ht : ∀ o r, letTemporaryGo v o r = pure () := by intro _ _; rfl) : Ev (model prog w) A env h (.Subscript v i pos) (Rd (.str (Txt.item x k))) X := by
  refine ⟨fun s Q E k' q x' => ?_⟩
  refine Subscript_ (EvT.two e1 e2 rd_mono (v := fun a b => subscriptTail v i a b) (R' := Rd (.str (Txt.item x k))) (fun v1 v2 h' kk r1 r2 => ?_) k' q x')
  obtain ⟨u, rfl⟩ := rd_int r2
  obtain ⟨t, rfl⟩ := rd_str r1
  refine EvT.ofS fun s' Q' E' k1 q1 => item_str (by simp only [fitsSsize, decide_eq_true_eq, Bool.and_eq_true, Bool.not_eq_true', Bool.or_eq_false_iff, decide_eq_false_iff_not]; (first | lia | omega)) (by (first | lia | omega)) h1 (fun _ => q1 _ _ ⟨_, .str _ _⟩) (pl_sub hs) (fun r => ht _ r)
end

section
variable {c : Cx} {A : Around} {nm : Str} {sc : Scope} {L fa : Addr} {cd : Value} {g h : Heap} {ρ : Locs} {μ : Mut} {X : Value → Heap → Prop}
/-- a constant of the text -/
theorem ev_gconst {x : Str} {pos : Pos} {d : PyData} (S : St g L h ρ μ) (T : c.T g) (hv : valOf c.p x = some d)
    (hk : sc.kind = .function := by rfl) (hx : (envOf nm sc L fa cd).kindOf x = some .globalImplicit := by rfl) (hd : (x == ("__debug__" : Str)) = false := by decide) :
    Ev c.M A (envOf nm sc L fa cd) h (.Name x pos) (Rd d) X := by
  obtain ⟨v, hm, hr⟩ := T.const x d hv
  exact (ev_gname S T hm hk hx hd).mono fun u h' _ e => by subst e; exact ⟨_, hr h'⟩
/-- str(int), int(text) -/
theorem ev_str1 {e : Expr} {p pos : Pos} {a : Int} (S : St g L h ρ μ) (T : c.T g) (B : Bn c) (e1 : Ev c.M A (envOf nm sc L fa cd) h e (Rd (.int a)) X) (ha : a.natAbs.log2 < 1920)
    (hk : sc.kind = .function := by rfl) (hg : (envOf nm sc L fa cd).kindOf (Str.ofString "str") = some .globalImplicit := by rfl) (he : pl e = true := by rfl) :
    Ev c.M A (envOf nm sc L fa cd) h (.Call (.Name (Str.ofString "str") p) [e] [] pos) (Rd (.str (Str.ofString (toString a)))) X :=
  ev_tcall S T B (x := Str.ofString "str") (id := "str") (by decide) (by decide +kernel) (evl_cons e1 evl_nil he) (fun vs h' k r => by
    obtain ⟨v, r', rfl, rd, rn⟩ := r.uncons
    have := rn.unnil
    subst this
    obtain ⟨t, rfl⟩ := rd_int rd
    exact EvT.ofS fun s _ _ _ q => P.str_of_int ha (q _ _ ⟨_, .str _ _⟩)) (by decide) hk hg (by decide) he rfl
theorem ev_int1 {e : Expr} {p pos : Pos} {x : Str} {a : Int} (S : St g L h ρ μ) (T : c.T g) (B : Bn c) (e1 : Ev c.M A (envOf nm sc L fa cd) h e (Rd (.str x)) X) (ha : PySem.intText? x = some a) (hl : x.length ≤ 640)
    (hk : sc.kind = .function := by rfl) (hg : (envOf nm sc L fa cd).kindOf (Str.ofString "int") = some .globalImplicit := by rfl) (he : pl e = true := by rfl) :
    Ev c.M A (envOf nm sc L fa cd) h (.Call (.Name (Str.ofString "int") p) [e] [] pos) (Rd (.int a)) X :=
  ev_tcall S T B (x := Str.ofString "int") (id := "int") (by decide) (by decide +kernel) (evl_cons e1 evl_nil he) (fun vs h' k r => by
    obtain ⟨v, r', rfl, rd, rn⟩ := r.uncons
    have := rn.unnil
    subst this
    obtain ⟨t, rfl⟩ := rd_str rd
    exact EvT.ofS fun s _ _ _ q => KIN.call_text ha hl (q _ _ ⟨_, .int _ _⟩)) (by decide) hk hg (by decide) he rfl
end

section
variable {prog : Program} {w : World} {A : Around} {env : Env} {h : Heap} {X : Value → Heap → Prop}
theorem str_typ {x : Str} : ∀ v (s : Shared), Rd (.str x) v s.heap → s.TypeIs v "str" ∧ (∀ a, v = .ref a → ∃ ob, s.heap.get? a = some ob ∧ ob.dict = none) := fun v s r => by
  obtain ⟨t, rfl⟩ := rd_str r
  exact ⟨typeIs_str _ _ _, fun a e => nomatch e⟩
end

section
variable {prog : Program} {w : World} {A : Around} {E : Value → Shared → Prop} {s : Shared}
end

section
variable {prog : Program} {w : World} {A : Around} {nm : Str} {sc : Scope} {L fa : Addr} {cd : Value} {g h : Heap} {ρ : Locs} {X : Value → Heap → Prop} {Ws : List Addr} {P : Flow → Heap → Prop} {rest : List Stmt}
end
end Mine

namespace Mine
open PySem PySem.Spec PySem.Calls PyProof.Rows PySem.W

theorem str_ext {x y : Str} (h : x.cps.toList = y.cps.toList) : x = y := by
  obtain ⟨a⟩ := x; obtain ⟨b⟩ := y
  congr 1
  exact Array.toList_inj.mp h
theorem str_app (x y : Str) : (x ++ y).cps.toList = x.cps.toList ++ y.cps.toList := by
  obtain ⟨a⟩ := x; obtain ⟨b⟩ := y
  show (a ++ b).toList = _
  simp
theorem str_len (x : Str) : x.length = x.cps.toList.length := by simp [Str.length]
/-- a number's signs -/
abbrev tS (m : Int) : Str := Str.ofString (toString m)
def dg (n : Nat) : List Nat := (Nat.toDigits 10 n).map Char.toNat
theorem tS_cps {m : Int} (h : 0 ≤ m) : (tS m).cps.toList = dg m.toNat := by
  obtain ⟨n, rfl⟩ := Int.eq_ofNat_of_zero_le h
  exact KIN.signs_num n
theorem dg_lt {n : Nat} (h : n < 10) : dg n = [48 + n] := by
  unfold dg
  rw [Nat.toDigits_of_lt_base h]
  have : ∀ d : Nat, d < 10 → [(Nat.digitChar d).toNat] = [48 + d] := by decide
  exact this n h
theorem dg_ge {n : Nat} (h : 10 ≤ n) : dg n = dg (n / 10) ++ [48 + n % 10] := by
  have hm : n % 10 < 10 := Nat.mod_lt n (by decide)
  have t : Nat.toDigits 10 (n / 10) ++ Nat.toDigits 10 (n % 10) = Nat.toDigits 10 (10 * (n / 10) + n % 10) := Nat.toDigits_append_toDigits (by decide) (by (first | lia | omega)) hm
  rw [Nat.div_add_mod] at t
  have := dg_lt hm
  unfold dg at this ⊢
  rw [← t, List.map_append, this]
theorem dg_props (n : Nat) : (∀ c ∈ dg n, 48 ≤ c ∧ c ≤ 57) ∧ dg n ≠ [] ∧ (1 ≤ n → (dg n)[0]? ≠ some 48) := by
  induction n using Nat.strongRecOn with
  | _ n ih =>
    by_cases h : n < 10
    · rw [dg_lt h]
      refine ⟨fun c hc => ?_, by simp, fun h1 e => ?_⟩
      · rw [List.mem_singleton] at hc; (first | lia | omega)
      · simp at e; (first | lia | omega)
    · obtain ⟨a, b, c⟩ := ih (n / 10) (by (first | lia | omega))
      rw [dg_ge (by (first | lia | omega))]
      refine ⟨fun x hx => ?_, by simp, fun h1 e => ?_⟩
      · rcases List.mem_append.mp hx with q | q
        · exact a x q
        · rw [List.mem_singleton] at q; (first | lia | omega)
      · have hl : 0 < (dg (n / 10)).length := List.length_pos_iff.mpr b
        rw [List.getElem?_append_left hl] at e
        exact c (by (first | lia | omega)) e
theorem dg_len : ∀ (k n : Nat), n < 10 ^ (k + 1) → (dg n).length ≤ k + 1
  | 0, n, h => by rw [dg_lt (by simpa using h)]; simp
  | k + 1, n, h => by
    by_cases h' : n < 10
    · rw [dg_lt h']; simp
    · rw [dg_ge (by (first | lia | omega))]
      have := dg_len k (n / 10) (by rw [Nat.pow_succ] at h; (first | lia | omega))
      simp; (first | lia | omega)
theorem tS_len {m : Int} {k : Nat} (h : 0 ≤ m) (h1 : m < 10 ^ (k + 1)) : (tS m).length ≤ k + 1 := by
  rw [str_len, tS_cps h]
  refine dg_len k _ ?_
  have : ((m.toNat : Nat) : Int) < 10 ^ (k + 1) := by (first | lia | omega)
  exact_mod_cast this
/-- a run of a path, in signs -/
def sg (b : Bool) : Str := if b then "R" else "L"
theorem tS_item0 {m : Int} (h : 1 ≤ m) : ∃ c : Nat, Txt.item (tS m) 0 = ⟨#[c]⟩ ∧ c ≠ 48 := by
  refine ⟨_, rfl, ?_⟩
  have hc := tS_cps (m := m) (by (first | lia | omega))
  obtain ⟨a, b, d⟩ := dg_props m.toNat
  have hl : 0 < (tS m).cps.size := by
    have : 0 < (tS m).cps.toList.length := by rw [hc]; exact List.length_pos_iff.mpr b
    simpa using this
  have e : Txt.charAt (tS m) 0 = (dg m.toNat)[0]? := by
    rw [← hc]
    simp [Txt.charAt, seqIndex?, Str.length, hl]
  rw [e]
  intro q
  apply d (by (first | lia | omega))
  cases hq : (dg m.toNat)[0]? with
  | none => rw [List.getElem?_eq_none_iff] at hq; exact absurd (List.length_pos_iff.mpr b) (by (first | lia | omega))
  | some c => rw [hq] at q; exact congrArg some q
/-- plain signs -/
def asc (x : Str) : Prop := ∀ c ∈ x.cps.toList, c < 128
theorem asc_shaped {x : Str} (h : asc x) : SeqAt.shaped (.str x) = true := by
  have h1 : PyData.canLay0 (.str x) = true := by
    show x.cps.all (fun c => decide (c < 0x110000)) = true
    rw [← Array.all_toList, List.all_eq_true]
    intro c hc
    have := h c hc
    simp; (first | lia | omega)
  unfold SeqAt.shaped
  have h2 : PyData.depth (.str x) = 0 := rfl
  rw [h1, h2]; rfl
theorem log_ok {m : Int} (h : 0 ≤ m) (h1 : m ≤ 10 ^ 60) : m.natAbs.log2 < 1920 := by
  by_cases h0 : m.natAbs = 0
  · rw [h0]; decide
  · refine (Nat.log2_lt h0).mpr ?_
    have q : (10 : Nat) ^ 60 < 2 ^ 1920 := by decide +kernel
    have : m.natAbs ≤ 10 ^ 60 := by
      have : ((m.natAbs : Nat) : Int) ≤ 10 ^ 60 := by (first | lia | omega)
      exact_mod_cast this
    (first | lia | omega)
theorem fig_in {c : Nat} (h : 48 ≤ c ∧ c ≤ 57) : Txt.contains (Str.ofString "0123456789") ⟨#[c]⟩ = true := by
  have : ∀ d : Nat, d < 10 → Txt.contains (Str.ofString "0123456789") ⟨#[48 + d]⟩ = true := by decide +kernel
  have := this (c - 48) (by (first | lia | omega))
  rwa [show 48 + (c - 48) = c by (first | lia | omega)] at this

def asg : Option Bool → Str
  | none => ""
  | some b => sg b
end Mine

namespace Mine
open PySem PySem.Spec PySem.Calls PyProof.Rows PySem.W PySem.Builtin PySem.Builtin.Str PySem.NumText

section
variable {prog : Program} {w : World} {A : Around} {env : Env} {h : Heap} {X : Value → Heap → Prop}
/-- line.partition(sep) -/
theorem ev_partition {o e : Expr} {ap pos : Pos} {x y : PySem.Str} (e1 : Ev (model prog w) A env h o (Rd (.str x)) X) (e2 : Ev (model prog w) A env h e (Rd (.str y)) X) (hy : (y.length == 0) = false) (hn : x.length ≤ sizeLine)
    (hbase : attributeBase o "partition" env (eval o env) = eval o env := by rfl) (hline : (ap.endLine == pos.line) = true := by rfl) (he : pl e = true := by rfl) :
    Ev (model prog w) A env h (.Call (.Attribute o "partition" ap) [e] [] pos) (Rd (.tuple [.str (Txt.partition x y).1, .str (Txt.partition x y).2.1, .str (Txt.partition x y).2.2])) X :=
  ev_meth1 PySem.F.plainAttrs_str PySem.F.slot_str_partition PySem.F.type_str_partition e1 e2 (fun _ _ _ k r => r.keep k) str_typ (fun v1 v2 h' k r1 r2 => by
    obtain ⟨t, rfl⟩ := rd_str r1
    obtain ⟨u, rfl⟩ := rd_str r2
    refine ⟨fun s Q E kk q x' => call_meets PySem.F.slot_str_partition (typeIs_str _ _ _) PySem.F.entry_str_partition (PySem.F.args_str_partition_2 _ _) (meets_str_partition x y t u hy hn) ?_⟩
    unfold Txt.partition at q
    revert q
    cases occurrences x y 0 x.length 1 with
    | nil => exact fun q => q _ _ _ (Keep.push Keep.rfl _) ⟨_, .tuple (Heap.get?_push_size _ rfl) rfl rfl (.cons (.str _ _) (.cons (.str _ _) (.cons (.str _ _) .nil)))⟩
    | cons i r => exact fun q => q _ _ _ (Keep.push Keep.rfl _) ⟨_, .tuple (Heap.get?_push_size _ rfl) rfl rfl (.cons (.str _ _) (.cons (.str _ _) (.cons (.str _ _) .nil)))⟩) hbase hline he
/-- '0123456789'.index(sign) -/
theorem fig_at {c : Nat} (h : 48 ≤ c ∧ c ≤ 57) : ∃ rest, occurrences (PySem.Str.ofString "0123456789") ⟨#[c]⟩ 0 (PySem.Str.ofString "0123456789").length 1 = (c - 48) :: rest := by
  have : ∀ d : Nat, d < 10 → (occurrences (PySem.Str.ofString "0123456789") ⟨#[48 + d]⟩ 0 (PySem.Str.ofString "0123456789").length 1).head? = some d := by decide +kernel
  have := this (c - 48) (by (first | lia | omega))
  rw [show 48 + (c - 48) = c by (first | lia | omega)] at this
  exact List.head?_eq_some_iff.mp this
theorem ev_figindex {o e : Expr} {ap pos : Pos} {c : Nat} (hc : 48 ≤ c ∧ c ≤ 57) (e1 : Ev (model prog w) A env h o (Rd (.str (PySem.Str.ofString "0123456789"))) X) (e2 : Ev (model prog w) A env h e (Rd (.str ⟨#[c]⟩)) X)
    (hbase : attributeBase o "index" env (eval o env) = eval o env := by rfl) (hline : (ap.endLine == pos.line) = true := by rfl) (he : pl e = true := by rfl) :
    Ev (model prog w) A env h (.Call (.Attribute o "index" ap) [e] [] pos) (Rd (.int ((c - 48 : Nat) : Int))) X :=
  ev_meth1 PySem.F.plainAttrs_str PySem.F.slot_str_index PySem.F.type_str_index e1 e2 (fun _ _ _ k r => r.keep k) str_typ (fun v1 v2 h' k r1 r2 => by
    obtain ⟨t, rfl⟩ := rd_str r1
    obtain ⟨u, rfl⟩ := rd_str r2
    obtain ⟨rest, ho⟩ := fig_at hc
    exact EvT.ofS fun s _ _ kk q => SC.index ho (q _ _ ⟨_, .int _ _⟩)) hbase hline he
/-- x[i:], whatever gives x -/
theorem ev_slice_fromv {v u : Expr} {p pos : Pos} {x : PySem.Str} {j : Int} (e1 : Ev (model prog w) A env h v (Rd (.str x)) X) (e2 : Ev (model prog w) A env h u (Rd (.int j)) X) (hn : x.length ≤ sizeLine)
    (ht : ∀ t r, letTemporaryGo v (.str x t) r = pure () := by intro _ _; rfl) : Ev (model prog w) A env h (.Subscript v (.Slice (some u) none none p) pos) (Rd (.str (Txt.slice x (some j) none))) X := by
  refine ⟨fun s Q E k q x' => ?_⟩
  refine Subscript_ (e1.go s _ E k (fun v1 h1 i1 k1 r1 => ?_) x')
  obtain ⟨t, rfl⟩ := rd_str r1
  refine wpAny_Slice (evalPart_some_step ?_)
  refine (e2.up (k.trans k1)).go { s with heap := h1, toks := i1 } _ E Keep.rfl (fun v2 h2 i2 k2 r2 => ?_) (fun y h i r => x' y h i r)
  obtain ⟨u2, rfl⟩ := rd_int r2
  refine evalPart_none_step (evalPart_none_step ?_)
  exact tail_of_ItemOn (SBH.sliceItem_sn (s := { s with heap := h2, toks := i2 }) (P := fun h' => Keep h2 h') (fun h' ob p => p.push ob) Keep.rfl (fun h' t' k' kp => q _ h' k' (Keep.trans k1 (Keep.trans k2 kp)) ⟨_, .str _ _⟩) hn) (by rfl) (ht t)
end

/-- figures -/
def Dg (x : PySem.Str) : Prop := ∀ c ∈ x.cps.toList, 48 ≤ c ∧ c ≤ 57
abbrev dot : PySem.Str := ⟨#[46]⟩
theorem Dg.free {x : PySem.Str} (h : Dg x) : 46 ∉ x.cps.toList := fun q => by have := h 46 q; (first | lia | omega)
theorem Dg.asc {x : PySem.Str} (h : Dg x) : asc x := fun c hc => by have := h c hc; (first | lia | omega)
theorem part_none {x : PySem.Str} (h : 46 ∉ x.cps.toList) : Txt.partition x dot = (x, PySem.Str.empty, PySem.Str.empty) := by
  rcases partition_whole x dot with ⟨e, _⟩ | ⟨i, _, hi, _⟩
  · exact e
  · exact absurd ((mem_iff_at x 46).mpr ⟨i, hi⟩) h
theorem cut_uniq' : ∀ {a b x y : List Nat}, 46 ∉ a → 46 ∉ b → a ++ 46 :: x = b ++ 46 :: y → a = b ∧ x = y
  | [], [], _, _, _, _, e => ⟨rfl, by simpa using e⟩
  | [], c :: b, _, _, _, hb, e => by simp at e; exact absurd (by rw [← e.1]; exact .head _) hb
  | c :: a, [], _, _, ha, _, e => by simp at e; exact absurd (by rw [e.1]; exact .head _) ha
  | c :: a, d :: b, _, _, ha, hb, e => by
    simp only [List.cons_append, List.cons.injEq] at e
    obtain ⟨q1, q2⟩ := cut_uniq' (fun h => ha (.tail _ h)) (fun h => hb (.tail _ h)) e.2
    exact ⟨by rw [e.1, q1], q2⟩
theorem part_some {a b : PySem.Str} (h : 46 ∉ a.cps.toList) : Txt.partition (a ++ dot ++ b) dot = (a, dot, b) := by
  have hx : (a ++ dot ++ b).cps.toList = a.cps.toList ++ 46 :: b.cps.toList := by rw [str_app, str_app]; simp
  have hs := StrLaws.partition_sum (a ++ dot ++ b) dot
  rcases partition_whole (a ++ dot ++ b) dot with ⟨_, hn⟩ | ⟨i, e, hi, hm⟩
  · have : 46 ∈ (a ++ dot ++ b).cps.toList := by rw [hx]; simp
    obtain ⟨i, hi⟩ := (mem_iff_at _ 46).mp this
    exact absurd hi (hn i)
  · rw [e] at hs ⊢
    dsimp only at hs
    have hf : 46 ∉ (strSub (a ++ dot ++ b) 0 i).cps.toList := by
      intro q
      rw [StrLaws.strSub_toList, List.drop_zero, Nat.sub_zero] at q
      obtain ⟨k, hk, ek⟩ := List.getElem_of_mem q
      have hki : k < i := by simp at hk; (first | lia | omega)
      refine hm k hki ((StrLaws.subAt_one _ 46 k).mpr ?_)
      rw [List.getElem_take] at ek
      rw [List.getElem?_eq_some_iff]
      refine ⟨?_, ek⟩
      simp only [List.length_take] at hk
      exact Nat.lt_of_lt_of_le hk (Nat.min_le_right _ _)
    have hs2 := congrArg (fun z : PySem.Str => z.cps.toList) hs
    simp only [str_app] at hs2
    have hs3 : (strSub (a ++ dot ++ b) 0 i).cps.toList ++ 46 :: (strSub (a ++ dot ++ b) (i + dot.length) (a ++ dot ++ b).length).cps.toList = a.cps.toList ++ 46 :: b.cps.toList := by simpa using hs2
    obtain ⟨q1, q2⟩ := cut_uniq' hf h hs3
    rw [str_ext q1, str_ext q2]
theorem dv_lt : ∀ (n : Nat) (l : List Nat), l.length = n → (∀ c ∈ l, 48 ≤ c ∧ c ≤ 57) → digitsVal l < 10 ^ n
  | 0, l, e, _ => by rw [List.length_eq_zero_iff.mp e]; decide
  | n + 1, l, e, h => by
    obtain ⟨r, c, rfl⟩ : ∃ r c, l = r ++ [c] := ⟨l.dropLast, l.getLast (by intro z; rw [z] at e; cases e), (List.dropLast_concat_getLast _).symm⟩
    have := dv_lt n r (by simpa using e) (fun x hx => h x (List.mem_append_left _ hx))
    have := h c (by simp)
    rw [digitsVal_snoc, Nat.pow_succ]
    (first | lia | omega)
theorem dv_take {l : List Nat} {i c : Nat} (h : l[i]? = some c) : ((digitsVal (l.take (i + 1)) : Nat) : Int) = 10 * ((digitsVal (l.take i) : Nat) : Int) + ((c - 48 : Nat) : Int) := by
  rw [List.take_add_one, h]
  show ((digitsVal (l.take i ++ [c]) : Nat) : Int) = _
  rw [digitsVal_snoc]; (first | lia | omega)
theorem dv_app_take {a b : List Nat} {i c : Nat} (h : b[i]? = some c) : ((digitsVal (a ++ b.take (i + 1)) : Nat) : Int) = 10 * ((digitsVal (a ++ b.take i) : Nat) : Int) + ((c - 48 : Nat) : Int) := by
  rw [List.take_add_one, h]
  show ((digitsVal (a ++ (b.take i ++ [c])) : Nat) : Int) = _
  rw [← List.append_assoc, digitsVal_snoc]; (first | lia | omega)
theorem signs_mem {x : PySem.Str} {i : Nat} {d : PyData} (h : (signsD x)[i]? = some d) : ∃ c, x.cps.toList[i]? = some c ∧ d = .str ⟨#[c]⟩ := by
  simp only [signsD, List.getElem?_map, Option.map_eq_some_iff] at h
  obtain ⟨c, q, rfl⟩ := h
  exact ⟨c, q, rfl⟩
theorem signs_flat (x : PySem.Str) : ∀ d ∈ signsD x, flat d = true := fun d hd => by
  obtain ⟨k, _, rfl⟩ := List.mem_map.mp hd
  rfl
theorem signs_len (x : PySem.Str) : (signsD x).length = x.cps.toList.length := by simp [signsD]
section
variable {c : Cx} {A : Around} {nm : PySem.Str} {sc : Scope} {L fa : Addr} {cd : Value} {g h : Heap} {ρ : Locs} {μ : Mut} {X : Value → Heap → Prop}
theorem ev_lens {e : Expr} {p pos : Pos} {x : PySem.Str} (S : St g L h ρ μ) (T : c.T g) (B : Bn c) (e1 : Ev c.M A (envOf nm sc L fa cd) h e (Rd (.str x)) X) (hk : sc.kind = .function := by rfl) (hg : (envOf nm sc L fa cd).kindOf (PySem.Str.ofString "len") = some .globalImplicit := by rfl)
    (he : pl e = true := by rfl) (hn : x.length < 2 ^ 62 := by (first | lia | omega)) :
    Ev c.M A (envOf nm sc L fa cd) h (.Call (.Name (PySem.Str.ofString "len") p) [e] [] pos) (Rd (.int x.length)) X :=
  ev_bcall S T B (x := PySem.Str.ofString "len") (id := "len") (by decide) (by decide +kernel) (evl_cons e1 evl_nil he) (fun vs h' k r => by
    obtain ⟨v, r', rfl, rd, rn⟩ := r.uncons
    have := rn.unnil
    subst this
    obtain ⟨t, rfl⟩ := rd_str rd
    exact EvT.ofS fun s _ _ _ q => P.len_str (by (first | lia | omega)) (q _ _ ⟨_, .int _ _⟩)) (by decide) hk hg (by decide) he rfl
end

/-- a decimal text: its parts -/
structure Dec (x a t : PySem.Str) (pt : Bool) : Prop where
  eq : x = if pt then a ++ dot ++ t else a
  da : Dg a
  dt : Dg t
  na : a.cps.toList ≠ []
  nt : pt = true → t.cps.toList ≠ []
  tz : pt = false → t = PySem.Str.empty
  lead : 1 < a.length → ∃ c, Txt.item a 0 = ⟨#[c]⟩ ∧ c ≠ 48 ∧ c < 128
  len : a.length + t.length ≤ 60
theorem Dec.part {x a t : PySem.Str} {pt : Bool} (D : Dec x a t pt) : Txt.partition x dot = (a, if pt then dot else PySem.Str.empty, t) := by
  rw [D.eq]
  cases pt with
  | true => exact part_some D.da.free
  | false =>
    rw [D.tz rfl]
    exact part_none D.da.free
theorem Dec.short {x a t : PySem.Str} {pt : Bool} (D : Dec x a t pt) : x.length ≤ 61 := by
  rw [D.eq]
  have := D.len
  cases pt with
  | true =>
    show (a ++ dot ++ t).length ≤ 61
    rw [str_len, str_app, str_app]
    rw [str_len, str_len] at this
    simp at this ⊢; (first | lia | omega)
  | false => show a.length ≤ 61; (first | lia | omega)
theorem item_in {x : PySem.Str} (h : 0 < x.length) : ∃ c ∈ x.cps.toList, Txt.item x 0 = ⟨#[c]⟩ ∧ x.cps.toList[0]? = some c := by
  have hl : 0 < x.cps.size := by simpa [PySem.Str.length] using h
  have e : Txt.charAt x 0 = x.cps.toList[0]? := by simp [Txt.charAt, seqIndex?, PySem.Str.length, hl]
  cases hq : x.cps.toList[0]? with
  | none => rw [List.getElem?_eq_none_iff] at hq; simp at hq; rw [hq] at hl; simp at hl
  | some c =>
    refine ⟨c, List.mem_of_getElem? hq, ?_, rfl⟩
    show (⟨#[(Txt.charAt x 0).getD 0]⟩ : PySem.Str) = _
    rw [e, hq]; rfl
theorem dg_len_ge : ∀ (k n : Nat), 10 ^ k ≤ n → k + 1 ≤ (dg n).length
  | 0, n, h => List.length_pos_iff.mpr (dg_props n).2.1
  | k + 1, n, h => by
    have h10 : 10 ≤ n := by
      have : 0 < 10 ^ k := Nat.pow_pos (by decide)
      rw [Nat.pow_succ] at h; (first | lia | omega)
    rw [dg_ge h10]
    have := dg_len_ge k (n / 10) (by rw [Nat.pow_succ] at h; (first | lia | omega))
    simp; (first | lia | omega)
theorem tS_dg {m : Int} (h : 0 ≤ m) : Dg (tS m) := fun c hc => by rw [tS_cps h] at hc; exact (dg_props m.toNat).1 c hc
theorem tS_ne {m : Int} (h : 0 ≤ m) : (tS m).cps.toList ≠ [] := by rw [tS_cps h]; exact (dg_props m.toNat).2.1
theorem tS_lead {m : Int} (h : 0 ≤ m) (hl : 1 < (tS m).length) : ∃ c, Txt.item (tS m) 0 = ⟨#[c]⟩ ∧ c ≠ 48 ∧ c < 128 := by
  have h1 : 1 ≤ m := by
    rcases Int.lt_or_eq_of_le h with q | q
    · (first | lia | omega)
    · subst q
      exact absurd hl (by decide +kernel)
  obtain ⟨c, e, n⟩ := tS_item0 h1
  obtain ⟨c', m', e', _⟩ := item_in (x := tS m) (by (first | lia | omega))
  rw [e] at e'
  have : c = c' := by simpa using e'
  subst this
  have := tS_dg h c m'
  exact ⟨c, e, n, by (first | lia | omega)⟩
theorem tail_dec {R : Int} {k : Int} (h0 : 10 ^ 58 ≤ R) (h1 : R < 10 ^ 59) (k0 : 1 ≤ k) (k1 : k ≤ 58) : Dg (Txt.slice (tS R) (some (59 - k)) none) ∧ (Txt.slice (tS R) (some (59 - k)) none).length = k.toNat := by
  have hR : 0 ≤ R := by (first | lia | omega)
  have hc := tS_cps hR
  have hlen : (dg R.toNat).length = 59 := by
    have a := dg_len 58 R.toNat (by have : ((R.toNat : Nat) : Int) < 10 ^ 59 := by (first | lia | omega)
                                    exact_mod_cast this)
    have b := dg_len_ge 58 R.toNat (by have : (10 : Int) ^ 58 ≤ ((R.toNat : Nat) : Int) := by (first | lia | omega)
                                       exact_mod_cast this)
    (first | lia | omega)
  have hl : (tS R).length = 59 := by rw [str_len, hc, hlen]
  have e := slice_from_eq (x := tS R) (i := 59 - k) (b := 59) (by (first | lia | omega)) (by rw [hl]; (first | lia | omega)) (by rw [hl]; rfl)
  have ec : (Txt.slice (tS R) (some (59 - k)) none).cps.toList = ((dg R.toNat).drop (59 - k).toNat).take (59 - (59 - k)).toNat := by rw [e]; simp [hc]
  constructor
  · intro c hc'
    rw [ec] at hc'
    exact (dg_props R.toNat).1 c (List.mem_of_mem_drop (List.mem_of_mem_take hc'))
  · rw [str_len, ec, List.length_take, List.length_drop, hlen]; (first | lia | omega)

section
variable {prog : Program} {w : World} {A : Around} {env : Env} {h : Heap} {X : Value → Heap → Prop}
theorem ev_ne {l r : Expr} {pos : Pos} {d1 d2 : PyData} {n : Nat} (rm : Rm A n) (e1 : Ev (model prog w) A env h l (Rd d1) X) (e2 : Ev (model prog w) A env h r (Rd d2) X) (h1 : SeqAt.shaped d1 = true) (h2 : SeqAt.shaped d2 = true)
    (hm : pl r = true := by rfl) : Ev (model prog w) A env h (.Compare l [.NotEq] [r] pos) (Rd (.bool (!PyData.eqv d1 d2))) X :=
  ev_cmp e1 e2 (fun v1 v2 h' _ r1 r2 => by
    obtain ⟨as, x⟩ := r1; obtain ⟨bs, y⟩ := r2
    exact EvT.ofS fun s _ _ k q => ne_dataH (PyProof.Rows.Reads.keeps k x) (PyProof.Rows.Reads.keeps k y) h1 h2 (by have := rm.un; (first | lia | omega)) (q _ s.toks ⟨_, .bool _⟩)) hm
end
end Mine

set_option maxHeartbeats 400000
namespace Mine
open PySem PySem.Spec PySem.Calls PyProof.Rows PySem.W PySem.Challenge
/-- the script's cell, and a draw -/
def cell (ns : List Int) (k : Int) : Int := ns.getD k.toNat 0
def wayF (ns : List Int) (k : Int) (m : Int) : Int := (cell ns k * 48271 + 7919 * (ns.length : Int)) % 2147483647 % m
theorem wayF_lo {ns : List Int} {k : Int} {m : Int} (h : 0 < m) : 0 ≤ wayF ns k m := Int.emod_nonneg _ (by (first | lia | omega))
theorem wayF_hi {ns : List Int} {k : Int} {m : Int} (h : 0 < m) : wayF ns k m < m := Int.emod_lt_of_pos _ h
abbrev scr (ns : List Int) : PyData := .list (ns.map PyData.int)
def isInt : PyData → Bool
  | .int _ => true
  | _ => false
def wholeB : PyData → Int → Bool
  | .int a, k => decide (a ≥ k)
  | _, _ => false
local macro_rules | `(tactic| walk_at "sz") => `(tactic| first | with_reducible assumption | assumption | exact sz_lit (by decide) | exact Sz.mul (by walk_at "sz") (by walk_at "sz") | exact Sz.add (by walk_at "sz") (by walk_at "sz") | exact Sz.sub (by walk_at "sz") (by walk_at "sz") | exact Sz.abs (by walk_at "sz") | exact Sz.neg (by walk_at "sz"))
local macro_rules | `(tactic| walk_at "mul") => `(tactic| first | exact IntMulOk.of_left (by decide) | exact IntMulOk.of_right (by decide) | exact mul_ok (by walk_at "sz") (by walk_at "sz"))
local macro_rules | `(tactic| walk_at "pos") => `(tactic| first | assumption | decide | (first | lia | omega))
local macro_rules | `(tactic| walk_at "small") => `(tactic| first | decide | exact div_ok (by walk_at "sz") | (first | lia | omega))
local macro_rules | `(tactic| walk_at "shaped") => `(tactic| first | rfl | decide | decide +kernel)
local macro_rules | `(tactic| walk_at "len") => `(tactic| first | decide | (simp only [List.length_cons, List.length_nil]; decide) | (simp; (first | lia | omega)) | (first | lia | omega))

/-- gcd facts -/
theorem gcd_step {a b : Int} (_hb : 0 < b) : Int.gcd b (a % b) = Int.gcd a b := by
  rw [Int.emod_def, Int.gcd_sub_mul_left_right, Int.gcd_comm]
theorem gcd_pos {a b : Int} (hb : 1 ≤ b) : (1 : Int) ≤ (Int.gcd a b : Int) := by
  have : 0 < Int.gcd a b := Int.gcd_pos_of_ne_zero_right _ (by (first | lia | omega))
  (first | lia | omega)
theorem gcd_le {a b : Int} (hb : 1 ≤ b) : (Int.gcd a b : Int) ≤ b := by
  have h1 : (Int.gcd a b : Int) ∣ b := Int.gcd_dvd_right a b
  exact Int.le_of_dvd (by (first | lia | omega)) h1
theorem low_props {a b : Int} (ha : 0 ≤ a) (hb : 1 ≤ b) : 0 ≤ a / (Int.gcd a b : Int) ∧ 1 ≤ b / (Int.gcd a b : Int) ∧ Int.gcd (a / (Int.gcd a b : Int)) (b / (Int.gcd a b : Int)) = 1 ∧ a / (Int.gcd a b : Int) ≤ a ∧ b / (Int.gcd a b : Int) ≤ b ∧
    a / (Int.gcd a b : Int) * (Int.gcd a b : Int) = a ∧ b / (Int.gcd a b : Int) * (Int.gcd a b : Int) = b := by
  have hg := gcd_pos (a := a) hb
  have d1 : (Int.gcd a b : Int) ∣ a := Int.gcd_dvd_left a b
  have d2 : (Int.gcd a b : Int) ∣ b := Int.gcd_dvd_right a b
  have e1 := Int.ediv_mul_cancel d1
  have e2 := Int.ediv_mul_cancel d2
  have p1 : 0 ≤ a / (Int.gcd a b : Int) := Int.ediv_nonneg ha (by (first | lia | omega))
  have p2 : 0 ≤ b / (Int.gcd a b : Int) := Int.ediv_nonneg (by (first | lia | omega)) (by (first | lia | omega))
  have p3 : b / (Int.gcd a b : Int) ≠ 0 := by
    intro e; rw [e] at e2; (first | lia | omega)
  refine ⟨p1, by (first | lia | omega), ?_, Int.ediv_le_self _ ha, Int.ediv_le_self _ (by (first | lia | omega)), e1, e2⟩
  exact Int.gcd_ediv_gcd_ediv_gcd_of_ne_zero_right (by (first | lia | omega))

section
variable {c : Cx} (hc : recsOf c.p = recsOf pw_uf050018_10) (B : Bn c)
include hc

theorem f_cell (B : Bn c) {ns : List Int} {k : Int} (h0 : 0 ≤ k) (h1 : k < 2 ^ 60) (hn : ns.length ≤ 63) : FnD c 1 "_law_cell_at" [scr ns, .int k] (.int (cell ns k)) := by
  have hdef := def_at (f := "_law_cell_at") hc 25 rfl rfl rfl (by kernel_rfl)
  refine fn2 (x1 := "_law_script") (x2 := "_law_k") hdef rf_old (by intros; rfl) (fun A g h L fa cd T rm S => ?_)
  have hl : (ns.map PyData.int).length < 2 ^ 62 := by simp; (first | lia | omega)
  refine run_if S (tr_icmp (ev_var S rfl) (ev_lenl S T B (ev_var S rfl) hl) rfl) (fun e h S => ?_) (fun e h S => ?_)
  · have e' : k < ns.length := by simpa using e
    have hx : (ns.map PyData.int)[k.toNat]? = some (.int (cell ns k)) := by
      have : k.toNat < ns.length := by (first | lia | omega)
      simp [cell, this]
    exact run_ret (ev_lidx (ev_var S rfl) (ev_var S rfl) hx h0 (by (first | lia | omega))) fun v h' _ r => Rf.of_flat rfl r
  · have e' : ¬ k < ns.length := by simpa using e
    have hx : cell ns k = 0 := by
      have : ns.length ≤ k.toNat := by (first | lia | omega)
      simp [cell, List.getElem?_eq_none this]
    rw [hx]
    exact run_nil (run_ret ev_int fun v h' _ r => Rf.of_flat rfl r)

theorem f_way (B : Bn c) {ns : List Int} {k m : Int} (h0 : 0 ≤ k) (h1 : k < 2 ^ 60) (hn : ns.length ≤ 63) (hm : 0 < m) : FnD c 2 "_law_way" [scr ns, .int k, .int m] (.int (wayF ns k m)) := by
  have hdef := def_at (f := "_law_way") hc 26 rfl rfl rfl (by kernel_rfl)
  refine fn3 (x1 := "_law_script") (x2 := "_law_k") (x3 := "_law_many") hdef rf_old (by intros; rfl) (fun A g h L fa cd T rm S => ?_)
  have hl : (ns.map PyData.int).length < 2 ^ 62 := by simp; (first | lia | omega)
  have e : wayF ns k m = (cell ns k * 48271 + 7919 * ((ns.map PyData.int).length : Int)) % 2147483647 % m := by simp [wayF]
  rw [e]
  exact run_ret (ev_mod (ev_mod (ev_add (ev_mul (ev_calld S T rm (f_cell hc B h0 h1 hn) (evl_cons (ev_var S rfl) (evl_cons (ev_var S rfl) evl_nil))) ev_int (by walk_at "mul")) (ev_mul ev_int (ev_lenl S T B (ev_var S rfl) hl) (by walk_at "mul"))) ev_int (by decide)) (ev_var S rfl) hm) fun v h' _ r => Rf.of_flat rfl r

theorem f_whole (B : Bn c) {d : PyData} : FnD c 1 "_law_whole" [d] (.bool (isInt d)) := by
  have hdef := def_at (f := "_law_whole") hc 27 rfl rfl rfl (by kernel_rfl)
  refine fn1 (x1 := "_law_found") hdef rf_old (by intros; rfl) (fun A g h L fa cd T rm S => ?_)
  have e : isInt d = (isiB d "int" && !isiB d "bool") := by cases d <;> rfl
  rw [e]
  exact run_ret (ev_bop (bo_and (ev_isi S T B (ev_var S rfl)) fun _ => (bo_last (ev_not (ev_isi S T B (ev_var S rfl)))))) fun v h' _ r => Rf.of_flat rfl r

theorem f_shared {a b : Int} (ha : 0 ≤ a) (hb : 0 ≤ b) : FnD c 1 "_law_shared" [.int a, .int b] (.int (Int.gcd a b)) := by
  have hdef := def_at (f := "_law_shared") hc 28 rfl rfl rfl (by kernel_rfl)
  refine fn2 (x1 := "_law_one") (x2 := "_law_other") hdef rf_old (by intros; rfl) (fun A g h L fa cd T rm S => ?_)
  refine run_while (fun n ρ μ => ∃ a' b' : Int, 0 ≤ a' ∧ 0 ≤ b' ∧ n = b'.toNat ∧ μ = none ∧ ρ = ([("_law_one", .int a'), ("_law_other", .int b')] : Locs) ∧ Int.gcd a' b' = Int.gcd a b) b.toNat S ⟨a, b, ha, hb, rfl, rfl, rfl, rfl⟩ ?_
  rintro n ρ μ h ⟨a', b', ha', hb', rfl, rfl, rfl, hg⟩ S
  refine ⟨_, tr_icmp (ev_var S rfl) ev_int rfl, fun e h' S => ?_, fun e h' S => ?_⟩
  · have hpos : 0 < b' := by simpa using e
    refine run_swap2 rm.hd S (evl_cons (ev_var S rfl) (evl_cons (ev_mod (ev_var S rfl) (ev_var S rfl) hpos) evl_nil)) fun h' S => ?_
    refine run_nil ⟨_, _, _, ?_, ⟨b', a' % b', by (first | lia | omega), Int.emod_nonneg _ (by (first | lia | omega)), rfl, rfl, rfl, ?_⟩, S.pick ⟨rfl, rfl, trivial⟩⟩
    · have := Int.emod_lt_of_pos a' hpos
      (first | lia | omega)
    · rw [← hg]; exact gcd_step hpos
  · have h0 : b' = 0 := by
      have : ¬ (b' > 0) := by simpa using e
      (first | lia | omega)
    subst h0
    refine run_ret (ev_var S rfl) fun v h' k r => Rf.of_flat rfl ?_
    have : (a' : Int) = (Int.gcd a b : Int) := by rw [← hg]; simp; (first | lia | omega)
    rw [← this]; exact r

theorem f_frac {a b : Int} (ha : 0 ≤ a) (hb : 1 ≤ b) {n : Nat} (sb : Sz n b) (hn : n ≤ 250) : FnD c 2 "_law_frac" [.int a, .int b] (.tuple [.int (a / (Int.gcd a b : Int)), .int (b / (Int.gcd a b : Int))]) := by
  have hdef := def_at (f := "_law_frac") hc 29 rfl rfl rfl (by kernel_rfl)
  refine fn2 (x1 := "_law_upper") (x2 := "_law_lower") hdef rf_old (by intros; rfl) (fun A g h L fa cd T rm S => ?_)
  refine run_set S (ev_calld S T rm (f_shared hc ha (by (first | lia | omega))) (evl_cons (ev_var S rfl) (evl_cons (ev_var S rfl) evl_nil))) fun h S => ?_
  have hg := gcd_pos (a := a) hb
  have hg2 : (Int.gcd a b : Int) < 10 ^ 250 := div_ok (sb.le (by (first | lia | omega)) (gcd_le hb)) hn
  exact run_ret (ev_tup (evl_cons (ev_div (ev_var S rfl) (ev_var S rfl) (by (first | lia | omega)) hg2) (evl_cons (ev_div (ev_var S rfl) (ev_var S rfl) (by (first | lia | omega)) hg2) evl_nil))) fun v h' _ r => Rf.of_flat rfl r

omit hc in
theorem ge_of {a : Int} (e : decide (a ≥ 0) = true) : 0 ≤ a := by simpa using e
omit hc in
theorem ge_of1 {a : Int} (e : decide (a ≥ 1) = true) : 0 ≤ a := by have h : a ≥ 1 := of_decide_eq_true e; (first | lia | omega)
/-- is a pair of ints a fraction in lowest terms? -/
def fracB (a b : Int) : Bool := decide (a ≥ 0) && (decide (b ≥ 1) && ((Int.gcd a b : Int) == 1))
theorem f_is_frac (B : Bn c) {a b : Int} : FnD c 2 "_law_is_frac" [.tuple [.int a, .int b]] (.bool (fracB a b)) := by
  have hdef := def_at (f := "_law_is_frac") hc 30 rfl rfl rfl (by kernel_rfl)
  refine fn1 (x1 := "_law_found") hdef rf_old (by intros; rfl) (fun A g h L fa cd T rm S => ?_)
  refine run_if S (tr_bool (all_or (tr_not (tr_val (ev_isi S T B (ev_var S rfl)))) fun _ => (all_or (tr_icmp (ev_lent S T B (ev_var S rfl) (by walk_at "len")) ev_int rfl) fun _ => all_or_nil))) (fun e h S => by simp [isiB] at e) (fun e h S => run_nil ?_)
  refine run_if S (tr_bool (all_or (tr_not (tr_val (ev_calld S T rm (f_whole hc B) (evl_cons (ev_tidx (ev_var S rfl) ev_int) evl_nil)))) fun _ => (all_or (tr_not (tr_val (ev_calld S T rm (f_whole hc B) (evl_cons (ev_tidx (ev_var S rfl) ev_int) evl_nil)))) fun _ => all_or_nil))) (fun e h S => by simp [isInt] at e) (fun e h S => run_nil ?_)
  refine run_ret (ev_bop (bo_and (ev_icmp (ev_tidx (ev_var S rfl) ev_int) ev_int rfl) fun e1 => bo_and (ev_icmp (ev_tidx (ev_var S rfl) ev_int) ev_int rfl) fun e2 => bo_last (ev_icmp (ev_calld S T rm (f_shared hc (ge_of e1) (ge_of1 e2)) (evl_cons (ev_tidx (ev_var S rfl) ev_int) (evl_cons (ev_tidx (ev_var S rfl) ev_int) evl_nil))) ev_int rfl))) fun v h' _ r => Rf.of_flat rfl r
omit hc in
theorem fracB_true {a b : Int} (ha : 0 ≤ a) (hb : 1 ≤ b) (hg : Int.gcd a b = 1) : fracB a b = true := by simp [fracB, ha, hb, hg]

theorem f_is_whole (B : Bn c) {d : PyData} {k : Int} : FnD c 1 "is_whole" [d, .int k] (.bool (wholeB d k)) := by
  have hdef := def_at (f := "is_whole") hc 11 rfl rfl rfl (by kernel_rfl)
  refine fn2 (x1 := "thing") (x2 := "least") hdef rf_old (by intros; rfl) (fun A g h L fa cd T rm S => ?_)
  cases d with
  | int a => exact run_ret (ev_bop (bo_and (ev_isi S T B (ev_var S rfl)) fun _ => bo_and (ev_not (ev_isi S T B (ev_var S rfl))) fun _ => bo_last (ev_icmp (ev_var S rfl) (ev_var S rfl) rfl))) fun v h' _ r => Rf.of_flat rfl r
  | bool b => exact run_ret (ev_bop (bo_and (ev_isi S T B (ev_var S rfl)) fun _ => bo_and (b := false) (ev_not (ev_isi S T B (ev_var S rfl))) fun e' => absurd e' (by simp [isiB]))) fun v h' _ r => Rf.of_flat rfl r
  | none => exact run_ret (ev_bop (bo_and (b := false) (ev_isi S T B (ev_var S rfl)) fun e => absurd e (by simp [isiB]))) fun v h' _ r => Rf.of_flat rfl r
  | str x => exact run_ret (ev_bop (bo_and (b := false) (ev_isi S T B (ev_var S rfl)) fun e => absurd e (by simp [isiB]))) fun v h' _ r => Rf.of_flat rfl r
  | list x => exact run_ret (ev_bop (bo_and (b := false) (ev_isi S T B (ev_var S rfl)) fun e => absurd e (by simp [isiB]))) fun v h' _ r => Rf.of_flat rfl r
  | tuple x => exact run_ret (ev_bop (bo_and (b := false) (ev_isi S T B (ev_var S rfl)) fun e => absurd e (by simp [isiB]))) fun v h' _ r => Rf.of_flat rfl r
  | dict x => exact run_ret (ev_bop (bo_and (b := false) (ev_isi S T B (ev_var S rfl)) fun e => absurd e (by simp [isiB]))) fun v h' _ r => Rf.of_flat rfl r

theorem f_divisor {a b : Int} (ha : 0 ≤ a) (hb : 0 ≤ b) : FnD c 1 "divisor" [.int a, .int b] (.int (Int.gcd a b)) := by
  have hdef := def_at (f := "divisor") hc 12 rfl rfl rfl (by kernel_rfl)
  refine fn2 (x1 := "one") (x2 := "other") hdef rf_old (by intros; rfl) (fun A g h L fa cd T rm S => ?_)
  refine run_while (fun n ρ μ => ∃ a' b' : Int, 0 ≤ a' ∧ 0 ≤ b' ∧ n = b'.toNat ∧ μ = none ∧ ρ = ([("one", .int a'), ("other", .int b')] : Locs) ∧ Int.gcd a' b' = Int.gcd a b) b.toNat S ⟨a, b, ha, hb, rfl, rfl, rfl, rfl⟩ ?_
  rintro n ρ μ h ⟨a', b', ha', hb', rfl, rfl, rfl, hg⟩ S
  refine ⟨_, tr_icmp (ev_var S rfl) ev_int rfl, fun e h' S => ?_, fun e h' S => ?_⟩
  · have hpos : 0 < b' := by simpa using e
    refine run_set S (ev_mod (ev_var S rfl) (ev_var S rfl) hpos) fun h' S => ?_
    refine run_set S (ev_var S rfl) fun h' S => ?_
    refine run_set S (ev_var S rfl) fun h' S => ?_
    refine run_nil ⟨_, _, _, ?_, ⟨b', a' % b', by (first | lia | omega), Int.emod_nonneg _ (by (first | lia | omega)), rfl, rfl, rfl, ?_⟩, S.pick ⟨rfl, rfl, trivial⟩⟩
    · have := Int.emod_lt_of_pos a' hpos
      (first | lia | omega)
    · rw [← hg]; exact gcd_step hpos
  · have h0 : b' = 0 := by
      have : ¬ (b' > 0) := by simpa using e
      (first | lia | omega)
    subst h0
    refine run_ret (ev_var S rfl) fun v h' k r => Rf.of_flat rfl ?_
    have : (a' : Int) = (Int.gcd a b : Int) := by rw [← hg]; simp; (first | lia | omega)
    rw [← this]; exact r

theorem f_lowest (B : Bn c) {a b : Int} (ha : 0 ≤ a) (hb : 1 ≤ b) {n : Nat} (sb : Sz n b) (hn : n ≤ 250) : FnD c 2 "lowest" [.int a, .int b] (.tuple [.int (a / (Int.gcd a b : Int)), .int (b / (Int.gcd a b : Int))]) := by
  have hdef := def_at (f := "lowest") hc 13 rfl rfl rfl (by kernel_rfl)
  refine fn2 (x1 := "upper") (x2 := "lower") hdef rf_old (by intros; rfl) (fun A g h L fa cd T rm S => ?_)
  refine run_if S (tr_bool (all_or (tr_not (tr_val (ev_calld S T rm (f_is_whole hc B) (evl_cons (ev_var S rfl) (evl_cons ev_int evl_nil))))) fun _ => (all_or (tr_not (tr_val (ev_calld S T rm (f_is_whole hc B) (evl_cons (ev_var S rfl) (evl_cons ev_int evl_nil))))) fun _ => all_or_nil))) (fun e h S => by simp [wholeB, ha, hb] at e) (fun e h S => run_nil ?_)
  refine run_set S (ev_calld S T rm (f_divisor hc ha (by (first | lia | omega))) (evl_cons (ev_var S rfl) (evl_cons (ev_var S rfl) evl_nil))) fun h S => ?_
  have hg := gcd_pos (a := a) hb
  have hg2 : (Int.gcd a b : Int) < 10 ^ 250 := div_ok (sb.le (by (first | lia | omega)) (gcd_le hb)) hn
  exact run_ret (ev_tup (evl_cons (ev_div (ev_var S rfl) (ev_var S rfl) (by (first | lia | omega)) hg2) (evl_cons (ev_div (ev_var S rfl) (ev_var S rfl) (by (first | lia | omega)) hg2) evl_nil))) fun v h' _ r => Rf.of_flat rfl r


/-- a fraction: its two parts in order -/
structure Fr2 (n : Nat) (a b : Int) : Prop where
  lo : 0 ≤ a
  up : 1 ≤ b
  co : Int.gcd a b = 1
  sa : Sz n a
  sb : Sz n b
theorem f_frac_ex {a b : Int} (ha : 0 ≤ a) (hb : 1 ≤ b) {n : Nat} (sa : Sz n a) (sb : Sz n b) (hn : n ≤ 250) : ∃ a' b' : Int, FnD c 2 "_law_frac" [.int a, .int b] (.tuple [.int a', .int b']) ∧ Fr2 n a' b' ∧ a' * b = a * b' := by
  obtain ⟨p1, p2, p3, p4, p5, p6, p7⟩ := low_props ha hb
  refine ⟨_, _, f_frac hc ha hb sb hn, ⟨p1, p2, p3, sa.le p1 p4, sb.le (by (first | lia | omega)) p5⟩, ?_⟩
  generalize ha' : a / (Int.gcd a b : Int) = a' at *
  generalize hb' : b / (Int.gcd a b : Int) = b' at *
  generalize (Int.gcd a b : Int) = g at *
  rw [← p7, ← p6]; grind

theorem f_less {a b a' b' : Int} {n : Nat} (s1 : Sz n a) (s2 : Sz n b) (s3 : Sz n a') (s4 : Sz n b') (hn : n ≤ 1000) : FnD c 1 "less" [.tuple [.int a, .int b], .tuple [.int a', .int b']] (.bool (decide (a * b' < a' * b))) := by
  have hdef := def_at (f := "less") hc 14 rfl rfl rfl (by kernel_rfl)
  refine fn2 (x1 := "one") (x2 := "other") hdef rf_old (by intros; rfl) (fun A g h L fa cd T rm S => ?_)
  exact run_ret (ev_icmp (ev_mul (ev_tidx (ev_var S rfl) ev_int) (ev_tidx (ev_var S rfl) ev_int) (mul_ok s1 s4 hn hn)) (ev_mul (ev_tidx (ev_var S rfl) ev_int) (ev_tidx (ev_var S rfl) ev_int) (mul_ok s3 s2 hn hn)) rfl) fun v h' _ r => Rf.of_flat rfl r

omit hc in
theorem Fr2.mono {n m : Nat} {a b : Int} (f : Fr2 n a b) (h : n ≤ m) : Fr2 m a b := ⟨f.lo, f.up, f.co, f.sa.mono h, f.sb.mono h⟩


theorem f_path_of {p : Path} {U V : Int} (ok : okP none p) (he : endP p = (U, V)) (sU : Sz 100 U) (sV : Sz 100 V) : FnL c 1 "path_of" [PD U V] (pathD p) := by
  have hlen : p.length < 600 := len_small ok (by rw [he]; have := sU.2; have := sV.2; show U + V ≤ 10 ^ 101; (first | lia | omega))
  have hpos := end_pos ok
  rw [he] at hpos
  obtain ⟨hU, hV⟩ := hpos
  dsimp only at hU hV
  have hdef := def_at (f := "path_of") hc 8 rfl rfl rfl (by kernel_rfl)
  refine fn1 (x1 := "frac") hdef rl_old (by intros; rfl) (fun A g h L fa cd T rm S => ?_)
  refine run_unpack2 rm.hd S (ev_var S rfl) fun h S => ?_
  refine run_if S (tr_icmp (ev_var S rfl) ev_int rfl) (fun e h S => by simp at e; (first | lia | omega)) (fun e h S => run_nil ?_)
  refine run_own S (ev_list evl_nil) fun l h S => ?_
  have S1 : St g L h [("upper", .int (endP p).1), ("lower", .int (endP p).2)] (some ("path", l, pathD [])) := by rw [he]; exact S.pick ⟨rfl, rfl, trivial⟩
  refine run_while (fun n ρ μ => ∃ dn rs a, p = dn ++ rs ∧ okP a rs ∧ n = rs.length ∧ Sz 100 (endP rs).1 ∧ Sz 100 (endP rs).2 ∧ μ = (some ("path", l, pathD dn) : Mut) ∧ ρ = ([("upper", .int (endP rs).1), ("lower", .int (endP rs).2)] : Locs)) p.length S1 ⟨[], p, none, rfl, ok, rfl, by rw [he]; exact sU, by rw [he]; exact sV, rfl, rfl⟩ ?_
  rintro n ρ μ h ⟨dn, rs, a, hp, hok, rfl, s1, s2, rfl, rfl⟩ S
  obtain ⟨hu, hl⟩ := end_pos hok
  refine ⟨_, (tr_icmp (ev_var S rfl) (ev_var S rfl) rfl), fun e h S => ?_, fun e h S => ?_⟩
  · cases rs with
    | nil => simp [endP] at e
    | cons s t =>
      obtain ⟨w, m⟩ := s
      obtain ⟨tu, tl⟩ := end_pos hok.2.2
      have hm : 1 ≤ m := hok.1
      have hdl : dn.length < 600 := by rw [hp] at hlen; simp at hlen; (first | lia | omega)
      cases w
      · obtain ⟨e1, e2, e3⟩ := end_left hok
        have sm : Sz 100 m := by
          rw [← e2]
          exact s2.le (Int.ediv_nonneg (by (first | lia | omega)) (by (first | lia | omega))) (Int.le_trans (Int.ediv_le_self _ (by (first | lia | omega))) (by (first | lia | omega)))
        have hd : (endP t).2 ≤ (endP ((false, m) :: t)).2 := by
          rw [← e3]
          have := Int.mul_nonneg (show 0 ≤ m by (first | lia | omega)) (show 0 ≤ (endP ((false, m) :: t)).1 by (first | lia | omega))
          (first | lia | omega)
        refine run_if S (tr_icmp (ev_var S rfl) (ev_var S rfl) rfl) (fun e h S => by simp at e; (first | lia | omega)) (fun e h S => ?_)
        refine run_set S (ev_div (ev_sub (ev_var S rfl) ev_int) (ev_var S rfl) (by walk_at "pos") (by walk_at "small")) fun h S => ?_
        rw [e2] at S
        refine run_append S (ev_tup (evl_cons ev_str (evl_cons (ev_var S rfl) evl_nil))) rfl (.head _) (by rw [pathD_len]; (first | lia | omega)) fun h S => ?_
        refine run_set S (ev_sub (ev_var S rfl) (ev_mul (ev_var S rfl) (ev_var S rfl) (by walk_at "mul"))) fun h S => ?_
        rw [e3] at S
        exact run_nil (run_nil ⟨t.length, _, _, by simp, ⟨dn ++ [(false, m)], t, some false, by rw [hp]; simp, hok.2.2, rfl, s1, s2.le (by (first | lia | omega)) hd, by rw [pathD_snoc]; rfl, rfl⟩, S.pick ⟨rfl, rfl, trivial⟩⟩)
      · obtain ⟨e1, e2, e3⟩ := end_right hok
        have sm : Sz 100 m := by
          rw [← e2]
          exact s1.le (Int.ediv_nonneg (by (first | lia | omega)) (by (first | lia | omega))) (Int.le_trans (Int.ediv_le_self _ (by (first | lia | omega))) (by (first | lia | omega)))
        have hd : (endP t).1 ≤ (endP ((true, m) :: t)).1 := by
          rw [← e3]
          have := Int.mul_nonneg (show 0 ≤ m by (first | lia | omega)) (show 0 ≤ (endP ((true, m) :: t)).2 by (first | lia | omega))
          (first | lia | omega)
        refine run_if S (tr_icmp (ev_var S rfl) (ev_var S rfl) rfl) (fun e h S => ?_) (fun e h S => by simp at e; (first | lia | omega))
        refine run_set S (ev_div (ev_sub (ev_var S rfl) ev_int) (ev_var S rfl) (by walk_at "pos") (by walk_at "small")) fun h S => ?_
        rw [e2] at S
        refine run_append S (ev_tup (evl_cons ev_str (evl_cons (ev_var S rfl) evl_nil))) rfl (.head _) (by rw [pathD_len]; (first | lia | omega)) fun h S => ?_
        refine run_set S (ev_sub (ev_var S rfl) (ev_mul (ev_var S rfl) (ev_var S rfl) (by walk_at "mul"))) fun h S => ?_
        rw [e3] at S
        exact run_nil (run_nil ⟨t.length, _, _, by simp, ⟨dn ++ [(true, m)], t, some true, by rw [hp]; simp, hok.2.2, rfl, s1.le (by (first | lia | omega)) hd, s2, by rw [pathD_snoc]; rfl, rfl⟩, S.pick ⟨rfl, rfl, trivial⟩⟩)
  · cases rs with
    | nil =>
      rw [List.append_nil] at hp
      subst hp
      exact run_ret (ev_own S) fun v h' _ r => r
    | cons s t => exact absurd (by simpa using e) (end_ne hok)

theorem f_walked {p : Path} {U V : Int} (ok : okP none p) (he : endP p = (U, V)) (sU : Sz 100 U) (sV : Sz 100 V) : FnD c 1 "walked" [.list (pathD p)] (.tuple [PD (walkP p).l0 (walkP p).l1, PD (walkP p).r0 (walkP p).r1]) := by
  have hdef := def_at (f := "walked") hc 7 rfl rfl rfl (by kernel_rfl)
  refine fn1 (x1 := "path") hdef rf_old (by intros; rfl) (fun A g h L fa cd T rm S => ?_)
  refine run_set S (ev_tup (evl_cons ev_int (evl_cons ev_int evl_nil))) fun h S => ?_
  refine run_set S (ev_tup (evl_cons ev_int (evl_cons ev_int evl_nil))) fun h S => ?_
  refine run_set S ev_str fun h S => ?_
  refine run_for2 rm.hd (fun i ρ μ => ∃ (q : Q4) (a : Option Bool), q.nn ∧ (p.drop i).foldl stepP q = walkP p ∧ okP a (p.drop i) ∧ (endP (p.drop i)).1 * q.r0 + (endP (p.drop i)).2 * q.l0 = U ∧ (endP (p.drop i)).1 * q.r1 + (endP (p.drop i)).2 * q.l1 = V ∧ μ = none ∧
      ρ = ([("left", PD q.l0 q.l1), ("right", PD q.r0 q.r1), ("ahead", .str (aw a))] : Locs)) (S.pick (ρ' := [("left", PD q0.l0 q0.l1), ("right", PD q0.r0 q0.r1), ("ahead", .str (aw none))]) ⟨rfl, rfl, rfl, trivial⟩) (iter_list rm.hd (src_var S rfl wok_nil) (w_hold S wok_nil)) ⟨q0, none, q0_nn, rfl, ok, ?_, ?_, rfl, rfl⟩ (w_hold S wok_nil) ?_ ?_ ?_ ?_
  · rw [List.drop_zero, he]; simp [q0]
  · rw [List.drop_zero, he]; simp [q0]
  · rintro i d1 d2 ρ μ h hd ⟨q, a, nn, hf, hok, h0, h1, rfl, rfl⟩ S
    have hd' : ∃ s, p[i]? = some s ∧ runD s = .tuple [d1, d2] := by
      simp only [pathD, List.getElem?_map, Option.map_eq_some_iff] at hd
      exact hd
    obtain ⟨⟨w, m⟩, hpi, hrd⟩ := hd'
    have hdr := drop_at hpi
    simp only [runD, PyData.tuple.injEq, List.cons.injEq, and_true] at hrd
    obtain ⟨rfl, rfl⟩ := hrd
    obtain ⟨b1, b2, b3, b4⟩ := walk_le hok nn h0 h1
    have z1 := sU.le nn.a b1
    have z2 := sU.le nn.c b2
    have z3 := sV.le nn.b b3
    have z4 := sV.le nn.d b4
    have hmem := runs_le ok (w, m) (List.mem_of_getElem? hpi)
    rw [he] at hmem
    rw [hdr] at hok hf h0 h1
    have hm : 1 ≤ m := hok.1
    have zm : Sz 101 m := (sU.add sV).le (by (first | lia | omega)) hmem
    have hne : a ≠ some w := hok.2.1
    have e3 : PyData.eqv (.str (wd w)) (.str (aw a)) = false := by
      rcases a with _ | _ | _ <;> cases w <;> first | exact absurd rfl hne | decide +kernel
    have e1 : ([PyData.str "left", .str "right"].any fun y => PyData.eqv y (.str (wd w))) = true := by cases w <;> decide +kernel
    have hsw : SeqAt.shaped (.str (wd w)) = true := by cases w <;> decide +kernel
    have hsa : SeqAt.shaped (.str (aw a)) = true := by rcases a with _ | _ | _ <;> decide +kernel
    refine run_if S (tr_bool (all_or (tr_notin rm (ev_var S rfl) (ev_tup (evl_cons ev_str (evl_cons ev_str evl_nil))) (by decide +kernel) hsw) fun _ => (all_or (tr_icmp (ev_var S rfl) ev_int rfl) fun _ => (all_or (tr_eq rm (ev_var S rfl) (ev_var S rfl) hsw hsa) fun _ => all_or_nil)))) (fun e h S => ?_) (fun e h S => run_nil ?_)
    · rw [e1, e3] at e; simp at e; (first | lia | omega)
    cases w
    · refine run_if S (tr_eq rm (ev_var S rfl) ev_str (by decide +kernel) (by decide +kernel)) (fun e h S => by exact absurd e (by decide +kernel)) (fun e h S => ?_)
      refine run_set S (ev_tup (evl_cons (ev_add (ev_tidx (ev_var S rfl) ev_int) (ev_mul (ev_var S rfl) (ev_tidx (ev_var S rfl) ev_int) (by walk_at "mul"))) (evl_cons (ev_add (ev_tidx (ev_var S rfl) ev_int) (ev_mul (ev_var S rfl) (ev_tidx (ev_var S rfl) ev_int) (by walk_at "mul"))) evl_nil))) fun h S => run_nil ?_
      refine run_set S (ev_var S rfl) fun h S => run_nil ⟨_, _, ⟨stepP q (false, m), some false, step_nn nn (by show 0 ≤ m; (first | lia | omega)), hf, hok.2.2, ?_, ?_, rfl, rfl⟩, S.pick ⟨rfl, rfl, rfl, trivial⟩⟩
      · exact (stepL (endP (p.drop (i + 1))).1 (endP (p.drop (i + 1))).2 m q.r0 q.l0).symm.trans h0
      · exact (stepL (endP (p.drop (i + 1))).1 (endP (p.drop (i + 1))).2 m q.r1 q.l1).symm.trans h1
    · refine run_if S (tr_eq rm (ev_var S rfl) ev_str (by decide +kernel) (by decide +kernel)) (fun e h S => ?_) (fun e h S => by exact absurd e (by decide +kernel))
      refine run_set S (ev_tup (evl_cons (ev_add (ev_tidx (ev_var S rfl) ev_int) (ev_mul (ev_var S rfl) (ev_tidx (ev_var S rfl) ev_int) (by walk_at "mul"))) (evl_cons (ev_add (ev_tidx (ev_var S rfl) ev_int) (ev_mul (ev_var S rfl) (ev_tidx (ev_var S rfl) ev_int) (by walk_at "mul"))) evl_nil))) fun h S => run_nil ?_
      refine run_set S (ev_var S rfl) fun h S => run_nil ⟨_, _, ⟨stepP q (true, m), some true, step_nn nn (by show 0 ≤ m; (first | lia | omega)), hf, hok.2.2, ?_, ?_, rfl, rfl⟩, S.pick ⟨rfl, rfl, rfl, trivial⟩⟩
      · exact (stepR (endP (p.drop (i + 1))).1 (endP (p.drop (i + 1))).2 m q.r0 q.l0).symm.trans h0
      · exact (stepR (endP (p.drop (i + 1))).1 (endP (p.drop (i + 1))).2 m q.r1 q.l1).symm.trans h1
  · rintro ρ μ h ⟨q, a, nn, hf, hok, h0, h1, rfl, rfl⟩ S
    rw [pathD_len, List.drop_length] at hf
    have hq : q = walkP p := hf
    subst hq
    exact run_ret (ev_tup (evl_cons (ev_var S rfl) (evl_cons (ev_var S rfl) evl_nil))) fun v h' _ r => Rf.of_flat rfl r
  · intro d hd
    obtain ⟨s, _, rfl⟩ := List.mem_map.mp hd
    exact ⟨_, _, rfl, rfl, rfl⟩
  · rintro i ρ μ ⟨q, a, nn, hf, hok, h0, h1, rfl, rfl⟩ q' e
    cases e

theorem f_sides {p : Path} {U V : Int} (ok : okP none p) (he : endP p = (U, V)) (sU : Sz 100 U) (sV : Sz 100 V) : FnD c 2 "sides" [PD U V] (.tuple [PD (walkP p).l0 (walkP p).l1, PD (walkP p).r0 (walkP p).r1]) := by
  have hdef := def_at (f := "sides") hc 9 rfl rfl rfl (by kernel_rfl)
  refine fn1 (x1 := "frac") hdef rf_old (by intros; rfl) (fun A g h L fa cd T rm S => ?_)
  exact run_ret (ev_calld S T rm (f_walked hc ok he sU sV) (evl_cons ((ev_call S T rm (f_path_of hc ok he sU sV) (evl_cons (ev_var S rfl) evl_nil)).mono fun _ _ _ r => r.rd) evl_nil)) fun v h' _ r => Rf.of_flat rfl r

theorem f_sides_ex {U V : Int} (hU : 1 ≤ U) (hV : 1 ≤ V) (hg : Int.gcd U V = 1) (sU : Sz 100 U) (sV : Sz 100 V) : ∃ l0 l1 r0 r1 : Int, FnD c 2 "sides" [PD U V] (.tuple [PD l0 l1, PD r0 r1]) ∧ 0 ≤ l0 ∧ 0 ≤ l1 ∧ 0 ≤ r0 ∧ 0 ≤ r1 ∧ r0 * l1 - l0 * r1 = 1 ∧ l0 + r0 = U ∧ l1 + r1 = V := by
  obtain ⟨p, ok, he⟩ := path_for hU hV hg
  obtain ⟨n1, n2, n3, n4⟩ := walk_nn ok q0_nn
  have hend := walk_end p q0
  rw [he] at hend
  simp only [q0] at hend
  exact ⟨_, _, _, _, f_sides hc ok he sU sV, n1, n2, n3, n4, walk_det p q0, hend.1.trans (by (first | lia | omega)), hend.2.trans (by (first | lia | omega))⟩

theorem f_need_bounds {a b c' d : Int} {n : Nat} (s1 : Sz n a) (s2 : Sz n b) (s3 : Sz n c') (s4 : Sz n d) (hn : n ≤ 1000) (h : a * d ≤ c' * b) : FnD c 2 "need_bounds" [PD a b, PD c' d] .none := by
  have hdef := def_at (f := "need_bounds") hc 16 rfl rfl rfl (by kernel_rfl)
  refine fn2 (x1 := "low") (x2 := "high") hdef rf_old (by intros; rfl) (fun A g h L fa cd T rm S => ?_)
  refine run_if S (tr_val (ev_calld S T rm (f_less hc s3 s4 s1 s2 hn) (evl_cons (ev_var S rfl) (evl_cons (ev_var S rfl) evl_nil)))) (fun e h S => by simp at e; (first | lia | omega)) (fun e h S => run_nil (run_nil ?_))
  exact Rf.of_flat rfl ⟨_, .none⟩

theorem f_simplest (B : Bn c) {a b c' d c0 : Int} {ps : List Int} (hb : Bd a b c' d) (R : CF a b c' d ps c0) (s1 : Sz 69 a) (s2 : Sz 69 b) (s3 : Sz 69 c') (s4 : Sz 69 d) : FnD c 3 "simplest" [PD a b, PD c' d] (PD (cfv ps c0).1 (cfv ps c0).2) := by
  have hlen : ps.length < 502 := cf_short R hb (by have := s1.2; have := s2.2; (first | lia | omega))
  have okc0 := cf_okc R hb
  have sm := cf_main R hb
  obtain ⟨mx, my⟩ := sm.mn a b hb.b1 (Int.le_refl _) hb.le
  have zsum : Sz 70 ((cfv ps c0).1 + (cfv ps c0).2) := (s1.add s2).le (by have := sm.u0; have := sm.l1; (first | lia | omega)) (by (first | lia | omega))
  have hdef := def_at (f := "simplest") hc 17 rfl rfl rfl (by kernel_rfl)
  refine fn2 (x1 := "low") (x2 := "high") hdef rf_old (by intros; rfl) (fun A g h L fa cd T rm S => ?_)
  refine run_expr (ev_calld S T rm (f_need_bounds hc s1 s2 s3 s4 (by decide) hb.le) (evl_cons (ev_var S rfl) (evl_cons (ev_var S rfl) evl_nil))) fun v h k _ => ?_
  have S := S.keep k
  refine run_own S (ev_list evl_nil) fun l h S => ?_
  refine run_while (fun n ρ μ => ∃ (dn rs : List Int) (a b c' d : Int), ps = dn ++ rs ∧ Bd a b c' d ∧ CF a b c' d rs c0 ∧ Sz 69 a ∧ Sz 69 b ∧ Sz 69 c' ∧ Sz 69 d ∧ n = rs.length ∧ μ = (some ("parts", l, dn.map PyData.int) : Mut) ∧ ρ = ([("low", PD a b), ("high", PD c' d)] : Locs)) ps.length (S.pick (ρ' := [("low", PD a b), ("high", PD c' d)]) ⟨rfl, rfl, trivial⟩) ⟨[], ps, a, b, c', d, rfl, hb, R, s1, s2, s3, s4, rfl, rfl, rfl⟩ ?_
  rintro n ρ μ h ⟨dn, rs, a, b, c', d, hp, hbd, r, t1, t2, t3, t4, rfl, rfl, rfl⟩ S
  have hb1 := hbd.b1
  have hd1 := hbd.d1
  refine ⟨_, (tr_bool (all_and (tr_icmp (ev_mod (ev_tidx (ev_var S rfl) ev_int) (ev_tidx (ev_var S rfl) ev_int) (by walk_at "pos")) ev_int rfl) fun _ => (all_and (tr_icmp (ev_div (ev_tidx (ev_var S rfl) ev_int) (ev_tidx (ev_var S rfl) ev_int) (by walk_at "pos") (by walk_at "small")) (ev_div (ev_tidx (ev_var S rfl) ev_int) (ev_tidx (ev_var S rfl) ev_int) (by walk_at "pos") (by walk_at "small")) rfl) fun _ => all_and_nil))), fun e h S => ?_, fun e h S => ?_⟩
  · cases r with
    | stop hs =>
      exfalso
      simp only [Bool.and_true, Bool.and_eq_true, bne_iff_ne, ne_eq, beq_iff_eq] at e
      rcases hs with q | q
      · exact e.1 q
      · exact q e.2
    | @step _ _ _ _ rs' _ h1 h2 r' =>
      obtain ⟨hbd', q1, q2, q3⟩ := hbd.turn h1 h2
      have hdl : dn.length < 502 := by rw [hp] at hlen; simp at hlen; (first | lia | omega)
      have hdec : rs'.length < (a / b :: rs').length := by simp
      have sk : Sz 69 (a / b) := t1.le q3 (Int.ediv_le_self _ hbd.a0)
      have u2 : Sz 69 (c' - a / b * d) := t4.le (by have := hbd'.b1; (first | lia | omega)) (by (first | lia | omega))
      have u4 : Sz 69 (a - a / b * b) := t2.le (by have := hbd'.d1; (first | lia | omega)) (by (first | lia | omega))
      refine run_set S (ev_div (ev_tidx (ev_var S rfl) ev_int) (ev_tidx (ev_var S rfl) ev_int) (by walk_at "pos") (by walk_at "small")) fun h S => ?_
      generalize a / b = k at *
      refine run_append S (ev_var S rfl) rfl (.head _) (by simp; (first | lia | omega)) fun h S => ?_
      refine run_set S (ev_tup (evl_cons (ev_tidx (ev_var S rfl) ev_int) (evl_cons (ev_sub (ev_tidx (ev_var S rfl) ev_int) (ev_mul (ev_var S rfl) (ev_tidx (ev_var S rfl) ev_int) (by walk_at "mul"))) evl_nil))) fun h S => ?_
      refine run_set S (ev_tup (evl_cons (ev_tidx (ev_var S rfl) ev_int) (evl_cons (ev_sub (ev_tidx (ev_var S rfl) ev_int) (ev_mul (ev_var S rfl) (ev_tidx (ev_var S rfl) ev_int) (by walk_at "mul"))) evl_nil))) fun h S => ?_
      refine run_set S (ev_var S rfl) fun h S => run_nil ⟨rs'.length, _, _, hdec, ⟨dn ++ [k], rs', d, c' - k * d, b, a - k * b, by rw [hp]; simp, hbd', r', t4, u2, t2, u4, rfl, by simp, rfl⟩, S.pick ⟨rfl, rfl, trivial⟩⟩
  · cases r with
    | @step _ _ _ _ rs' _ h1 h2 r' =>
      exfalso
      simp [h1, h2] at e
    | stop hs =>
      rw [List.append_nil] at hp
      subst hp
      refine run_set S (ev_div (ev_sub (ev_add (ev_tidx (ev_var S rfl) ev_int) (ev_tidx (ev_var S rfl) ev_int)) ev_int) (ev_tidx (ev_var S rfl) ev_int) (by walk_at "pos") (by walk_at "small")) fun h S => ?_
      generalize (a + b - 1) / b = c0 at *
      refine run_set S ev_int fun h S => ?_
      refine run_sub (Ws := []) ?_ (fun b hb => nomatch hb)
      have edr : ps.drop (ps.length - 0) = [] := by simp
      refine run_for (fun i ρ μ => i ≤ ps.length ∧ μ = (some ("parts", l, ps.map PyData.int) : Mut) ∧ ρ = ([("upper", .int (cfv (ps.drop (ps.length - i)) c0).1), ("lower", .int (cfv (ps.drop (ps.length - i)) c0).2)] : Locs)) (S.pick (ρ' := [("upper", .int (cfv (ps.drop (ps.length - 0)) c0).1), ("lower", .int (cfv (ps.drop (ps.length - 0)) c0).2)]) ⟨by rw [edr]; rfl, by rw [edr]; rfl, trivial⟩) (iter_rev S T B rm.hd) ⟨Nat.zero_le _, rfl, rfl⟩ (w_hold S wok_nil) ?_ ?_ ?_ ?_
      · rintro i x ρ μ h hd ⟨hi0, rfl, rfl⟩ S
        have hi : i < ps.length := by
          have := List.getElem?_eq_some_iff.mp hd
          obtain ⟨h, _⟩ := this
          simpa using h
        have hx : ∃ k, ps[ps.length - 1 - i]? = some k ∧ x = .int k := by
          rw [List.getElem?_reverse (by simpa using hi)] at hd
          simp only [List.length_map, List.getElem?_map, Option.map_eq_some_iff] at hd
          obtain ⟨k, q, rfl⟩ := hd
          exact ⟨k, q, rfl⟩
        obtain ⟨k, hk, rfl⟩ := hx
        have e1 : ps.length - 1 - i + 1 = ps.length - i := by (first | lia | omega)
        have e2 : ps.length - (i + 1) = ps.length - 1 - i := by (first | lia | omega)
        have hdrop := drop_at hk
        rw [e1] at hdrop
        obtain ⟨o1, o2⟩ := okc_drop okc0 (ps.length - 1 - i)
        obtain ⟨o3, o4⟩ := okc_drop okc0 (ps.length - i)
        obtain ⟨p1, p2⟩ := okc_pos o3
        rw [hdrop] at o1 o2
        obtain ⟨p3, p4⟩ := okc_pos o1
        have pk := okc_part o1
        have z1 : Sz 70 (cfv (ps.drop (ps.length - i)) c0).1 := zsum.le p1 (by (first | lia | omega))
        have z2 : Sz 70 k := zsum.le o1.1 (by (first | lia | omega))
        have hgoal : (cfv (ps.drop (ps.length - (i + 1))) c0) = (k * (cfv (ps.drop (ps.length - i)) c0).1 + (cfv (ps.drop (ps.length - i)) c0).2, (cfv (ps.drop (ps.length - i)) c0).1) := by rw [e2, hdrop]; rfl
        refine run_set S (ev_add (ev_mul (ev_var S rfl) (ev_var S rfl) (by walk_at "mul")) (ev_var S rfl)) fun h S => ?_
        refine run_set S (ev_var S rfl) fun h S => ?_
        refine run_set S (ev_var S rfl) fun h S => run_nil ⟨_, _, ⟨by (first | lia | omega), rfl, rfl⟩, ?_⟩
        rw [hgoal]
        exact S.pick ⟨rfl, rfl, trivial⟩
      · rintro ρ μ h ⟨_, rfl, rfl⟩ S
        have e0 : ps.length - (ps.map PyData.int).reverse.length = 0 := by simp
        rw [e0, List.drop_zero] at S
        exact run_ret (ev_tup (evl_cons (ev_var S rfl) (evl_cons (ev_var S rfl) evl_nil))) fun v h' _ r => Rf.of_flat rfl r
      · intro d hd
        simp only [List.mem_reverse, List.mem_map] at hd
        obtain ⟨k, _, rfl⟩ := hd
        rfl
      · rintro i ρ μ ⟨_, rfl, rfl⟩ q' e
        cases e
        dsimp only
        decide

theorem f_number {cl wv : Int} (h0 : 0 ≤ wv) (h1 : wv < 4) : ∃ u : Int, FnD c 1 "_law_number" [.int cl, .int wv] (.int u) ∧ 0 ≤ u ∧ u < 10 ^ 28 := by
  have key : ∃ m : Int, ([PyData.int 30, .int 1000, .int (10 ^ (6 : Int).toNat), .int (10 ^ (28 : Int).toNat)] : List PyData)[wv.toNat]? = some (.int m) ∧ 0 < m ∧ m ≤ 10 ^ 28 := by
    have : wv = 0 ∨ wv = 1 ∨ wv = 2 ∨ wv = 3 := by (first | lia | omega)
    rcases this with rfl | rfl | rfl | rfl
    · exact ⟨30, rfl, by decide +kernel, by decide +kernel⟩
    · exact ⟨1000, rfl, by decide +kernel, by decide +kernel⟩
    · exact ⟨10 ^ 6, rfl, by decide +kernel, by decide +kernel⟩
    · exact ⟨10 ^ 28, rfl, by decide +kernel, by decide +kernel⟩
  obtain ⟨m, hm, hp, hs⟩ := key
  have e1 := Int.emod_nonneg cl (b := m) (by (first | lia | omega))
  have e2 := Int.emod_lt_of_pos cl hp
  refine ⟨cl % m, ?_, e1, Int.lt_of_lt_of_le e2 hs⟩
  have hdef := def_at (f := "_law_number") hc 31 rfl rfl rfl (by kernel_rfl)
  refine fn2 (x1 := "_law_cell") (x2 := "_law_way_here") hdef rf_old (by intros; rfl) (fun A g h L fa cd T rm S => ?_)
  exact run_ret (ev_mod (ev_var S rfl) (ev_lidx ((ev_list (evl_cons ev_int (evl_cons ev_int (evl_cons (ev_pow ev_int ev_int (by decide) (by decide) (by decide)) (evl_cons (ev_pow ev_int ev_int (by decide) (by decide) (by decide)) evl_nil))))).mono fun _ _ _ r => r.rd) (ev_var S rfl) hm h0 (by (first | lia | omega))) hp) fun v h' _ r => Rf.of_flat rfl r

theorem f_drawn (B : Bn c) {ns : List Int} {k wv : Int} (hn : ns.length ≤ 63) (h0 : 0 ≤ k) (h1 : k < 1000) (hw : 0 ≤ wv) : ∃ a b : Int, FnD c 3 "_law_drawn" [scr ns, .int k, .int wv] (PD a b) ∧ Fr2 29 a b := by
  obtain ⟨u, fu, hu, su⟩ := f_number hc (cl := cell ns k) (wv := wv % 4) (by (first | lia | omega)) (by (first | lia | omega))
  obtain ⟨l, fl, hl, sl⟩ := f_number hc (cl := cell ns (k + 1)) (wv := wv / 4 % 4) (by (first | lia | omega)) (by (first | lia | omega))
  have s1 : Sz 29 (1 + l) := by constructor <;> (first | lia | omega)
  have s0 : Sz 29 u := by constructor <;> (first | lia | omega)
  obtain ⟨a, b, fab, hf, _⟩ := f_frac_ex hc (a := u) (b := 1 + l) (by (first | lia | omega)) (by (first | lia | omega)) s0 s1 (by decide)
  refine ⟨a, b, ?_, hf⟩
  have hdef := def_at (f := "_law_drawn") hc 32 rfl rfl rfl (by kernel_rfl)
  refine fn3 (x1 := "_law_script") (x2 := "_law_first") (x3 := "_law_way_here") hdef rf_old (by intros; rfl) (fun A g h L fa cd T rm S => ?_)
  refine run_set S (ev_calld S T rm (fu) (evl_cons (ev_calld S T rm (f_cell hc B h0 (by (first | lia | omega)) hn) (evl_cons (ev_var S rfl) (evl_cons (ev_var S rfl) evl_nil))) (evl_cons (ev_mod (ev_var S rfl) ev_int (by walk_at "pos")) evl_nil))) fun h S => ?_
  refine run_set S (ev_add ev_int (ev_calld S T rm (fl) (evl_cons (ev_calld S T rm (f_cell hc B (by (first | lia | omega)) (by (first | lia | omega)) hn) (evl_cons (ev_var S rfl) (evl_cons (ev_add (ev_var S rfl) ev_int) evl_nil))) (evl_cons (ev_mod (ev_div (ev_var S rfl) ev_int (by walk_at "pos") (by walk_at "small")) ev_int (by walk_at "pos")) evl_nil)))) fun h S => ?_
  exact run_ret (ev_calld S T rm (fab) (evl_cons (ev_var S rfl) (evl_cons (ev_var S rfl) evl_nil))) fun v h' _ r => Rf.of_flat rfl r


theorem f_is_fig (B : Bn c) (hF : valOf c.p "FIGURES" = some (.str "0123456789")) {x : Str} (hd : Dg x) (hne : x.cps.toList ≠ []) : FnD c 1 "is_figures" [.str x] (.bool true) := by
  have hsh := asc_shaped hd.asc
  have hne' : PyData.eqv (.str x) (.str "") = false := by
    show (x == ("" : Str)) = false
    rw [beq_eq_false_iff_ne]
    intro e
    rw [e] at hne
    exact hne (by decide +kernel)
  have hdef := def_at (f := "is_figures") hc 21 rfl rfl rfl (by kernel_rfl)
  refine fn1 (x1 := "word") hdef rf_old (by intros; rfl) (fun A g h L fa cd T rm S => ?_)
  refine run_if S (tr_eq rm (ev_var S rfl) ev_str hsh (by decide +kernel)) (fun e h S => by rw [hne'] at e; cases e) (fun e h S => run_nil ?_)
  refine run_for (fun i ρ μ => ρ = ([] : Locs) ∧ μ = none) (S.pick (ρ' := []) trivial) (iter_str rm.hd (ev_var S rfl) (w_hold S wok_nil)) ⟨rfl, rfl⟩ (w_hold S wok_nil) ?_ ?_ (signs_flat x) ?_
  · rintro i d ρ μ h hd' ⟨rfl, rfl⟩ S
    obtain ⟨k, hk, rfl⟩ := signs_mem hd'
    have hin := fig_in (hd k (List.mem_of_getElem? hk))
    exact run_if S (tr_notins (ev_var S rfl) (ev_gconst S T hF)) (fun e h S => by rw [hin] at e; cases e) (fun e h S => run_nil (run_nil ⟨_, _, ⟨rfl, rfl⟩, S.pick trivial⟩))
  · rintro ρ μ h ⟨rfl, rfl⟩ S
    exact run_ret ev_bool fun v h' _ r => Rf.of_flat rfl r
  · rintro i ρ μ ⟨rfl, rfl⟩ q' e
    cases e

theorem f_figs (B : Bn c) {x : Str} (hd : Dg x) (hne : x.cps.toList ≠ []) : FnD c 1 "_law_figures" [.str x] (.bool true) := by
  have hsh := asc_shaped hd.asc
  have hne' : PyData.eqv (.str x) (.str "") = false := by
    show (x == ("" : Str)) = false
    rw [beq_eq_false_iff_ne]
    intro e
    rw [e] at hne
    exact hne (by decide +kernel)
  have hdef := def_at (f := "_law_figures") hc 33 rfl rfl rfl (by kernel_rfl)
  refine fn1 (x1 := "_law_word") hdef rf_old (by intros; rfl) (fun A g h L fa cd T rm S => ?_)
  refine run_for (fun i ρ μ => ρ = ([("_law_word", .str x)] : Locs) ∧ μ = none) S (iter_str rm.hd (ev_var S rfl) (w_hold S wok_nil)) ⟨rfl, rfl⟩ (w_hold S wok_nil) ?_ ?_ (signs_flat x) ?_
  · rintro i d ρ μ h hd' ⟨rfl, rfl⟩ S
    obtain ⟨k, hk, rfl⟩ := signs_mem hd'
    have hin := fig_in (hd k (List.mem_of_getElem? hk))
    exact run_if S (tr_notins (ev_var S rfl) ev_str) (fun e h S => by rw [hin] at e; cases e) (fun e h S => run_nil (run_nil ⟨_, _, ⟨rfl, rfl⟩, S.pick ⟨rfl, trivial⟩⟩))
  · rintro ρ μ h ⟨rfl, rfl⟩ S
    refine run_ret (ev_ne rm (ev_var S rfl) ev_str hsh (by decide +kernel)) fun v h' _ r => Rf.of_flat rfl ?_
    rw [hne'] at r; exact r
  · rintro i ρ μ ⟨rfl, rfl⟩ q' e
    cases e

/-- the number and the steps of a decimal text -/
def decN (a t : Str) : Int := ((PySem.NumText.digitsVal (a.cps.toList ++ t.cps.toList) : Nat) : Int)
omit hc in
theorem decN_ok {x a t : Str} {pt : Bool} (D : Dec x a t pt) : 0 ≤ decN a t ∧ decN a t < 10 ^ 60 := by
  refine ⟨by unfold decN; (first | lia | omega), ?_⟩
  have h : PySem.NumText.digitsVal (a.cps.toList ++ t.cps.toList) < 10 ^ 60 := by
    have := dv_lt _ (a.cps.toList ++ t.cps.toList) rfl (fun k hk => by
      rcases List.mem_append.mp hk with q | q
      · exact D.da k q
      · exact D.dt k q)
    refine Nat.lt_of_lt_of_le this (Nat.pow_le_pow_right (by decide) ?_)
    have := D.len
    rw [str_len, str_len] at this
    simpa using this
  unfold decN
  exact_mod_cast h

theorem f_told (B : Bn c) (hF : valOf c.p "FIGURES" = some (.str "0123456789")) (hM : valOf c.p "MOST_FIGURES" = some (.int 60)) {x a t : Str} {pt : Bool} (D : Dec x a t pt) {l0 l1 h0 h1 : Int}
    (fl : FnD c 2 "lowest" [.int (max 0 (2 * decN a t - 1)), .int (2 * 10 ^ t.cps.toList.length)] (PD l0 l1)) (fh : FnD c 2 "lowest" [.int (2 * decN a t + 1), .int (2 * 10 ^ t.cps.toList.length)] (PD h0 h1)) : FnD c 3 "told" [.str x] (.tuple [PD l0 l1, PD h0 h1]) := by
  have edot : (Str.ofString ".") = dot := by decide +kernel
  have hxl := D.short
  have hlen := D.len
  have hsl : sizeLine = 2 ^ 24 := rfl
  have hpt := D.part
  have hint : PySem.intText? (a ++ t) = some (decN a t) := by
    have e := str_app a t
    have := intText_digits (x := a ++ t) (fun k hk => by
      rw [e] at hk
      rcases List.mem_append.mp hk with q | q
      · exact D.da k q
      · exact D.dt k q) (by rw [e]; simp [D.na]) (by rw [str_len, e]; rw [str_len, str_len] at hlen; simp; simp at hlen; (first | lia | omega))
    rw [this, e]; rfl
  have hdef := (def_at (f := "told") hc 22 rfl rfl rfl (by kernel_rfl))
  refine fn1 (x1 := "line") hdef rf_old (by intros; rfl) (fun A g h L fa cd T rm S => ?_)
  refine run_unpack3 rm.hd S (ev_partition (x := x) (y := dot) (ev_var S rfl) (edot ▸ ev_str) rfl (by (first | lia | omega))) fun h S => ?_
  rw [hpt] at S
  dsimp only at S
  have hal : 0 < a.length := by rw [str_len]; exact List.length_pos_iff.mpr D.na
  have hsh1 : SeqAt.shaped (.str (Txt.item a 0)) = true := by
    obtain ⟨k, hk, e, _⟩ := item_in hal
    rw [e]
    have := D.da k hk
    exact asc_shaped (fun y hy => by simp at hy; (first | lia | omega))
  refine run_cut (fun h => St g L h [("behind", .str t), ("point", .str (if pt then dot else PySem.Str.empty)), ("ahead", .str a)] none) ?_ ?_
  · by_cases hl1 : 1 < a.length
    · obtain ⟨k, ek, nk, lk⟩ := D.lead hl1
      have e0 : PyData.eqv (.str (Txt.item a 0)) (.str "0") = false := by
        rw [ek]
        show ((⟨#[k]⟩ : Str) == ("0" : Str)) = false
        rw [beq_eq_false_iff_ne]
        intro q
        have q2 := congrArg (fun z : Str => z.cps.toList) q
        have e5 : ("0" : Str).cps.toList = [48] := by decide +kernel
        simp only [e5] at q2
        simp at q2
        exact nk q2
      exact run_if S (tr_bool (all_or (tr_not (tr_val (ev_calld S T rm (f_is_fig hc B hF D.da D.na) (evl_cons (ev_var S rfl) evl_nil)))) fun _ => (all_or (tr_bool (all_and (tr_icmp (ev_lens S T B (ev_var S rfl)) ev_int rfl) fun _ => (all_and (tr_eq rm (ev_sidx (ev_var S rfl) ev_int (by decide) (by (first | lia | omega)) (by decide)) ev_str hsh1 (by decide +kernel)) fun _ => all_and_nil))) fun _ => all_or_nil))) (fun e h S => by rw [e0] at e; simp at e) (fun e h S => run_nil (run_nil ⟨rfl, S.pick ⟨rfl, rfl, rfl, trivial⟩⟩))
    · exact run_if S (tr_bool (all_or (tr_not (tr_val (ev_calld S T rm (f_is_fig hc B hF D.da D.na) (evl_cons (ev_var S rfl) evl_nil)))) fun _ => (all_or (tr_bool (all_and (b := false) (tr_icmp (ev_lens S T B (ev_var S rfl)) ev_int rfl) fun ha => by simp at ha; (first | lia | omega))) fun _ => all_or_nil))) (fun e h S => by simp at e) (fun e h S => run_nil (run_nil ⟨rfl, S.pick ⟨rfl, rfl, rfl, trivial⟩⟩))
  intro h S
  refine run_cut (fun h => St g L h [("behind", .str t), ("ahead", .str a)] none) ?_ ?_
  · cases hp : pt with
    | true =>
      rw [hp] at S
      have S : St g L h [("behind", .str t), ("point", .str dot), ("ahead", .str a)] none := S
      exact run_if S (tr_bool (all_or (tr_bool (all_and (tr_ne rm (ev_var S rfl) ev_str (by decide +kernel) (by decide +kernel)) fun _ => (all_and (tr_not (tr_val (ev_calld S T rm (f_is_fig hc B hF D.dt (D.nt hp)) (evl_cons (ev_var S rfl) evl_nil)))) fun _ => all_and_nil))) fun _ => (all_or (tr_icmp (ev_add (ev_lens S T B (ev_var S rfl)) (ev_lens S T B (ev_var S rfl))) (ev_gconst S T hM) rfl) fun _ => all_or_nil))) (fun e h S => by simp at e; (first | lia | omega)) (fun e h S => run_nil (run_nil ⟨rfl, S.pick ⟨rfl, rfl, trivial⟩⟩))
    | false =>
      rw [hp] at S
      have S : St g L h [("behind", .str t), ("point", .str PySem.Str.empty), ("ahead", .str a)] none := S
      exact run_if S (tr_bool (all_or (tr_bool (all_and (b := false) (tr_ne rm (ev_var S rfl) ev_str (by decide +kernel) (by decide +kernel)) fun ha => absurd ha (by decide +kernel))) fun _ => (all_or (tr_icmp (ev_add (ev_lens S T B (ev_var S rfl)) (ev_lens S T B (ev_var S rfl))) (ev_gconst S T hM) rfl) fun _ => all_or_nil))) (fun e h S => by simp at e; (first | lia | omega)) (fun e h S => run_nil (run_nil ⟨rfl, S.pick ⟨rfl, rfl, trivial⟩⟩))
  intro h S
  refine run_set S ev_int fun h S => ?_
  have htl : t.cps.toList.length ≤ 60 := by rw [str_len t] at hlen; (first | lia | omega)
  refine run_for (fun i ρ μ => ρ = ([("behind", .str t), ("ahead", .str a), ("steps", .int (2 * 10 ^ i))] : Locs) ∧ μ = none) (S.pick (ρ' := [("behind", .str t), ("ahead", .str a), ("steps", .int (2 * 10 ^ 0))]) ⟨rfl, rfl, rfl, trivial⟩) (iter_str rm.hd (ev_var S rfl) (w_hold S wok_nil)) ⟨rfl, rfl⟩ (w_hold S wok_nil) ?_ ?_ (signs_flat t) ?_
  · rintro i d ρ μ h hd' ⟨rfl, rfl⟩ S
    refine run_set S (ev_mul (ev_var S rfl) ev_int (by walk_at "mul")) fun h S => run_nil ⟨_, _, ⟨rfl, rfl⟩, ?_⟩
    have e : (2 : Int) * 10 ^ (i + 1) = 2 * 10 ^ i * 10 := by rw [Int.pow_succ, ← Int.mul_assoc]
    rw [e]; exact S.pick ⟨rfl, rfl, rfl, trivial⟩
  · rintro ρ μ h ⟨rfl, rfl⟩ S
    rw [signs_len] at S
    refine run_set S (ev_mul ev_int (ev_int1 S T B (ev_adds (ev_var S rfl) (ev_var S rfl) (by (first | lia | omega))) hint (by rw [str_len, str_app]; rw [str_len, str_len] at hlen; simp; simp at hlen; (first | lia | omega))) (IntMulOk.of_left (by decide))) fun h S => ?_
    exact run_ret (ev_tup (evl_cons (ev_calld S T rm (fl) (evl_cons (ev_max S T B rm.hd ev_int (ev_sub (ev_var S rfl) ev_int)) (evl_cons (ev_var S rfl) evl_nil))) (evl_cons (ev_calld S T rm (fh) (evl_cons (ev_add (ev_var S rfl) ev_int) (evl_cons (ev_var S rfl) evl_nil))) evl_nil))) fun v h' _ r => Rf.of_flat rfl r
  · rintro i ρ μ ⟨rfl, rfl⟩ q' e
    cases e


theorem f_bounds_of (B : Bn c) {x a t : Str} {pt : Bool} (D : Dec x a t pt) : FnL c 2 "_law_bounds_of" [.str x] [.int (max 0 (2 * decN a t - 1)), .int (2 * decN a t + 1), .int (2 * 10 ^ t.cps.toList.length)] := by
  have edot : (Str.ofString ".") = dot := by decide +kernel
  have hxl := D.short
  have hlen := D.len
  have hsl : sizeLine = 2 ^ 24 := rfl
  have hpt := D.part
  have hdef := (def_at (f := "_law_bounds_of") hc 34 rfl rfl rfl (by kernel_rfl))
  refine fn1 (x1 := "_law_line") hdef rl_old (by intros; rfl) (fun A g h L fa cd T rm S => ?_)
  refine run_unpack3 rm.hd S (ev_partition (x := x) (y := dot) (ev_var S rfl) (edot ▸ ev_str) rfl (by (first | lia | omega))) fun h S => ?_
  rw [hpt] at S
  dsimp only at S
  have hal : 0 < a.length := by rw [str_len]; exact List.length_pos_iff.mpr D.na
  have hsh1 : SeqAt.shaped (.str (Txt.item a 0)) = true := by
    obtain ⟨k, hk, e, _⟩ := item_in hal
    rw [e]
    have := D.da k hk
    exact asc_shaped (fun y hy => by simp at hy; (first | lia | omega))
  refine run_cut (fun h => St g L h [("_law_tail", .str t), ("_law_point", .str (if pt then dot else PySem.Str.empty)), ("_law_head", .str a)] none) ?_ ?_
  · by_cases hl1 : 1 < a.length
    · obtain ⟨k, ek, nk, lk⟩ := D.lead hl1
      have e0 : PyData.eqv (.str (Txt.item a 0)) (.str "0") = false := by
        rw [ek]
        show ((⟨#[k]⟩ : Str) == ("0" : Str)) = false
        rw [beq_eq_false_iff_ne]
        intro q
        have q2 := congrArg (fun z : Str => z.cps.toList) q
        have e5 : ("0" : Str).cps.toList = [48] := by decide +kernel
        simp only [e5] at q2
        simp at q2
        exact nk q2
      exact run_if S (tr_bool (all_or (tr_not (tr_val (ev_calld S T rm (f_figs hc B D.da D.na) (evl_cons (ev_var S rfl) evl_nil)))) fun _ => (all_or (tr_bool (all_and (tr_icmp (ev_lens S T B (ev_var S rfl)) ev_int rfl) fun _ => (all_and (tr_eq rm (ev_sidx (ev_var S rfl) ev_int (by decide) (by (first | lia | omega)) (by decide)) ev_str hsh1 (by decide +kernel)) fun _ => all_and_nil))) fun _ => all_or_nil))) (fun e h S => by rw [e0] at e; simp at e) (fun e h S => run_nil (run_nil ⟨rfl, S.pick ⟨rfl, rfl, rfl, trivial⟩⟩))
    · exact run_if S (tr_bool (all_or (tr_not (tr_val (ev_calld S T rm (f_figs hc B D.da D.na) (evl_cons (ev_var S rfl) evl_nil)))) fun _ => (all_or (tr_bool (all_and (b := false) (tr_icmp (ev_lens S T B (ev_var S rfl)) ev_int rfl) fun ha => by simp at ha; (first | lia | omega))) fun _ => all_or_nil))) (fun e h S => by simp at e) (fun e h S => run_nil (run_nil ⟨rfl, S.pick ⟨rfl, rfl, rfl, trivial⟩⟩))
  intro h S
  refine run_cut (fun h => St g L h [("_law_tail", .str t), ("_law_head", .str a)] none) ?_ ?_
  · cases hp : pt with
    | true =>
      rw [hp] at S
      have S : St g L h [("_law_tail", .str t), ("_law_point", .str dot), ("_law_head", .str a)] none := S
      exact run_if S (tr_bool (all_and (tr_ne rm (ev_var S rfl) ev_str (by decide +kernel) (by decide +kernel)) fun _ => (all_and (tr_not (tr_val (ev_calld S T rm (f_figs hc B D.dt (D.nt hp)) (evl_cons (ev_var S rfl) evl_nil)))) fun _ => all_and_nil))) (fun e h S => by simp at e) (fun e h S => run_nil (run_nil ⟨rfl, S.pick ⟨rfl, rfl, trivial⟩⟩))
    | false =>
      rw [hp] at S
      have S : St g L h [("_law_tail", .str t), ("_law_point", .str PySem.Str.empty), ("_law_head", .str a)] none := S
      exact run_if S (tr_bool (all_and (b := false) (tr_ne rm (ev_var S rfl) ev_str (by decide +kernel) (by decide +kernel)) fun ha => absurd ha (by decide +kernel))) (fun e h S => by simp at e) (fun e h S => run_nil (run_nil ⟨rfl, S.pick ⟨rfl, rfl, trivial⟩⟩))
  intro h S
  have htl : t.cps.toList.length ≤ 60 := by rw [str_len t] at hlen; (first | lia | omega)
  refine run_set S ev_int fun h S => ?_
  refine run_set S ev_int fun h S => ?_
  refine run_for (fun i ρ μ => ρ = ([("_law_tail", .str t), ("_law_step", .int 2), ("_law_number_here", .int ((PySem.NumText.digitsVal (a.cps.toList.take i) : Nat) : Int))] : Locs) ∧ μ = none) (S.pick (ρ' := [("_law_tail", .str t), ("_law_step", .int 2), ("_law_number_here", .int ((PySem.NumText.digitsVal (a.cps.toList.take 0) : Nat) : Int))]) ⟨rfl, rfl, rfl, trivial⟩) (iter_str rm.hd (ev_var S rfl) (w_hold S wok_nil)) ⟨rfl, rfl⟩ (w_hold S wok_nil) ?_ ?_ (signs_flat a) ?_
  · rintro i d ρ μ h hd' ⟨rfl, rfl⟩ S
    obtain ⟨k, hk, rfl⟩ := signs_mem hd'
    refine run_set S (ev_add (ev_mul ev_int (ev_var S rfl) (IntMulOk.of_left (by decide))) (ev_figindex (D.da k (List.mem_of_getElem? hk)) ev_str (ev_var S rfl))) fun h S => run_nil ⟨_, _, ⟨rfl, rfl⟩, ?_⟩
    rw [dv_take hk]; exact S.pick ⟨rfl, rfl, rfl, trivial⟩
  · rintro ρ μ h ⟨rfl, rfl⟩ S
    rw [signs_len, List.take_length] at S
    refine run_for (fun i ρ μ => ρ = ([("_law_number_here", .int ((PySem.NumText.digitsVal (a.cps.toList ++ t.cps.toList.take i) : Nat) : Int)), ("_law_step", .int (2 * 10 ^ i))] : Locs) ∧ μ = none) (S.pick (ρ' := [("_law_number_here", .int ((PySem.NumText.digitsVal (a.cps.toList ++ t.cps.toList.take 0) : Nat) : Int)), ("_law_step", .int (2 * 10 ^ 0))]) ⟨by rw [List.take_zero, List.append_nil]; rfl, rfl, trivial⟩) (iter_str rm.hd (ev_var S rfl) (w_hold S wok_nil)) ⟨rfl, rfl⟩ (w_hold S wok_nil) ?_ ?_ (signs_flat t) ?_
    · rintro i d ρ μ h hd' ⟨rfl, rfl⟩ S
      obtain ⟨k, hk, rfl⟩ := signs_mem hd'
      refine run_set S (ev_add (ev_mul ev_int (ev_var S rfl) (IntMulOk.of_left (by decide))) (ev_figindex (D.dt k (List.mem_of_getElem? hk)) ev_str (ev_var S rfl))) fun h S => ?_
      refine run_set S (ev_mul ev_int (ev_var S rfl) (by walk_at "mul")) fun h S => run_nil ⟨_, _, ⟨rfl, rfl⟩, ?_⟩
      have e : (2 : Int) * 10 ^ (i + 1) = 10 * (2 * 10 ^ i) := by rw [Int.pow_succ]; (first | lia | omega)
      rw [dv_app_take hk, e]; exact S.pick ⟨rfl, rfl, trivial⟩
    · rintro ρ μ h ⟨rfl, rfl⟩ S
      rw [signs_len, List.take_length] at S
      have S : St g L h [("_law_number_here", .int (decN a t)), ("_law_step", .int (2 * 10 ^ t.cps.toList.length))] none := S
      refine run_ret (ev_list (evl_cons (ev_max S T B rm.hd ev_int (ev_sub (ev_mul ev_int (ev_var S rfl) (by walk_at "mul")) ev_int)) (evl_cons (ev_add (ev_mul ev_int (ev_var S rfl) (by walk_at "mul")) ev_int) (evl_cons (ev_var S rfl) evl_nil)))) fun v h' _ r => r.old S.frK
    · rintro i ρ μ ⟨rfl, rfl⟩ q' e
      cases e
  · rintro i ρ μ ⟨rfl, rfl⟩ q' e
    cases e

theorem f_decimal_by (B : Bn c) {ns : List Int} (hn : ns.length ≤ 63) : ∃ (x a t : Str) (pt : Bool), FnD c 3 "_law_decimal_by" [scr ns, .int 1] (.str x) ∧ Dec x a t pt := by
  have w0 := wayF_lo (ns := ns) (k := 1 + 1) (m := 3968) (by decide)
  have w1 := wayF_hi (ns := ns) (k := 1 + 1) (m := 3968) (by decide)
  generalize hW : wayF ns (1 + 1) 3968 = W at *
  generalize hV : cell ns 1 = V
  have key : ∃ m : Int, ([PyData.int 10, .int 1000, .int (10 ^ (28 : Int).toNat), .int 1] : List PyData)[(W % 4).toNat]? = some (.int m) ∧ 0 < m ∧ m ≤ 10 ^ 28 := by
    have : W % 4 = 0 ∨ W % 4 = 1 ∨ W % 4 = 2 ∨ W % 4 = 3 := by (first | lia | omega)
    rcases this with e | e | e | e <;> rw [e]
    · exact ⟨10, rfl, by decide +kernel, by decide +kernel⟩
    · exact ⟨1000, rfl, by decide +kernel, by decide +kernel⟩
    · exact ⟨10 ^ 28, rfl, by decide +kernel, by decide +kernel⟩
    · exact ⟨1, rfl, by decide +kernel, by decide +kernel⟩
  obtain ⟨m, hm, hm0, hm1⟩ := key
  have p57 : (0 : Int) < 10 ^ (57 : Int).toNat := by decide +kernel
  have p58 : (0 : Int) < 10 ^ (58 : Int).toNat := by decide +kernel
  have e57 : (10 : Int) ^ (57 : Int).toNat = 10 ^ 57 := rfl
  have e58 : (10 : Int) ^ (58 : Int).toNat = 10 ^ 58 := rfl
  have v1 := Int.emod_nonneg V (b := m) (by (first | lia | omega))
  have v2 := Int.emod_lt_of_pos V hm0
  have v3 := Int.emod_nonneg V (b := 10) (by decide)
  have v4 := Int.emod_lt_of_pos V (b := 10) (by decide)
  have v5 := Int.emod_nonneg V (b := 10 ^ (57 : Int).toNat) (by (first | lia | omega))
  have v6 := Int.emod_lt_of_pos V p57
  have r1 := Int.emod_nonneg (cell ns (1 + 2)) (b := 10 ^ (58 : Int).toNat) (by (first | lia | omega))
  have r2 := Int.emod_lt_of_pos (cell ns (1 + 2)) p58
  obtain ⟨n1, hn1⟩ : ∃ n1 : Int, n1 = if W / 32 % 4 = 1 then W / 128 else W / 4 % 8 := ⟨_, rfl⟩
  obtain ⟨hv2, hhv2⟩ : ∃ z : Int, z = if W / 32 % 4 = 2 ∧ W / 128 > 25 then V % 10 else V % m := ⟨_, rfl⟩
  obtain ⟨n2, hn2⟩ : ∃ z : Int, z = if W / 32 % 4 = 2 ∧ W / 128 > 25 then 28 + W / 128 else n1 := ⟨_, rfl⟩
  obtain ⟨hv, hhv⟩ : ∃ z : Int, z = if W / 32 % 4 = 3 ∧ W / 128 > 25 then V % 10 ^ (57 : Int).toNat else hv2 := ⟨_, rfl⟩
  obtain ⟨mn, hmn⟩ : ∃ z : Int, z = if W / 32 % 4 = 3 ∧ W / 128 > 25 then W / 4 % 2 else n2 := ⟨_, rfl⟩
  have bounds : 0 ≤ hv ∧ 0 ≤ mn ∧ mn ≤ 58 ∧ (hv < 10 ^ 57 ∧ mn ≤ 1 ∨ hv < 10 ∧ mn ≤ 58 ∨ hv < 10 ^ 28 ∧ mn ≤ 30) := by
    by_cases q3 : W / 32 % 4 = 3 ∧ W / 128 > 25
    · rw [if_pos q3] at hhv hmn; (first | lia | omega)
    · rw [if_neg q3] at hhv hmn
      by_cases q2 : W / 32 % 4 = 2 ∧ W / 128 > 25
      · rw [if_pos q2] at hhv2 hn2; (first | lia | omega)
      · rw [if_neg q2] at hhv2 hn2
        by_cases q1 : W / 32 % 4 = 1
        · rw [if_pos q1] at hn1; (first | lia | omega)
        · rw [if_neg q1] at hn1; (first | lia | omega)
  obtain ⟨hv0, mn0, mn58, balt⟩ := bounds
  have hlen : (tS hv).length + mn.toNat ≤ 60 := by
    rcases balt with q | q | q
    · have := tS_len (k := 56) hv0 q.1; (first | lia | omega)
    · have := tS_len (k := 0) hv0 (by simpa using q.1); (first | lia | omega)
    · have := tS_len (k := 27) hv0 q.1; (first | lia | omega)
  have hlen3 : ∀ z : Int, 0 ≤ z → z < 10 ^ 57 → z.natAbs.log2 < 1920 := fun z h1 h2 => log_ok h1 (by (first | lia | omega))
  have hR0 : 10 ^ 58 ≤ (10 ^ (58 : Int).toNat + cell ns (1 + 2) % 10 ^ (58 : Int).toNat) := by (first | lia | omega)
  have hR1 : (10 ^ (58 : Int).toNat + cell ns (1 + 2) % 10 ^ (58 : Int).toNat) < 2 * 10 ^ 58 := by (first | lia | omega)
  have go : FnD c 3 "_law_decimal_by" [scr ns, .int 1] (.str (if mn = 0 then tS hv else tS hv ++ dot ++ Txt.slice (tS (10 ^ (58 : Int).toNat + cell ns (1 + 2) % 10 ^ (58 : Int).toNat)) (some (59 - mn)) none)) := by
    have hdef := (def_at (f := "_law_decimal_by") hc 35 rfl rfl rfl (by kernel_rfl))
    refine fn2 (x1 := "_law_script") (x2 := "_law_first") hdef rf_old (by intros; rfl) (fun A g h L fa cd T rm S => ?_)
    have fw := f_way hc B (ns := ns) (k := 1 + 1) (m := 3968) (by decide) (by decide) hn (by decide)
    rw [hW] at fw
    have fc := f_cell hc B (ns := ns) (k := 1) (by decide) (by decide) hn
    rw [hV] at fc
    have fc3 := f_cell hc B (ns := ns) (k := 1 + 2) (by decide) (by decide) hn
    refine run_set S (ev_calld S T rm (fw) (evl_cons (ev_var S rfl) (evl_cons (ev_add (ev_var S rfl) ev_int) (evl_cons ev_int evl_nil)))) fun h S => ?_
    refine run_set S (ev_str1 S T B (ev_mod (ev_calld S T rm (fc) (evl_cons (ev_var S rfl) (evl_cons (ev_var S rfl) evl_nil))) (ev_lidx ((ev_list (evl_cons ev_int (evl_cons ev_int (evl_cons (ev_pow ev_int ev_int (by decide) (by decide) (by decide)) (evl_cons ev_int evl_nil))))).mono fun _ _ _ r => r.rd) (ev_mod (ev_var S rfl) ev_int (by walk_at "pos")) hm (by (first | lia | omega)) (by (first | lia | omega))) hm0) (hlen3 _ v1 (by (first | lia | omega)))) fun h S => ?_
    refine run_set S (ev_mod (ev_div (ev_var S rfl) ev_int (by walk_at "pos") (by walk_at "small")) ev_int (by walk_at "pos")) fun h S => ?_
    refine run_ifJ (fun h => St g L h [("_law_script", scr ns), ("_law_first", .int 1), ("_law_way_here", .int W), ("_law_head", .str (tS (V % m))), ("_law_many", .int n1)] none) S (tr_icmp (ev_mod (ev_div (ev_var S rfl) ev_int (by walk_at "pos") (by walk_at "small")) ev_int (by walk_at "pos")) ev_int rfl) (fun e h S => ?_) (fun e h S => ?_) ?_
    · rw [hn1, if_pos (by simpa using e)]
      exact run_set S (ev_div (ev_var S rfl) ev_int (by walk_at "pos") (by walk_at "small")) fun h S => run_nil ⟨rfl, S.pick ⟨rfl, rfl, rfl, rfl, rfl, trivial⟩⟩
    · rw [hn1, if_neg (by simpa using e)]
      exact S.pick ⟨rfl, rfl, rfl, rfl, rfl, trivial⟩
    intro h S
    refine run_ifJ (fun h => St g L h [("_law_script", scr ns), ("_law_first", .int 1), ("_law_way_here", .int W), ("_law_head", .str (tS hv2)), ("_law_many", .int n2)] none) S (tr_bool (all_and (tr_icmp (ev_mod (ev_div (ev_var S rfl) ev_int (by walk_at "pos") (by walk_at "small")) ev_int (by walk_at "pos")) ev_int rfl) fun _ => (all_and (tr_icmp (ev_div (ev_var S rfl) ev_int (by walk_at "pos") (by walk_at "small")) ev_int rfl) fun _ => all_and_nil))) (fun e h S => ?_) (fun e h S => ?_) ?_
    · rw [hhv2, hn2, if_pos (by simpa using e), if_pos (by simpa using e)]
      refine run_set S (ev_str1 S T B (ev_mod (ev_calld S T rm (fc) (evl_cons (ev_var S rfl) (evl_cons (ev_var S rfl) evl_nil))) ev_int (by walk_at "pos")) (hlen3 _ v3 (by (first | lia | omega)))) fun h S => ?_
      exact run_set S (ev_add ev_int (ev_div (ev_var S rfl) ev_int (by walk_at "pos") (by walk_at "small"))) fun h S => run_nil ⟨rfl, S.pick ⟨rfl, rfl, rfl, rfl, rfl, trivial⟩⟩
    · rw [hhv2, hn2, if_neg (by simpa using e), if_neg (by simpa using e)]
      exact S.pick ⟨rfl, rfl, rfl, rfl, rfl, trivial⟩
    intro h S
    refine run_ifJ (fun h => St g L h [("_law_script", scr ns), ("_law_first", .int 1), ("_law_head", .str (tS hv)), ("_law_many", .int mn)] none) S (tr_bool (all_and (tr_icmp (ev_mod (ev_div (ev_var S rfl) ev_int (by walk_at "pos") (by walk_at "small")) ev_int (by walk_at "pos")) ev_int rfl) fun _ => (all_and (tr_icmp (ev_div (ev_var S rfl) ev_int (by walk_at "pos") (by walk_at "small")) ev_int rfl) fun _ => all_and_nil))) (fun e h S => ?_) (fun e h S => ?_) ?_
    · rw [hhv, hmn, if_pos (by simpa using e), if_pos (by simpa using e)]
      refine run_set S (ev_str1 S T B (ev_mod (ev_calld S T rm (fc) (evl_cons (ev_var S rfl) (evl_cons (ev_var S rfl) evl_nil))) (ev_pow ev_int ev_int (by decide) (by decide) (by decide)) p57) (hlen3 _ v5 (by (first | lia | omega)))) fun h S => ?_
      exact run_set S (ev_mod (ev_div (ev_var S rfl) ev_int (by walk_at "pos") (by walk_at "small")) ev_int (by walk_at "pos")) fun h S => run_nil ⟨rfl, S.pick ⟨rfl, rfl, rfl, rfl, trivial⟩⟩
    · rw [hhv, hmn, if_neg (by simpa using e), if_neg (by simpa using e)]
      exact S.pick ⟨rfl, rfl, rfl, rfl, trivial⟩
    intro h S
    refine run_if S (tr_icmp (ev_var S rfl) ev_int rfl) (fun e h S => ?_) (fun e h S => run_nil ?_)
    · rw [if_pos (by simpa using e)]
      exact run_ret (ev_var S rfl) fun v h' _ r => Rf.of_flat rfl r
    · have hmn1 : mn ≠ 0 := by simpa using e
      rw [if_neg hmn1]
      have edot : (Str.ofString ".") = dot := by decide +kernel
      have hsl : sizeLine = 2 ^ 24 := rfl
      have hRl := tS_len (m := (10 ^ (58 : Int).toNat + cell ns (1 + 2) % 10 ^ (58 : Int).toNat)) (k := 58) (by (first | lia | omega)) (by (first | lia | omega))
      have hRs : (tS (10 ^ (58 : Int).toNat + cell ns (1 + 2) % 10 ^ (58 : Int).toNat)).length ≤ sizeLine := by (first | lia | omega)
      have hTl := (tail_dec (R := (10 ^ (58 : Int).toNat + cell ns (1 + 2) % 10 ^ (58 : Int).toNat)) (k := mn) (by (first | lia | omega)) (by (first | lia | omega)) (by (first | lia | omega)) mn58).2
      have hd1 : (tS hv ++ dot).length = (tS hv).length + 1 := by rw [str_len, str_app, str_len]; simp
      have hdl : dot.length = 1 := rfl
      refine run_ret (ev_adds (ev_adds (ev_var S rfl) (edot ▸ ev_str) (by rw [hdl]; (first | lia | omega))) (ev_slice_fromv (ev_str1 S T B (ev_add (ev_pow ev_int ev_int (by decide) (by decide) (by decide)) (ev_mod (ev_calld S T rm (fc3) (evl_cons (ev_var S rfl) (evl_cons (ev_add (ev_var S rfl) ev_int) evl_nil))) (ev_pow ev_int ev_int (by decide) (by decide) (by decide)) p58)) (log_ok (by (first | lia | omega)) (by (first | lia | omega)))) (ev_sub ev_int (ev_var S rfl)) hRs) (by rw [hd1, hTl]; (first | lia | omega))) fun v h' _ r => Rf.of_flat rfl r
  by_cases hz : mn = 0
  · rw [if_pos hz] at go
    refine ⟨_, tS hv, PySem.Str.empty, false, go, rfl, tS_dg hv0, (fun c hc => by simp [PySem.Str.empty] at hc), tS_ne hv0, (fun q => by cases q), fun _ => rfl, fun q => tS_lead hv0 q, ?_⟩
    have : PySem.Str.empty.length = 0 := rfl
    (first | lia | omega)
  · rw [if_neg hz] at go
    obtain ⟨t1, t2⟩ := tail_dec (R := (10 ^ (58 : Int).toNat + cell ns (1 + 2) % 10 ^ (58 : Int).toNat)) (k := mn) (by (first | lia | omega)) (by (first | lia | omega)) (by (first | lia | omega)) mn58
    refine ⟨_, tS hv, _, true, go, rfl, tS_dg hv0, t1, tS_ne hv0, fun _ q => ?_, (fun q => by cases q), fun q => tS_lead hv0 q, by rw [t2]; exact hlen⟩
    rw [str_len, q] at t2
    simp at t2; (first | lia | omega)


theorem f_guess (B : Bn c) {x : Str} {a b p q u l : Int} (ft : FnD c 3 "told" [.str x] (.tuple [PD a b, PD p q])) (fs : FnD c 3 "simplest" [PD a b, PD p q] (PD u l)) : FnD c 4 "guess" [.str x] (PD u l) := by
  have hdef := (def_at (f := "guess") hc 23 rfl rfl rfl (by kernel_rfl))
  refine fn1 (x1 := "line") hdef rf_old (by intros; rfl) (fun A g h L fa cd T rm S => ?_)
  refine run_unpack2 rm.hd S (ev_calld S T rm (ft) (evl_cons (ev_var S rfl) evl_nil)) fun h S => ?_
  exact run_ret (ev_calld S T rm (fs) (evl_cons (ev_var S rfl) (evl_cons (ev_var S rfl) evl_nil))) fun v h' _ r => Rf.of_flat rfl r

theorem f_around10 (B : Bn c) {a b p q u l : Int} (bd : Bd a b p q) (sm : Smp a b p q u l) (hu : 1 ≤ u) (s1 : Sz 69 a) (s2 : Sz 69 b) (s3 : Sz 69 p) (s4 : Sz 69 q) : FnD c 3 "_law_around" [PD u l, PD a b, PD p q] (.bool true) := by
  obtain ⟨mx, my⟩ := sm.mn a b bd.b1 (Int.le_refl _) bd.le
  have hl1' := sm.l1
  have su : Sz 69 u := s1.le sm.u0 mx
  have sl : Sz 69 l := s2.le (by (first | lia | omega)) my
  obtain ⟨l0, l1, r0, r1, fs, n1, n2, n3, n4, hd, hx, hy⟩ := f_sides_ex hc hu sm.l1 sm.co (su.mono (by decide)) (sl.mono (by decide))
  have hlp : 1 ≤ l1 := by
    rcases Int.lt_or_eq_of_le n2 with z | z
    · (first | lia | omega)
    · rw [← z] at hd; have := Int.mul_nonneg n1 n4; (first | lia | omega)
  have hrp : 1 ≤ r0 := by
    rcases Int.lt_or_eq_of_le n3 with z | z
    · (first | lia | omega)
    · rw [← z] at hd; have := Int.mul_nonneg n1 n4; (first | lia | omega)
  have hb1 := bd.b1
  have hq1 := bd.d1
  have hmed : l0 * l < u * l1 := by
    have e : u * l1 - l0 * l = r0 * l1 - l0 * r1 := by rw [← hx, ← hy]; grind
    (first | lia | omega)
  have hmed2 : u * r1 < r0 * l := by
    have e : r0 * l - u * r1 = r0 * l1 - l0 * r1 := by rw [← hx, ← hy]; grind
    (first | lia | omega)
  have hA : l0 * b < a * l1 := by
    apply Classical.byContradiction
    intro z
    have q1 : a * l1 ≤ l0 * b := by (first | lia | omega)
    have q2 : l0 * q ≤ p * l1 := by
      have k1 := Int.mul_le_mul_of_nonneg_right (Int.le_of_lt hmed) (show 0 ≤ q by (first | lia | omega))
      have k2 := Int.mul_le_mul_of_nonneg_right sm.hi (show 0 ≤ l1 by (first | lia | omega))
      have e1 : l0 * l * q = l0 * q * l := by grind
      have e2 : u * l1 * q = u * q * l1 := by grind
      have e3 : p * l * l1 = p * l1 * l := by grind
      have k3 : l0 * q * l ≤ p * l1 * l := by (first | lia | omega)
      exact Int.le_of_mul_le_mul_right k3 (by (first | lia | omega))
    have := (sm.mn l0 l1 hlp q1 q2).1
    (first | lia | omega)
  have hB : p * r1 < r0 * q := by
    rcases Int.lt_or_eq_of_le n4 with z | z
    · apply Classical.byContradiction
      intro y
      have q2 : r0 * q ≤ p * r1 := by (first | lia | omega)
      have q1 : a * r1 ≤ r0 * b := by
        have k1 := Int.mul_le_mul_of_nonneg_right (Int.le_of_lt hmed2) (show 0 ≤ b by (first | lia | omega))
        have k2 := Int.mul_le_mul_of_nonneg_right sm.lo (show 0 ≤ r1 by (first | lia | omega))
        have e1 : r0 * l * b = r0 * b * l := by grind
        have e2 : u * r1 * b = u * b * r1 := by grind
        have e3 : a * l * r1 = a * r1 * l := by grind
        have k3 : a * r1 * l ≤ r0 * b * l := by (first | lia | omega)
        exact Int.le_of_mul_le_mul_right k3 (by (first | lia | omega))
      have := (sm.mn r0 r1 (by (first | lia | omega)) q1 q2).2
      (first | lia | omega)
    · rw [← z, Int.mul_zero]
      exact Int.mul_pos (by (first | lia | omega)) (by (first | lia | omega))
  have z1 : Sz 69 l0 := su.le n1 (by (first | lia | omega))
  have z2 : Sz 69 r0 := su.le n3 (by (first | lia | omega))
  have z3 : Sz 69 l1 := sl.le n2 (by (first | lia | omega))
  have z4 : Sz 69 r1 := sl.le n4 (by (first | lia | omega))
  have hdef := (def_at (f := "_law_around") hc 36 rfl rfl rfl (by kernel_rfl))
  refine fn3 (x1 := "_law_found") (x2 := "_law_low") (x3 := "_law_high") hdef rf_old (by intros; rfl) (fun A g h L fa cd T rm S => ?_)
  refine run_unpack2 rm.hd S (ev_calld S T rm (fs) (evl_cons (ev_var S rfl) evl_nil)) fun h S => ?_
  refine run_if S (tr_bool (all_or (tr_icmp (ev_sub (ev_mul (ev_tidx (ev_var S rfl) ev_int) (ev_tidx (ev_var S rfl) ev_int) (by walk_at "mul")) (ev_mul (ev_tidx (ev_var S rfl) ev_int) (ev_tidx (ev_var S rfl) ev_int) (by walk_at "mul"))) ev_int rfl) fun _ => (all_or (tr_icmp (ev_tidx (ev_var S rfl) ev_int) ev_int rfl) fun _ => (all_or (tr_icmp (ev_tidx (ev_var S rfl) ev_int) ev_int rfl) fun _ => all_or_nil)))) (fun e h S => by simp [hd] at e; (first | lia | omega)) (fun e h S => run_nil ?_)
  refine run_if S (tr_bool (all_or (tr_icmp (ev_add (ev_tidx (ev_var S rfl) ev_int) (ev_tidx (ev_var S rfl) ev_int)) (ev_tidx (ev_var S rfl) ev_int) rfl) fun _ => (all_or (tr_icmp (ev_add (ev_tidx (ev_var S rfl) ev_int) (ev_tidx (ev_var S rfl) ev_int)) (ev_tidx (ev_var S rfl) ev_int) rfl) fun _ => all_or_nil))) (fun e h S => by simp [hx, hy] at e) (fun e h S => run_nil ?_)
  refine run_ret (ev_bop (bo_and (ev_icmp (ev_mul (ev_tidx (ev_var S rfl) ev_int) (ev_tidx (ev_var S rfl) ev_int) (by walk_at "mul")) (ev_mul (ev_tidx (ev_var S rfl) ev_int) (ev_tidx (ev_var S rfl) ev_int) (by walk_at "mul")) rfl) fun _ => (bo_last (ev_icmp (ev_mul (ev_tidx (ev_var S rfl) ev_int) (ev_tidx (ev_var S rfl) ev_int) (by walk_at "mul")) (ev_mul (ev_tidx (ev_var S rfl) ev_int) (ev_tidx (ev_var S rfl) ev_int) (by walk_at "mul")) rfl)))) fun v h' _ r => Rf.of_flat rfl ?_
  rw [decide_eq_true hA, decide_eq_true (show r0 * q > p * r1 from hB)] at r
  exact r

theorem f_law (B : Bn c) (hF : valOf c.p "FIGURES" = some (.str "0123456789")) (hMF : valOf c.p "MOST_FIGURES" = some (.int 60)) {ns : List Int} (hn : ns.length ≤ 63) : FnD c 6 "law" [scr ns] (.bool true) := by
  have w0 := wayF_lo (ns := ns) (k := 0) (m := 128) (by decide)
  have w5 := wayF_lo (ns := ns) (k := 5) (m := 16) (by decide)
  have hdef := (def_at (f := "law") hc 37 rfl rfl rfl (by kernel_rfl))
  refine fn1 (x1 := "_law_script") hdef rf_old (by intros; rfl) (fun A g h L fa cd T rm S => ?_)
  refine run_set S (ev_calld S T rm (f_way hc B (by decide) (by decide) hn (by decide)) (evl_cons (ev_var S rfl) (evl_cons ev_int (evl_cons ev_int evl_nil)))) fun h S => ?_
  refine run_cut (fun h => ∃ a b p q u l : Int, Bd a b p q ∧ Smp a b p q u l ∧ Sz 69 a ∧ Sz 69 b ∧ Sz 69 p ∧ Sz 69 q ∧ St g L h [("_law_low", PD a b), ("_law_high", PD p q), ("_law_found", PD u l)] none) ?_ ?_
  · refine run_if S (tr_icmp (ev_mod (ev_div (ev_var S rfl) ev_int (by walk_at "pos") (by walk_at "small")) ev_int (by walk_at "pos")) ev_int rfl) (fun e h S => ?_) (fun e h S => ?_)
    · obtain ⟨x, aa, tt, pt, fd, D⟩ := f_decimal_by hc B hn
      obtain ⟨N0, N1⟩ := decN_ok D
      have hlen := D.len
      have htl : tt.cps.toList.length ≤ 60 := by rw [str_len tt] at hlen; (first | lia | omega)
      have hs0 : (0 : Int) < 10 ^ tt.cps.toList.length := Int.pow_pos (by decide)
      have hs1 : (10 : Int) ^ tt.cps.toList.length ≤ 10 ^ 60 := pow_mono10 htl
      have fb := f_bounds_of hc B D
      have mk := fun (l0 l1 h0 h1 : Int) (fl) (fh) => f_told hc B hF hMF D (l0 := l0) (l1 := l1) (h0 := h0) (h1 := h1) fl fh
      generalize decN aa tt = N at *
      generalize (10 : Int) ^ tt.cps.toList.length = t10 at *
      have sA : Sz 62 (max 0 (2 * N - 1)) := by constructor <;> (first | lia | omega)
      have sB : Sz 62 (2 * N + 1) := by constructor <;> (first | lia | omega)
      have sS : Sz 62 (2 * t10) := by constructor <;> (first | lia | omega)
      have A0 : 0 ≤ max 0 (2 * N - 1) := by (first | lia | omega)
      have hAB : max 0 (2 * N - 1) ≤ 2 * N + 1 := by (first | lia | omega)
      have hS1 : 1 ≤ 2 * t10 := by (first | lia | omega)
      have B0 : 0 ≤ 2 * N + 1 := by (first | lia | omega)
      obtain ⟨p1, p2, p3, p4, p5, p6, p7⟩ := low_props A0 hS1
      obtain ⟨q1, q2, q3, q4, q5, q6, q7⟩ := low_props B0 hS1
      have fl := f_lowest hc B A0 hS1 sS (by decide)
      have fh := f_lowest hc B B0 hS1 sS (by decide)
      have ffl := f_frac hc A0 hS1 sS (by decide)
      have ffh := f_frac hc B0 hS1 sS (by decide)
      have ft := mk _ _ _ _ fl fh
      clear mk fl fh
      generalize max 0 (2 * N - 1) = A1 at *
      generalize 2 * N + 1 = B1 at *
      generalize 2 * t10 = s10 at *
      have gA := gcd_pos (a := A1) hS1
      have gB := gcd_pos (a := B1) hS1
      generalize A1 / (Int.gcd A1 s10 : Int) = a at *
      generalize s10 / (Int.gcd A1 s10 : Int) = b at *
      generalize B1 / (Int.gcd B1 s10 : Int) = p at *
      generalize s10 / (Int.gcd B1 s10 : Int) = q at *
      generalize (Int.gcd A1 s10 : Int) = g1 at *
      generalize (Int.gcd B1 s10 : Int) = g2 at *
      have hle : a * q ≤ p * b := by
        have k : a * q * (g1 * g2) ≤ p * b * (g1 * g2) := by
          have e1 : a * q * (g1 * g2) = (a * g1) * (q * g2) := by grind
          have e2 : p * b * (g1 * g2) = (p * g2) * (b * g1) := by grind
          rw [e1, e2, p6, p7, q6, q7]
          exact Int.mul_le_mul_of_nonneg_right hAB (by (first | lia | omega))
        exact Int.le_of_mul_le_mul_right k (Int.mul_pos (by (first | lia | omega)) (by (first | lia | omega)))
      have ta : Sz 69 a := (sA.le p1 p4).mono (by decide)
      have tb : Sz 69 b := (sS.le (by (first | lia | omega)) p5).mono (by decide)
      have tp : Sz 69 p := (sB.le q1 q4).mono (by decide)
      have tq : Sz 69 q := (sS.le (by (first | lia | omega)) q5).mono (by decide)
      have bd : Bd a b p q := ⟨p1, p2, q1, q2, hle⟩
      obtain ⟨ps, c0, R⟩ := cf_for bd
      have sm := cf_main R bd
      have fs := f_simplest hc B bd R ta tb tp tq
      refine run_set S (ev_calld S T rm (fd) (evl_cons (ev_var S rfl) (evl_cons ev_int evl_nil))) fun h S => ?_
      refine run_assign S ((ev_call S T rm fb (evl_cons (ev_var S rfl) evl_nil)).mono fun _ _ _ r => r.rf rfl) fun h S => ?_
      refine run_set S (ev_calld S T rm ffl (evl_cons (ev_lidx (ev_var S rfl) ev_int rfl (by decide) (by decide)) (evl_cons (ev_lidx (ev_var S rfl) ev_int rfl (by decide) (by decide)) evl_nil))) fun h S => ?_
      refine run_set S (ev_calld S T rm ffh (evl_cons (ev_lidx (ev_var S rfl) ev_int rfl (by decide) (by decide)) (evl_cons (ev_lidx (ev_var S rfl) ev_int rfl (by decide) (by decide)) evl_nil))) fun h S => ?_
      exact run_set S (ev_calld S T rm (f_guess hc B ft fs) (evl_cons (ev_var S rfl) evl_nil)) fun h S => run_nil (run_nil ⟨rfl, _, _, _, _, _, _, bd, sm, ta, tb, tp, tq, S.pick ⟨rfl, rfl, rfl, trivial⟩⟩)
    · obtain ⟨a, b, f1, h1⟩ := f_drawn hc B (ns := ns) (k := 1) (wv := wayF ns 0 128) hn (by decide) (by decide) w0
      obtain ⟨g0, g1, f2, h2⟩ := f_drawn hc B (ns := ns) (k := 3) (wv := wayF ns 5 16) hn (by decide) (by decide) w5
      have sa := h1.sa
      have sb := h1.sb
      have sg0 := h2.sa
      have sg1 := h2.sb
      have hb1 := h1.up
      have hg1 := h2.up
      have ha0 := h1.lo
      have hg0 := h2.lo
      have pg : 1 ≤ b * g1 := by
        have := Int.mul_le_mul hb1 hg1 (by (first | lia | omega)) (by (first | lia | omega))
        (first | lia | omega)
      have px : 0 ≤ a * g1 + g0 * b := by
        have := Int.mul_nonneg ha0 (show 0 ≤ g1 by (first | lia | omega))
        have := Int.mul_nonneg hg0 (show 0 ≤ b by (first | lia | omega))
        (first | lia | omega)
      obtain ⟨u0, v0, ff, hff, eff⟩ := f_frac_ex hc (a := a * g1 + g0 * b) (b := b * g1) (n := 60) px pg (((sa.mul sg1).add (sg0.mul sb)).mono (by decide)) ((sb.mul sg1).mono (by decide)) (by decide)
      have hle0 : a * v0 ≤ u0 * b := by
        have q : a * v0 * g1 ≤ u0 * b * g1 := by
          have e1 : u0 * b * g1 = u0 * (b * g1) := Int.mul_assoc _ _ _
          rw [e1, eff]
          have e2 : (a * g1 + g0 * b) * v0 - a * v0 * g1 = g0 * b * v0 := by grind
          have := Int.mul_nonneg (Int.mul_nonneg hg0 (show 0 ≤ b by (first | lia | omega))) (show 0 ≤ v0 by have := hff.up; (first | lia | omega))
          (first | lia | omega)
        exact Int.le_of_mul_le_mul_right q (by (first | lia | omega))
      refine run_set S (ev_calld S T rm (f1) (evl_cons (ev_var S rfl) (evl_cons ev_int (evl_cons (ev_var S rfl) evl_nil)))) fun h S => ?_
      refine run_set S (ev_var S rfl) fun h S => ?_
      refine run_ifJ (fun h => ∃ p q : Int, Fr2 60 p q ∧ a * q ≤ p * b ∧ St g L h [("_law_way_here", .int (wayF ns 0 128)), ("_law_low", PD a b), ("_law_high", PD p q)] none) S (tr_icmp (ev_div (ev_var S rfl) ev_int (by walk_at "pos") (by walk_at "small")) ev_int rfl)
        (fun e h S => run_set S (ev_calld S T rm (f2) (evl_cons (ev_var S rfl) (evl_cons ev_int (evl_cons (ev_calld S T rm (f_way hc B (by decide) (by decide) hn (by decide)) (evl_cons (ev_var S rfl) (evl_cons ev_int (evl_cons ev_int evl_nil)))) evl_nil)))) fun h S => run_set S (ev_calld S T rm (ff) (evl_cons (ev_add (ev_mul (ev_tidx (ev_var S rfl) ev_int) (ev_tidx (ev_var S rfl) ev_int) (by walk_at "mul")) (ev_mul (ev_tidx (ev_var S rfl) ev_int) (ev_tidx (ev_var S rfl) ev_int) (by walk_at "mul"))) (evl_cons (ev_mul (ev_tidx (ev_var S rfl) ev_int) (ev_tidx (ev_var S rfl) ev_int) (by walk_at "mul")) evl_nil))) fun h S => run_nil ⟨rfl, u0, v0, hff, hle0, S.pick ⟨rfl, rfl, rfl, trivial⟩⟩)
        (fun e h S => ⟨a, b, h1.mono (by decide), Int.le_refl _, S.pick ⟨rfl, rfl, rfl, trivial⟩⟩) ?_
      rintro h ⟨p1, q1, h3, le3, S⟩
      have hdiv : 0 ≤ a / b := Int.ediv_nonneg ha0 (by (first | lia | omega))
      have hdiv2 : a / b ≤ a := Int.ediv_le_self _ ha0
      have hfl : a * 1 ≤ (a / b + 1) * b := by
        have := Int.mul_ediv_add_emod a b
        have := Int.emod_lt_of_pos a (b := b) (by (first | lia | omega))
        rw [Int.add_mul, Int.mul_comm (a / b)]; (first | lia | omega)
      have sdiv : Sz 60 (a / b + 1) := by have := sa.2; constructor <;> (first | lia | omega)
      refine run_ifJ (fun h => ∃ p q : Int, Fr2 60 p q ∧ a * q ≤ p * b ∧ St g L h [("_law_way_here", .int (wayF ns 0 128)), ("_law_low", PD a b), ("_law_high", PD p q)] none) S (tr_icmp (ev_div (ev_var S rfl) ev_int (by walk_at "pos") (by walk_at "small")) ev_int rfl)
        (fun e h S => run_set S (ev_tup (evl_cons (ev_add (ev_div (ev_tidx (ev_var S rfl) ev_int) (ev_tidx (ev_var S rfl) ev_int) (by walk_at "pos") (by walk_at "small")) ev_int) (evl_cons ev_int evl_nil))) fun h S => run_nil ⟨rfl, _, _, ⟨by (first | lia | omega), by decide, by simp, sdiv, (sz_lit (by decide)).mono (by decide)⟩, hfl, S.pick ⟨rfl, rfl, rfl, trivial⟩⟩)
        (fun e h S => ⟨p1, q1, h3, le3, S⟩) ?_
      rintro h ⟨p, q, hf, hle, S⟩
      have ta := sa.mono (by decide : 29 ≤ 69)
      have tb := sb.mono (by decide : 29 ≤ 69)
      have tp := hf.sa.mono (by decide : 60 ≤ 69)
      have tq := hf.sb.mono (by decide : 60 ≤ 69)
      have bd : Bd a b p q := ⟨ha0, hb1, hf.lo, hf.up, hle⟩
      obtain ⟨ps, c0, R⟩ := cf_for bd
      have sm := cf_main R bd
      have fs := f_simplest hc B bd R ta tb tp tq
      exact run_set S (ev_calld S T rm (fs) (evl_cons (ev_var S rfl) (evl_cons (ev_var S rfl) evl_nil))) fun h S => run_nil (run_nil ⟨rfl, _, _, _, _, _, _, bd, sm, ta, tb, tp, tq, S.pick ⟨rfl, rfl, rfl, trivial⟩⟩)
  rintro h ⟨a, b, p, q, u, l, bd, sm, ta, tb, tp, tq, S⟩
  obtain ⟨m1, m2⟩ := sm.mn a b bd.b1 (Int.le_refl _) bd.le
  have ffu := fracB_true sm.u0 sm.l1 sm.co
  have su : Sz 69 u := ta.le sm.u0 m1
  have sl : Sz 69 l := tb.le (by have := sm.l1; (first | lia | omega)) m2
  refine run_if S (tr_bool (all_or (tr_not (tr_val (ev_calld S T rm (f_is_frac hc B) (evl_cons (ev_var S rfl) evl_nil)))) fun _ => (all_or (tr_icmp (ev_mul (ev_tidx (ev_var S rfl) ev_int) (ev_tidx (ev_var S rfl) ev_int) (by walk_at "mul")) (ev_mul (ev_tidx (ev_var S rfl) ev_int) (ev_tidx (ev_var S rfl) ev_int) (by walk_at "mul")) rfl) fun _ => (all_or (tr_icmp (ev_mul (ev_tidx (ev_var S rfl) ev_int) (ev_tidx (ev_var S rfl) ev_int) (by walk_at "mul")) (ev_mul (ev_tidx (ev_var S rfl) ev_int) (ev_tidx (ev_var S rfl) ev_int) (by walk_at "mul")) rfl) fun _ => all_or_nil)))) (fun e h S => by have := sm.lo; have := sm.hi; simp [ffu] at e; (first | lia | omega)) (fun e h S => run_nil ?_)
  by_cases hu : u = 0
  · refine run_if S (tr_icmp (ev_tidx (ev_var S rfl) ev_int) ev_int rfl) (fun e h S => ?_) (fun e h S => by simp at e; (first | lia | omega))
    have ha : a = 0 := by
      have q1 := sm.lo
      rw [hu, Int.zero_mul] at q1
      have q2 := Int.mul_nonneg bd.a0 (show 0 ≤ l by have := sm.l1; (first | lia | omega))
      have q3 : a * l = 0 := by (first | lia | omega)
      rcases Int.mul_eq_zero.mp q3 with z | z
      · exact z
      · have := sm.l1; (first | lia | omega)
    refine run_ret (ev_icmp (ev_tidx (ev_var S rfl) ev_int) ev_int rfl) fun v h' _ r => Rf.of_flat rfl ?_
    rw [ha] at r; exact r
  · refine run_if S (tr_icmp (ev_tidx (ev_var S rfl) ev_int) ev_int rfl) (fun e h S => by simp at e; (first | lia | omega)) (fun e h S => run_nil ?_)
    exact run_ret (ev_calld S T rm (f_around10 hc B bd sm (by have := sm.u0; (first | lia | omega)) ta tb tp tq) (evl_cons (ev_var S rfl) (evl_cons (ev_var S rfl) (evl_cons (ev_var S rfl) evl_nil)))) fun v h' _ r => Rf.of_flat rfl r
end

end Mine

open PySem PySem.W PyProof.Rows
set_option maxHeartbeats 8000000 in
theorem PySem.Challenge.cw_uf050018_10_holds : PySem.Challenge.rw_uf050018_10.Holds := by
  w_on
  o_law
  o_head Hook.none
  (case hw => w_witness2)
  intro w s₀ s₁ mg mb G Y fa o pm cd doc dV kV ho hd hcd hD hmg hg args vals as hpre hlay hrd hwl hlo
  have T := G.T
  wrow_args hpre hlay hrd hwl hlo
  rename_i ns _ _ _ _ _ _ _ _ _ _ _ _ _ r0 _ _ hcond _
  have hn : ns.length ≤ 63 := by omega
  have hB : Mine.Bn ⟨PySem.Challenge.rw_uf050018_10.row.prog, w, _, _, _, mg, mb⟩ := Mine.bn_of T (by kernel_rfl)
  exact Mine.law_end (c := ⟨PySem.Challenge.rw_uf050018_10.row.prog, w, _, _, _, mg, mb⟩) (Mine.f_law (by kernel_rfl) hB (by kernel_rfl) (by kernel_rfl) hn) T hmg r0 hg (raisesW_false (fun _ h => nomatch h)) (postW_of rfl rfl (by first | rfl | decide | simp [same] | w_fin))
