import PyProof.Rows.All
import Wide.All
import OpenK.KLine
import Wide.FinOn
import PyProof.Rows.Top
import PyProof.Rows.RowHeap
import PyProof.Rows.Tup
import PyProof.Rows.TupSub
import PyProof.Rows.IntRules
import PyProof.Rows.Nodes
import PyProof.Rows.OwnEval
import PyProof.Rows.CatchSeen
import PyProof.FitsBits
import PyProof.NoPylong
import PyProof.PureInt
import PyProof.StrOps
import PyProof.PlainList
import PyProof.Rules3
import PyProof.TupleIter
import PyProof.IsRules
import PyProof.PassesOwn
import PyProof.ForRange
import PyProof.IsiPairs
import PyProof.IsiSeqPairs
import PyProof.IsiNone
import PyProof.WalkInts
import PyProof.Rows.Exc
import PyProof.Rows.RuleN_abs
import PyProof.Rows.StrTemp
import PyProof.Rows.RuleB_floordiv
import PyProof.Rows.RuleB_small
import PyProof.Rows.SeqMore
import PyProof.Rows.StrRules
import PyProof.Rows.EqDataRows
import PyProof.Rows.Lst
import PyProof.Conv_int_bool
import PyProof.WalksPairs
import PyProof.RangeFor
import PyProof.ForAny
import PyProof.ForAppend
import PyProof.Rows.TupAssign
import PyProof.RulesMatch
import PyProof.Rows.Method
import PyProof.Rows.RuleB_pow
import PyProof.StrLoop
import Wide.Ends
import Wide.BridgeG
import Open.Head
import KE.KTryDeep
import PyProof.ExcArgs
import KE.KIsNot
import PyProof.P3In
import PyProof.Rows.CountFlat
import PyProof.StrBlock
import PyProof.Dict
import PyProof.ListCopy
import PyProof.Rows.Chain
import Open.Pieces
import PySem.Challenge.RW_uf050018_14
set_option Elab.async false
set_option maxRecDepth 100000
set_option linter.all false
namespace Mine

/-- a path: runs, true = to the right -/
abbrev Path := List (Bool × Int)
def okP : Option Bool → Path → Prop
  | _, [] => True
  | a, s :: t => 1 ≤ s.2 ∧ a ≠ some s.1 ∧ okP (some s.1) t
/-- where a path ends, from its first run on -/
def endP : Path → Int × Int
  | [] => (1, 1)
  | (true, m) :: t => ((endP t).1 + m * (endP t).2, (endP t).2)
  | (false, m) :: t => ((endP t).1, (endP t).2 + m * (endP t).1)
structure Q4 where
  l0 : Int
  l1 : Int
  r0 : Int
  r1 : Int
def stepP (q : Q4) : Bool × Int → Q4
  | (true, m) => ⟨q.l0 + m * q.r0, q.l1 + m * q.r1, q.r0, q.r1⟩
  | (false, m) => ⟨q.l0, q.l1, q.r0 + m * q.l0, q.r1 + m * q.l1⟩
def q0 : Q4 := ⟨0, 1, 1, 0⟩
def walkP (p : Path) : Q4 := p.foldl stepP q0

theorem okP_free {a : Option Bool} {p : Path} (h : okP a p) : okP none p := by
  cases p with
  | nil => trivial
  | cons s t => exact ⟨h.1, by simp, h.2.2⟩

theorem end_pos : ∀ {a : Option Bool} {p : Path}, okP a p → 1 ≤ (endP p).1 ∧ 1 ≤ (endP p).2
  | _, [], _ => ⟨by decide, by decide⟩
  | _, (true, m) :: t, h => by
    obtain ⟨a, b⟩ := end_pos h.2.2
    have hm : 1 ≤ m := h.1
    have := Int.mul_nonneg (show 0 ≤ m by (first | lia | omega)) (show 0 ≤ (endP t).2 by (first | lia | omega))
    refine ⟨?_, b⟩
    show 1 ≤ (endP t).1 + m * (endP t).2
    (first | lia | omega)
  | _, (false, m) :: t, h => by
    obtain ⟨a, b⟩ := end_pos h.2.2
    have hm : 1 ≤ m := h.1
    have := Int.mul_nonneg (show 0 ≤ m by (first | lia | omega)) (show 0 ≤ (endP t).1 by (first | lia | omega))
    refine ⟨a, ?_⟩
    show 1 ≤ (endP t).2 + m * (endP t).1
    (first | lia | omega)

theorem end_side : ∀ {w : Bool} {p : Path}, okP (some w) p → if w then (endP p).1 ≤ (endP p).2 else (endP p).2 ≤ (endP p).1
  | w, [], _ => by cases w <;> simp [endP]
  | w, (true, m) :: t, h => by
    obtain ⟨a, b⟩ := end_pos h.2.2
    have hm : 1 ≤ m := h.1
    have hw : w = false := by have := h.2.1; cases w <;> simp_all
    subst hw
    have := Int.mul_le_mul_of_nonneg_right hm (show 0 ≤ (endP t).2 by (first | lia | omega))
    show (endP t).2 ≤ (endP t).1 + m * (endP t).2
    (first | lia | omega)
  | w, (false, m) :: t, h => by
    obtain ⟨a, b⟩ := end_pos h.2.2
    have hm : 1 ≤ m := h.1
    have hw : w = true := by have := h.2.1; cases w <;> simp_all
    subst hw
    have := Int.mul_le_mul_of_nonneg_right hm (show 0 ≤ (endP t).1 by (first | lia | omega))
    show (endP t).1 ≤ (endP t).2 + m * (endP t).1
    (first | lia | omega)

/-- the first run, read off the end -/
theorem end_right {m : Int} {t : Path} {a : Option Bool} (h : okP a ((true, m) :: t)) : (endP ((true, m) :: t)).2 < (endP ((true, m) :: t)).1 ∧ ((endP ((true, m) :: t)).1 - 1) / (endP ((true, m) :: t)).2 = m ∧
    (endP ((true, m) :: t)).1 - m * (endP ((true, m) :: t)).2 = (endP t).1 := by
  obtain ⟨x, y⟩ := end_pos h.2.2
  have hm : 1 ≤ m := h.1
  have hs : (endP t).1 ≤ (endP t).2 := end_side (w := true) h.2.2
  show (endP t).2 < (endP t).1 + m * (endP t).2 ∧ ((endP t).1 + m * (endP t).2 - 1) / (endP t).2 = m ∧ (endP t).1 + m * (endP t).2 - m * (endP t).2 = (endP t).1
  generalize (endP t).1 = u at *
  generalize (endP t).2 = l at *
  have := Int.mul_le_mul_of_nonneg_right hm (show 0 ≤ l by (first | lia | omega))
  refine ⟨by (first | lia | omega), ?_, by (first | lia | omega)⟩
  have e : u + m * l - 1 = (u - 1) + m * l := by (first | lia | omega)
  rw [e, Int.add_mul_ediv_right _ _ (by (first | lia | omega)), Int.ediv_eq_zero_of_lt (by (first | lia | omega)) (by (first | lia | omega))]; (first | lia | omega)
theorem end_left {m : Int} {t : Path} {a : Option Bool} (h : okP a ((false, m) :: t)) : (endP ((false, m) :: t)).1 < (endP ((false, m) :: t)).2 ∧ ((endP ((false, m) :: t)).2 - 1) / (endP ((false, m) :: t)).1 = m ∧
    (endP ((false, m) :: t)).2 - m * (endP ((false, m) :: t)).1 = (endP t).2 := by
  obtain ⟨x, y⟩ := end_pos h.2.2
  have hm : 1 ≤ m := h.1
  have hs : (endP t).2 ≤ (endP t).1 := end_side (w := false) h.2.2
  show (endP t).1 < (endP t).2 + m * (endP t).1 ∧ ((endP t).2 + m * (endP t).1 - 1) / (endP t).1 = m ∧ (endP t).2 + m * (endP t).1 - m * (endP t).1 = (endP t).2
  generalize (endP t).1 = l at *
  generalize (endP t).2 = u at *
  have := Int.mul_le_mul_of_nonneg_right hm (show 0 ≤ l by (first | lia | omega))
  refine ⟨by (first | lia | omega), ?_, by (first | lia | omega)⟩
  have e : u + m * l - 1 = (u - 1) + m * l := by (first | lia | omega)
  rw [e, Int.add_mul_ediv_right _ _ (by (first | lia | omega)), Int.ediv_eq_zero_of_lt (by (first | lia | omega)) (by (first | lia | omega))]; (first | lia | omega)

/-- the path on the other side -/
def flipP (p : Path) : Path := p.map fun s => (!s.1, s.2)
theorem flip_end : ∀ p : Path, endP (flipP p) = ((endP p).2, (endP p).1)
  | [] => rfl
  | (true, m) :: t => by show ((endP (flipP t)).1, (endP (flipP t)).2 + m * (endP (flipP t)).1) = _; rw [flip_end t]; rfl
  | (false, m) :: t => by show ((endP (flipP t)).1 + m * (endP (flipP t)).2, (endP (flipP t)).2) = _; rw [flip_end t]; rfl
theorem flip_ok : ∀ {a : Option Bool} {p : Path}, okP a p → okP (a.map (!·)) (flipP p)
  | _, [], _ => trivial
  | a, s :: t, h => ⟨h.1, by have := h.2.1; cases a with | none => simp | some b => cases b <;> cases hs : s.1 <;> simp_all, flip_ok (a := some s.1) h.2.2⟩
/-- ... of u over l -/
def HasP (u l : Int) : Prop := ∃ p, okP none p ∧ endP p = (u, l) ∧ (u ≤ l → okP (some true) p) ∧ (l ≤ u → okP (some false) p)
theorem HasP.flip {u l : Int} (h : HasP u l) : HasP l u := by
  obtain ⟨p, a, b, c, d⟩ := h
  exact ⟨flipP p, flip_ok a, by rw [flip_end, b], fun q => flip_ok (d q), fun q => flip_ok (c q)⟩
theorem path_step {u l : Int} (hl : 1 ≤ l) (h : l < u) (hg : Int.gcd u l = 1) (ih : ∀ v, 1 ≤ v → v < u → Int.gcd v l = 1 → HasP v l) : HasP u l := by
  have hd := Int.mul_ediv_add_emod (u - 1) l
  have h1 := Int.emod_nonneg (u - 1) (b := l) (by (first | lia | omega))
  have h2 := Int.emod_lt_of_pos (u - 1) (b := l) (by (first | lia | omega))
  have hm : 1 ≤ (u - 1) / l := Int.le_ediv_of_mul_le (by (first | lia | omega)) (by (first | lia | omega))
  generalize (u - 1) / l = m at *
  have hpos := Int.mul_le_mul_of_nonneg_left hm (show 0 ≤ l by (first | lia | omega))
  have hg' : Int.gcd (u - l * m) l = 1 := by rw [Int.gcd_comm, Int.gcd_sub_mul_left_right, Int.gcd_comm]; exact hg
  obtain ⟨t, ok, en, ok2, _⟩ := ih (u - l * m) (by (first | lia | omega)) (by (first | lia | omega)) hg'
  have hok := ok2 (by (first | lia | omega))
  refine ⟨(true, m) :: t, ⟨hm, by simp, hok⟩, ?_, fun q => by (first | lia | omega), fun _ => ⟨hm, by simp, hok⟩⟩
  show ((endP t).1 + m * (endP t).2, (endP t).2) = (u, l)
  rw [en]; simp only [Prod.mk.injEq, and_true]; rw [Int.mul_comm m l]; (first | lia | omega)
/-- every fraction in lowest terms has a path -/
theorem path_exists : ∀ (n : Nat) (u l : Int), 1 ≤ u → 1 ≤ l → Int.gcd u l = 1 → (u + l).toNat ≤ n → HasP u l
  | 0, u, l, hu, hl, _, hn => by (first | lia | omega)
  | n + 1, u, l, hu, hl, hg, hn => by
    rcases Int.lt_trichotomy u l with h | h | h
    · exact (path_step hu h (by rw [Int.gcd_comm]; exact hg) fun v h1 h2 h3 => (path_exists n u v hu h1 (by rw [Int.gcd_comm]; exact h3) (by (first | lia | omega))).flip).flip
    · subst h
      have : u = 1 := by
        have : (Int.gcd u u : Int) = u := by simp [Int.gcd_self]; (first | lia | omega)
        (first | lia | omega)
      subst this
      exact ⟨[], trivial, rfl, fun _ => trivial, fun _ => trivial⟩
    · exact path_step hl h hg fun v h1 h2 h3 => path_exists n v l h1 hl h3 (by (first | lia | omega))
theorem path_for {u l : Int} (hu : 1 ≤ u) (hl : 1 ≤ l) (hg : Int.gcd u l = 1) : ∃ p, okP none p ∧ endP p = (u, l) := let ⟨p, a, b, _⟩ := path_exists _ u l hu hl hg (Nat.le_refl _); ⟨p, a, b⟩

theorem stepR (u l m r x : Int) : (u + m * l) * r + l * x = u * r + l * (x + m * r) := by grind
theorem stepL (u l m r x : Int) : u * r + (l + m * u) * x = u * (r + m * x) + l * x := by grind
/-- what stands between while a path is walked -/
theorem walk_end : ∀ (p : Path) (q : Q4), (p.foldl stepP q).l0 + (p.foldl stepP q).r0 = (endP p).1 * q.r0 + (endP p).2 * q.l0 ∧ (p.foldl stepP q).l1 + (p.foldl stepP q).r1 = (endP p).1 * q.r1 + (endP p).2 * q.l1
  | [], q => by simp [endP]; (first | lia | omega)
  | (true, m) :: t, q => ⟨(walk_end t (stepP q (true, m))).1.trans (stepR (endP t).1 (endP t).2 m q.r0 q.l0).symm, (walk_end t (stepP q (true, m))).2.trans (stepR (endP t).1 (endP t).2 m q.r1 q.l1).symm⟩
  | (false, m) :: t, q => ⟨(walk_end t (stepP q (false, m))).1.trans (stepL (endP t).1 (endP t).2 m q.r0 q.l0).symm, (walk_end t (stepP q (false, m))).2.trans (stepL (endP t).1 (endP t).2 m q.r1 q.l1).symm⟩
theorem walk_det : ∀ (p : Path) (q : Q4), let q' := p.foldl stepP q; q'.r0 * q'.l1 - q'.l0 * q'.r1 = q.r0 * q.l1 - q.l0 * q.r1
  | [], q => rfl
  | (true, m) :: t, q => by
    have h := walk_det t (stepP q (true, m))
    simp only [List.foldl_cons]
    refine h.trans ?_
    simp only [stepP]; grind
  | (false, m) :: t, q => by
    have h := walk_det t (stepP q (false, m))
    simp only [List.foldl_cons]
    refine h.trans ?_
    simp only [stepP]; grind
structure Q4.nn (q : Q4) : Prop where
  a : 0 ≤ q.l0
  b : 0 ≤ q.l1
  c : 0 ≤ q.r0
  d : 0 ≤ q.r1
theorem q0_nn : q0.nn := ⟨by decide, by decide, by decide, by decide⟩
theorem step_nn {q : Q4} (h : q.nn) {s : Bool × Int} (hs : 0 ≤ s.2) : (stepP q s).nn := by
  obtain ⟨w, m⟩ := s
  have h1 := Int.mul_nonneg hs h.a
  have h2 := Int.mul_nonneg hs h.b
  have h3 := Int.mul_nonneg hs h.c
  have h4 := Int.mul_nonneg hs h.d
  have := h.a; have := h.b; have := h.c; have := h.d
  dsimp only at *
  cases w
  · exact ⟨by show 0 ≤ q.l0; (first | lia | omega), by show 0 ≤ q.l1; (first | lia | omega), by show 0 ≤ q.r0 + m * q.l0; (first | lia | omega), by show 0 ≤ q.r1 + m * q.l1; (first | lia | omega)⟩
  · exact ⟨by show 0 ≤ q.l0 + m * q.r0; (first | lia | omega), by show 0 ≤ q.l1 + m * q.r1; (first | lia | omega), by show 0 ≤ q.r0; (first | lia | omega), by show 0 ≤ q.r1; (first | lia | omega)⟩
theorem walk_nn : ∀ {a : Option Bool} {p : Path} {q : Q4}, okP a p → q.nn → (p.foldl stepP q).nn
  | _, [], _, _, h => h
  | _, s :: t, q, ok, h => walk_nn (p := t) ok.2.2 (step_nn h (by have := ok.1; (first | lia | omega)))
/-- the bounds on the way stay below the end -/
theorem walk_le {a : Option Bool} {p : Path} {q : Q4} {U V : Int} (ok : okP a p) (hn : q.nn) (h0 : (endP p).1 * q.r0 + (endP p).2 * q.l0 = U) (h1 : (endP p).1 * q.r1 + (endP p).2 * q.l1 = V) : q.l0 ≤ U ∧ q.r0 ≤ U ∧ q.l1 ≤ V ∧ q.r1 ≤ V := by
  obtain ⟨x, y⟩ := end_pos ok
  have a1 := Int.mul_le_mul_of_nonneg_right x hn.c
  have a2 := Int.mul_le_mul_of_nonneg_right y hn.a
  have a3 := Int.mul_le_mul_of_nonneg_right x hn.d
  have a4 := Int.mul_le_mul_of_nonneg_right y hn.b
  have := hn.a; have := hn.b; have := hn.c; have := hn.d
  refine ⟨?_, ?_, ?_, ?_⟩ <;> (first | lia | omega)
theorem runs_le : ∀ {a : Option Bool} {p : Path}, okP a p → ∀ s ∈ p, s.2 ≤ (endP p).1 + (endP p).2
  | _, [], _, s, h => nomatch h
  | _, (true, m) :: t, ok, s, h => by
    obtain ⟨x, y⟩ := end_pos ok.2.2
    have hm : 1 ≤ m := ok.1
    have := Int.mul_le_mul_of_nonneg_left y (show 0 ≤ m by (first | lia | omega))
    have hp := Int.mul_nonneg (show 0 ≤ m by (first | lia | omega)) (show 0 ≤ (endP t).2 by (first | lia | omega))
    show s.2 ≤ (endP t).1 + m * (endP t).2 + (endP t).2
    rcases List.mem_cons.mp h with rfl | h
    · dsimp only; (first | lia | omega)
    · have := runs_le ok.2.2 s h; (first | lia | omega)
  | _, (false, m) :: t, ok, s, h => by
    obtain ⟨x, y⟩ := end_pos ok.2.2
    have hm : 1 ≤ m := ok.1
    have := Int.mul_le_mul_of_nonneg_left x (show 0 ≤ m by (first | lia | omega))
    have hp := Int.mul_nonneg (show 0 ≤ m by (first | lia | omega)) (show 0 ≤ (endP t).1 by (first | lia | omega))
    show s.2 ≤ (endP t).1 + ((endP t).2 + m * (endP t).1)
    rcases List.mem_cons.mp h with rfl | h
    · dsimp only; (first | lia | omega)
    · have := runs_le ok.2.2 s h; (first | lia | omega)
theorem len_le : ∀ {a : Option Bool} {p : Path}, okP a p → 2 * 3 ^ p.length ≤ 2 ^ p.length * ((endP p).1 + (endP p).2)
  | _, [], _ => by simp [endP]
  | _, (w, m) :: t, ok => by
    obtain ⟨x, y⟩ := end_pos ok.2.2
    have hm : 1 ≤ m := ok.1
    have ih := len_le ok.2.2
    have hs := end_side ok.2.2
    have hp : (0 : Int) ≤ 2 ^ t.length := Int.le_of_lt (Int.pow_pos (by decide))
    have key : 3 * ((endP t).1 + (endP t).2) ≤ 2 * ((endP ((w, m) :: t)).1 + (endP ((w, m) :: t)).2) := by
      cases w
      · have := Int.mul_le_mul_of_nonneg_right hm (show 0 ≤ (endP t).1 by (first | lia | omega))
        simp at hs
        show _ ≤ 2 * ((endP t).1 + ((endP t).2 + m * (endP t).1))
        (first | lia | omega)
      · have := Int.mul_le_mul_of_nonneg_right hm (show 0 ≤ (endP t).2 by (first | lia | omega))
        simp at hs
        show _ ≤ 2 * ((endP t).1 + m * (endP t).2 + (endP t).2)
        (first | lia | omega)
    have k2 := Int.mul_le_mul_of_nonneg_left key hp
    generalize (endP ((w, m) :: t)).1 + (endP ((w, m) :: t)).2 = E at *
    generalize (endP t).1 + (endP t).2 = F at *
    simp only [List.length_cons, Int.pow_succ]
    generalize (2 : Int) ^ t.length = P at *
    generalize (3 : Int) ^ t.length = R at *
    have e1 : P * (3 * F) = 3 * (P * F) := by grind
    have e2 : P * 2 * E = P * (2 * E) := by grind
    rw [e2]; (first | lia | omega)
theorem pow23 (k : Nat) : (2 : Int) ^ k ≤ 3 ^ k := by
  induction k with
  | zero => decide
  | succ n ih => rw [Int.pow_succ, Int.pow_succ]; have : (0 : Int) < 3 ^ n := Int.pow_pos (by decide); (first | lia | omega)
/-- no long path -/
theorem len_small {a : Option Bool} {p : Path} (ok : okP a p) (h : (endP p).1 + (endP p).2 ≤ 10 ^ 101) : p.length < 600 := by
  have h1 := len_le ok
  apply Classical.byContradiction
  intro hl
  obtain ⟨k, hk⟩ : ∃ k, p.length = 600 + k := ⟨p.length - 600, by (first | lia | omega)⟩
  rw [hk, Int.pow_add, Int.pow_add] at h1
  have p2 : (0 : Int) < 2 ^ k := Int.pow_pos (by decide)
  have c1 : (2 : Int) ^ 600 * 10 ^ 101 < 2 * 3 ^ 600 := by decide +kernel
  have q := pow23 k
  generalize (endP p).1 + (endP p).2 = S at *
  have e1 : (2 : Int) ^ 600 * 2 ^ k * S ≤ 2 ^ 600 * 2 ^ k * 10 ^ 101 := Int.mul_le_mul_of_nonneg_left h (Int.mul_nonneg (by decide +kernel) (by (first | lia | omega)))
  have e2 : (2 : Int) ^ 600 * 2 ^ k * 10 ^ 101 = 2 ^ 600 * 10 ^ 101 * 2 ^ k := by rw [Int.mul_assoc, Int.mul_comm (2 ^ k), ← Int.mul_assoc]
  have e3 : (2 : Int) ^ 600 * 10 ^ 101 * 2 ^ k < 2 * 3 ^ 600 * 2 ^ k := Int.mul_lt_mul_of_pos_right c1 p2
  have e4 : (2 : Int) * 3 ^ 600 * 2 ^ k ≤ 2 * 3 ^ 600 * 3 ^ k := Int.mul_le_mul_of_nonneg_left q (by decide +kernel)
  have e5 : (2 : Int) * (3 ^ 600 * 3 ^ k) = 2 * 3 ^ 600 * 3 ^ k := by rw [Int.mul_assoc]
  rw [e5] at h1
  rw [e2] at e1
  exact absurd (Int.lt_of_le_of_lt (Int.le_trans h1 e1) (Int.lt_of_lt_of_le e3 e4)) (Int.lt_irrefl _)
theorem end_ne {a : Option Bool} {s : Bool × Int} {t : Path} (ok : okP a (s :: t)) : (endP (s :: t)).1 ≠ (endP (s :: t)).2 := by
  obtain ⟨w, m⟩ := s
  cases w
  · have := (end_left ok).1; (first | lia | omega)
  · have := (end_right ok).1; (first | lia | omega)
end Mine

namespace Mine

end Mine

namespace Mine

/-- neighbours about t0/t1, with no lower part above M -/
structure Ar (t0 t1 M l0 l1 r0 r1 : Int) : Prop where
  a0 : 0 ≤ l0
  a1 : 1 ≤ l1
  b0 : 1 ≤ r0
  b1 : 0 ≤ r1
  al : l1 ≤ M
  bl : r1 ≤ M
  det : r0 * l1 - l0 * r1 = 1
  be : 0 < t0 * l1 - l0 * t1
  ab : 0 < r0 * t1 - t0 * r1
  bt : t0 * l1 - l0 * t1 ≤ t0
  at_ : r0 * t1 - t0 * r1 ≤ t1
structure Tg (t0 t1 M : Int) : Prop where
  nn : 0 ≤ t0
  co : Int.gcd t0 t1 = 1
  m1 : 1 ≤ M
  lt : M < t1

theorem dvd_cross {t0 t1 x y : Int} (hg : Int.gcd t0 t1 = 1) (e : t0 * y = x * t1) : t1 ∣ y := by
  have h : t1 ∣ t0 * y := ⟨x, by rw [e, Int.mul_comm]⟩
  have h2 : t1.natAbs ∣ t0.natAbs * y.natAbs := by rw [← Int.natAbs_mul]; exact Int.natAbs_dvd_natAbs.mpr h
  have hc : Nat.Coprime t1.natAbs t0.natAbs := by rw [Nat.coprime_comm]; exact hg
  exact Int.natAbs_dvd_natAbs.mp (hc.dvd_of_dvd_mul_left h2)
theorem no_cross {t0 t1 M x y : Int} (T : Tg t0 t1 M) (h1 : 1 ≤ y) (h2 : y ≤ M) : t0 * y ≠ x * t1 := by
  intro e
  have := Int.le_of_dvd (by (first | lia | omega)) (dvd_cross T.co e)
  have := T.lt
  (first | lia | omega)
theorem Tg.pos {t0 t1 M : Int} (T : Tg t0 t1 M) : 1 ≤ t0 := by
  have := T.nn
  rcases Int.lt_or_eq_of_le this with h | h
  · (first | lia | omega)
  · exfalso
    have := no_cross (x := 0) (y := 1) T (by (first | lia | omega)) T.m1
    rw [← h] at this; simp at this

theorem ar_start {t0 t1 M : Int} (T : Tg t0 t1 M) : Ar t0 t1 M 0 1 1 0 := by
  have := T.pos; have := T.m1; have := T.lt
  constructor <;> (try simp) <;> (first | lia | omega)

theorem ar_med {t0 t1 M l0 l1 r0 r1 : Int} (T : Tg t0 t1 M) (a : Ar t0 t1 M l0 l1 r0 r1) (h : l1 + r1 ≤ M) : t0 * l1 - l0 * t1 ≠ r0 * t1 - t0 * r1 := by
  intro e
  exact no_cross (x := l0 + r0) (y := l1 + r1) T (by have := a.a1; have := a.b1; (first | lia | omega)) h (by rw [Int.mul_add, Int.add_mul]; (first | lia | omega))

/-- how far to go -/
def fitF (M p b k : Int) : Int := if b = 0 then k else min k ((M - p) / b)

theorem ar_k {A B M p r k : Int} (hA : 0 < A) (hlt : A < B) (hr : 0 ≤ r) (hp : p + r ≤ M) (hk : k = fitF M p r (B / A)) : 1 ≤ k ∧ k * A ≤ B ∧ p + k * r ≤ M := by
  have q1 : 1 ≤ B / A := Int.le_ediv_of_mul_le hA (by (first | lia | omega))
  have q2 : B / A * A ≤ B := Int.ediv_mul_le _ (by (first | lia | omega))
  by_cases h0 : r = 0
  · have e : k = B / A := by rw [hk]; simp only [fitF, h0, if_true]
    subst h0
    rw [e]
    exact ⟨q1, q2, by (first | lia | omega)⟩
  · have e : k = min (B / A) ((M - p) / r) := by rw [hk]; simp only [fitF, h0, if_false]
    have p1 : 1 ≤ (M - p) / r := Int.le_ediv_of_mul_le (by (first | lia | omega)) (by (first | lia | omega))
    have p2 : (M - p) / r * r ≤ M - p := Int.ediv_mul_le _ h0
    have p4 := Int.mul_le_mul_of_nonneg_right (show k ≤ (M - p) / r by (first | lia | omega)) hr
    have p5 := Int.mul_le_mul_of_nonneg_right (show k ≤ B / A by (first | lia | omega)) (Int.le_of_lt hA)
    exact ⟨by (first | lia | omega), Int.le_trans p5 q2, by (first | lia | omega)⟩
theorem lt_of_le_ne {a b : Int} (h : a ≤ b) (n : a ≠ b) : 0 < b - a := by (first | lia | omega)
theorem sub_lt_of {a b c k : Int} (hk : 1 ≤ k) (ha : 0 < a) (e : c = b - k * a) : c < b ∧ c ≤ b := by
  have := Int.mul_le_mul_of_nonneg_right hk (Int.le_of_lt ha)
  (first | lia | omega)
theorem ar_left {t0 t1 M l0 l1 r0 r1 k : Int} (T : Tg t0 t1 M) (a : Ar t0 t1 M l0 l1 r0 r1) (h : l1 + r1 ≤ M) (hlt : r0 * t1 - t0 * r1 < t0 * l1 - l0 * t1)
    (hk : k = fitF M l1 r1 ((t0 * l1 - l0 * t1) / (r0 * t1 - t0 * r1))) : Ar t0 t1 M (l0 + k * r0) (l1 + k * r1) r0 r1 ∧ 1 ≤ k ∧ t0 * (l1 + k * r1) - (l0 + k * r0) * t1 < t0 * l1 - l0 * t1 := by
  obtain ⟨k1, k2, k3⟩ := ar_k a.ab hlt a.b1 h hk
  have k0 : 0 ≤ k := Int.le_trans (by decide) k1
  have e : t0 * (l1 + k * r1) - (l0 + k * r0) * t1 = (t0 * l1 - l0 * t1) - k * (r0 * t1 - t0 * r1) := by grind
  have m2 := Int.mul_nonneg k0 a.b1
  have y1 : 1 ≤ l1 + k * r1 := Int.le_trans a.a1 (Int.le_add_of_nonneg_right m2)
  have ne := no_cross (x := l0 + k * r0) (y := l1 + k * r1) T y1 k3
  have lt := sub_lt_of k1 a.ab e
  refine ⟨⟨Int.add_nonneg a.a0 (Int.mul_nonneg k0 (Int.le_trans (by decide) a.b0)), y1, a.b0, a.b1, k3, a.bl, ?_, ?_, a.ab, Int.le_trans lt.2 a.bt, a.at_⟩, k1, lt.1⟩
  · rw [← a.det]; grind
  · rw [e]; exact lt_of_le_ne k2 (fun z => ne (Int.sub_eq_zero.mp (by rw [e, z]; exact Int.sub_self _)))

theorem ar_right {t0 t1 M l0 l1 r0 r1 k : Int} (T : Tg t0 t1 M) (a : Ar t0 t1 M l0 l1 r0 r1) (h : l1 + r1 ≤ M) (hlt : t0 * l1 - l0 * t1 < r0 * t1 - t0 * r1)
    (hk : k = fitF M r1 l1 ((r0 * t1 - t0 * r1) / (t0 * l1 - l0 * t1))) : Ar t0 t1 M l0 l1 (r0 + k * l0) (r1 + k * l1) ∧ 1 ≤ k ∧ (r0 + k * l0) * t1 - t0 * (r1 + k * l1) < r0 * t1 - t0 * r1 := by
  have l0' : 0 ≤ l1 := Int.le_trans (by decide) a.a1
  obtain ⟨k1, k2, k3⟩ := ar_k a.be hlt l0' (by rw [Int.add_comm]; exact h) hk
  have k0 : 0 ≤ k := Int.le_trans (by decide) k1
  have e : (r0 + k * l0) * t1 - t0 * (r1 + k * l1) = (r0 * t1 - t0 * r1) - k * (t0 * l1 - l0 * t1) := by grind
  have m5 := Int.mul_le_mul k1 a.a1 (by decide) k0
  have y1 : 1 ≤ r1 + k * l1 := Int.le_trans m5 (Int.le_add_of_nonneg_left a.b1)
  have ne := no_cross (x := r0 + k * l0) (y := r1 + k * l1) T y1 k3
  have lt := sub_lt_of k1 a.be e
  refine ⟨⟨a.a0, a.a1, Int.le_trans a.b0 (Int.le_add_of_nonneg_right (Int.mul_nonneg k0 a.a0)), Int.add_nonneg a.b1 (Int.mul_nonneg k0 l0'), a.al, k3, ?_, a.be, ?_, a.bt, Int.le_trans lt.2 a.at_⟩, k1, lt.1⟩
  · rw [← a.det]; grind
  · rw [e]; exact lt_of_le_ne k2 (fun z => ne (Int.sub_eq_zero.mp (by rw [e, z]; exact Int.sub_self _)).symm)

/-- the sizes of what stands about -/
theorem ar_small {t0 t1 M l0 l1 r0 r1 : Int} (T : Tg t0 t1 M) (a : Ar t0 t1 M l0 l1 r0 r1) : l0 ≤ t0 ∧ r0 ≤ t0 + 1 := by
  obtain ⟨h1, h2, h3, h4, h5, h6, h7, h8, h9, h10, h11⟩ := a
  have ht := T.pos
  have hm := T.lt
  have hm1 := T.m1
  have q1 : l0 * t1 ≤ t0 * t1 := by
    have := Int.mul_le_mul_of_nonneg_left (show l1 ≤ t1 by (first | lia | omega)) (show 0 ≤ t0 by (first | lia | omega))
    (first | lia | omega)
  have q2 : l0 ≤ t0 := Int.le_of_mul_le_mul_right q1 (by (first | lia | omega))
  refine ⟨q2, ?_⟩
  have q3 : r0 * t1 ≤ (t0 + 1) * t1 := by
    have := Int.mul_le_mul_of_nonneg_left (show r1 ≤ t1 by (first | lia | omega)) (show 0 ≤ t0 by (first | lia | omega))
    rw [Int.add_mul]; (first | lia | omega)
  exact Int.le_of_mul_le_mul_right q3 (by (first | lia | omega))
theorem det_co {a b c d : Int} (h : c * b - a * d = 1) : Int.gcd a b = 1 := by
  have h1 : (Int.gcd a b : Int) ∣ a := Int.gcd_dvd_left a b
  have h2 : (Int.gcd a b : Int) ∣ b := Int.gcd_dvd_right a b
  have h3 : (Int.gcd a b : Int) ∣ 1 := by
    rw [← h]
    exact Int.dvd_sub (Int.dvd_trans h2 (Int.dvd_mul_left _ _)) (Int.dvd_trans h1 (Int.dvd_mul_right _ _))
  have := Int.le_of_dvd (by decide) h3
  have : Int.gcd a b ≠ 0 := by
    intro z
    rw [z] at h3
    exact absurd h3 (by decide)
  (first | lia | omega)
theorem det_co2 {a b c d : Int} (h : c * b - a * d = 1) : Int.gcd c d = 1 := by
  have h1 : (Int.gcd c d : Int) ∣ c := Int.gcd_dvd_left c d
  have h2 : (Int.gcd c d : Int) ∣ d := Int.gcd_dvd_right c d
  have h3 : (Int.gcd c d : Int) ∣ 1 := by
    rw [← h]
    exact Int.dvd_sub (Int.dvd_trans h1 (Int.dvd_mul_right _ _)) (Int.dvd_trans h2 (Int.dvd_mul_left _ _))
  have := Int.le_of_dvd (by decide) h3
  have : Int.gcd c d ≠ 0 := by
    intro z
    rw [z] at h3
    exact absurd h3 (by decide)
  (first | lia | omega)
end Mine
namespace Mine
/-- the walk about t0/t1, up to its end -/
inductive AR (t0 t1 M : Int) : Q4 → Q4 → Prop
  | stop {q : Q4} (h : M < q.l1 + q.r1) : AR t0 t1 M q q
  | left {q F : Q4} (h : q.l1 + q.r1 ≤ M) (hlt : q.r0 * t1 - t0 * q.r1 < t0 * q.l1 - q.l0 * t1)
      (r : AR t0 t1 M ⟨q.l0 + fitF M q.l1 q.r1 ((t0 * q.l1 - q.l0 * t1) / (q.r0 * t1 - t0 * q.r1)) * q.r0, q.l1 + fitF M q.l1 q.r1 ((t0 * q.l1 - q.l0 * t1) / (q.r0 * t1 - t0 * q.r1)) * q.r1, q.r0, q.r1⟩ F) : AR t0 t1 M q F
  | right {q F : Q4} (h : q.l1 + q.r1 ≤ M) (hlt : t0 * q.l1 - q.l0 * t1 < q.r0 * t1 - t0 * q.r1)
      (r : AR t0 t1 M ⟨q.l0, q.l1, q.r0 + fitF M q.r1 q.l1 ((q.r0 * t1 - t0 * q.r1) / (t0 * q.l1 - q.l0 * t1)) * q.l0, q.r1 + fitF M q.r1 q.l1 ((q.r0 * t1 - t0 * q.r1) / (t0 * q.l1 - q.l0 * t1)) * q.l1⟩ F) : AR t0 t1 M q F
abbrev Ar4 (t0 t1 M : Int) (q : Q4) : Prop := Ar t0 t1 M q.l0 q.l1 q.r0 q.r1
def meas (t0 t1 : Int) (q : Q4) : Nat := ((t0 * q.l1 - q.l0 * t1) + (q.r0 * t1 - t0 * q.r1)).toNat
theorem ar4_left {t0 t1 M : Int} {q : Q4} (T : Tg t0 t1 M) (a : Ar4 t0 t1 M q) (h : q.l1 + q.r1 ≤ M) (hlt : q.r0 * t1 - t0 * q.r1 < t0 * q.l1 - q.l0 * t1) :
    Ar4 t0 t1 M ⟨q.l0 + fitF M q.l1 q.r1 ((t0 * q.l1 - q.l0 * t1) / (q.r0 * t1 - t0 * q.r1)) * q.r0, q.l1 + fitF M q.l1 q.r1 ((t0 * q.l1 - q.l0 * t1) / (q.r0 * t1 - t0 * q.r1)) * q.r1, q.r0, q.r1⟩ ∧
    meas t0 t1 ⟨q.l0 + fitF M q.l1 q.r1 ((t0 * q.l1 - q.l0 * t1) / (q.r0 * t1 - t0 * q.r1)) * q.r0, q.l1 + fitF M q.l1 q.r1 ((t0 * q.l1 - q.l0 * t1) / (q.r0 * t1 - t0 * q.r1)) * q.r1, q.r0, q.r1⟩ < meas t0 t1 q := by
  obtain ⟨x, _, z⟩ := ar_left T a h hlt rfl
  refine ⟨x, ?_⟩
  have := x.be
  have := a.be
  have := a.ab
  simp only [meas] at *
  (first | lia | omega)
theorem ar4_right {t0 t1 M : Int} {q : Q4} (T : Tg t0 t1 M) (a : Ar4 t0 t1 M q) (h : q.l1 + q.r1 ≤ M) (hlt : t0 * q.l1 - q.l0 * t1 < q.r0 * t1 - t0 * q.r1) :
    Ar4 t0 t1 M ⟨q.l0, q.l1, q.r0 + fitF M q.r1 q.l1 ((q.r0 * t1 - t0 * q.r1) / (t0 * q.l1 - q.l0 * t1)) * q.l0, q.r1 + fitF M q.r1 q.l1 ((q.r0 * t1 - t0 * q.r1) / (t0 * q.l1 - q.l0 * t1)) * q.l1⟩ ∧
    meas t0 t1 ⟨q.l0, q.l1, q.r0 + fitF M q.r1 q.l1 ((q.r0 * t1 - t0 * q.r1) / (t0 * q.l1 - q.l0 * t1)) * q.l0, q.r1 + fitF M q.r1 q.l1 ((q.r0 * t1 - t0 * q.r1) / (t0 * q.l1 - q.l0 * t1)) * q.l1⟩ < meas t0 t1 q := by
  obtain ⟨x, _, z⟩ := ar_right T a h hlt rfl
  refine ⟨x, ?_⟩
  have := x.ab
  have := a.be
  have := a.ab
  simp only [meas] at *
  (first | lia | omega)
theorem ar_exists {t0 t1 M : Int} (T : Tg t0 t1 M) : ∀ (n : Nat) (q : Q4), Ar4 t0 t1 M q → meas t0 t1 q ≤ n → ∃ F, AR t0 t1 M q F ∧ Ar4 t0 t1 M F ∧ M < F.l1 + F.r1
  | 0, q, a, hn => by have := a.be; have := a.ab; simp only [meas] at hn; (first | lia | omega)
  | n + 1, q, a, hn => by
    by_cases h : q.l1 + q.r1 ≤ M
    · have ne := ar_med T a h
      by_cases hlt : q.r0 * t1 - t0 * q.r1 < t0 * q.l1 - q.l0 * t1
      · obtain ⟨x, y⟩ := ar4_left T a h hlt
        obtain ⟨F, r, e, f⟩ := ar_exists T n _ x (by (first | lia | omega))
        exact ⟨F, .left h hlt r, e, f⟩
      · have hlt' : t0 * q.l1 - q.l0 * t1 < q.r0 * t1 - t0 * q.r1 := by (first | lia | omega)
        obtain ⟨x, y⟩ := ar4_right T a h hlt'
        obtain ⟨F, r, e, f⟩ := ar_exists T n _ x (by (first | lia | omega))
        exact ⟨F, .right h hlt' r, e, f⟩
    · exact ⟨q, .stop (by (first | lia | omega)), a, by (first | lia | omega)⟩
theorem ar_for {t0 t1 M : Int} (T : Tg t0 t1 M) : ∃ F, AR t0 t1 M q0 F ∧ Ar4 t0 t1 M F ∧ M < F.l1 + F.r1 := ar_exists T _ q0 (ar_start T) (Nat.le_refl _)
end Mine

namespace Mine
/-- how far x/y is from t0/t1, times y t1 -/
def dst (t0 t1 x y : Int) : Int := ((x * t1 - t0 * y).natAbs : Int)
/-- less, of the reduced distances -/
theorem less_iff {f0 f1 b0 b1 p q p' q' t1 : Int} (hf : 1 ≤ f1) (hb : 1 ≤ b1) (hq : 1 ≤ q) (hq' : 1 ≤ q') (ht : 1 ≤ t1) (e1 : f0 * (q * t1) = p * f1) (e2 : b0 * (q' * t1) = p' * b1) : f0 * b1 < b0 * f1 ↔ p * q' < p' * q := by
  have hK : 0 < q * q' * t1 := Int.mul_pos (Int.mul_pos (by (first | lia | omega)) (by (first | lia | omega))) (by (first | lia | omega))
  have hM : 0 < f1 * b1 := Int.mul_pos (by (first | lia | omega)) (by (first | lia | omega))
  have x1 : f0 * b1 * (q * q' * t1) = p * q' * (f1 * b1) := by
    have : f0 * b1 * (q * q' * t1) = f0 * (q * t1) * (b1 * q') := by grind
    rw [this, e1]; grind
  have x2 : b0 * f1 * (q * q' * t1) = p' * q * (f1 * b1) := by
    have : b0 * f1 * (q * q' * t1) = b0 * (q' * t1) * (f1 * q) := by grind
    rw [this, e2]; grind
  constructor
  · intro h
    have := Int.mul_lt_mul_of_pos_right h hK
    rw [x1, x2] at this
    exact Int.lt_of_mul_lt_mul_right this (by (first | lia | omega))
  · intro h
    have := Int.mul_lt_mul_of_pos_right h hM
    rw [← x1, ← x2] at this
    exact Int.lt_of_mul_lt_mul_right this (by (first | lia | omega))
end Mine
namespace Mine
end Mine

namespace Mine
theorem low_unique {x y t0 t1 : Int} (hx : 0 ≤ x) (hy : 1 ≤ y) (h0 : 0 ≤ t0) (h1 : 1 ≤ t1) (co : Int.gcd t0 t1 = 1) (e : x * t1 = t0 * y) : x / (Int.gcd x y : Int) = t0 ∧ y / (Int.gcd x y : Int) = t1 := by
  have hd : t1 ∣ y := dvd_cross (x := x) co (by rw [← e])
  obtain ⟨k, rfl⟩ := hd
  have hk : 1 ≤ k := by
    rcases Int.lt_or_le 0 k with z | z
    · (first | lia | omega)
    · have := Int.mul_nonneg (show 0 ≤ t1 by (first | lia | omega)) (show 0 ≤ -k by (first | lia | omega))
      rw [Int.mul_neg] at this
      (first | lia | omega)
  have ex : x = t0 * k := by
    have : x * t1 = t0 * k * t1 := by rw [e]; grind
    exact Int.eq_of_mul_eq_mul_right (by (first | lia | omega)) this
  subst ex
  have g : (Int.gcd (t0 * k) (t1 * k) : Int) = k := by
    rw [Int.gcd_mul_right, co]; simp; (first | lia | omega)
  rw [g]
  exact ⟨Int.mul_ediv_cancel _ (by (first | lia | omega)), Int.mul_ediv_cancel _ (by (first | lia | omega))⟩
/-- n0/n1 is before x/y about t0/t1 -/
def Bef (t0 t1 n0 n1 x y : Int) : Prop := dst t0 t1 n0 n1 * y < dst t0 t1 x y * n1 ∨ (dst t0 t1 n0 n1 * y = dst t0 t1 x y * n1 ∧ (n1 < y / (Int.gcd x y : Int) ∨ (n1 = y / (Int.gcd x y : Int) ∧ n0 ≤ x / (Int.gcd x y : Int))))
theorem bef_self {t0 t1 x y : Int} (h0 : 0 ≤ t0) (h1 : 1 ≤ t1) (co : Int.gcd t0 t1 = 1) (hx : 0 ≤ x) (hy : 1 ≤ y) : Bef t0 t1 t0 t1 x y := by
  have z : dst t0 t1 t0 t1 = 0 := by unfold dst; simp
  unfold Bef
  rw [z, Int.zero_mul]
  by_cases h : x * t1 = t0 * y
  · obtain ⟨a, b⟩ := low_unique hx hy h0 h1 co h
    right
    refine ⟨?_, .inr ⟨b.symm, by rw [a]; (first | lia | omega)⟩⟩
    unfold dst; rw [h]; simp
  · left
    have : 1 ≤ dst t0 t1 x y := by unfold dst; (first | lia | omega)
    have := Int.mul_le_mul this h1 (by (first | lia | omega)) (by (first | lia | omega))
    (first | lia | omega)
theorem out_of {l0 l1 r0 r1 M x y : Int} (det : r0 * l1 - l0 * r1 = 1) (h1 : 1 ≤ l1) (h2 : 1 ≤ r1) (hM : M < l1 + r1) (hy : y ≤ M) : x * l1 ≤ l0 * y ∨ r0 * y ≤ x * r1 := by
  apply Classical.byContradiction
  intro h
  have a : 1 ≤ x * l1 - l0 * y := by (first | lia | omega)
  have b : 1 ≤ r0 * y - x * r1 := by (first | lia | omega)
  have e : y = l1 * (r0 * y - x * r1) + r1 * (x * l1 - l0 * y) := by
    have : l1 * (r0 * y - x * r1) + r1 * (x * l1 - l0 * y) = y * (r0 * l1 - l0 * r1) := by grind
    rw [this, det]; (first | lia | omega)
  have p1 := Int.mul_le_mul_of_nonneg_left b (show 0 ≤ l1 by (first | lia | omega))
  have p2 := Int.mul_le_mul_of_nonneg_left a (show 0 ≤ r1 by (first | lia | omega))
  (first | lia | omega)
theorem dst_left {t0 t1 l0 l1 : Int} (h : 0 < t0 * l1 - l0 * t1) : dst t0 t1 l0 l1 = t0 * l1 - l0 * t1 := by unfold dst; (first | lia | omega)
theorem dst_right {t0 t1 r0 r1 : Int} (h : 0 < r0 * t1 - t0 * r1) : dst t0 t1 r0 r1 = r0 * t1 - t0 * r1 := by unfold dst; (first | lia | omega)
/-- which of the two neighbours -/
def nst (t0 t1 : Int) (q : Q4) : Bool := decide (dst t0 t1 q.l0 q.l1 * q.r1 < dst t0 t1 q.r0 q.r1 * q.l1) || (decide (dst t0 t1 q.l0 q.l1 * q.r1 = dst t0 t1 q.r0 q.r1 * q.l1) && decide (q.l1 ≤ q.r1))
/-- against what lies on a neighbour's side: dA/a1 and then the other -/
theorem side_le {D A E n1 a1 y : Int} (ha : 0 < a1) (hn : 0 < n1) (hy : 0 < y) (h1 : D * a1 ≤ A * n1) (h2 : A * y ≤ E * a1) : D * y ≤ E * n1 ∧ (D * y = E * n1 → D * a1 = A * n1 ∧ A * y = E * a1) := by
  have k1 := Int.mul_le_mul_of_nonneg_right h1 (show 0 ≤ y by (first | lia | omega))
  have k2 := Int.mul_le_mul_of_nonneg_right h2 (show 0 ≤ n1 by (first | lia | omega))
  have e1 : D * a1 * y = D * y * a1 := by grind
  have e2 : A * n1 * y = A * y * n1 := by grind
  have e3 : E * a1 * n1 = E * n1 * a1 := by grind
  refine ⟨Int.le_of_mul_le_mul_right (show D * y * a1 ≤ E * n1 * a1 by (first | lia | omega)) ha, fun e => ?_⟩
  have e4 : D * y * a1 = E * n1 * a1 := by rw [e]
  have f1 : D * a1 * y = A * n1 * y := by (first | lia | omega)
  have f2 : A * y * n1 = E * a1 * n1 := by (first | lia | omega)
  exact ⟨Int.eq_of_mul_eq_mul_right (by (first | lia | omega)) f1, Int.eq_of_mul_eq_mul_right (by (first | lia | omega)) f2⟩
theorem lside {t0 t1 l0 l1 x y : Int} (hbe : 0 < t0 * l1 - l0 * t1) (h1 : 1 ≤ l1) (ht : 1 ≤ t1) (hy : 1 ≤ y) (h : x * l1 ≤ l0 * y) : dst t0 t1 l0 l1 * y ≤ dst t0 t1 x y * l1 ∧ (dst t0 t1 l0 l1 * y = dst t0 t1 x y * l1 → x * l1 = l0 * y) := by
  have k := Int.mul_le_mul_of_nonneg_right h (show 0 ≤ t1 by (first | lia | omega))
  have e1 : (t0 * y - x * t1) * l1 = (t0 * l1 - l0 * t1) * y + (l0 * y * t1 - x * l1 * t1) := by grind
  have p0 : 0 < (t0 * l1 - l0 * t1) * y := Int.mul_pos hbe (by (first | lia | omega))
  have p1 : 0 < (t0 * y - x * t1) * l1 := by (first | lia | omega)
  have p2 : 0 < t0 * y - x * t1 := Int.pos_of_mul_pos_left p1 (by (first | lia | omega))
  have d1 : dst t0 t1 x y = t0 * y - x * t1 := by unfold dst; (first | lia | omega)
  rw [dst_left hbe, d1]
  refine ⟨by (first | lia | omega), fun e => ?_⟩
  have : x * l1 * t1 = l0 * y * t1 := by (first | lia | omega)
  exact Int.eq_of_mul_eq_mul_right (by (first | lia | omega)) this
theorem rside {t0 t1 r0 r1 x y : Int} (hab : 0 < r0 * t1 - t0 * r1) (h1 : 1 ≤ r1) (ht : 1 ≤ t1) (hy : 1 ≤ y) (h : r0 * y ≤ x * r1) : dst t0 t1 r0 r1 * y ≤ dst t0 t1 x y * r1 ∧ (dst t0 t1 r0 r1 * y = dst t0 t1 x y * r1 → x * r1 = r0 * y) := by
  have k := Int.mul_le_mul_of_nonneg_right h (show 0 ≤ t1 by (first | lia | omega))
  have e1 : (x * t1 - t0 * y) * r1 = (r0 * t1 - t0 * r1) * y + (x * r1 * t1 - r0 * y * t1) := by grind
  have p0 : 0 < (r0 * t1 - t0 * r1) * y := Int.mul_pos hab (by (first | lia | omega))
  have p1 : 0 < (x * t1 - t0 * y) * r1 := by (first | lia | omega)
  have p2 : 0 < x * t1 - t0 * y := Int.pos_of_mul_pos_left p1 (by (first | lia | omega))
  have d1 : dst t0 t1 x y = x * t1 - t0 * y := by unfold dst; (first | lia | omega)
  rw [dst_right hab, d1]
  refine ⟨by (first | lia | omega), fun e => ?_⟩
  have : x * r1 * t1 = r0 * y * t1 := by (first | lia | omega)
  exact Int.eq_of_mul_eq_mul_right (by (first | lia | omega)) this
theorem bef_near {t0 t1 M x y : Int} {q : Q4} (T : Tg t0 t1 M) (a : Ar4 t0 t1 M q) (hM : M < q.l1 + q.r1) (hx : 0 ≤ x) (hy : 1 ≤ y) (hyM : y ≤ M) : if nst t0 t1 q then Bef t0 t1 q.l0 q.l1 x y else Bef t0 t1 q.r0 q.r1 x y := by
  obtain ⟨l0, l1, r0, r1⟩ := q
  have h1 := a.a1
  have hr : 1 ≤ r1 := by have := a.b1; have := a.al; dsimp only at *; (first | lia | omega)
  have ht : 1 ≤ t1 := by have := T.m1; have := T.lt; (first | lia | omega)
  have hbe := a.be
  have hab := a.ab
  have ha0 := a.a0
  have hb0 := a.b0
  have det := a.det
  dsimp only at *
  have cl := det_co det
  have cr := det_co2 det
  have out := out_of (x := x) det h1 hr hM hyM
  by_cases hn : nst t0 t1 ⟨l0, l1, r0, r1⟩ = true
  · rw [if_pos hn]
    simp only [nst] at hn
    have hle : dst t0 t1 l0 l1 * r1 ≤ dst t0 t1 r0 r1 * l1 := by simp only [Bool.or_eq_true, Bool.and_eq_true, decide_eq_true_eq] at hn; (first | lia | omega)
    have htie : dst t0 t1 l0 l1 * r1 = dst t0 t1 r0 r1 * l1 → l1 ≤ r1 := by simp only [Bool.or_eq_true, Bool.and_eq_true, decide_eq_true_eq] at hn; (first | lia | omega)
    unfold Bef
    rcases out with o | o
    · obtain ⟨k1, k2⟩ := lside hbe h1 ht hy o
      rcases Int.lt_or_eq_of_le k1 with z | z
      · exact .inl z
      · obtain ⟨u, v⟩ := low_unique hx hy ha0 h1 cl (k2 z)
        exact .inr ⟨z, .inr ⟨v.symm, by rw [u]; (first | lia | omega)⟩⟩
    · obtain ⟨k1, k2⟩ := rside hab hr ht hy o
      obtain ⟨s1, s2⟩ := side_le (D := dst t0 t1 l0 l1) (A := dst t0 t1 r0 r1) (E := dst t0 t1 x y) (n1 := l1) (a1 := r1) (y := y) (by (first | lia | omega)) (by (first | lia | omega)) (by (first | lia | omega)) hle k1
      rcases Int.lt_or_eq_of_le s1 with z | z
      · exact .inl z
      · obtain ⟨w1, w2⟩ := s2 z
        obtain ⟨u, v⟩ := low_unique hx hy (by (first | lia | omega)) hr cr (k2 w2)
        have lr := htie w1
        refine .inr ⟨z, ?_⟩
        rw [u, v]
        rcases Int.lt_or_eq_of_le lr with m | m
        · exact .inl m
        · refine .inr ⟨m, ?_⟩
          rw [m] at det
          have : 0 < (r0 - l0) * r1 := by rw [Int.sub_mul]; (first | lia | omega)
          have := Int.pos_of_mul_pos_left this (by (first | lia | omega))
          (first | lia | omega)
  · rw [if_neg hn]
    simp only [nst] at hn
    have hle : dst t0 t1 r0 r1 * l1 ≤ dst t0 t1 l0 l1 * r1 := by simp only [Bool.or_eq_true, Bool.and_eq_true, decide_eq_true_eq] at hn; (first | lia | omega)
    have htie : dst t0 t1 l0 l1 * r1 = dst t0 t1 r0 r1 * l1 → r1 < l1 := by simp only [Bool.or_eq_true, Bool.and_eq_true, decide_eq_true_eq] at hn; (first | lia | omega)
    unfold Bef
    rcases out with o | o
    · obtain ⟨k1, k2⟩ := lside hbe h1 ht hy o
      obtain ⟨s1, s2⟩ := side_le (D := dst t0 t1 r0 r1) (A := dst t0 t1 l0 l1) (E := dst t0 t1 x y) (n1 := r1) (a1 := l1) (y := y) (by (first | lia | omega)) (by (first | lia | omega)) (by (first | lia | omega)) hle k1
      rcases Int.lt_or_eq_of_le s1 with z | z
      · exact .inl z
      · obtain ⟨w1, w2⟩ := s2 z
        obtain ⟨u, v⟩ := low_unique hx hy ha0 h1 cl (k2 w2)
        refine .inr ⟨z, .inl ?_⟩
        rw [v]; exact htie w1.symm
    · obtain ⟨k1, k2⟩ := rside hab hr ht hy o
      rcases Int.lt_or_eq_of_le k1 with z | z
      · exact .inl z
      · obtain ⟨u, v⟩ := low_unique hx hy (by (first | lia | omega)) hr cr (k2 z)
        exact .inr ⟨z, .inr ⟨v.symm, by rw [u]; (first | lia | omega)⟩⟩
end Mine

namespace Mine
/-- runs by turns, from b on -/
def altP : Bool → Path → Prop
  | _, [] => True
  | b, s :: t => s.1 = b ∧ 1 ≤ s.2 ∧ altP (!b) t
theorem altP.ok' : ∀ {b : Bool} {p : Path}, altP b p → okP (some (!b)) p
  | _, [], _ => trivial
  | b, s :: t, h => by
    obtain ⟨rfl, h2, h3⟩ := h
    refine ⟨h2, ?_, ?_⟩
    · cases s.1 <;> simp
    · have := altP.ok' h3
      rw [Bool.not_not] at this
      exact this
theorem altP.ok {b : Bool} {p : Path} (h : altP b p) : okP none p := okP_free h.ok'
theorem altP.pos : ∀ {b : Bool} {p : Path}, altP b p → ∀ s ∈ p, 1 ≤ s.2
  | _, [], _, s, hs => nomatch hs
  | b, s :: t, h, x, hx => by
    rcases List.mem_cons.mp hx with rfl | hx
    · exact h.2.1
    · exact altP.pos h.2.2 x hx
theorem altP.set : ∀ {b : Bool} {p : Path} {i : Nat} {s : Bool × Int} {m : Int}, altP b p → p[i]? = some s → 1 ≤ m → altP b (p.set i (s.1, m))
  | b, [], i, s, m, h, e, hm => by simp at e
  | b, x :: t, 0, s, m, h, e, hm => by
    simp at e; subst e
    exact ⟨h.1, hm, h.2.2⟩
  | b, x :: t, i + 1, s, m, h, e, hm => ⟨h.1, h.2.1, altP.set h.2.2 (by simpa using e) hm⟩
/-- the bound on the runs -/
def leP (M : Int) (p : Path) : Prop := ∀ s ∈ p, s.2 ≤ M
theorem leP.set {M : Int} {p : Path} {i : Nat} {s : Bool × Int} (h : leP M p) (hs : s.2 ≤ M) : leP M (p.set i s) := fun x hx => by
  rcases List.mem_or_eq_of_mem_set hx with q | q
  · exact h x q
  · subst q; exact hs
end Mine

namespace Mine
theorem dst_mul {t0 t1 x y k : Int} (hk : 0 ≤ k) : dst t0 t1 x y * k = (((x * t1 - t0 * y) * k).natAbs : Int) := by
  unfold dst
  rw [Int.natAbs_mul]
  have : ((k.natAbs : Nat) : Int) = k := by (first | lia | omega)
  rw [Int.natCast_mul, this]
theorem abs_up {P R : Int} (h : P < R) : (((P.natAbs : Int) < R.natAbs) ↔ 0 < P + R) ∧ (((P.natAbs : Int) = R.natAbs) ↔ P + R = 0) := by (first | lia | omega)
theorem abs_dn {P R : Int} (h : R < P) : (((P.natAbs : Int) < R.natAbs) ↔ P + R < 0) ∧ (((P.natAbs : Int) = R.natAbs) ↔ P + R = 0) := by (first | lia | omega)
theorem mix_sum {A B T p q k : Int} (hp : 0 ≤ p) (hq : 1 ≤ q) (hk : 1 ≤ k) (e : T * k = p * A + q * B) (ha : 0 ≤ A) (hb : 0 ≤ B) : 0 ≤ T ∧ (T = 0 → B = 0) := by
  have h1 := Int.mul_nonneg hp ha
  have h2 := Int.mul_nonneg (show 0 ≤ q by (first | lia | omega)) hb
  have h3 : 0 ≤ T * k := by (first | lia | omega)
  refine ⟨Int.nonneg_of_mul_nonneg_left h3 (by (first | lia | omega)), fun z => ?_⟩
  rw [z, Int.zero_mul] at e
  have h4 : q * B = 0 := by (first | lia | omega)
  rcases Int.mul_eq_zero.mp h4 with q1 | q1
  · (first | lia | omega)
  · exact q1
/-- nearest to both ends, nearest to what lies between -/
theorem bef_mix {a0 a1 b0 b1 t0 t1 n0 n1 x y p q k : Int} (hn : 1 ≤ n1) (hy : 1 ≤ y) (ha : 1 ≤ a1) (hb : 1 ≤ b1) (ht : 1 ≤ t1) (hp : 0 ≤ p) (hq : 1 ≤ q) (hk : 1 ≤ k) (e0 : t0 * k = p * a0 + q * b0) (e1 : t1 * k = p * a1 + q * b1)
    (ba : Bef a0 a1 n0 n1 x y) (bb : Bef b0 b1 n0 n1 x y) : Bef t0 t1 n0 n1 x y := by
  unfold Bef at *
  generalize (n1 < y / (Int.gcd x y : Int) ∨ (n1 = y / (Int.gcd x y : Int) ∧ n0 ≤ x / (Int.gcd x y : Int))) = tb at *
  have hy0 : 0 ≤ y := by (first | lia | omega)
  have hn0 : 0 ≤ n1 := by (first | lia | omega)
  rw [dst_mul hy0, dst_mul hn0] at ba bb ⊢
  have d : ∀ u0 u1 : Int, (x * u1 - u0 * y) * n1 - (n0 * u1 - u0 * n1) * y = u1 * (x * n1 - n0 * y) := fun u0 u1 => by grind
  have s : ∀ u0 u1 : Int, (n0 * u1 - u0 * n1) * y + (x * u1 - u0 * y) * n1 = u1 * (n0 * y + x * n1) - u0 * (2 * n1 * y) := fun u0 u1 => by grind
  have lin : ((n0 * t1 - t0 * n1) * y + (x * t1 - t0 * y) * n1) * k = p * ((n0 * a1 - a0 * n1) * y + (x * a1 - a0 * y) * n1) + q * ((n0 * b1 - b0 * n1) * y + (x * b1 - b0 * y) * n1) := by
    rw [s, s, s]
    have : (t1 * (n0 * y + x * n1) - t0 * (2 * n1 * y)) * k = (t1 * k) * (n0 * y + x * n1) - (t0 * k) * (2 * n1 * y) := by grind
    rw [this, e0, e1]
    generalize n0 * y + x * n1 = U
    generalize 2 * n1 * y = V
    grind
  have da := d a0 a1
  have db := d b0 b1
  have dt := d t0 t1
  generalize x * n1 - n0 * y = W at *
  generalize (n0 * t1 - t0 * n1) * y = Pt at *
  generalize (x * t1 - t0 * y) * n1 = Rt at *
  generalize (n0 * a1 - a0 * n1) * y = Pa at *
  generalize (x * a1 - a0 * y) * n1 = Ra at *
  generalize (n0 * b1 - b0 * n1) * y = Pb at *
  generalize (x * b1 - b0 * y) * n1 = Rb at *
  rcases Int.lt_trichotomy W 0 with hW | hW | hW
  · have m : ∀ u : Int, 1 ≤ u → u * W < 0 := fun u hu => Int.mul_neg_of_pos_of_neg (by (first | lia | omega)) hW
    have ka := m a1 ha
    have kb := m b1 hb
    have kt := m t1 ht
    obtain ⟨xa1, xa2⟩ := abs_dn (P := Pa) (R := Ra) (by (first | lia | omega))
    obtain ⟨xb1, xb2⟩ := abs_dn (P := Pb) (R := Rb) (by (first | lia | omega))
    obtain ⟨xt1, xt2⟩ := abs_dn (P := Pt) (R := Rt) (by (first | lia | omega))
    have qa : 0 ≤ -(Pa + Ra) := by rcases ba with z | z
                                   · have := xa1.mp z; (first | lia | omega)
                                   · have := xa2.mp z.1; (first | lia | omega)
    have qb : 0 ≤ -(Pb + Rb) := by rcases bb with z | z
                                   · have := xb1.mp z; (first | lia | omega)
                                   · have := xb2.mp z.1; (first | lia | omega)
    have lin' : (-(Pt + Rt)) * k = p * (-(Pa + Ra)) + q * (-(Pb + Rb)) := by rw [Int.neg_mul, Int.mul_neg, Int.mul_neg, lin]; (first | lia | omega)
    obtain ⟨r1, r2⟩ := mix_sum hp hq hk lin' qa qb
    rcases Int.lt_or_eq_of_le r1 with z | z
    · exact .inl (xt1.mpr (by (first | lia | omega)))
    · have := r2 z.symm
      refine .inr ⟨xt2.mpr (by (first | lia | omega)), ?_⟩
      rcases bb with w | w
      · have := xb1.mp w; (first | lia | omega)
      · exact w.2
  · have e : ∀ u : Int, u * W = 0 := fun u => by rw [hW, Int.mul_zero]
    have ka := e a1
    have kt := e t1
    refine .inr ⟨by (first | lia | omega), ?_⟩
    rcases ba with z | z
    · (first | lia | omega)
    · exact z.2
  · have m : ∀ u : Int, 1 ≤ u → 0 < u * W := fun u hu => Int.mul_pos (by (first | lia | omega)) hW
    have ka := m a1 ha
    have kb := m b1 hb
    have kt := m t1 ht
    obtain ⟨xa1, xa2⟩ := abs_up (P := Pa) (R := Ra) (by (first | lia | omega))
    obtain ⟨xb1, xb2⟩ := abs_up (P := Pb) (R := Rb) (by (first | lia | omega))
    obtain ⟨xt1, xt2⟩ := abs_up (P := Pt) (R := Rt) (by (first | lia | omega))
    have qa : 0 ≤ Pa + Ra := by rcases ba with z | z
                                · have := xa1.mp z; (first | lia | omega)
                                · have := xa2.mp z.1; (first | lia | omega)
    have qb : 0 ≤ Pb + Rb := by rcases bb with z | z
                                · have := xb1.mp z; (first | lia | omega)
                                · have := xb2.mp z.1; (first | lia | omega)
    obtain ⟨r1, r2⟩ := mix_sum hp hq hk lin qa qb
    rcases Int.lt_or_eq_of_le r1 with z | z
    · exact .inl (xt1.mpr z)
    · have := r2 z.symm
      refine .inr ⟨xt2.mpr z.symm, ?_⟩
      rcases bb with w | w
      · have := xb1.mp w; (first | lia | omega)
      · exact w.2
/-- n0/n1 is the nearest about t0/t1 -/
structure NB (t0 t1 M n0 n1 : Int) : Prop where
  t0n : 0 ≤ t0
  t1p : 1 ≤ t1
  n0n : 0 ≤ n0
  n1p : 1 ≤ n1
  le : n1 ≤ M
  bef : ∀ x y : Int, 0 ≤ x → 1 ≤ y → y ≤ M → Bef t0 t1 n0 n1 x y
theorem bef_le {t0 t1 n0 n1 x y : Int} (h : Bef t0 t1 n0 n1 x y) : dst t0 t1 n0 n1 * y ≤ dst t0 t1 x y * n1 := by
  rcases h with z | z
  · exact Int.le_of_lt z
  · exact Int.le_of_eq z.1
theorem NB.range {t0 t1 M n0 n1 : Int} (h : NB t0 t1 M n0 n1) : t0 * n1 / t1 ≤ n0 ∧ n0 ≤ t0 * n1 / t1 + 1 := by
  have ht := h.t1p
  have hn := h.n1p
  have hv : 0 ≤ t0 * n1 := Int.mul_nonneg h.t0n (by (first | lia | omega))
  have hf : 0 ≤ t0 * n1 / t1 := Int.ediv_nonneg hv (by (first | lia | omega))
  have b := bef_le (h.bef (t0 * n1 / t1) n1 hf hn h.le)
  have b' := Int.le_of_mul_le_mul_right b (by (first | lia | omega))
  unfold dst at b'
  have e := Int.emod_add_mul_ediv (t0 * n1) t1
  have r1 := Int.emod_nonneg (t0 * n1) (b := t1) (by (first | lia | omega))
  have r2 := Int.emod_lt_of_pos (t0 * n1) (b := t1) (by (first | lia | omega))
  have ec : t1 * (t0 * n1 / t1) = t0 * n1 / t1 * t1 := Int.mul_comm _ _
  rw [ec] at e
  generalize t0 * n1 / t1 = f at *
  generalize t0 * n1 % t1 = r at *
  generalize t0 * n1 = v at *
  have l1 : (f - 1) * t1 < n0 * t1 := by rw [Int.sub_mul]; (first | lia | omega)
  have l2 : n0 * t1 < (f + 2) * t1 := by rw [Int.add_mul]; (first | lia | omega)
  have l3 := Int.lt_of_mul_lt_mul_right l1 (by (first | lia | omega))
  have l4 := Int.lt_of_mul_lt_mul_right l2 (by (first | lia | omega))
  (first | lia | omega)
/-- while the nearest is sought -/
def FB (t0 t1 n0 n1 u l : Int) (todo : Prop) : Prop := (u = n0 ∧ l = n1) ∨ (dst t0 t1 n0 n1 * l < dst t0 t1 u l * n1 ∧ todo)
theorem fb_early {t0 t1 n0 n1 x y : Int} (hx : 0 ≤ x) (hy : 1 ≤ y) (h : Bef t0 t1 n0 n1 x y) (e : y < n1 ∨ (y = n1 ∧ x < n0)) : dst t0 t1 n0 n1 * y < dst t0 t1 x y * n1 := by
  rcases h with z | ⟨_, z⟩
  · exact z
  · exfalso
    have hg : (1 : Int) ≤ (Int.gcd x y : Int) := by
      have : 0 < Int.gcd x y := Int.gcd_pos_of_ne_zero_right _ (by (first | lia | omega))
      (first | lia | omega)
    have d2 : (Int.gcd x y : Int) ∣ y := Int.gcd_dvd_right x y
    have q1 := Int.ediv_le_self (b := (Int.gcd x y : Int)) (a := x) hx
    have q2 := Int.ediv_le_self (b := (Int.gcd x y : Int)) (a := y) (by (first | lia | omega))
    (first | lia | omega)
theorem fb_step {t0 t1 M n0 n1 u l y m u' l' : Int} (N : NB t0 t1 M n0 n1) (hm : m = 0 ∨ m = 1) (hy : 1 ≤ y) (hyM : y ≤ M)
    (H : FB t0 t1 n0 n1 u l (y < n1 ∨ (y = n1 ∧ t0 * y / t1 + m ≤ n0)))
    (yes : dst t0 t1 (t0 * y / t1 + m) y * l < dst t0 t1 u l * y → u' = t0 * y / t1 + m ∧ l' = y) (no : ¬ dst t0 t1 (t0 * y / t1 + m) y * l < dst t0 t1 u l * y → u' = u ∧ l' = l) :
    FB t0 t1 n0 n1 u' l' (y < n1 ∨ (y = n1 ∧ t0 * y / t1 + (m + 1) ≤ n0)) := by
  have ht := N.t1p
  have hx : 0 ≤ t0 * y / t1 + m := by
    have := Int.ediv_nonneg (Int.mul_nonneg N.t0n (show 0 ≤ y by (first | lia | omega))) (show 0 ≤ t1 by (first | lia | omega))
    (first | lia | omega)
  have b := N.bef _ y hx hy hyM
  rcases H with ⟨rfl, rfl⟩ | ⟨w, td⟩
  · have := bef_le b
    obtain ⟨rfl, rfl⟩ := no (by (first | lia | omega))
    exact .inl ⟨rfl, rfl⟩
  · by_cases hc : y = n1 ∧ t0 * y / t1 + m = n0
    · obtain ⟨rfl, e⟩ := hc
      rw [e] at yes
      obtain ⟨rfl, rfl⟩ := yes w
      exact .inl ⟨rfl, rfl⟩
    · have e : y < n1 ∨ (y = n1 ∧ t0 * y / t1 + m < n0) := by (first | lia | omega)
      have w2 := fb_early hx hy b e
      by_cases hh : dst t0 t1 (t0 * y / t1 + m) y * l < dst t0 t1 u l * y
      · obtain ⟨rfl, rfl⟩ := yes hh
        exact .inr ⟨w2, by (first | lia | omega)⟩
      · obtain ⟨rfl, rfl⟩ := no hh
        exact .inr ⟨w, by (first | lia | omega)⟩
theorem fb_start {t0 t1 M n0 n1 : Int} (N : NB t0 t1 M n0 n1) : FB t0 t1 n0 n1 (t0 / t1) 1 (1 ≤ n1) := by
  have ht := N.t1p
  have hn := N.n1p
  have hf : 0 ≤ t0 / t1 := Int.ediv_nonneg N.t0n (by (first | lia | omega))
  have hM := N.le
  have b := N.bef (t0 / t1) 1 hf (by decide) (by (first | lia | omega))
  obtain ⟨r1, r2⟩ := N.range
  rcases b with z | ⟨_, z⟩
  · exact .inr ⟨z, hn⟩
  · have g : (Int.gcd (t0 / t1) 1 : Int) = 1 := by simp
    rw [g] at z
    simp only [Int.ediv_one] at z
    have : n1 = 1 := by (first | lia | omega)
    subst this
    rw [Int.mul_one] at r1
    exact .inl ⟨by (first | lia | omega), rfl⟩
theorem fb_in {t0 t1 M n0 n1 u l y : Int} (N : NB t0 t1 M n0 n1) (H : FB t0 t1 n0 n1 u l (y ≤ n1)) : FB t0 t1 n0 n1 u l (y < n1 ∨ (y = n1 ∧ t0 * y / t1 + 0 ≤ n0)) := by
  have r := N.range
  rcases H with z | ⟨z, q⟩
  · exact .inl z
  · refine .inr ⟨z, ?_⟩
    rcases Int.lt_or_eq_of_le q with w | w
    · exact .inl w
    · subst w; exact .inr ⟨rfl, by (first | lia | omega)⟩
theorem fb_out {t0 t1 M n0 n1 u l y : Int} (N : NB t0 t1 M n0 n1) (H : FB t0 t1 n0 n1 u l (y < n1 ∨ (y = n1 ∧ t0 * y / t1 + (1 + 1) ≤ n0))) : FB t0 t1 n0 n1 u l (y + 1 ≤ n1) := by
  have r := N.range
  rcases H with z | ⟨z, q⟩
  · exact .inl z
  · refine .inr ⟨z, ?_⟩
    rcases q with w | ⟨w, w2⟩
    · (first | lia | omega)
    · subst w; (first | lia | omega)
theorem fb_end {t0 t1 M n0 n1 u l y : Int} (N : NB t0 t1 M n0 n1) (H : FB t0 t1 n0 n1 u l (y ≤ n1)) (hy : M < y) : u = n0 ∧ l = n1 := by
  have := N.le
  rcases H with z | ⟨z, q⟩
  · exact z
  · (first | lia | omega)
end Mine

namespace Mine
open PySem PySem.Spec PySem.Calls PyProof.Rows

/-- the usual kinds of expressions -/
def pl : Expr → Bool
  | .Starred .. | .ListComp .. | .SetComp .. | .DictComp .. | .Set .. | .Slice .. => false
  | _ => true
theorem pl_star {x : Expr} {es : List Expr} {env : Env} (h : pl x = true) : starEach (x :: es) env = (false, eval x env) :: starEach es env := by cases x <;> first | rfl | cases h
theorem pl_marks {op : CmpOp} {x : Expr} (h : pl x = true) : behindInMarks op x = false := by cases x <;> first | rfl | cases h
theorem pl_swaps {x : Expr} {t : Option Expr} {n : Nat} {env : Env} (h : pl x = true) : swapsWith x t n env = pure false := by cases x <;> first | rfl | cases h
theorem pl_fold {x : Expr} {env : Env} (h : pl x = true) (v : Value) : foldedSetIterable x env v = pure v := by cases x <;> first | rfl | cases h
theorem pl_sub {x : Expr} {o i : Value} (h : pl x = true) : subscripted x false o i = operate [o, i] (getItem o i) := by cases x <;> first | rfl | cases h
def plT : Expr → Bool
  | .UnaryOp .Not _ _ | .BoolOp .. | .IfExp .. | .Compare .. => false
  | _ => true
theorem plT_eq {x : Expr} {env : Env} {t : Sem Value} (h : plT x = true) : isTrue x env t = (do let v ← t; standAt x.pos; holding [v] (truthy v)) := by
  cases x with
  | UnaryOp op _ _ => cases op <;> first | rfl | cases h
  | _ => first | rfl | cases h

abbrev Keep (h h' : Heap) : Prop := ∀ b o, h.get? b = some o → h'.get? b = some o
theorem Keep.rfl {h : Heap} : Keep h h := fun _ _ e => e
theorem Keep.trans {h h' h'' : Heap} (a : Keep h h') (b : Keep h' h'') : Keep h h'' := fun x o e => b x o (a x o e)
theorem Keep.push {h h' : Heap} (a : Keep h h') (o : Obj) : Keep h (h'.push o) := fun x o' e => Heap.get?_push_of_some _ (a x o' e)
theorem Keep.none {h h' : Heap} (a : Keep h h') {l : Addr} (n : h'.get? l = none) : h.get? l = none := by
  cases hq : h.get? l with
  | none => rfl
  | some o => rw [a l o hq] at n; cases n
/-- every object stands, but for those at W -/
def Kp (W : List Addr) (h h' : Heap) : Prop := ∀ b o, b ∉ W → h.get? b = some o → h'.get? b = some o
theorem Keep.kp {W : List Addr} {h h' : Heap} (k : Keep h h') : Kp W h h' := fun b o _ e => k b o e
theorem Kp.rfl {W : List Addr} {h : Heap} : Kp W h h := fun _ _ _ e => e
theorem Kp.trans {W : List Addr} {h h' h'' : Heap} (a : Kp W h h') (b : Kp W h' h'') : Kp W h h'' := fun x o n e => b x o n (a x o n e)
theorem Kp.mono {W W' : List Addr} {h h' : Heap} (a : Kp W h h') (s : ∀ b ∈ W, b ∈ W') : Kp W' h h' := fun x o n e => a x o (fun hx => n (s x hx)) e

/-- a tree that changes no object that stands -/
structure EvT {α : Type} (M : Model) (A : Around) (h : Heap) (t : Sem α) (R : α → Heap → Prop) (X : Value → Heap → Prop) : Prop where
  go : ∀ (s : Shared) (Q : α → Shared → Prop) (E : Value → Shared → Prop), Keep h s.heap →
    (∀ a h' k, Keep s.heap h' → R a h' → Q a { s with heap := h', toks := k }) →
    (∀ x h' k, X x h' → E x { s with heap := h', toks := k }) → wpAny M A t Q E s

abbrev Ev (M : Model) (A : Around) (env : Env) (h : Heap) (e : Expr) (R X : Value → Heap → Prop) : Prop := EvT M A h (eval e env) R X
abbrev Tr (M : Model) (A : Around) (env : Env) (h : Heap) (e : Expr) (b : Bool) (X : Value → Heap → Prop) : Prop := EvT M A h (isTrue e env (eval e env)) (fun c _ => c = b) X

/-- the value v reads as d -/
def Rd (d : PyData) (v : Value) (h : Heap) : Prop := ∃ as, Reads h v d as
theorem Rd.keep {d : PyData} {v : Value} {h h' : Heap} (r : Rd d v h) (k : Keep h h') : Rd d v h' := let ⟨as, x⟩ := r; ⟨as, PyProof.Rows.Reads.keeps k x⟩
def RdL (ds : List PyData) (vs : List Value) (h : Heap) : Prop := ∃ as, ReadsAll h vs ds as
theorem RdL.keep {ds : List PyData} {vs : List Value} {h h' : Heap} (r : RdL ds vs h) (k : Keep h h') : RdL ds vs h' := let ⟨as, x⟩ := r; ⟨as, PyProof.Rows.ReadsAll.keeps k x⟩
theorem RdL.nil {h : Heap} : RdL [] [] h := ⟨_, .nil⟩
theorem RdL.cons {d ds v vs} {h : Heap} (a : Rd d v h) (b : RdL ds vs h) : RdL (d :: ds) (v :: vs) h := let ⟨_, x⟩ := a; let ⟨_, y⟩ := b; ⟨_, .cons x y⟩
theorem RdL.len {ds vs} {h : Heap} (a : RdL ds vs h) : vs.length = ds.length := by
  obtain ⟨as, x⟩ := a
  induction ds generalizing vs as with
  | nil => cases x; rfl
  | cons d ds ih => cases x with | cons _ y => simp [ih _ y]
theorem RdL.at {ds vs} {h : Heap} (a : RdL ds vs h) {i : Nat} {d : PyData} (e : ds[i]? = some d) : ∃ v, vs[i]? = some v ∧ Rd d v h := by
  obtain ⟨as, x⟩ := a
  induction ds generalizing vs as i with
  | nil => simp at e
  | cons d' ds ih =>
    cases x with
    | cons r y =>
      cases i with
      | zero => simp at e; subst e; exact ⟨_, rfl, _, r⟩
      | succ i =>
        obtain ⟨v, q⟩ := ih (i := i) (by simpa using e) _ y
        exact ⟨v, by simpa using q⟩
theorem RdL.uncons {d ds vs} {h : Heap} (a : RdL (d :: ds) vs h) : ∃ v r, vs = v :: r ∧ Rd d v h ∧ RdL ds r h := by
  obtain ⟨as, x⟩ := a
  cases x with | cons r y => exact ⟨_, _, rfl, ⟨_, r⟩, ⟨_, y⟩⟩
theorem RdL.unnil {vs} {h : Heap} (a : RdL [] vs h) : vs = [] := by
  obtain ⟨as, x⟩ := a
  cases x; rfl
theorem RdL.append {ds es vs us} {h : Heap} (a : RdL ds vs h) (b : RdL es us h) : RdL (ds ++ es) (vs ++ us) h := by
  obtain ⟨as, x⟩ := a
  induction ds generalizing vs as with
  | nil => cases x; exact b
  | cons d ds ih => cases x with | cons r y => exact RdL.cons ⟨_, r⟩ (ih _ y)
mutual
/-- no list and no dict in it -/
def flat : PyData → Bool
  | .list _ | .dict _ => false
  | .tuple xs => flatL xs
  | _ => true
def flatL : List PyData → Bool
  | [] => true
  | x :: xs => flat x && flatL xs
end
theorem flat_nil {h : Heap} {d : PyData} {v : Value} {as : List Addr} (hf : flat d = true) (r : Reads h v d as) : as = [] :=
  Reads.rec (motive_1 := fun _ d as _ => flat d = true → as = []) (motive_2 := fun _ ds as _ => flatL ds = true → as = [])
    (fun _ => rfl) (fun _ _ => rfl) (fun _ _ _ => rfl) (fun _ _ _ => rfl) (fun _ _ _ _ _ hf => nomatch hf) (fun _ _ _ _ ih hf => ih hf) (fun _ _ _ _ _ _ _ hf => nomatch hf)
    (fun _ => rfl) (fun _ _ ih1 ih2 hf => by
      have q := Bool.and_eq_true_iff.mp hf
      rw [ih1 q.1, ih2 q.2]; rfl) r hf
theorem flatL_nil {h : Heap} {ds : List PyData} {vs : List Value} {as : List Addr} (hf : flatL ds = true) (r : ReadsAll h vs ds as) : as = [] :=
  ReadsAll.rec (motive_1 := fun _ _ _ _ => True) (motive_2 := fun _ ds as _ => flatL ds = true → as = [])
    trivial (fun _ => trivial) (fun _ _ => trivial) (fun _ _ => trivial) (fun _ _ _ _ _ => trivial) (fun _ _ _ _ _ => trivial) (fun _ _ _ _ _ _ _ => trivial)
    (fun _ => rfl) (fun x _ _ ih2 hf => by
      have q := Bool.and_eq_true_iff.mp hf
      rw [flat_nil q.1 x, ih2 q.2]; rfl) r hf

/-- ... and whatever list is in it is new against h₀ -/
def Rf (h₀ : Heap) (d : PyData) (v : Value) (h : Heap) : Prop := ∃ as, Reads h v d as ∧ ∀ a ∈ as, h₀.get? a = none
theorem Rf.rd {h₀ : Heap} {d : PyData} {v : Value} {h : Heap} (r : Rf h₀ d v h) : Rd d v h := let ⟨as, x, _⟩ := r; ⟨as, x⟩
theorem Rf.of_flat {h₀ : Heap} {d : PyData} {v : Value} {h : Heap} (f : flat d = true) (r : Rd d v h) : Rf h₀ d v h := by
  obtain ⟨as, x⟩ := r
  refine ⟨as, x, ?_⟩
  rw [flat_nil f x]; exact fun _ ha => nomatch ha
theorem Rf.keep {h₀ : Heap} {d : PyData} {v : Value} {h h' : Heap} (r : Rf h₀ d v h) (k : Keep h h') : Rf h₀ d v h' := let ⟨as, x, n⟩ := r; ⟨as, PyProof.Rows.Reads.keeps k x, n⟩
theorem Rf.old {h₀ h₁ : Heap} {d : PyData} {v : Value} {h : Heap} (r : Rf h₁ d v h) (k : Keep h₀ h₁) : Rf h₀ d v h := by
  obtain ⟨as, x, n⟩ := r
  exact ⟨as, x, fun a ha => k.none (n a ha)⟩
/-- a new list of flat things -/
def Rl (h₀ : Heap) (ds : List PyData) (v : Value) (h : Heap) : Prop := ∃ l items, v = .ref l ∧ h.PlainList l items ∧ RdL ds items.toList h ∧ h₀.get? l = none
theorem Rl.keep {h₀ : Heap} {ds} {v : Value} {h h' : Heap} (r : Rl h₀ ds v h) (k : Keep h h') : Rl h₀ ds v h' := by
  obtain ⟨l, items, e, ⟨n, p⟩, x, f⟩ := r
  exact ⟨l, items, e, ⟨n, k _ _ p⟩, x.keep k, f⟩
theorem Rl.old {h₀ h₁ : Heap} {ds} {v : Value} {h : Heap} (r : Rl h₁ ds v h) (k : Keep h₀ h₁) : Rl h₀ ds v h := by
  obtain ⟨l, items, e, p, x, f⟩ := r
  exact ⟨l, items, e, p, x, k.none f⟩
theorem Rl.rd {h₀ : Heap} {ds} {v : Value} {h : Heap} (r : Rl h₀ ds v h) : Rd (.list ds) v h := by
  obtain ⟨l, items, e, ⟨n, p⟩, ⟨as, x⟩, _⟩ := r
  subst e
  exact ⟨_, .list p rfl rfl x⟩
section
variable {α β : Type} {M : Model} {A : Around} {env : Env} {h : Heap} {X : Value → Heap → Prop}

theorem EvT.up {h' : Heap} {t : Sem α} {R : α → Heap → Prop} (e : EvT M A h t R X) (k : Keep h h') : EvT M A h' t R X := ⟨fun s Q E k' q x => e.go s Q E (k.trans k') q x⟩
theorem EvT.mono {t : Sem α} {R R' : α → Heap → Prop} (e : EvT M A h t R X) (m : ∀ a h', Keep h h' → R a h' → R' a h') : EvT M A h t R' X :=
  ⟨fun s Q E k q x => e.go s Q E k (fun a h' i k' r => q a h' i k' (m a h' (k.trans k') r)) x⟩
theorem EvT.of {t : Sem α} {R : α → Heap → Prop}
    (e : ∀ (s : Shared) (Q : α → Shared → Prop) (E : Value → Shared → Prop), Keep h s.heap → (∀ a h' k, Keep s.heap h' → R a h' → Q a { s with heap := h', toks := k }) → wpAny M A t Q E s) : EvT M A h t R X :=
  ⟨fun s Q E k q _ => e s Q E k q⟩
theorem EvT.ofS {t : Sem α} {R : α → Heap → Prop}
    (e : ∀ (s : Shared) (Q : α → Shared → Prop) (E : Value → Shared → Prop), Keep h s.heap → (∀ a k, R a s.heap → Q a { s with toks := k }) → wpAny M A t Q E s) : EvT M A h t R X :=
  ⟨fun s Q E k q _ => e s Q E k fun a k' r => q a s.heap k' Keep.rfl r⟩
theorem EvT.pure {a : α} {R : α → Heap → Prop} (r : ∀ h', Keep h h' → R a h') : EvT M A h (Pure.pure a) R X :=
  EvT.of fun s _ _ k q => wpAny_pure (q a s.heap s.toks Keep.rfl (r _ k))
theorem EvT.bind {t : Sem α} {f : α → Sem β} {R : α → Heap → Prop} {R' : β → Heap → Prop} (e : EvT M A h t R X)
    (n : ∀ a h', Keep h h' → R a h' → EvT M A h' (f a) R' X) : EvT M A h (t >>= f) R' X := by
  refine ⟨fun s Q E k q x => ?_⟩
  refine wpAny_bind (e.go s _ E k (fun a h' i k' r => ?_) x)
  exact (n a h' (k.trans k') r).go _ Q E (fun b o e => e) (fun a' h'' j k'' r' => q a' h'' j (k'.trans k'') r') (fun y h'' j r' => x y h'' j r')
theorem EvT.seq {t : Sem α} {R : α → Heap → Prop} (e : EvT M A h t R X) {s : Shared} {Q : α → Shared → Prop} {E : Value → Shared → Prop} (k : Keep h s.heap)
    (q : ∀ a h' i, Keep s.heap h' → R a h' → Q a { s with heap := h', toks := i }) (x : ∀ y h' i, X y h' → E y { s with heap := h', toks := i }) : wpAny M A t Q E s := e.go s Q E k q x
/-- two trees, one behind the other -/
theorem EvT.two {γ : Type} {t : Sem α} {u : Sem β} {R : α → Heap → Prop} {R2 : β → Heap → Prop} {v : α → β → Sem γ} {R' : γ → Heap → Prop} (e : EvT M A h t R X) (e2 : EvT M A h u R2 X)
    (m : ∀ a h' h'', Keep h' h'' → R a h' → R a h'') (n : ∀ a b h', Keep h h' → R a h' → R2 b h' → EvT M A h' (v a b) R' X)
    {s : Shared} {Q : γ → Shared → Prop} {E : Value → Shared → Prop} (k : Keep h s.heap)
    (q : ∀ a h' i, Keep s.heap h' → R' a h' → Q a { s with heap := h', toks := i }) (x : ∀ y h' i, X y h' → E y { s with heap := h', toks := i }) :
    wpAny M A t (fun a s₁ => wpAny M A u (fun b s₂ => wpAny M A (v a b) Q E s₂) E s₁) E s := by
  refine e.go s _ E k (fun a h1 i k1 r1 => ?_) x
  refine (e2.up (k.trans k1)).seq (s := { s with heap := h1, toks := i }) Keep.rfl (fun b h2 j k2 r2 => ?_) (fun y h2 j r => x y h2 j r)
  exact (n a b h2 (k.trans (Keep.trans k1 k2)) (m _ _ _ k2 r1) r2).seq (s := { s with heap := h2, toks := j }) Keep.rfl (fun c h3 j k3 r3 => q c h3 j (Keep.trans k1 (Keep.trans k2 k3)) r3) (fun y h3 j r => x y h3 j r)
end
theorem rd_mono {d : PyData} : ∀ a h' h'', Keep h' h'' → Rd d a h' → Rd d a h'' := fun _ _ _ k r => r.keep k

section
variable {prog : Program} {w : World} {A : Around} {env : Env} {h : Heap} {X : Value → Heap → Prop}

theorem ev_int {i : Int} {k pos} : Ev (model prog w) A env h (.Constant (.int i) k pos) (Rd (.int i)) X :=
  EvT.ofS fun _ _ _ _ q => wpAny_Constant_int (q _ _ ⟨_, .int _ _⟩)
theorem ev_str {x : Str} {k pos} : Ev (model prog w) A env h (.Constant (.str x) k pos) (Rd (.str x)) X :=
  EvT.ofS fun _ _ _ _ q => wpAny_Constant_str (q _ _ ⟨_, .str _ _⟩)
theorem ev_bool {b : Bool} {k pos} : Ev (model prog w) A env h (.Constant (.bool b) k pos) (Rd (.bool b)) X :=
  EvT.ofS fun s _ _ _ q => wpAny_Constant_bool (q _ s.toks ⟨_, .bool _⟩)
theorem ev_none {k pos} : Ev (model prog w) A env h (.Constant .none k pos) (Rd .none) X :=
  EvT.ofS fun s _ _ _ q => wpAny_Constant_none (q _ s.toks ⟨_, .none⟩)

theorem ev_bin {l r : Expr} {op : Operator} {pos : Pos} {d1 d2 : PyData} {R : Value → Heap → Prop} (e1 : Ev (model prog w) A env h l (Rd d1) X) (e2 : Ev (model prog w) A env h r (Rd d2) X)
    (o : ∀ v1 v2 h', Keep h h' → Rd d1 v1 h' → Rd d2 v2 h' → EvT (model prog w) A h' (binaryOp op v1 v2) R X) : Ev (model prog w) A env h (.BinOp l op r pos) R X := by
  refine ⟨fun s Q E k q x => ?_⟩
  exact wpAny_BinOp (EvT.two e1 e2 rd_mono o k q x)

theorem rd_int {i : Int} {v : Value} {h : Heap} (r : Rd (.int i) v h) : ∃ t, v = .int i t := by obtain ⟨as, x⟩ := r; cases x; exact ⟨_, rfl⟩
theorem rd_bool {i : Bool} {v : Value} {h : Heap} (r : Rd (.bool i) v h) : v = .bool i := by obtain ⟨as, x⟩ := r; cases x; rfl
theorem rd_tup {ds : List PyData} {v : Value} {h : Heap} (r : Rd (.tuple ds) v h) : ∃ a items, v = .ref a ∧ h.IsTuple a items ∧ RdL ds items.toList h := by
  obtain ⟨as, x⟩ := r
  cases x with | tuple h1 h2 h3 y => exact ⟨_, _, rfl, ⟨_, h1, h2, _, h3⟩, _, y⟩
theorem rd_list {ds : List PyData} {v : Value} {h : Heap} (r : Rd (.list ds) v h) : ∃ a items, v = .ref a ∧ h.IsList a items ∧ RdL ds items.toList h := by
  obtain ⟨as, x⟩ := r
  cases x with | list h1 h2 h3 y => exact ⟨_, _, rfl, ⟨_, h1, h2, _, h3⟩, _, y⟩

theorem ev_add {l r : Expr} {pos : Pos} {a b : Int} (e1 : Ev (model prog w) A env h l (Rd (.int a)) X) (e2 : Ev (model prog w) A env h r (Rd (.int b)) X) :
    Ev (model prog w) A env h (.BinOp l .Add r pos) (Rd (.int (a + b))) X := ev_bin e1 e2 fun v1 v2 h' k r1 r2 => by
  obtain ⟨t, rfl⟩ := rd_int r1; obtain ⟨u, rfl⟩ := rd_int r2
  exact EvT.ofS fun _ _ _ _ q => P.add_int (q _ _ ⟨_, .int _ _⟩)
theorem ev_sub {l r : Expr} {pos : Pos} {a b : Int} (e1 : Ev (model prog w) A env h l (Rd (.int a)) X) (e2 : Ev (model prog w) A env h r (Rd (.int b)) X) :
    Ev (model prog w) A env h (.BinOp l .Sub r pos) (Rd (.int (a - b))) X := ev_bin e1 e2 fun v1 v2 h' k r1 r2 => by
  obtain ⟨t, rfl⟩ := rd_int r1; obtain ⟨u, rfl⟩ := rd_int r2
  exact EvT.ofS fun _ _ _ _ q => P.sub_int (q _ _ ⟨_, .int _ _⟩)
theorem ev_mul {l r : Expr} {pos : Pos} {a b : Int} (e1 : Ev (model prog w) A env h l (Rd (.int a)) X) (e2 : Ev (model prog w) A env h r (Rd (.int b)) X) (hm : IntMulOk a b) :
    Ev (model prog w) A env h (.BinOp l .Mult r pos) (Rd (.int (a * b))) X := ev_bin e1 e2 fun v1 v2 h' k r1 r2 => by
  obtain ⟨t, rfl⟩ := rd_int r1; obtain ⟨u, rfl⟩ := rd_int r2
  exact EvT.ofS fun _ _ _ _ q => P.mul_int (q _ _ ⟨_, .int _ _⟩) hm
theorem ev_mod {l r : Expr} {pos : Pos} {a b : Int} (e1 : Ev (model prog w) A env h l (Rd (.int a)) X) (e2 : Ev (model prog w) A env h r (Rd (.int b)) X) (hb : 0 < b) :
    Ev (model prog w) A env h (.BinOp l .Mod r pos) (Rd (.int (a % b))) X := ev_bin e1 e2 fun v1 v2 h' k r1 r2 => by
  obtain ⟨t, rfl⟩ := rd_int r1; obtain ⟨u, rfl⟩ := rd_int r2
  refine EvT.ofS fun _ _ _ _ q => PyProof.Rows.mod_int (by (first | lia | omega)) ?_
  rw [Int.fmod_eq_emod_of_nonneg _ (by (first | lia | omega))]
  exact q _ _ ⟨_, .int _ _⟩
theorem ev_neg {x : Expr} {pos : Pos} {a : Int} (e1 : Ev (model prog w) A env h x (Rd (.int a)) X) :
    Ev (model prog w) A env h (.UnaryOp .USub x pos) (Rd (.int (-a))) X := by
  refine ⟨fun s Q E k q x => ?_⟩
  refine wpAny_UnaryOp (e1.go s _ E k (fun v h1 i k1 r1 => ?_) x)
  obtain ⟨t, rfl⟩ := rd_int r1
  exact P.neg_int (q _ _ _ k1 ⟨_, .int _ _⟩)

/-- one comparison, as a value and as a test -/
theorem ev_cmp {l r : Expr} {op : CmpOp} {pos : Pos} {d1 d2 : PyData} {R : Value → Heap → Prop} (e1 : Ev (model prog w) A env h l (Rd d1) X) (e2 : Ev (model prog w) A env h r (Rd d2) X)
    (o : ∀ v1 v2 h', Keep h h' → Rd d1 v1 h' → Rd d2 v2 h' → EvT (model prog w) A h' (compareOp op v1 v2) R X) (hm : pl r = true := by rfl) :
    Ev (model prog w) A env h (.Compare l [op] [r] pos) R X := by
  refine ⟨fun s Q E k q x => ?_⟩
  exact wpAny_Compare1 (EvT.two e1 e2 rd_mono o k q x) (pl_marks hm)
theorem tr_cmp {l r : Expr} {op : CmpOp} {pos : Pos} {d1 d2 : PyData} {b : Bool} (e1 : Ev (model prog w) A env h l (Rd d1) X) (e2 : Ev (model prog w) A env h r (Rd d2) X)
    (o : ∀ v1 v2 h', Keep h h' → Rd d1 v1 h' → Rd d2 v2 h' → EvT (model prog w) A h' (compareOp op v1 v2) (Rd (.bool b)) X) (hm : pl r = true := by rfl) :
    Tr (model prog w) A env h (.Compare l [op] [r] pos) b X := by
  refine ⟨fun s Q E k q x => ?_⟩
  refine wpAny_isTrue_Compare1 ?_ (pl_marks hm)
  exact EvT.two (v := fun a b => compareOp op a b) (Q := fun c s₃ => wpAny (model prog w) A (truthy c) Q E s₃) e1 e2 rd_mono o k (fun c h' i k' r => by cases rd_bool r; exact wpAny_truthy_bool (q _ _ _ k' rfl)) x

/-- int comparisons -/
def icmp : CmpOp → Int → Int → Option Bool
  | .Lt, a, b => some (decide (a < b))
  | .LtE, a, b => some (decide (a ≤ b))
  | .Gt, a, b => some (decide (a > b))
  | .GtE, a, b => some (decide (a ≥ b))
  | .Eq, a, b => some (a == b)
  | .NotEq, a, b => some (a != b)
  | _, _, _ => none
theorem op_icmp {op : CmpOp} {a b : Int} {c : Bool} (e : icmp op a b = some c) {v1 v2 : Value} {h' : Heap} (r1 : Rd (.int a) v1 h') (r2 : Rd (.int b) v2 h') :
    EvT (model prog w) A h' (compareOp op v1 v2) (Rd (.bool c)) X := by
  obtain ⟨t, rfl⟩ := rd_int r1; obtain ⟨u, rfl⟩ := rd_int r2
  cases op <;> cases e
  · exact EvT.ofS fun s _ _ _ q => P.eq_int (q _ s.toks ⟨_, .bool _⟩)
  · exact EvT.ofS fun s _ _ _ q => P.ne_int (q _ s.toks ⟨_, .bool _⟩)
  · exact EvT.ofS fun s _ _ _ q => P.lt_int (q _ s.toks ⟨_, .bool _⟩)
  · exact EvT.ofS fun s _ _ _ q => P.le_int (q _ s.toks ⟨_, .bool _⟩)
  · exact EvT.ofS fun s _ _ _ q => P.gt_int (q _ s.toks ⟨_, .bool _⟩)
  · exact EvT.ofS fun s _ _ _ q => P.ge_int (q _ s.toks ⟨_, .bool _⟩)
theorem ev_icmp {l r : Expr} {op : CmpOp} {pos : Pos} {a b : Int} {c : Bool} (e1 : Ev (model prog w) A env h l (Rd (.int a)) X) (e2 : Ev (model prog w) A env h r (Rd (.int b)) X) (e : icmp op a b = some c)
    (hm : pl r = true := by rfl) : Ev (model prog w) A env h (.Compare l [op] [r] pos) (Rd (.bool c)) X :=
  ev_cmp e1 e2 (fun _ _ _ _ r1 r2 => op_icmp e r1 r2) hm
theorem tr_icmp {l r : Expr} {op : CmpOp} {pos : Pos} {a b : Int} {c : Bool} (e1 : Ev (model prog w) A env h l (Rd (.int a)) X) (e2 : Ev (model prog w) A env h r (Rd (.int b)) X) (e : icmp op a b = some c)
    (hm : pl r = true := by rfl) : Tr (model prog w) A env h (.Compare l [op] [r] pos) c X :=
  tr_cmp e1 e2 (fun _ _ _ _ r1 r2 => op_icmp e r1 r2) hm

/-- tests -/
theorem tr_not {x : Expr} {pos : Pos} {b : Bool} (e : Tr (model prog w) A env h x b X) : Tr (model prog w) A env h (.UnaryOp .Not x pos) (!b) X := by
  refine ⟨fun s Q E k q x => ?_⟩
  refine wpAny_isTrue_Not (e.go s _ E k (fun c h1 i k1 r1 => ?_) x)
  subst r1; exact q _ _ _ k1 rfl
theorem tr_bool {op : BoolOp} {es : List Expr} {pos : Pos} {b : Bool} (e : EvT (model prog w) A h (allTrue op es env) (fun c _ => c = b) X) : Tr (model prog w) A env h (.BoolOp op es pos) b X := by
  refine ⟨fun s Q E k q x => ?_⟩
  exact wpAny_isTrue_BoolOp (e.go s Q E k q x)
theorem all_and_nil : EvT (model prog w) A h (allTrue .And [] env) (fun c _ => c = true) X := EvT.ofS fun s _ _ _ q => wpAny_allTrue_And_nil (q _ s.toks rfl)
theorem all_and {x : Expr} {es : List Expr} {a b : Bool} (e : Tr (model prog w) A env h x a X) (e2 : a = true → EvT (model prog w) A h (allTrue .And es env) (fun c _ => c = b) X) :
    EvT (model prog w) A h (allTrue .And (x :: es) env) (fun c _ => c = (a && b)) X := by
  refine ⟨fun s Q E k q x => ?_⟩
  refine wpAny_allTrue_And_cons (e.go s _ E k (fun c h1 i k1 r1 => ?_) x)
  subst r1
  cases c with
  | false => exact q _ _ _ k1 rfl
  | true => exact ((e2 rfl).up (k.trans k1)).seq (s := { s with heap := h1, toks := i }) Keep.rfl (fun c h2 j k2 r2 => q c h2 j (Keep.trans k1 k2) (by simpa using r2)) (fun y h2 j r => x y h2 j r)
theorem all_or_nil : EvT (model prog w) A h (allTrue .Or [] env) (fun c _ => c = false) X := EvT.ofS fun s _ _ _ q => wpAny_pure (a := false) (q _ s.toks rfl)
theorem all_or {x : Expr} {es : List Expr} {a b : Bool} (e : Tr (model prog w) A env h x a X) (e2 : a = false → EvT (model prog w) A h (allTrue .Or es env) (fun c _ => c = b) X) :
    EvT (model prog w) A h (allTrue .Or (x :: es) env) (fun c _ => c = (a || b)) X := by
  refine ⟨fun s Q E k q x => ?_⟩
  refine wpAny_allTrue_Or_cons (e.go s _ E k (fun c h1 i k1 r1 => ?_) x)
  subst r1
  cases c with
  | true => exact q _ _ _ k1 rfl
  | false => exact ((e2 rfl).up (k.trans k1)).seq (s := { s with heap := h1, toks := i }) Keep.rfl (fun c h2 j k2 r2 => q c h2 j (Keep.trans k1 k2) (by simpa using r2)) (fun y h2 j r => x y h2 j r)
theorem tr_val {e : Expr} {b : Bool} (e1 : Ev (model prog w) A env h e (Rd (.bool b)) X)
    (he : plT e = true := by rfl) : Tr (model prog w) A env h e b X := by
  refine ⟨fun s Q E k q x => ?_⟩
  refine wpAny_isTrue_value (e1.go s _ E k (fun c h1 i k1 r1 => ?_) x) (plT_eq he)
  cases rd_bool r1; exact wpAny_truthy_bool (q _ _ _ k1 rfl)
theorem ev_not {x : Expr} {pos : Pos} {b : Bool} (e : Ev (model prog w) A env h x (Rd (.bool b)) X) : Ev (model prog w) A env h (.UnaryOp .Not x pos) (Rd (.bool (!b))) X := by
  refine ⟨fun s Q E k q x => ?_⟩
  refine wpAny_UnaryOp (e.go s _ E k (fun v h1 i k1 r1 => ?_) x)
  cases rd_bool r1
  exact PyProof.Rows.not_of (wpAny_truthy_bool (q _ _ _ k1 ⟨_, .bool _⟩))

/-- and, or as values: all of them bools -/
theorem bo_last {op : BoolOp} {x : Expr} {pos : Pos} {R : Value → Heap → Prop} (e : Ev (model prog w) A env h x R X) : EvT (model prog w) A h (boolOp pos op [eval x env]) R X := e
theorem bo_and {x y : Expr} {es : List Expr} {pos : Pos} {a b : Bool} (e : Ev (model prog w) A env h x (Rd (.bool a)) X)
    (e2 : a = true → EvT (model prog w) A h (boolOp pos .And (evalEach (y :: es) env)) (Rd (.bool b)) X) :
    EvT (model prog w) A h (boolOp pos .And (evalEach (x :: y :: es) env)) (Rd (.bool (a && b))) X := by
  refine ⟨fun s Q E k q x' => ?_⟩
  show wpAny (model prog w) A (do
    let v ← eval x env
    standAt pos
    let t ← holding [v] (truthy v)
    match BoolOp.And, t with
    | .And, false | .Or, true => pure v
    | _, _ => boolOp pos .And (evalEach (y :: es) env)) Q E s
  refine wpAny_bind (e.go s _ E k (fun v h1 i k1 r1 => ?_) x')
  cases rd_bool r1
  refine wpAny_bind (wpAny_standAt (wpAny_bind (wpAny_holding (wpAny_truthy_bool ?_))))
  cases a with
  | false => exact wpAny_pure (q _ _ _ k1 ⟨_, .bool _⟩)
  | true => exact ((e2 rfl).up (k.trans k1)).seq (s := { s with heap := h1, toks := i }) Keep.rfl (fun c h2 j k2 r2 => q c h2 j (Keep.trans k1 k2) (by simpa using r2)) (fun y h2 j r => x' y h2 j r)
theorem ev_bop {op : BoolOp} {es : List Expr} {pos : Pos} {R : Value → Heap → Prop} (e : EvT (model prog w) A h (boolOp pos op (evalEach es env)) R X) : Ev (model prog w) A env h (.BoolOp op es pos) R X := by
  refine ⟨fun s Q E k q x => ?_⟩
  rw [arm_eval_BoolOp]; exact e.go s Q E k q x
theorem ev_ife {t b o : Expr} {pos : Pos} {c : Bool} {R : Value → Heap → Prop} (e : Tr (model prog w) A env h t c X) (e1 : c = true → Ev (model prog w) A env h b R X) (e2 : c = false → Ev (model prog w) A env h o R X) :
    Ev (model prog w) A env h (.IfExp t b o pos) R X := by
  refine ⟨fun s Q E k q x => ?_⟩
  refine wpAny_IfExp (e.go s _ E k (fun v h1 i k1 r1 => ?_) x)
  subst r1
  cases v with
  | true => exact ((e1 rfl).up (k.trans k1)).seq (s := { s with heap := h1, toks := i }) Keep.rfl (fun c h2 j k2 r2 => q c h2 j (Keep.trans k1 k2) r2) (fun y h2 j r => x y h2 j r)
  | false => exact ((e2 rfl).up (k.trans k1)).seq (s := { s with heap := h1, toks := i }) Keep.rfl (fun c h2 j k2 r2 => q c h2 j (Keep.trans k1 k2) r2) (fun y h2 j r => x y h2 j r)

/-- argument lists, displays -/
abbrev EvL (M : Model) (A : Around) (env : Env) (h : Heap) (pos : Pos) (es : List Expr) (ds : List PyData) (X : Value → Heap → Prop) : Prop := EvT M A h (spliced (backTo pos (starEach es env))) (RdL ds) X
theorem evl_nil {pos : Pos} : EvL (model prog w) A env h pos [] [] X := EvT.ofS fun s _ _ _ q => PyProof.Rows.args_nil (q _ s.toks RdL.nil)
theorem evl_cons {pos : Pos} {x : Expr} {es : List Expr} {d : PyData} {ds : List PyData} (e : Ev (model prog w) A env h x (Rd d) X) (e2 : EvL (model prog w) A env h pos es ds X)
    (he : pl x = true := by rfl) : EvL (model prog w) A env h pos (x :: es) (d :: ds) X := by
  refine ⟨fun s Q E k q x => ?_⟩
  refine PyProof.Rows.args_cons (e.go s _ E k (fun v h1 i k1 r1 => ?_) x) (pl_star he)
  exact (e2.up (k.trans k1)).seq (s := { s with heap := h1, toks := i }) Keep.rfl (fun c h2 j k2 r2 => q _ h2 j (Keep.trans k1 k2) (RdL.cons (r1.keep k2) r2)) (fun y h2 j r => x y h2 j r)

theorem ev_tup {es : List Expr} {n : Nat} {pos : Pos} {ds : List PyData} (e : EvL (model prog w) A env h pos es ds X) (hn : ds.length ≤ sizeLine := by simp only [List.length_cons, List.length_nil]; decide) : Ev (model prog w) A env h (.Tuple es n pos) (Rd (.tuple ds)) X := by
  refine ⟨fun s Q E k q x => ?_⟩
  refine wpAny_Tuple (e.go s _ E k (fun vs h1 i k1 r1 => ⟨by rw [r1.len]; exact hn, ?_⟩) x)
  obtain ⟨as, y⟩ := r1.keep (Keep.push Keep.rfl { cls := .type "tuple", data := .seq vs.toArray })
  exact q _ _ _ (Keep.push k1 _) ⟨_, .tuple (Heap.get?_push_size _ rfl) rfl rfl (by simpa using y)⟩
theorem ev_list {es : List Expr} {pos : Pos} {ds : List PyData} (e : EvL (model prog w) A env h pos es ds X) (hn : ds.length ≤ sizeLine := by simp only [List.length_cons, List.length_nil]; decide) : Ev (model prog w) A env h (.List es pos) (Rl h ds) X := by
  refine ⟨fun s Q E k q x => ?_⟩
  refine wpAny_List (e.go s _ E k (fun vs h1 i k1 r1 => ⟨by rw [r1.len]; exact hn, ?_⟩) x)
  refine q _ _ _ (Keep.push k1 _) ⟨_, _, rfl, ⟨_, Heap.get?_push_size _ rfl⟩, by simpa using r1.keep (Keep.push Keep.rfl _), ?_⟩
  cases hq : h.get? h1.objs.size with
  | none => rfl
  | some o => exact absurd (Heap.lt_size (k1 _ _ (k _ _ hq))) (Nat.lt_irrefl _)
end
end Mine

namespace Mine
open PySem PySem.Spec PySem.Calls PyProof.Rows

/-- an object that no datum is read from -/
def Odd (a : Addr) (h : Heap) : Prop := ∀ o, h.get? a = some o → (∀ vs n, o.data ≠ .seq vs n) ∧ (∀ es n, o.data ≠ .dict es n)
/-- an object that is no tuple -/
def NoTup (a : Addr) (h : Heap) : Prop := ∀ o, h.get? a = some o → o.cls = .type "tuple" → ∀ vs n, o.data ≠ .seq vs n

theorem reads_kp {W : List Addr} {h h' : Heap} (k : Kp W h h') {v : Value} {d : PyData} {as : List Addr} (hw : ∀ a ∈ W, Odd a h ∨ (a ∉ as ∧ NoTup a h)) (r : Reads h v d as) : Reads h' v d as :=
  Reads.rec (motive_1 := fun v d as _ => (∀ a ∈ W, Odd a h ∨ (a ∉ as ∧ NoTup a h)) → Reads h' v d as) (motive_2 := fun vs ds as _ => (∀ a ∈ W, Odd a h ∨ (a ∉ as ∧ NoTup a h)) → ReadsAll h' vs ds as)
    (fun _ => .none) (fun b _ => .bool b) (fun i t _ => .int i t) (fun x t _ => .str x t)
    (fun h1 h2 h3 _ ih hw => .list (k _ _ (fun ha => (hw _ ha).elim (fun q => (q _ h1).1 _ _ h3) (fun q => q.1 (.head _))) h1) h2 h3 (ih fun b hb => (hw b hb).imp id fun q => ⟨fun e => q.1 (.tail _ e), q.2⟩))
    (fun h1 h2 h3 _ ih hw => .tuple (k _ _ (fun ha => (hw _ ha).elim (fun q => (q _ h1).1 _ _ h3) (fun q => q.2 _ h1 h2 _ _ h3)) h1) h2 h3 (ih hw))
    (fun h1 h2 h3 _ _ ih1 ih2 hw => .dict (k _ _ (fun ha => (hw _ ha).elim (fun q => (q _ h1).2 _ _ h3) (fun q => q.1 (.head _))) h1) h2 h3 (ih1 fun b hb => (hw b hb).imp id fun q => ⟨fun e => q.1 (.tail _ (List.mem_append_left _ e)), q.2⟩)
      (ih2 fun b hb => (hw b hb).imp id fun q => ⟨fun e => q.1 (.tail _ (List.mem_append_right _ e)), q.2⟩))
    (fun _ => .nil) (fun _ _ ih1 ih2 hw => .cons (ih1 fun b hb => (hw b hb).imp id fun q => ⟨fun e => q.1 (List.mem_append_left _ e), q.2⟩) (ih2 fun b hb => (hw b hb).imp id fun q => ⟨fun e => q.1 (List.mem_append_right _ e), q.2⟩)) r hw
theorem readsAll_kp {W : List Addr} {h h' : Heap} (k : Kp W h h') {vs : List Value} {ds : List PyData} {as : List Addr} (hw : ∀ a ∈ W, Odd a h ∨ (a ∉ as ∧ NoTup a h)) (r : ReadsAll h vs ds as) : ReadsAll h' vs ds as :=
  ReadsAll.rec (motive_1 := fun _ _ _ _ => True) (motive_2 := fun vs ds as _ => (∀ a ∈ W, Odd a h ∨ (a ∉ as ∧ NoTup a h)) → ReadsAll h' vs ds as)
    trivial (fun _ => trivial) (fun _ _ => trivial) (fun _ _ => trivial) (fun _ _ _ _ _ => trivial) (fun _ _ _ _ _ => trivial) (fun _ _ _ _ _ _ _ => trivial)
    (fun _ => .nil) (fun x _ _ ih2 hw => .cons (reads_kp k (fun b hb => (hw b hb).imp id fun q => ⟨fun e => q.1 (List.mem_append_left _ e), q.2⟩) x) (ih2 fun b hb => (hw b hb).imp id fun q => ⟨fun e => q.1 (List.mem_append_right _ e), q.2⟩)) r hw
theorem reads_some {h : Heap} {v : Value} {d : PyData} {as : List Addr} (r : Reads h v d as) : ∀ a ∈ as, ∃ o, h.get? a = some o :=
  Reads.rec (motive_1 := fun _ _ as _ => ∀ a ∈ as, ∃ o, h.get? a = some o) (motive_2 := fun _ _ as _ => ∀ a ∈ as, ∃ o, h.get? a = some o)
    (fun _ ha => nomatch ha) (fun _ _ ha => nomatch ha) (fun _ _ _ ha => nomatch ha) (fun _ _ _ ha => nomatch ha)
    (fun h1 _ _ _ ih a ha => (List.mem_cons.mp ha).elim (fun e => e ▸ ⟨_, h1⟩) (ih a)) (fun _ _ _ _ ih => ih)
    (fun h1 _ _ _ _ ih1 ih2 a ha => (List.mem_cons.mp ha).elim (fun e => e ▸ ⟨_, h1⟩) (fun e => (List.mem_append.mp e).elim (ih1 a) (ih2 a)))
    (fun _ ha => nomatch ha) (fun _ _ ih1 ih2 a ha => (List.mem_append.mp ha).elim (ih1 a) (ih2 a)) r

abbrev Locs := List (Str × PyData)
abbrev Mut := Option (Str × Addr × List PyData)
/-- what is known of a frame: some of its names, and one list of its own that may be changed -/
structure St (g : Heap) (L : Addr) (h : Heap) (ρ : Locs) (μ : Mut) : Prop where
  ex : ∃ m, Fr g L h m ∧ (∀ x d, ρ.lookup x = some d → ∃ v as, m x = some v ∧ Reads h v d as ∧ L ∉ as ∧ ∀ q, μ = some q → q.2.1 ∉ as) ∧
    (∀ q, μ = some q → m q.1 = some (.ref q.2.1) ∧ g.get? q.2.1 = none ∧ flatL q.2.2 = true ∧ ∃ items, h.PlainList q.2.1 items ∧ RdL q.2.2 items.toList h)

theorem noTup_L {h₀ h : Heap} {L : Addr} {m} (F : Fr h₀ L h m) : NoTup L h := by
  obtain ⟨o, es, ep, ho, hd, _⟩ := F.ns
  intro o' ho' _ vs n e
  rw [ho] at ho'; cases ho'; rw [hd] at e; cases e
theorem noTup_list {h : Heap} {l : Addr} {items} (p : h.PlainList l items) : NoTup l h := by
  obtain ⟨n, p⟩ := p
  intro o ho hc
  rw [p] at ho; cases ho; simp at hc
theorem L_some {h₀ h : Heap} {L : Addr} {m} (F : Fr h₀ L h m) : ∃ o, h.get? L = some o := by
  obtain ⟨o, es, ep, ho, r⟩ := F.ns
  exact ⟨o, ho⟩
theorem L_ne_list {h₀ h : Heap} {L l : Addr} {m} {items} (F : Fr h₀ L h m) (p : h.PlainList l items) : l ≠ L := by
  obtain ⟨n, p⟩ := p
  obtain ⟨o, es, ep, ho, hd, _⟩ := F.ns
  intro e; subst e
  rw [p] at ho; cases ho; cases hd

theorem plain_kp {W : List Addr} {h h' : Heap} {l : Addr} {items} (k : Kp W h h') (n : l ∉ W) (p : h.PlainList l items) : h'.PlainList l items := let ⟨i, p⟩ := p; ⟨i, k _ _ n p⟩
theorem rdl_flat_kp {W : List Addr} {h h' : Heap} {ds vs} (k : Kp W h h') (hf : flatL ds = true) (hw : ∀ a ∈ W, NoTup a h) (r : RdL ds vs h) : RdL ds vs h' := by
  obtain ⟨as, x⟩ := r
  have e := flatL_nil hf x
  subst e
  exact ⟨_, readsAll_kp k (fun a ha => .inr ⟨List.not_mem_nil, hw a ha⟩) x⟩

section
variable {g h h' : Heap} {L : Addr} {ρ ρ' : Locs} {μ : Mut}
theorem St.keep (S : St g L h ρ μ) (k : Keep h h') : St g L h' ρ μ := by
  obtain ⟨m, F, hr, hm⟩ := S.ex
  refine ⟨m, F.after k, fun x d e => ?_, fun q e => ?_⟩
  · obtain ⟨v, as, a, b, c⟩ := hr x d e
    exact ⟨v, as, a, PyProof.Rows.Reads.keeps k b, c⟩
  · obtain ⟨a, b, c, items, ⟨n, p⟩, r⟩ := hm q e
    exact ⟨a, b, c, items, ⟨n, k _ _ p⟩, r.keep k⟩
theorem St.frK (S : St g L h ρ μ) : Keep g h := by obtain ⟨m, F, _⟩ := S.ex; exact F.keep
def Sub (ρ : Locs) : Locs → Prop
  | [] => True
  | p :: r => ρ.lookup p.1 = some p.2 ∧ Sub ρ r
theorem Sub.at {ρ : Locs} : ∀ {ρ' : Locs}, Sub ρ ρ' → ∀ x d, ρ'.lookup x = some d → ρ.lookup x = some d
  | [], _, _, _, e => nomatch e
  | (y, d') :: r, hs, x, d, e => by
    rw [List.lookup_cons] at e
    cases hb : x == y with
    | true => rw [hb] at e; cases e; rw [eq_of_beq hb]; exact hs.1
    | false => rw [hb] at e; exact hs.2.at x d e
theorem St.pick (S : St g L h ρ μ) (hs : Sub ρ ρ') : St g L h ρ' μ := by
  obtain ⟨m, F, hr, hm⟩ := S.ex
  exact ⟨m, F, fun x d e => hr x d (hs.at x d e), hm⟩
/-- the list is changed no more -/
theorem St.freeze {x : Str} {l : Addr} {ds : List PyData} (S : St g L h ρ (some (x, l, ds))) : St g L h ((x, .list ds) :: ρ) none := by
  obtain ⟨m, F, hr, hm⟩ := S.ex
  refine ⟨m, F, fun y d e => ?_, fun q e => nomatch e⟩
  rw [List.lookup_cons] at e
  cases hb : y == x with
  | true =>
    rw [hb] at e; cases e
    obtain ⟨a, b, c, items, p, ⟨as, r⟩⟩ := hm _ rfl
    have e := flatL_nil c r
    subst e
    obtain ⟨n, p'⟩ := id p
    refine ⟨_, _, by rw [eq_of_beq hb]; exact a, .list p' rfl rfl r, ?_, fun q e => nomatch e⟩
    intro hL
    cases hL with
    | head => exact L_ne_list F p rfl
    | tail _ e => cases e
  | false =>
    rw [hb] at e
    obtain ⟨v, as, a, b, c, _⟩ := hr y d e
    exact ⟨v, as, a, b, c, fun q e => nomatch e⟩
/-- changes at objects that bear nothing known -/
theorem St.odd {a : Addr} (S : St g L h ρ μ) (ho : Odd a h) (hs : ∃ o, h.get? a = some o) (hg : g.get? a = none) (k : Kp [a] h h') : St g L h' ρ μ := by
  obtain ⟨m, F, hr, hm⟩ := S.ex
  obtain ⟨o, hs⟩ := hs
  have hL : L ≠ a := by
    intro e; subst e
    obtain ⟨o', es, ep, ho', hd, _⟩ := F.ns
    exact (ho o' ho').2 _ _ hd
  refine ⟨m, ⟨?_, fun b o e => k b o ?_ (F.keep b o e), F.above⟩, fun x d e => ?_, fun q e => ?_⟩
  · obtain ⟨o', es, ep, ho', r⟩ := F.ns
    exact ⟨o', es, ep, k _ _ (by simp [hL]) ho', r⟩
  · intro hb
    rw [List.mem_singleton] at hb; subst hb; rw [hg] at e; cases e
  · obtain ⟨v, as, a, b, c⟩ := hr x d e
    exact ⟨v, as, a, reads_kp k (fun y hy => by rw [List.mem_singleton] at hy; subst hy; exact .inl ho) b, c⟩
  · obtain ⟨a', b, c, items, p, r⟩ := hm q e
    have hl : q.2.1 ≠ a := by
      intro e; obtain ⟨n, p⟩ := p
      rw [e] at p
      exact (ho _ p).1 _ _ rfl
    refine ⟨a', b, c, items, plain_kp k (by simp [hl]) p, ?_⟩
    obtain ⟨as, r⟩ := r
    exact ⟨as, readsAll_kp k (fun y hy => by rw [List.mem_singleton] at hy; subst hy; exact .inl ho) r⟩
end

/-- statements: whatever stands stays, but for the frame's names and the lists at Ws -/
structure Run (M : Model) (A : Around) (env : Env) (Ws : List Addr) (ss : List Stmt) (h : Heap) (P : Flow → Heap → Prop) (X : Value → Heap → Prop) : Prop where
  go : ∀ (s : Shared) (Q : Flow → Shared → Prop) (E : Value → Shared → Prop), s.heap = h → PassesOwn M A env E →
    (∀ fl h' k, Kp (env.locals :: Ws) h h' → P fl h' → Q fl { s with heap := h', toks := k }) →
    (∀ x h' k, X x h' → E x { s with heap := h', toks := k }) → wpAny M A (execs ss env) Q E s
abbrev NoX : Value → Heap → Prop := fun _ _ => False

section
variable {prog : Program} {w : World} {A : Around} {env : Env} {h : Heap} {X : Value → Heap → Prop} {Ws : List Addr} {P : Flow → Heap → Prop} {rest : List Stmt}
theorem run_nil (p : P .next h) : Run (model prog w) A env Ws [] h P X := by
  refine ⟨fun s Q E e po q x => ?_⟩; subst e
  exact wpAny_execs_nil (q _ s.heap s.toks Kp.rfl p)
theorem run_mono {P' : Flow → Heap → Prop} {ss : List Stmt} (r : Run (model prog w) A env Ws ss h P X) (m : ∀ fl h', P fl h' → P' fl h') : Run (model prog w) A env Ws ss h P' X := by
  refine ⟨fun s Q E e po q x => ?_⟩
  exact r.go s Q E e po (fun fl h' k kp p => q fl h' k kp (m _ _ p)) x
theorem run_ret {e : Expr} {pos : Pos} {R : Value → Heap → Prop} (ev : Ev (model prog w) A env h e R X) (k : ∀ v h', Keep h h' → R v h' → P (.ret v) h') : Run (model prog w) A env Ws (.Return (some e) pos :: rest) h P X := by
  refine ⟨fun s Q E e po q x => ?_⟩; subst e
  refine wpAny_execs_cons (wpAny_Return_some (ev.go s _ E Keep.rfl (fun v h' i k' r => ?_) x))
  exact q _ _ _ k'.kp (k v h' k' r)
theorem run_expr {e : Expr} {pos : Pos} {R : Value → Heap → Prop} (ev : Ev (model prog w) A env h e R X) (k : ∀ v h', Keep h h' → R v h' → Run (model prog w) A env Ws rest h' P X)
    (hi : interactive env = false := by rfl) (hs : pl e = true := by rfl) : Run (model prog w) A env Ws (.Expr e pos :: rest) h P X := by
  refine ⟨fun s Q E e po q x => ?_⟩; subst e
  refine wpAny_execs_cons (wpAny_Expr_any (ev.go s _ E Keep.rfl (fun v h' i k' r => ?_) x) hi (pl_swaps hs))
  exact (k v h' k' r).go _ Q E rfl po (fun fl h2 j kp p => q fl h2 j (k'.kp.trans kp) p) (fun y h2 j r => x y h2 j r)

theorem run_ifH {test : Expr} {body orelse : List Stmt} {pos : Pos} {c : Bool} (t : Tr (model prog w) A env h test c X)
    (k1 : c = true → ∀ h', Keep h h' → Run (model prog w) A env Ws body h' (fun fl h2 => match fl with | .next => Run (model prog w) A env Ws rest h2 P X | fl => P fl h2) X)
    (k2 : c = false → ∀ h', Keep h h' → Run (model prog w) A env Ws orelse h' (fun fl h2 => match fl with | .next => Run (model prog w) A env Ws rest h2 P X | fl => P fl h2) X) :
    Run (model prog w) A env Ws (.If test body orelse pos :: rest) h P X := by
  refine ⟨fun s Q E e po q x => ?_⟩; subst e
  refine wpAny_execs_cons (wpAny_If (t.go s _ E Keep.rfl (fun c' h1 i k' r => ?_) x))
  subst r
  have fin : ∀ (ss : List Stmt), Run (model prog w) A env Ws ss h1 (fun fl h2 => match fl with | .next => Run (model prog w) A env Ws rest h2 P X | fl => P fl h2) X →
      wpAny (model prog w) A (execs ss env) (fun f s' => match f with | .next => wpAny (model prog w) A (execs rest env) Q E s' | f => Q f s') E { s with heap := h1, toks := i } := by
    intro ss r
    refine r.go _ _ E rfl po (fun fl h2 j kp p => ?_) (fun y h2 j r => x y h2 j r)
    cases fl with
    | next => exact p.go _ Q E rfl po (fun fl h3 j kp' p' => q fl h3 j (k'.kp.trans (kp.trans kp')) p') (fun y h2 j r => x y h2 j r)
    | brk => exact q _ _ _ (k'.kp.trans kp) p
    | cont => exact q _ _ _ (k'.kp.trans kp) p
    | ret v => exact q _ _ _ (k'.kp.trans kp) p
  cases c' with
  | true => exact fin _ (k1 rfl h1 k')
  | false => exact fin _ (k2 rfl h1 k')
end

section
variable {prog : Program} {w : World} {A : Around} {nm : Str} {sc : Scope} {L fa : Addr} {cd : Value} {g h : Heap} {ρ : Locs} {μ : Mut} {X : Value → Heap → Prop} {Ws : List Addr} {P : Flow → Heap → Prop} {rest : List Stmt}

theorem ev_var {x : Str} {pos : Pos} {d : PyData} (S : St g L h ρ μ) (hv : ρ.lookup x = some d) (hk : sc.kind = .function := by rfl) (hl : (envOf nm sc L fa cd).kindOf x = some .local := by rfl)
    (hd : (x == ("__debug__" : Str)) = false := by decide) : Ev (model prog w) A (envOf nm sc L fa cd) h (.Name x pos) (Rd d) X :=
  EvT.ofS fun s Q E k q => by
    obtain ⟨m, F, hr, _⟩ := (S.keep k).ex
    obtain ⟨v, as, hm, r, _⟩ := hr x d hv
    exact ld F hm (q v s.toks ⟨as, r⟩) hk hl hd
theorem ev_mut {x : Str} {pos : Pos} {l : Addr} {ds : List PyData} (S : St g L h ρ (some (x, l, ds))) (hk : sc.kind = .function := by rfl) (hl : (envOf nm sc L fa cd).kindOf x = some .local := by rfl)
    (hd : (x == ("__debug__" : Str)) = false := by decide) : Ev (model prog w) A (envOf nm sc L fa cd) h (.Name x pos) (Rd (.list ds)) X :=
  EvT.ofS fun s Q E k q => by
    obtain ⟨m, F, _, hm⟩ := (S.keep k).ex
    obtain ⟨hv, _, _, items, ⟨n, p⟩, as, r⟩ := hm _ rfl
    exact ld F hv (q _ s.toks ⟨_, .list p rfl rfl r⟩) hk hl hd
theorem ev_mutL {x : Str} {pos : Pos} {l : Addr} {ds : List PyData} (S : St g L h ρ (some (x, l, ds))) (hk : sc.kind = .function := by rfl) (hl : (envOf nm sc L fa cd).kindOf x = some .local := by rfl)
    (hd : (x == ("__debug__" : Str)) = false := by decide) : Ev (model prog w) A (envOf nm sc L fa cd) h (.Name x pos) (fun v _ => v = .ref l) X :=
  EvT.ofS fun s Q E k q => by
    obtain ⟨m, F, _, hm⟩ := (S.keep k).ex
    obtain ⟨hv, _⟩ := hm _ rfl
    exact ld F hv (q _ s.toks rfl) hk hl hd

theorem fr_set {m : Str → Option Value} {h' : Heap} {x : Str} {v : Value} (F : Fr g L h m) (hn : h'.Ns L (fun y => if y = x then some v else m y)) (hs : Heap.SameBut L h h') : Fr g L h' (fun y => if y = x then some v else m y) := F.set hn hs
theorem kp_same {a : Addr} {h h' : Heap} (hs : Heap.SameBut a h h') : Kp [a] h h' := fun b o n e => by
  rw [hs.2 b (by simpa using n)]; exact e

/-- a name bound to a datum -/
theorem St.store {x : Str} {v : Value} {d : PyData} {as : List Addr} {h' : Heap} {m : Str → Option Value} (S : St g L h ρ μ) (hμ : ∀ q, μ = some q → q.1 ≠ x) (F₀ : Fr g L h m) (r : Reads h v d as) (nL : L ∉ as) (nl : ∀ q, μ = some q → q.2.1 ∉ as)
    (hn : h'.Ns L (fun y => if y = x then some v else m y)) (hs : Heap.SameBut L h h') : St g L h' ((x, d) :: ρ) μ := by
  obtain ⟨m', F, hr, hm⟩ := S.ex
  have em : m' = m := by
    obtain ⟨o, es, ep, h1, h2, _, h4⟩ := F.ns
    obtain ⟨o', es', ep', h1', h2', _, h4'⟩ := F₀.ns
    rw [h1] at h1'; cases h1'; rw [h2] at h2'; cases h2'
    funext y; rw [← h4, ← h4']
  subst em
  have k := kp_same hs
  have hW : ∀ (bs : List Addr), L ∉ bs → ∀ a ∈ [L], Odd a h ∨ (a ∉ bs ∧ NoTup a h) := fun bs hb a ha => by
    rw [List.mem_singleton] at ha; subst ha; exact .inr ⟨hb, noTup_L F⟩
  refine ⟨_, fr_set F hn hs, fun y d' e => ?_, fun q e => ?_⟩
  · rw [List.lookup_cons] at e
    by_cases hb : y = x
    · subst hb
      rw [beq_self_eq_true] at e; cases e
      exact ⟨v, as, by simp, reads_kp k (hW _ nL) r, nL, nl⟩
    · rw [beq_eq_false_iff_ne.mpr hb] at e
      obtain ⟨v', as', a, b, c, d⟩ := hr y d' e
      exact ⟨v', as', by simp [hb, a], reads_kp k (hW _ c) b, c, d⟩
  · obtain ⟨a, b, c, items, p, r'⟩ := hm q e
    refine ⟨by simp [hμ q e, a], b, c, items, plain_kp k (by simpa using L_ne_list F p) p, rdl_flat_kp k c (fun a ha => ?_) r'⟩
    rw [List.mem_singleton] at ha; subst ha; exact noTup_L F

theorem run_assign {x : Str} {px pos : Pos} {e : Expr} {d : PyData} (S : St g L h ρ μ) (ev : Ev (model prog w) A (envOf nm sc L fa cd) h e (Rf h d) X)
    (k : ∀ h', St g L h' ((x, d) :: ρ) μ → Run (model prog w) A (envOf nm sc L fa cd) Ws rest h' P X)
    (hμ : ∀ q, μ = some q → q.1 ≠ x := by intro q e; first | (cases e; done) | (cases e; dsimp only; decide)) (hk : sc.kind = .function := by rfl) (hl : (envOf nm sc L fa cd).kindOf x = some .local := by rfl)
    (hs : pl e = true := by rfl) : Run (model prog w) A (envOf nm sc L fa cd) Ws (.Assign [.Name x px] e pos :: rest) h P X := by
  refine ⟨fun s Q E e po q x' => ?_⟩; subst e
  refine wpAny_execs_cons (wpAny_Assign_Name (ev.go s _ E Keep.rfl (fun v h1 i k1 r => ?_) x') (pl_swaps hs))
  obtain ⟨m, F, hr, hm⟩ := (S.keep k1).ex
  obtain ⟨as, r, hf⟩ := r
  refine wpAny_storeName_local hl F.ns (fun h' hn hsb => ?_) (by show (sc.kind == .class || (sc.kind == .module && L != mainGlobals)) = false; rw [hk]; rfl)
  have S' : St g L h' ((x, d) :: ρ) μ := by
    refine (S.keep k1).store hμ F r (fun hL => ?_) (fun q e hl => ?_) hn hsb
    · obtain ⟨m0, F0, _⟩ := S.ex
      obtain ⟨o, ho⟩ := L_some F0
      rw [hf L hL] at ho; cases ho
    · obtain ⟨m0, F0, _, hm0⟩ := S.ex
      obtain ⟨_, _, _, items, ⟨n, p⟩, _⟩ := hm0 q e
      rw [hf _ hl] at p; cases p
  exact (k h' S').go _ Q E rfl po (fun fl h2 j kp p => q fl h2 j ((k1.kp.trans ((kp_same hsb).mono fun b hb => by rw [List.mem_singleton] at hb; subst hb; exact .head _)).trans kp) p) (fun y h2 j r => x' y h2 j r)
/-- ... a datum without lists in it -/
theorem run_set {x : Str} {px pos : Pos} {e : Expr} {d : PyData} (S : St g L h ρ μ) (ev : Ev (model prog w) A (envOf nm sc L fa cd) h e (Rd d) X)
    (k : ∀ h', St g L h' ((x, d) :: ρ) μ → Run (model prog w) A (envOf nm sc L fa cd) Ws rest h' P X) (hf : flat d = true := by rfl)
    (hμ : ∀ q, μ = some q → q.1 ≠ x := by intro q e; first | (cases e; done) | (cases e; dsimp only; decide)) (hk : sc.kind = .function := by rfl) (hl : (envOf nm sc L fa cd).kindOf x = some .local := by rfl)
    (hs : pl e = true := by rfl) : Run (model prog w) A (envOf nm sc L fa cd) Ws (.Assign [.Name x px] e pos :: rest) h P X :=
  run_assign S (ev.mono fun _ _ _ r => .of_flat hf r) k hμ hk hl hs
/-- ... a new list that is to be changed -/
theorem run_own {x : Str} {px pos : Pos} {e : Expr} {ds : List PyData} (S : St g L h ρ none) (ev : Ev (model prog w) A (envOf nm sc L fa cd) h e (Rl h ds) X)
    (k : ∀ l h', St g L h' ρ (some (x, l, ds)) → Run (model prog w) A (envOf nm sc L fa cd) (l :: Ws) rest h' P X) (hf : flatL ds = true := by rfl) (hx : ρ.lookup x = none := by rfl)
    (hk : sc.kind = .function := by rfl) (hl : (envOf nm sc L fa cd).kindOf x = some .local := by rfl)
    (hs : pl e = true := by rfl) : Run (model prog w) A (envOf nm sc L fa cd) Ws (.Assign [.Name x px] e pos :: rest) h P X := by
  refine ⟨fun s Q E e po q x' => ?_⟩; subst e
  refine wpAny_execs_cons (wpAny_Assign_Name (ev.go s _ E Keep.rfl (fun v h1 i k1 r => ?_) x') (pl_swaps hs))
  obtain ⟨m, F, hr, hm⟩ := (S.keep k1).ex
  obtain ⟨l, items, rfl, p, r, fresh⟩ := r
  refine wpAny_storeName_local hl F.ns (fun h' hn hsb => ?_) (by show (sc.kind == .class || (sc.kind == .module && L != mainGlobals)) = false; rw [hk]; rfl)
  have kp1 : Kp [L] h1 h' := kp_same hsb
  have S' : St g L h' ρ (some (x, l, ds)) := by
    refine ⟨_, fr_set F hn hsb, fun y d' e => ?_, fun q e => ?_⟩
    · have hy : y ≠ x := fun hb => by subst hb; rw [hx] at e; cases e
      obtain ⟨m0, F0, hr0, _⟩ := S.ex
      obtain ⟨v', as', a, b, c, _⟩ := hr0 y d' e
      have em : m0 = m := by
        obtain ⟨o, es, ep, h1, h2, _, h4⟩ := (F0.after k1).ns
        obtain ⟨o', es', ep', h1', h2', _, h4'⟩ := F.ns
        rw [h1] at h1'; cases h1'; rw [h2] at h2'; cases h2'
        funext y; rw [← h4, ← h4']
      subst em
      refine ⟨v', as', by simp [hy, a], reads_kp kp1 (fun a ha => ?_) (PyProof.Rows.Reads.keeps k1 b), c, fun q e hq => ?_⟩
      · rw [List.mem_singleton] at ha; subst ha; exact .inr ⟨c, noTup_L F⟩
      · cases e
        have : ∃ o, s.heap.get? l = some o := reads_some b l hq
        obtain ⟨o, ho⟩ := this
        rw [fresh] at ho; cases ho
    · cases e
      refine ⟨by simp, ?_, hf, items, plain_kp kp1 (by simpa using L_ne_list F p) p, rdl_flat_kp kp1 hf (fun a ha => ?_) r⟩
      · exact S.frK.none fresh
      · rw [List.mem_singleton] at ha; subst ha; exact noTup_L F
  refine (k l h' S').go _ Q E rfl po (fun fl h2 j kp p' => q fl h2 j ?_ p') (fun y h2 j r => x' y h2 j r)
  intro b o nb eb
  have hbl : b ≠ l := fun e => by subst e; rw [fresh] at eb; cases eb
  have hbL : b ≠ L := fun e => nb (by rw [e]; exact .head _)
  refine kp b o ?_ (kp1 b o (by simpa using hbL) (k1 b o eb))
  intro hb
  cases hb with
  | head => exact nb (.head _)
  | tail _ hb => cases hb with
    | head => exact hbl rfl
    | tail _ hb => exact nb (.tail _ hb)

theorem run_if {test : Expr} {body orelse : List Stmt} {pos : Pos} {c : Bool} (S : St g L h ρ μ) (t : Tr (model prog w) A (envOf nm sc L fa cd) h test c X)
    (k1 : c = true → ∀ h', St g L h' ρ μ → Run (model prog w) A (envOf nm sc L fa cd) Ws body h' (fun fl h2 => match fl with | .next => Run (model prog w) A (envOf nm sc L fa cd) Ws rest h2 P X | fl => P fl h2) X)
    (k2 : c = false → ∀ h', St g L h' ρ μ → Run (model prog w) A (envOf nm sc L fa cd) Ws orelse h' (fun fl h2 => match fl with | .next => Run (model prog w) A (envOf nm sc L fa cd) Ws rest h2 P X | fl => P fl h2) X) :
    Run (model prog w) A (envOf nm sc L fa cd) Ws (.If test body orelse pos :: rest) h P X :=
  run_ifH t (fun e h' kp => k1 e h' (S.keep kp)) (fun e h' kp => k2 e h' (S.keep kp))

theorem run_while {test : Expr} {body : List Stmt} {pos : Pos} (J : Nat → Locs → Mut → Prop) (n : Nat) (S : St g L h ρ μ) (j0 : J n ρ μ)
    (step : ∀ n ρ μ h, J n ρ μ → St g L h ρ μ → ∃ b, Tr (model prog w) A (envOf nm sc L fa cd) h test b X ∧
      (b = true → ∀ h', St g L h' ρ μ → Run (model prog w) A (envOf nm sc L fa cd) Ws body h' (fun fl h2 => match fl with
        | .next | .cont => ∃ m ρ' μ', m < n ∧ J m ρ' μ' ∧ St g L h2 ρ' μ'
        | .brk => Run (model prog w) A (envOf nm sc L fa cd) Ws rest h2 P X
        | .ret v => P (.ret v) h2) X) ∧
      (b = false → ∀ h', St g L h' ρ μ → Run (model prog w) A (envOf nm sc L fa cd) Ws rest h' P X)) :
    Run (model prog w) A (envOf nm sc L fa cd) Ws (.While test body [] pos :: rest) h P X := by
  refine ⟨fun s Q E e po q x => ?_⟩; subst e
  refine wpAny_execs_cons (wpAny_While ?_)
  refine codeAny_whileLoop (I := fun n s' => ∃ h' k ρ μ, s' = { s with heap := h', toks := k } ∧ Kp (L :: Ws) s.heap h' ∧ J n ρ μ ∧ St g L h' ρ μ) (fun n s' hI => ?_) n ⟨s.heap, s.toks, ρ, μ, rfl, Kp.rfl, j0, S⟩
  obtain ⟨h1, k1, ρ1, μ1, rfl, kp1, hJ, S1⟩ := hI
  obtain ⟨b, tr, yes, no⟩ := step n ρ1 μ1 h1 hJ S1
  refine wpAny_mono (tr.seq (s := { s with heap := h1, toks := k1 }) (Q := fun c s' => ∃ h2 k2, c = b ∧ s' = { s with heap := h2, toks := k2 } ∧ Keep h1 h2) (E := E) Keep.rfl (fun c h2 k2 kk r => ⟨h2, k2, r, rfl, kk⟩) (fun y h2 j r => x y h2 j r)) (fun c s' hc => ?_) po
  obtain ⟨h2, k2, r, rfl, kk⟩ := hc
  subst r
  have goOn : ∀ h3, Kp (L :: Ws) s.heap h3 → Run (model prog w) A (envOf nm sc L fa cd) Ws rest h3 P X → ∀ k3, wpAny (model prog w) A (execs rest (envOf nm sc L fa cd)) Q E { s with heap := h3, toks := k3 } := by
    intro h3 kp3 r k3
    exact r.go _ Q E rfl po (fun fl h4 k4 kp4 p => q fl h4 k4 (kp3.trans kp4) p) (fun y h4 k4 r => x y h4 k4 r)
  cases c with
  | true =>
    simp only [if_true]
    refine wpAny_passesOwn po ((yes rfl h2 (S1.keep kk)).go _ _ (E) rfl po (fun fl h3 k3 kp3 p => ?_) (fun y h2 j r => x y h2 j r))
    have kpAll : Kp (L :: Ws) s.heap h3 := (kp1.trans kk.kp).trans kp3
    cases fl with
    | next => obtain ⟨m, ρ', μ', hm, hJ', S'⟩ := p; exact ⟨m, hm, h3, k3, ρ', μ', rfl, kpAll, hJ', S'⟩
    | cont => obtain ⟨m, ρ', μ', hm, hJ', S'⟩ := p; exact ⟨m, hm, h3, k3, ρ', μ', rfl, kpAll, hJ', S'⟩
    | brk => exact goOn h3 kpAll p k3
    | ret v => exact q _ _ _ kpAll p
  | false =>
    simp only [Bool.false_eq_true, if_false]
    exact wpAny_execs_nil (goOn h2 (kp1.trans kk.kp) (no rfl h2 (S1.keep kk)) k2)
end
end Mine

namespace Mine
open PySem PySem.Spec PySem.Calls PyProof.Rows

structure Cx where
  prog : Program
  w : World
  p : Program
  loose : List Str
  mean : ExcName → Option Value
  mg : Str → Option Value
  mb : Str → Option Value
abbrev Cx.T (c : Cx) (h : Heap) : Prop := Top c.p c.loose c.mean c.mg c.mb h
abbrev Cx.M (c : Cx) : Model := model c.prog c.w

/-- room for n more frames -/
structure Rm (A : Around) (n : Nat) : Prop where
  hd : A.handled = none
  dep : A.depth + n < recursionLimit
  un : A.units + 3 * n + 100 < cLine
theorem Rm.deeper {A : Around} {n : Nat} {env : Env} (r : Rm A (n + 1)) : Rm (A.deeper env) n :=
  ⟨r.hd, by have := r.dep; show A.depth + 1 + n < _; (first | lia | omega), by have := r.un; show A.units + 3 + 3 * n + 100 < _; (first | lia | omega)⟩
theorem Rm.less {A : Around} {n m : Nat} (r : Rm A n) (h : m ≤ n) : Rm A m := ⟨r.hd, by have := r.dep; (first | lia | omega), by have := r.un; (first | lia | omega)⟩

def retv : Flow → Value
  | .ret v => v
  | _ => .none

/-- what a call of a def gives -/
structure Fn (c : Cx) (n : Nat) (f : Str) (ds : List PyData) (R : Heap → Value → Heap → Prop) : Prop where
  isDef : ∃ dr ∈ recsOf c.p, dr.name = f
  run : ∀ (A : Around) (h : Heap) (vs : List Value) (a : Addr), c.T h → Rm A n → c.mg f = some (.ref a) → RdL ds vs h → EvT c.M A h (call (.ref a) vs) (R h) NoX
abbrev FnD (c : Cx) (n : Nat) (f : Str) (ds : List PyData) (d : PyData) : Prop := Fn c n f ds fun h => Rf h d
abbrev FnL (c : Cx) (n : Nat) (f : Str) (ds : List PyData) (rs : List PyData) : Prop := Fn c n f ds fun h => Rl h rs

theorem rf_old {d : PyData} : ∀ h0 h1 v h', Keep h0 h1 → Rf h1 d v h' → Rf h0 d v h' := fun _ _ _ _ k r => r.old k
theorem rl_old {ds : List PyData} : ∀ h0 h1 v h', Keep h0 h1 → Rl h1 ds v h' → Rl h0 ds v h' := fun _ _ _ _ k r => r.old k

def zipL : List Str → List PyData → Locs
  | x :: xs, d :: ds => (x, d) :: zipL xs ds
  | _, _ => []
theorem zip_reads {g : Heap} : ∀ {xs : List Str} {ds : List PyData} {vs : List Value}, RdL ds vs g → xs.Nodup → xs.length = ds.length →
    ∀ x d, (zipL xs ds).lookup x = some d → ∃ v as, (xs.zip vs).reverse.lookup x = some v ∧ Reads g v d as
  | [], _, _, _, _, _, x, d, e => by simp [zipL] at e
  | y :: xs, [], _, _, _, hl, x, d, e => by simp at hl
  | y :: xs, d' :: ds, vs, r, hn, hl, x, d, e => by
    obtain ⟨v, vs', rfl, r1, r2⟩ := r.uncons
    rw [List.nodup_cons] at hn
    rw [zipL, List.lookup_cons] at e
    rw [List.zip_cons_cons, List.reverse_cons, List.lookup_append]
    by_cases hb : x = y
    · subst hb
      rw [beq_self_eq_true] at e; cases e
      obtain ⟨as, r1⟩ := r1
      refine ⟨v, as, ?_, r1⟩
      have : (xs.zip vs').reverse.lookup x = none := by
        rw [List.lookup_eq_none_iff]
        intro p hp
        have hp' : p ∈ xs.zip vs' := by simpa using hp
        have := (List.of_mem_zip (a := p.1) (b := p.2) hp').1
        rw [bne_iff_ne]
        intro e; rw [e] at hn; exact hn.1 this
      rw [this]; simp [List.lookup]
    · rw [beq_eq_false_iff_ne.mpr hb] at e
      obtain ⟨v', as, q, r⟩ := zip_reads r2 hn.2 (by simpa using hl) x d e
      exact ⟨v', as, by rw [q]; rfl, r⟩

theorem recs_at {p : Program} {g : Stmt → Option DefRec} (hg : recsOf p = p.main.body.filterMap g) {i : Nat} {st : Stmt} {d : DefRec} (h1 : p.main.body[i]? = some st) (h2 : g st = some d) : d ∈ recsOf p := by
  rw [hg]; exact List.mem_filterMap.mpr ⟨st, List.mem_of_getElem? h1, h2⟩
/-- the def at a place of the top -/
theorem def_at {p q : Program} (hq : recsOf q = recsOf p) {g : Stmt → Option DefRec} (i : Nat) {dn : Str} {dp : Arguments} {db : List Stmt} {dd dr' dt bd ts} {dsc : Scope} {dps : Pos} {f : Str} (h1 : p.main.body[i]? = some (.FunctionDef dn dp db dd dr' dt dsc ts bd dps)) (hn : dn = f) (hg : recsOf p = p.main.body.filterMap g)
    (h2 : g (.FunctionDef dn dp db dd dr' dt dsc ts bd dps) = some ⟨dn, dp, db, dsc, dps⟩) : (⟨dn, dp, db, dsc, dps⟩ : DefRec) ∈ recsOf q ∧ dn = f := ⟨by rw [hq]; exact recs_at hg h1 h2, hn⟩

section
variable {c : Cx} {n : Nat} {f : Str} {ds : List PyData} {R : Heap → Value → Heap → Prop}
theorem fn_core {dn : Str} {dp : Arguments} {db : List Stmt} {dsc : Scope} {dps : Pos} {xs : List Str} (hd : (⟨dn, dp, db, dsc, dps⟩ : DefRec) ∈ recsOf c.p ∧ dn = f)
    (hb : ∀ pm cd doc (vs : List Value), vs.length = ds.length → bindArgs (docDef dn dp db dsc pm cd doc) ⟨vs, []⟩ = pure (xs.zip vs))
    (hlen : xs.length = ds.length) (hnd : xs.Nodup) (hloc : ∀ x ∈ xs, dsc.names.lookup x = some .local)
    (hco : dsc.isCoroutine = false) (hgen : dsc.isGenerator = false) (hk : dsc.kind = .function) (hcell : ∀ x ∈ dsc.names, x.2 ≠ .cell)
    (hR : ∀ h0 h1 v h', Keep h0 h1 → R h1 v h' → R h0 v h')
    (k : ∀ (A : Around) (g h : Heap) (L fa : Addr) (cd : Value), c.T g → Rm A n → St g L h (zipL xs ds) none → Run c.M A (envOf dn dsc L fa cd) [] db h (fun fl h' => R g (retv fl) h') NoX) : Fn c (n + 1) f ds R := by
  obtain ⟨hd, hn⟩ := hd
  refine ⟨⟨_, hd, hn⟩, ?_⟩
  intro A h vs a T rm ha r
  refine ⟨fun s Q E kp q x => ?_⟩
  obtain ⟨a', o, pm, cd, doc, h1, h2, h3, h4⟩ := T.fn ⟨dn, dp, db, dsc, dps⟩ hd
  dsimp only at h1 h3 h4
  rw [hn, ha] at h1; cases h1
  refine wpAny_call (call_plain (by have := rm.dep; (first | lia | omega)) (kp _ _ h2) h3 (T.nolimit.keeps kp) (h4.keeps kp) (hb pm cd doc vs (r.len)) (fun y hy => hloc _ (List.of_mem_zip (a := y.1) (b := y.2) hy).1) (fun h₁ F => ?_) hco hgen hk hcell)
  have S : St s.heap s.heap.objs.size h₁ (zipL xs ds) none := by
    refine ⟨_, F, fun x d e => ?_, fun q e => nomatch e⟩
    obtain ⟨v, as, e', r'⟩ := zip_reads (r.keep kp) hnd hlen x d e
    refine ⟨v, as, e', PyProof.Rows.Reads.keeps F.keep r', fun hL => ?_, fun q e => nomatch e⟩
    obtain ⟨o, ho⟩ := reads_some r' _ hL
    exact absurd (Heap.lt_size ho) (Nat.lt_irrefl _)
  refine (k (A.deeper (envOf dn dsc s.heap.objs.size a cd)) s.heap h₁ _ a cd (T.keeps kp) rm.deeper S).go _ _ _ rfl PassesOwn.leaving (fun fl h' i kp' p => ?_) (fun _ _ _ r => r.elim)
  have kk : Keep s.heap h' := fun b o e => kp' b o (by
    intro hb
    rw [List.mem_singleton] at hb
    rw [hb] at e
    exact absurd (Heap.lt_size e) (Nat.lt_irrefl _)) (F.keep b o e)
  have := q (retv fl) h' i kk (hR _ _ _ _ kp p)
  cases fl <;> exact this
end

theorem lens1 {α : Type} {vs : List α} (h : vs.length = 1) : ∃ a, vs = [a] := by
  match vs, h with
  | [a], _ => exact ⟨a, rfl⟩
theorem lens2 {α : Type} {vs : List α} (h : vs.length = 2) : ∃ a b, vs = [a, b] := by
  match vs, h with
  | [a, b], _ => exact ⟨a, b, rfl⟩
theorem lens3 {α : Type} {vs : List α} (h : vs.length = 3) : ∃ a b c, vs = [a, b, c] := by
  match vs, h with
  | [a, b, c], _ => exact ⟨a, b, c, rfl⟩
theorem lens4 {α : Type} {vs : List α} (h : vs.length = 4) : ∃ a b c d, vs = [a, b, c, d] := by
  match vs, h with
  | [a, b, c, d], _ => exact ⟨a, b, c, d, rfl⟩

section
variable {c : Cx} {n : Nat} {f : Str} {R : Heap → Value → Heap → Prop} {dn : Str} {dp : Arguments} {db : List Stmt} {dsc : Scope} {dps : Pos} {x1 x2 x3 x4 : Str} {d1 d2 d3 d4 : PyData}
theorem fn1 (hd : (⟨dn, dp, db, dsc, dps⟩ : DefRec) ∈ recsOf c.p ∧ dn = f) (hR : ∀ h0 h1 v h', Keep h0 h1 → R h1 v h' → R h0 v h')
    (hb : ∀ pm cd doc (v1 : Value), bindArgs (docDef dn dp db dsc pm cd doc) ⟨[v1], []⟩ = pure [(x1, v1)])
    (k : ∀ (A : Around) (g h : Heap) (L fa : Addr) (cd : Value), c.T g → Rm A n → St g L h [(x1, d1)] none → Run c.M A (envOf dn dsc L fa cd) [] db h (fun fl h' => R g (retv fl) h') NoX)
    (hnd : [x1].Nodup := by decide +kernel) (hloc : ∀ x ∈ [x1], dsc.names.lookup x = some .local := by decide +kernel)
    (hco : dsc.isCoroutine = false := by rfl) (hgen : dsc.isGenerator = false := by rfl) (hk : dsc.kind = .function := by rfl) (hcell : ∀ x ∈ dsc.names, x.2 ≠ .cell := by decide +kernel) : Fn c (n + 1) f [d1] R :=
  fn_core (xs := [x1]) hd (fun pm cd doc vs h => by obtain ⟨v1, rfl⟩ := lens1 h; exact hb pm cd doc v1) rfl hnd hloc hco hgen hk hcell hR k
theorem fn2 (hd : (⟨dn, dp, db, dsc, dps⟩ : DefRec) ∈ recsOf c.p ∧ dn = f) (hR : ∀ h0 h1 v h', Keep h0 h1 → R h1 v h' → R h0 v h')
    (hb : ∀ pm cd doc (v1 v2 : Value), bindArgs (docDef dn dp db dsc pm cd doc) ⟨[v1, v2], []⟩ = pure [(x1, v1), (x2, v2)])
    (k : ∀ (A : Around) (g h : Heap) (L fa : Addr) (cd : Value), c.T g → Rm A n → St g L h [(x1, d1), (x2, d2)] none → Run c.M A (envOf dn dsc L fa cd) [] db h (fun fl h' => R g (retv fl) h') NoX)
    (hnd : [x1, x2].Nodup := by decide +kernel) (hloc : ∀ x ∈ [x1, x2], dsc.names.lookup x = some .local := by decide +kernel)
    (hco : dsc.isCoroutine = false := by rfl) (hgen : dsc.isGenerator = false := by rfl) (hk : dsc.kind = .function := by rfl) (hcell : ∀ x ∈ dsc.names, x.2 ≠ .cell := by decide +kernel) : Fn c (n + 1) f [d1, d2] R :=
  fn_core (xs := [x1, x2]) hd (fun pm cd doc vs h => by obtain ⟨v1, v2, rfl⟩ := lens2 h; exact hb pm cd doc v1 v2) rfl hnd hloc hco hgen hk hcell hR k
theorem fn3 (hd : (⟨dn, dp, db, dsc, dps⟩ : DefRec) ∈ recsOf c.p ∧ dn = f) (hR : ∀ h0 h1 v h', Keep h0 h1 → R h1 v h' → R h0 v h')
    (hb : ∀ pm cd doc (v1 v2 v3 : Value), bindArgs (docDef dn dp db dsc pm cd doc) ⟨[v1, v2, v3], []⟩ = pure [(x1, v1), (x2, v2), (x3, v3)])
    (k : ∀ (A : Around) (g h : Heap) (L fa : Addr) (cd : Value), c.T g → Rm A n → St g L h [(x1, d1), (x2, d2), (x3, d3)] none → Run c.M A (envOf dn dsc L fa cd) [] db h (fun fl h' => R g (retv fl) h') NoX)
    (hnd : [x1, x2, x3].Nodup := by decide +kernel) (hloc : ∀ x ∈ [x1, x2, x3], dsc.names.lookup x = some .local := by decide +kernel)
    (hco : dsc.isCoroutine = false := by rfl) (hgen : dsc.isGenerator = false := by rfl) (hk : dsc.kind = .function := by rfl) (hcell : ∀ x ∈ dsc.names, x.2 ≠ .cell := by decide +kernel) : Fn c (n + 1) f [d1, d2, d3] R :=
  fn_core (xs := [x1, x2, x3]) hd (fun pm cd doc vs h => by obtain ⟨v1, v2, v3, rfl⟩ := lens3 h; exact hb pm cd doc v1 v2 v3) rfl hnd hloc hco hgen hk hcell hR k
theorem fn4 (hd : (⟨dn, dp, db, dsc, dps⟩ : DefRec) ∈ recsOf c.p ∧ dn = f) (hR : ∀ h0 h1 v h', Keep h0 h1 → R h1 v h' → R h0 v h')
    (hb : ∀ pm cd doc (v1 v2 v3 v4 : Value), bindArgs (docDef dn dp db dsc pm cd doc) ⟨[v1, v2, v3, v4], []⟩ = pure [(x1, v1), (x2, v2), (x3, v3), (x4, v4)])
    (k : ∀ (A : Around) (g h : Heap) (L fa : Addr) (cd : Value), c.T g → Rm A n → St g L h [(x1, d1), (x2, d2), (x3, d3), (x4, d4)] none → Run c.M A (envOf dn dsc L fa cd) [] db h (fun fl h' => R g (retv fl) h') NoX)
    (hnd : [x1, x2, x3, x4].Nodup := by decide +kernel) (hloc : ∀ x ∈ [x1, x2, x3, x4], dsc.names.lookup x = some .local := by decide +kernel)
    (hco : dsc.isCoroutine = false := by rfl) (hgen : dsc.isGenerator = false := by rfl) (hk : dsc.kind = .function := by rfl) (hcell : ∀ x ∈ dsc.names, x.2 ≠ .cell := by decide +kernel) : Fn c (n + 1) f [d1, d2, d3, d4] R :=
  fn_core (xs := [x1, x2, x3, x4]) hd (fun pm cd doc vs h => by obtain ⟨v1, v2, v3, v4, rfl⟩ := lens4 h; exact hb pm cd doc v1 v2 v3 v4) rfl hnd hloc hco hgen hk hcell hR k
end

section
variable {c : Cx} {n : Nat} {A : Around} {nm : Str} {sc : Scope} {L fa : Addr} {cd : Value} {g h : Heap} {ρ : Locs} {μ : Mut} {X : Value → Heap → Prop}
/-- a call of a def by its name -/
theorem ev_call {k : Nat} {f : Str} {p pos : Pos} {e : Expr} {es : List Expr} {ds : List PyData} {R : Heap → Value → Heap → Prop} (S : St g L h ρ μ) (T : c.T g) (rm : Rm A n) (F : Fn c k f ds R) (a : EvL c.M A (envOf nm sc L fa cd) h pos (e :: es) ds X)
    (hkn : k ≤ n := by decide) (hR : ∀ h0 h1 v h', Keep h0 h1 → R h1 v h' → R h0 v h' := by first | exact rf_old | exact rl_old)
    (hk : sc.kind = .function := by rfl) (hx : (envOf nm sc L fa cd).kindOf f = some .globalImplicit := by rfl) (hd : (f == ("__debug__" : Str)) = false := by decide)
    (he : pl e = true := by rfl) :
    Ev c.M A (envOf nm sc L fa cd) h (.Call (.Name f p) (e :: es) [] pos) (R h) X := by
  refine ⟨fun s Q E k q x => ?_⟩
  obtain ⟨m, F0, _⟩ := (S.keep k).ex
  obtain ⟨dr, hdr, hn⟩ := F.isDef
  obtain ⟨a', o, pm, cd', doc, h1, h2, h3, h4⟩ := T.fn dr hdr
  rw [hn] at h1
  refine wpAny_Call_NameR (ld_global_at F0 T.g h1 ?_ hk hx hd)
  refine callWith_def h3 (a.seq k (fun vs h' i k' r => ?_) x) (pl_star he)
  refine ⟨k' _ _ (F0.keep _ _ h2), ?_⟩
  have T' : c.T h' := T.keeps fun b o e => k' _ _ (F0.keep b o e)
  exact (F.run A h' vs a' T' (rm.less hkn) h1 r).seq (s := { s with heap := h', toks := i }) Keep.rfl (fun v h2 j k2 r2 => q v h2 j (Keep.trans k' k2) (hR _ _ _ _ (k.trans k') r2)) (fun _ _ _ r => r.elim)
/-- ... a datum comes back -/
theorem ev_calld {k : Nat} {f : Str} {p pos : Pos} {e : Expr} {es : List Expr} {ds : List PyData} {d : PyData} (S : St g L h ρ μ) (T : c.T g) (rm : Rm A n) (F : FnD c k f ds d) (a : EvL c.M A (envOf nm sc L fa cd) h pos (e :: es) ds X)
    (hkn : k ≤ n := by decide)
    (hk : sc.kind = .function := by rfl) (hx : (envOf nm sc L fa cd).kindOf f = some .globalImplicit := by rfl) (hd : (f == ("__debug__" : Str)) = false := by decide)
    (he : pl e = true := by rfl) :
    Ev c.M A (envOf nm sc L fa cd) h (.Call (.Name f p) (e :: es) [] pos) (Rd d) X := (ev_call S T rm F a hkn rf_old hk hx hd he).mono fun _ _ _ r => r.rd
end
end Mine

namespace Mine
open PySem PySem.Spec PySem.Calls PyProof.Rows

theorem pl_plain {pos : Pos} {env : Env} : ∀ {es : List Expr}, es.all pl = true → (backTo pos (starEach es env)).any (·.1) = false
  | [], _ => rfl
  | x :: es, h => by
    simp only [List.all_cons, Bool.and_eq_true] at h
    rw [pl_star h.1]
    show (false || (backTo pos (starEach es env)).any (·.1)) = false
    rw [pl_plain h.2]; rfl
/-- the names that the text does not bind -/
def bnames : List Str := ["isinstance", "int", "bool", "tuple", "list", "str", "len", "abs", "min", "max", "range", "reversed", "ValueError"]
def Bn (c : Cx) : Prop := ∀ x ∈ bnames, c.mg x = none

section
variable {c : Cx} {A : Around} {nm : Str} {sc : Scope} {L fa : Addr} {cd : Value} {g h : Heap} {ρ : Locs} {μ : Mut} {X : Value → Heap → Prop}
theorem ev_bname {x : Str} {pos : Pos} {v : Value} (S : St g L h ρ μ) (T : c.T g) (B : Bn c) (hx : x ∈ bnames) (hv : bootBuiltins x = some v) (hn : x ≠ "__name__" := by decide)
    (hk : sc.kind = .function := by rfl) (hg : (envOf nm sc L fa cd).kindOf x = some .globalImplicit := by rfl) (hd : (x == ("__debug__" : Str)) = false := by decide) :
    Ev c.M A (envOf nm sc L fa cd) h (.Name x pos) (fun v' _ => v' = v) X :=
  EvT.ofS fun s Q E k q => by
    obtain ⟨m, F, _⟩ := (S.keep k).ex
    exact ld_builtin_at F T.g (B x hx) T.b ((T.builtins x hn).trans hv) (q v s.toks rfl) hk hg hd
theorem ev_gname {x : Str} {pos : Pos} {v : Value} (S : St g L h ρ μ) (T : c.T g) (hv : c.mg x = some v)
    (hk : sc.kind = .function := by rfl) (hg : (envOf nm sc L fa cd).kindOf x = some .globalImplicit := by rfl) (hd : (x == ("__debug__" : Str)) = false := by decide) :
    Ev c.M A (envOf nm sc L fa cd) h (.Name x pos) (fun v' _ => v' = v) X :=
  EvT.ofS fun s Q E k q => by
    obtain ⟨m, F, _⟩ := (S.keep k).ex
    exact ld_global_at F T.g hv (q v s.toks rfl) hk hg hd

/-- a built-in function by its name -/
theorem ev_bcall {x : Str} {id : String} {p pos : Pos} {e : Expr} {es : List Expr} {ds : List PyData} {R : Value → Heap → Prop} (S : St g L h ρ μ) (T : c.T g) (B : Bn c) (hx : x ∈ bnames) (hv : bootBuiltins x = some (.builtin id))
    (a : EvL c.M A (envOf nm sc L fa cd) h pos (e :: es) ds X) (o : ∀ vs h', Keep h h' → RdL ds vs h' → EvT c.M A h' (call (.builtin id) vs) R X) (hn : x ≠ "__name__" := by decide)
    (hk : sc.kind = .function := by rfl) (hg : (envOf nm sc L fa cd).kindOf x = some .globalImplicit := by rfl) (hd : (x == ("__debug__" : Str)) = false := by decide)
    (he : pl e = true := by rfl) (hpl : es.all pl = true := by rfl) :
    Ev c.M A (envOf nm sc L fa cd) h (.Call (.Name x p) (e :: es) [] pos) R X := by
  refine ⟨fun s Q E k q x' => ?_⟩
  refine wpAny_Call_NameR ((ev_bname S T B hx hv hn hk hg hd).seq k (fun v h1 i k1 r => ?_) x')
  subst r
  refine callWith_builtin1 ((a.up (k.trans k1)).seq (s := { s with heap := h1, toks := i }) Keep.rfl (fun vs h2 j k2 r2 => ?_) (fun y h2 j r => x' y h2 j r)) (pl_star he) (pl_plain hpl)
  exact (o vs h2 (k.trans (Keep.trans k1 k2)) r2).seq (s := { s with heap := h2, toks := j }) Keep.rfl (fun v h3 j k3 r3 => q v h3 j (Keep.trans k1 (Keep.trans k2 k3)) r3) (fun y h3 j r => x' y h3 j r)
/-- a built-in class by its name -/
theorem ev_tcall {x : Str} {id : String} {p pos : Pos} {e : Expr} {es : List Expr} {ds : List PyData} {R : Value → Heap → Prop} (S : St g L h ρ μ) (T : c.T g) (B : Bn c) (hx : x ∈ bnames) (hv : bootBuiltins x = some (.type id))
    (a : EvL c.M A (envOf nm sc L fa cd) h pos (e :: es) ds X) (o : ∀ vs h', Keep h h' → RdL ds vs h' → EvT c.M A h' (call (.type id) vs) R X) (hn : x ≠ "__name__" := by decide)
    (hk : sc.kind = .function := by rfl) (hg : (envOf nm sc L fa cd).kindOf x = some .globalImplicit := by rfl) (hd : (x == ("__debug__" : Str)) = false := by decide)
    (he : pl e = true := by rfl) (hpl : es.all pl = true := by rfl) :
    Ev c.M A (envOf nm sc L fa cd) h (.Call (.Name x p) (e :: es) [] pos) R X := by
  refine ⟨fun s Q E k q x' => ?_⟩
  refine wpAny_Call_NameR ((ev_bname S T B hx hv hn hk hg hd).seq k (fun v h1 i k1 r => ?_) x')
  subst r
  refine PyProof.Rows.callWith_type1 ((a.up (k.trans k1)).seq (s := { s with heap := h1, toks := i }) Keep.rfl (fun vs h2 j k2 r2 => ?_) (fun y h2 j r => x' y h2 j r)) (pl_star he) (pl_plain hpl)
  exact (o vs h2 (k.trans (Keep.trans k1 k2)) r2).seq (s := { s with heap := h2, toks := j }) Keep.rfl (fun v h3 j k3 r3 => q v h3 j (Keep.trans k1 (Keep.trans k2 k3)) r3) (fun y h3 j r => x' y h3 j r)
end

section
variable {prog : Program} {w : World} {A : Around} {h : Heap} {X : Value → Heap → Prop}
def isiB : PyData → String → Bool
  | .int _, T => T == "int"
  | .bool _, T => T == "bool" || T == "int"
  | .str _, T => T == "str"
  | .none, _ => false
  | .list _, T => T == "list"
  | .tuple _, T => T == "tuple"
  | .dict _, T => T == "dict"
def isiTs : List String := ["int", "bool", "tuple", "list", "str"]
theorem op_isi {d : PyData} {T : String} {v : Value} (hT : T ∈ isiTs) (r : Rd d v h) : EvT (model prog w) A h (call (.builtin "isinstance") [v, .type T]) (Rd (.bool (isiB d T))) X := by
  refine EvT.of fun s Q E k q => ?_
  have qt : ∀ b, Rd (.bool b) (.bool b) s.heap := fun b => ⟨_, .bool _⟩
  obtain ⟨as, r⟩ := r
  simp only [isiTs, List.mem_cons, List.not_mem_nil, or_false] at hT
  cases r with
  | int i t =>
    rcases hT with rfl | rfl | rfl | rfl | rfl
    · exact IsiPair.int_int (q _ s.heap s.toks Keep.rfl (qt _))
    · exact IsiPair.int_bool (q _ s.heap _ Keep.rfl (qt _))
    · exact IsiPair.int_tuple (q _ s.heap _ Keep.rfl (qt _))
    · exact IsiPair.int_list (q _ s.heap _ Keep.rfl (qt _))
    · exact IsiPair.int_str (q _ s.heap _ Keep.rfl (qt _))
  | bool b =>
    rcases hT with rfl | rfl | rfl | rfl | rfl
    · exact IsiPair.bool_int (q _ s.heap s.toks Keep.rfl (qt _))
    · exact IsiPair.bool_bool (q _ s.heap s.toks Keep.rfl (qt _))
    · exact IsiPair.bool_tuple (q _ s.heap _ Keep.rfl (qt _))
    · exact IsiPair.bool_list (q _ s.heap _ Keep.rfl (qt _))
    · exact IsiPair.bool_str (q _ s.heap _ Keep.rfl (qt _))
  | str x t =>
    rcases hT with rfl | rfl | rfl | rfl | rfl
    · exact IsiPair.str_int (q _ s.heap _ Keep.rfl (qt _))
    · exact IsiPair.str_bool (q _ s.heap _ Keep.rfl (qt _))
    · exact IsiPair.str_tuple (q _ s.heap _ Keep.rfl (qt _))
    · exact IsiPair.str_list (q _ s.heap _ Keep.rfl (qt _))
    · exact IsiPair.str_str (q _ s.heap s.toks Keep.rfl (qt _))
  | none =>
    rcases hT with rfl | rfl | rfl | rfl | rfl
    · exact call_isinstance (isinstance_false_none (by decide +kernel) F.isi_meta_int (by kernel_rfl)) (q _ s.heap _ Keep.rfl (qt _))
    · exact call_isinstance (isinstance_false_none (by decide +kernel) F.isi_meta_bool (by kernel_rfl)) (q _ s.heap _ Keep.rfl (qt _))
    · exact call_isinstance (isinstance_false_none (by decide +kernel) F.isi_meta_tuple (by kernel_rfl)) (q _ s.heap _ Keep.rfl (qt _))
    · exact call_isinstance (isinstance_false_none (by decide +kernel) F.isi_meta_list (by kernel_rfl)) (q _ s.heap _ Keep.rfl (qt _))
    · exact call_isinstance (isinstance_false_none (by decide +kernel) F.isi_meta_str (by kernel_rfl)) (q _ s.heap _ Keep.rfl (qt _))
  | list h1 h2 h3 y =>
    rcases hT with rfl | rfl | rfl | rfl | rfl
    · exact IsiPair.list_int (k _ _ h1) h2 (q _ s.heap _ Keep.rfl (qt _))
    · exact IsiPair.list_bool (k _ _ h1) h2 (q _ s.heap _ Keep.rfl (qt _))
    · exact IsiPair.list_tuple (k _ _ h1) h2 (q _ s.heap _ Keep.rfl (qt _))
    · exact IsiPair.list_list (k _ _ h1) h2 (q _ s.heap s.toks Keep.rfl (qt _))
    · exact IsiPair.list_str (k _ _ h1) h2 (q _ s.heap _ Keep.rfl (qt _))
  | tuple h1 h2 h3 y =>
    rcases hT with rfl | rfl | rfl | rfl | rfl
    · exact IsiPair.tuple_int (k _ _ h1) h2 (q _ s.heap _ Keep.rfl (qt _))
    · exact IsiPair.tuple_bool (k _ _ h1) h2 (q _ s.heap _ Keep.rfl (qt _))
    · exact IsiPair.tuple_tuple (k _ _ h1) h2 (q _ s.heap s.toks Keep.rfl (qt _))
    · exact IsiPair.tuple_list (k _ _ h1) h2 (q _ s.heap _ Keep.rfl (qt _))
    · exact IsiPair.tuple_str (k _ _ h1) h2 (q _ s.heap _ Keep.rfl (qt _))
  | dict h1 h2 h3 y z =>
    rcases hT with rfl | rfl | rfl | rfl | rfl
    · exact IsiPair.dict_int (k _ _ h1) h2 (q _ s.heap _ Keep.rfl (qt _))
    · exact IsiPair.dict_bool (k _ _ h1) h2 (q _ s.heap _ Keep.rfl (qt _))
    · exact IsiPair.dict_tuple (k _ _ h1) h2 (q _ s.heap _ Keep.rfl (qt _))
    · exact IsiPair.dict_list (k _ _ h1) h2 (q _ s.heap _ Keep.rfl (qt _))
    · exact IsiPair.dict_str (k _ _ h1) h2 (q _ s.heap _ Keep.rfl (qt _))
theorem op_len {ds : List PyData} {v : Value} (hn : ds.length < 2 ^ 62) (r : Rd (.list ds) v h ∨ Rd (.tuple ds) v h) : EvT (model prog w) A h (call (.builtin "len") [v]) (Rd (.int ds.length)) X := by
  refine EvT.ofS fun s Q E k q => ?_
  rcases r with r | r
  · obtain ⟨a, items, rfl, il, r⟩ := rd_list r
    have e : items.size = ds.length := by have := r.len; simpa using this
    obtain ⟨o, ho, il⟩ := il
    refine PyProof.Rows.len_list (items := items) ⟨o, k _ _ ho, il⟩ (by rw [e]; (first | lia | omega)) ?_
    rw [e]; exact q _ _ ⟨_, .int _ _⟩
  · obtain ⟨a, items, rfl, il, r⟩ := rd_tup r
    have e : items.size = ds.length := by have := r.len; simpa using this
    obtain ⟨o, ho, il⟩ := il
    refine PyProof.Rows.len_tuple (items := items) ⟨o, k _ _ ho, il⟩ (by rw [e]; (first | lia | omega)) ?_
    rw [e]; exact q _ _ ⟨_, .int _ _⟩
theorem op_abs {a : Int} {v : Value} (r : Rd (.int a) v h) : EvT (model prog w) A h (call (.builtin "abs") [v]) (Rd (.int a.natAbs)) X := by
  obtain ⟨t, rfl⟩ := rd_int r
  refine EvT.ofS fun s Q E k q => PyProof.Rows.call_abs_int fun u tk => ?_
  have e : (if a < 0 then -a else a) = (a.natAbs : Int) := by split <;> (first | lia | omega)
  rw [e]; exact q _ _ ⟨_, .int _ _⟩
theorem op_max {a b : Int} {v1 v2 : Value} (hh : A.handled = none) (r1 : Rd (.int a) v1 h) (r2 : Rd (.int b) v2 h) : EvT (model prog w) A h (call (.builtin "max") [v1, v2]) (Rd (.int (max a b))) X := by
  obtain ⟨t, rfl⟩ := rd_int r1; obtain ⟨u, rfl⟩ := rd_int r2
  refine EvT.of fun s Q E k q => max_two_ints hh fun h' tk kk => ?_
  by_cases e : b > a
  · rw [if_pos e]; have e' : max a b = b := by (first | lia | omega)
    rw [e'] at q; exact q _ _ _ kk ⟨_, .int _ _⟩
  · rw [if_neg e]; have e' : max a b = a := by (first | lia | omega)
    rw [e'] at q; exact q _ _ _ kk ⟨_, .int _ _⟩
theorem op_min {a b : Int} {v1 v2 : Value} (hh : A.handled = none) (r1 : Rd (.int a) v1 h) (r2 : Rd (.int b) v2 h) : EvT (model prog w) A h (call (.builtin "min") [v1, v2]) (Rd (.int (min a b))) X := by
  obtain ⟨t, rfl⟩ := rd_int r1; obtain ⟨u, rfl⟩ := rd_int r2
  refine EvT.of fun s Q E k q => min_two_ints hh fun h' tk kk => ?_
  by_cases e : b < a
  · rw [if_pos e]; have e' : min a b = b := by (first | lia | omega)
    rw [e'] at q; exact q _ _ _ kk ⟨_, .int _ _⟩
  · rw [if_neg e]; have e' : min a b = a := by (first | lia | omega)
    rw [e'] at q; exact q _ _ _ kk ⟨_, .int _ _⟩
end
end Mine

namespace Mine
open PySem PySem.Spec PySem.Calls PyProof.Rows

section
variable {prog : Program} {w : World} {A : Around} {env : Env} {h : Heap} {X : Value → Heap → Prop}
/-- an item of a tuple, of a list -/
theorem ev_idx {v i : Expr} {pos : Pos} {ds : List PyData} {k : Int} {d : PyData} (ty : Bool) (e1 : Ev (model prog w) A env h v (Rd (if ty then .tuple ds else .list ds)) X) (e2 : Ev (model prog w) A env h i (Rd (.int k)) X)
    (h0 : 0 ≤ k) (hfit : k < 2 ^ 63) (hx : ds[k.toNat]? = some d)
    (hs : pl i = true := by rfl) :
    Ev (model prog w) A env h (.Subscript v i pos) (Rd d) X := by
  refine ⟨fun s Q E k' q x => ?_⟩
  refine Subscript_ (EvT.two e1 e2 rd_mono (v := fun a b => subscriptTail v i a b) (R' := Rd d) (fun v1 v2 h' kk r1 r2 => ?_) k' q x)
  obtain ⟨u, rfl⟩ := rd_int r2
  cases ty with
  | true =>
    obtain ⟨a, items, rfl, ht, r⟩ := rd_tup r1
    obtain ⟨y, hy, ry⟩ := r.at hx
    obtain ⟨o, ho, ht'⟩ := id ht
    refine EvT.ofS fun s' Q' E' k1 q1 => tail_any (T := "tuple") ⟨o, k1 _ _ ho, ht'.1⟩ slot_tuple_getitem.lookup ?_ (pl_sub hs)
    have hj : seqIndex? k items.size = some k.toNat := by
      have : k.toNat < items.size := by
        have := List.getElem?_eq_some_iff.mp hy
        obtain ⟨h1, _⟩ := this
        simpa using h1
      have h1 : ¬ k < 0 := by (first | lia | omega)
      have h2 : k < (items.size : Int) := by (first | lia | omega)
      simp [seqIndex?, h1, h0, h2]
    exact getItem_tuple (items := items) (j := k.toNat) ⟨o, k1 _ _ ho, ht'⟩ (by (first | lia | omega)) hfit hj (by simpa using hy) (q1 _ s'.toks (ry.keep k1))
  | false =>
    obtain ⟨a, items, rfl, ht, r⟩ := rd_list r1
    obtain ⟨y, hy, ry⟩ := r.at hx
    obtain ⟨o, ho, ht'⟩ := id ht
    refine EvT.ofS fun s' Q' E' k1 q1 => tail_any (T := "list") ⟨o, k1 _ _ ho, ht'.1⟩ slot_list_getitem.lookup ?_ (pl_sub hs)
    exact wpAny_getItem_list (items := items) ⟨o, k1 _ _ ho, ht'⟩ h0 hfit (by simpa using hy) (q1 _ s'.toks (ry.keep k1))
theorem ev_tidx {v i : Expr} {pos : Pos} {ds : List PyData} {k : Int} {d : PyData} (e1 : Ev (model prog w) A env h v (Rd (.tuple ds)) X) (e2 : Ev (model prog w) A env h i (Rd (.int k)) X)
    (hx : ds[k.toNat]? = some d := by rfl) (h0 : 0 ≤ k := by decide) (hfit : k < 2 ^ 63 := by decide)
    (hs : pl i = true := by rfl) :
    Ev (model prog w) A env h (.Subscript v i pos) (Rd d) X := ev_idx true e1 e2 h0 hfit hx hs
theorem ev_lidx {v i : Expr} {pos : Pos} {ds : List PyData} {k : Int} {d : PyData} (e1 : Ev (model prog w) A env h v (Rd (.list ds)) X) (e2 : Ev (model prog w) A env h i (Rd (.int k)) X)
    (hx : ds[k.toNat]? = some d) (h0 : 0 ≤ k) (hfit : k < 2 ^ 63)
    (hs : pl i = true := by rfl) :
    Ev (model prog w) A env h (.Subscript v i pos) (Rd d) X := ev_idx false e1 e2 h0 hfit hx hs

theorem ev_div {l r : Expr} {pos : Pos} {a b : Int} (e1 : Ev (model prog w) A env h l (Rd (.int a)) X) (e2 : Ev (model prog w) A env h r (Rd (.int b)) X) (hb : 0 < b) (hs : b < 10 ^ 250) :
    Ev (model prog w) A env h (.BinOp l .FloorDiv r pos) (Rd (.int (a / b))) X := ev_bin e1 e2 fun v1 v2 h' k r1 r2 => by
  obtain ⟨t, rfl⟩ := rd_int r1; obtain ⟨u, rfl⟩ := rd_int r2
  refine EvT.ofS fun _ _ _ _ q => PyProof.Rows.floordiv_int (by (first | lia | omega)) ?_ (.inl (PyProof.noPylong_of_log2 ?_))
  · rw [Int.fdiv_eq_ediv_of_nonneg _ (by (first | lia | omega))]
    exact q _ _ ⟨_, .int _ _⟩
  · have h1 : b.natAbs < 10 ^ 250 := by (first | lia | omega)
    have h2 : (10 : Nat) ^ 250 ≤ 2 ^ 9000 := by decide +kernel
    have h3 : b.natAbs ≠ 0 := by (first | lia | omega)
    exact (Nat.log2_lt h3).mpr (Nat.lt_of_lt_of_le h1 h2)
theorem ev_pow {l r : Expr} {pos : Pos} {a n : Int} (e1 : Ev (model prog w) A env h l (Rd (.int a)) X) (e2 : Ev (model prog w) A env h r (Rd (.int n)) X) (hn : 0 ≤ n) (hn2 : n ≤ 1000000) (ha : a.natAbs < 2 ^ 64) :
    Ev (model prog w) A env h (.BinOp l .Pow r pos) (Rd (.int (a ^ n.toNat))) X := ev_bin e1 e2 fun v1 v2 h' k r1 r2 => by
  obtain ⟨t, rfl⟩ := rd_int r1; obtain ⟨u, rfl⟩ := rd_int r2
  exact EvT.ofS fun _ _ _ _ q => PyProof.Rows.pow_int_small hn hn2 ha (q _ _ ⟨_, .int _ _⟩)

/-- == and != of data -/
theorem ev_eq {l r : Expr} {pos : Pos} {d1 d2 : PyData} {n : Nat} (rm : Rm A n) (e1 : Ev (model prog w) A env h l (Rd d1) X) (e2 : Ev (model prog w) A env h r (Rd d2) X) (h1 : SeqAt.shaped d1 = true) (h2 : SeqAt.shaped d2 = true)
    (hm : pl r = true := by rfl) : Ev (model prog w) A env h (.Compare l [.Eq] [r] pos) (Rd (.bool (PyData.eqv d1 d2))) X :=
  ev_cmp e1 e2 (fun v1 v2 h' _ r1 r2 => by
    obtain ⟨as, x⟩ := r1; obtain ⟨bs, y⟩ := r2
    exact EvT.ofS fun s _ _ k q => eq_dataH (PyProof.Rows.Reads.keeps k x) (PyProof.Rows.Reads.keeps k y) h1 h2 (by have := rm.un; (first | lia | omega)) (q _ s.toks ⟨_, .bool _⟩)) hm
theorem tr_eq {l r : Expr} {pos : Pos} {d1 d2 : PyData} {n : Nat} (rm : Rm A n) (e1 : Ev (model prog w) A env h l (Rd d1) X) (e2 : Ev (model prog w) A env h r (Rd d2) X) (h1 : SeqAt.shaped d1 = true) (h2 : SeqAt.shaped d2 = true)
    (hm : pl r = true := by rfl) : Tr (model prog w) A env h (.Compare l [.Eq] [r] pos) (PyData.eqv d1 d2) X :=
  tr_cmp e1 e2 (fun v1 v2 h' _ r1 r2 => by
    obtain ⟨as, x⟩ := r1; obtain ⟨bs, y⟩ := r2
    exact EvT.ofS fun s _ _ k q => eq_dataH (PyProof.Rows.Reads.keeps k x) (PyProof.Rows.Reads.keeps k y) h1 h2 (by have := rm.un; (first | lia | omega)) (q _ s.toks ⟨_, .bool _⟩)) hm
theorem tr_ne {l r : Expr} {pos : Pos} {d1 d2 : PyData} {n : Nat} (rm : Rm A n) (e1 : Ev (model prog w) A env h l (Rd d1) X) (e2 : Ev (model prog w) A env h r (Rd d2) X) (h1 : SeqAt.shaped d1 = true) (h2 : SeqAt.shaped d2 = true)
    (hm : pl r = true := by rfl) : Tr (model prog w) A env h (.Compare l [.NotEq] [r] pos) (!PyData.eqv d1 d2) X :=
  tr_cmp e1 e2 (fun v1 v2 h' _ r1 r2 => by
    obtain ⟨as, x⟩ := r1; obtain ⟨bs, y⟩ := r2
    exact EvT.ofS fun s _ _ k q => ne_dataH (PyProof.Rows.Reads.keeps k x) (PyProof.Rows.Reads.keeps k y) h1 h2 (by have := rm.un; (first | lia | omega)) (q _ s.toks ⟨_, .bool _⟩)) hm
end

section
variable {c : Cx} {n : Nat} {A : Around} {nm : Str} {sc : Scope} {L fa : Addr} {cd : Value} {g h : Heap} {ρ : Locs} {μ : Mut} {X : Value → Heap → Prop}
theorem ev_isi {T : String} {e : Expr} {p p2 pos : Pos} {d : PyData} (S : St g L h ρ μ) (Tp : c.T g) (B : Bn c) (e1 : Ev c.M A (envOf nm sc L fa cd) h e (Rd d) X) (hx : Str.ofString T ∈ bnames := by decide) (hv : bootBuiltins (Str.ofString T) = some (.type T) := by decide +kernel) (hT : T ∈ isiTs := by decide)
    (hk : sc.kind = .function := by rfl) (hg : (envOf nm sc L fa cd).kindOf (Str.ofString T) = some .globalImplicit := by rfl) (hgi : (envOf nm sc L fa cd).kindOf (Str.ofString "isinstance") = some .globalImplicit := by rfl) (hn : Str.ofString T ≠ "__name__" := by decide) (hd : (Str.ofString T == ("__debug__" : Str)) = false := by decide)
    (he : pl e = true := by rfl) :
    Ev c.M A (envOf nm sc L fa cd) h (.Call (.Name (Str.ofString "isinstance") p) [e, .Name (Str.ofString T) p2] [] pos) (Rd (.bool (isiB d T))) X := by
  refine ⟨fun s Q E k q x' => ?_⟩
  refine wpAny_Call_NameR ((ev_bname (v := .builtin "isinstance") S Tp B (by decide) (by decide +kernel) (by decide) hk hgi (by decide)).seq k (fun v h1 i k1 r => ?_) x')
  subst r
  refine callWith_builtin1 ?_ (pl_star he) rfl
  refine args_cons ((e1.up (k.trans k1)).seq (s := { s with heap := h1, toks := i }) Keep.rfl (fun v h2 j k2 r2 => ?_) (fun y h2 j r => x' y h2 j r)) (pl_star he)
  refine args_cons (((ev_bname (pos := p2) S Tp B hx hv hn hk hg hd).up (k.trans (Keep.trans k1 k2))).seq (s := { s with heap := h2, toks := j }) Keep.rfl (fun v3 h3 j3 k3 r3 => ?_) (fun y h2 j r => x' y h2 j r)) rfl
  subst r3
  refine args_nil ?_
  exact (op_isi hT (r2.keep k3)).seq (s := { s with heap := h3, toks := j3 }) Keep.rfl (fun c h4 j4 k4 r4 => q c h4 j4 (Keep.trans k1 (Keep.trans k2 (Keep.trans k3 k4))) r4) (fun y h3 j r => x' y h3 j r)
end
end Mine

namespace Mine
open PySem PySem.Spec PySem.Calls PyProof.Rows

section
variable {prog : Program} {w : World} {A : Around} {nm : Str} {sc : Scope} {L fa : Addr} {cd : Value} {g h : Heap} {ρ : Locs} {μ : Mut} {X : Value → Heap → Prop} {Ws : List Addr} {P : Flow → Heap → Prop} {rest : List Stmt}

theorem keep_fresh {h h' : Heap} (e : Heap.ExtBut h.objs.size h h') : Keep h h' := fun b o hb => e b o (Nat.ne_of_lt (Heap.lt_size hb)) hb
theorem kp_ext {a : Addr} {h h' : Heap} (e : Heap.ExtBut a h h') : Kp [a] h h' := fun b o n hb => e b o (by simpa using n) hb

theorem st_name {x : Str} {v : Value} {d : PyData} {s : Shared} {Q : Unit → Shared → Prop} {E : Value → Shared → Prop} (S : St g L s.heap ρ μ) (r : Rd d v s.heap) (hf : flat d = true) (hμ : ∀ q, μ = some q → q.1 ≠ x)
    (q : ∀ h' k, Kp [L] s.heap h' → St g L h' ((x, d) :: ρ) μ → Q () { s with heap := h', toks := k })
    (hk : sc.kind = .function) (hl : (envOf nm sc L fa cd).kindOf x = some .local) : wpAny (model prog w) A (storeName (envOf nm sc L fa cd) x v) Q E s := by
  obtain ⟨m, F, hr, hm⟩ := S.ex
  obtain ⟨as, r⟩ := r
  have e := flat_nil hf r
  subst e
  refine wpAny_storeName_local hl F.ns (fun h' hn hsb => ?_) (by show (sc.kind == .class || (sc.kind == .module && L != mainGlobals)) = false; rw [hk]; rfl)
  exact q h' _ (kp_same hsb) (S.store hμ F r List.not_mem_nil (fun _ _ => List.not_mem_nil) hn hsb)

/-- a pair handed to two names -/
theorem assign2 {x y : Str} {px py tp : Pos} {n : Nat} {v : Value} {d1 d2 : PyData} {s : Shared} {Q : Unit → Shared → Prop} {E : Value → Shared → Prop} (hh : A.handled = none) (S : St g L s.heap ρ μ) (r : Rd (.tuple [d1, d2]) v s.heap)
    (h1 : flat d1 = true) (h2 : flat d2 = true) (hx : ∀ q, μ = some q → q.1 ≠ x) (hy : ∀ q, μ = some q → q.1 ≠ y)
    (q : ∀ h' k, Kp [L] s.heap h' → St g L h' ((y, d2) :: (x, d1) :: ρ) μ → Q () { s with heap := h', toks := k })
    (hk : sc.kind = .function) (hlx : (envOf nm sc L fa cd).kindOf x = some .local) (hly : (envOf nm sc L fa cd).kindOf y = some .local) :
    wpAny (model prog w) A (assign (.Tuple [.Name x px, .Name y py] n tp) (envOf nm sc L fa cd) v) Q E s := by
  obtain ⟨a, items, rfl, ht, r⟩ := rd_tup r
  obtain ⟨v1, r', e1, r1, r'⟩ := r.uncons
  obtain ⟨v2, r'', e2, r2, r''⟩ := r'.uncons
  have e3 := r''.unnil
  subst e3; subst e2
  refine wpAny_assign_Tuple hh ht (by rw [← Array.length_toList, e1]; rfl) rfl (fun h' he => ?_)
  have kk := keep_fresh he
  rw [e1]
  refine wpAny_assignInOrder_more (PyProof.Rows.assign_Name (st_name (s := { s with heap := h' }) (S.keep kk) (r1.keep kk) h1 hx (fun h2' k2 kp2 S2 => ?_) hk hlx))
  have r2' : Rd d2 v2 h2' := by
    obtain ⟨as, z⟩ := r2.keep kk
    have e := flat_nil h2 z
    subst e
    obtain ⟨m, F, _⟩ := (S.keep kk).ex
    exact ⟨_, reads_kp kp2 (fun a ha => by rw [List.mem_singleton] at ha; subst ha; exact .inr ⟨List.not_mem_nil, noTup_L F⟩) z⟩
  refine wpAny_assignInOrder_more (PyProof.Rows.assign_Name (st_name (s := { s with heap := h2', toks := k2 }) S2 r2' h2 hy (fun h3 k3 kp3 S3 => ?_) hk hly))
  exact wpAny_assignInOrder_none (q h3 k3 ((kk.kp.trans kp2).trans kp3) S3)
theorem run_unpack2 {x y : Str} {px py tp pos : Pos} {n : Nat} {e : Expr} {d1 d2 : PyData} (hh : A.handled = none) (S : St g L h ρ μ) (ev : Ev (model prog w) A (envOf nm sc L fa cd) h e (Rd (.tuple [d1, d2])) X)
    (k : ∀ h', St g L h' ((y, d2) :: (x, d1) :: ρ) μ → Run (model prog w) A (envOf nm sc L fa cd) Ws rest h' P X) (h1 : flat d1 = true := by rfl) (h2 : flat d2 = true := by rfl)
    (hx : ∀ q, μ = some q → q.1 ≠ x := by intro q e; first | (cases e; done) | (cases e; dsimp only; decide)) (hy : ∀ q, μ = some q → q.1 ≠ y := by intro q e; first | (cases e; done) | (cases e; dsimp only; decide))
    (hk : sc.kind = .function := by rfl) (hlx : (envOf nm sc L fa cd).kindOf x = some .local := by rfl) (hly : (envOf nm sc L fa cd).kindOf y = some .local := by rfl)
    (hs : swapsWithSole [.Tuple [.Name x px, .Name y py] n tp] e pos.line (envOf nm sc L fa cd) = pure false := by rfl) (hw : swappedStores [.Tuple [.Name x px, .Name y py] n tp] e (envOf nm sc L fa cd) = pure none := by rfl) :
    Run (model prog w) A (envOf nm sc L fa cd) Ws (.Assign [.Tuple [.Name x px, .Name y py] n tp] e pos :: rest) h P X := by
  refine ⟨fun s Q E e po q x' => ?_⟩; subst e
  refine wpAny_execs_cons (Assign_Tuple (ev.go s _ E Keep.rfl (fun v h1' i k1 r => ?_) x') hs hw)
  refine assign2 (s := { s with heap := h1', toks := i }) hh (S.keep k1) r h1 h2 hx hy (fun h' k' kp S' => ?_) hk hlx hly
  exact (k h' S').go _ Q E rfl po (fun fl h2 j kp' p => q fl h2 j ((k1.kp.trans (kp.mono fun b hb => by rw [List.mem_singleton] at hb; subst hb; exact .head _)).trans kp') p) (fun y h2 j r => x' y h2 j r)
/-- a triple handed to three names -/
theorem run_unpack3 {x y z : Str} {px py pz tp pos : Pos} {n : Nat} {e : Expr} {d1 d2 d3 : PyData} (hh : A.handled = none) (S : St g L h ρ μ) (ev : Ev (model prog w) A (envOf nm sc L fa cd) h e (Rd (.tuple [d1, d2, d3])) X)
    (k : ∀ h', St g L h' ((z, d3) :: (y, d2) :: (x, d1) :: ρ) μ → Run (model prog w) A (envOf nm sc L fa cd) Ws rest h' P X) (h1 : flat d1 = true := by rfl) (h2 : flat d2 = true := by rfl) (h3 : flat d3 = true := by rfl)
    (hx : ∀ q, μ = some q → q.1 ≠ x := by intro q e; first | (cases e; done) | (cases e; dsimp only; decide)) (hy : ∀ q, μ = some q → q.1 ≠ y := by intro q e; first | (cases e; done) | (cases e; dsimp only; decide))
    (hz : ∀ q, μ = some q → q.1 ≠ z := by intro q e; first | (cases e; done) | (cases e; dsimp only; decide))
    (hk : sc.kind = .function := by rfl) (hlx : (envOf nm sc L fa cd).kindOf x = some .local := by rfl) (hly : (envOf nm sc L fa cd).kindOf y = some .local := by rfl) (hlz : (envOf nm sc L fa cd).kindOf z = some .local := by rfl)
    (hs : swapsWithSole [.Tuple [.Name x px, .Name y py, .Name z pz] n tp] e pos.line (envOf nm sc L fa cd) = pure false := by rfl) (hw : swappedStores [.Tuple [.Name x px, .Name y py, .Name z pz] n tp] e (envOf nm sc L fa cd) = pure none := by rfl) :
    Run (model prog w) A (envOf nm sc L fa cd) Ws (.Assign [.Tuple [.Name x px, .Name y py, .Name z pz] n tp] e pos :: rest) h P X := by
  refine ⟨fun s Q E e po q x' => ?_⟩; subst e
  refine wpAny_execs_cons (Assign_Tuple (ev.go s _ E Keep.rfl (fun v h1' i k1 r => ?_) x') hs hw)
  obtain ⟨a, items, rfl, ht, r⟩ := rd_tup r
  obtain ⟨v1, r', e1, r1, r'⟩ := r.uncons
  obtain ⟨v2, r'', e2, r2, r''⟩ := r'.uncons
  obtain ⟨v3, r3', e3, r3, r3'⟩ := r''.uncons
  have e4 := r3'.unnil
  subst e4; subst e3; subst e2
  refine wpAny_assign_Tuple (s := { s with heap := h1', toks := i }) hh ht (by rw [← Array.length_toList, e1]; rfl) rfl (fun h' he => ?_)
  have kk := keep_fresh he
  rw [e1]
  have S1 := (S.keep k1).keep kk
  have stab : ∀ {d : PyData} {v : Value} {ha hb : Heap} {ρ' : Locs}, flat d = true → St g L ha ρ' μ → Kp [L] ha hb → Rd d v ha → Rd d v hb := by
    intro d v ha hb ρ' hf Sa kp r
    obtain ⟨as, z⟩ := r
    have e := flat_nil hf z
    subst e
    obtain ⟨m, F, _⟩ := Sa.ex
    exact ⟨_, reads_kp kp (fun a ha => by rw [List.mem_singleton] at ha; subst ha; exact .inr ⟨List.not_mem_nil, noTup_L F⟩) z⟩
  refine wpAny_assignInOrder_more (PyProof.Rows.assign_Name (st_name (s := { s with heap := h', toks := i }) S1 (r1.keep kk) h1 hx (fun h2' k2 kp2 S2 => ?_) hk hlx))
  refine wpAny_assignInOrder_more (PyProof.Rows.assign_Name (st_name (s := { s with heap := h2', toks := k2 }) S2 (stab h2 S1 kp2 (r2.keep kk)) h2 hy (fun h3' k3 kp3 S3 => ?_) hk hly))
  refine wpAny_assignInOrder_more (PyProof.Rows.assign_Name (st_name (s := { s with heap := h3', toks := k3 }) S3 (stab h3 S2 kp3 (stab h3 S1 kp2 (r3.keep kk))) h3 hz (fun h4 k4 kp4 S4 => ?_) hk hlz))
  refine wpAny_assignInOrder_none ?_
  have kpA : Kp (L :: Ws) s.heap h4 := (k1.kp.trans (((kk.kp.trans kp2).trans kp3).trans kp4 |>.mono fun b hb => by rw [List.mem_singleton] at hb; subst hb; exact .head _))
  exact (k h4 S4).go _ Q E rfl po (fun fl h2 j kp' p => q fl h2 j (kpA.trans kp') p) (fun y h2 j r => x' y h2 j r)
/-- x, y = e1, e2: the stores go from behind -/
theorem run_swap2 {x y : Str} {px py tp pos vp : Pos} {n n' : Nat} {es : List Expr} {d1 d2 : PyData} (hh : A.handled = none) (S : St g L h ρ μ) (ev : EvL (model prog w) A (envOf nm sc L fa cd) h vp es [d1, d2] X)
    (k : ∀ h', St g L h' ((x, d1) :: (y, d2) :: ρ) μ → Run (model prog w) A (envOf nm sc L fa cd) Ws rest h' P X) (h1 : flat d1 = true := by rfl) (h2 : flat d2 = true := by rfl)
    (hx : ∀ q, μ = some q → q.1 ≠ x := by intro q e; first | (cases e; done) | (cases e; dsimp only; decide)) (hy : ∀ q, μ = some q → q.1 ≠ y := by intro q e; first | (cases e; done) | (cases e; dsimp only; decide))
    (hk : sc.kind = .function := by rfl) (hlx : (envOf nm sc L fa cd).kindOf x = some .local := by rfl) (hly : (envOf nm sc L fa cd).kindOf y = some .local := by rfl)
    (hs : swapsWithSole [.Tuple [.Name x px, .Name y py] n tp] (.Tuple es n' vp) pos.line (envOf nm sc L fa cd) = pure false := by rfl) (hw : swappedStores [.Tuple [.Name x px, .Name y py] n tp] (.Tuple es n' vp) (envOf nm sc L fa cd) = pure (some [x, y]) := by rfl) :
    Run (model prog w) A (envOf nm sc L fa cd) Ws (.Assign [.Tuple [.Name x px, .Name y py] n tp] (.Tuple es n' vp) pos :: rest) h P X := by
  refine ⟨fun s Q E e po q x' => ?_⟩; subst e
  refine wpAny_execs_cons (Assign_Tuple_swapped (names := [x, y]) ((ev_tup ev).go s _ E Keep.rfl (fun v h1' i k1 r => ?_) x') hs hw)
  obtain ⟨a, items, rfl, ht, r⟩ := rd_tup r
  obtain ⟨v1, r', e1, r1, r'⟩ := r.uncons
  obtain ⟨v2, r'', e2, r2, r''⟩ := r'.uncons
  have e3 := r''.unnil
  subst e3; subst e2
  have hsz : ([x, y] : List Str).length = items.size := by rw [← Array.length_toList, e1]; rfl
  rw [hsz]
  refine wpAny_unpackItems_tuple (s := { s with heap := h1', toks := i }) hh ht (fun h' he => ?_)
  have kk := keep_fresh he
  rw [e1]
  refine wpAny_assignInOrder_more (wpAny_bindName (st_name (s := { s with heap := h', toks := i }) ((S.keep k1).keep kk) (r2.keep kk) h2 hy (fun h2' k2 kp2 S2 => ?_) hk hly))
  have r1' : Rd d1 v1 h2' := by
    obtain ⟨as, z⟩ := r1.keep kk
    have e := flat_nil h1 z
    subst e
    obtain ⟨m, F, _⟩ := ((S.keep k1).keep kk).ex
    exact ⟨_, reads_kp kp2 (fun a ha => by rw [List.mem_singleton] at ha; subst ha; exact .inr ⟨List.not_mem_nil, noTup_L F⟩) z⟩
  refine wpAny_assignInOrder_more (wpAny_bindName (st_name (s := { s with heap := h2', toks := k2 }) S2 r1' h1 hx (fun h3 k3 kp3 S3 => ?_) hk hlx))
  refine wpAny_assignInOrder_none ?_
  have kpA : Kp (L :: Ws) s.heap h3 := (k1.kp.trans ((kk.kp.trans kp2).trans kp3 |>.mono fun b hb => by rw [List.mem_singleton] at hb; subst hb; exact .head _))
  exact (k h3 S3).go _ Q E rfl po (fun fl h2 j kp' p => q fl h2 j (kpA.trans kp') p) (fun y h2 j r => x' y h2 j r)
end

/-- an iterator that is at its i-th thing -/
structure Itr (prog : Program) (w : World) (A : Around) (W : List Addr) (it : Addr) (ds : List PyData) (I : Nat → Heap → Prop) : Prop where
  item : ∀ {i d} {s : Shared} {Q : Option Value → Shared → Prop} {E : Value → Shared → Prop}, ds[i]? = some d → I i s.heap →
    (∀ v h' k, I (i + 1) h' → Kp [it] s.heap h' → Rd d v h' → Q (some v) { s with heap := h', toks := k }) → wpAny (model prog w) A (pyNext (.ref it)) Q E s
  stop : ∀ {s : Shared} {Q : Option Value → Shared → Prop} {E : Value → Shared → Prop}, I ds.length s.heap →
    (∀ h' k, Kp [it] s.heap h' → Q none { s with heap := h', toks := k }) → wpAny (model prog w) A (pyNext (.ref it)) Q E s
  stay : ∀ {i h h'}, I i h → Kp W h h' → I i h'
  odd : ∀ {i h}, I i h → Odd it h ∧ ∃ o, h.get? it = some o
  go : ∀ {i} {s : Shared} {elts x1 pos T} {Q : Unit → Shared → Prop} {E : Value → Shared → Prop}, I i s.heap → Q () s → wpAny (model prog w) A (letOwnedTupleGo (.Tuple elts x1 pos) (.ref it) (.ref T)) Q E s
/-- what a for goes over -/
def Iter (prog : Program) (w : World) (A : Around) (env : Env) (W : List Addr) (h : Heap) (e : Expr) (ds : List PyData) (X : Value → Heap → Prop) : Prop :=
  ∀ (s : Shared) (Q : Value → Shared → Prop) (E : Value → Shared → Prop), Keep h s.heap →
    (∀ it I h' k, Keep s.heap h' → Itr prog w A W it ds I → I 0 h' → s.heap.get? it = none → Q (.ref it) { s with heap := h', toks := k }) →
    (∀ x h' k, X x h' → E x { s with heap := h', toks := k }) →
    wpAny (model prog w) A (eval e env) (fun x s₁ => wpAny (model prog w) A (pyIter x) Q E s₁) E s

section
variable {prog : Program} {w : World} {A : Around} {nm : Str} {sc : Scope} {L fa : Addr} {cd : Value} {g h : Heap} {ρ : Locs} {μ : Mut} {X : Value → Heap → Prop} {Ws : List Addr} {P : Flow → Heap → Prop} {rest : List Stmt}

/-- the loop, whatever the target -/
theorem run_forG {target : Expr} {iter : Expr} {body : List Stmt} {pos : Pos} {ds : List PyData} (J : Nat → Locs → Mut → Prop) (S : St g L h ρ μ) (it : Iter prog w A (envOf nm sc L fa cd) (L :: Ws) h iter ds X) (j0 : J 0 ρ μ)
    (hold : ∀ b ∈ L :: Ws, ∃ o, h.get? b = some o)
    (asg : ∀ {i d ρ μ} {s : Shared} {Q : Unit → Shared → Prop} {E : Value → Shared → Prop} {it' : Addr} {I : Nat → Heap → Prop} {v : Value}, ds[i]? = some d → J i ρ μ → St g L s.heap ρ μ → Rd d v s.heap → Itr prog w A (L :: Ws) it' ds I → I (i + 1) s.heap →
      (∀ h' k, Kp [L] s.heap h' → (Run (model prog w) A (envOf nm sc L fa cd) Ws body h' (fun fl h2 => match fl with
        | .next | .cont => ∃ ρ' μ', J (i + 1) ρ' μ' ∧ St g L h2 ρ' μ'
        | .brk => Run (model prog w) A (envOf nm sc L fa cd) Ws rest h2 P X
        | .ret v => P (.ret v) h2) X) → Q () { s with heap := h', toks := k }) →
      wpAny (model prog w) A (letOwnedTupleGo target (.ref it') v) (fun _ s' => wpAny (model prog w) A (assign target (envOf nm sc L fa cd) v) Q E s') E s)
    (fin : ∀ ρ μ h, J ds.length ρ μ → St g L h ρ μ → Run (model prog w) A (envOf nm sc L fa cd) Ws rest h P X)
    (hs : pl iter = true := by rfl) :
    Run (model prog w) A (envOf nm sc L fa cd) Ws (.For target iter body [] pos :: rest) h P X := by
  refine ⟨fun s Q E e po q x => ?_⟩; subst e
  refine wpAny_execs_cons (wpAny_For (it s _ E Keep.rfl (fun it' I h1 k1 kk hit hI hnew => ?_) x) (pl_fold hs))
  have hitW : ∀ b ∈ L :: Ws, b ≠ it' := fun b hb e => by
    obtain ⟨o, ho⟩ := hold b hb
    subst e; rw [hnew] at ho; cases ho
  have hg : g.get? it' = none := S.frK.none hnew
  -- what changes at the iterator alone was not there before
  have goOn : ∀ h3, Kp (it' :: L :: Ws) s.heap h3 → Run (model prog w) A (envOf nm sc L fa cd) Ws rest h3 P X → ∀ k3, wpAny (model prog w) A (execs rest (envOf nm sc L fa cd)) Q E { s with heap := h3, toks := k3 } := by
    intro h3 kp3 r k3
    refine r.go _ Q E rfl po (fun fl h4 k4 kp4 p => q fl h4 k4 ?_ p) (fun y h4 k4 r => x y h4 k4 r)
    intro b o nb eb
    refine kp4 b o nb (kp3 b o (fun hb => ?_) eb)
    cases hb with
    | head => rw [hnew] at eb; cases eb
    | tail _ hb => exact nb hb
  refine codeAny_forLoop_any (I := fun n s' => ∃ i h' k ρ μ, n = ds.length - i ∧ i ≤ ds.length ∧ s' = { s with heap := h', toks := k } ∧ Kp (it' :: L :: Ws) s.heap h' ∧ I i h' ∧ J i ρ μ ∧ St g L h' ρ μ) (fun n s' hI' => ?_) ds.length
    ⟨0, h1, k1, ρ, μ, rfl, Nat.zero_le _, rfl, kk.kp, hI, j0, S.keep kk⟩
  obtain ⟨i, h2, k2, ρ2, μ2, rfl, hi, rfl, kp2, hI2, hJ2, S2⟩ := hI'
  have kpIt : ∀ {ha hb : Heap}, Kp (it' :: L :: Ws) s.heap ha → Kp [it'] ha hb → Kp (it' :: L :: Ws) s.heap hb := fun k1 k2 => k1.trans (k2.mono fun b hb => by rw [List.mem_singleton] at hb; subst hb; exact .head _)
  by_cases hlt : i < ds.length
  · have hd : ds[i]? = some ds[i] := List.getElem?_eq_getElem hlt
    refine hit.item (s := { s with heap := h2, toks := k2 }) hd hI2 (fun v h3 k3 hI3 kp3 r3 => ?_)
    have S3 : St g L h3 ρ2 μ2 := S2.odd (hit.odd hI2).1 (hit.odd hI2).2 hg kp3
    refine wpAny_mono (asg (s := { s with heap := h3, toks := k3 }) hd hJ2 S3 r3 hit hI3 (Q := fun _ s' => ∃ h4 k4, s' = { s with heap := h4, toks := k4 } ∧ Kp [L] h3 h4 ∧ Run (model prog w) A (envOf nm sc L fa cd) Ws body h4 (fun fl h2 => match fl with
        | .next | .cont => ∃ ρ' μ', J (i + 1) ρ' μ' ∧ St g L h2 ρ' μ'
        | .brk => Run (model prog w) A (envOf nm sc L fa cd) Ws rest h2 P X
        | .ret v => P (.ret v) h2) X) (E := E) (fun h4 k4 kp4 R4 => ⟨h4, k4, rfl, kp4, R4⟩)) (fun _ s' hs' => wpAny_mono hs' (fun _ s'' hq => ?_) po) po
    obtain ⟨h4, k4, rfl, kp4, R4⟩ := hq
    have hI4 : I (i + 1) h4 := hit.stay hI3 (kp4.mono fun b hb => by rw [List.mem_singleton] at hb; subst hb; exact .head _)
    have kpA : Kp (it' :: L :: Ws) s.heap h4 := (kpIt kp2 kp3).trans (kp4.mono fun b hb => by rw [List.mem_singleton] at hb; subst hb; exact .tail _ (.head _))
    refine wpAny_passesOwn po (R4.go _ _ (E) rfl po (fun fl h5 k5 kp5 p => ?_) (fun y h2 j r => x y h2 j r))
    have kpB : Kp (it' :: L :: Ws) s.heap h5 := kpA.trans (kp5.mono fun b hb => .tail _ hb)
    have kpC : Kp (L :: Ws) s.heap h5 := fun b o nb eb => kpB b o (fun hb => by
      cases hb with
      | head => rw [hnew] at eb; cases eb
      | tail _ hb => exact nb hb) eb
    cases fl with
    | next => obtain ⟨ρ', μ', hJ', S'⟩ := p; exact ⟨ds.length - (i + 1), by (first | lia | omega), i + 1, h5, k5, ρ', μ', rfl, by (first | lia | omega), rfl, kpB, hit.stay hI4 kp5, hJ', S'⟩
    | cont => obtain ⟨ρ', μ', hJ', S'⟩ := p; exact ⟨ds.length - (i + 1), by (first | lia | omega), i + 1, h5, k5, ρ', μ', rfl, by (first | lia | omega), rfl, kpB, hit.stay hI4 kp5, hJ', S'⟩
    | brk => exact goOn h5 kpB p k5
    | ret v => exact q _ _ _ kpC p
  · have e : i = ds.length := by (first | lia | omega)
    subst e
    refine hit.stop (s := { s with heap := h2, toks := k2 }) hI2 (fun h3 k3 kp3 => ?_)
    have S3 : St g L h3 ρ2 μ2 := S2.odd (hit.odd hI2).1 (hit.odd hI2).2 hg kp3
    exact wpAny_execs_nil (goOn h3 (kpIt kp2 kp3) (fin ρ2 μ2 h3 hJ2 S3) k3)

/-- for x in .. -/
theorem run_for {x : Str} {px : Pos} {iter : Expr} {body : List Stmt} {pos : Pos} {ds : List PyData} (J : Nat → Locs → Mut → Prop) (S : St g L h ρ μ) (it : Iter prog w A (envOf nm sc L fa cd) (L :: Ws) h iter ds X) (j0 : J 0 ρ μ)
    (hold : ∀ b ∈ L :: Ws, ∃ o, h.get? b = some o)
    (step : ∀ i d ρ μ h, ds[i]? = some d → J i ρ μ → St g L h ((x, d) :: ρ) μ → Run (model prog w) A (envOf nm sc L fa cd) Ws body h (fun fl h2 => match fl with
        | .next | .cont => ∃ ρ' μ', J (i + 1) ρ' μ' ∧ St g L h2 ρ' μ'
        | .brk => Run (model prog w) A (envOf nm sc L fa cd) Ws rest h2 P X
        | .ret v => P (.ret v) h2) X)
    (fin : ∀ ρ μ h, J ds.length ρ μ → St g L h ρ μ → Run (model prog w) A (envOf nm sc L fa cd) Ws rest h P X)
    (hf : ∀ d ∈ ds, flat d = true) (hμ : ∀ i ρ μ, J i ρ μ → ∀ q, μ = some q → q.1 ≠ x)
    (hs : pl iter = true := by rfl) (hk : sc.kind = .function := by rfl) (hl : (envOf nm sc L fa cd).kindOf x = some .local := by rfl) :
    Run (model prog w) A (envOf nm sc L fa cd) Ws (.For (.Name x px) iter body [] pos :: rest) h P X := by
  refine run_forG J S it j0 hold ?_ fin hs
  intro i d ρ μ s Q E it' I v hd hJ S r hit hI q
  refine wpAny_of_eq (a := ()) rfl ?_
  refine PyProof.Rows.assign_Name (st_name S r (hf d (List.mem_of_getElem? hd)) (hμ i ρ μ hJ) (fun h' k kp S' => q h' k kp (step i d ρ μ h' hd hJ S')) hk hl)
/-- for x, y in .. -/
theorem run_for2 {x y : Str} {px py tp : Pos} {n : Nat} {iter : Expr} {body : List Stmt} {pos : Pos} {ds : List PyData} (hh : A.handled = none) (J : Nat → Locs → Mut → Prop) (S : St g L h ρ μ) (it : Iter prog w A (envOf nm sc L fa cd) (L :: Ws) h iter ds X) (j0 : J 0 ρ μ)
    (hold : ∀ b ∈ L :: Ws, ∃ o, h.get? b = some o)
    (step : ∀ i d1 d2 ρ μ h, ds[i]? = some (.tuple [d1, d2]) → J i ρ μ → St g L h ((y, d2) :: (x, d1) :: ρ) μ → Run (model prog w) A (envOf nm sc L fa cd) Ws body h (fun fl h2 => match fl with
        | .next | .cont => ∃ ρ' μ', J (i + 1) ρ' μ' ∧ St g L h2 ρ' μ'
        | .brk => Run (model prog w) A (envOf nm sc L fa cd) Ws rest h2 P X
        | .ret v => P (.ret v) h2) X)
    (fin : ∀ ρ μ h, J ds.length ρ μ → St g L h ρ μ → Run (model prog w) A (envOf nm sc L fa cd) Ws rest h P X)
    (hf : ∀ d ∈ ds, ∃ d1 d2, d = .tuple [d1, d2] ∧ flat d1 = true ∧ flat d2 = true) (hx : ∀ i ρ μ, J i ρ μ → ∀ q, μ = some q → q.1 ≠ x ∧ q.1 ≠ y)
    (hs : pl iter = true := by rfl) (hk : sc.kind = .function := by rfl) (hlx : (envOf nm sc L fa cd).kindOf x = some .local := by rfl) (hly : (envOf nm sc L fa cd).kindOf y = some .local := by rfl) :
    Run (model prog w) A (envOf nm sc L fa cd) Ws (.For (.Tuple [.Name x px, .Name y py] n tp) iter body [] pos :: rest) h P X := by
  refine run_forG J S it j0 hold ?_ fin hs
  intro i d ρ μ s Q E it' I v hd hJ S r hit hI q
  obtain ⟨d1, d2, rfl, h1, h2⟩ := hf d (List.mem_of_getElem? hd)
  obtain ⟨a, items, rfl, _⟩ := rd_tup r
  refine hit.go hI ?_
  exact assign2 hh S r h1 h2 (fun q e => (hx i ρ μ hJ q e).1) (fun q e => (hx i ρ μ hJ q e).2) (fun h' k kp S' => q h' k kp (step i d1 d2 ρ μ h' hd hJ S')) hk hlx hly
end
end Mine

namespace Mine
open PySem PySem.Spec PySem.Calls PyProof.Rows

theorem flatL_append {ds es : List PyData} (h : flatL ds = true) (h' : flatL es = true) : flatL (ds ++ es) = true := by
  induction ds with
  | nil => exact h'
  | cons a r ih =>
    simp only [flatL, Bool.and_eq_true] at h
    simp only [List.cons_append, flatL, Bool.and_eq_true]
    exact ⟨h.1, ih h.2⟩
theorem flatL_snoc {ds : List PyData} {d : PyData} (h : flatL ds = true) (h' : flat d = true) : flatL (ds ++ [d]) = true := flatL_append h (by simp [flatL, h'])
/-- a list that is not written to by the loop -/
def SrcL (W : List Addr) (ds : List PyData) (v : Value) (h : Heap) : Prop := ∃ l items, v = .ref l ∧ h.IsList l items ∧ l ∉ W ∧ ∀ h', Kp W h h' → RdL ds items.toList h'
def SrcT (W : List Addr) (ds : List PyData) (v : Value) (h : Heap) : Prop := ∃ l items, v = .ref l ∧ h.IsTuple l items ∧ l ∉ W ∧ ∀ h', Kp W h h' → RdL ds items.toList h'

section
variable {g h : Heap} {L : Addr} {ρ : Locs} {μ : Mut} {Ws : List Addr}
/-- the places that may be written are the frame and its own list -/
def Wok (μ : Mut) (Ws : List Addr) : Prop := ∀ a ∈ Ws, ∃ q, μ = some q ∧ q.2.1 = a
theorem wok_nil : Wok μ [] := fun _ h => nomatch h
theorem w_noTup (S : St g L h ρ μ) (hW : Wok μ Ws) : ∀ a ∈ L :: Ws, NoTup a h ∧ ∃ o, h.get? a = some o := by
  obtain ⟨m, F, _, hm⟩ := S.ex
  intro a ha
  cases ha with
  | head => exact ⟨noTup_L F, L_some F⟩
  | tail _ ha =>
    obtain ⟨q, e, rfl⟩ := hW a ha
    obtain ⟨_, _, _, items, p, _⟩ := hm q e
    exact ⟨noTup_list p, let ⟨_, p⟩ := p; ⟨_, p⟩⟩
theorem w_hold (S : St g L h ρ μ) (hW : Wok μ Ws) : ∀ b ∈ L :: Ws, ∃ o, h.get? b = some o := fun b hb => (w_noTup S hW b hb).2
end

theorem listIter_kp {W : List Addr} {h h' : Heap} {it l : Addr} {i : Nat} (k : Kp W h h') (n : it ∉ W) (x : h.IsListIter it l i) : h'.IsListIter it l i := let ⟨o, ho, r⟩ := x; ⟨o, k _ _ n ho, r⟩
theorem isList_kp {W : List Addr} {h h' : Heap} {l : Addr} {items} (k : Kp W h h') (n : l ∉ W) (x : h.IsList l items) : h'.IsList l items := let ⟨o, ho, r⟩ := x; ⟨o, k _ _ n ho, r⟩
theorem isTuple_kp {W : List Addr} {h h' : Heap} {l : Addr} {items} (k : Kp W h h') (n : l ∉ W) (x : h.IsTuple l items) : h'.IsTuple l items := let ⟨o, ho, r⟩ := x; ⟨o, k _ _ n ho, r⟩
theorem tupIter_kp {W : List Addr} {h h' : Heap} {it l : Addr} {i : Nat} (k : Kp W h h') (n : it ∉ W) (x : h.IsTupleIter it l i) : h'.IsTupleIter it l i := let ⟨o, ho, r⟩ := x; ⟨o, k _ _ n ho, r⟩
theorem size_none (h : Heap) : h.get? h.objs.size = none := by
  cases hq : h.get? h.objs.size with
  | none => rfl
  | some o => exact absurd (Heap.lt_size hq) (Nat.lt_irrefl _)
theorem kp_push {W : List Addr} {h h' : Heap} {o : Obj} (k : Kp (h.objs.size :: W) (h.push o) h') : Kp W h h' := fun b o' n e => k b o' (fun hb => by
  cases hb with
  | head => rw [size_none] at e; cases e
  | tail _ hb => exact n hb) (Heap.get?_push_of_some _ e)

section
variable {prog : Program} {w : World} {A : Around} {env : Env} {W : List Addr} {h : Heap} {X : Value → Heap → Prop}

theorem odd_fields {h : Heap} {a : Addr} {o : Obj} {fs : Array Value} (ho : h.get? a = some o) (hd : o.data = .fields fs) : Odd a h ∧ ∃ o, h.get? a = some o :=
  ⟨fun o' e => by rw [ho] at e; cases e; rw [hd]; exact ⟨(fun _ _ e => by cases e), (fun _ _ e => by cases e)⟩, o, ho⟩

theorem iter_list {e : Expr} {ds : List PyData} (hh : A.handled = none) (ev : Ev (model prog w) A env h e (SrcL W ds) X) (hold : ∀ b ∈ W, ∃ o, h.get? b = some o) : Iter prog w A env W h e ds X := by
  intro s Q E k q x
  refine ev.go s _ E k (fun v h1 i k1 r => ?_) x
  obtain ⟨l, items, rfl, hl, hlW, st⟩ := r
  refine wpAny_pyIter_list (s := { s with heap := h1, toks := i }) hl ?_
  have hitW : h1.objs.size ∉ W := fun hm => by
    obtain ⟨o, ho⟩ := hold _ hm
    have := k1 _ _ (k _ _ ho)
    rw [size_none] at this; cases this
  have hlit : l ≠ h1.objs.size := fun e => by
    obtain ⟨o, ho, _⟩ := hl
    rw [e, size_none] at ho; cases ho
  have hlen : items.size = ds.length := by
    have := (st h1 Kp.rfl).len
    simpa using this
  refine q h1.objs.size (fun i h' => h'.IsListIter h1.objs.size l i ∧ h'.IsList l items ∧ ∀ h'', Kp (h1.objs.size :: W) h' h'' → RdL ds items.toList h'') _ _ (Keep.push k1 _) ?_ ⟨⟨_, Heap.get?_push_size _ rfl, rfl, rfl⟩, hl.push _, fun h'' kp => st h'' (kp_push kp)⟩ ?_
  · refine ⟨?_, ?_, ?_, ?_, ?_⟩
    · intro i d s' Q' E' hd hI q'
      obtain ⟨h1', h2', h3'⟩ := hI
      obtain ⟨v, hv, _⟩ := (h3' s'.heap Kp.rfl).at hd
      refine wpAny_pyNext_list_item h1' h2' (x := v) (by simpa using hv) (fun h'' hit'' hsb => ?_)
      have kp := kp_same hsb
      have r'' : RdL ds items.toList h'' := h3' h'' (kp.mono fun b hb => by rw [List.mem_singleton] at hb; subst hb; exact .head _)
      obtain ⟨v', hv', rv⟩ := r''.at hd
      rw [hv] at hv'; cases hv'
      exact q' v h'' s'.toks ⟨hit'', isList_kp kp (by simpa using hlit) h2', fun h3 kp3 => h3' h3 ((kp.mono fun b hb => by rw [List.mem_singleton] at hb; subst hb; exact .head _).trans kp3)⟩ kp rv
    · intro s' Q' E' hI q'
      obtain ⟨h1', h2', h3'⟩ := hI
      refine wpAny_pyNext_list_end hh h1' h2' (by simp [hlen]) (fun h'' he => q' h'' s'.toks (kp_ext he))
    · intro i ha hb hI kp
      obtain ⟨h1', h2', h3'⟩ := hI
      exact ⟨listIter_kp kp hitW h1', isList_kp kp hlW h2', fun h3 kp3 => h3' h3 ((kp.mono fun b hb => .tail _ hb).trans kp3)⟩
    · intro i ha hI
      obtain ⟨⟨o, ho, hc, hd⟩, _⟩ := hI
      exact odd_fields ho hd
    · intro i s' elts x1 pos T Q' E' hI q'
      exact wpAny_letOwnedTupleGo_listiter hI.1 q'
  · exact k1.none (size_none h1)

theorem iter_tuple {e : Expr} {ds : List PyData} (hh : A.handled = none) (ev : Ev (model prog w) A env h e (SrcT W ds) X) (hold : ∀ b ∈ W, ∃ o, h.get? b = some o) : Iter prog w A env W h e ds X := by
  intro s Q E k q x
  refine ev.go s _ E k (fun v h1 i k1 r => ?_) x
  obtain ⟨l, items, rfl, hl, hlW, st⟩ := r
  refine wpAny_pyIter_tuple (s := { s with heap := h1, toks := i }) hl ?_
  have hitW : h1.objs.size ∉ W := fun hm => by
    obtain ⟨o, ho⟩ := hold _ hm
    have := k1 _ _ (k _ _ ho)
    rw [size_none] at this; cases this
  have hlit : l ≠ h1.objs.size := fun e => by
    obtain ⟨o, ho, _⟩ := hl
    rw [e, size_none] at ho; cases ho
  have hlen : items.size = ds.length := by
    have := (st h1 Kp.rfl).len
    simpa using this
  refine q h1.objs.size (fun i h' => h'.IsTupleIter h1.objs.size l i ∧ h'.IsTuple l items ∧ ∀ h'', Kp (h1.objs.size :: W) h' h'' → RdL ds items.toList h'') _ _ (Keep.push k1 _) ?_ ⟨⟨_, Heap.get?_push_size _ rfl, rfl, rfl⟩, hl.push _, fun h'' kp => st h'' (kp_push kp)⟩ ?_
  · refine ⟨?_, ?_, ?_, ?_, ?_⟩
    · intro i d s' Q' E' hd hI q'
      obtain ⟨h1', h2', h3'⟩ := hI
      obtain ⟨v, hv, _⟩ := (h3' s'.heap Kp.rfl).at hd
      refine wpAny_pyNext_tuple_item h1' h2' (x := v) (by simpa using hv) (fun h'' hit'' hsb => ?_)
      have kp := kp_same hsb
      have r'' : RdL ds items.toList h'' := h3' h'' (kp.mono fun b hb => by rw [List.mem_singleton] at hb; subst hb; exact .head _)
      obtain ⟨v', hv', rv⟩ := r''.at hd
      rw [hv] at hv'; cases hv'
      exact q' v h'' s'.toks ⟨hit'', isTuple_kp kp (by simpa using hlit) h2', fun h3 kp3 => h3' h3 ((kp.mono fun b hb => by rw [List.mem_singleton] at hb; subst hb; exact .head _).trans kp3)⟩ kp rv
    · intro s' Q' E' hI q'
      obtain ⟨h1', h2', h3'⟩ := hI
      refine wpAny_pyNext_tuple_end hh h1' h2' (by simp [hlen]) (fun h'' he => q' h'' s'.toks (kp_ext he))
    · intro i ha hb hI kp
      obtain ⟨h1', h2', h3'⟩ := hI
      exact ⟨tupIter_kp kp hitW h1', isTuple_kp kp hlW h2', fun h3 kp3 => h3' h3 ((kp.mono fun b hb => .tail _ hb).trans kp3)⟩
    · intro i ha hI
      obtain ⟨⟨o, ho, hc, hd⟩, _⟩ := hI
      exact odd_fields ho hd
    · intro i s' elts x1 pos T Q' E' hI q'
      obtain ⟨⟨o, ho, hc, hd⟩, _⟩ := hI
      unfold letOwnedTupleGo
      refine wpAny_bind (wpAny_load ho ?_)
      rw [hc, hd]
      refine wpAny_ite_false ?_ (wpAny_pure q')
      simp
  · exact k1.none (size_none h1)

def rangeD (a : Int) (n : Nat) : List PyData := (List.range n).map fun (i : Nat) => PyData.int (a + i)
theorem rangeD_len (a : Int) (n : Nat) : (rangeD a n).length = n := by simp [rangeD]
theorem rangeD_at (a : Int) (n i : Nat) : (rangeD a n)[i]? = if i < n then some (.int (a + i)) else none := by
  unfold rangeD
  by_cases h : i < n
  · simp [h]
  · simp [h]
theorem rangeD_flat (a : Int) (n : Nat) : ∀ d ∈ rangeD a n, flat d = true := by
  intro d hd
  simp only [rangeD, List.mem_map] at hd
  obtain ⟨i, _, rfl⟩ := hd
  rfl
/-- a range by ones, from its iterator on -/
theorem iter_rangeC {e : Expr} {a b : Int} (hh : A.handled = none) (ha : -(2 ^ 61) ≤ a ∧ a ≤ 2 ^ 61) (hb : -(2 ^ 61) ≤ b ∧ b ≤ 2 ^ 61)
    (ev : Ev (model prog w) A env h e (fun v h' => ∃ r t u y, v = .ref r ∧ IsRange h' r a b 1 t u y) X) (hold : ∀ b ∈ W, ∃ o, h.get? b = some o) : Iter prog w A env W h e (rangeD a (b - a).toNat) X := by
  intro s Q E k q x
  refine ev.go s _ E k (fun v h1 i k1 r => ?_) x
  obtain ⟨r, t, u, y, rfl, hr⟩ := r
  have hsz : Builtin.Range.rangeSize a b 1 = ((b - a).toNat : Int) := by
    unfold Builtin.Range.rangeSize
    simp only [show (1 : Int) > 0 from by decide, if_true]
    split
    · rw [Int.ediv_one]; (first | lia | omega)
    · (first | lia | omega)
  have hsm : Builtin.Range.small a b 1 = true := by
    unfold Builtin.Range.small
    rw [hsz]
    simp only [Builtin.Range.rangeFitsLong, Bool.and_eq_true, Bool.or_eq_true, decide_eq_true_eq, beq_iff_eq]
    refine ⟨⟨⟨⟨⟨by (first | lia | omega), by (first | lia | omega)⟩, by (first | lia | omega), by (first | lia | omega)⟩, by decide, by decide⟩, by (first | lia | omega), by (first | lia | omega)⟩, ?_⟩
    right
    simp only [show (1 : Int) > 0 from by decide, if_true, Bool.and_eq_true, decide_eq_true_eq]
    (first | lia | omega)
  refine wpAny_pyIter_range (s := { s with heap := h1, toks := i }) hr hsm ?_
  rw [hsz]
  have hitW : h1.objs.size ∉ W := fun hm => by
    obtain ⟨o, ho⟩ := hold _ hm
    have := k1 _ _ (k _ _ ho)
    rw [size_none] at this; cases this
  refine q h1.objs.size (fun i h' => IsRangeIter h' h1.objs.size (a + i) (((b - a).toNat : Int) - i) 1) _ _ (Keep.push k1 _) ?_ ?_ ?_
  · refine ⟨?_, ?_, ?_, ?_, ?_⟩
    · intro i d s' Q' E' hd hI q'
      rw [rangeD_at] at hd
      by_cases hi : i < (b - a).toNat
      · rw [if_pos hi] at hd; cases hd
        refine wpAny_pyNext_range_item hI (by (first | lia | omega)) (fun h'' hit'' hsb => ?_)
        refine q' _ h'' _ ?_ (kp_same hsb) ⟨_, .int _ _⟩
        have e1 : a + ((i + 1 : Nat) : Int) = a + i + 1 := by (first | lia | omega)
        have e2 : ((b - a).toNat : Int) - ((i + 1 : Nat) : Int) = ((b - a).toNat : Int) - i - 1 := by (first | lia | omega)
        rw [e1, e2]; exact hit''
      · rw [if_neg hi] at hd; cases hd
    · intro s' Q' E' hI q'
      rw [rangeD_len] at hI
      refine wpAny_pyNext_range_end hh hI (by (first | lia | omega)) (fun h'' he => q' h'' s'.toks (kp_ext he))
    · intro i ha hb hI kp
      exact kp _ _ hitW hI
    · intro i ha hI
      exact odd_fields hI rfl
    · intro i s' elts x1 pos T Q' E' hI q'
      unfold letOwnedTupleGo
      refine wpAny_bind (wpAny_load hI ?_)
      refine wpAny_ite_false ?_ (wpAny_pure q')
      simp
  · show IsRangeIter _ _ (a + ((0 : Nat) : Int)) (((b - a).toNat : Int) - ((0 : Nat) : Int)) 1
    simp only [Int.natCast_zero, Int.add_zero, Int.sub_zero]
    exact Heap.get?_push_size _ rfl
  · exact k1.none (size_none h1)
end

section
variable {prog : Program} {w : World} {A : Around} {nm : Str} {sc : Scope} {L fa : Addr} {cd : Value} {g h : Heap} {ρ : Locs} {μ : Mut} {X : Value → Heap → Prop} {Ws : List Addr} {P : Flow → Heap → Prop} {rest : List Stmt}
/-- a list of the frame's names, to be gone over -/
theorem src_var {x : Str} {pos : Pos} {ds : List PyData} (S : St g L h ρ μ) (hv : ρ.lookup x = some (.list ds)) (hW : Wok μ Ws) (hk : sc.kind = .function := by rfl) (hl : (envOf nm sc L fa cd).kindOf x = some .local := by rfl)
    (hd : (x == ("__debug__" : Str)) = false := by decide) : Ev (model prog w) A (envOf nm sc L fa cd) h (.Name x pos) (SrcL (L :: Ws) ds) X :=
  EvT.ofS fun s Q E k q => by
    have S' := S.keep k
    have hnt := w_noTup S' hW
    obtain ⟨m, F, hr, _⟩ := S'.ex
    obtain ⟨v, as, hm, r, nL, nl⟩ := hr x _ hv
    refine ld F hm (q v s.toks ?_) hk hl hd
    cases r with
    | list h1 h2 h3 y =>
      have hW' : ∀ a ∈ L :: Ws, a ∉ _ := fun a ha => by
        cases ha with
        | head => exact nL
        | tail _ ha => obtain ⟨p, e, rfl⟩ := hW a ha; exact nl p e
      exact ⟨_, _, rfl, ⟨_, h1, h2, _, h3⟩, fun ha => hW' _ ha (.head _), fun h' kp => ⟨_, readsAll_kp kp (fun a ha => .inr ⟨fun e => hW' a ha (.tail _ e), (hnt a ha).1⟩) y⟩⟩
theorem src_tup {e : Expr} {ds : List PyData} (S : St g L h ρ μ) (ev : Ev (model prog w) A (envOf nm sc L fa cd) h e (Rd (.tuple ds)) X) (hf : flatL ds = true) (hW : Wok μ Ws) : Ev (model prog w) A (envOf nm sc L fa cd) h e (SrcT (L :: Ws) ds) X :=
  ev.mono fun v h' k r => by
    obtain ⟨a, items, rfl, p, r⟩ := rd_tup r
    have hnt := w_noTup (S.keep k) hW
    refine ⟨a, items, rfl, p, fun ha => ?_, fun h'' kp => rdl_flat_kp kp hf (fun a ha => (hnt a ha).1) r⟩
    obtain ⟨o, ho, hc, n, hd⟩ := p
    exact (hnt a ha).1 o ho hc _ _ hd
/-- a list of g's, handed on by an argument's name or not: any list that is read and not among W -/
theorem run_append {x : Str} {l : Addr} {ds : List PyData} {d : PyData} {e : Expr} {px ap pos ep : Pos} (S : St g L h ρ (some (x, l, ds))) (ev : Ev (model prog w) A (envOf nm sc L fa cd) h e (Rd d) X) (hf : flat d = true) (hl : l ∈ Ws) (hsz : ds.length ≤ 2 ^ 20)
    (k : ∀ h', St g L h' ρ (some (x, l, ds ++ [d])) → Run (model prog w) A (envOf nm sc L fa cd) Ws rest h' P X)
    (hbase : attributeBase (.Name x px) "append" (envOf nm sc L fa cd) (eval (.Name x px) (envOf nm sc L fa cd)) = eval (.Name x px) (envOf nm sc L fa cd) := by rfl) (hline : (ap.endLine == pos.line) = true := by rfl)
    (hk : sc.kind = .function := by rfl) (hloc : (envOf nm sc L fa cd).kindOf x = some .local := by rfl) (hd : (x == ("__debug__" : Str)) = false := by decide)
    (htr0 : pl e = true := by rfl)
    (hi : interactive (envOf nm sc L fa cd) = false := by rfl) (hs : True := trivial) :
    Run (model prog w) A (envOf nm sc L fa cd) Ws (.Expr (.Call (.Attribute (.Name x px) "append" ap) [e] [] pos) ep :: rest) h P X := by
  refine ⟨fun s Q E e' po q x' => ?_⟩; subst e'
  have htr : backTo pos (starEach [e] (envOf nm sc L fa cd)) = [(false, eval e (envOf nm sc L fa cd))] := by rw [pl_star htr0]; rfl
  refine wpAny_execs_cons (wpAny_Expr_any ?_ hi (pl_swaps rfl))
  refine wpAny_Call_append hbase (by rw [htr]; rfl) hline htr ?_
  refine (ev_mutL S hk hloc hd).seq Keep.rfl (fun v h1 i k1 r => ?_) x'
  subst r
  have S1 := S.keep k1
  obtain ⟨m, F, _, hm⟩ := S1.ex
  obtain ⟨_, _, _, items, ⟨n, p⟩, _⟩ := hm _ rfl
  refine ⟨l, items, rfl, ⟨_, n, p, rfl, rfl, rfl⟩, ?_⟩
  refine (ev.up k1).seq (s := { s with heap := h1, toks := i }) Keep.rfl (fun y h2 j k2 r2 => ?_) (fun y h2 j r => x' y h2 j r)
  have S2 := S1.keep k2
  obtain ⟨m2, F2, hr2, hm2⟩ := S2.ex
  obtain ⟨hx2, hg2, hf2, items2, p2, rr2⟩ := hm2 _ rfl
  have hlen : items2.size = ds.length := by have := rr2.len; simpa using this
  refine wpAny_list_append_plain (s := { s with heap := h2, toks := j }) (hsz := by rw [hlen]; have e : sizeLine = 2 ^ 24 := rfl; (first | lia | omega)) p2 (fun h3 p3 hsb => ?_)
  have kp := kp_same hsb
  have hlL : l ≠ L := L_ne_list F2 p2
  have wok : ∀ (bs : List Addr), l ∉ bs → ∀ a ∈ [l], Odd a h2 ∨ (a ∉ bs ∧ NoTup a h2) := fun bs hb a ha => by
    rw [List.mem_singleton] at ha; subst ha; exact .inr ⟨hb, noTup_list p2⟩
  have S3 : St g L h3 ρ (some (x, l, ds ++ [d])) := by
    refine ⟨m2, ⟨?_, fun b o e => kp b o (fun hb => ?_) (F2.keep b o e), F2.above⟩, fun y d' e => ?_, fun q e => ?_⟩
    · obtain ⟨o, es, ep, ho, r⟩ := F2.ns
      exact ⟨o, es, ep, kp _ _ (by simpa using hlL.symm) ho, r⟩
    · rw [List.mem_singleton] at hb; subst hb; rw [hg2] at e; cases e
    · obtain ⟨v, as, a, b, c, dd⟩ := hr2 y d' e
      exact ⟨v, as, a, reads_kp kp (wok _ (dd _ rfl)) b, c, fun q e => by cases e; exact dd (x, l, ds) rfl⟩
    · cases e
      refine ⟨hx2, hg2, ?_, _, p3, ?_⟩
      · show flatL (ds ++ [d]) = true
        exact flatL_snoc hf2 hf
      · rw [Array.toList_push]
        have ra : RdL ds items2.toList h3 := rdl_flat_kp kp hf2 (fun a ha => by rw [List.mem_singleton] at ha; subst ha; exact noTup_list p2) rr2
        have rb : Rd d y h3 := by
          obtain ⟨as, z⟩ := r2
          have e := flat_nil hf z
          subst e
          exact ⟨_, reads_kp kp (wok _ List.not_mem_nil) z⟩
        exact ra.append (RdL.cons rb RdL.nil)
  refine (k h3 S3).go _ Q E rfl po (fun fl h4 j4 kp4 p4 => q fl h4 j4 (((Keep.trans k1 k2).kp.trans (kp.mono fun b hb => ?_)).trans kp4) p4) (fun y h2 j r => x' y h2 j r)
  rw [List.mem_singleton] at hb; subst hb; exact .tail _ hl
/-- an if whose two ways meet behind it -/
theorem run_ifJ {test : Expr} {body : List Stmt} {pos : Pos} {b : Bool} (J : Heap → Prop) (S : St g L h ρ μ) (t : Tr (model prog w) A (envOf nm sc L fa cd) h test b X)
    (k1 : b = true → ∀ h', St g L h' ρ μ → Run (model prog w) A (envOf nm sc L fa cd) Ws body h' (fun fl h2 => fl = .next ∧ J h2) X)
    (k2 : b = false → ∀ h', St g L h' ρ μ → J h') (k : ∀ h', J h' → Run (model prog w) A (envOf nm sc L fa cd) Ws rest h' P X) :
    Run (model prog w) A (envOf nm sc L fa cd) Ws (.If test body [] pos :: rest) h P X := by
  refine run_if S t (fun e h' S' => run_mono (k1 e h' S') fun fl h2 q => ?_) (fun e h' S' => run_nil (k h' (k2 e h' S')))
  obtain ⟨rfl, j⟩ := q
  exact k h2 j
end
end Mine

namespace Mine
open PySem PySem.Spec PySem.Calls PyProof.Rows PySem.W

/-- sizes -/
def Sz (n : Nat) (a : Int) : Prop := -(10 ^ n : Int) < a ∧ a < (10 ^ n : Int)
theorem pow_pos10 (n : Nat) : (0 : Int) < 10 ^ n := Int.pow_pos (by decide)
theorem pow_mono10 {n m : Nat} (h : n ≤ m) : (10 : Int) ^ n ≤ 10 ^ m := by
  have : (10 : Nat) ^ n ≤ 10 ^ m := Nat.pow_le_pow_right (by decide) h
  exact_mod_cast this
theorem Sz.mono {n m : Nat} {a : Int} (h : Sz n a) (hm : n ≤ m) : Sz m a := by
  have := pow_mono10 hm
  obtain ⟨h1, h2⟩ := h
  exact ⟨by (first | lia | omega), by (first | lia | omega)⟩
theorem Sz.natAbs {n : Nat} {a : Int} (h : Sz n a) : a.natAbs < 10 ^ n := by
  obtain ⟨h1, h2⟩ := h
  have e : ((10 ^ n : Nat) : Int) = (10 : Int) ^ n := by simp
  (first | lia | omega)
theorem Sz.of_natAbs {n : Nat} {a : Int} (h : a.natAbs < 10 ^ n) : Sz n a := by
  have e : ((10 ^ n : Nat) : Int) = (10 : Int) ^ n := by simp
  exact ⟨by (first | lia | omega), by (first | lia | omega)⟩
theorem Sz.mul {n m : Nat} {a b : Int} (ha : Sz n a) (hb : Sz m b) : Sz (n + m) (a * b) := by
  refine Sz.of_natAbs ?_
  rw [Int.natAbs_mul, Nat.pow_add]
  exact Nat.mul_lt_mul'' ha.natAbs hb.natAbs
theorem Sz.add {n m : Nat} {a b : Int} (ha : Sz n a) (hb : Sz m b) : Sz (max n m + 1) (a + b) := by
  refine Sz.of_natAbs ?_
  have h1 := (ha.mono (Nat.le_max_left n m)).natAbs
  have h2 := (hb.mono (Nat.le_max_right n m)).natAbs
  have h3 := Int.natAbs_add_le a b
  rw [Nat.pow_succ]; (first | lia | omega)
theorem Sz.neg {n : Nat} {a : Int} (ha : Sz n a) : Sz n (-a) := ⟨by have := ha.2; (first | lia | omega), by have := ha.1; (first | lia | omega)⟩
theorem Sz.sub {n m : Nat} {a b : Int} (ha : Sz n a) (hb : Sz m b) : Sz (max n m + 1) (a - b) := by rw [Int.sub_eq_add_neg]; exact ha.add hb.neg
theorem Sz.le {n : Nat} {a b : Int} (hb : Sz n b) (h0 : 0 ≤ a) (h : a ≤ b) : Sz n a := ⟨by have := pow_pos10 n; (first | lia | omega), by have := hb.2; (first | lia | omega)⟩
theorem Sz.abs {n : Nat} {a : Int} (ha : Sz n a) : Sz n a.natAbs := Sz.of_natAbs (by simpa using ha.natAbs)
theorem intBits_le {n : Nat} {a : Int} (h : Sz n a) (hn : n ≤ 1000) : Builtin.Int.intBits a ≤ 2 ^ 20 := by
  unfold Builtin.Int.intBits
  split
  · exact Nat.zero_le _
  · rename_i h0
    have ha : a.natAbs ≠ 0 := by
      intro e; apply h0; simp; (first | lia | omega)
    have h1 := h.natAbs
    have h2 : (10 : Nat) ^ n ≤ 2 ^ (4 * n) := by
      rw [Nat.pow_mul]; exact Nat.pow_le_pow_left (by decide) n
    have h3 : a.natAbs.log2 < 4 * n := (Nat.log2_lt ha).mpr (Nat.lt_of_lt_of_le h1 h2)
    (first | lia | omega)
theorem mul_ok {n m : Nat} {a b : Int} (ha : Sz n a) (hb : Sz m b) (hn : n ≤ 1000 := by decide) (hm : m ≤ 1000 := by decide) : IntMulOk a b := IntMulOk.of_bits (intBits_le ha hn) (intBits_le hb hm)
theorem div_ok {n : Nat} {b : Int} (hb : Sz n b) (hn : n ≤ 250 := by decide) : b < 10 ^ 250 := by have := (hb.mono hn).2; exact this

theorem rm_caller {n : Nat} (h : n ≤ 600 := by decide) : Rm callerA n := ⟨rfl, by show 1 + claimMargin + n < recursionLimit; simp only [claimMargin, recursionLimit]; (first | lia | omega), by show 4 + 3 * n + 100 < cLine; simp only [cLine]; (first | lia | omega)⟩

section
variable {c : Cx} {n : Nat} {A : Around} {nm : Str} {sc : Scope} {L fa : Addr} {cd : Value} {g h : Heap} {ρ : Locs} {μ : Mut} {X : Value → Heap → Prop} {p pos : Pos}
theorem ev_lenl {e : Expr} {ds : List PyData} (S : St g L h ρ μ) (T : c.T g) (B : Bn c) (e1 : Ev c.M A (envOf nm sc L fa cd) h e (Rd (.list ds)) X) (hn : ds.length < 2 ^ 62) (hk : sc.kind = .function := by rfl) (hg : (envOf nm sc L fa cd).kindOf (Str.ofString "len") = some .globalImplicit := by rfl)
    (he : pl e = true := by rfl) : Ev c.M A (envOf nm sc L fa cd) h (.Call (.Name (Str.ofString "len") p) [e] [] pos) (Rd (.int ds.length)) X :=
  ev_bcall (id := "len") S T B (by decide) (by decide +kernel) (evl_cons e1 evl_nil he) (fun vs h' k r => by
    obtain ⟨v, r', rfl, r1, r2⟩ := r.uncons
    cases r2.unnil
    exact op_len hn (.inl r1)) (by decide) hk hg (by decide) he rfl
theorem ev_lent {e : Expr} {ds : List PyData} (S : St g L h ρ μ) (T : c.T g) (B : Bn c) (e1 : Ev c.M A (envOf nm sc L fa cd) h e (Rd (.tuple ds)) X) (hn : ds.length < 2 ^ 62) (hk : sc.kind = .function := by rfl) (hg : (envOf nm sc L fa cd).kindOf (Str.ofString "len") = some .globalImplicit := by rfl)
    (he : pl e = true := by rfl) : Ev c.M A (envOf nm sc L fa cd) h (.Call (.Name (Str.ofString "len") p) [e] [] pos) (Rd (.int ds.length)) X :=
  ev_bcall (id := "len") S T B (by decide) (by decide +kernel) (evl_cons e1 evl_nil he) (fun vs h' k r => by
    obtain ⟨v, r', rfl, r1, r2⟩ := r.uncons
    cases r2.unnil
    exact op_len hn (.inr r1)) (by decide) hk hg (by decide) he rfl
theorem ev_abs {e : Expr} {a : Int} (S : St g L h ρ μ) (T : c.T g) (B : Bn c) (e1 : Ev c.M A (envOf nm sc L fa cd) h e (Rd (.int a)) X) (hk : sc.kind = .function := by rfl) (hg : (envOf nm sc L fa cd).kindOf (Str.ofString "abs") = some .globalImplicit := by rfl)
    (he : pl e = true := by rfl) : Ev c.M A (envOf nm sc L fa cd) h (.Call (.Name (Str.ofString "abs") p) [e] [] pos) (Rd (.int a.natAbs)) X :=
  ev_bcall (id := "abs") S T B (by decide) (by decide +kernel) (evl_cons e1 evl_nil he) (fun vs h' k r => by
    obtain ⟨v, r', rfl, r1, r2⟩ := r.uncons
    cases r2.unnil
    exact op_abs r1) (by decide) hk hg (by decide) he rfl
theorem ev_max {e e' : Expr} {a b : Int} (S : St g L h ρ μ) (T : c.T g) (B : Bn c) (hh : A.handled = none) (e1 : Ev c.M A (envOf nm sc L fa cd) h e (Rd (.int a)) X) (e2 : Ev c.M A (envOf nm sc L fa cd) h e' (Rd (.int b)) X) (hk : sc.kind = .function := by rfl) (hg : (envOf nm sc L fa cd).kindOf (Str.ofString "max") = some .globalImplicit := by rfl)
    (he : pl e = true := by rfl) (he2 : pl e' = true := by rfl) :
    Ev c.M A (envOf nm sc L fa cd) h (.Call (.Name (Str.ofString "max") p) [e, e'] [] pos) (Rd (.int (max a b))) X :=
  ev_bcall (id := "max") S T B (by decide) (by decide +kernel) (evl_cons e1 (evl_cons e2 evl_nil he2) he) (fun vs h' k r => by
    obtain ⟨v, r', rfl, r1, r2⟩ := r.uncons
    obtain ⟨v2, r3, rfl, r4, r5⟩ := r2.uncons
    cases r5.unnil
    exact op_max hh r1 r4) (by decide) hk hg (by decide) he (by simp [he2])
theorem ev_min {e e' : Expr} {a b : Int} (S : St g L h ρ μ) (T : c.T g) (B : Bn c) (hh : A.handled = none) (e1 : Ev c.M A (envOf nm sc L fa cd) h e (Rd (.int a)) X) (e2 : Ev c.M A (envOf nm sc L fa cd) h e' (Rd (.int b)) X) (hk : sc.kind = .function := by rfl) (hg : (envOf nm sc L fa cd).kindOf (Str.ofString "min") = some .globalImplicit := by rfl)
    (he : pl e = true := by rfl) (he2 : pl e' = true := by rfl) :
    Ev c.M A (envOf nm sc L fa cd) h (.Call (.Name (Str.ofString "min") p) [e, e'] [] pos) (Rd (.int (min a b))) X :=
  ev_bcall (id := "min") S T B (by decide) (by decide +kernel) (evl_cons e1 (evl_cons e2 evl_nil he2) he) (fun vs h' k r => by
    obtain ⟨v, r', rfl, r1, r2⟩ := r.uncons
    obtain ⟨v2, r3, rfl, r4, r5⟩ := r2.uncons
    cases r5.unnil
    exact op_min hh r1 r4) (by decide) hk hg (by decide) he (by simp [he2])
end
theorem sz_lit {a : Int} (h : decide (-(10 ^ 10 : Int) < a ∧ a < 10 ^ 10) = true) : Sz 10 a := by have := of_decide_eq_true h; exact this
end Mine

namespace Mine
open PySem PySem.Spec PySem.Calls PyProof.Rows PySem.W
def bnOk (p : Program) (loose : List Str) : Bool := bnames.all fun x => !(startupNames.contains x || loose.contains x || ((recsOf p).map (·.name)).contains x || ((litsOf p).map (·.1)).contains x || ((clssOf p loose).map (·.name)).contains x)
theorem bn_of {prog p : Program} {w : World} {loose : List Str} {mean : ExcName → Option Value} {mg mb : Str → Option Value} {h : Heap} (T : Top p loose mean mg mb h) (hb : bnOk p loose = true) : Bn ⟨prog, w, p, loose, mean, mg, mb⟩ := by
  intro x hx
  have := List.all_eq_true.mp hb x hx
  simp only [Bool.not_eq_true', Bool.or_eq_false_iff] at this
  obtain ⟨⟨⟨⟨h1, h2⟩, h3⟩, h4⟩, h5⟩ := this
  have no : ∀ {l : List Str}, l.contains x = false → x ∉ l := fun e hm => by rw [List.contains_iff_mem.mpr hm] at e; cases e
  exact T.free x (no h1) (no h2) (no h3) (no h4) (no h5)
end Mine

namespace Mine
open PySem PySem.Spec PySem.Calls PyProof.Rows PySem.W PySem.Builtin PySem.Builtin.ObjectAttr PySem.Builtin.Getset_descriptor

/-- an object of the class C -/
def Ex (h : Heap) (x C : Addr) : Prop := ∃ o, h.get? x = some o ∧ o.cls = .ref C
theorem Ex.keep {h h' : Heap} {x C : Addr} (i : Ex h x C) (k : Keep h h') : Ex h' x C := let ⟨o, a, b⟩ := i; ⟨o, k _ _ a, b⟩
theorem Ex.type {M : Model} {h : Heap} {x C : Addr} (i : Ex h x C) : Looks M h (typeOf (.ref x)) (.ref C) := by
  obtain ⟨o, a, b⟩ := i
  exact b ▸ (Looks.ld a).andThen .now

section
variable {prog : Program} {w : World} {A : Around} {E : Value → Shared → Prop} {s : Shared} {K : Frag} {x C : Addr} {name : Str}

theorem looks_bind {M : Model} {h : Heap} {a g : Value} (X : K.In h) (ha : findIn K (.ref C) name = some (some a)) (hg : specialIn K a "__get__" = some (some g)) (ht : takesIn K a = some true) : Looks M h (find (.ref x) (.ref C) name) (.bind g a) := by
  refine (looks_findIn X ha).andThen ?_
  have L2 : Looks M h (getOf (some a)) (some g) := looks_specialIn X hg
  refine L2.andThen ?_
  exact (show Looks M h (dataDescriptor? (some a) (some g)) (some (g, a)) from (looks_takesIn X ht).andThen .now).andThen (Looks.tag .now)

/-- what is asked of a class for its objects' «__class__» -/
structure ClsAttr (K : Frag) (C : Addr) : Prop where
  ga : findIn K (.ref C) "__getattribute__" = some (some (.builtin "BaseException.__getattribute__"))
  gk : findIn K (.ref C) "__getattr__" = some none
  at_ : findIn K (.ref C) "__class__" = some (some (.builtin "object.__class__"))
  get : specialIn K (.builtin "object.__class__") "__get__" = some (some (.builtin "getset_descriptor.__get__"))
  data : takesIn K (.builtin "object.__class__") = some true
  obj : mroIn K C (.type "object") = some true
  be : mroIn K C (.type "BaseException") = some true
  cls : (clsIn K C).isSome = true

theorem the_class_get {tp : Value} {R : Except Value Flow → Shared → Prop} (X : K.In s.heap) (I : Ex s.heap x C) (hm : mroIn K C (.type "object") = some true)
    (h : R (.ok (.ret (.ref C))) s) : codeAny (model prog w) A (.call (.builtin "getset_descriptor.__get__") ⟨[.builtin "object.__class__", .ref x, tp], []⟩) R s := by
  obtain ⟨hh, g, dr, t, os⟩ := s
  have L0 := I.type (M := model prog w)
  have L1 := looks_mroIn (M := model prog w) X hm
  refine codeAny_call_builtin KF.slot_gs.plain KF.entry_gs (KF.slot_gs.check _ _ _ _ _ _ _ _ KF.type_class (KF.args_gs _ _ _) ?_)
  unfold Builtin.«getset_descriptor.__get__» descrGet
  rw [dga_obj]
  refine wpAny_bind (wpAny_pure ?_)
  unfold descrGetter descrCheckInstance descrNameAndClass isInstance
  simp only [KF.owner_class]
  repeat lk
  refine ⟨Code.quiet_builtin _ (by decide +kernel), codeAny_builtin KF.entry_class ?_⟩
  unfold Builtin.«object.__class__» shownTypeOf
  repeat lk
  exact h

theorem bexc_class {tk : Tok} {R : Except Value Flow → Shared → Prop} (X : K.In s.heap) (I : Ex s.heap x C) (H : ClsAttr K C)
    (h : R (.ok (.ret (.ref C))) s) : codeAny (model prog w) A (.call (.builtin "BaseException.__getattribute__") ⟨[.ref x, .str "__class__" tk], []⟩) R s := by
  obtain ⟨hh, g, d, t, os⟩ := s
  have L0 := I.type (M := model prog w)
  have L1 := looks_mroIn (M := model prog w) X H.be
  have L3 := looks_bind (M := model prog w) (x := x) X H.at_ H.get H.data
  have hk : builtinKind "BaseException.__getattribute__" = some .slot := by decide +kernel
  have hsplit : splitId "BaseException.__getattribute__" = some ("BaseException", "__getattribute__") := by decide +kernel
  have ha := PySem.F.args_bexc_ga (.ref x) (.str "__class__" tk)
  refine codeAny_call_builtin PySem.F.excAttr_ValueError.ga.plain PySem.F.entry_bexc_ga ?_
  simp only [checkBuiltinCall, hk, hsplit]
  unfold isInstance
  repeat (first | with_reducible refine wpAny_call ?_ | lk)
  refine the_class_get X I H.obj ?_
  exact wpAny_pure h

theorem the_class {Q : Option Value → Shared → Prop} (X : K.In s.heap) (I : Ex s.heap x C) (H : ClsAttr K C) (h : Q (some (.ref C)) { s with toks := s.toks + 1 }) : wpAny (model prog w) A (getAttr? (.ref x) "__class__") Q E s := by
  obtain ⟨hh, g, d, t, os⟩ := s
  have L0 := I.type (M := model prog w)
  have L1 := looks_findIn (M := model prog w) X H.ga
  have L2 := looks_findIn (M := model prog w) X H.gk
  have f3 := PySem.F.excAttr_ValueError.ga.bind (.ref x)
  have hx2 : (Value.builtin "BaseException.__getattribute__" == Value.builtin "object.__getattribute__") = false := by decide +kernel
  have hx1 : (onTheHeap (Value.ref C) && Value.builtin "BaseException.__getattribute__" == Value.builtin "object.__getattribute__") = false := by rw [hx2]; rfl
  have hx0 : (false && onTheHeap (Value.builtin "BaseException.__getattribute__")) = false := rfl
  unfold getAttr? getAttrBy? getAttrBy
  refine wpAny_bind (wpAny_mkText (wpAny_bind (wpAny_attempt (wpAny_holding (wpAny_bind (L0.at (wpAny_bind (L1.at ?_))))))))
  simp only [hx1, Bool.false_eq_true, if_false]
  unfold getAttrByItsOwn hookBefore callGetattribute boundAndCalled
  repeat (first | with_reducible refine wpAny_attempt ?_ | with_reducible refine wpAny_call ?_ | lk)
  refine bexc_class (s := ⟨hh, g, d, t + 1, os⟩) X I H ?_
  exact handed_on rfl (wpAny_pure h)

theorem looks_isType {M : Model} {h : Heap} (X : K.In h) (e : (clsIn K C).isSome = true) : Looks M h (isType (.ref C)) true := by
  unfold clsIn at e
  split at e
  · rename_i ho
    intro A' Q' E' s' k q
    unfold isType loadHead
    exact wpAny_bind (wpAny_loadPart (k _ _ (X _ _ ho)) (wpAny_pure q))
  · cases e

theorem isx_nested {c : Value} {b : Bool} {dep : Int} {tk : Tok} {Q : Fin → Shared → Prop} (X : K.In s.heap) (I : Ex s.heap x C) (H : ClsAttr K C) (hty : Looks (model prog w) s.heap (typeOf c) (.type "type")) (his : Looks (model prog w) s.heap (isType c) true)
    (hself : (Value.ref C == c) = true → b = true) (hsub : Looks (model prog w) s.heap (isSubtype (.ref C) c) b) (h : ∀ k, Q (.done (.ret (.bool b))) { s with toks := k }) :
    wpAny (model prog w) A (Builtin.«isinstance.nested» ⟨[.ref x, c, .int dep tk], []⟩) Q E s := by
  have hisD := looks_isType (M := model prog w) X H.cls
  obtain ⟨h0, g, d, tt, os⟩ := s
  have L0 := I.type (M := model prog w)
  have LI : Looks (model prog w) h0 (isInstance (.ref x) c) b := L0.andThen hsub
  unfold Builtin.«isinstance.nested»
  refine wpAny_bind (L0.at ?_)
  by_cases q : (Value.ref C == c) = true
  · rw [if_pos q]
    have hb := hself q
    subst hb
    exact wpAny_bind (wpAny_rule (wpAny_bind (wpAny_pure (wpAny_pure (h tt)))))
  · rw [if_neg q]
    refine wpAny_bind (hty.at ?_)
    rw [if_pos (by decide)]
    k_delta "plainIsInstance"
    refine wpAny_bind (wpAny_bind (his.at ?_))
    simp only [Bool.not_true, Bool.false_eq_true, if_false]
    refine wpAny_bind (LI.at ?_)
    cases b with
    | true =>
      simp only [if_true]
      exact wpAny_pure (wpAny_pure (h tt))
    | false =>
      simp only [Bool.false_eq_true, if_false]
      refine wpAny_bind (the_class X I H ?_)
      refine wpAny_bind (hisD.at ?_)
      simp only [Bool.not_true, Bool.false_eq_true, if_false]
      refine wpAny_bind (wpAny_rule ?_)
      refine hsub.at ?_
      first
        | exact wpAny_pure (h _)
        | exact wpAny_pure (wpAny_pure (h _))
        | exact wpAny_bind (wpAny_pure (wpAny_pure (h _)))

theorem isx_call {c : Value} {b : Bool} {Q : Value → Shared → Prop} (X : K.In s.heap) (I : Ex s.heap x C) (H : ClsAttr K C) (hty : ∀ (M : Model) h', K.In h' → Looks M h' (typeOf c) (.type "type")) (his : ∀ (M : Model) h', K.In h' → Looks M h' (isType c) true)
    (hself : (Value.ref C == c) = true → b = true) (hsub : mroIn K C c = some b) (h : ∀ k, Q (.bool b) { s with toks := k }) : wpAny (model prog w) A (call (.builtin "isinstance") [.ref x, c]) Q E s :=
  call_isinstance (S := fun _ R s => (K.In s.heap ∧ Ex s.heap x C) ∧ ∀ k, R (.ok (.ret (.bool b))) { s with toks := k })
    (fun _ _ _ _ _ hs => isinstance_outer (isx_nested hs.1.1 hs.1.2 H (hty _ _ hs.1.1) (his _ _ hs.1.1) hself (looks_mroIn hs.1.1 hsub) hs.2) (by intro q; cases q)) ⟨⟨X, I⟩, h⟩
end

/-- where the frames lie below -/
structure Pt (c : Cx) (K : Frag) (A : Around) (base : Heap) (outer : List Env) (g : Heap) : Prop where
  bel : Below A base outer g
  kin : K.In base
  top : c.T base

/-- an exception that has left the frames ahead of l -/
def Rz (base : Heap) (l : List Env) (G : Heap) (C e : Addr) (h' : Heap) : Prop := ∃ t vs, RaisedS base G l e (.ref C) t vs [] h' ∧ G.UpToSlots h'
/-- an exception on its way out of a frame -/
def Xb (base : Heap) (outer : List Env) (env : Env) (g : Heap) (L C : Addr) (x : Value) (h' : Heap) : Prop :=
  ∃ e, x = .ref e ∧ ((∃ h m vs, Heap.MadeExcOf h h' e (.ref C) vs ∧ Fr g L h m) ∨ (∃ G m, Rz base (env :: outer) G C e h' ∧ Fr g L G m))

/-- a call that raises an exception of the class C -/
structure FnR (c : Cx) (K : Frag) (n : Nat) (f : Str) (ds : List PyData) (C : Addr) : Prop where
  isDef : ∃ dr ∈ recsOf c.p, dr.name = f
  run : ∀ (A : Around) (base : Heap) (outer : List Env) (h : Heap) (vs : List Value) (a : Addr), Pt c K A base outer h → Rm A n → c.mg f = some (.ref a) → RdL ds vs h → ∀ (s : Shared) (Q : Value → Shared → Prop) (E : Value → Shared → Prop), s.heap = h →
    (∀ e h' k, Rz base outer h C e h' → E (.ref e) { s with heap := h', toks := k }) → wpAny c.M A (call (.ref a) vs) Q E s

section
variable {c : Cx} {K : Frag} {n : Nat} {f : Str} {ds : List PyData} {C : Addr}
theorem fnr_core {dn : Str} {dp : Arguments} {db : List Stmt} {dsc : Scope} {dps : Pos} {xs : List Str} (hd : (⟨dn, dp, db, dsc, dps⟩ : DefRec) ∈ recsOf c.p ∧ dn = f)
    (hb : ∀ pm cd doc (vs : List Value), vs.length = ds.length → bindArgs (docDef dn dp db dsc pm cd doc) ⟨vs, []⟩ = pure (xs.zip vs))
    (hlen : xs.length = ds.length) (hnd : xs.Nodup) (hloc : ∀ x ∈ xs, dsc.names.lookup x = some .local)
    (hco : dsc.isCoroutine = false) (hgen : dsc.isGenerator = false) (hk : dsc.kind = .function) (hcell : ∀ x ∈ dsc.names, x.2 ≠ .cell)
    (k : ∀ (A : Around) (base : Heap) (outer : List Env) (g h : Heap) (L fa : Addr) (cd : Value), Pt c K A base outer g → Rm (A.deeper (envOf dn dsc L fa cd)) n → St g L h (zipL xs ds) none →
      Run c.M (A.deeper (envOf dn dsc L fa cd)) (envOf dn dsc L fa cd) [] db h (fun _ _ => False) (Xb base outer (envOf dn dsc L fa cd) g L C)) : FnR c K (n + 1) f ds C := by
  obtain ⟨hd, hn⟩ := hd
  refine ⟨⟨_, hd, hn⟩, ?_⟩
  intro A base outer h vs a PT rm ha r s Q E es x
  subst es
  have T : c.T s.heap := PT.top.keeps PT.bel.stays
  obtain ⟨a', o, pm, cd, doc, h1, h2, h3, h4⟩ := T.fn ⟨dn, dp, db, dsc, dps⟩ hd
  dsimp only at h1 h3 h4
  rw [hn, ha] at h1; cases h1
  refine wpAny_call (call_plain (by have := rm.dep; (first | lia | omega)) h2 h3 T.nolimit h4 (hb pm cd doc vs (r.len)) (fun y hy => hloc _ (List.of_mem_zip (a := y.1) (b := y.2) hy).1) (fun h₁ F => ?_) hco hgen hk hcell)
  have S : St s.heap s.heap.objs.size h₁ (zipL xs ds) none := by
    refine ⟨_, F, fun x d e => ?_, fun q e => nomatch e⟩
    obtain ⟨v, as, e', r'⟩ := zip_reads r hnd hlen x d e
    refine ⟨v, as, e', PyProof.Rows.Reads.keeps F.keep r', fun hL => ?_, fun q e => nomatch e⟩
    obtain ⟨o, ho⟩ := reads_some r' _ hL
    exact absurd (Heap.lt_size ho) (Nat.lt_irrefl _)
  refine (k A base outer s.heap h₁ _ a cd PT rm.deeper S).go _ _ _ rfl PassesOwn.leaving (fun fl h' i kp' p => p.elim) (fun y h' i xb => ?_)
  obtain ⟨e, rfl, ⟨h₂, m, ws, hm, F₂⟩ | ⟨G, m, ⟨t, ws, R, U⟩, F₂⟩⟩ := xb
  · exact leave_raiseS (s' := { s with heap := h', toks := i }) PT.bel hm F₂ News.nil (fun h'' t R _ U => x e h'' i ⟨t, ws, R, U⟩) hk
  · exact leave_onS (s' := { s with heap := h', toks := i }) PT.bel F₂ R U (fun h'' R _ U => x e h'' i ⟨t, ws, R, U⟩)
end
end Mine

namespace Mine
open PySem PySem.Spec PySem.Calls PyProof.Rows PySem.W

section
variable {M : Model} {A : Around} {E : Value → Shared → Prop} {K : Frag} {e C D : Addr} {h : Heap} {g : Array GenState} {d : Drawn} {t : Nat} {os : OsState}
theorem exc_matches {Q : Bool → Shared → Prop} (X : K.In h) (I : Ex h e C) (hD : typeIn K (.ref D) = some (.type "type")) (hc : (clsIn K D).isSome = true) (hB : mroIn K D (.type "BaseException") = some true) (hs : mroIn K C (.ref D) = some true)
    (hq : Q true ⟨h, g, d, t, os⟩) : wpAny M A (excMatches (.ref e) (.ref D)) Q E ⟨h, g, d, t, os⟩ := by
  have LY := I.type (M := M)
  have LS := looks_mroIn (M := M) X hs
  have L0 : Looks M h (isSubtype (.type "type") (.type "tuple")) false := Looks.of_pure (by rw [isSubtype_type]; kernel_rfl)
  have LT : Looks M h (isInstance (.ref D) (.type "tuple")) false := (looks_typeIn (M := M) X hD).andThen L0
  have LE : Looks M h (isExcClass (.ref D)) true := by
    unfold isExcClass
    exact (looks_isType (M := M) X hc).andThen (looks_mroIn (M := M) X hB)
  unfold excMatches
  repeat (first | with_reducible refine Looks.at (by assumption) ?_ | wp_step)
  exact hq
end

abbrev bmV : List Value := [.type "ValueError", .type "Exception", .type "BaseException", .type "object"]
/-- an exception class of the text, under ValueError -/
structure EC (K : Frag) (x : Str) (C : Addr) : Prop where
  ns : nsIn K mainGlobals x = some (some (.ref C))
  attr : ClsAttr K C
  ty : typeIn K (.ref C) = some (.type "type")
  be : mroIn K C (.type "BaseException") = some true
  ve : mroIn K C (.type "ValueError") = some true
  exc : excIn K C bmV "ValueError.__new__" = true
theorem EC.mg {c : Cx} {K : Frag} {x : Str} {C : Addr} {h : Heap} (X : K.In h) (T : c.T h) (e : EC K x C) : c.mg x = some (.ref C) := mg_of X T.g e.ns
theorem EC.own {c : Cx} {K : Frag} {x : Str} {C : Addr} {h : Heap} (X : K.In h) (T : c.T h) (e : EC K x C) : OwnCls x C bmV "ValueError.__new__" c.mg h := own_of_in X (topRead_of T) e.ns e.exc

/-- ... that comes from a call -/
def Xp (base : Heap) (outer : List Env) (env : Env) (g : Heap) (L C : Addr) (x : Value) (h' : Heap) : Prop := ∃ e, x = .ref e ∧ ∃ G m, Rz base (env :: outer) G C e h' ∧ Fr g L G m
theorem Xp.b {base : Heap} {outer : List Env} {env : Env} {g : Heap} {L C : Addr} {x : Value} {h' : Heap} (r : Xp base outer env g L C x h') : Xb base outer env g L C x h' := let ⟨e, a, b⟩ := r; ⟨e, a, .inr b⟩
theorem Pt.t {c : Cx} {K : Frag} {A : Around} {base : Heap} {outer : List Env} {g : Heap} (P : Pt c K A base outer g) : c.T g := P.top.keeps P.bel.stays
theorem Pt.k {c : Cx} {K : Frag} {A : Around} {base : Heap} {outer : List Env} {g : Heap} (P : Pt c K A base outer g) : K.In g := P.kin.keeps P.bel.stays

section
variable {c : Cx} {K : Frag} {n : Nat} {f : Str} {C : Addr} {dn : Str} {dp : Arguments} {db : List Stmt} {dsc : Scope} {dps : Pos} {x1 x2 x3 x4 : Str} {d1 d2 d3 d4 : PyData}
theorem fnr1 (hd : (⟨dn, dp, db, dsc, dps⟩ : DefRec) ∈ recsOf c.p ∧ dn = f)
    (hb : ∀ pm cd doc (v1 : Value), bindArgs (docDef dn dp db dsc pm cd doc) ⟨[v1], []⟩ = pure [(x1, v1)])
    (k : ∀ (A : Around) (base : Heap) (outer : List Env) (g h : Heap) (L fa : Addr) (cd : Value), Pt c K A base outer g → Rm (A.deeper (envOf dn dsc L fa cd)) n → St g L h [(x1, d1)] none →
      Run c.M (A.deeper (envOf dn dsc L fa cd)) (envOf dn dsc L fa cd) [] db h (fun _ _ => False) (Xb base outer (envOf dn dsc L fa cd) g L C))
    (hnd : [x1].Nodup := by decide +kernel) (hloc : ∀ x ∈ [x1], dsc.names.lookup x = some .local := by decide +kernel)
    (hco : dsc.isCoroutine = false := by rfl) (hgen : dsc.isGenerator = false := by rfl) (hk : dsc.kind = .function := by rfl) (hcell : ∀ x ∈ dsc.names, x.2 ≠ .cell := by decide +kernel) : FnR c K (n + 1) f [d1] C :=
  fnr_core (xs := [x1]) hd (fun pm cd doc vs h => by obtain ⟨v1, rfl⟩ := lens1 h; exact hb pm cd doc v1) rfl hnd hloc hco hgen hk hcell k
theorem fnr2 (hd : (⟨dn, dp, db, dsc, dps⟩ : DefRec) ∈ recsOf c.p ∧ dn = f)
    (hb : ∀ pm cd doc (v1 v2 : Value), bindArgs (docDef dn dp db dsc pm cd doc) ⟨[v1, v2], []⟩ = pure [(x1, v1), (x2, v2)])
    (k : ∀ (A : Around) (base : Heap) (outer : List Env) (g h : Heap) (L fa : Addr) (cd : Value), Pt c K A base outer g → Rm (A.deeper (envOf dn dsc L fa cd)) n → St g L h [(x1, d1), (x2, d2)] none →
      Run c.M (A.deeper (envOf dn dsc L fa cd)) (envOf dn dsc L fa cd) [] db h (fun _ _ => False) (Xb base outer (envOf dn dsc L fa cd) g L C))
    (hnd : [x1, x2].Nodup := by decide +kernel) (hloc : ∀ x ∈ [x1, x2], dsc.names.lookup x = some .local := by decide +kernel)
    (hco : dsc.isCoroutine = false := by rfl) (hgen : dsc.isGenerator = false := by rfl) (hk : dsc.kind = .function := by rfl) (hcell : ∀ x ∈ dsc.names, x.2 ≠ .cell := by decide +kernel) : FnR c K (n + 1) f [d1, d2] C :=
  fnr_core (xs := [x1, x2]) hd (fun pm cd doc vs h => by obtain ⟨v1, v2, rfl⟩ := lens2 h; exact hb pm cd doc v1 v2) rfl hnd hloc hco hgen hk hcell k
theorem fnr3 (hd : (⟨dn, dp, db, dsc, dps⟩ : DefRec) ∈ recsOf c.p ∧ dn = f)
    (hb : ∀ pm cd doc (v1 v2 v3 : Value), bindArgs (docDef dn dp db dsc pm cd doc) ⟨[v1, v2, v3], []⟩ = pure [(x1, v1), (x2, v2), (x3, v3)])
    (k : ∀ (A : Around) (base : Heap) (outer : List Env) (g h : Heap) (L fa : Addr) (cd : Value), Pt c K A base outer g → Rm (A.deeper (envOf dn dsc L fa cd)) n → St g L h [(x1, d1), (x2, d2), (x3, d3)] none →
      Run c.M (A.deeper (envOf dn dsc L fa cd)) (envOf dn dsc L fa cd) [] db h (fun _ _ => False) (Xb base outer (envOf dn dsc L fa cd) g L C))
    (hnd : [x1, x2, x3].Nodup := by decide +kernel) (hloc : ∀ x ∈ [x1, x2, x3], dsc.names.lookup x = some .local := by decide +kernel)
    (hco : dsc.isCoroutine = false := by rfl) (hgen : dsc.isGenerator = false := by rfl) (hk : dsc.kind = .function := by rfl) (hcell : ∀ x ∈ dsc.names, x.2 ≠ .cell := by decide +kernel) : FnR c K (n + 1) f [d1, d2, d3] C :=
  fnr_core (xs := [x1, x2, x3]) hd (fun pm cd doc vs h => by obtain ⟨v1, v2, v3, rfl⟩ := lens3 h; exact hb pm cd doc v1 v2 v3) rfl hnd hloc hco hgen hk hcell k
end

section
variable {c : Cx} {K : Frag} {n : Nat} {A : Around} {nm : Str} {sc : Scope} {L fa : Addr} {cd : Value} {g h base : Heap} {outer : List Env} {ρ : Locs} {μ : Mut} {C : Addr} {X : Value → Heap → Prop}
/-- a call that raises -/
theorem ev_callr {k : Nat} {f : Str} {p pos : Pos} {e : Expr} {es : List Expr} {ds : List PyData} {R : Value → Heap → Prop} (S : St g L h ρ μ) (PT : Pt c K A base outer g) (rm : Rm (A.deeper (envOf nm sc L fa cd)) n) (F : FnR c K k f ds C)
    (a : EvL c.M (A.deeper (envOf nm sc L fa cd)) (envOf nm sc L fa cd) h pos (e :: es) ds X)
    (hkn : k ≤ n := by decide) (hX : ∀ y h', Xp base outer (envOf nm sc L fa cd) g L C y h' → X y h' := by first | exact fun _ _ r => r | exact fun _ _ r => Xp.b r)
    (hk : sc.kind = .function := by rfl) (hx : (envOf nm sc L fa cd).kindOf f = some .globalImplicit := by rfl) (hd : (f == ("__debug__" : Str)) = false := by decide)
    (he : pl e = true := by rfl) :
    Ev c.M (A.deeper (envOf nm sc L fa cd)) (envOf nm sc L fa cd) h (.Call (.Name f p) (e :: es) [] pos) R X := by
  refine ⟨fun s Q E k q x => ?_⟩
  obtain ⟨m, F0, _⟩ := (S.keep k).ex
  obtain ⟨dr, hdr, hn⟩ := F.isDef
  obtain ⟨a', o, pm, cd', doc, h1, h2, h3, h4⟩ := PT.t.fn dr hdr
  rw [hn] at h1
  refine wpAny_Call_NameR (ld_global_at F0 PT.t.g h1 ?_ hk hx hd)
  refine callWith_def h3 (a.seq k (fun vs h' i k' r => ?_) x) (pl_star he)
  refine ⟨k' _ _ (F0.keep _ _ h2), ?_⟩
  have F1 := F0.after k'
  exact F.run (A.deeper (envOf nm sc L fa cd)) base (envOf nm sc L fa cd :: outer) h' vs a' ⟨PT.bel.push F1 hk, PT.kin, PT.top⟩ (rm.less hkn) h1 r { s with heap := h', toks := i } Q E rfl (fun e h2 j rz => x (.ref e) h2 j (hX _ _ ⟨e, rfl, h', m, rz, F1⟩))
variable {Ws : List Addr} {P : Flow → Heap → Prop} {rest : List Stmt}
theorem run_exprx {pos : Pos} {e : Expr} (ev : Ev c.M A (envOf nm sc L fa cd) h e (fun _ _ => False) X) (hi : interactive (envOf nm sc L fa cd) = false := by rfl) (hs : pl e = true := by rfl) : Run c.M A (envOf nm sc L fa cd) Ws (.Expr e pos :: rest) h P X := run_expr ev (fun _ _ _ r => r.elim) hi hs

/-- raise -/
theorem run_raise {x : Str} {np cpos pos : Pos} {e : Expr} {d : PyData} (S : St g L h ρ μ) (T : c.T g) (X : K.In g) (O : EC K x C) (hh : A.handled = none) (ev : Ev c.M A (envOf nm sc L fa cd) h e (Rd d) (Xb base outer (envOf nm sc L fa cd) g L C))
    (hk : sc.kind = .function := by rfl) (hx : (envOf nm sc L fa cd).kindOf x = some .globalImplicit := by rfl) (hd : (x == ("__debug__" : Str)) = false := by decide) (he : pl e = true := by rfl) :
    Run c.M A (envOf nm sc L fa cd) Ws (.Raise (some (.Call (.Name x np) [e] [] cpos)) none pos :: rest) h P (Xb base outer (envOf nm sc L fa cd) g L C) := by
  refine ⟨fun s Q E es po q x' => ?_⟩; subst es
  obtain ⟨m, F, _⟩ := S.ex
  refine wpAny_execs_cons (Raise_own F T.g (O.own X T) PySem.F.excBase_ValueError hh ?_ (pl_star he) rfl hk hx hd)
  refine (evl_cons ev evl_nil he).go s _ E Keep.rfl (fun vs h' i k r => ⟨?_, ?_, fun h2 e' hm => ?_⟩) x'
  · rw [r.len]; show 1 ≤ sizeLine; decide
  · exact fun b o hb => k b o (F.keep b o hb)
  · exact x' (.ref e') h2 i ⟨e', rfl, .inl ⟨h', m, vs, hm, F.after k⟩⟩
end
end Mine

namespace Mine
open PySem PySem.Spec PySem.Calls PyProof.Rows PySem.W

/-- all stands as it stood, but for the slots of the frames -/
def Tn (fs : List Addr) (h h' : Heap) : Prop := (∀ b o, h.get? b = some o → b ∉ fs → h'.get? b = some o) ∧ (∀ b o, h.get? b = some o → b ∈ fs → ∃ sl, h'.get? b = some { o with slots := sl })
theorem Keep.tn {fs : List Addr} {h h' : Heap} (k : Keep h h') : Tn fs h h' := ⟨fun b o e _ => k b o e, fun b o e _ => ⟨o.slots, k b o e⟩⟩
abbrev frs (l : List Env) : List Addr := l.filterMap (·.frame)

/-- a frame's name that holds an object -/
def Sv (g : Heap) (L : Addr) (h : Heap) (x : Str) (v : Value) : Prop := ∃ m, Fr g L h m ∧ m x = some v
theorem Sv.keep {g : Heap} {L : Addr} {h h' : Heap} {x : Str} {v : Value} (S : Sv g L h x v) (k : Keep h h') : Sv g L h' x v := let ⟨m, F, e⟩ := S; ⟨m, F.after k, e⟩
theorem Sv.st {g : Heap} {L : Addr} {h : Heap} {x : Str} {v : Value} (S : Sv g L h x v) : St g L h [] none := let ⟨m, F, _⟩ := S; ⟨m, F, fun _ _ e => (nomatch e), fun _ e => (nomatch e)⟩

/-- a call that catches what is raised within -/
structure FnC (c : Cx) (K : Frag) (n : Nat) (f : Str) (ds : List PyData) (d : PyData) : Prop where
  isDef : ∃ dr ∈ recsOf c.p, dr.name = f
  run : ∀ (A : Around) (base : Heap) (outer : List Env) (h : Heap) (vs : List Value) (a : Addr), Pt c K A base outer h → Rm A n → c.mg f = some (.ref a) → RdL ds vs h → ∀ (s : Shared) (Q : Value → Shared → Prop) (E : Value → Shared → Prop), s.heap = h →
    (∀ v h' k, Tn (frs outer) h h' → Rd d v h' → Q v { s with heap := h', toks := k }) → wpAny c.M A (call (.ref a) vs) Q E s
/-- statements that catch -/
structure RunC (M : Model) (A : Around) (env : Env) (fs : List Addr) (g : Heap) (ss : List Stmt) (h : Heap) (d : PyData) : Prop where
  go : ∀ (s : Shared) (Q : Flow → Shared → Prop) (E : Value → Shared → Prop), s.heap = h → (∀ v h' k, Tn fs g h' → Rd d v h' → Q (.ret v) { s with heap := h', toks := k }) → wpAny M A (execs ss env) Q E s

section
variable {c : Cx} {K : Frag} {n : Nat} {f : Str} {ds : List PyData} {d : PyData}
theorem fnc_core {dn : Str} {dp : Arguments} {db : List Stmt} {dsc : Scope} {dps : Pos} {xs : List Str} (hd : (⟨dn, dp, db, dsc, dps⟩ : DefRec) ∈ recsOf c.p ∧ dn = f)
    (hb : ∀ pm cd doc (vs : List Value), vs.length = ds.length → bindArgs (docDef dn dp db dsc pm cd doc) ⟨vs, []⟩ = pure (xs.zip vs))
    (hlen : xs.length = ds.length) (hnd : xs.Nodup) (hloc : ∀ x ∈ xs, dsc.names.lookup x = some .local)
    (hco : dsc.isCoroutine = false) (hgen : dsc.isGenerator = false) (hk : dsc.kind = .function) (hcell : ∀ x ∈ dsc.names, x.2 ≠ .cell)
    (k : ∀ (A : Around) (base : Heap) (outer : List Env) (g h : Heap) (L fa : Addr) (cd : Value), Pt c K A base outer g → Rm (A.deeper (envOf dn dsc L fa cd)) n → St g L h (zipL xs ds) none →
      RunC c.M (A.deeper (envOf dn dsc L fa cd)) (envOf dn dsc L fa cd) (frs outer) g db h d) : FnC c K (n + 1) f ds d := by
  obtain ⟨hd, hn⟩ := hd
  refine ⟨⟨_, hd, hn⟩, ?_⟩
  intro A base outer h vs a PT rm ha r s Q E es x
  subst es
  have T : c.T s.heap := PT.t
  obtain ⟨a', o, pm, cd, doc, h1, h2, h3, h4⟩ := T.fn ⟨dn, dp, db, dsc, dps⟩ hd
  dsimp only at h1 h3 h4
  rw [hn, ha] at h1; cases h1
  refine wpAny_call (call_plain (by have := rm.dep; (first | lia | omega)) h2 h3 T.nolimit h4 (hb pm cd doc vs (r.len)) (fun y hy => hloc _ (List.of_mem_zip (a := y.1) (b := y.2) hy).1) (fun h₁ F => ?_) hco hgen hk hcell)
  have S : St s.heap s.heap.objs.size h₁ (zipL xs ds) none := by
    refine ⟨_, F, fun x d e => ?_, fun q e => nomatch e⟩
    obtain ⟨v, as, e', r'⟩ := zip_reads r hnd hlen x d e
    refine ⟨v, as, e', PyProof.Rows.Reads.keeps F.keep r', fun hL => ?_, fun q e => nomatch e⟩
    obtain ⟨o, ho⟩ := reads_some r' _ hL
    exact absurd (Heap.lt_size ho) (Nat.lt_irrefl _)
  exact (k A base outer s.heap h₁ _ a cd PT rm.deeper S).go _ _ _ rfl (fun v h' i tn rd => x v h' i tn rd)
end

section
variable {c : Cx} {K : Frag} {n : Nat} {A : Around} {nm : Str} {sc : Scope} {L fa : Addr} {cd : Value} {g h base : Heap} {outer : List Env} {ρ : Locs} {μ : Mut} {C D : Addr} {d : PyData}
theorem rc_try {e : Expr} {x : Str} {np ep hp pos : Pos} {rest suite : List Stmt} {s₀ : Stmt} (S : St g L h ρ μ) (PT : Pt c K A base outer g) (OD : EC K x D) (hsub : mroIn K C (.ref D) = some true)
    (ev : Ev c.M (A.deeper (envOf nm sc L fa cd)) (envOf nm sc L fa cd) h e (fun _ _ => False) (Xp base outer (envOf nm sc L fa cd) g L C))
    {v : Str} (k : ∀ x' g' h', Pt c K A base outer g' → Sv g' L h' v (.ref x') → Ex h' x' C →
      Run c.M ((A.deeper (envOf nm sc L fa cd)).mark (some (.ref x'))) (envOf nm sc L fa cd) [] (s₀ :: suite) h' (fun fl h2 => ∃ u, fl = .ret u ∧ Rd d u h2 ∧ St g' L h2 [] none) NoX)
    (hf : flat d = true := by rfl) (hk : sc.kind = .function := by rfl) (hlo : (envOf nm sc L fa cd).kindOf v = some .local := by rfl) (hx : (envOf nm sc L fa cd).kindOf x = some .globalImplicit := by rfl) (hd : (x == ("__debug__" : Str)) = false := by decide)
    (hi : interactive (envOf nm sc L fa cd) = false := by rfl) (hs : pl e = true := by rfl) :
    RunC c.M (A.deeper (envOf nm sc L fa cd)) (envOf nm sc L fa cd) (frs outer) g (.Try [.Expr e ep] [.ExceptHandler (some (.Name x np)) (some v) (s₀ :: suite) hp] [] [] pos :: rest) h d := by
  refine ⟨fun s Q E es q => ?_⟩
  subst es
  refine wpAny_execs_cons (wpAny_Try_except (wpAny_execs_cons (wpAny_Expr_any (ev.go s _ _ Keep.rfl (fun _ _ _ _ r => r.elim) (fun z h' i r => ?_)) hi (pl_swaps hs))))
  obtain ⟨ex, rfl, G, m, ⟨t, ws, ⟨⟨B, hB, hBG, hl, hfl, hnew⟩, htup⟩, hsm⟩, F⟩ := r
  refine wpAny_looks_onW (Around.frames_deeper PT.bel.stack) rfl hfl fun h₄ hheld₄ hsm₄ => ?_
  refine wpAny_landsW hheld₄ fun h₅ hheld hsm₅' => ?_
  have hsm₅ := hsm₄.trans hsm₅'
  obtain ⟨g₅, T₅, F₅, K₅⟩ := kts_ground PT.bel F hBG hheld.1 (hsm.trans hsm₅)
  have X₅ : K.In g₅ := PT.kin.keeps K₅.stays
  have P₅ : c.T g₅ := PT.top.keeps K₅.stays
  obtain ⟨ob, hob, hobc⟩ := hheld.there
  refine wpAny_handleBy_cons (codeAny_handlers_test (name_K F₅ X₅ (topRead_of P₅) OD.ns ?_ hk hx hd)) (by intro q; cases q)
  refine exc_matches (X₅.keeps F₅.keep) ⟨ob, hob, hobc⟩ OD.ty OD.attr.cls OD.be hsub (codeAny_handlers_suite_as ?_)
  refine lands_againW hheld fun h₆ hfl₆ hsm₆ => ?_
  obtain ⟨g₆, T₆, F₆, K₆⟩ := kts_ground PT.bel F hBG hfl₆.1 ((hsm.trans hsm₅).trans hsm₆)
  obtain ⟨oe, hoe, hoec⟩ := hfl₆.there
  have hne : ∀ h7, Heap.SameBut L h₆ h7 → Ex h7 ex C := fun h7 sb => by
    refine ⟨oe, ?_, hoec⟩
    rw [sb.2 ex ?_]; exact hoe
    intro eL
    obtain ⟨oe', ws', T', oT, ts, a1, a2, a3, _⟩ := hfl₆.2.2.2
    obtain ⟨o, es', ep', ho, hdt, _⟩ := F₆.ns
    rw [← eL, a1] at ho; cases ho
    rw [a3] at hdt; cases hdt
  refine wpAny_storeName_local hlo F₆.ns (fun h₇ hn₇ hs₇ => ?_) (by show (sc.kind == .class || (sc.kind == .module && L != mainGlobals)) = false; rw [hk]; rfl)
  have F₇ := F₆.set hn₇ hs₇
  refine wpAny_noRaise ((k ex g₆ h₇ ⟨K₆, PT.kin, PT.top⟩ ⟨_, F₇, by simp⟩ (hne _ hs₇)).go _ _ _ rfl PassesOwn.never (fun fl h₈ i₈ kp₈ p => ?_) (fun _ _ _ r => r))
  obtain ⟨u, rfl, ⟨as, ru⟩, S₈⟩ := p
  have eas := flat_nil hf ru
  subst eas
  obtain ⟨m₈, F₈, _⟩ := S₈.ex
  refine wpAny_nameGoes hlo F₈.ns (by show (sc.kind == .class || (sc.kind == .module && L != mainGlobals)) = false; rw [hk]; rfl) (fun h₉ m₉ hn₉ hs₉ => ?_)
  have kp₉ : Kp [L] h₈ h₉ := kp_same hs₉
  have k₉ : Keep g₆ h₉ := fun b o e => kp₉ b o (by
    intro hb
    rw [List.mem_singleton] at hb
    rw [hb, kts_self F₈] at e; cases e) (F₈.keep b o e)
  refine q u h₉ _ ⟨fun b o e nb => k₉ b o (T₆.other b o e nb), fun b o e hb => ?_⟩ ⟨[], reads_kp kp₉ (fun a ha => ?_) ru⟩
  · obtain ⟨sl, hsl⟩ := T₆.frame b o e hb
    exact ⟨sl, k₉ _ _ hsl⟩
  · rw [List.mem_singleton] at ha; subst ha
    exact .inr ⟨List.not_mem_nil, noTup_L F₈⟩
/-- the name of the object that was caught -/
theorem ev_exv {x : Str} {pos : Pos} {v : Value} {A' : Around} {X : Value → Heap → Prop} (S : Sv g L h x v) (hk : sc.kind = .function := by rfl) (hl : (envOf nm sc L fa cd).kindOf x = some .local := by rfl)
    (hd : (x == ("__debug__" : Str)) = false := by decide) : Ev c.M A' (envOf nm sc L fa cd) h (.Name x pos) (fun u _ => u = v) X :=
  EvT.ofS fun s Q E k q => by
    obtain ⟨m, F, hm⟩ := S.keep k
    exact ld F hm (q v s.toks rfl) hk hl hd
end

section
variable {c : Cx} {K : Frag} {n : Nat} {f : Str} {d : PyData} {dn : Str} {dp : Arguments} {db : List Stmt} {dsc : Scope} {dps : Pos} {x1 x2 x3 x4 : Str} {d1 d2 d3 d4 : PyData}
end

section
variable {c : Cx} {K : Frag} {A : Around} {nm : Str} {sc : Scope} {L fa : Addr} {cd : Value} {g h : Heap} {ρ : Locs} {μ : Mut} {X : Value → Heap → Prop} {C D : Addr}
/-- isinstance of what was caught, by a class of the text -/
theorem ev_isx {v x y : Str} {fp vp xp pos : Pos} {e : Addr} {b : Bool} (T : c.T g) (B : Bn c) (KX : K.In g) (S : Sv g L h v (.ref e)) (I : Ex h e C) (OC : EC K y C) (OD : EC K x D) (hsub : mroIn K C (.ref D) = some b) (hself : C = D → b = true)
    (hk : sc.kind = .function := by rfl) (hg : (envOf nm sc L fa cd).kindOf (Str.ofString "isinstance") = some .globalImplicit := by rfl) (hl : (envOf nm sc L fa cd).kindOf v = some .local := by rfl)
    (hx : (envOf nm sc L fa cd).kindOf x = some .globalImplicit := by rfl) (hdv : (v == ("__debug__" : Str)) = false := by decide) (hdx : (x == ("__debug__" : Str)) = false := by decide) :
    Ev c.M A (envOf nm sc L fa cd) h (.Call (.Name (Str.ofString "isinstance") fp) [.Name v vp, .Name x xp] [] pos) (Rd (.bool b)) X := by
  refine ⟨fun s Q E k q x' => ?_⟩
  have S' := S.keep k
  refine wpAny_Call_NameR ((ev_bname (x := "isinstance") S'.st T B (by decide) (v := .builtin "isinstance") (by decide +kernel) (by decide) hk hg (by decide)).seq (E := E) Keep.rfl (fun u h1 i k1 r => ?_) x')
  subst r
  refine callWith_builtin1 ?_ rfl rfl
  refine PyProof.Rows.args_cons ((ev_exv (c := c) (S'.keep k1) hk hl hdv (X := X)).go _ _ E Keep.rfl (fun u h2 j k2 r => ?_) (fun y h' i r => x' y h' i r)) rfl
  subst r
  refine PyProof.Rows.args_cons ((ev_gname ((S'.keep k1).keep k2).st T (OD.mg KX T) hk hx hdx (X := X)).go _ _ E Keep.rfl (fun u h3 j k3 r => ?_) (fun y h' i r => x' y h' i r)) rfl
  subst r
  refine PyProof.Rows.args_nil ?_
  have k123 := k1.trans (k2.trans k3)
  have kk := k.trans k123
  obtain ⟨m, F, _⟩ := S'.keep k123
  have KX3 : K.In h3 := KX.keeps F.keep
  refine isx_call (s := { s with heap := h3, toks := j }) KX3 (I.keep kk) OC.attr (fun _ _ X' => looks_typeIn X' OD.ty) (fun _ _ X' => looks_isType X' OD.attr.cls) (fun e => hself ?_) hsub (fun i' => q _ h3 i' k123 ⟨_, .bool b⟩)
  have := beq_iff_eq.mp e
  cases this; rfl
/-- ... by ValueError -/
theorem ev_isv {v y : Str} {fp vp xp pos : Pos} {e : Addr} (T : c.T g) (B : Bn c) (KX : K.In g) (S : Sv g L h v (.ref e)) (I : Ex h e C) (OC : EC K y C)
    (hk : sc.kind = .function := by rfl) (hg : (envOf nm sc L fa cd).kindOf (Str.ofString "isinstance") = some .globalImplicit := by rfl) (hl : (envOf nm sc L fa cd).kindOf v = some .local := by rfl)
    (hx : (envOf nm sc L fa cd).kindOf (Str.ofString "ValueError") = some .globalImplicit := by rfl) (hdv : (v == ("__debug__" : Str)) = false := by decide) :
    Ev c.M A (envOf nm sc L fa cd) h (.Call (.Name (Str.ofString "isinstance") fp) [.Name v vp, .Name (Str.ofString "ValueError") xp] [] pos) (Rd (.bool true)) X := by
  refine ⟨fun s Q E k q x' => ?_⟩
  have S' := S.keep k
  refine wpAny_Call_NameR ((ev_bname (x := "isinstance") S'.st T B (by decide) (v := .builtin "isinstance") (by decide +kernel) (by decide) hk hg (by decide)).seq (E := E) Keep.rfl (fun u h1 i k1 r => ?_) x')
  subst r
  refine callWith_builtin1 ?_ rfl rfl
  refine PyProof.Rows.args_cons ((ev_exv (c := c) (S'.keep k1) hk hl hdv (X := X)).go _ _ E Keep.rfl (fun u h2 j k2 r => ?_) (fun y h' i r => x' y h' i r)) rfl
  subst r
  refine PyProof.Rows.args_cons ((ev_bname (x := "ValueError") ((S'.keep k1).keep k2).st T B (by decide) (v := .type "ValueError") (by decide +kernel) (by decide) hk hx (by decide) (X := X)).go _ _ E Keep.rfl (fun u h3 j k3 r => ?_) (fun y h' i r => x' y h' i r)) rfl
  subst r
  refine PyProof.Rows.args_nil ?_
  have k123 := k1.trans (k2.trans k3)
  have kk := k.trans k123
  obtain ⟨m, F, _⟩ := S'.keep k123
  have KX3 : K.In h3 := KX.keeps F.keep
  exact isx_call (s := { s with heap := h3, toks := j }) KX3 (I.keep kk) OC.attr (fun _ _ _ => Looks.of_pure (by kernel_rfl)) (fun _ _ _ => Looks.of_pure rfl) (fun _ => rfl) OC.ve (fun i' => q _ h3 i' k123 ⟨_, .bool true⟩)
end

/-- the law's own statements: in the end a True, and what stood stands -/
structure RunW (M : Model) (A : Around) (env : Env) (g : Heap) (ss : List Stmt) (h : Heap) : Prop where
  go : ∀ (s : Shared) (Q : Flow → Shared → Prop) (E : Value → Shared → Prop), s.heap = h → PassesOwn M A env E → (∀ h' k, Keep g h' → Q (.ret (.bool true)) { s with heap := h', toks := k }) → wpAny M A (execs ss env) Q E s
structure FnW (c : Cx) (K : Frag) (f : Str) (ds : List PyData) : Prop where
  run : ∀ (h : Heap) (vs : List Value) (a : Addr), c.T h → K.In h → c.mg f = some (.ref a) → RdL ds vs h → ∀ (s : Shared) (Q : Value → Shared → Prop) (E : Value → Shared → Prop), s.heap = h →
    (∀ h' k, Keep h h' → Q (.bool true) { s with heap := h', toks := k }) → wpAny c.M callerA (call (.ref a) vs) Q E s

section
variable {c : Cx} {K : Frag} {n : Nat} {f : Str} {dn : Str} {dp : Arguments} {db : List Stmt} {dsc : Scope} {dps : Pos} {x1 : Str} {d1 : PyData}
theorem fnw1 (hd : (⟨dn, dp, db, dsc, dps⟩ : DefRec) ∈ recsOf c.p ∧ dn = f)
    (hb : ∀ pm cd doc (v1 : Value), bindArgs (docDef dn dp db dsc pm cd doc) ⟨[v1], []⟩ = pure [(x1, v1)])
    (k : ∀ (g h : Heap) (L fa : Addr) (cd : Value), Pt c K callerA g [] g → Rm (callerA.deeper (envOf dn dsc L fa cd)) n → St g L h [(x1, d1)] none →
      RunW c.M (callerA.deeper (envOf dn dsc L fa cd)) (envOf dn dsc L fa cd) g db h)
    (hr : n + 1 ≤ 600 := by decide)
    (hnd : [x1].Nodup := by decide +kernel) (hloc : ∀ x ∈ [x1], dsc.names.lookup x = some .local := by decide +kernel)
    (hco : dsc.isCoroutine = false := by rfl) (hgen : dsc.isGenerator = false := by rfl) (hk : dsc.kind = .function := by rfl) (hcell : ∀ x ∈ dsc.names, x.2 ≠ .cell := by decide +kernel) : FnW c K f [d1] := by
  obtain ⟨hd, hn⟩ := hd
  refine ⟨fun h vs a T KX ha r s Q E es q => ?_⟩
  subst es
  have rm : Rm callerA (n + 1) := rm_caller hr
  obtain ⟨a', o, pm, cd, doc, h1, h2, h3, h4⟩ := T.fn ⟨dn, dp, db, dsc, dps⟩ hd
  dsimp only at h1 h3 h4
  rw [hn, ha] at h1; cases h1
  refine wpAny_call (call_plain (binds := [x1].zip vs) (by have := rm.dep; (first | lia | omega)) h2 h3 T.nolimit h4 (by obtain ⟨v1, rfl⟩ := lens1 r.len; exact hb pm cd doc v1) (fun y hy => hloc _ (List.of_mem_zip (a := y.1) (b := y.2) hy).1) (fun h₁ F => ?_) hco hgen hk hcell)
  have S : St s.heap s.heap.objs.size h₁ [(x1, d1)] none := by
    refine ⟨_, F, fun x d e => ?_, fun q e => nomatch e⟩
    obtain ⟨v, as, e', r'⟩ := zip_reads (xs := [x1]) (ds := [d1]) r hnd rfl x d e
    refine ⟨v, as, e', PyProof.Rows.Reads.keeps F.keep r', fun hL => ?_, fun q e => nomatch e⟩
    obtain ⟨o, ho⟩ := reads_some r' _ hL
    exact absurd (Heap.lt_size ho) (Nat.lt_irrefl _)
  exact (k s.heap h₁ _ a cd ⟨below_caller _, KX, T⟩ rm.deeper S).go _ _ _ rfl PassesOwn.leaving (fun h' i kp => q h' i kp)
theorem law_endW {s₁ : Shared} {fa l : Addr} {d : PyData} {as : List Addr} {cl : Str → Option Addr} {mean : ExcName → Option Value} {args : List WData} {cm : ClaimW} {nm : Str} (F : FnW c K nm [d]) (T : c.T s₁.heap) (KX : K.In s₁.heap) (hmg : c.mg nm = some (.ref fa))
    (r0 : Reads s₁.heap (.ref l) d as) (hg : s₁.gens = #[]) (hn : ∀ cls, cm.raises args cls = false) (hp : cm.post args (.bool true) args = true) :
    wpAny c.M callerA (call (.ref fa) [.ref l]) (fun v s' => GoodWG cm cl mean args s₁ (.ok (.ret v)) s') (fun e s' => GoodWG cm cl mean args s₁ (.error e) s') s₁ := by
  refine F.run s₁.heap [.ref l] fa T KX hmg ⟨_, .cons r0 .nil⟩ s₁ _ _ rfl (fun h' k kk => ?_)
  exact GoodW.toG ⟨.inl ⟨_, .bool true, [], rfl, hn, .bool true, hp, fun _ => ⟨.nil, fun _ ha => nomatch ha⟩⟩, kk, rfl, hg⟩
end

section
variable {c : Cx} {K : Frag} {n : Nat} {A : Around} {nm : Str} {sc : Scope} {L fa : Addr} {cd : Value} {g h : Heap} {ρ : Locs} {μ : Mut} {rest : List Stmt}
/-- ... by a call that catches -/
theorem rw_retc {k : Nat} {f : Str} {p pos rp : Pos} {e : Expr} {es : List Expr} {ds : List PyData} (S : St g L h ρ μ) (PT : Pt c K callerA g [] g) (rm : Rm (callerA.deeper (envOf nm sc L fa cd)) n) (F : FnC c K k f ds (.bool true))
    (a : EvL c.M (callerA.deeper (envOf nm sc L fa cd)) (envOf nm sc L fa cd) h pos (e :: es) ds NoX)
    (hkn : k ≤ n := by decide)
    (hk : sc.kind = .function := by rfl) (hx : (envOf nm sc L fa cd).kindOf f = some .globalImplicit := by rfl) (hd : (f == ("__debug__" : Str)) = false := by decide)
    (he : pl e = true := by rfl) :
    RunW c.M (callerA.deeper (envOf nm sc L fa cd)) (envOf nm sc L fa cd) g (.Return (some (.Call (.Name f p) (e :: es) [] pos)) rp :: rest) h := by
  refine ⟨fun s Q E es po q => ?_⟩; subst es
  refine wpAny_execs_cons (wpAny_Return_some ?_)
  obtain ⟨m, F0, _⟩ := S.ex
  obtain ⟨dr, hdr, hn⟩ := F.isDef
  obtain ⟨a', o, pm, cd', doc, h1, h2, h3, h4⟩ := PT.t.fn dr hdr
  rw [hn] at h1
  refine wpAny_Call_NameR (ld_global_at F0 PT.t.g h1 ?_ hk hx hd)
  refine callWith_def h3 (a.seq Keep.rfl (fun vs h' i k' r => ?_) (fun _ _ _ x => x.elim)) (pl_star he)
  refine ⟨k' _ _ (F0.keep _ _ h2), ?_⟩
  have F1 := F0.after k'
  refine F.run (callerA.deeper (envOf nm sc L fa cd)) g [envOf nm sc L fa cd] h' vs a' ⟨PT.bel.push F1 hk, PT.kin, PT.top⟩ (rm.less hkn) h1 r { s with heap := h', toks := i } _ _ rfl (fun v h2 j tn rd => ?_)
  cases rd_bool rd
  refine q h2 j (fun b o e => tn.1 b o (F1.keep b o e) fun hb => ?_)
  have hb' : b ∈ [L] := hb
  rw [List.mem_singleton] at hb'
  rw [hb', kts_self F1] at e; cases e
/-- ... a name -/
theorem rw_assign {x : Str} {px pos : Pos} {e : Expr} {d : PyData} (S : St g L h ρ μ) (ev : Ev c.M A (envOf nm sc L fa cd) h e (Rf h d) NoX)
    (k : ∀ h', St g L h' ((x, d) :: ρ) μ → RunW c.M A (envOf nm sc L fa cd) g rest h')
    (hμ : ∀ q, μ = some q → q.1 ≠ x := by intro q e; first | (cases e; done) | (cases e; dsimp only; decide)) (hk : sc.kind = .function := by rfl) (hl : (envOf nm sc L fa cd).kindOf x = some .local := by rfl)
    (hs : pl e = true := by rfl) : RunW c.M A (envOf nm sc L fa cd) g (.Assign [.Name x px] e pos :: rest) h := by
  refine ⟨fun s Q E es po q => ?_⟩; subst es
  refine wpAny_execs_cons (wpAny_Assign_Name (ev.go s _ E Keep.rfl (fun v h1 i k1 r => ?_) (fun _ _ _ x => x.elim)) (pl_swaps hs))
  obtain ⟨m, F, hr, hm⟩ := (S.keep k1).ex
  obtain ⟨as, r, hf⟩ := r
  refine wpAny_storeName_local hl F.ns (fun h' hn hsb => ?_) (by show (sc.kind == .class || (sc.kind == .module && L != mainGlobals)) = false; rw [hk]; rfl)
  have S' : St g L h' ((x, d) :: ρ) μ := by
    refine (S.keep k1).store hμ F r (fun hL => ?_) (fun q e hl => ?_) hn hsb
    · obtain ⟨m0, F0, _⟩ := S.ex
      obtain ⟨o, ho⟩ := L_some F0
      rw [hf L hL] at ho; cases ho
    · obtain ⟨m0, F0, _, hm0⟩ := S.ex
      obtain ⟨_, _, _, items, ⟨n, p⟩, _⟩ := hm0 q e
      rw [hf _ hl] at p; cases p
  exact (k h' S').go _ Q E rfl po (fun h2 j kp => q h2 j kp)
theorem rw_set {x : Str} {px pos : Pos} {e : Expr} {d : PyData} (S : St g L h ρ μ) (ev : Ev c.M A (envOf nm sc L fa cd) h e (Rd d) NoX)
    (k : ∀ h', St g L h' ((x, d) :: ρ) μ → RunW c.M A (envOf nm sc L fa cd) g rest h') (hf : flat d = true := by rfl)
    (hμ : ∀ q, μ = some q → q.1 ≠ x := by intro q e; first | (cases e; done) | (cases e; dsimp only; decide)) (hk : sc.kind = .function := by rfl) (hl : (envOf nm sc L fa cd).kindOf x = some .local := by rfl)
    (hs : pl e = true := by rfl) : RunW c.M A (envOf nm sc L fa cd) g (.Assign [.Name x px] e pos :: rest) h :=
  rw_assign S (ev.mono fun _ _ _ r => .of_flat hf r) k hμ hk hl hs
/-- ... a branch that ends the law -/
theorem rw_if {test : Expr} {body : List Stmt} {pos : Pos} {b : Bool} (S : St g L h ρ μ) (t : Tr c.M A (envOf nm sc L fa cd) h test b NoX)
    (k1 : b = true → ∀ h', St g L h' ρ μ → RunW c.M A (envOf nm sc L fa cd) g body h')
    (k2 : b = false → ∀ h', St g L h' ρ μ → RunW c.M A (envOf nm sc L fa cd) g rest h') :
    RunW c.M A (envOf nm sc L fa cd) g (.If test body [] pos :: rest) h := by
  refine ⟨fun s Q E es po q => ?_⟩; subst es
  refine wpAny_execs_cons (wpAny_If (t.go s _ E Keep.rfl (fun c' h1 i k' r => ?_) (fun _ _ _ x => x.elim)))
  subst r
  cases c' with
  | true => exact (k1 rfl h1 (S.keep k')).go _ _ E rfl po (fun h2 j kp => q h2 j kp)
  | false => exact wpAny_execs_nil ((k2 rfl h1 (S.keep k')).go _ Q E rfl po (fun h2 j kp => q h2 j kp))
/-- ... a branch that goes on -/
theorem rw_ifJ {test : Expr} {body orelse : List Stmt} {pos : Pos} {b : Bool} (J : Heap → Prop) (S : St g L h ρ μ) (t : Tr c.M A (envOf nm sc L fa cd) h test b NoX)
    (k1 : b = true → ∀ h', St g L h' ρ μ → Run c.M A (envOf nm sc L fa cd) [] body h' (fun fl h2 => fl = .next ∧ J h2) NoX)
    (k2 : b = false → ∀ h', St g L h' ρ μ → Run c.M A (envOf nm sc L fa cd) [] orelse h' (fun fl h2 => fl = .next ∧ J h2) NoX)
    (k3 : ∀ h', J h' → RunW c.M A (envOf nm sc L fa cd) g rest h') :
    RunW c.M A (envOf nm sc L fa cd) g (.If test body orelse pos :: rest) h := by
  refine ⟨fun s Q E es po q => ?_⟩; subst es
  refine wpAny_execs_cons (wpAny_If (t.go s _ E Keep.rfl (fun c' h1 i k' r => ?_) (fun _ _ _ x => x.elim)))
  subst r
  have fin : ∀ (ss : List Stmt), Run c.M A (envOf nm sc L fa cd) [] ss h1 (fun fl h2 => fl = .next ∧ J h2) NoX →
      wpAny c.M A (execs ss (envOf nm sc L fa cd)) (fun f s' => match f with | .next => wpAny c.M A (execs rest (envOf nm sc L fa cd)) Q E s' | f => Q f s') E { s with heap := h1, toks := i } := by
    intro ss r
    refine r.go _ _ E rfl po (fun fl h2 j kp p => ?_) (fun _ _ _ x => x.elim)
    obtain ⟨rfl, hj⟩ := p
    exact (k3 h2 hj).go _ Q E rfl po (fun h3 j kp => q h3 j kp)
  cases c' with
  | true => exact fin _ (k1 rfl h1 (S.keep k'))
  | false => exact fin _ (k2 rfl h1 (S.keep k'))
end
end Mine

namespace Mine
open PySem PySem.Spec PySem.Calls PyProof.Rows PySem.W

section
variable {prog : Program} {w : World} {A : Around} {env : Env} {h : Heap} {X : Value → Heap → Prop} {n : Nat}
theorem dmin {a b c : Nat} (h : b ≤ c) : min a b ≤ c := Nat.le_trans (Nat.min_le_right _ _) h
theorem op_notin {d : PyData} {xs : List PyData} {v1 v2 : Value} {h' : Heap} (rm : Rm A n) (r1 : Rd d v1 h') (r2 : Rd (.tuple xs) v2 h') (hxs : PyData.canLayAll0 xs = true) (hd : SeqAt.shaped d = true) :
    EvT (model prog w) A h' (compareOp .NotIn v1 v2) (Rd (.bool (!xs.any fun y => PyData.eqv y d))) X := by
  obtain ⟨as, x⟩ := r1; obtain ⟨bs, y⟩ := r2
  have := rm.un
  have := dmin (a := PyData.depthAll xs) (SeqAt.depth_of_shaped hd)
  exact EvT.ofS fun s _ _ k q => SeqAt.notIn_tuple_reads (PyProof.Rows.Reads.keeps k y) (PyProof.Rows.Reads.keeps k x) hxs (SeqAt.canLay_of_shaped hd) (by (first | lia | omega)) (q _ s.toks ⟨_, .bool _⟩)
theorem tr_notin {l r : Expr} {pos : Pos} {d : PyData} {xs : List PyData} (rm : Rm A n) (e1 : Ev (model prog w) A env h l (Rd d) X) (e2 : Ev (model prog w) A env h r (Rd (.tuple xs)) X) (hxs : PyData.canLayAll0 xs = true) (hd : SeqAt.shaped d = true)
    (hm : pl r = true := by rfl) : Tr (model prog w) A env h (.Compare l [.NotIn] [r] pos) (!xs.any fun y => PyData.eqv y d) X := tr_cmp e1 e2 (fun _ _ _ _ r1 r2 => op_notin rm r1 r2 hxs hd) hm
end

section
variable {prog : Program} {w : World} {A : Around} {nm : Str} {sc : Scope} {L fa : Addr} {cd : Value} {g h : Heap} {ρ : Locs} {X : Value → Heap → Prop}
/-- the own list, handed back -/
theorem ev_own {x : Str} {pos : Pos} {l : Addr} {ds : List PyData} (S : St g L h ρ (some (x, l, ds))) (hk : sc.kind = .function := by rfl) (hl : (envOf nm sc L fa cd).kindOf x = some .local := by rfl)
    (hd : (x == ("__debug__" : Str)) = false := by decide) : Ev (model prog w) A (envOf nm sc L fa cd) h (.Name x pos) (Rl g ds) X :=
  EvT.ofS fun s Q E k q => by
    obtain ⟨m, F, _, hm⟩ := (S.keep k).ex
    obtain ⟨hv, hg, _, items, p, r⟩ := hm _ rfl
    exact ld F hv (q _ s.toks ⟨l, items, rfl, p, r, hg⟩) hk hl hd
end

/-- an own class under another -/
structure EU (K : Frag) (x : Str) (C D : Addr) : Prop where
  ec : EC K x C
  sub : mroIn K C (.ref D) = some true
  self : mroIn K C (.ref C) = some true
def wd (b : Bool) : Str := if b then "right" else "left"
def aw : Option Bool → Str
  | none => ""
  | some b => wd b
def runD (s : Bool × Int) : PyData := .tuple [.str (wd s.1), .int s.2]
def pathD (p : Path) : List PyData := p.map runD
theorem pathD_len (p : Path) : (pathD p).length = p.length := by simp [pathD]
theorem pathD_snoc (p : Path) (s : Bool × Int) : pathD (p ++ [s]) = pathD p ++ [runD s] := by simp [pathD]
abbrev PD (a b : Int) : PyData := .tuple [.int a, .int b]
theorem drop_at {α : Type} {l : List α} {i : Nat} {x : α} (h : l[i]? = some x) : l.drop i = x :: l.drop (i + 1) := by
  obtain ⟨hi, rfl⟩ := List.getElem?_eq_some_iff.mp h
  exact List.drop_eq_getElem_cons hi
end Mine

namespace Mine
open PySem PySem.Spec PySem.Calls PyProof.Rows PySem.W

theorem fresh_size {h h' : Heap} (k : Keep h h') : h.get? h'.objs.size = none := by
  cases hq : h.get? h'.objs.size with
  | none => rfl
  | some o => exact absurd (Heap.lt_size (k _ _ hq)) (Nat.lt_irrefl _)

section
variable {prog : Program} {w : World} {A : Around} {env : Env} {h : Heap} {X : Value → Heap → Prop}
/-- list + list -/
theorem ev_addl {l r : Expr} {pos : Pos} {ds es : List PyData} (e1 : Ev (model prog w) A env h l (Rd (.list ds)) X) (e2 : Ev (model prog w) A env h r (Rd (.list es)) X) (hn : ds.length + es.length ≤ sizeLine) :
    Ev (model prog w) A env h (.BinOp l .Add r pos) (Rl h (ds ++ es)) X := ev_bin e1 e2 fun v1 v2 h' kk r1 r2 => by
  obtain ⟨a, items, rfl, il, r1⟩ := rd_list r1
  obtain ⟨b, items2, rfl, il2, r2⟩ := rd_list r2
  refine ⟨fun s Q E k q x => ?_⟩
  obtain ⟨⟨cls, dd, data, sl⟩, ho, hc, n, hd⟩ := il
  obtain ⟨⟨cls2, dd2, data2, sl2⟩, ho2, hc2, n2, hd2⟩ := il2
  simp only at hc hd hc2 hd2
  subst hc hd hc2 hd2
  have hs1 : items.size = ds.length := by have := r1.len; simpa using this
  have hs2 : items2.size = es.length := by have := r2.len; simpa using this
  refine concat_meets ⟨_, k _ _ ho, rfl⟩ ⟨_, k _ _ ho2, rfl⟩ noFill_list_add seq_list_add PySem.F.slot_list_add PySem.F.entry_list_add (PySem.F.args_list_add_2 _ _) (list_addW a b items items2 n n2 dd dd2 sl sl2 (by rw [hs1, hs2]; exact hn)) ⟨k _ _ ho, k _ _ ho2, ?_⟩
  refine q _ _ s.toks (Keep.push Keep.rfl _) ⟨_, _, rfl, ⟨_, Heap.get?_push_size _ rfl⟩, ?_, fresh_size (kk.trans k)⟩
  rw [Array.toList_append]
  exact (r1.append r2).keep (Keep.push k _)

/-- a method with one argument -/
theorem ev_meth1 {o e : Expr} {name : Str} {T id : String} {ap pos : Pos} {R1 R : Value → Heap → Prop} {d2 : PyData} (pa : PlainAttrs T) (slot : Slot T name id) (hty : typeOf (.builtin id) = pure (.type "method_descriptor"))
    (e1 : Ev (model prog w) A env h o R1 X) (e2 : Ev (model prog w) A env h e (Rd d2) X) (m1 : ∀ v h' h'', Keep h' h'' → R1 v h' → R1 v h'')
    (hT : ∀ v (s : Shared), R1 v s.heap → s.TypeIs v T ∧ (∀ a, v = .ref a → ∃ ob, s.heap.get? a = some ob ∧ ob.dict = none))
    (op : ∀ v1 v2 h', Keep h h' → R1 v1 h' → Rd d2 v2 h' → EvT (model prog w) A h' (call (.builtin id) [v1, v2]) R X)
    (hbase : attributeBase o name env (eval o env) = eval o env := by rfl) (hline : (ap.endLine == pos.line) = true := by rfl) (he : pl e = true := by rfl) :
    Ev (model prog w) A env h (.Call (.Attribute o name ap) [e] [] pos) R X := by
  refine ⟨fun s Q E k q x => ?_⟩
  refine Call_method1 hbase (pl_star he) hline ?_
  refine e1.go s _ E k (fun v1 h1 i k1 r1 => ?_) x
  obtain ⟨t1, t2⟩ := hT v1 { s with heap := h1, toks := i } r1
  refine ⟨T, id, pa, slot, hty, t1, t2, ?_⟩
  refine Calls.callWith_builtin rfl (Calls.evalArgs_plain (Calls.spliced_cons ?_))
  refine (e2.up (k.trans k1)).go { s with heap := h1, toks := i } _ E Keep.rfl (fun v2 h2 j k2 r2 => Calls.spliced_nil ?_) (fun y h' i r => x y h' i r)
  exact (op v1 v2 h2 ((k.trans k1).trans k2) (m1 _ _ _ k2 r1) r2).go { s with heap := h2, toks := j } Q E Keep.rfl (fun v h3 i3 k3 r3 => q v h3 i3 ((Keep.trans k1 k2).trans k3) r3) (fun y h' i r => x y h' i r)

theorem op_countT {g : Heap} {ds : List PyData} {v : Value} {v2 : Value} {k : Bool} (hb : ds.all Shape.bool.has = true) (r : Rl g ds v h) (r2 : Rd (.bool k) v2 h) : EvT (model prog w) A h (call (.builtin "list.count") [v, v2]) (Rd (.int (countIn (.bool k) ds))) X := by
  cases rd_bool r2
  obtain ⟨l, items, rfl, p, ⟨as, ra⟩, _⟩ := r
  refine EvT.ofS fun s Q E kk q => ?_
  have hl : s.heap.IsList l items.toList.toArray := by
    obtain ⟨n, p⟩ := p
    exact ⟨_, kk _ _ p, rfl, n, by simp⟩
  exact count_list_bools hl ra hb (q _ (s.toks + 1) ⟨_, .int _ _⟩)
end

section
variable {prog : Program} {w : World} {A : Around} {nm : Str} {sc : Scope} {L fa : Addr} {cd : Value} {g h : Heap} {ρ : Locs} {μ : Mut} {X : Value → Heap → Prop}
/-- kinds.count(True) -/
theorem ev_countT {x : Str} {xp ap kp pos : Pos} {kk : Nat} {l : Addr} {ds : List PyData} (S : St g L h ρ (some (x, l, ds))) (hb : ds.all Shape.bool.has = true) (hk : sc.kind = .function := by rfl) (hl : (envOf nm sc L fa cd).kindOf x = some .local := by rfl)
    (hd : (x == ("__debug__" : Str)) = false := by decide) (hbase : attributeBase (.Name x xp) "count" (envOf nm sc L fa cd) (eval (.Name x xp) (envOf nm sc L fa cd)) = eval (.Name x xp) (envOf nm sc L fa cd) := by rfl) (hline : (ap.endLine == pos.line) = true := by rfl) :
    Ev (model prog w) A (envOf nm sc L fa cd) h (.Call (.Attribute (.Name x xp) "count" ap) [.Constant (.bool true) kk kp] [] pos) (Rd (.int (countIn (.bool true) ds))) X :=
  ev_meth1 PySem.F.plainAttrs_list PySem.F.slot_list_count PySem.F.type_list_count (ev_own S hk hl hd) ev_bool (fun _ _ _ k r => r.keep k)
    (fun v s r => by
      obtain ⟨l, items, rfl, ⟨n, p⟩, _⟩ := r
      exact ⟨⟨_, p, rfl⟩, fun a e => by cases e; exact ⟨_, p, rfl⟩⟩)
    (fun v1 v2 h' k r1 r2 => op_countT hb r1 r2) hbase hline rfl
end

section
variable {prog : Program} {w : World} {A : Around} {nm : Str} {sc : Scope} {L fa : Addr} {cd : Value} {g h : Heap} {ρ : Locs} {X : Value → Heap → Prop} {Ws : List Addr} {P : Flow → Heap → Prop} {rest : List Stmt}
/-- a new list to a name, while another name holds an object -/
theorem runv_own {x y : Str} {v : Value} {px pos : Pos} {e : Expr} {ds : List PyData} (S : St g L h ρ none) (V : Sv g L h y v) (ev : Ev (model prog w) A (envOf nm sc L fa cd) h e (Rl h ds) X)
    (k : ∀ l h', St g L h' ρ (some (x, l, ds)) → Sv g L h' y v → Run (model prog w) A (envOf nm sc L fa cd) (l :: Ws) rest h' P X) (hxy : y ≠ x := by decide) (hf : flatL ds = true := by rfl) (hx : ρ.lookup x = none := by rfl)
    (hk : sc.kind = .function := by rfl) (hl : (envOf nm sc L fa cd).kindOf x = some .local := by rfl)
    (hs : pl e = true := by rfl) : Run (model prog w) A (envOf nm sc L fa cd) Ws (.Assign [.Name x px] e pos :: rest) h P X := by
  refine ⟨fun s Q E e po q x' => ?_⟩; subst e
  refine wpAny_execs_cons (wpAny_Assign_Name (ev.go s _ E Keep.rfl (fun u h1 i k1 r => ?_) x') (pl_swaps hs))
  obtain ⟨m, F, hv⟩ := V.keep k1
  obtain ⟨l, items, rfl, p, r, fresh⟩ := r
  refine wpAny_storeName_local hl F.ns (fun h' hn hsb => ?_) (by show (sc.kind == .class || (sc.kind == .module && L != mainGlobals)) = false; rw [hk]; rfl)
  have kp1 : Kp [L] h1 h' := kp_same hsb
  have S' : St g L h' ρ (some (x, l, ds)) := by
    refine ⟨_, fr_set F hn hsb, fun y d' e => ?_, fun q e => ?_⟩
    · have hy : y ≠ x := fun hb => by subst hb; rw [hx] at e; cases e
      obtain ⟨m0, F0, hr0, _⟩ := S.ex
      obtain ⟨v', as', a, b, c, _⟩ := hr0 y d' e
      have em : m0 = m := by
        obtain ⟨o, es, ep, h1, h2, _, h4⟩ := (F0.after k1).ns
        obtain ⟨o', es', ep', h1', h2', _, h4'⟩ := F.ns
        rw [h1] at h1'; cases h1'; rw [h2] at h2'; cases h2'
        funext y; rw [← h4, ← h4']
      subst em
      refine ⟨v', as', by simp [hy, a], reads_kp kp1 (fun a ha => ?_) (PyProof.Rows.Reads.keeps k1 b), c, fun q e hq => ?_⟩
      · rw [List.mem_singleton] at ha; subst ha; exact .inr ⟨c, noTup_L F⟩
      · cases e
        have : ∃ o, s.heap.get? l = some o := reads_some b l hq
        obtain ⟨o, ho⟩ := this
        rw [fresh] at ho; cases ho
    · cases e
      refine ⟨by simp, ?_, hf, items, plain_kp kp1 (by simpa using L_ne_list F p) p, rdl_flat_kp kp1 hf (fun a ha => ?_) r⟩
      · exact S.frK.none fresh
      · rw [List.mem_singleton] at ha; subst ha; exact noTup_L F
  refine (k l h' S' ⟨_, fr_set F hn hsb, by simp [hxy, hv]⟩).go _ Q E rfl po (fun fl h2 j kp p' => q fl h2 j ?_ p') (fun y h2 j r => x' y h2 j r)
  intro b o nb eb
  have hbl : b ≠ l := fun e => by subst e; rw [fresh] at eb; cases eb
  have hbL : b ≠ L := fun e => nb (by rw [e]; exact .head _)
  refine kp b o ?_ (kp1 b o (by simpa using hbL) (k1 b o eb))
  intro hb
  cases hb with
  | head => exact nb (.head _)
  | tail _ hb => cases hb with
    | head => exact hbl rfl
    | tail _ hb => exact nb (.tail _ hb)
end

theorem Sv.ex {g : Heap} {L : Addr} {h : Heap} {x : Str} {v : Value} {e C : Addr} (S : Sv g L h x v) (I : Ex g e C) : Ex h e C := let ⟨_, F, _⟩ := S; I.keep F.keep
/-- room, whatever is being handled -/
structure Rv (A : Around) (n : Nat) : Prop where
  dep : A.depth + n < recursionLimit
  un : A.units + 3 * n + 100 < cLine
theorem Rm.v {A : Around} {n : Nat} (r : Rm A n) : Rv A n := ⟨r.dep, r.un⟩
theorem Rv.mark {A : Around} {n : Nat} {x : Option Value} (r : Rv A n) : Rv (A.mark x) n := ⟨r.dep, r.un⟩
theorem Rv.less {A : Around} {n m : Nat} (r : Rv A n) (h : m ≤ n) : Rv A m := ⟨by have := r.dep; (first | lia | omega), by have := r.un; (first | lia | omega)⟩
/-- a caught object is of the class x, or is not -/
structure EI (K : Frag) (C : Addr) (x : Str) (b : Bool) : Prop where
  ex : ∃ D, EC K x D ∧ mroIn K C (.ref D) = some b ∧ (C = D → b = true)
/-- a call with what was caught -/
structure FnV (c : Cx) (K : Frag) (n : Nat) (f : Str) (C : Addr) (b : Bool) : Prop where
  isDef : ∃ dr ∈ recsOf c.p, dr.name = f
  run : ∀ (A : Around) (h : Heap) (e a : Addr), c.T h → K.In h → Rv A n → c.mg f = some (.ref a) → Ex h e C → EvT c.M A h (call (.ref a) [.ref e]) (Rd (.bool b)) NoX

section
variable {c : Cx} {K : Frag} {n : Nat} {f : Str} {C : Addr} {b : Bool} {dn : Str} {dp : Arguments} {db : List Stmt} {dsc : Scope} {dps : Pos} {x1 : Str}
theorem fnv1 (hd : (⟨dn, dp, db, dsc, dps⟩ : DefRec) ∈ recsOf c.p ∧ dn = f)
    (hb : ∀ pm cd doc (v1 : Value), bindArgs (docDef dn dp db dsc pm cd doc) ⟨[v1], []⟩ = pure [(x1, v1)])
    (k : ∀ (A : Around) (g h : Heap) (L fa e : Addr) (cd : Value), c.T g → K.In g → Sv g L h x1 (.ref e) → Ex g e C → Run c.M A (envOf dn dsc L fa cd) [] db h (fun fl h' => Rd (.bool b) (retv fl) h') NoX)
    (hloc : ∀ x ∈ [x1], dsc.names.lookup x = some .local := by decide +kernel)
    (hco : dsc.isCoroutine = false := by rfl) (hgen : dsc.isGenerator = false := by rfl) (hk : dsc.kind = .function := by rfl) (hcell : ∀ x ∈ dsc.names, x.2 ≠ .cell := by decide +kernel) : FnV c K (n + 1) f C b := by
  obtain ⟨hd, hn⟩ := hd
  refine ⟨⟨_, hd, hn⟩, ?_⟩
  intro A h e a T KX rm ha I
  refine ⟨fun s Q E kk q x => ?_⟩
  have T' : c.T s.heap := T.keeps kk
  obtain ⟨a', o, pm, cd, doc, h1, h2, h3, h4⟩ := T'.fn ⟨dn, dp, db, dsc, dps⟩ hd
  dsimp only at h1 h3 h4
  rw [hn, ha] at h1; cases h1
  refine wpAny_call (call_plain (binds := [x1].zip [.ref e]) (by have := rm.dep; (first | lia | omega)) h2 h3 T'.nolimit h4 (hb pm cd doc (.ref e)) (fun y hy => hloc _ (List.of_mem_zip (a := y.1) (b := y.2) hy).1) (fun h₁ F => ?_) hco hgen hk hcell)
  refine (k (A.deeper (envOf dn dsc s.heap.objs.size a cd)) s.heap h₁ _ a e cd T' (KX.keeps kk) ⟨_, F, by simp [List.lookup]⟩ (I.keep kk)).go _ _ _ rfl PassesOwn.leaving (fun fl h' i kp p => ?_) (fun _ _ _ r => r.elim)
  have kz : Keep s.heap h' := fun b o e => kp b o (by
    intro hb
    rw [List.mem_singleton] at hb
    rw [hb] at e
    exact absurd (Heap.lt_size e) (Nat.lt_irrefl _)) (F.keep b o e)
  have := q (retv fl) h' i kz p
  cases fl <;> exact this
end

section
variable {c : Cx} {K : Frag} {n : Nat} {A : Around} {nm : Str} {sc : Scope} {L fa : Addr} {cd : Value} {g h : Heap} {X : Value → Heap → Prop} {C : Addr} {b : Bool}
theorem ev_isk {v x y : Str} {fp vp xp pos : Pos} {e : Addr} (T : c.T g) (B : Bn c) (KX : K.In g) (S : Sv g L h v (.ref e)) (I : Ex h e C) (OC : EC K y C) (i : EI K C x b)
    (hk : sc.kind = .function := by rfl) (hg : (envOf nm sc L fa cd).kindOf (Str.ofString "isinstance") = some .globalImplicit := by rfl) (hl : (envOf nm sc L fa cd).kindOf v = some .local := by rfl)
    (hx : (envOf nm sc L fa cd).kindOf x = some .globalImplicit := by rfl) (hdv : (v == ("__debug__" : Str)) = false := by decide) (hdx : (x == ("__debug__" : Str)) = false := by decide) :
    Ev c.M A (envOf nm sc L fa cd) h (.Call (.Name (Str.ofString "isinstance") fp) [.Name v vp, .Name x xp] [] pos) (Rd (.bool b)) X := by
  obtain ⟨D, OD, hs, hself⟩ := i.ex
  exact ev_isx T B KX S I OC OD hs hself hk hg hl hx hdv hdx
theorem ev_callv {k : Nat} {f y : Str} {p vp pos : Pos} {e : Addr} (T : c.T g) (KX : K.In g) (rv : Rv A n) (V : Sv g L h y (.ref e)) (I : Ex h e C) (F : FnV c K k f C b) (hkn : k ≤ n := by decide)
    (hk : sc.kind = .function := by rfl) (hl : (envOf nm sc L fa cd).kindOf y = some .local := by rfl) (hx : (envOf nm sc L fa cd).kindOf f = some .globalImplicit := by rfl) (hd : (f == ("__debug__" : Str)) = false := by decide) (hdv : (y == ("__debug__" : Str)) = false := by decide) :
    Ev c.M A (envOf nm sc L fa cd) h (.Call (.Name f p) [.Name y vp] [] pos) (Rd (.bool b)) X := by
  refine ⟨fun s Q E k q x => ?_⟩
  have V' := V.keep k
  obtain ⟨m, F0, _⟩ := id V'
  obtain ⟨dr, hdr, hn⟩ := F.isDef
  obtain ⟨a', o, pm, cd', doc, h1, h2, h3, h4⟩ := T.fn dr hdr
  rw [hn] at h1
  refine wpAny_Call_NameR (ld_global_at F0 T.g h1 ?_ hk hx hd)
  refine callWith_def h3 (PyProof.Rows.args_cons ((ev_exv (c := c) V' hk hl hdv (X := X)).go s _ E Keep.rfl (fun u hh2 j k2 r => ?_) (fun y h' i r => x y h' i r)) rfl) rfl
  subst r
  refine PyProof.Rows.args_nil ?_
  refine ⟨k2 _ _ (F0.keep _ _ h2), ?_⟩
  have kg : Keep g hh2 := fun b o e => k2 _ _ (F0.keep b o e)
  exact (F.run A hh2 e a' (T.keeps kg) (KX.keeps kg) (rv.less hkn) h1 ((I.keep k).keep k2)).go { s with heap := hh2, toks := j } Q E Keep.rfl (fun v h3 j3 k3 r3 => q v h3 j3 (Keep.trans k2 k3) r3) (fun _ _ _ r => r.elim)
end
end Mine

namespace Mine
open PySem PySem.Spec PySem.Calls PyProof.Rows PySem.W

/-- read, with no list or dict at L -/
def Rn (L : Addr) (d : PyData) (v : Value) (h : Heap) : Prop := ∃ as, Reads h v d as ∧ L ∉ as
def RnL (L : Addr) (ds : List PyData) (vs : List Value) (h : Heap) : Prop := ∃ as, ReadsAll h vs ds as ∧ L ∉ as
theorem Rn.keep {L : Addr} {d : PyData} {v : Value} {h h' : Heap} (r : Rn L d v h) (k : Keep h h') : Rn L d v h' := let ⟨as, x, n⟩ := r; ⟨as, PyProof.Rows.Reads.keeps k x, n⟩
theorem Rn.rd {L : Addr} {d : PyData} {v : Value} {h : Heap} (r : Rn L d v h) : Rd d v h := let ⟨as, x, _⟩ := r; ⟨as, x⟩
theorem RnL.cons {L : Addr} {d ds v vs} {h : Heap} (a : Rn L d v h) (b : RnL L ds vs h) : RnL L (d :: ds) (v :: vs) h := by
  obtain ⟨as, x, n⟩ := a; obtain ⟨bs, y, m⟩ := b
  exact ⟨_, .cons x y, fun ha => (List.mem_append.mp ha).elim n m⟩
theorem RnL.append {L : Addr} {h : Heap} : ∀ {ds es vs us}, RnL L ds vs h → RnL L es us h → RnL L (ds ++ es) (vs ++ us) h
  | [], es, vs, us, a, b => by
    have e : vs = [] := (show RdL [] vs h from let ⟨as, x, _⟩ := a; ⟨as, x⟩).unnil
    subst e; exact b
  | d :: ds, es, vs, us, a, b => by
    obtain ⟨as, x, n⟩ := a
    cases x with
    | cons x1 x2 => exact RnL.cons ⟨_, x1, fun q => n (List.mem_append_left _ q)⟩ (RnL.append ⟨_, x2, fun q => n (List.mem_append_right _ q)⟩ b)
theorem RnL.keep {L : Addr} {ds : List PyData} {vs : List Value} {h h' : Heap} (r : RnL L ds vs h) (k : Keep h h') : RnL L ds vs h' := let ⟨as, x, n⟩ := r; ⟨as, PyProof.Rows.ReadsAll.keeps k x, n⟩
theorem RnL.rdl {L : Addr} {ds : List PyData} {vs : List Value} {h : Heap} (r : RnL L ds vs h) : RdL ds vs h := let ⟨as, x, _⟩ := r; ⟨as, x⟩
section
variable {prog : Program} {w : World} {A : Around} {env : Env} {h : Heap} {L : Addr} {X : Value → Heap → Prop}
abbrev EvLn (M : Model) (A : Around) (env : Env) (L : Addr) (h : Heap) (pos : Pos) (es : List Expr) (ds : List PyData) (X : Value → Heap → Prop) : Prop := EvT M A h (spliced (backTo pos (starEach es env))) (RnL L ds) X
theorem evn {e : Expr} {d : PyData} (r : Ev (model prog w) A env h e (Rd d) X) (hf : flat d = true := by rfl) : Ev (model prog w) A env h e (Rn L d) X := r.mono fun _ _ _ r => by
  obtain ⟨as, x⟩ := r
  have := flat_nil hf x
  subst this
  exact ⟨_, x, List.not_mem_nil⟩
theorem evln_nil {pos : Pos} : EvLn (model prog w) A env L h pos [] [] X := EvT.ofS fun s _ _ _ q => PyProof.Rows.args_nil (q _ s.toks ⟨[], .nil, List.not_mem_nil⟩)
theorem evln_cons {pos : Pos} {x : Expr} {es : List Expr} {d : PyData} {ds : List PyData} (e : Ev (model prog w) A env h x (Rn L d) X) (e2 : EvLn (model prog w) A env L h pos es ds X)
    (he : pl x = true := by rfl) : EvLn (model prog w) A env L h pos (x :: es) (d :: ds) X := by
  refine ⟨fun s Q E k q x => ?_⟩
  refine PyProof.Rows.args_cons (e.go s _ E k (fun v h1 i k1 r1 => ?_) x) (pl_star he)
  exact (e2.up (k.trans k1)).seq (s := { s with heap := h1, toks := i }) Keep.rfl (fun c h2 j k2 r2 => q _ h2 j (Keep.trans k1 k2) (RnL.cons (r1.keep k2) r2)) (fun y h2 j r => x y h2 j r)
theorem size_ne {h h' : Heap} {L : Addr} (hL : ∃ o, h.get? L = some o) (k : Keep h h') : L ≠ h'.objs.size := by
  intro e
  obtain ⟨o, ho⟩ := hL
  have := Heap.lt_size (k _ _ ho)
  rw [e] at this
  exact Nat.lt_irrefl _ this
theorem evn_list {es : List Expr} {pos : Pos} {ds : List PyData} (hL : ∃ o, h.get? L = some o) (e : EvLn (model prog w) A env L h pos es ds X) (hn : ds.length ≤ sizeLine := by simp only [List.length_cons, List.length_nil]; decide) : Ev (model prog w) A env h (.List es pos) (Rn L (.list ds)) X := by
  refine ⟨fun s Q E k q x => ?_⟩
  refine wpAny_List (e.go s _ E k (fun vs h1 i k1 r1 => ⟨by rw [r1.rdl.len]; exact hn, ?_⟩) x)
  obtain ⟨as, y, m⟩ := r1.keep (Keep.push Keep.rfl { cls := .type "list", data := .seq vs.toArray })
  refine q _ _ _ (Keep.push k1 _) ⟨_, .list (Heap.get?_push_size _ rfl) rfl rfl (by simpa using y), fun ha => ?_⟩
  rcases List.mem_cons.mp ha with e | ha
  · exact size_ne hL (k.trans k1) e
  · exact m ha
theorem evn_dict {pos : Pos} (hL : ∃ o, h.get? L = some o) : Ev (model prog w) A env h (.Dict [] [] pos) (Rn L (.dict [])) X := by
  refine ⟨fun s Q E k q x => ?_⟩
  refine wpAny_Dict_empty ?_
  refine q _ _ s.toks (Keep.push Keep.rfl _) ⟨_, .dict (kvs := []) (Heap.get?_push_size _ rfl) rfl rfl .nil .nil, fun ha => ?_⟩
  rcases List.mem_cons.mp ha with e | ha
  · exact size_ne hL k e
  · exact nomatch ha
end
section
variable {prog : Program} {w : World} {A : Around} {nm : Str} {sc : Scope} {L fa : Addr} {cd : Value} {g h : Heap} {ρ : Locs} {μ : Mut} {X : Value → Heap → Prop} {Ws : List Addr} {P : Flow → Heap → Prop} {rest : List Stmt}
theorem St.hL (S : St g L h ρ μ) : ∃ o, h.get? L = some o := let ⟨_, F, _⟩ := S.ex; L_some F
/-- a name, of any datum -/
theorem run_any {x : Str} {px pos : Pos} {e : Expr} {d : PyData} (S : St g L h ρ none) (ev : Ev (model prog w) A (envOf nm sc L fa cd) h e (Rn L d) X)
    (k : ∀ h', St g L h' ((x, d) :: ρ) none → Run (model prog w) A (envOf nm sc L fa cd) Ws rest h' P X)
    (hk : sc.kind = .function := by rfl) (hl : (envOf nm sc L fa cd).kindOf x = some .local := by rfl)
    (hs : pl e = true := by rfl) : Run (model prog w) A (envOf nm sc L fa cd) Ws (.Assign [.Name x px] e pos :: rest) h P X := by
  refine ⟨fun s Q E e po q x' => ?_⟩; subst e
  refine wpAny_execs_cons (wpAny_Assign_Name (ev.go s _ E Keep.rfl (fun v h1 i k1 r => ?_) x') (pl_swaps hs))
  obtain ⟨m, F, hr, hm⟩ := (S.keep k1).ex
  obtain ⟨as, r, nL⟩ := r
  refine wpAny_storeName_local hl F.ns (fun h' hn hsb => ?_) (by show (sc.kind == .class || (sc.kind == .module && L != mainGlobals)) = false; rw [hk]; rfl)
  have S' : St g L h' ((x, d) :: ρ) none := (S.keep k1).store (fun q e => nomatch e) F r nL (fun q e => nomatch e) hn hsb
  exact (k h' S').go _ Q E rfl po (fun fl h2 j kp p => q fl h2 j ((k1.kp.trans ((kp_same hsb).mono fun b hb => by rw [List.mem_singleton] at hb; subst hb; exact .head _)).trans kp) p) (fun y h2 j r => x' y h2 j r)
end
/-- a call that hands back a datum, new or not -/
abbrev FnO (c : Cx) (n : Nat) (f : Str) (ds : List PyData) (d : PyData) : Prop := Fn c n f ds fun _ => Rd d
theorem rd_old {d : PyData} : ∀ (h0 h1 : Heap) v h', Keep h0 h1 → (fun (_ : Heap) => Rd d) h1 v h' → (fun (_ : Heap) => Rd d) h0 v h' := fun _ _ _ _ _ r => r
end Mine

namespace Mine
open PySem PySem.Spec PySem.Calls PyProof.Rows PySem.W

section
variable {c : Cx} {A : Around} {nm : Str} {sc : Scope} {L fa : Addr} {cd : Value} {g h : Heap} {ρ : Locs} {μ : Mut} {X : Value → Heap → Prop} {W : List Addr}
theorem iter_range2 {e e' : Expr} {a b : Int} {p pos : Pos} (S : St g L h ρ μ) (T : c.T g) (B : Bn c) (hh : A.handled = none) (e0 : Ev c.M A (envOf nm sc L fa cd) h e' (Rd (.int a)) X) (e1 : Ev c.M A (envOf nm sc L fa cd) h e (Rd (.int b)) X) (ha : -(2 ^ 61) ≤ a ∧ a ≤ 2 ^ 61) (hb : -(2 ^ 61) ≤ b ∧ b ≤ 2 ^ 61) (hold : ∀ b ∈ W, ∃ o, h.get? b = some o)
    (hk : sc.kind = .function := by rfl) (hg : (envOf nm sc L fa cd).kindOf (Str.ofString "range") = some .globalImplicit := by rfl) (he : pl e = true := by rfl) (he' : pl e' = true := by rfl) :
    Iter c.prog c.w A (envOf nm sc L fa cd) W h (.Call (.Name (Str.ofString "range") p) [e', e] [] pos) (rangeD a (b - a).toNat) X :=
  iter_rangeC (W := W) (a := a) (b := b) hh ha hb (ev_tcall S T B (x := Str.ofString "range") (id := "range") (R := fun v h' => ∃ r t u y, v = .ref r ∧ IsRange h' r a b 1 t u y) (by decide) (by decide +kernel) (evl_cons e0 (evl_cons e1 evl_nil he) he') (fun vs h' k r => by
    obtain ⟨v, r', rfl, rd, rn⟩ := r.uncons
    obtain ⟨v2, r'', rfl, rd2, rn2⟩ := rn.uncons
    have := rn2.unnil
    subst this
    obtain ⟨t, rfl⟩ := rd_int rd
    obtain ⟨u, rfl⟩ := rd_int rd2
    refine ⟨fun s Q E kk q x => ?_⟩
    refine call_range_2 ?_
    exact q _ _ _ (Keep.push Keep.rfl _) ⟨_, _, _, _, rfl, IsRange.new _ _ _ _ _ _ _⟩) (by decide) hk hg (by decide) he' (by simp [he])) hold
end
theorem PD_eqv (a b x y : Int) : PyData.eqv (PD a b) (PD x y) = (decide (a = x) && decide (b = y)) := by
  simp only [PyData.eqv, PyData.eqvAll, Bool.and_true]; rfl
end Mine

namespace Mine
open PySem PySem.Spec PySem.Calls PyProof.Rows PySem.W
end Mine

namespace Mine
open PySem PySem.Spec PySem.Calls PyProof.Rows PySem.W
section
variable {prog : Program} {w : World} {A : Around} {env : Env} {h : Heap} {X : Value → Heap → Prop}
end
section
variable {prog : Program} {w : World} {A : Around} {nm : Str} {sc : Scope} {L fa : Addr} {cd : Value} {g h : Heap} {ρ : Locs} {X : Value → Heap → Prop}
end
end Mine

namespace Mine
open PySem PySem.Spec PySem.Calls PyProof.Rows PySem.W
section
variable {prog : Program} {w : World} {A : Around} {env : Env} {h : Heap} {X : Value → Heap → Prop}
end
end Mine

namespace Mine
open PySem PySem.Spec PySem.Calls PyProof.Rows PySem.W
theorem Tn.trans {fs : List Addr} {a b c : Heap} (x : Tn fs a b) (y : Tn fs b c) : Tn fs a c := by
  refine ⟨fun l o e n => y.1 l o (x.1 l o e n) n, fun l o e m => ?_⟩
  obtain ⟨s1, e1⟩ := x.2 l o e m
  obtain ⟨s2, e2⟩ := y.2 l _ e1 m
  exact ⟨s2, e2⟩
theorem Tn.at {fs : List Addr} {h h' : Heap} (k : Tn fs h h') {b : Addr} {o : Obj} (e : h.get? b = some o) : ∃ sl, h'.get? b = some { o with slots := sl } := by
  by_cases m : b ∈ fs
  · exact k.2 b o e m
  · exact ⟨o.slots, k.1 b o e m⟩
theorem reads_tn {fs : List Addr} {h h' : Heap} (k : Tn fs h h') {v : Value} {d : PyData} {as : List Addr} (r : Reads h v d as) : Reads h' v d as :=
  Reads.rec (motive_1 := fun v d as _ => Reads h' v d as) (motive_2 := fun vs ds as _ => ReadsAll h' vs ds as)
    .none (fun b => .bool b) (fun i t => .int i t) (fun x t => .str x t)
    (fun h1 h2 h3 _ ih => let ⟨_, e⟩ := k.at h1; .list e h2 h3 ih)
    (fun h1 h2 h3 _ ih => let ⟨_, e⟩ := k.at h1; .tuple e h2 h3 ih)
    (fun h1 h2 h3 _ _ ih1 ih2 => let ⟨_, e⟩ := k.at h1; .dict e h2 h3 ih1 ih2)
    .nil (fun _ _ ih1 ih2 => .cons ih1 ih2) r
section
variable {c : Cx} {K : Frag} {n : Nat} {A : Around} {nm : Str} {sc : Scope} {L fa : Addr} {cd : Value} {g h base : Heap} {outer : List Env} {ρ : Locs} {d : PyData}
theorem after_call {h' : Heap} (PT : Pt c K A base outer g) (S : St g L h ρ none) (tn : Tn (frs (envOf nm sc L fa cd :: outer)) h h') : ∃ g', Tn (frs outer) g g' ∧ Pt c K A base outer g' ∧ St g' L h' ρ none := by
  obtain ⟨m, F, hr, hm⟩ := S.ex
  obtain ⟨g', T', F', K'⟩ := kts_ground (name := nm) (scope := sc) (a := fa) (cd := cd) (B := h') (h₅ := h') PT.bel F (fun b o e nb => tn.1 b o e nb) (fun b o e => e) (fun b o e _ => tn.at e)
  refine ⟨g', ⟨T'.other, T'.frame⟩, ⟨K', PT.kin, PT.top⟩, ⟨m, F', fun x d e => ?_, fun q e => nomatch e⟩⟩
  obtain ⟨v, as, a, b, cc, _⟩ := hr x d e
  exact ⟨v, as, a, reads_tn tn b, cc, fun q e => nomatch e⟩
/-- a tree with calls that catch within -/
structure EvC (c : Cx) (K : Frag) (A : Around) (base : Heap) (outer : List Env) (env : Env) (L : Addr) (ρ : Locs) (g h : Heap) (t : Sem Value) (d : PyData) : Prop where
  go : ∀ (s : Shared) (Q : Value → Shared → Prop) (E : Value → Shared → Prop), s.heap = h →
    (∀ v g' h' k, Tn (frs outer) g g' → Pt c K A base outer g' → St g' L h' ρ none → Rd d v h' → Q v { s with heap := h', toks := k }) → wpAny c.M (A.deeper env) t Q E s
theorem evc_call {k : Nat} {f : Str} {p pos : Pos} {e : Expr} {es : List Expr} {ds : List PyData} (S : St g L h ρ none) (PT : Pt c K A base outer g) (rm : Rm (A.deeper (envOf nm sc L fa cd)) n) (F : FnC c K k f ds d)
    (a : EvL c.M (A.deeper (envOf nm sc L fa cd)) (envOf nm sc L fa cd) h pos (e :: es) ds NoX)
    (hkn : k ≤ n := by decide)
    (hk : sc.kind = .function := by rfl) (hx : (envOf nm sc L fa cd).kindOf f = some .globalImplicit := by rfl) (hd : (f == ("__debug__" : Str)) = false := by decide)
    (he : pl e = true := by rfl) :
    EvC c K A base outer (envOf nm sc L fa cd) L ρ g h (eval (.Call (.Name f p) (e :: es) [] pos) (envOf nm sc L fa cd)) d := by
  refine ⟨fun s Q E es q => ?_⟩; subst es
  obtain ⟨m, F0, _⟩ := S.ex
  obtain ⟨dr, hdr, hn⟩ := F.isDef
  obtain ⟨a', o, pm, cd', doc, h1, h2, h3, h4⟩ := PT.t.fn dr hdr
  rw [hn] at h1
  refine wpAny_Call_NameR (ld_global_at F0 PT.t.g h1 ?_ hk hx hd)
  refine callWith_def h3 (a.seq Keep.rfl (fun vs h' i k' r => ?_) (fun _ _ _ x => x.elim)) (pl_star he)
  refine ⟨k' _ _ (F0.keep _ _ h2), ?_⟩
  have F1 := F0.after k'
  refine F.run (A.deeper (envOf nm sc L fa cd)) base (envOf nm sc L fa cd :: outer) h' vs a' ⟨PT.bel.push F1 hk, PT.kin, PT.top⟩ (rm.less hkn) h1 r { s with heap := h', toks := i } _ _ rfl (fun v h2 j tn rd => ?_)
  obtain ⟨g', t1, t2, t3⟩ := after_call PT (S.keep k') tn
  exact q v g' h2 j t1 t2 t3 rd
/-- ... == a text -/
theorem evc_eqs {l : Expr} {x y : Str} {kk : Nat} {cp pos : Pos} (rm : Rm (A.deeper (envOf nm sc L fa cd)) n) (e1 : EvC c K A base outer (envOf nm sc L fa cd) L ρ g h (eval l (envOf nm sc L fa cd)) (.str x))
    (h1 : SeqAt.shaped (.str x) = true := by decide +kernel) (h2 : SeqAt.shaped (.str y) = true := by decide +kernel) (he : PyData.eqv (.str x) (.str y) = true := by decide +kernel) :
    EvC c K A base outer (envOf nm sc L fa cd) L ρ g h (eval (.Compare l [.Eq] [.Constant (.str y) kk cp] pos) (envOf nm sc L fa cd)) (.bool true) := by
  refine ⟨fun s Q E es q => ?_⟩
  refine wpAny_Compare1 (e1.go s _ E es (fun v g' h' i t1 t2 t3 r => ?_)) (pl_marks rfl)
  refine (ev_str (prog := c.prog) (w := c.w) (A := A.deeper (envOf nm sc L fa cd)) (env := envOf nm sc L fa cd) (h := h') (x := y) (k := kk) (pos := cp) (X := NoX)).seq (s := { s with heap := h', toks := i }) Keep.rfl (fun v2 h2' j k2 r2 => ?_) (fun _ _ _ x => x.elim)
  obtain ⟨as, rx⟩ := r.keep k2
  obtain ⟨bs, ry⟩ := r2
  refine eq_dataH rx ry h1 h2 (by have := rm.un; (first | lia | omega)) ?_
  rw [he]
  exact q _ g' h2' _ t1 t2 (t3.keep k2) ⟨_, .bool _⟩
/-- .. and .. -/
theorem evc_and {x y : Expr} {pos : Pos} {b : Bool} (e1 : EvC c K A base outer (envOf nm sc L fa cd) L ρ g h (eval x (envOf nm sc L fa cd)) (.bool true))
    (e2 : ∀ g' h', Pt c K A base outer g' → St g' L h' ρ none → EvC c K A base outer (envOf nm sc L fa cd) L ρ g' h' (eval y (envOf nm sc L fa cd)) (.bool b)) :
    EvC c K A base outer (envOf nm sc L fa cd) L ρ g h (eval (.BoolOp .And [x, y] pos) (envOf nm sc L fa cd)) (.bool b) := by
  refine ⟨fun s Q E es q => ?_⟩
  rw [arm_eval_BoolOp]
  show wpAny c.M _ (do
    let v ← eval x (envOf nm sc L fa cd)
    standAt pos
    let t ← holding [v] (truthy v)
    match BoolOp.And, t with
    | .And, false | .Or, true => pure v
    | _, _ => boolOp pos .And (evalEach [y] (envOf nm sc L fa cd))) Q E s
  refine wpAny_bind (e1.go s _ E es (fun v g' h' i t1 t2 t3 r => ?_))
  cases rd_bool r
  refine wpAny_bind (wpAny_standAt (wpAny_bind (wpAny_holding (wpAny_truthy_bool ?_))))
  exact (e2 g' h' t2 t3).go { s with heap := h', toks := i } Q E rfl (fun v2 g2 h2 j u1 u2 u3 r2 => q v2 g2 h2 j (t1.trans u1) u2 u3 r2)
end
section
variable {c : Cx} {K : Frag} {n : Nat} {A : Around} {nm : Str} {sc : Scope} {L fa : Addr} {cd : Value} {g h base : Heap} {outer : List Env} {ρ : Locs} {μ : Mut} {d : PyData} {rest : List Stmt}
/-- the law's end -/
theorem rw_rete {e : Expr} {rp : Pos} (ev : EvC c K callerA g [] (envOf nm sc L fa cd) L ρ g h (eval e (envOf nm sc L fa cd)) (.bool true)) : RunW c.M (callerA.deeper (envOf nm sc L fa cd)) (envOf nm sc L fa cd) g (.Return (some e) rp :: rest) h := by
  refine ⟨fun s Q E es po q => ?_⟩
  refine wpAny_execs_cons (wpAny_Return_some (ev.go s _ E es (fun v g' h' k t1 t2 t3 r => ?_)))
  cases rd_bool r
  exact q h' k (fun b o e => t3.frK b o (t1.1 b o e List.not_mem_nil))
/-- a def's end -/
theorem rc_rete {e : Expr} {rp : Pos} (ev : EvC c K A base outer (envOf nm sc L fa cd) L ρ g h (eval e (envOf nm sc L fa cd)) d) : RunC c.M (A.deeper (envOf nm sc L fa cd)) (envOf nm sc L fa cd) (frs outer) g (.Return (some e) rp :: rest) h d := by
  refine ⟨fun s Q E es q => ?_⟩
  refine wpAny_execs_cons (wpAny_Return_some (ev.go s _ E es (fun v g' h' k t1 t2 t3 r => ?_)))
  exact q v h' k (t1.trans t3.frK.tn) r
theorem rc_run {ss : List Stmt} {fs : List Addr} (S : St g L h ρ μ) (r : Run c.M A (envOf nm sc L fa cd) [] ss h (fun fl h' => Rd (.bool true) (retv fl) h') NoX) : RunC c.M A (envOf nm sc L fa cd) fs g ss h (.bool true) := by
  refine ⟨fun s Q E es q => wpAny_noRaise (r.go s Q _ es PassesOwn.never (fun fl h' k kp p => ?_) (fun _ _ _ x => x))⟩
  have hv := rd_bool p
  obtain ⟨m, F, _⟩ := S.ex
  have kk : Keep g h' := fun b o e => kp b o (by
    intro hb
    rw [List.mem_singleton] at hb
    have hb' : b = L := hb
    rw [hb', kts_self F] at e; cases e) (F.keep b o e)
  cases fl with
  | ret v => exact q v h' k kk.tn p
  | next => cases hv
  | brk => cases hv
  | cont => cases hv
theorem rc_set {x : Str} {px pos : Pos} {e : Expr} {dx : PyData} {fs : List Addr} (S : St g L h ρ μ) (ev : Ev c.M A (envOf nm sc L fa cd) h e (Rd dx) NoX)
    (k : ∀ h', St g L h' ((x, dx) :: ρ) μ → RunC c.M A (envOf nm sc L fa cd) fs g rest h' d) (hf : flat dx = true := by rfl)
    (hμ : ∀ q, μ = some q → q.1 ≠ x := by intro q e; first | (cases e; done) | (cases e; dsimp only; decide)) (hk : sc.kind = .function := by rfl) (hl : (envOf nm sc L fa cd).kindOf x = some .local := by rfl)
    (hs : pl e = true := by rfl) : RunC c.M A (envOf nm sc L fa cd) fs g (.Assign [.Name x px] e pos :: rest) h d := by
  refine ⟨fun s Q E es q => ?_⟩; subst es
  refine wpAny_execs_cons (wpAny_Assign_Name (ev.go s _ E Keep.rfl (fun v h1 i k1 r => ?_) (fun _ _ _ x => x.elim)) (pl_swaps hs))
  exact st_name (S.keep k1) r hf hμ (fun h' j _ S' => (k h' S').go _ Q E rfl (fun v h2 j t r => q v h2 j t r)) hk hl
theorem rc_if {test : Expr} {body : List Stmt} {pos : Pos} {b : Bool} {fs : List Addr} (S : St g L h ρ μ) (t : Tr c.M A (envOf nm sc L fa cd) h test b NoX)
    (k1 : b = true → ∀ h', St g L h' ρ μ → RunC c.M A (envOf nm sc L fa cd) fs g body h' d)
    (k2 : b = false → ∀ h', St g L h' ρ μ → RunC c.M A (envOf nm sc L fa cd) fs g rest h' d) :
    RunC c.M A (envOf nm sc L fa cd) fs g (.If test body [] pos :: rest) h d := by
  refine ⟨fun s Q E es q => ?_⟩; subst es
  refine wpAny_execs_cons (wpAny_If (t.go s _ E Keep.rfl (fun c' h1 i k' r => ?_) (fun _ _ _ x => x.elim)))
  subst r
  cases c' with
  | true => exact (k1 rfl h1 (S.keep k')).go _ _ E rfl (fun v h2 j t r => q v h2 j t r)
  | false => exact wpAny_execs_nil ((k2 rfl h1 (S.keep k')).go _ Q E rfl (fun v h2 j t r => q v h2 j t r))
end
end Mine

namespace Mine
open PySem PySem.Spec PySem.Calls PyProof.Rows PySem.W
section
variable {c : Cx} {K : Frag} {n : Nat} {f : Str} {d : PyData} {dn : Str} {dp : Arguments} {db : List Stmt} {dsc : Scope} {dps : Pos} {x1 x2 x3 x4 : Str} {d1 d2 d3 d4 : PyData}
theorem fnc3 (hd : (⟨dn, dp, db, dsc, dps⟩ : DefRec) ∈ recsOf c.p ∧ dn = f)
    (hb : ∀ pm cd doc (v1 v2 v3 : Value), bindArgs (docDef dn dp db dsc pm cd doc) ⟨[v1, v2, v3], []⟩ = pure [(x1, v1), (x2, v2), (x3, v3)])
    (k : ∀ (A : Around) (base : Heap) (outer : List Env) (g h : Heap) (L fa : Addr) (cd : Value), Pt c K A base outer g → Rm (A.deeper (envOf dn dsc L fa cd)) n → St g L h [(x1, d1), (x2, d2), (x3, d3)] none →
      RunC c.M (A.deeper (envOf dn dsc L fa cd)) (envOf dn dsc L fa cd) (frs outer) g db h d)
    (hnd : [x1, x2, x3].Nodup := by decide +kernel) (hloc : ∀ x ∈ [x1, x2, x3], dsc.names.lookup x = some .local := by decide +kernel)
    (hco : dsc.isCoroutine = false := by rfl) (hgen : dsc.isGenerator = false := by rfl) (hk : dsc.kind = .function := by rfl) (hcell : ∀ x ∈ dsc.names, x.2 ≠ .cell := by decide +kernel) : FnC c K (n + 1) f [d1, d2, d3] d :=
  fnc_core (xs := [x1, x2, x3]) hd (fun pm cd doc vs h => by obtain ⟨v1, v2, v3, rfl⟩ := lens3 h; exact hb pm cd doc v1 v2 v3) rfl hnd hloc hco hgen hk hcell k
theorem fnc4 (hd : (⟨dn, dp, db, dsc, dps⟩ : DefRec) ∈ recsOf c.p ∧ dn = f)
    (hb : ∀ pm cd doc (v1 v2 v3 v4 : Value), bindArgs (docDef dn dp db dsc pm cd doc) ⟨[v1, v2, v3, v4], []⟩ = pure [(x1, v1), (x2, v2), (x3, v3), (x4, v4)])
    (k : ∀ (A : Around) (base : Heap) (outer : List Env) (g h : Heap) (L fa : Addr) (cd : Value), Pt c K A base outer g → Rm (A.deeper (envOf dn dsc L fa cd)) n → St g L h [(x1, d1), (x2, d2), (x3, d3), (x4, d4)] none →
      RunC c.M (A.deeper (envOf dn dsc L fa cd)) (envOf dn dsc L fa cd) (frs outer) g db h d)
    (hnd : [x1, x2, x3, x4].Nodup := by decide +kernel) (hloc : ∀ x ∈ [x1, x2, x3, x4], dsc.names.lookup x = some .local := by decide +kernel)
    (hco : dsc.isCoroutine = false := by rfl) (hgen : dsc.isGenerator = false := by rfl) (hk : dsc.kind = .function := by rfl) (hcell : ∀ x ∈ dsc.names, x.2 ≠ .cell := by decide +kernel) : FnC c K (n + 1) f [d1, d2, d3, d4] d :=
  fnc_core (xs := [x1, x2, x3, x4]) hd (fun pm cd doc vs h => by obtain ⟨v1, v2, v3, v4, rfl⟩ := lens4 h; exact hb pm cd doc v1 v2 v3 v4) rfl hnd hloc hco hgen hk hcell k
end
section
variable {c : Cx} {K : Frag} {n : Nat} {A : Around} {nm : Str} {sc : Scope} {L fa : Addr} {cd : Value} {g h : Heap} {ρ : Locs} {μ : Mut} {rest : List Stmt}
theorem rw_cut {st : Stmt} (J : Heap → Prop) (a : Run c.M A (envOf nm sc L fa cd) [] [st] h (fun fl h2 => fl = .next ∧ J h2) NoX) (k : ∀ h', J h' → RunW c.M A (envOf nm sc L fa cd) g rest h') :
    RunW c.M A (envOf nm sc L fa cd) g (st :: rest) h := by
  refine ⟨fun s Q E e po q => ?_⟩; subst e
  have h1 := a.go s (fun f s' => ∃ h' j, f = .next ∧ s' = { s with heap := h', toks := j } ∧ J h') E rfl po (fun fl h' j kp p => ⟨h', j, p.1, rfl, p.2⟩) (fun _ _ _ x => x.elim)
  have h2 : wpAny c.M A (exec st (envOf nm sc L fa cd)) (fun f s' => ∃ h' j, f = .next ∧ s' = { s with heap := h', toks := j } ∧ J h') E s := by
    intro Γ p hΓ
    have := h1 Γ p hΓ
    rw [execs_cons, Sem.wp_bind'] at this
    refine Sem.wp_mono _ Γ _ (fun f p' s' h' => ?_) (fun _ _ _ h' => h') _ _ this
    cases f <;> exact h'
  refine wpAny_execs_cons (wpAny_mono h2 (fun f s' hq => ?_) fun _ _ y => y)
  obtain ⟨h', j, rfl, rfl, hJ⟩ := hq
  exact (k h' hJ).go _ Q E rfl po (fun h2 j2 kp2 => q h2 j2 kp2)
/-- what is no list or dict, or one of two, lies apart from the frame -/
theorem rn_of {x0 : Str} {d0 : PyData} {v : Value} {d : PyData} (S : St g L h ρ μ) (hx : ρ.lookup x0 = some d0) (hd : flat d = true ∨ d = .list [.int 1] ∨ d = .dict []) (r : Rd d v h) : Rn L d v h := by
  obtain ⟨as, r⟩ := r
  refine ⟨as, r, ?_⟩
  obtain ⟨m, F, hr, _⟩ := S.ex
  obtain ⟨o, es, ep, ho, hdat, _, hm⟩ := F.ns
  rcases hd with q | rfl | rfl
  · rw [flat_nil q r]; exact List.not_mem_nil
  · cases r with
    | list h1 h2 h3 r' =>
      have e := flatL_nil (ds := [.int 1]) rfl r'
      subst e
      intro hL
      cases hL with
      | head => rw [ho] at h1; cases h1; rw [hdat] at h3; cases h3
      | tail _ e => cases e
  · cases r with
    | dict h1 h2 h3 r1 r2 =>
      rename_i a o' es' n' as' bs'
      have e1 : as' = [] := by cases hq : es'.toList.map (·.key) with
        | nil => rw [hq] at r1; cases r1; rfl
        | cons _ _ => rw [hq] at r1; cases r1
      have e0 : es'.toList = [] := by cases hq : es'.toList with
        | nil => rfl
        | cons _ _ => rw [hq] at r1; cases r1
      have e2 : bs' = [] := by rw [e0] at r2; cases r2; rfl
      subst e1; subst e2
      intro hL
      cases hL with
      | head =>
        rw [ho] at h1; cases h1
        rw [hdat] at h3; cases h3
        obtain ⟨v', _, hv, _⟩ := hr _ _ hx
        rw [← hm x0] at hv
        have e3 : es = #[] := by rw [← Array.toList_eq_nil_iff]; exact e0
        subst e3
        exact absurd hv (by intro q; cases q)
      | tail _ e => cases e
theorem rw_any {x x0 : Str} {d0 : PyData} {px pos : Pos} {e : Expr} {d : PyData} (S : St g L h ρ none) (hx0 : ρ.lookup x0 = some d0) (hd : flat d = true ∨ d = .list [.int 1] ∨ d = .dict []) (ev : Ev c.M A (envOf nm sc L fa cd) h e (Rd d) NoX)
    (k : ∀ h', St g L h' ((x, d) :: ρ) none → RunW c.M A (envOf nm sc L fa cd) g rest h')
    (hk : sc.kind = .function := by rfl) (hl : (envOf nm sc L fa cd).kindOf x = some .local := by rfl)
    (hs : pl e = true := by rfl) : RunW c.M A (envOf nm sc L fa cd) g (.Assign [.Name x px] e pos :: rest) h :=
  rw_cut (fun h => St g L h ((x, d) :: ρ) none) (run_any S (ev.mono fun _ _ kk r => rn_of (S.keep kk) hx0 hd r) (fun h S => run_nil ⟨rfl, S⟩) hk hl hs) k
end
end Mine

namespace Mine
open PySem PySem.Spec PySem.Calls PyProof.Rows PySem.W
/-- the objects that stand at some places -/
def fragAt (as : List Addr) (h : Heap) : Frag := as.filterMap fun a => (h.get? a).map fun o => (a, o)
theorem fragAt_in {as : List Addr} {h : Heap} : (fragAt as h).In h := by
  intro a o e
  unfold fragAt at e
  induction as with
  | nil => cases e
  | cons b r ih =>
    rw [List.filterMap_cons] at e
    cases hb : h.get? b with
    | none => rw [hb] at e; exact ih e
    | some o' =>
      rw [hb] at e
      have e2 : List.lookup a ((b, o') :: r.filterMap fun a => (h.get? a).map fun o => (a, o)) = some o := e
      rw [List.lookup_cons] at e2
      cases q : a == b with
      | true => rw [q] at e2; cases e2; rw [eq_of_beq q]; exact hb
      | false => rw [q] at e2; exact ih e2
/-- what is asked of the text's exception classes -/
def obsRow (K : Frag) (c : Str × Addr) := (nsIn K mainGlobals c.1, findIn K (.ref c.2) "__getattribute__", findIn K (.ref c.2) "__getattr__", findIn K (.ref c.2) "__class__", mroIn K c.2 (.type "object"), (clsIn K c.2).isSome, typeIn K (.ref c.2), mroIn K c.2 (.type "BaseException"), mroIn K c.2 (.type "ValueError"), excIn K c.2 bmV "ValueError.__new__")
def rowOf (c : Str × Addr) : Option (Option Value) × Option (Option Value) × Option (Option Value) × Option (Option Value) × Option Bool × Bool × Option Value × Option Bool × Option Bool × Bool := (some (some (.ref c.2)), some (some (.builtin "BaseException.__getattribute__")), some none, some (some (.builtin "object.__class__")), some true, true, some (.type "type"), some true, some true, true)
def obsAll (cs : List (Str × Addr)) (K : Frag) := (cs.map (obsRow K), cs.map (fun c => cs.map fun d => mroIn K c.2 (.ref d.2)), specialIn K (.builtin "object.__class__") "__get__", takesIn K (.builtin "object.__class__"))
def expAll (cs : List (Str × Addr)) (F : Addr) : List (Option (Option Value) × Option (Option Value) × Option (Option Value) × Option (Option Value) × Option Bool × Bool × Option Value × Option Bool × Option Bool × Bool) × List (List (Option Bool)) × Option (Option Value) × Option Bool :=
  (cs.map rowOf, cs.map (fun c => cs.map fun d => some (c.2 == d.2 || d.2 == F)), some (some (.builtin "getset_descriptor.__get__")), some true)
structure Cl (cs : List (Str × Addr)) (F : Addr) (K : Frag) : Prop where
  ec : ∀ c ∈ cs, EC K c.1 c.2
  mro : ∀ c ∈ cs, ∀ d ∈ cs, mroIn K c.2 (.ref d.2) = some (c.2 == d.2 || d.2 == F)
theorem cl_of {cs : List (Str × Addr)} {F : Addr} {K : Frag} (e : obsAll cs K = expAll cs F) : Cl cs F K := by
  obtain ⟨e1, e2, e3, e4⟩ : cs.map (obsRow K) = cs.map rowOf ∧ cs.map (fun c => cs.map fun d => mroIn K c.2 (.ref d.2)) = cs.map (fun c => cs.map fun d => some (c.2 == d.2 || d.2 == F)) ∧ specialIn K (.builtin "object.__class__") "__get__" = some (some (.builtin "getset_descriptor.__get__")) ∧ takesIn K (.builtin "object.__class__") = some true := by
    simpa only [obsAll, expAll, Prod.mk.injEq] using e
  refine ⟨fun c hc => ?_, fun c hc d hd => List.map_inj_left.mp (List.map_inj_left.mp e2 c hc) d hd⟩
  have r := List.map_inj_left.mp e1 c hc
  simp only [obsRow, rowOf, Prod.mk.injEq] at r
  obtain ⟨r1, r2, r3, r4, r5, r6, r7, r8, r9, r10⟩ := r
  exact ⟨r1, ⟨r2, r3, r4, e3, e4, r5, r8, r6⟩, r7, r8, r9, r10⟩
def ecHook (as : List Addr) (cs : List (Str × Addr)) (F : Addr) : Hook :=
  ⟨_, fun s => obsAll cs (fragAt as s.heap), fun _ => expAll cs F, fun _ h => ∃ K : Frag, K.In h ∧ Cl cs F K, fun _ _ e => ⟨_, fragAt_in, cl_of e⟩, fun _ _ _ ⟨K, i, c⟩ k => ⟨K, i.keeps k, c⟩⟩
theorem Cl.eu {cs : List (Str × Addr)} {F : Addr} {K : Frag} (C : Cl cs F K) {x y : Str} {a : Addr} (hc : (x, a) ∈ cs) (hf : (y, F) ∈ cs) : EU K x a F :=
  ⟨C.ec _ hc, by have := C.mro _ hc _ hf; simpa using this, by have := C.mro _ hc _ hc; simpa using this⟩
theorem Cl.ei {cs : List (Str × Addr)} {F : Addr} {K : Frag} (C : Cl cs F K) {x y : Str} {a b : Addr} (t : Bool) (hc : (x, a) ∈ cs) (hd : (y, b) ∈ cs) (ht : (a == b || b == F) = t) : EI K a y t :=
  ⟨b, C.ec _ hd, by rw [← ht]; exact C.mro _ hc _ hd, fun q => by rw [← ht, q]; simp⟩
end Mine

namespace Mine
open PySem PySem.Spec PySem.Calls PyProof.Rows PySem.W
/-- the looks at the top's end, one by one -/
theorem looks_of {q : Program} {loose mods : List Str} {Xt : Shared → Bool} {s : Shared} {A : Bool} {α : Type} {y y' : α} (h0 : A = true)
    (h1 : seen ((recsOf q).map (·.name)) (ownsOf q) [] { s with gens := #[] } = expectedOf q) (h2 : s.heap.bltView = bltViewBooted)
    (h3 : (s.heap.keysOk (looseW q loose) ((recsOf q).map (·.name)) ((litsOf q).map (·.1)) ((clssOf q (looseW q loose)).map (·.name)) && s.heap.accountedOkI mods && s.heap.isNs mainGlobals && s.heap.isNs builtinsNs && tablesOk q s.heap && Xt s && (if true = true then s.gens.size == 0 else !leftWithCleanup s.gens)) = true)
    (h4 : tabsOk q s = true) (h5 : pinSeenD q (drecsOf q) s = pinGoodD (drecsOf q)) (h6 : plainSeenE q (looseW q loose) s = plainGoodE q (looseW q loose)) (h7 : plainSeenD q loose s = plainGoodD q loose) (h8 : wideSeen q s = wideGood q) (h9 : clsSeenW q loose s = clsGoodW q loose) (hy : y = y') :
    (A, openSeen q loose mods Xt true s, y) = (true, openGood q loose, y') := by
  unfold openSeen openGood
  rw [h0, h1, h2, h3, h4, h5, h6, h7, h8, h9, hy]
end Mine

set_option maxHeartbeats 400000
namespace Mine
open PySem PySem.Spec PySem.Calls PyProof.Rows PySem.W PySem.Challenge
/-- the script's cell, and a draw -/
def cell (ns : List Int) (k : Int) : Int := ns.getD k.toNat 0
def wayF (ns : List Int) (k : Int) (m : Int) : Int := (cell ns k * 48271 + 7919 * (ns.length : Int)) % 2147483647 % m
theorem wayF_lo {ns : List Int} {k : Int} {m : Int} (h : 0 < m) : 0 ≤ wayF ns k m := Int.emod_nonneg _ (by (first | lia | omega))
theorem wayF_hi {ns : List Int} {k : Int} {m : Int} (h : 0 < m) : wayF ns k m < m := Int.emod_lt_of_pos _ h
abbrev scr (ns : List Int) : PyData := .list (ns.map PyData.int)
def isInt : PyData → Bool
  | .int _ => true
  | _ => false
def wholeB : PyData → Int → Bool
  | .int a, k => decide (a ≥ k)
  | _, _ => false
local macro_rules | `(tactic| walk_at "sz") => `(tactic| first | with_reducible assumption | assumption | exact sz_lit (by decide) | exact Sz.mul (by walk_at "sz") (by walk_at "sz") | exact Sz.add (by walk_at "sz") (by walk_at "sz") | exact Sz.sub (by walk_at "sz") (by walk_at "sz") | exact Sz.abs (by walk_at "sz") | exact Sz.neg (by walk_at "sz"))
local macro_rules | `(tactic| walk_at "mul") => `(tactic| first | exact IntMulOk.of_left (by decide) | exact IntMulOk.of_right (by decide) | exact mul_ok (by walk_at "sz") (by walk_at "sz"))
local macro_rules | `(tactic| walk_at "pos") => `(tactic| first | assumption | decide | (first | lia | omega))
local macro_rules | `(tactic| walk_at "small") => `(tactic| first | decide | exact div_ok (by walk_at "sz") | (first | lia | omega))
local macro_rules | `(tactic| walk_at "shaped") => `(tactic| first | rfl | decide | decide +kernel)
local macro_rules | `(tactic| walk_at "len") => `(tactic| first | decide | (simp only [List.length_cons, List.length_nil]; decide) | (simp; (first | lia | omega)) | (first | lia | omega))

/-- gcd facts -/
theorem gcd_step {a b : Int} (_hb : 0 < b) : Int.gcd b (a % b) = Int.gcd a b := by
  rw [Int.emod_def, Int.gcd_sub_mul_left_right, Int.gcd_comm]
theorem gcd_pos {a b : Int} (hb : 1 ≤ b) : (1 : Int) ≤ (Int.gcd a b : Int) := by
  have : 0 < Int.gcd a b := Int.gcd_pos_of_ne_zero_right _ (by (first | lia | omega))
  (first | lia | omega)
theorem gcd_le {a b : Int} (hb : 1 ≤ b) : (Int.gcd a b : Int) ≤ b := by
  have h1 : (Int.gcd a b : Int) ∣ b := Int.gcd_dvd_right a b
  exact Int.le_of_dvd (by (first | lia | omega)) h1
theorem low_props {a b : Int} (ha : 0 ≤ a) (hb : 1 ≤ b) : 0 ≤ a / (Int.gcd a b : Int) ∧ 1 ≤ b / (Int.gcd a b : Int) ∧ Int.gcd (a / (Int.gcd a b : Int)) (b / (Int.gcd a b : Int)) = 1 ∧ a / (Int.gcd a b : Int) ≤ a ∧ b / (Int.gcd a b : Int) ≤ b ∧
    a / (Int.gcd a b : Int) * (Int.gcd a b : Int) = a ∧ b / (Int.gcd a b : Int) * (Int.gcd a b : Int) = b := by
  have hg := gcd_pos (a := a) hb
  have d1 : (Int.gcd a b : Int) ∣ a := Int.gcd_dvd_left a b
  have d2 : (Int.gcd a b : Int) ∣ b := Int.gcd_dvd_right a b
  have e1 := Int.ediv_mul_cancel d1
  have e2 := Int.ediv_mul_cancel d2
  have p1 : 0 ≤ a / (Int.gcd a b : Int) := Int.ediv_nonneg ha (by (first | lia | omega))
  have p2 : 0 ≤ b / (Int.gcd a b : Int) := Int.ediv_nonneg (by (first | lia | omega)) (by (first | lia | omega))
  have p3 : b / (Int.gcd a b : Int) ≠ 0 := by
    intro e; rw [e] at e2; (first | lia | omega)
  refine ⟨p1, by (first | lia | omega), ?_, Int.ediv_le_self _ ha, Int.ediv_le_self _ (by (first | lia | omega)), e1, e2⟩
  exact Int.gcd_ediv_gcd_ediv_gcd_of_ne_zero_right (by (first | lia | omega))

section
variable {c : Cx} (hc : recsOf c.p = recsOf pw_uf050018_14) (B : Bn c)
include hc

theorem f_cell (B : Bn c) {ns : List Int} {k : Int} (h0 : 0 ≤ k) (h1 : k < 2 ^ 60) (hn : ns.length ≤ 63) : FnD c 1 "_law_cell_at" [scr ns, .int k] (.int (cell ns k)) := by
  have hdef := def_at (f := "_law_cell_at") hc 29 rfl rfl rfl (by kernel_rfl)
  refine fn2 (x1 := "_law_script") (x2 := "_law_k") hdef rf_old (by intros; rfl) (fun A g h L fa cd T rm S => ?_)
  have hl : (ns.map PyData.int).length < 2 ^ 62 := by simp; (first | lia | omega)
  refine run_if S (tr_icmp (ev_var S rfl) (ev_lenl S T B (ev_var S rfl) hl) rfl) (fun e h S => ?_) (fun e h S => ?_)
  · have e' : k < ns.length := by simpa using e
    have hx : (ns.map PyData.int)[k.toNat]? = some (.int (cell ns k)) := by
      have : k.toNat < ns.length := by (first | lia | omega)
      simp [cell, this]
    exact run_ret (ev_lidx (ev_var S rfl) (ev_var S rfl) hx h0 (by (first | lia | omega))) fun v h' _ r => Rf.of_flat rfl r
  · have e' : ¬ k < ns.length := by simpa using e
    have hx : cell ns k = 0 := by
      have : ns.length ≤ k.toNat := by (first | lia | omega)
      simp [cell, List.getElem?_eq_none this]
    rw [hx]
    exact run_nil (run_ret ev_int fun v h' _ r => Rf.of_flat rfl r)

theorem f_way (B : Bn c) {ns : List Int} {k m : Int} (h0 : 0 ≤ k) (h1 : k < 2 ^ 60) (hn : ns.length ≤ 63) (hm : 0 < m) : FnD c 2 "_law_way" [scr ns, .int k, .int m] (.int (wayF ns k m)) := by
  have hdef := def_at (f := "_law_way") hc 30 rfl rfl rfl (by kernel_rfl)
  refine fn3 (x1 := "_law_script") (x2 := "_law_k") (x3 := "_law_many") hdef rf_old (by intros; rfl) (fun A g h L fa cd T rm S => ?_)
  have hl : (ns.map PyData.int).length < 2 ^ 62 := by simp; (first | lia | omega)
  have e : wayF ns k m = (cell ns k * 48271 + 7919 * ((ns.map PyData.int).length : Int)) % 2147483647 % m := by simp [wayF]
  rw [e]
  exact run_ret (ev_mod (ev_mod (ev_add (ev_mul (ev_calld S T rm (f_cell hc B h0 h1 hn) (evl_cons (ev_var S rfl) (evl_cons (ev_var S rfl) evl_nil))) ev_int (by walk_at "mul")) (ev_mul ev_int (ev_lenl S T B (ev_var S rfl) hl) (by walk_at "mul"))) ev_int (by decide)) (ev_var S rfl) hm) fun v h' _ r => Rf.of_flat rfl r

theorem f_whole (B : Bn c) {d : PyData} : FnD c 1 "_law_whole" [d] (.bool (isInt d)) := by
  have hdef := def_at (f := "_law_whole") hc 31 rfl rfl rfl (by kernel_rfl)
  refine fn1 (x1 := "_law_found") hdef rf_old (by intros; rfl) (fun A g h L fa cd T rm S => ?_)
  have e : isInt d = (isiB d "int" && !isiB d "bool") := by cases d <;> rfl
  rw [e]
  exact run_ret (ev_bop (bo_and (ev_isi S T B (ev_var S rfl)) fun _ => (bo_last (ev_not (ev_isi S T B (ev_var S rfl)))))) fun v h' _ r => Rf.of_flat rfl r

theorem f_shared {a b : Int} (ha : 0 ≤ a) (hb : 0 ≤ b) : FnD c 1 "_law_shared" [.int a, .int b] (.int (Int.gcd a b)) := by
  have hdef := def_at (f := "_law_shared") hc 32 rfl rfl rfl (by kernel_rfl)
  refine fn2 (x1 := "_law_one") (x2 := "_law_other") hdef rf_old (by intros; rfl) (fun A g h L fa cd T rm S => ?_)
  refine run_while (fun n ρ μ => ∃ a' b' : Int, 0 ≤ a' ∧ 0 ≤ b' ∧ n = b'.toNat ∧ μ = none ∧ ρ = ([("_law_one", .int a'), ("_law_other", .int b')] : Locs) ∧ Int.gcd a' b' = Int.gcd a b) b.toNat S ⟨a, b, ha, hb, rfl, rfl, rfl, rfl⟩ ?_
  rintro n ρ μ h ⟨a', b', ha', hb', rfl, rfl, rfl, hg⟩ S
  refine ⟨_, tr_icmp (ev_var S rfl) ev_int rfl, fun e h' S => ?_, fun e h' S => ?_⟩
  · have hpos : 0 < b' := by simpa using e
    refine run_swap2 rm.hd S (evl_cons (ev_var S rfl) (evl_cons (ev_mod (ev_var S rfl) (ev_var S rfl) hpos) evl_nil)) fun h' S => ?_
    refine run_nil ⟨_, _, _, ?_, ⟨b', a' % b', by (first | lia | omega), Int.emod_nonneg _ (by (first | lia | omega)), rfl, rfl, rfl, ?_⟩, S.pick ⟨rfl, rfl, trivial⟩⟩
    · have := Int.emod_lt_of_pos a' hpos
      (first | lia | omega)
    · rw [← hg]; exact gcd_step hpos
  · have h0 : b' = 0 := by
      have : ¬ (b' > 0) := by simpa using e
      (first | lia | omega)
    subst h0
    refine run_ret (ev_var S rfl) fun v h' k r => Rf.of_flat rfl ?_
    have : (a' : Int) = (Int.gcd a b : Int) := by rw [← hg]; simp; (first | lia | omega)
    rw [← this]; exact r

theorem f_frac {a b : Int} (ha : 0 ≤ a) (hb : 1 ≤ b) {n : Nat} (sb : Sz n b) (hn : n ≤ 250) : FnD c 2 "_law_frac" [.int a, .int b] (.tuple [.int (a / (Int.gcd a b : Int)), .int (b / (Int.gcd a b : Int))]) := by
  have hdef := def_at (f := "_law_frac") hc 33 rfl rfl rfl (by kernel_rfl)
  refine fn2 (x1 := "_law_upper") (x2 := "_law_lower") hdef rf_old (by intros; rfl) (fun A g h L fa cd T rm S => ?_)
  refine run_set S (ev_calld S T rm (f_shared hc ha (by (first | lia | omega))) (evl_cons (ev_var S rfl) (evl_cons (ev_var S rfl) evl_nil))) fun h S => ?_
  have hg := gcd_pos (a := a) hb
  have hg2 : (Int.gcd a b : Int) < 10 ^ 250 := div_ok (sb.le (by (first | lia | omega)) (gcd_le hb)) hn
  exact run_ret (ev_tup (evl_cons (ev_div (ev_var S rfl) (ev_var S rfl) (by (first | lia | omega)) hg2) (evl_cons (ev_div (ev_var S rfl) (ev_var S rfl) (by (first | lia | omega)) hg2) evl_nil))) fun v h' _ r => Rf.of_flat rfl r

omit hc in
theorem ge_of {a : Int} (e : decide (a ≥ 0) = true) : 0 ≤ a := by simpa using e
omit hc in
theorem ge_of1 {a : Int} (e : decide (a ≥ 1) = true) : 0 ≤ a := by have h : a ≥ 1 := of_decide_eq_true e; (first | lia | omega)
/-- is a pair of ints a fraction in lowest terms? -/
def fracB (a b : Int) : Bool := decide (a ≥ 0) && (decide (b ≥ 1) && ((Int.gcd a b : Int) == 1))
theorem f_is_frac (B : Bn c) {a b : Int} : FnD c 2 "_law_is_frac" [.tuple [.int a, .int b]] (.bool (fracB a b)) := by
  have hdef := def_at (f := "_law_is_frac") hc 34 rfl rfl rfl (by kernel_rfl)
  refine fn1 (x1 := "_law_found") hdef rf_old (by intros; rfl) (fun A g h L fa cd T rm S => ?_)
  refine run_if S (tr_bool (all_or (tr_not (tr_val (ev_isi S T B (ev_var S rfl)))) fun _ => (all_or (tr_icmp (ev_lent S T B (ev_var S rfl) (by walk_at "len")) ev_int rfl) fun _ => all_or_nil))) (fun e h S => by simp [isiB] at e) (fun e h S => run_nil ?_)
  refine run_if S (tr_bool (all_or (tr_not (tr_val (ev_calld S T rm (f_whole hc B) (evl_cons (ev_tidx (ev_var S rfl) ev_int) evl_nil)))) fun _ => (all_or (tr_not (tr_val (ev_calld S T rm (f_whole hc B) (evl_cons (ev_tidx (ev_var S rfl) ev_int) evl_nil)))) fun _ => all_or_nil))) (fun e h S => by simp [isInt] at e) (fun e h S => run_nil ?_)
  refine run_ret (ev_bop (bo_and (ev_icmp (ev_tidx (ev_var S rfl) ev_int) ev_int rfl) fun e1 => bo_and (ev_icmp (ev_tidx (ev_var S rfl) ev_int) ev_int rfl) fun e2 => bo_last (ev_icmp (ev_calld S T rm (f_shared hc (ge_of e1) (ge_of1 e2)) (evl_cons (ev_tidx (ev_var S rfl) ev_int) (evl_cons (ev_tidx (ev_var S rfl) ev_int) evl_nil))) ev_int rfl))) fun v h' _ r => Rf.of_flat rfl r
omit hc in
theorem fracB_true {a b : Int} (ha : 0 ≤ a) (hb : 1 ≤ b) (hg : Int.gcd a b = 1) : fracB a b = true := by simp [fracB, ha, hb, hg]

theorem f_is_whole (B : Bn c) {d : PyData} {k : Int} : FnD c 1 "is_whole" [d, .int k] (.bool (wholeB d k)) := by
  have hdef := def_at (f := "is_whole") hc 10 rfl rfl rfl (by kernel_rfl)
  refine fn2 (x1 := "thing") (x2 := "least") hdef rf_old (by intros; rfl) (fun A g h L fa cd T rm S => ?_)
  cases d with
  | int a => exact run_ret (ev_bop (bo_and (ev_isi S T B (ev_var S rfl)) fun _ => bo_and (ev_not (ev_isi S T B (ev_var S rfl))) fun _ => bo_last (ev_icmp (ev_var S rfl) (ev_var S rfl) rfl))) fun v h' _ r => Rf.of_flat rfl r
  | bool b => exact run_ret (ev_bop (bo_and (ev_isi S T B (ev_var S rfl)) fun _ => bo_and (b := false) (ev_not (ev_isi S T B (ev_var S rfl))) fun e' => absurd e' (by simp [isiB]))) fun v h' _ r => Rf.of_flat rfl r
  | none => exact run_ret (ev_bop (bo_and (b := false) (ev_isi S T B (ev_var S rfl)) fun e => absurd e (by simp [isiB]))) fun v h' _ r => Rf.of_flat rfl r
  | str x => exact run_ret (ev_bop (bo_and (b := false) (ev_isi S T B (ev_var S rfl)) fun e => absurd e (by simp [isiB]))) fun v h' _ r => Rf.of_flat rfl r
  | list x => exact run_ret (ev_bop (bo_and (b := false) (ev_isi S T B (ev_var S rfl)) fun e => absurd e (by simp [isiB]))) fun v h' _ r => Rf.of_flat rfl r
  | tuple x => exact run_ret (ev_bop (bo_and (b := false) (ev_isi S T B (ev_var S rfl)) fun e => absurd e (by simp [isiB]))) fun v h' _ r => Rf.of_flat rfl r
  | dict x => exact run_ret (ev_bop (bo_and (b := false) (ev_isi S T B (ev_var S rfl)) fun e => absurd e (by simp [isiB]))) fun v h' _ r => Rf.of_flat rfl r

theorem f_divisor {a b : Int} (ha : 0 ≤ a) (hb : 0 ≤ b) : FnD c 1 "divisor" [.int a, .int b] (.int (Int.gcd a b)) := by
  have hdef := def_at (f := "divisor") hc 11 rfl rfl rfl (by kernel_rfl)
  refine fn2 (x1 := "one") (x2 := "other") hdef rf_old (by intros; rfl) (fun A g h L fa cd T rm S => ?_)
  refine run_while (fun n ρ μ => ∃ a' b' : Int, 0 ≤ a' ∧ 0 ≤ b' ∧ n = b'.toNat ∧ μ = none ∧ ρ = ([("one", .int a'), ("other", .int b')] : Locs) ∧ Int.gcd a' b' = Int.gcd a b) b.toNat S ⟨a, b, ha, hb, rfl, rfl, rfl, rfl⟩ ?_
  rintro n ρ μ h ⟨a', b', ha', hb', rfl, rfl, rfl, hg⟩ S
  refine ⟨_, tr_icmp (ev_var S rfl) ev_int rfl, fun e h' S => ?_, fun e h' S => ?_⟩
  · have hpos : 0 < b' := by simpa using e
    refine run_set S (ev_mod (ev_var S rfl) (ev_var S rfl) hpos) fun h' S => ?_
    refine run_set S (ev_var S rfl) fun h' S => ?_
    refine run_set S (ev_var S rfl) fun h' S => ?_
    refine run_nil ⟨_, _, _, ?_, ⟨b', a' % b', by (first | lia | omega), Int.emod_nonneg _ (by (first | lia | omega)), rfl, rfl, rfl, ?_⟩, S.pick ⟨rfl, rfl, trivial⟩⟩
    · have := Int.emod_lt_of_pos a' hpos
      (first | lia | omega)
    · rw [← hg]; exact gcd_step hpos
  · have h0 : b' = 0 := by
      have : ¬ (b' > 0) := by simpa using e
      (first | lia | omega)
    subst h0
    refine run_ret (ev_var S rfl) fun v h' k r => Rf.of_flat rfl ?_
    have : (a' : Int) = (Int.gcd a b : Int) := by rw [← hg]; simp; (first | lia | omega)
    rw [← this]; exact r

theorem f_lowest (B : Bn c) {a b : Int} (ha : 0 ≤ a) (hb : 1 ≤ b) {n : Nat} (sb : Sz n b) (hn : n ≤ 250) : FnD c 2 "lowest" [.int a, .int b] (.tuple [.int (a / (Int.gcd a b : Int)), .int (b / (Int.gcd a b : Int))]) := by
  have hdef := def_at (f := "lowest") hc 12 rfl rfl rfl (by kernel_rfl)
  refine fn2 (x1 := "upper") (x2 := "lower") hdef rf_old (by intros; rfl) (fun A g h L fa cd T rm S => ?_)
  refine run_if S (tr_bool (all_or (tr_not (tr_val (ev_calld S T rm (f_is_whole hc B) (evl_cons (ev_var S rfl) (evl_cons ev_int evl_nil))))) fun _ => (all_or (tr_not (tr_val (ev_calld S T rm (f_is_whole hc B) (evl_cons (ev_var S rfl) (evl_cons ev_int evl_nil))))) fun _ => all_or_nil))) (fun e h S => by simp [wholeB, ha, hb] at e) (fun e h S => run_nil ?_)
  refine run_set S (ev_calld S T rm (f_divisor hc ha (by (first | lia | omega))) (evl_cons (ev_var S rfl) (evl_cons (ev_var S rfl) evl_nil))) fun h S => ?_
  have hg := gcd_pos (a := a) hb
  have hg2 : (Int.gcd a b : Int) < 10 ^ 250 := div_ok (sb.le (by (first | lia | omega)) (gcd_le hb)) hn
  exact run_ret (ev_tup (evl_cons (ev_div (ev_var S rfl) (ev_var S rfl) (by (first | lia | omega)) hg2) (evl_cons (ev_div (ev_var S rfl) (ev_var S rfl) (by (first | lia | omega)) hg2) evl_nil))) fun v h' _ r => Rf.of_flat rfl r


/-- a fraction: its two parts in order -/
structure Fr2 (n : Nat) (a b : Int) : Prop where
  lo : 0 ≤ a
  up : 1 ≤ b
  co : Int.gcd a b = 1
  sa : Sz n a
  sb : Sz n b
theorem f_frac_ex {a b : Int} (ha : 0 ≤ a) (hb : 1 ≤ b) {n : Nat} (sa : Sz n a) (sb : Sz n b) (hn : n ≤ 250) : ∃ a' b' : Int, FnD c 2 "_law_frac" [.int a, .int b] (.tuple [.int a', .int b']) ∧ Fr2 n a' b' ∧ a' * b = a * b' := by
  obtain ⟨p1, p2, p3, p4, p5, p6, p7⟩ := low_props ha hb
  refine ⟨_, _, f_frac hc ha hb sb hn, ⟨p1, p2, p3, sa.le p1 p4, sb.le (by (first | lia | omega)) p5⟩, ?_⟩
  generalize ha' : a / (Int.gcd a b : Int) = a' at *
  generalize hb' : b / (Int.gcd a b : Int) = b' at *
  generalize (Int.gcd a b : Int) = g at *
  rw [← p7, ← p6]; grind

theorem f_less {a b a' b' : Int} {n : Nat} (s1 : Sz n a) (s2 : Sz n b) (s3 : Sz n a') (s4 : Sz n b') (hn : n ≤ 1000) : FnD c 1 "less" [.tuple [.int a, .int b], .tuple [.int a', .int b']] (.bool (decide (a * b' < a' * b))) := by
  have hdef := def_at (f := "less") hc 13 rfl rfl rfl (by kernel_rfl)
  refine fn2 (x1 := "one") (x2 := "other") hdef rf_old (by intros; rfl) (fun A g h L fa cd T rm S => ?_)
  exact run_ret (ev_icmp (ev_mul (ev_tidx (ev_var S rfl) ev_int) (ev_tidx (ev_var S rfl) ev_int) (mul_ok s1 s4 hn hn)) (ev_mul (ev_tidx (ev_var S rfl) ev_int) (ev_tidx (ev_var S rfl) ev_int) (mul_ok s3 s2 hn hn)) rfl) fun v h' _ r => Rf.of_flat rfl r

theorem f_apart (B : Bn c) {a b a' b' : Int} {n : Nat} (f1 : Fr2 n a b) (f2 : Fr2 n a' b') (hn : n ≤ 120) : ∃ x y : Int, FnD c 3 "apart" [.tuple [.int a, .int b], .tuple [.int a', .int b']] (.tuple [.int x, .int y]) ∧ Fr2 (n + n + 1) x y ∧ x * (b * b') = ((a * b' - a' * b).natAbs : Int) * y := by
  have hbb : 1 ≤ b * b' := by
    have h1 := f1.up; have h2 := f2.up
    have := Int.mul_le_mul h1 h2 (by (first | lia | omega)) (by (first | lia | omega))
    (first | lia | omega)
  have sg : Sz (n + n + 1) ((a * b' - a' * b).natAbs : Int) := ((f1.sa.mul f2.sb).sub (f2.sa.mul f1.sb)).abs.mono (by (first | lia | omega))
  have sl : Sz (n + n + 1) (b * b') := (f1.sb.mul f2.sb).mono (by (first | lia | omega))
  have hlow := f_lowest hc B (a := ((a * b' - a' * b).natAbs : Int)) (b := b * b') (by (first | lia | omega)) hbb sl (by (first | lia | omega))
  obtain ⟨p1, p2, p3, p4, p5, p6, p7⟩ := low_props (a := ((a * b' - a' * b).natAbs : Int)) (b := b * b') (by (first | lia | omega)) hbb
  refine ⟨_, _, ?_, ⟨p1, p2, p3, sg.le p1 p4, sl.le (by (first | lia | omega)) p5⟩, ?_⟩
  · have hdef := def_at (f := "apart") hc 14 rfl rfl rfl (by kernel_rfl)
    refine fn2 (x1 := "one") (x2 := "other") hdef rf_old (by intros; rfl) (fun A g h L fa cd T rm S => ?_)
    refine run_set S (ev_abs S T B (ev_sub (ev_mul (ev_tidx (ev_var S rfl) ev_int) (ev_tidx (ev_var S rfl) ev_int) (mul_ok f1.sa f2.sb (by (first | lia | omega)) (by (first | lia | omega)))) (ev_mul (ev_tidx (ev_var S rfl) ev_int) (ev_tidx (ev_var S rfl) ev_int) (mul_ok f2.sa f1.sb (by (first | lia | omega)) (by (first | lia | omega)))))) fun h S => ?_
    exact run_ret (ev_calld S T rm hlow (evl_cons (ev_var S rfl) (evl_cons (ev_mul (ev_tidx (ev_var S rfl) ev_int) (ev_tidx (ev_var S rfl) ev_int) (mul_ok f1.sb f2.sb (by (first | lia | omega)) (by (first | lia | omega)))) evl_nil))) fun v h' _ r => Rf.of_flat rfl r
  · generalize ((a * b' - a' * b).natAbs : Int) = G at *
    generalize b * b' = D at *
    generalize G / (Int.gcd G D : Int) = x at *
    generalize D / (Int.gcd G D : Int) = y at *
    generalize (Int.gcd G D : Int) = q at *
    rw [← p7, ← p6]; grind

omit hc in
theorem Fr2.mono {n m : Nat} {a b : Int} (f : Fr2 n a b) (h : n ≤ m) : Fr2 m a b := ⟨f.lo, f.up, f.co, f.sa.mono h, f.sb.mono h⟩


theorem f_path_of {p : Path} {U V : Int} (ok : okP none p) (he : endP p = (U, V)) (sU : Sz 100 U) (sV : Sz 100 V) : FnL c 1 "path_of" [PD U V] (pathD p) := by
  have hlen : p.length < 600 := len_small ok (by rw [he]; have := sU.2; have := sV.2; show U + V ≤ 10 ^ 101; (first | lia | omega))
  have hpos := end_pos ok
  rw [he] at hpos
  obtain ⟨hU, hV⟩ := hpos
  dsimp only at hU hV
  have hdef := def_at (f := "path_of") hc 26 rfl rfl rfl (by kernel_rfl)
  refine fn1 (x1 := "frac") hdef rl_old (by intros; rfl) (fun A g h L fa cd T rm S => ?_)
  refine run_unpack2 rm.hd S (ev_var S rfl) fun h S => ?_
  refine run_if S (tr_icmp (ev_var S rfl) ev_int rfl) (fun e h S => by simp at e; (first | lia | omega)) (fun e h S => run_nil ?_)
  refine run_own S (ev_list evl_nil) fun l h S => ?_
  have S1 : St g L h [("upper", .int (endP p).1), ("lower", .int (endP p).2)] (some ("path", l, pathD [])) := by rw [he]; exact S.pick ⟨rfl, rfl, trivial⟩
  refine run_while (fun n ρ μ => ∃ dn rs a, p = dn ++ rs ∧ okP a rs ∧ n = rs.length ∧ Sz 100 (endP rs).1 ∧ Sz 100 (endP rs).2 ∧ μ = (some ("path", l, pathD dn) : Mut) ∧ ρ = ([("upper", .int (endP rs).1), ("lower", .int (endP rs).2)] : Locs)) p.length S1 ⟨[], p, none, rfl, ok, rfl, by rw [he]; exact sU, by rw [he]; exact sV, rfl, rfl⟩ ?_
  rintro n ρ μ h ⟨dn, rs, a, hp, hok, rfl, s1, s2, rfl, rfl⟩ S
  obtain ⟨hu, hl⟩ := end_pos hok
  refine ⟨_, (tr_icmp (ev_var S rfl) (ev_var S rfl) rfl), fun e h S => ?_, fun e h S => ?_⟩
  · cases rs with
    | nil => simp [endP] at e
    | cons s t =>
      obtain ⟨w, m⟩ := s
      obtain ⟨tu, tl⟩ := end_pos hok.2.2
      have hm : 1 ≤ m := hok.1
      have hdl : dn.length < 600 := by rw [hp] at hlen; simp at hlen; (first | lia | omega)
      cases w
      · obtain ⟨e1, e2, e3⟩ := end_left hok
        have sm : Sz 100 m := by
          rw [← e2]
          exact s2.le (Int.ediv_nonneg (by (first | lia | omega)) (by (first | lia | omega))) (Int.le_trans (Int.ediv_le_self _ (by (first | lia | omega))) (by (first | lia | omega)))
        have hd : (endP t).2 ≤ (endP ((false, m) :: t)).2 := by
          rw [← e3]
          have := Int.mul_nonneg (show 0 ≤ m by (first | lia | omega)) (show 0 ≤ (endP ((false, m) :: t)).1 by (first | lia | omega))
          (first | lia | omega)
        refine run_if S (tr_icmp (ev_var S rfl) (ev_var S rfl) rfl) (fun e h S => by simp at e; (first | lia | omega)) (fun e h S => ?_)
        refine run_set S (ev_div (ev_sub (ev_var S rfl) ev_int) (ev_var S rfl) (by walk_at "pos") (by walk_at "small")) fun h S => ?_
        rw [e2] at S
        refine run_append S (ev_tup (evl_cons ev_str (evl_cons (ev_var S rfl) evl_nil))) rfl (.head _) (by rw [pathD_len]; (first | lia | omega)) fun h S => ?_
        refine run_set S (ev_sub (ev_var S rfl) (ev_mul (ev_var S rfl) (ev_var S rfl) (by walk_at "mul"))) fun h S => ?_
        rw [e3] at S
        exact run_nil (run_nil ⟨t.length, _, _, by simp, ⟨dn ++ [(false, m)], t, some false, by rw [hp]; simp, hok.2.2, rfl, s1, s2.le (by (first | lia | omega)) hd, by rw [pathD_snoc]; rfl, rfl⟩, S.pick ⟨rfl, rfl, trivial⟩⟩)
      · obtain ⟨e1, e2, e3⟩ := end_right hok
        have sm : Sz 100 m := by
          rw [← e2]
          exact s1.le (Int.ediv_nonneg (by (first | lia | omega)) (by (first | lia | omega))) (Int.le_trans (Int.ediv_le_self _ (by (first | lia | omega))) (by (first | lia | omega)))
        have hd : (endP t).1 ≤ (endP ((true, m) :: t)).1 := by
          rw [← e3]
          have := Int.mul_nonneg (show 0 ≤ m by (first | lia | omega)) (show 0 ≤ (endP ((true, m) :: t)).2 by (first | lia | omega))
          (first | lia | omega)
        refine run_if S (tr_icmp (ev_var S rfl) (ev_var S rfl) rfl) (fun e h S => ?_) (fun e h S => by simp at e; (first | lia | omega))
        refine run_set S (ev_div (ev_sub (ev_var S rfl) ev_int) (ev_var S rfl) (by walk_at "pos") (by walk_at "small")) fun h S => ?_
        rw [e2] at S
        refine run_append S (ev_tup (evl_cons ev_str (evl_cons (ev_var S rfl) evl_nil))) rfl (.head _) (by rw [pathD_len]; (first | lia | omega)) fun h S => ?_
        refine run_set S (ev_sub (ev_var S rfl) (ev_mul (ev_var S rfl) (ev_var S rfl) (by walk_at "mul"))) fun h S => ?_
        rw [e3] at S
        exact run_nil (run_nil ⟨t.length, _, _, by simp, ⟨dn ++ [(true, m)], t, some true, by rw [hp]; simp, hok.2.2, rfl, s1.le (by (first | lia | omega)) hd, s2, by rw [pathD_snoc]; rfl, rfl⟩, S.pick ⟨rfl, rfl, trivial⟩⟩)
  · cases rs with
    | nil =>
      rw [List.append_nil] at hp
      subst hp
      exact run_ret (ev_own S) fun v h' _ r => r
    | cons s t => exact absurd (by simpa using e) (end_ne hok)

theorem f_walked {p : Path} {U V : Int} (ok : okP none p) (he : endP p = (U, V)) (sU : Sz 100 U) (sV : Sz 100 V) : FnD c 1 "walked" [.list (pathD p)] (.tuple [PD (walkP p).l0 (walkP p).l1, PD (walkP p).r0 (walkP p).r1]) := by
  have hdef := def_at (f := "walked") hc 25 rfl rfl rfl (by kernel_rfl)
  refine fn1 (x1 := "path") hdef rf_old (by intros; rfl) (fun A g h L fa cd T rm S => ?_)
  refine run_set S (ev_tup (evl_cons ev_int (evl_cons ev_int evl_nil))) fun h S => ?_
  refine run_set S (ev_tup (evl_cons ev_int (evl_cons ev_int evl_nil))) fun h S => ?_
  refine run_set S ev_str fun h S => ?_
  refine run_for2 rm.hd (fun i ρ μ => ∃ (q : Q4) (a : Option Bool), q.nn ∧ (p.drop i).foldl stepP q = walkP p ∧ okP a (p.drop i) ∧ (endP (p.drop i)).1 * q.r0 + (endP (p.drop i)).2 * q.l0 = U ∧ (endP (p.drop i)).1 * q.r1 + (endP (p.drop i)).2 * q.l1 = V ∧ μ = none ∧
      ρ = ([("left", PD q.l0 q.l1), ("right", PD q.r0 q.r1), ("ahead", .str (aw a))] : Locs)) (S.pick (ρ' := [("left", PD q0.l0 q0.l1), ("right", PD q0.r0 q0.r1), ("ahead", .str (aw none))]) ⟨rfl, rfl, rfl, trivial⟩) (iter_list rm.hd (src_var S rfl wok_nil) (w_hold S wok_nil)) ⟨q0, none, q0_nn, rfl, ok, ?_, ?_, rfl, rfl⟩ (w_hold S wok_nil) ?_ ?_ ?_ ?_
  · rw [List.drop_zero, he]; simp [q0]
  · rw [List.drop_zero, he]; simp [q0]
  · rintro i d1 d2 ρ μ h hd ⟨q, a, nn, hf, hok, h0, h1, rfl, rfl⟩ S
    have hd' : ∃ s, p[i]? = some s ∧ runD s = .tuple [d1, d2] := by
      simp only [pathD, List.getElem?_map, Option.map_eq_some_iff] at hd
      exact hd
    obtain ⟨⟨w, m⟩, hpi, hrd⟩ := hd'
    have hdr := drop_at hpi
    simp only [runD, PyData.tuple.injEq, List.cons.injEq, and_true] at hrd
    obtain ⟨rfl, rfl⟩ := hrd
    obtain ⟨b1, b2, b3, b4⟩ := walk_le hok nn h0 h1
    have z1 := sU.le nn.a b1
    have z2 := sU.le nn.c b2
    have z3 := sV.le nn.b b3
    have z4 := sV.le nn.d b4
    have hmem := runs_le ok (w, m) (List.mem_of_getElem? hpi)
    rw [he] at hmem
    rw [hdr] at hok hf h0 h1
    have hm : 1 ≤ m := hok.1
    have zm : Sz 101 m := (sU.add sV).le (by (first | lia | omega)) hmem
    have hne : a ≠ some w := hok.2.1
    have e3 : PyData.eqv (.str (wd w)) (.str (aw a)) = false := by
      rcases a with _ | _ | _ <;> cases w <;> first | exact absurd rfl hne | decide +kernel
    have e1 : ([PyData.str "left", .str "right"].any fun y => PyData.eqv y (.str (wd w))) = true := by cases w <;> decide +kernel
    have hsw : SeqAt.shaped (.str (wd w)) = true := by cases w <;> decide +kernel
    have hsa : SeqAt.shaped (.str (aw a)) = true := by rcases a with _ | _ | _ <;> decide +kernel
    refine run_if S (tr_bool (all_or (tr_notin rm (ev_var S rfl) (ev_tup (evl_cons ev_str (evl_cons ev_str evl_nil))) (by decide +kernel) hsw) fun _ => (all_or (tr_icmp (ev_var S rfl) ev_int rfl) fun _ => (all_or (tr_eq rm (ev_var S rfl) (ev_var S rfl) hsw hsa) fun _ => all_or_nil)))) (fun e h S => ?_) (fun e h S => run_nil ?_)
    · rw [e1, e3] at e; simp at e; (first | lia | omega)
    cases w
    · refine run_if S (tr_eq rm (ev_var S rfl) ev_str (by decide +kernel) (by decide +kernel)) (fun e h S => by exact absurd e (by decide +kernel)) (fun e h S => ?_)
      refine run_set S (ev_tup (evl_cons (ev_add (ev_tidx (ev_var S rfl) ev_int) (ev_mul (ev_var S rfl) (ev_tidx (ev_var S rfl) ev_int) (by walk_at "mul"))) (evl_cons (ev_add (ev_tidx (ev_var S rfl) ev_int) (ev_mul (ev_var S rfl) (ev_tidx (ev_var S rfl) ev_int) (by walk_at "mul"))) evl_nil))) fun h S => run_nil ?_
      refine run_set S (ev_var S rfl) fun h S => run_nil ⟨_, _, ⟨stepP q (false, m), some false, step_nn nn (by show 0 ≤ m; (first | lia | omega)), hf, hok.2.2, ?_, ?_, rfl, rfl⟩, S.pick ⟨rfl, rfl, rfl, trivial⟩⟩
      · exact (stepL (endP (p.drop (i + 1))).1 (endP (p.drop (i + 1))).2 m q.r0 q.l0).symm.trans h0
      · exact (stepL (endP (p.drop (i + 1))).1 (endP (p.drop (i + 1))).2 m q.r1 q.l1).symm.trans h1
    · refine run_if S (tr_eq rm (ev_var S rfl) ev_str (by decide +kernel) (by decide +kernel)) (fun e h S => ?_) (fun e h S => by exact absurd e (by decide +kernel))
      refine run_set S (ev_tup (evl_cons (ev_add (ev_tidx (ev_var S rfl) ev_int) (ev_mul (ev_var S rfl) (ev_tidx (ev_var S rfl) ev_int) (by walk_at "mul"))) (evl_cons (ev_add (ev_tidx (ev_var S rfl) ev_int) (ev_mul (ev_var S rfl) (ev_tidx (ev_var S rfl) ev_int) (by walk_at "mul"))) evl_nil))) fun h S => run_nil ?_
      refine run_set S (ev_var S rfl) fun h S => run_nil ⟨_, _, ⟨stepP q (true, m), some true, step_nn nn (by show 0 ≤ m; (first | lia | omega)), hf, hok.2.2, ?_, ?_, rfl, rfl⟩, S.pick ⟨rfl, rfl, rfl, trivial⟩⟩
      · exact (stepR (endP (p.drop (i + 1))).1 (endP (p.drop (i + 1))).2 m q.r0 q.l0).symm.trans h0
      · exact (stepR (endP (p.drop (i + 1))).1 (endP (p.drop (i + 1))).2 m q.r1 q.l1).symm.trans h1
  · rintro ρ μ h ⟨q, a, nn, hf, hok, h0, h1, rfl, rfl⟩ S
    rw [pathD_len, List.drop_length] at hf
    have hq : q = walkP p := hf
    subst hq
    exact run_ret (ev_tup (evl_cons (ev_var S rfl) (evl_cons (ev_var S rfl) evl_nil))) fun v h' _ r => Rf.of_flat rfl r
  · intro d hd
    obtain ⟨s, _, rfl⟩ := List.mem_map.mp hd
    exact ⟨_, _, rfl, rfl, rfl⟩
  · rintro i ρ μ ⟨q, a, nn, hf, hok, h0, h1, rfl, rfl⟩ q' e
    cases e

theorem f_sides {p : Path} {U V : Int} (ok : okP none p) (he : endP p = (U, V)) (sU : Sz 100 U) (sV : Sz 100 V) : FnD c 2 "sides" [PD U V] (.tuple [PD (walkP p).l0 (walkP p).l1, PD (walkP p).r0 (walkP p).r1]) := by
  have hdef := def_at (f := "sides") hc 27 rfl rfl rfl (by kernel_rfl)
  refine fn1 (x1 := "frac") hdef rf_old (by intros; rfl) (fun A g h L fa cd T rm S => ?_)
  exact run_ret (ev_calld S T rm (f_walked hc ok he sU sV) (evl_cons ((ev_call S T rm (f_path_of hc ok he sU sV) (evl_cons (ev_var S rfl) evl_nil)).mono fun _ _ _ r => r.rd) evl_nil)) fun v h' _ r => Rf.of_flat rfl r

theorem f_sides_ex {U V : Int} (hU : 1 ≤ U) (hV : 1 ≤ V) (hg : Int.gcd U V = 1) (sU : Sz 100 U) (sV : Sz 100 V) : ∃ l0 l1 r0 r1 : Int, FnD c 2 "sides" [PD U V] (.tuple [PD l0 l1, PD r0 r1]) ∧ 0 ≤ l0 ∧ 0 ≤ l1 ∧ 0 ≤ r0 ∧ 0 ≤ r1 ∧ r0 * l1 - l0 * r1 = 1 ∧ l0 + r0 = U ∧ l1 + r1 = V := by
  obtain ⟨p, ok, he⟩ := path_for hU hV hg
  obtain ⟨n1, n2, n3, n4⟩ := walk_nn ok q0_nn
  have hend := walk_end p q0
  rw [he] at hend
  simp only [q0] at hend
  exact ⟨_, _, _, _, f_sides hc ok he sU sV, n1, n2, n3, n4, walk_det p q0, hend.1.trans (by (first | lia | omega)), hend.2.trans (by (first | lia | omega))⟩

theorem f_need_bounds {a b c' d : Int} {n : Nat} (s1 : Sz n a) (s2 : Sz n b) (s3 : Sz n c') (s4 : Sz n d) (hn : n ≤ 1000) (h : a * d ≤ c' * b) : FnD c 2 "need_bounds" [PD a b, PD c' d] .none := by
  have hdef := def_at (f := "need_bounds") hc 17 rfl rfl rfl (by kernel_rfl)
  refine fn2 (x1 := "low") (x2 := "high") hdef rf_old (by intros; rfl) (fun A g h L fa cd T rm S => ?_)
  refine run_if S (tr_val (ev_calld S T rm (f_less hc s3 s4 s1 s2 hn) (evl_cons (ev_var S rfl) (evl_cons (ev_var S rfl) evl_nil)))) (fun e h S => by simp at e; (first | lia | omega)) (fun e h S => run_nil (run_nil ?_))
  exact Rf.of_flat rfl ⟨_, .none⟩

theorem f_need_bounds_r {K : Frag} {C D : Addr} (eN : EU K "NoBounds" C D) {a b c' d : Int} {n : Nat} (s1 : Sz n a) (s2 : Sz n b) (s3 : Sz n c') (s4 : Sz n d) (hn : n ≤ 1000) (h : c' * b < a * d) : FnR c K 2 "need_bounds" [PD a b, PD c' d] C := by
  have hdef := (def_at (f := "need_bounds") hc 17 rfl rfl rfl (by kernel_rfl))
  refine fnr2 (x1 := "low") (x2 := "high") hdef (by intros; rfl) (fun A base outer g h L fa cd PT rm S => ?_)
  have T := PT.t
  refine run_if S (tr_val (ev_calld S T rm (f_less hc s3 s4 s1 s2 hn) (evl_cons (ev_var S rfl) (evl_cons (ev_var S rfl) evl_nil)))) (fun e h S => run_raise S T PT.k eN.ec rm.hd ev_str) (fun e h S => by simp at e; (first | lia | omega))



theorem f_need_room (B : Bn c) {M : Int} (h : 1 ≤ M) : FnD c 2 "need_room" [.int M] .none := by
  have hdef := def_at (f := "need_room") hc 16 rfl rfl rfl (by kernel_rfl)
  refine fn1 (x1 := "most") hdef rf_old (by intros; rfl) (fun A g h L fa cd T rm S => ?_)
  refine run_if S (tr_not (tr_val (ev_calld S T rm (f_is_whole hc B) (evl_cons (ev_var S rfl) (evl_cons ev_int evl_nil))))) (fun e h S => by simp [wholeB] at e; (first | lia | omega)) (fun e h S => run_nil (run_nil ?_))
  exact Rf.of_flat rfl ⟨_, .none⟩

theorem f_need_room_r (B : Bn c) {K : Frag} {C D : Addr} (eN : EU K "NoRoom" C D) {d : PyData} (hd : wholeB d 1 = false) : FnR c K 2 "need_room" [d] C := by
  have hdef := (def_at (f := "need_room") hc 16 rfl rfl rfl (by kernel_rfl))
  refine fnr1 (x1 := "most") hdef (by intros; rfl) (fun A base outer g h L fa cd PT rm S => ?_)
  have T := PT.t
  refine run_if S (tr_not (tr_val (ev_calld S T rm (f_is_whole hc B) (evl_cons (ev_var S rfl) (evl_cons ev_int evl_nil))))) (fun e h S => run_raise S T PT.k eN.ec rm.hd ev_str) (fun e h S => by rw [hd] at e; cases e)

theorem f_gapd {a b x y : Int} (s1 : Sz 62 a) (s2 : Sz 62 b) (s3 : Sz 62 x) (s4 : Sz 62 y) : FnD c 1 "gap" [PD a b, PD x y] (.int (a * y - x * b)) := by
  have hdef := def_at (f := "gap") hc 18 rfl rfl rfl (by kernel_rfl)
  refine fn2 (x1 := "one") (x2 := "other") hdef rf_old (by intros; rfl) (fun A g h L fa cd T rm S => ?_)
  exact run_ret (ev_sub (ev_mul (ev_tidx (ev_var S rfl) ev_int) (ev_tidx (ev_var S rfl) ev_int) (by walk_at "mul")) (ev_mul (ev_tidx (ev_var S rfl) ev_int) (ev_tidx (ev_var S rfl) ev_int) (by walk_at "mul"))) fun v h' _ r => Rf.of_flat rfl r

theorem f_stepped {p q x y k : Int} (s3 : Sz 62 x) (s4 : Sz 62 y) (s5 : Sz 62 k) : FnD c 1 "stepped" [PD p q, PD x y, .int k] (PD (p + k * x) (q + k * y)) := by
  have hdef := def_at (f := "stepped") hc 19 rfl rfl rfl (by kernel_rfl)
  refine fn3 (x1 := "pair") (x2 := "by") (x3 := "many") hdef rf_old (by intros; rfl) (fun A g h L fa cd T rm S => ?_)
  exact run_ret (ev_tup (evl_cons (ev_add (ev_tidx (ev_var S rfl) ev_int) (ev_mul (ev_var S rfl) (ev_tidx (ev_var S rfl) ev_int) (by walk_at "mul"))) (evl_cons (ev_add (ev_tidx (ev_var S rfl) ev_int) (ev_mul (ev_var S rfl) (ev_tidx (ev_var S rfl) ev_int) (by walk_at "mul"))) evl_nil))) fun v h' _ r => Rf.of_flat rfl r

theorem f_fitting (B : Bn c) {M p q x y k : Int} (hy : 0 ≤ y) (s4 : Sz 62 y) : FnD c 1 "fitting" [.int M, PD p q, PD x y, .int k] (.int (fitF M q y k)) := by
  have hdef := def_at (f := "fitting") hc 20 rfl rfl rfl (by kernel_rfl)
  refine fn4 (x1 := "most") (x2 := "pair") (x3 := "by") (x4 := "many") hdef rf_old (by intros; rfl) (fun A g h L fa cd T rm S => ?_)
  refine run_if S (tr_icmp (ev_tidx (ev_var S rfl) ev_int) ev_int rfl) (fun e h S => ?_) (fun e h S => run_nil ?_)
  · have e' : y = 0 := by simpa using e
    have e2 : fitF M q y k = k := by simp [fitF, e']
    rw [e2]
    exact run_ret (ev_var S rfl) fun v h' _ r => Rf.of_flat rfl r
  · have e' : y ≠ 0 := by simpa using e
    have hy1 : 0 < y := by (first | lia | omega)
    have e2 : fitF M q y k = min k ((M - q) / y) := by simp [fitF, e']
    rw [e2]
    exact run_ret (ev_min S T B rm.hd (ev_var S rfl) (ev_div (ev_sub (ev_var S rfl) (ev_tidx (ev_var S rfl) ev_int)) (ev_tidx (ev_var S rfl) ev_int) (by walk_at "pos") (by walk_at "small"))) fun v h' _ r => Rf.of_flat rfl r

theorem f_around_in (B : Bn c) {t0 t1 M : Int} (hM : 1 ≤ M) (h : t1 ≤ M) : FnD c 3 "around" [PD t0 t1, .int M] (.tuple [PD t0 t1, PD t0 t1]) := by
  have hdef := def_at (f := "around") hc 21 rfl rfl rfl (by kernel_rfl)
  refine fn2 (x1 := "target") (x2 := "most") hdef rf_old (by intros; rfl) (fun A g h L fa cd T rm S => ?_)
  refine run_expr (ev_calld S T rm (f_need_room hc B hM) (evl_cons (ev_var S rfl) evl_nil)) fun v h k _ => ?_
  have S := S.keep k
  refine run_if S (tr_icmp (ev_tidx (ev_var S rfl) ev_int) (ev_var S rfl) rfl) (fun e h S => ?_) (fun e h S => by simp at e; (first | lia | omega))
  exact run_ret (ev_tup (evl_cons (ev_var S rfl) (evl_cons (ev_var S rfl) evl_nil))) fun v h' _ r => Rf.of_flat rfl r

theorem f_around (B : Bn c) {t0 t1 M : Int} {F : Q4} (G : Tg t0 t1 M) (z1 : Sz 61 t0) (z2 : Sz 61 t1) (R : AR t0 t1 M q0 F) : FnD c 3 "around" [PD t0 t1, .int M] (.tuple [PD F.l0 F.l1, PD F.r0 F.r1]) := by
  have hM := G.m1
  have hMt := G.lt
  have hdef := def_at (f := "around") hc 21 rfl rfl rfl (by kernel_rfl)
  refine fn2 (x1 := "target") (x2 := "most") hdef rf_old (by intros; rfl) (fun A g h L fa cd T rm S => ?_)
  refine run_expr (ev_calld S T rm (f_need_room hc B hM) (evl_cons (ev_var S rfl) evl_nil)) fun v h k _ => ?_
  have S := S.keep k
  refine run_if S (tr_icmp (ev_tidx (ev_var S rfl) ev_int) (ev_var S rfl) rfl) (fun e h S => by simp at e; (first | lia | omega)) (fun e h S => run_nil ?_)
  refine run_set S (ev_tup (evl_cons ev_int (evl_cons ev_int evl_nil))) fun h S => ?_
  refine run_set S (ev_tup (evl_cons ev_int (evl_cons ev_int evl_nil))) fun h S => ?_
  refine run_while (fun n ρ μ => ∃ q : Q4, Ar4 t0 t1 M q ∧ AR t0 t1 M q F ∧ n = meas t0 t1 q ∧ μ = none ∧ ρ = ([("target", PD t0 t1), ("most", .int M), ("left", PD q.l0 q.l1), ("right", PD q.r0 q.r1)] : Locs)) (meas t0 t1 q0) (S.pick (ρ' := [("target", PD t0 t1), ("most", .int M), ("left", PD q0.l0 q0.l1), ("right", PD q0.r0 q0.r1)]) ⟨rfl, rfl, rfl, rfl, trivial⟩) ⟨q0, ar_start G, R, rfl, rfl, rfl⟩ ?_
  rintro n ρ μ h ⟨q, ar, run, rfl, rfl, rfl⟩ S
  obtain ⟨b1, b2⟩ := ar_small G ar
  have hp := G.pos
  have y1 : Sz 62 t0 := z1.mono (by decide)
  have y2 : Sz 62 t1 := z2.mono (by decide)
  have y3 : Sz 62 (t0 + 1) := z1.add (sz_lit (a := 1) (by decide))
  have x1 : Sz 62 q.l0 := y1.le ar.a0 b1
  have x2 : Sz 62 q.l1 := y2.le (by have := ar.a1; (first | lia | omega)) (by have := ar.al; (first | lia | omega))
  have x3 : Sz 62 q.r0 := y3.le (by have := ar.b0; (first | lia | omega)) b2
  have x4 : Sz 62 q.r1 := y2.le ar.b1 (by have := ar.bl; (first | lia | omega))
  have hbe := ar.be
  have hab := ar.ab
  have xb : Sz 62 (t0 * q.l1 - q.l0 * t1) := y1.le (by (first | lia | omega)) ar.bt
  have xa : Sz 62 (q.r0 * t1 - t0 * q.r1) := y2.le (by (first | lia | omega)) ar.at_
  refine ⟨_, (tr_icmp (ev_add (ev_tidx (ev_var S rfl) ev_int) (ev_tidx (ev_var S rfl) ev_int)) (ev_var S rfl) rfl), fun e h S => ?_, fun e h S => ?_⟩
  · have hle : q.l1 + q.r1 ≤ M := by simpa using e
    refine run_set S (ev_calld S T rm (f_gapd hc y1 y2 x1 x2) (evl_cons (ev_var S rfl) (evl_cons (ev_var S rfl) evl_nil))) fun h S => ?_
    refine run_set S (ev_calld S T rm (f_gapd hc x3 x4 y1 y2) (evl_cons (ev_var S rfl) (evl_cons (ev_var S rfl) evl_nil))) fun h S => ?_
    have o1 : Sz 62 (1 : Int) := (sz_lit (by decide)).mono (by decide)
    have m1 : Sz 62 (q.l0 + 1 * q.r0) := by
      have := G.lt
      have q1 : q.l0 + q.r0 ≤ 2 * t0 + 1 := by (first | lia | omega)
      have z3 : Sz 62 (2 * t0 + 1) := by
        have := z1.1; have := z1.2
        constructor <;> (first | lia | omega)
      exact z3.le (by have := ar.a0; have := ar.b0; (first | lia | omega)) (by (first | lia | omega))
    have m2 : Sz 62 (q.l1 + 1 * q.r1) := y2.le (by have := ar.a1; have := ar.b1; (first | lia | omega)) (by (first | lia | omega))
    have em : t0 * (q.l1 + 1 * q.r1) - (q.l0 + 1 * q.r0) * t1 = (t0 * q.l1 - q.l0 * t1) - (q.r0 * t1 - t0 * q.r1) := by grind
    cases run with
    | stop h' => (first | lia | omega)
    | left h' hlt r' =>
      obtain ⟨ar', hm⟩ := ar4_left G ar h' hlt
      have kz : Sz 62 (fitF M q.l1 q.r1 ((t0 * q.l1 - q.l0 * t1) / (q.r0 * t1 - t0 * q.r1))) := by
        obtain ⟨_, k1, k2⟩ := ar_left G ar h' hlt rfl
        have hb := ar'.bt
        refine y1.le (by (first | lia | omega)) ?_
        have k3 : fitF M q.l1 q.r1 ((t0 * q.l1 - q.l0 * t1) / (q.r0 * t1 - t0 * q.r1)) ≤ (t0 * q.l1 - q.l0 * t1) / (q.r0 * t1 - t0 * q.r1) := by unfold fitF; split <;> (first | lia | omega)
        exact Int.le_trans k3 (Int.le_trans (Int.ediv_le_self _ (by (first | lia | omega))) ar.bt)
      refine run_if S (tr_icmp (ev_calld S T rm (f_gapd hc y1 y2 m1 m2) (evl_cons (ev_var S rfl) (evl_cons (ev_calld S T rm (f_stepped hc x3 x4 o1) (evl_cons (ev_var S rfl) (evl_cons (ev_var S rfl) (evl_cons ev_int evl_nil)))) evl_nil))) ev_int rfl) (fun e h S => ?_) (fun e h S => by rw [em] at e; simp at e; (first | lia | omega))
      exact run_set S (ev_calld S T rm (f_stepped hc x3 x4 kz) (evl_cons (ev_var S rfl) (evl_cons (ev_var S rfl) (evl_cons (ev_calld S T rm (f_fitting hc B ar.b1 x4) (evl_cons (ev_var S rfl) (evl_cons (ev_var S rfl) (evl_cons (ev_var S rfl) (evl_cons (ev_div (ev_var S rfl) (ev_var S rfl) (by walk_at "pos") (by walk_at "small")) evl_nil))))) evl_nil)))) fun h S => run_nil (run_nil ⟨_, _, _, hm, ⟨_, ar', r', rfl, rfl, rfl⟩, S.pick ⟨rfl, rfl, rfl, rfl, trivial⟩⟩)
    | right h' hlt r' =>
      obtain ⟨ar', hm⟩ := ar4_right G ar h' hlt
      have kz : Sz 62 (fitF M q.r1 q.l1 ((q.r0 * t1 - t0 * q.r1) / (t0 * q.l1 - q.l0 * t1))) := by
        obtain ⟨_, k1, k2⟩ := ar_right G ar h' hlt rfl
        refine y2.le (by (first | lia | omega)) ?_
        have k3 : fitF M q.r1 q.l1 ((q.r0 * t1 - t0 * q.r1) / (t0 * q.l1 - q.l0 * t1)) ≤ (q.r0 * t1 - t0 * q.r1) / (t0 * q.l1 - q.l0 * t1) := by unfold fitF; split <;> (first | lia | omega)
        exact Int.le_trans k3 (Int.le_trans (Int.ediv_le_self _ (by (first | lia | omega))) ar.at_)
      refine run_if S (tr_icmp (ev_calld S T rm (f_gapd hc y1 y2 m1 m2) (evl_cons (ev_var S rfl) (evl_cons (ev_calld S T rm (f_stepped hc x3 x4 o1) (evl_cons (ev_var S rfl) (evl_cons (ev_var S rfl) (evl_cons ev_int evl_nil)))) evl_nil))) ev_int rfl) (fun e h S => by rw [em] at e; simp at e; (first | lia | omega)) (fun e h S => ?_)
      exact run_set S (ev_calld S T rm (f_stepped hc x1 x2 kz) (evl_cons (ev_var S rfl) (evl_cons (ev_var S rfl) (evl_cons (ev_calld S T rm (f_fitting hc B (by have := ar.a1; (first | lia | omega)) x2) (evl_cons (ev_var S rfl) (evl_cons (ev_var S rfl) (evl_cons (ev_var S rfl) (evl_cons (ev_div (ev_var S rfl) (ev_var S rfl) (by walk_at "pos") (by walk_at "small")) evl_nil))))) evl_nil)))) fun h S => run_nil (run_nil ⟨_, _, _, hm, ⟨_, ar', r', rfl, rfl, rfl⟩, S.pick ⟨rfl, rfl, rfl, rfl, trivial⟩⟩)
  · have hgt : M < q.l1 + q.r1 := by
      have : ¬ q.l1 + q.r1 ≤ M := by simpa using e
      (first | lia | omega)
    cases run with
    | stop h' => exact run_ret (ev_tup (evl_cons (ev_var S rfl) (evl_cons (ev_var S rfl) evl_nil))) fun v h' _ r => Rf.of_flat rfl r
    | left h' _ _ => (first | lia | omega)
    | right h' _ _ => (first | lia | omega)

theorem f_no_room {k cl : Int} (h0 : 0 ≤ k) (h1 : k < 10) : ∃ d : PyData, FnO c 1 "_law_no_room" [.int k, .int cl] d ∧ wholeB d 1 = false ∧ (flat d = true ∨ d = .list [.int 1] ∨ d = .dict []) := by
  have hr := Int.emod_nonneg cl (b := (10 : Int) ^ (30 : Int).toNat) (by decide +kernel)
  have key : ∃ d : PyData, ([PyData.int 0, .int (-1), .int (-1 - cl % 10 ^ (30 : Int).toNat), .bool true, .bool false, .none, .str "1", .tuple [.int 1, .int 1], .list [.int 1], .dict []] : List PyData)[k.toNat]? = some d ∧ wholeB d 1 = false ∧ (flat d = true ∨ d = .list [.int 1] ∨ d = .dict []) := by
    have : k = 0 ∨ k = 1 ∨ k = 2 ∨ k = 3 ∨ k = 4 ∨ k = 5 ∨ k = 6 ∨ k = 7 ∨ k = 8 ∨ k = 9 := by (first | lia | omega)
    rcases this with rfl | rfl | rfl | rfl | rfl | rfl | rfl | rfl | rfl | rfl
    · exact ⟨_, rfl, rfl, .inl rfl⟩
    · exact ⟨_, rfl, rfl, .inl rfl⟩
    · refine ⟨_, rfl, ?_, .inl rfl⟩
      simp only [wholeB, decide_eq_false_iff_not]; (first | lia | omega)
    all_goals first | exact ⟨_, rfl, rfl, .inl rfl⟩ | exact ⟨_, rfl, rfl, .inr (.inl rfl)⟩ | exact ⟨_, rfl, rfl, .inr (.inr rfl)⟩
  obtain ⟨d, hx, hw⟩ := key
  refine ⟨d, ?_, hw⟩
  have hdef := (def_at (f := "_law_no_room") hc 37 rfl rfl rfl (by kernel_rfl))
  refine fn2 (x1 := "_law_kind") (x2 := "_law_cell") hdef rd_old (by intros; rfl) (fun A g h L fa cd T rm S => ?_)
  refine run_any S (evn_list S.hL (evln_cons (evn ev_int) (evln_cons (evn (ev_neg ev_int)) (evln_cons (evn (ev_sub (ev_neg ev_int) (ev_mod (ev_var S rfl) (ev_pow ev_int ev_int (by decide) (by decide) (by decide)) (by decide +kernel)))) (evln_cons (evn ev_bool) (evln_cons (evn ev_bool) (evln_cons (evn ev_none) (evln_cons (evn ev_str) (evln_cons (evn (ev_tup (evl_cons ev_int (evl_cons ev_int evl_nil)))) (evln_cons (evn_list S.hL (evln_cons (evn ev_int) evln_nil)) (evln_cons (evn_dict S.hL) evln_nil))))))))))) fun h S => ?_
  exact run_ret (ev_lidx (ev_var S rfl) (ev_var S rfl) hx h0 (by (first | lia | omega))) fun v h' _ r => r


theorem f_nearest_in (B : Bn c) {t0 t1 M : Int} (f : Fr2 62 t0 t1) (hM : 1 ≤ M) (hle : t1 ≤ M) : FnD c 4 "nearest" [PD t0 t1, .int M] (PD t0 t1) := by
  obtain ⟨x, y, fa, hx, _⟩ := f_apart hc B f f (by decide)
  have hdef := def_at (f := "nearest") hc 22 rfl rfl rfl (by kernel_rfl)
  refine fn2 (x1 := "target") (x2 := "most") hdef rf_old (by intros; rfl) (fun A g h L fa' cd T rm S => ?_)
  refine run_unpack2 rm.hd S (ev_calld S T rm (f_around_in hc B hM hle) (evl_cons (ev_var S rfl) (evl_cons (ev_var S rfl) evl_nil))) fun h S => ?_
  refine run_set S (ev_calld S T rm (fa) (evl_cons (ev_var S rfl) (evl_cons (ev_var S rfl) evl_nil))) fun h S => ?_
  refine run_set S (ev_calld S T rm (fa) (evl_cons (ev_var S rfl) (evl_cons (ev_var S rfl) evl_nil))) fun h S => ?_
  refine run_if S (tr_val (ev_calld S T rm (f_less hc hx.sa hx.sb hx.sa hx.sb (by decide)) (evl_cons (ev_var S rfl) (evl_cons (ev_var S rfl) evl_nil)))) (fun e h S => by simp at e) (fun e h S => run_nil ?_)
  refine run_if S (tr_val (ev_calld S T rm (f_less hc hx.sa hx.sb hx.sa hx.sb (by decide)) (evl_cons (ev_var S rfl) (evl_cons (ev_var S rfl) evl_nil)))) (fun e h S => by simp at e) (fun e h S => run_nil ?_)
  refine run_if S (tr_icmp (ev_tidx (ev_var S rfl) ev_int) (ev_tidx (ev_var S rfl) ev_int) rfl) (fun e h S => by simp at e) (fun e h S => run_nil ?_)
  exact run_ret (ev_var S rfl) fun v h' _ r => Rf.of_flat rfl r

theorem f_nearest (B : Bn c) {t0 t1 M : Int} {F : Q4} (G : Tg t0 t1 M) (f : Fr2 61 t0 t1) (R : AR t0 t1 M q0 F) (ar : Ar4 t0 t1 M F) (hend : M < F.l1 + F.r1) :
    FnD c 4 "nearest" [PD t0 t1, .int M] (if nst t0 t1 F then PD F.l0 F.l1 else PD F.r0 F.r1) ∧ Fr2 62 F.l0 F.l1 ∧ Fr2 62 F.r0 F.r1 := by
  obtain ⟨c1, c2⟩ := ar_small G ar
  have hl1 := ar.a1
  have hr1 : 1 ≤ F.r1 := by have := ar.b1; have := ar.al; (first | lia | omega)
  have y1 : Sz 62 t0 := f.sa.mono (by decide)
  have y2 : Sz 62 t1 := f.sb.mono (by decide)
  have y3 : Sz 62 (t0 + 1) := f.sa.add (sz_lit (a := 1) (by decide))
  have hlt := G.lt
  have fl : Fr2 62 F.l0 F.l1 := ⟨ar.a0, hl1, det_co ar.det, y1.le ar.a0 c1, y2.le (by (first | lia | omega)) (by have := ar.al; (first | lia | omega))⟩
  have fr : Fr2 62 F.r0 F.r1 := ⟨by have := ar.b0; (first | lia | omega), hr1, det_co2 ar.det, y3.le (by have := ar.b0; (first | lia | omega)) c2, y2.le (by (first | lia | omega)) (by have := ar.bl; (first | lia | omega))⟩
  refine ⟨?_, fl, fr⟩
  obtain ⟨x1, z1, fa1, hx1, e1⟩ := f_apart hc B fl (f.mono (by decide : 61 ≤ 62)) (by decide)
  obtain ⟨x2, z2, fa2, hx2, e2⟩ := f_apart hc B fr (f.mono (by decide : 61 ≤ 62)) (by decide)
  have ht := f.up
  have li := less_iff (p := dst t0 t1 F.l0 F.l1) (p' := dst t0 t1 F.r0 F.r1) hx1.up hx2.up hl1 hr1 ht e1 e2
  have li2 := less_iff (p := dst t0 t1 F.r0 F.r1) (p' := dst t0 t1 F.l0 F.l1) hx2.up hx1.up hr1 hl1 ht e2 e1
  have hdef := def_at (f := "nearest") hc 22 rfl rfl rfl (by kernel_rfl)
  refine fn2 (x1 := "target") (x2 := "most") hdef rf_old (by intros; rfl) (fun A g h L fa' cd T rm S => ?_)
  refine run_unpack2 rm.hd S (ev_calld S T rm (f_around hc B G f.sa f.sb R) (evl_cons (ev_var S rfl) (evl_cons (ev_var S rfl) evl_nil))) fun h S => ?_
  refine run_set S (ev_calld S T rm (fa1) (evl_cons (ev_var S rfl) (evl_cons (ev_var S rfl) evl_nil))) fun h S => ?_
  refine run_set S (ev_calld S T rm (fa2) (evl_cons (ev_var S rfl) (evl_cons (ev_var S rfl) evl_nil))) fun h S => ?_
  refine run_if S (tr_val (ev_calld S T rm (f_less hc hx1.sa hx1.sb hx2.sa hx2.sb (by decide)) (evl_cons (ev_var S rfl) (evl_cons (ev_var S rfl) evl_nil)))) (fun e h S => ?_) (fun e h S => run_nil ?_)
  · have q := li.mp (by simpa using e)
    have hn : nst t0 t1 F = true := by simp [nst, q]
    rw [if_pos hn]
    exact run_ret (ev_var S rfl) fun v h' _ r => Rf.of_flat rfl r
  have q1 : ¬ dst t0 t1 F.l0 F.l1 * F.r1 < dst t0 t1 F.r0 F.r1 * F.l1 := fun z => by have := li.mpr z; simp at e; (first | lia | omega)
  refine run_if S (tr_val (ev_calld S T rm (f_less hc hx2.sa hx2.sb hx1.sa hx1.sb (by decide)) (evl_cons (ev_var S rfl) (evl_cons (ev_var S rfl) evl_nil)))) (fun e h S => ?_) (fun e h S => run_nil ?_)
  · have q := li2.mp (by simpa using e)
    have q3 : ¬ dst t0 t1 F.l0 F.l1 * F.r1 = dst t0 t1 F.r0 F.r1 * F.l1 := by (first | lia | omega)
    have hn : ¬ nst t0 t1 F = true := by simp [nst, q1, q3]
    rw [if_neg hn]
    exact run_ret (ev_var S rfl) fun v h' _ r => Rf.of_flat rfl r
  have q2 : ¬ dst t0 t1 F.r0 F.r1 * F.l1 < dst t0 t1 F.l0 F.l1 * F.r1 := fun z => by have := li2.mpr z; simp at e; (first | lia | omega)
  have q3 : dst t0 t1 F.l0 F.l1 * F.r1 = dst t0 t1 F.r0 F.r1 * F.l1 := by (first | lia | omega)
  refine run_if S (tr_icmp (ev_tidx (ev_var S rfl) ev_int) (ev_tidx (ev_var S rfl) ev_int) rfl) (fun e h S => ?_) (fun e h S => run_nil ?_)
  · have e' : F.r1 < F.l1 := by simpa using e
    have hn : ¬ nst t0 t1 F = true := by simp [nst, q1, q3]; (first | lia | omega)
    rw [if_neg hn]
    exact run_ret (ev_var S rfl) fun v h' _ r => Rf.of_flat rfl r
  · have e' : F.l1 ≤ F.r1 := by simpa using e
    have hn : nst t0 t1 F = true := by simp [nst, q3, e']
    rw [if_pos hn]
    exact run_ret (ev_var S rfl) fun v h' _ r => Rf.of_flat rfl r

/-- what nearest and around give -/
theorem near_all (B : Bn c) {t0 t1 M : Int} (f : Fr2 61 t0 t1) (hM : 1 ≤ M) : ∃ n0 n1 l0 l1 r0 r1 : Int, FnD c 4 "nearest" [PD t0 t1, .int M] (PD n0 n1) ∧ FnD c 3 "around" [PD t0 t1, .int M] (.tuple [PD l0 l1, PD r0 r1]) ∧
    Fr2 62 n0 n1 ∧ n1 ≤ M ∧ Fr2 62 l0 l1 ∧ l1 ≤ M ∧ Fr2 62 r0 r1 ∧ r1 ≤ M ∧ ((n0 = l0 ∧ n1 = l1) ∨ (n0 = r0 ∧ n1 = r1)) ∧ ∀ x y : Int, 0 ≤ x → 1 ≤ y → y ≤ M → Bef t0 t1 n0 n1 x y := by
  by_cases h : t1 ≤ M
  · have f' := f.mono (by decide : 61 ≤ 62)
    exact ⟨t0, t1, t0, t1, t0, t1, f_nearest_in hc B f' hM h, f_around_in hc B hM h, f', h, f', h, f', h, .inl ⟨rfl, rfl⟩, fun x y hx hy _ => bef_self f.lo f.up f.co hx hy⟩
  · have G : Tg t0 t1 M := ⟨f.lo, f.co, hM, by (first | lia | omega)⟩
    obtain ⟨F, R, ar, hend⟩ := ar_for G
    obtain ⟨fn, fl, fr⟩ := f_nearest hc B G f R ar hend
    have fa := f_around hc B G f.sa f.sb R
    have bef := fun x y hx hy hyM => bef_near (x := x) (y := y) G ar hend hx hy hyM
    by_cases hn : nst t0 t1 F = true
    · rw [if_pos hn] at fn
      simp only [if_pos hn] at bef
      exact ⟨_, _, _, _, _, _, fn, fa, fl, ar.al, fl, ar.al, fr, ar.bl, .inl ⟨rfl, rfl⟩, bef⟩
    · rw [if_neg hn] at fn
      simp only [if_neg hn] at bef
      exact ⟨_, _, _, _, _, _, fn, fa, fr, ar.bl, fl, ar.al, fr, ar.bl, .inr ⟨rfl, rfl⟩, bef⟩


theorem f_number {cl wv : Int} (h0 : 0 ≤ wv) (h1 : wv < 4) : ∃ u : Int, FnD c 1 "_law_number" [.int cl, .int wv] (.int u) ∧ 0 ≤ u ∧ u < 10 ^ 28 := by
  have key : ∃ m : Int, ([PyData.int 30, .int 1000, .int (10 ^ (6 : Int).toNat), .int (10 ^ (28 : Int).toNat)] : List PyData)[wv.toNat]? = some (.int m) ∧ 0 < m ∧ m ≤ 10 ^ 28 := by
    have : wv = 0 ∨ wv = 1 ∨ wv = 2 ∨ wv = 3 := by (first | lia | omega)
    rcases this with rfl | rfl | rfl | rfl
    · exact ⟨30, rfl, by decide +kernel, by decide +kernel⟩
    · exact ⟨1000, rfl, by decide +kernel, by decide +kernel⟩
    · exact ⟨10 ^ 6, rfl, by decide +kernel, by decide +kernel⟩
    · exact ⟨10 ^ 28, rfl, by decide +kernel, by decide +kernel⟩
  obtain ⟨m, hm, hp, hs⟩ := key
  have e1 := Int.emod_nonneg cl (b := m) (by (first | lia | omega))
  have e2 := Int.emod_lt_of_pos cl hp
  refine ⟨cl % m, ?_, e1, Int.lt_of_lt_of_le e2 hs⟩
  have hdef := def_at (f := "_law_number") hc 35 rfl rfl rfl (by kernel_rfl)
  refine fn2 (x1 := "_law_cell") (x2 := "_law_way_here") hdef rf_old (by intros; rfl) (fun A g h L fa cd T rm S => ?_)
  exact run_ret (ev_mod (ev_var S rfl) (ev_lidx ((ev_list (evl_cons ev_int (evl_cons ev_int (evl_cons (ev_pow ev_int ev_int (by decide) (by decide) (by decide)) (evl_cons (ev_pow ev_int ev_int (by decide) (by decide) (by decide)) evl_nil))))).mono fun _ _ _ r => r.rd) (ev_var S rfl) hm h0 (by (first | lia | omega))) hp) fun v h' _ r => Rf.of_flat rfl r

theorem f_drawn (B : Bn c) {ns : List Int} {k wv : Int} (hn : ns.length ≤ 63) (h0 : 0 ≤ k) (h1 : k < 1000) (hw : 0 ≤ wv) : ∃ a b : Int, FnD c 3 "_law_drawn" [scr ns, .int k, .int wv] (PD a b) ∧ Fr2 29 a b := by
  obtain ⟨u, fu, hu, su⟩ := f_number hc (cl := cell ns k) (wv := wv % 4) (by (first | lia | omega)) (by (first | lia | omega))
  obtain ⟨l, fl, hl, sl⟩ := f_number hc (cl := cell ns (k + 1)) (wv := wv / 4 % 4) (by (first | lia | omega)) (by (first | lia | omega))
  have s1 : Sz 29 (1 + l) := by constructor <;> (first | lia | omega)
  have s0 : Sz 29 u := by constructor <;> (first | lia | omega)
  obtain ⟨a, b, fab, hf, _⟩ := f_frac_ex hc (a := u) (b := 1 + l) (by (first | lia | omega)) (by (first | lia | omega)) s0 s1 (by decide)
  refine ⟨a, b, ?_, hf⟩
  have hdef := def_at (f := "_law_drawn") hc 36 rfl rfl rfl (by kernel_rfl)
  refine fn3 (x1 := "_law_script") (x2 := "_law_first") (x3 := "_law_way_here") hdef rf_old (by intros; rfl) (fun A g h L fa cd T rm S => ?_)
  refine run_set S (ev_calld S T rm (fu) (evl_cons (ev_calld S T rm (f_cell hc B h0 (by (first | lia | omega)) hn) (evl_cons (ev_var S rfl) (evl_cons (ev_var S rfl) evl_nil))) (evl_cons (ev_mod (ev_var S rfl) ev_int (by walk_at "pos")) evl_nil))) fun h S => ?_
  refine run_set S (ev_add ev_int (ev_calld S T rm (fl) (evl_cons (ev_calld S T rm (f_cell hc B (by (first | lia | omega)) (by (first | lia | omega)) hn) (evl_cons (ev_var S rfl) (evl_cons (ev_add (ev_var S rfl) ev_int) evl_nil))) (evl_cons (ev_mod (ev_div (ev_var S rfl) ev_int (by walk_at "pos") (by walk_at "small")) ev_int (by walk_at "pos")) evl_nil)))) fun h S => ?_
  exact run_ret (ev_calld S T rm (fab) (evl_cons (ev_var S rfl) (evl_cons (ev_var S rfl) evl_nil))) fun v h' _ r => Rf.of_flat rfl r


theorem f_alone (B : Bn c) {K : Frag} {C : Addr} {y : Str} {b1 b2 b3 b4 b5 b6 b7 : Bool} (OC : EC K y C) (i1 : EI K C "NoFraction" b1) (i2 : EI K C "NoPath" b2) (i3 : EI K C "NoBounds" b3) (i4 : EI K C "NoRoom" b4) (i5 : EI K C "Unsure" b5) (i6 : EI K C "NoText" b6) (i7 : EI K C "NoNumber" b7)
    (hcnt : (PySem.Spec.countIn (.bool true) [.bool b1, .bool b2, .bool b3, .bool b4, .bool b5, .bool b6, .bool b7] == 1) = true) : FnV c K 1 "_law_alone" C true := by
  have hdef := (def_at (f := "_law_alone") hc 39 rfl rfl rfl (by kernel_rfl))
  refine fnv1 (n := 0) (x1 := "_law_e") hdef (by intros; rfl) (fun A g h L fa e cd T KX V I => ?_)
  have I1 := V.ex I
  refine runv_own V.st V (ev_list (evl_cons (ev_isk T B KX V I1 OC i1) (evl_cons (ev_isk T B KX V I1 OC i2) (evl_cons (ev_isk T B KX V I1 OC i3) (evl_cons (ev_isk T B KX V I1 OC i4) evl_nil))))) fun l h2 S V => ?_
  have I2 := V.ex I
  refine runv_own (S.freeze.pick (ρ' := []) trivial) V (ev_addl (ev_mut S) ((ev_list (evl_cons (ev_isk T B KX V I2 OC i5) (evl_cons (ev_isk T B KX V I2 OC i6) (evl_cons (ev_isk T B KX V I2 OC i7) evl_nil)))).mono fun _ _ _ r => r.rd) (by simp only [List.length_cons, List.length_nil]; decide)) fun l h2 S V => ?_
  have I3 := V.ex I
  refine run_ret (ev_bop (bo_and (ev_icmp (ev_countT S rfl) ev_int rfl) fun _ => bo_last (ev_isv T B KX V I3 OC))) fun v h' _ r => ?_
  have e : (PySem.Spec.countIn (.bool true) ([.bool b1, .bool b2, .bool b3, .bool b4] ++ [.bool b5, .bool b6, .bool b7]) == 1 && true) = true := by simpa using hcnt
  rw [e] at r; exact r


theorem f_sure (B : Bn c) {a b p q M n0 n1 : Int} (f1 : Fr2 61 a b) (f2 : Fr2 61 p q) (hM : 1 ≤ M) (hle : a * q ≤ p * b) (fl : FnD c 4 "nearest" [PD a b, .int M] (PD n0 n1)) (fh : FnD c 4 "nearest" [PD p q, .int M] (PD n0 n1)) : FnD c 5 "sure" [PD a b, PD p q, .int M] (PD n0 n1) := by
  have hdef := (def_at (f := "sure") hc 23 rfl rfl rfl (by kernel_rfl))
  refine fn3 (x1 := "low") (x2 := "high") (x3 := "most") hdef rf_old (by intros; rfl) (fun A g h L fa cd T rm S => ?_)
  refine run_expr (ev_calld S T rm (f_need_room hc B hM) (evl_cons (ev_var S rfl) evl_nil)) fun v h k _ => ?_
  have S := S.keep k
  refine run_expr (ev_calld S T rm (f_need_bounds hc f1.sa f1.sb f2.sa f2.sb (by decide) hle) (evl_cons (ev_var S rfl) (evl_cons (ev_var S rfl) evl_nil))) fun v h k _ => ?_
  have S := S.keep k
  refine run_set S (ev_calld S T rm fl (evl_cons (ev_var S rfl) (evl_cons (ev_var S rfl) evl_nil))) fun h S => ?_
  refine run_if S (tr_ne rm (ev_calld S T rm fh (evl_cons (ev_var S rfl) (evl_cons (ev_var S rfl) evl_nil))) (ev_var S rfl) rfl rfl) (fun e h S => by rw [PD_eqv] at e; simp at e) (fun e h S => run_nil ?_)
  exact run_ret (ev_var S rfl) fun v h' _ r => Rf.of_flat rfl r

theorem f_sure_u (B : Bn c) {K : Frag} {C D : Addr} (eN : EU K "Unsure" C D) {a b p q M n0 n1 m0 m1 : Int} (f1 : Fr2 61 a b) (f2 : Fr2 61 p q) (hM : 1 ≤ M) (hle : a * q ≤ p * b) (fl : FnD c 4 "nearest" [PD a b, .int M] (PD n0 n1)) (fh : FnD c 4 "nearest" [PD p q, .int M] (PD m0 m1)) (hne : ¬ (m0 = n0 ∧ m1 = n1)) : FnR c K 5 "sure" [PD a b, PD p q, .int M] C := by
  have hdef := (def_at (f := "sure") hc 23 rfl rfl rfl (by kernel_rfl))
  refine fnr3 (x1 := "low") (x2 := "high") (x3 := "most") hdef (by intros; rfl) (fun A base outer g h L fa cd PT rm S => ?_)
  have T := PT.t
  refine run_expr (ev_calld S T rm (f_need_room hc B hM) (evl_cons (ev_var S rfl) evl_nil)) fun v h k _ => ?_
  have S := S.keep k
  refine run_expr (ev_calld S T rm (f_need_bounds hc f1.sa f1.sb f2.sa f2.sb (by decide) hle) (evl_cons (ev_var S rfl) (evl_cons (ev_var S rfl) evl_nil))) fun v h k _ => ?_
  have S := S.keep k
  refine run_set S (ev_calld S T rm fl (evl_cons (ev_var S rfl) (evl_cons (ev_var S rfl) evl_nil))) fun h S => ?_
  exact run_if S (tr_ne rm (ev_calld S T rm fh (evl_cons (ev_var S rfl) (evl_cons (ev_var S rfl) evl_nil))) (ev_var S rfl) rfl rfl) (fun e h S => run_raise S T PT.k eN.ec rm.hd ev_str) (fun e h S => by exfalso; rw [PD_eqv] at e; simp at e; exact hne e)

theorem f_sure_b (B : Bn c) {K : Frag} {C D : Addr} (eN : EU K "NoBounds" C D) {a b p q M : Int} (f1 : Fr2 61 a b) (f2 : Fr2 61 p q) (hM : 1 ≤ M) (hlt : p * b < a * q) : FnR c K 5 "sure" [PD a b, PD p q, .int M] C := by
  have hdef := (def_at (f := "sure") hc 23 rfl rfl rfl (by kernel_rfl))
  refine fnr3 (x1 := "low") (x2 := "high") (x3 := "most") hdef (by intros; rfl) (fun A base outer g h L fa cd PT rm S => ?_)
  have T := PT.t
  refine run_expr (ev_calld S T rm (f_need_room hc B hM) (evl_cons (ev_var S rfl) evl_nil)) fun v h k _ => ?_
  have S := S.keep k
  exact run_exprx (ev_callr S PT rm (f_need_bounds_r hc eN f1.sa f1.sb f2.sa f2.sb (by decide) hlt) (evl_cons (ev_var S rfl) (evl_cons (ev_var S rfl) evl_nil)))

theorem f_sure_r (B : Bn c) {K : Frag} {C D : Addr} (eN : EU K "NoRoom" C D) {t t' d : PyData} (hd : wholeB d 1 = false) : FnR c K 5 "sure" [t, t', d] C := by
  have hdef := (def_at (f := "sure") hc 23 rfl rfl rfl (by kernel_rfl))
  refine fnr3 (x1 := "low") (x2 := "high") (x3 := "most") hdef (by intros; rfl) (fun A base outer g h L fa cd PT rm S => ?_)
  exact run_exprx (ev_callr S PT rm (f_need_room_r hc B eN hd) (evl_cons (ev_var S rfl) evl_nil))

theorem f_refusal (B : Bn c) {K : Frag} {C D : Addr} {y : Str} (eN : EU K y C D) (eF : EC K "FractionError" D) (fv : FnV c K 1 "_law_alone" C true) {b3 b4 b5 : Bool} (i3 : EI K C "NoBounds" b3) (i4 : EI K C "NoRoom" b4) (i5 : EI K C "Unsure" b5) {r : Str} (h4 : b4 = true → r = "room") (h3 : b4 = false → b3 = true → r = "bounds") (h5 : b4 = false → b3 = false → b5 = true ∧ r = "unsure")
    {t t' d : PyData} (fr : FnR c K 5 "sure" [t, t', d] C) : FnC c K 6 "_law_refusal" [t, t', d] (.str r) := by
  have hdef := (def_at (f := "_law_refusal") hc 41 rfl rfl rfl (by kernel_rfl))
  refine fnc3 (n := 5) (x1 := "_law_low") (x2 := "_law_high") (x3 := "_law_most") hdef (by intros; rfl) (fun A base outer g h L fa cd PT rm S => ?_)
  refine rc_try S PT eF eN.sub (ev_callr S PT rm fr (evl_cons (ev_var S rfl) (evl_cons (ev_var S rfl) (evl_cons (ev_var S rfl) evl_nil)))) (fun x g' h' PT' V I => ?_)
  refine run_ifH (tr_not (tr_val (ev_callv PT'.t PT'.k rm.v.mark V I fv))) (fun e => by cases e) (fun e h1 k1 => run_nil ?_)
  have V := V.keep k1
  have I := I.keep k1
  refine run_ifH (tr_val (ev_isk PT'.t B PT'.k V I eN.ec i4)) (fun e h1 k1 => run_ret ev_str fun v h2 k r => ⟨v, rfl, by rw [h4 e]; exact r, ((V.keep k1).keep k).st⟩) (fun e4 h1 k1 => run_nil ?_)
  have V := V.keep k1
  have I := I.keep k1
  refine run_ifH (tr_val (ev_isk PT'.t B PT'.k V I eN.ec i3)) (fun e h1 k1 => run_ret ev_str fun v h2 k r => ⟨v, rfl, by rw [h3 e4 e]; exact r, ((V.keep k1).keep k).st⟩) (fun e3 h1 k1 => run_nil ?_)
  have V := V.keep k1
  have I := I.keep k1
  exact run_ifH (tr_val (ev_isk PT'.t B PT'.k V I eN.ec i5)) (fun e h1 k1 => run_ret ev_str fun v h2 k r => ⟨v, rfl, by rw [(h5 e4 e3).2]; exact r, ((V.keep k1).keep k).st⟩) (fun e h1 k1 => by rw [(h5 e4 e3).1] at e; cases e)

theorem f_found_by (B : Bn c) {t0 t1 M n0 n1 : Int} (N : NB t0 t1 M n0 n1) (s0 : Sz 70 t0) (s1 : Sz 70 t1) (hM : M ≤ 1000) : FnD c 1 "_law_found_by" [PD t0 t1, .int M] (PD n0 n1) := by
  have ht := N.t1p
  have ht0 := N.t0n
  have hM1 : 1 ≤ M := by have := N.n1p; have := N.le; (first | lia | omega)
  have hf : 0 ≤ t0 / t1 := Int.ediv_nonneg ht0 (by (first | lia | omega))
  have hf2 := Int.ediv_le_self (b := t1) ht0
  have hdef := (def_at (f := "_law_found_by") hc 38 rfl rfl rfl (by kernel_rfl))
  refine fn2 (x1 := "_law_target") (x2 := "_law_most") hdef rf_old (by intros; rfl) (fun A g h L fa cd T rm S => ?_)
  refine run_set S (ev_tup (evl_cons (ev_div (ev_tidx (ev_var S rfl) ev_int) (ev_tidx (ev_var S rfl) ev_int) (by walk_at "pos") (by walk_at "small")) (evl_cons ev_int evl_nil))) fun h S => ?_
  refine run_for (fun i ρ μ => ∃ u l : Int, FB t0 t1 n0 n1 u l (1 + (i : Int) ≤ n1) ∧ Sz 80 u ∧ Sz 10 l ∧ μ = none ∧ ρ = ([("_law_target", PD t0 t1), ("_law_best", PD u l)] : Locs)) (S.pick (ρ' := [("_law_target", PD t0 t1), ("_law_best", PD (t0 / t1) 1)]) ⟨rfl, rfl, trivial⟩) (iter_range2 S T B rm.hd ev_int (ev_add (ev_var S rfl) ev_int) (by decide) (by (first | lia | omega)) (w_hold S wok_nil)) ⟨t0 / t1, 1, by simpa using fb_start N, (s0.le hf hf2).mono (by decide), sz_lit (by decide), rfl, rfl⟩ (w_hold S wok_nil) ?_ ?_ (rangeD_flat _ _) ?_
  · rintro i d ρ μ h hd ⟨u, l, H, su, sl, rfl, rfl⟩ S
    rw [rangeD_at] at hd
    split at hd
    case isFalse => cases hd
    rename_i hi
    cases hd
    have hy1 : (1 : Int) ≤ 1 + (i : Int) := by (first | lia | omega)
    have hyM : 1 + (i : Int) ≤ M := by (first | lia | omega)
    have ei : 1 + ((i + 1 : Nat) : Int) = 1 + (i : Int) + 1 := by (first | lia | omega)
    have sy : Sz 10 (1 + (i : Int)) := ⟨by (first | lia | omega), by (first | lia | omega)⟩
    generalize 1 + (i : Int) = y at *
    have hq0 : 0 ≤ t0 * y / t1 := Int.ediv_nonneg (Int.mul_nonneg ht0 (by (first | lia | omega))) (by (first | lia | omega))
    have sq : Sz 80 (t0 * y / t1) := (s0.mul sy).le hq0 (Int.ediv_le_self _ (Int.mul_nonneg ht0 (by (first | lia | omega))))
    have hq79 : t0 * y / t1 < 10 ^ 79 := by
      have z := Int.ediv_le_self (b := t1) (a := t0 * y) (Int.mul_nonneg ht0 (by (first | lia | omega)))
      have z2 : t0 * y ≤ t0 * 1000 := Int.mul_le_mul_of_nonneg_left (by (first | lia | omega)) ht0
      have := s0.2
      (first | lia | omega)
    refine run_for (fun j ρ μ => ∃ u l : Int, FB t0 t1 n0 n1 u l (y < n1 ∨ (y = n1 ∧ t0 * y / t1 + (j : Int) ≤ n0)) ∧ Sz 80 u ∧ Sz 10 l ∧ μ = none ∧ ρ = ([("_law_target", PD t0 t1), ("_law_best", PD u l), ("_law_lower", .int y)] : Locs)) (S.pick (ρ' := [("_law_target", PD t0 t1), ("_law_best", PD u l), ("_law_lower", .int y)]) ⟨rfl, rfl, rfl, trivial⟩) (iter_tuple rm.hd (src_tup S (ev_tup (evl_cons ev_int (evl_cons ev_int evl_nil))) rfl wok_nil) (w_hold S wok_nil)) ⟨u, l, fb_in N H, su, sl, rfl, rfl⟩ (w_hold S wok_nil) ?_ ?_ ?_ ?_
    · rintro j d ρ μ h hd ⟨u, l, H, su, sl, rfl, rfl⟩ S
      have hm : ∃ m : Int, d = .int m ∧ m = (j : Int) ∧ (m = 0 ∨ m = 1) := by
        match j, hd with
        | 0, hd => cases hd; exact ⟨0, rfl, rfl, .inl rfl⟩
        | 1, hd => cases hd; exact ⟨1, rfl, rfl, .inr rfl⟩
        | j + 2, hd => simp at hd
      obtain ⟨m, rfl, hmj, hm01⟩ := hm
      rw [← hmj] at H
      have em : ((j + 1 : Nat) : Int) = m + 1 := by (first | lia | omega)
      have so : Sz 80 (t0 * y / t1 + m) := ⟨by (first | lia | omega), by (first | lia | omega)⟩
      refine run_set S (ev_tup (evl_cons (ev_add (ev_div (ev_mul (ev_tidx (ev_var S rfl) ev_int) (ev_var S rfl) (by walk_at "mul")) (ev_tidx (ev_var S rfl) ev_int) (by walk_at "pos") (by walk_at "small")) (ev_var S rfl)) (evl_cons (ev_var S rfl) evl_nil))) fun h S => ?_
      refine run_set S (ev_mul (ev_abs S T B (ev_sub (ev_mul (ev_tidx (ev_var S rfl) ev_int) (ev_tidx (ev_var S rfl) ev_int) (by walk_at "mul")) (ev_mul (ev_tidx (ev_var S rfl) ev_int) (ev_tidx (ev_var S rfl) ev_int) (by walk_at "mul")))) (ev_tidx (ev_var S rfl) ev_int) (by walk_at "mul")) fun h S => ?_
      refine run_if S (tr_icmp (ev_mul (ev_abs S T B (ev_sub (ev_mul (ev_tidx (ev_var S rfl) ev_int) (ev_tidx (ev_var S rfl) ev_int) (by walk_at "mul")) (ev_mul (ev_tidx (ev_var S rfl) ev_int) (ev_tidx (ev_var S rfl) ev_int) (by walk_at "mul")))) (ev_tidx (ev_var S rfl) ev_int) (by walk_at "mul")) (ev_var S rfl) rfl) (fun e h S => ?_) (fun e h S => run_nil (run_nil ⟨_, _, ⟨u, l, ?_, su, sl, rfl, rfl⟩, S.pick ⟨rfl, rfl, rfl, trivial⟩⟩))
      · have e' : dst t0 t1 (t0 * y / t1 + m) y * l < dst t0 t1 u l * y := of_decide_eq_true e
        refine run_set S (ev_var S rfl) fun h S => run_nil (run_nil ⟨_, _, ⟨_, _, ?_, so, sy, rfl, rfl⟩, S.pick ⟨rfl, rfl, rfl, trivial⟩⟩)
        rw [em]
        exact fb_step N hm01 hy1 hyM H (fun _ => ⟨rfl, rfl⟩) (fun q => absurd e' q)
      · have e' : ¬ dst t0 t1 (t0 * y / t1 + m) y * l < dst t0 t1 u l * y := of_decide_eq_false e
        rw [em]
        exact fb_step N hm01 hy1 hyM H (fun q => absurd q e') (fun _ => ⟨rfl, rfl⟩)
    · rintro ρ μ h ⟨u, l, H, su, sl, rfl, rfl⟩ S
      exact run_nil ⟨_, _, ⟨u, l, by rw [ei]; exact fb_out N H, su, sl, rfl, rfl⟩, S.pick ⟨rfl, rfl, trivial⟩⟩
    · intro d hd
      simp only [List.mem_cons, List.not_mem_nil, or_false] at hd
      rcases hd with rfl | rfl <;> rfl
    · rintro j ρ μ ⟨_, _, _, _, _, rfl, rfl⟩ q' e
      cases e
  · rintro ρ μ h ⟨u, l, H, su, sl, rfl, rfl⟩ S
    rw [rangeD_len] at H
    obtain ⟨rfl, rfl⟩ := fb_end N H (by (first | lia | omega))
    exact run_ret (ev_var S rfl) fun v h' _ r => Rf.of_flat rfl r
  · rintro i ρ μ ⟨_, _, _, _, _, rfl, rfl⟩ q' e
    cases e

/-- the nearest one, and the search for it -/
theorem near_nb (B : Bn c) {t0 t1 M : Int} (f : Fr2 61 t0 t1) (hM : 1 ≤ M) : ∃ n0 n1 : Int, FnD c 4 "nearest" [PD t0 t1, .int M] (PD n0 n1) ∧ Fr2 62 n0 n1 ∧ NB t0 t1 M n0 n1 := by
  obtain ⟨n0, n1, _, _, _, _, fn, _, f2, hle, _, _, _, _, _, bef⟩ := near_all hc B f hM
  exact ⟨n0, n1, fn, f2, f.lo, f.up, f2.lo, f2.up, hle, bef⟩

/-- the classes that a refusal tells apart -/
structure Cls (c : Cx) (K : Frag) (D : Addr) : Prop where
  eF : EC K "FractionError" D
  room : ∃ C, EU K "NoRoom" C D ∧ FnV c K 1 "_law_alone" C true ∧ EI K C "NoBounds" false ∧ EI K C "NoRoom" true ∧ EI K C "Unsure" false
  bnds : ∃ C, EU K "NoBounds" C D ∧ FnV c K 1 "_law_alone" C true ∧ EI K C "NoBounds" true ∧ EI K C "NoRoom" false ∧ EI K C "Unsure" false
  uns : ∃ C, EU K "Unsure" C D ∧ FnV c K 1 "_law_alone" C true ∧ EI K C "NoBounds" false ∧ EI K C "NoRoom" false ∧ EI K C "Unsure" true
theorem cls_of (B : Bn c) {K : Frag} {D CB CR CU : Addr} (eF : EC K "FractionError" D) (uB : EU K "NoBounds" CB D) (b1 : EI K CB "NoFraction" false) (b2 : EI K CB "NoPath" false) (b3 : EI K CB "NoBounds" true) (b4 : EI K CB "NoRoom" false) (b5 : EI K CB "Unsure" false) (b6 : EI K CB "NoText" false) (b7 : EI K CB "NoNumber" false) (uR : EU K "NoRoom" CR D) (r1 : EI K CR "NoFraction" false) (r2 : EI K CR "NoPath" false) (r3 : EI K CR "NoBounds" false) (r4 : EI K CR "NoRoom" true) (r5 : EI K CR "Unsure" false) (r6 : EI K CR "NoText" false) (r7 : EI K CR "NoNumber" false) (uU : EU K "Unsure" CU D) (u1 : EI K CU "NoFraction" false) (u2 : EI K CU "NoPath" false) (u3 : EI K CU "NoBounds" false) (u4 : EI K CU "NoRoom" false) (u5 : EI K CU "Unsure" true) (u6 : EI K CU "NoText" false) (u7 : EI K CU "NoNumber" false) : Cls c K D :=
  ⟨eF, ⟨_, uR, f_alone hc B uR.ec r1 r2 r3 r4 r5 r6 r7 rfl, r3, r4, r5⟩, ⟨_, uB, f_alone hc B uB.ec b1 b2 b3 b4 b5 b6 b7 rfl, b3, b4, b5⟩, ⟨_, uU, f_alone hc B uU.ec u1 u2 u3 u4 u5 u6 u7 rfl, u3, u4, u5⟩⟩
theorem ref_room (B : Bn c) {K : Frag} {D : Addr} (O : Cls c K D) {t t' d : PyData} (hd : wholeB d 1 = false) : FnC c K 6 "_law_refusal" [t, t', d] (.str "room") := by
  obtain ⟨C, eN, fv, i3, i4, i5⟩ := O.room
  exact f_refusal hc B eN O.eF fv i3 i4 i5 (fun _ => rfl) (fun q => by cases q) (fun q => by cases q) (f_sure_r hc B eN hd)
theorem ref_bounds (B : Bn c) {K : Frag} {D : Addr} (O : Cls c K D) {a b p q M : Int} (f1 : Fr2 61 a b) (f2 : Fr2 61 p q) (hM : 1 ≤ M) (hlt : p * b < a * q) : FnC c K 6 "_law_refusal" [PD a b, PD p q, .int M] (.str "bounds") := by
  obtain ⟨C, eN, fv, i3, i4, i5⟩ := O.bnds
  exact f_refusal hc B eN O.eF fv i3 i4 i5 (fun q => by cases q) (fun _ _ => rfl) (fun _ q => by cases q) (f_sure_b hc B eN f1 f2 hM hlt)
theorem ref_unsure (B : Bn c) {K : Frag} {D : Addr} (O : Cls c K D) {a b p q M n0 n1 m0 m1 : Int} (f1 : Fr2 61 a b) (f2 : Fr2 61 p q) (hM : 1 ≤ M) (hle : a * q ≤ p * b) (fl : FnD c 4 "nearest" [PD a b, .int M] (PD n0 n1)) (fh : FnD c 4 "nearest" [PD p q, .int M] (PD m0 m1)) (hne : ¬ (m0 = n0 ∧ m1 = n1)) : FnC c K 6 "_law_refusal" [PD a b, PD p q, .int M] (.str "unsure") := by
  obtain ⟨C, eN, fv, i3, i4, i5⟩ := O.uns
  exact f_refusal hc B eN O.eF fv i3 i4 i5 (fun q => by cases q) (fun _ q => by cases q) (fun _ _ => ⟨rfl, rfl⟩) (f_sure_u hc B eN f1 f2 hM hle fl fh hne)

theorem f_as_nearest (B : Bn c) {K : Frag} {D : Addr} (O : Cls c K D) {a b p q M : Int} (f1 : Fr2 61 a b) (f2 : Fr2 61 p q) (hM : 1 ≤ M) (hle : a * q ≤ p * b) : FnC c K 7 "_law_as_nearest" [PD a b, PD p q, .int M] (.bool true) := by
  obtain ⟨n0, n1, fn, _, _⟩ := near_nb hc B f1 hM
  obtain ⟨m0, m1, fm, _, _⟩ := near_nb hc B f2 hM
  have hdef := (def_at (f := "_law_as_nearest") hc 42 rfl rfl rfl (by kernel_rfl))
  refine fnc3 (n := 6) (x1 := "_law_low") (x2 := "_law_high") (x3 := "_law_most") hdef (by intros; rfl) (fun A base outer g h L fa cd PT rm S => ?_)
  have T := PT.t
  refine rc_set S (ev_calld S T rm fn (evl_cons (ev_var S rfl) (evl_cons (ev_var S rfl) evl_nil))) fun h S => ?_
  by_cases hne : m0 = n0 ∧ m1 = n1
  · obtain ⟨rfl, rfl⟩ := hne
    refine rc_if S (tr_ne rm (ev_calld S T rm fm (evl_cons (ev_var S rfl) (evl_cons (ev_var S rfl) evl_nil))) (ev_var S rfl) rfl rfl) (fun e h S => by rw [PD_eqv] at e; simp at e) (fun e h S => rc_run S ?_)
    refine run_ret (ev_eq rm (ev_calld S T rm (f_sure hc B f1 f2 hM hle fn fm) (evl_cons (ev_var S rfl) (evl_cons (ev_var S rfl) (evl_cons (ev_var S rfl) evl_nil)))) (ev_var S rfl) rfl rfl) fun v h' _ r => ?_
    rw [PD_eqv] at r; simpa [retv] using r
  · refine rc_if S (tr_ne rm (ev_calld S T rm fm (evl_cons (ev_var S rfl) (evl_cons (ev_var S rfl) evl_nil))) (ev_var S rfl) rfl rfl) (fun e h S => ?_) (fun e h S => by exfalso; rw [PD_eqv] at e; simp at e; exact hne e)
    exact rc_rete (evc_eqs (x := "unsure") (y := "unsure") rm (evc_call S PT rm (ref_unsure hc B O f1 f2 hM hle fn fm hne) (evl_cons (ev_var S rfl) (evl_cons (ev_var S rfl) (evl_cons (ev_var S rfl) evl_nil)))))

theorem f_right (B : Bn c) {K : Frag} {D : Addr} (O : Cls c K D) {ns : List Int} (hn : ns.length ≤ 63) {a b p q M : Int} (f1 : Fr2 61 a b) (f2 : Fr2 61 p q) (hM : 1 ≤ M) (hM2 : M ≤ 1000) (hle : a * q ≤ p * b) : FnC c K 7 "_law_right" [PD a b, PD p q, .int M, scr ns] (.bool true) := by
  obtain ⟨n0, n1, fn, fnn, N1⟩ := near_nb hc B f1 hM
  obtain ⟨m0, m1, fm, _, N2⟩ := near_nb hc B f2 hM
  have fb1 := f_found_by hc B N1 (f1.sa.mono (by decide)) (f1.sb.mono (by decide)) hM2
  have fb2 := f_found_by hc B N2 (f2.sa.mono (by decide)) (f2.sb.mono (by decide)) hM2
  have hdef := (def_at (f := "_law_right") hc 43 rfl rfl rfl (by kernel_rfl))
  refine fnc4 (n := 6) (x1 := "_law_low") (x2 := "_law_high") (x3 := "_law_most") (x4 := "_law_script") hdef (by intros; rfl) (fun A base outer g h L fa cd PT rm S => ?_)
  have T := PT.t
  refine rc_set S (ev_calld S T rm fb1 (evl_cons (ev_var S rfl) (evl_cons (ev_var S rfl) evl_nil))) fun h S => ?_
  by_cases hne : m0 = n0 ∧ m1 = n1
  · obtain ⟨rfl, rfl⟩ := hne
    refine rc_if S (tr_ne rm (ev_calld S T rm fb2 (evl_cons (ev_var S rfl) (evl_cons (ev_var S rfl) evl_nil))) (ev_var S rfl) rfl rfl) (fun e h S => by rw [PD_eqv] at e; simp at e) (fun e h S => rc_run S ?_)
    have c1 := Int.emod_nonneg (cell ns 6) (b := 1000) (by decide)
    have c2 := Int.emod_lt_of_pos (cell ns 6) (b := 1000) (by decide)
    have c3 := Int.emod_nonneg (cell ns 7) (b := 1000) (by decide)
    have c4 := Int.emod_lt_of_pos (cell ns 7) (b := 1000) (by decide)
    refine run_set S (ev_calld S T rm (f_sure hc B f1 f2 hM hle fn fm) (evl_cons (ev_var S rfl) (evl_cons (ev_var S rfl) (evl_cons (ev_var S rfl) evl_nil)))) fun h S => ?_
    refine run_set S (ev_mod (ev_calld S T rm (f_cell hc B (by decide) (by decide) hn) (evl_cons (ev_var S rfl) (evl_cons ev_int evl_nil))) ev_int (by walk_at "pos")) fun h S => ?_
    refine run_set S (ev_add ev_int (ev_mod (ev_calld S T rm (f_cell hc B (by decide) (by decide) hn) (evl_cons (ev_var S rfl) (evl_cons ev_int evl_nil))) ev_int (by walk_at "pos"))) fun h S => ?_
    generalize cell ns 6 % 1000 = o1 at *
    have o2p : 1 ≤ 1 + cell ns 7 % 1000 := by (first | lia | omega)
    have so2 : Sz 4 (1 + cell ns 7 % 1000) := ⟨by (first | lia | omega), by (first | lia | omega)⟩
    generalize 1 + cell ns 7 % 1000 = o2 at *
    have so1 : Sz 4 o1 := ⟨by (first | lia | omega), by (first | lia | omega)⟩
    have k1 := Int.mul_nonneg c1 f1.lo
    have k2 := Int.mul_nonneg (show 0 ≤ o2 by (first | lia | omega)) f2.lo
    have k3 := Int.mul_nonneg c1 (show 0 ≤ b by have := f1.up; (first | lia | omega))
    have k4 : 1 ≤ o2 * q := by
      have := Int.mul_le_mul o2p f2.up (by (first | lia | omega)) (by (first | lia | omega))
      (first | lia | omega)
    have sb' : Sz 70 (o1 * b + o2 * q) := ((so1.mul f1.sb).add (so2.mul f2.sb)).mono (by decide)
    have sa' : Sz 70 (o1 * a + o2 * p) := ((so1.mul f1.sa).add (so2.mul f2.sa)).mono (by decide)
    have hA : 0 ≤ o1 * a + o2 * p := by (first | lia | omega)
    have hB : 1 ≤ o1 * b + o2 * q := by (first | lia | omega)
    obtain ⟨p1, p2, p3, p4, p5, p6, p7⟩ := low_props hA hB
    have fw := f_frac hc hA hB sb' (by decide)
    have gp := gcd_pos (a := o1 * a + o2 * p) hB
    have sw0 := sa'.le p1 p4
    have sw1 := sb'.le (by (first | lia | omega)) p5
    have z1 := so1.mono (by decide : 4 ≤ 10)
    have z2 := so2.mono (by decide : 4 ≤ 10)
    have z3 := f1.sa
    have z4 := f1.sb
    have z5 := f2.sa
    have z6 := f2.sb
    refine run_set S (ev_calld S T rm (fw) (evl_cons (ev_add (ev_mul (ev_var S rfl) (ev_tidx (ev_var S rfl) ev_int) (by walk_at "mul")) (ev_mul (ev_var S rfl) (ev_tidx (ev_var S rfl) ev_int) (by walk_at "mul"))) (evl_cons (ev_add (ev_mul (ev_var S rfl) (ev_tidx (ev_var S rfl) ev_int) (by walk_at "mul")) (ev_mul (ev_var S rfl) (ev_tidx (ev_var S rfl) ev_int) (by walk_at "mul"))) evl_nil))) fun h S => ?_
    clear fw
    generalize (Int.gcd (o1 * a + o2 * p) (o1 * b + o2 * q) : Int) = gg at *
    generalize (o1 * a + o2 * p) / gg = w0 at *
    generalize (o1 * b + o2 * q) / gg = w1 at *
    have N3 : NB w0 w1 M m0 m1 := ⟨p1, p2, N1.n0n, N1.n1p, N1.le, fun x y hx hy hyM => bef_mix N1.n1p hy f1.up f2.up p2 c1 o2p gp p6 p7 (N1.bef x y hx hy hyM) (N2.bef x y hx hy hyM)⟩
    have fb3 := f_found_by hc B N3 sw0 sw1 hM2
    refine run_ret (ev_bop (bo_and (ev_calld S T rm (f_is_frac hc B) (evl_cons (ev_var S rfl) evl_nil)) fun _ => bo_and (ev_eq rm (ev_var S rfl) (ev_var S rfl) rfl rfl) fun _ => bo_last (ev_eq rm (ev_calld S T rm fb3 (evl_cons (ev_var S rfl) (evl_cons (ev_var S rfl) evl_nil))) (ev_var S rfl) rfl rfl))) fun v h' _ r => ?_
    rw [PD_eqv, fracB_true fnn.lo fnn.up fnn.co] at r; simpa [retv] using r
  · refine rc_if S (tr_ne rm (ev_calld S T rm fb2 (evl_cons (ev_var S rfl) (evl_cons (ev_var S rfl) evl_nil))) (ev_var S rfl) rfl rfl) (fun e h S => ?_) (fun e h S => by exfalso; rw [PD_eqv] at e; simp at e; exact hne e)
    exact rc_rete (evc_eqs (x := "unsure") (y := "unsure") rm (evc_call S PT rm (ref_unsure hc B O f1 f2 hM hle fn fm hne) (evl_cons (ev_var S rfl) (evl_cons (ev_var S rfl) (evl_cons (ev_var S rfl) evl_nil)))))

omit hc in
theorem cmp_frac {x1 y1 m X x2 y2 m' X' : Int} (hm : 1 ≤ m) (hm' : 1 ≤ m') (hy1 : 1 ≤ y1) (hy2 : 1 ≤ y2) (e1 : x1 * m = X * y1) (e2 : x2 * m' = X' * y2) (h : X' * m ≤ X * m') : x2 * y1 ≤ x1 * y2 := by
  have hp : 0 < m * m' := Int.mul_pos (by (first | lia | omega)) (by (first | lia | omega))
  refine Int.le_of_mul_le_mul_right ?_ hp
  have a1 : x2 * y1 * (m * m') = (x2 * m') * (y1 * m) := by grind
  have a2 : x1 * y2 * (m * m') = (x1 * m) * (y2 * m') := by grind
  rw [a1, a2, e1, e2]
  have b1 : X' * y2 * (y1 * m) = X' * m * (y1 * y2) := by grind
  have b2 : X * y1 * (y2 * m') = X * m' * (y1 * y2) := by grind
  rw [b1, b2]
  exact Int.mul_le_mul_of_nonneg_right h (Int.mul_nonneg (by (first | lia | omega)) (by (first | lia | omega)))
omit hc in
theorem mid_frac {x1 y1 x2 y2 x3 y3 : Int} (hy1 : 1 ≤ y1) (hy2 : 1 ≤ y2) (hy3 : 1 ≤ y3) (e : x3 * (2 * y1 * y2) = (x1 * y2 + x2 * y1) * y3) (h : x1 * y2 ≤ x2 * y1) : x1 * y3 ≤ x3 * y1 ∧ x3 * y2 ≤ x2 * y3 := by
  have k := Int.mul_le_mul_of_nonneg_right h (show 0 ≤ y3 by (first | lia | omega))
  have e' : x3 * (2 * y1 * y2) = x1 * y2 * y3 + x2 * y1 * y3 := by rw [e, Int.add_mul]
  constructor
  · refine Int.le_of_mul_le_mul_right ?_ (show 0 < y2 by (first | lia | omega))
    have a1 : x1 * y3 * y2 = x1 * y2 * y3 := by grind
    have a2 : x3 * (2 * y1 * y2) = 2 * (x3 * y1 * y2) := by grind
    (first | lia | omega)
  · refine Int.le_of_mul_le_mul_right ?_ (show 0 < y1 by (first | lia | omega))
    have a1 : x2 * y3 * y1 = x2 * y1 * y3 := by grind
    have a2 : x3 * (2 * y1 * y2) = 2 * (x3 * y2 * y1) := by grind
    (first | lia | omega)

/-- halfway between two fractions -/
theorem f_mid {n : Nat} {x1 y1 x2 y2 : Int} (g1 : Fr2 n x1 y1) (g2 : Fr2 n x2 y2) (hn : n + n + 1 ≤ 61) : ∃ x3 y3 : Int, FnD c 2 "_law_frac" [.int (x1 * y2 + x2 * y1), .int (2 * y1 * y2)] (PD x3 y3) ∧ Fr2 61 x3 y3 ∧ (x1 * y2 ≤ x2 * y1 → x1 * y3 ≤ x3 * y1 ∧ x3 * y2 ≤ x2 * y3) ∧ (x2 * y1 ≤ x1 * y2 → x2 * y3 ≤ x3 * y2 ∧ x3 * y1 ≤ x1 * y3) := by
  have k1 := Int.mul_nonneg g1.lo (show 0 ≤ y2 by have := g2.up; (first | lia | omega))
  have k2 := Int.mul_nonneg g2.lo (show 0 ≤ y1 by have := g1.up; (first | lia | omega))
  have hyy : 1 ≤ y1 * y2 := by
    have := Int.mul_le_mul g1.up g2.up (by (first | lia | omega)) (by have := g1.up; (first | lia | omega))
    (first | lia | omega)
  have e4 : 2 * y1 * y2 = y1 * y2 + y1 * y2 := by rw [Int.mul_assoc]; (first | lia | omega)
  have sb : Sz 61 (2 * y1 * y2) := by rw [e4]; exact ((g1.sb.mul g2.sb).add (g1.sb.mul g2.sb)).mono (by (first | lia | omega))
  have sa : Sz 61 (x1 * y2 + x2 * y1) := ((g1.sa.mul g2.sb).add (g2.sa.mul g1.sb)).mono (by (first | lia | omega))
  obtain ⟨x3, y3, f3, g3, e3⟩ := f_frac_ex hc (a := x1 * y2 + x2 * y1) (b := 2 * y1 * y2) (n := 61) (by (first | lia | omega)) (by (first | lia | omega)) sa sb (by decide)
  refine ⟨x3, y3, f3, g3, fun h => mid_frac g1.up g2.up g3.up e3 h, fun h => mid_frac g2.up g1.up g3.up ?_ h⟩
  have a1 : 2 * y2 * y1 = 2 * y1 * y2 := by grind
  have a2 : x2 * y1 + x1 * y2 = x1 * y2 + x2 * y1 := by (first | lia | omega)
  rw [a1, a2]; exact e3

theorem f_pair_by (B : Bn c) {ns : List Int} (hn : ns.length ≤ 63) {W : Int} (hW0 : 0 ≤ W) : ∃ a b p q M : Int, FnD c 3 "_law_pair_by" [scr ns, .int W] (.tuple [PD a b, PD p q, .int M]) ∧ Fr2 61 a b ∧ Fr2 61 p q ∧ a * q ≤ p * b ∧ 1 ≤ M ∧ M ≤ 16 := by
  have p20 : (0 : Int) < 10 ^ (20 : Int).toNat := by decide +kernel
  have d0 : (10 : Int) ^ (20 : Int).toNat = 10 ^ 20 := rfl
  have d1 := Int.emod_nonneg (cell ns 1) (b := 10 ^ (20 : Int).toNat) (by (first | lia | omega))
  have d2 := Int.emod_lt_of_pos (cell ns 1) p20
  have c1 := Int.emod_nonneg (cell ns 5) (b := 15) (by decide)
  have c2 := Int.emod_lt_of_pos (cell ns 5) (b := 15) (by decide)
  have hw2 : W % 2 = 0 ∨ W % 2 = 1 := by (first | lia | omega)
  obtain ⟨w, hw⟩ : ∃ w : Int, w = cell ns 1 % 10 ^ (20 : Int).toNat := ⟨_, rfl⟩
  obtain ⟨m, hm⟩ : ∃ m : Int, m = 1 + cell ns 5 % 15 := ⟨_, rfl⟩
  have w0 : 0 ≤ w := by (first | lia | omega)
  have w1 : w < 10 ^ 20 := by (first | lia | omega)
  have m0 : 1 ≤ m := by (first | lia | omega)
  have m1 : m ≤ 15 := by (first | lia | omega)
  obtain ⟨u, hu, u0, u1⟩ : ∃ u : Int, u = (if W % 2 = 1 then m - 1 else 1) ∧ 0 ≤ u ∧ u ≤ 15 := ⟨_, rfl, by split <;> (first | lia | omega), by split <;> (first | lia | omega)⟩
  obtain ⟨v, hv, v0, v1, hvL⟩ : ∃ v : Int, v = (if W % 2 = 1 then m else 1) ∧ 0 ≤ v ∧ v ≤ 15 ∧ ([PyData.int 1, .int m] : List PyData)[(W % 2).toNat]? = some (.int v) := by
    rcases hw2 with q | q
    · exact ⟨1, by rw [if_neg (by (first | lia | omega))], by decide, by decide, by rw [q]; rfl⟩
    · exact ⟨m, by rw [if_pos q], by (first | lia | omega), by (first | lia | omega), by rw [q]; rfl⟩
  have sw : Sz 20 w := ⟨by (first | lia | omega), by (first | lia | omega)⟩
  have sm : Sz 2 m := ⟨by (first | lia | omega), by (first | lia | omega)⟩
  have k1 := Int.mul_nonneg w0 (show 0 ≤ m by (first | lia | omega))
  have k2 := Int.mul_nonneg w0 (show 0 ≤ m + 1 by (first | lia | omega))
  have sm1 : Sz 2 (m + 1) := ⟨by (first | lia | omega), by (first | lia | omega)⟩
  have su : Sz 2 u := ⟨by (first | lia | omega), by (first | lia | omega)⟩
  have sv : Sz 2 v := ⟨by (first | lia | omega), by (first | lia | omega)⟩
  obtain ⟨x1, y1, ff1, g1, e1⟩ := f_frac_ex hc (a := w * m + u) (b := m) (n := 25) (by (first | lia | omega)) m0 (((sw.mul sm).add su).mono (by decide)) (sm.mono (by decide)) (by decide)
  obtain ⟨x2, y2, ff2, g2, e2⟩ := f_frac_ex hc (a := w * (m + 1) + v) (b := m + 1) (n := 25) (by (first | lia | omega)) (by (first | lia | omega)) (((sw.mul sm1).add sv).mono (by decide)) (sm1.mono (by decide)) (by decide)
  obtain ⟨x3, y3, ff3, g3, up, dn⟩ := f_mid hc g1 g2 (by decide)
  have z1 := g1.sa
  have z2 := g1.sb
  have z3 := g2.sa
  have z4 := g2.sb
  have ex1 : (w * m + u) * (m + 1) = w * m * (m + 1) + u * m + u := by grind
  have ex2 : (w * (m + 1) + v) * m = w * m * (m + 1) + v * m := by grind
  have odd : W % 2 = 1 → x1 * y2 ≤ x2 * y1 := fun q => by
    rw [if_pos q] at hu hv
    refine cmp_frac (m := m + 1) (m' := m) (by (first | lia | omega)) m0 g2.up g1.up e2 e1 ?_
    rw [ex1, ex2, hu, hv]
    have : (m - 1) * m = m * m - m := by grind
    (first | lia | omega)
  have even : W % 2 = 0 → x2 * y1 ≤ x1 * y2 := fun q => by
    rw [if_neg (by (first | lia | omega))] at hu hv
    refine cmp_frac (m := m) (m' := m + 1) m0 (by (first | lia | omega)) g1.up g2.up e1 e2 ?_
    rw [ex1, ex2, hu, hv]
    (first | lia | omega)
  have go : ∀ (a b p q : Int), ((W / 16 = 4 ∧ W % 2 = 0 ∧ a = x2 ∧ b = y2 ∧ p = x3 ∧ q = y3) ∨ (W / 16 = 4 ∧ W % 2 = 1 ∧ a = x1 ∧ b = y1 ∧ p = x3 ∧ q = y3) ∨ (W / 16 ≠ 4 ∧ W % 2 = 0 ∧ a = x3 ∧ b = y3 ∧ p = x1 ∧ q = y1) ∨ (W / 16 ≠ 4 ∧ W % 2 = 1 ∧ a = x3 ∧ b = y3 ∧ p = x2 ∧ q = y2)) → FnD c 3 "_law_pair_by" [scr ns, .int W] (.tuple [PD a b, PD p q, .int (m + 1)]) := by
    intro a b p q hcase
    have hdef := (def_at (f := "_law_pair_by") hc 40 rfl rfl rfl (by kernel_rfl))
    refine fn2 (x1 := "_law_script") (x2 := "_law_way_here") hdef rf_old (by intros; rfl) (fun A g h L fa cd T rm S => ?_)
    refine run_set S (ev_mod (ev_calld S T rm (f_cell hc B (by decide) (by decide) hn) (evl_cons (ev_var S rfl) (evl_cons ev_int evl_nil))) (ev_pow ev_int ev_int (by decide) (by decide) (by decide)) p20) fun h S => ?_
    refine run_set S (ev_add ev_int (ev_mod (ev_calld S T rm (f_cell hc B (by decide) (by decide) hn) (evl_cons (ev_var S rfl) (evl_cons ev_int evl_nil))) ev_int (by walk_at "pos"))) fun h S => ?_
    rw [← hw, ← hm] at S
    refine run_set S ev_int fun h S => ?_
    refine run_ifJ (fun h => St g L h [("_law_way_here", .int W), ("_law_whole_here", .int w), ("_law_many", .int m), ("_law_upper", .int u)] none) S (tr_icmp (ev_mod (ev_var S rfl) ev_int (by walk_at "pos")) ev_int rfl) (fun e h S => ?_) (fun e h S => ?_) ?_
    · rw [hu, if_pos (by simpa using e)]
      exact run_set S (ev_sub (ev_var S rfl) ev_int) fun h S => run_nil ⟨rfl, S.pick ⟨rfl, rfl, rfl, rfl, trivial⟩⟩
    · rw [hu, if_neg (by simpa using e)]
      exact S.pick ⟨rfl, rfl, rfl, rfl, trivial⟩
    intro h S
    refine run_set S (ev_calld S T rm ff1 (evl_cons (ev_add (ev_mul (ev_var S rfl) (ev_var S rfl) (by walk_at "mul")) (ev_var S rfl)) (evl_cons (ev_var S rfl) evl_nil))) fun h S => ?_
    refine run_set S (ev_calld S T rm ff2 (evl_cons (ev_add (ev_mul (ev_var S rfl) (ev_add (ev_var S rfl) ev_int) (by walk_at "mul")) (ev_lidx ((ev_list (evl_cons ev_int (evl_cons (ev_var S rfl) evl_nil))).mono fun _ _ _ r => r.rd) (ev_mod (ev_var S rfl) ev_int (by walk_at "pos")) hvL (by (first | lia | omega)) (by (first | lia | omega)))) (evl_cons (ev_add (ev_var S rfl) ev_int) evl_nil))) fun h S => ?_
    refine run_set S (ev_calld S T rm ff3 (evl_cons (ev_add (ev_mul (ev_tidx (ev_var S rfl) ev_int) (ev_tidx (ev_var S rfl) ev_int) (by walk_at "mul")) (ev_mul (ev_tidx (ev_var S rfl) ev_int) (ev_tidx (ev_var S rfl) ev_int) (by walk_at "mul"))) (evl_cons (ev_mul (ev_mul ev_int (ev_tidx (ev_var S rfl) ev_int) (by walk_at "mul")) (ev_tidx (ev_var S rfl) ev_int) (by walk_at "mul")) evl_nil))) fun h S => ?_
    refine run_if S (tr_icmp (ev_div (ev_var S rfl) ev_int (by walk_at "pos") (by walk_at "small")) ev_int rfl) (fun e h S => ?_) (fun e h S => run_nil ?_)
    · have e4 : W / 16 = 4 := by simpa using e
      refine run_ret (R := Rd (.tuple [PD a b, PD p q, .int (m + 1)])) (ev_ife (tr_icmp (ev_mod (ev_var S rfl) ev_int (by walk_at "pos")) ev_int rfl) (fun e => ?_) (fun e => ?_)) fun v h' _ r => Rf.of_flat rfl r
      · have e5 : W % 2 = 0 := by simpa using e
        obtain ⟨rfl, rfl, rfl, rfl⟩ : a = x2 ∧ b = y2 ∧ p = x3 ∧ q = y3 := by (first | lia | omega)
        exact (ev_tup (evl_cons (ev_var S rfl) (evl_cons (ev_var S rfl) (evl_cons (ev_add (ev_var S rfl) ev_int) evl_nil))))
      · have e5 : ¬ W % 2 = 0 := by simpa using e
        obtain ⟨rfl, rfl, rfl, rfl⟩ : a = x1 ∧ b = y1 ∧ p = x3 ∧ q = y3 := by (first | lia | omega)
        exact (ev_tup (evl_cons (ev_var S rfl) (evl_cons (ev_var S rfl) (evl_cons (ev_add (ev_var S rfl) ev_int) evl_nil))))
    · have e4 : ¬ W / 16 = 4 := by simpa using e
      refine run_ret (R := Rd (.tuple [PD a b, PD p q, .int (m + 1)])) (ev_ife (tr_icmp (ev_mod (ev_var S rfl) ev_int (by walk_at "pos")) ev_int rfl) (fun e => ?_) (fun e => ?_)) fun v h' _ r => Rf.of_flat rfl r
      · have e5 : W % 2 = 0 := by simpa using e
        obtain ⟨rfl, rfl, rfl, rfl⟩ : a = x3 ∧ b = y3 ∧ p = x1 ∧ q = y1 := by (first | lia | omega)
        exact (ev_tup (evl_cons (ev_var S rfl) (evl_cons (ev_var S rfl) (evl_cons (ev_add (ev_var S rfl) ev_int) evl_nil))))
      · have e5 : ¬ W % 2 = 0 := by simpa using e
        obtain ⟨rfl, rfl, rfl, rfl⟩ : a = x3 ∧ b = y3 ∧ p = x2 ∧ q = y2 := by (first | lia | omega)
        exact (ev_tup (evl_cons (ev_var S rfl) (evl_cons (ev_var S rfl) (evl_cons (ev_add (ev_var S rfl) ev_int) evl_nil))))
  have G1 := g1.mono (by decide : 25 ≤ 61)
  have G2 := g2.mono (by decide : 25 ≤ 61)
  by_cases h4 : W / 16 = 4 <;> rcases hw2 with q | q
  · exact ⟨x2, y2, x3, y3, m + 1, go _ _ _ _ (.inl ⟨h4, q, rfl, rfl, rfl, rfl⟩), G2, g3, (dn (even q)).1, by (first | lia | omega), by (first | lia | omega)⟩
  · exact ⟨x1, y1, x3, y3, m + 1, go _ _ _ _ (.inr (.inl ⟨h4, q, rfl, rfl, rfl, rfl⟩)), G1, g3, (up (odd q)).1, by (first | lia | omega), by (first | lia | omega)⟩
  · exact ⟨x3, y3, x1, y1, m + 1, go _ _ _ _ (.inr (.inr (.inl ⟨h4, q, rfl, rfl, rfl, rfl⟩))), g3, G1, (dn (even q)).2, by (first | lia | omega), by (first | lia | omega)⟩
  · exact ⟨x3, y3, x2, y2, m + 1, go _ _ _ _ (.inr (.inr (.inr ⟨h4, q, rfl, rfl, rfl, rfl⟩))), g3, G2, (up (odd q)).2, by (first | lia | omega), by (first | lia | omega)⟩


theorem f_law (B : Bn c) {K : Frag} {D : Addr} (O : Cls c K D) {ns : List Int} (hn : ns.length ≤ 63) : FnW c K "law" [scr ns] := by
  have hdef := (def_at (f := "law") hc 44 rfl rfl rfl (by kernel_rfl))
  refine fnw1 (n := 8) (x1 := "_law_script") hdef (by intros; rfl) (fun g h L fa cd PT rm S => ?_)
  have T := PT.t
  have w0 := wayF_lo (ns := ns) (k := 0) (m := 128) (by decide)
  obtain ⟨a0, b0, fone, h0⟩ := f_drawn hc B (ns := ns) (k := 1) (wv := wayF ns 0 128) hn (by decide) (by decide) w0
  obtain ⟨g0, g1, fgap, hg⟩ := f_drawn hc B (ns := ns) (k := 3) (wv := wayF ns 8 16) hn (by decide) (by decide) (wayF_lo (by decide))
  refine rw_set S (ev_calld S T rm (f_way hc B (by decide) (by decide) hn (by decide)) (evl_cons (ev_var S rfl) (evl_cons ev_int (evl_cons ev_int evl_nil)))) fun h S => ?_
  refine rw_set S (ev_calld S T rm fone (evl_cons (ev_var S rfl) (evl_cons ev_int (evl_cons (ev_var S rfl) evl_nil)))) fun h S => ?_
  refine rw_set S (ev_var S rfl) fun h S => ?_
  generalize hW : wayF ns 0 128 = W at *
  have G0 := h0.mono (by decide : 29 ≤ 61)
  refine rw_ifJ (fun h => ∃ p q : Int, Fr2 61 p q ∧ a0 * q ≤ p * b0 ∧ St g L h [("_law_script", scr ns), ("_law_way_here", .int W), ("_law_low", PD a0 b0), ("_law_high", PD p q)] none) S (tr_icmp (ev_div (ev_var S rfl) ev_int (by walk_at "pos") (by walk_at "small")) ev_int rfl) (fun e h S => ?_) (fun e h S => run_nil ⟨rfl, a0, b0, G0, Int.le_refl _, S.pick ⟨rfl, rfl, rfl, rfl, trivial⟩⟩) ?_
  · have c1 := Int.emod_nonneg (cell ns 9) (b := 201) (by decide)
    have c2 := Int.emod_lt_of_pos (cell ns 9) (b := 201) (by decide)
    have sk : Sz 10 (1 + cell ns 9 % 201) := ⟨by (first | lia | omega), by (first | lia | omega)⟩
    have z1 := hg.sa
    have z2 := hg.sb
    have z3 := h0.sa
    have z4 := h0.sb
    refine run_set S (ev_calld S T rm fgap (evl_cons (ev_var S rfl) (evl_cons ev_int (evl_cons (ev_calld S T rm (f_way hc B (by decide) (by decide) hn (by decide)) (evl_cons (ev_var S rfl) (evl_cons ev_int (evl_cons ev_int evl_nil)))) evl_nil)))) fun h S => ?_
    refine run_set S (ev_tup (evl_cons (ev_tidx (ev_var S rfl) ev_int) (evl_cons (ev_mul (ev_tidx (ev_var S rfl) ev_int) (ev_add ev_int (ev_mod (ev_calld S T rm (f_cell hc B (by decide) (by decide) hn) (evl_cons (ev_var S rfl) (evl_cons ev_int evl_nil))) ev_int (by walk_at "pos"))) (by walk_at "mul")) evl_nil))) fun h S => ?_
    obtain ⟨kk, hkk, kk1, kk2⟩ : ∃ kk : Int, kk = 1 + cell ns 9 % 201 ∧ 1 ≤ kk ∧ kk ≤ 201 := ⟨_, rfl, by (first | lia | omega), by (first | lia | omega)⟩
    rw [← hkk] at S sk
    have P0 : 0 ≤ a0 * g1 := Int.mul_nonneg h0.lo (by have := hg.up; (first | lia | omega))
    have P1 : Sz 58 (a0 * g1) := z3.mul z2
    have Q0 : 0 ≤ g0 * b0 := Int.mul_nonneg hg.lo (by have := h0.up; (first | lia | omega))
    have Q1 : Sz 58 (g0 * b0) := z1.mul z4
    have R0 : 1 ≤ b0 * g1 := by
      have := Int.mul_le_mul h0.up hg.up (by (first | lia | omega)) (by have := h0.up; (first | lia | omega))
      (first | lia | omega)
    have R1 : Sz 58 (b0 * g1) := z4.mul z2
    have P2 := Int.mul_le_mul_of_nonneg_left kk2 P0
    have R2 := Int.mul_le_mul_of_nonneg_left kk2 (show 0 ≤ b0 * g1 by (first | lia | omega))
    have P3 := Int.mul_nonneg P0 (show 0 ≤ kk by (first | lia | omega))
    have R3 : 1 ≤ b0 * g1 * kk := by
      have := Int.mul_le_mul R0 kk1 (by (first | lia | omega)) (by (first | lia | omega))
      (first | lia | omega)
    have e1 : a0 * (g1 * kk) = a0 * g1 * kk := (Int.mul_assoc _ _ _).symm
    have e2 : b0 * (g1 * kk) = b0 * g1 * kk := (Int.mul_assoc _ _ _).symm
    have p1 := P1.2
    have q1 := Q1.2
    have r1 := R1.2
    have sgk : Sz 39 (g1 * kk) := z2.mul sk
    obtain ⟨p, q, ff, hf, ex⟩ := f_frac_ex hc (a := a0 * (g1 * kk) + g0 * b0) (b := b0 * (g1 * kk)) (n := 61) (by rw [e1]; (first | lia | omega)) (by rw [e2]; (first | lia | omega)) (by rw [e1]; constructor <;> (first | lia | omega)) (by rw [e2]; constructor <;> (first | lia | omega)) (by decide)
    refine run_set S (ev_calld S T rm (ff) (evl_cons (ev_add (ev_mul (ev_tidx (ev_var S rfl) ev_int) (ev_tidx (ev_var S rfl) ev_int) (by walk_at "mul")) (ev_mul (ev_tidx (ev_var S rfl) ev_int) (ev_tidx (ev_var S rfl) ev_int) (by walk_at "mul"))) (evl_cons (ev_mul (ev_tidx (ev_var S rfl) ev_int) (ev_tidx (ev_var S rfl) ev_int) (by walk_at "mul")) evl_nil))) fun h S => run_nil ⟨rfl, p, q, hf, ?_, S.pick ⟨rfl, rfl, rfl, rfl, trivial⟩⟩
    have gk : 0 < g1 * kk := Int.mul_pos (by have := hg.up; (first | lia | omega)) (by (first | lia | omega))
    refine Int.le_of_mul_le_mul_right ?_ gk
    have t1 : p * b0 * (g1 * kk) = p * (b0 * (g1 * kk)) := Int.mul_assoc _ _ _
    have t2 : (a0 * (g1 * kk) + g0 * b0) * q = a0 * q * (g1 * kk) + g0 * b0 * q := by grind
    have t3 := Int.mul_nonneg Q0 (show 0 ≤ q by have := hf.up; (first | lia | omega))
    rw [t1, ex, t2]; (first | lia | omega)
  rintro h ⟨p0, q0, hh, hle0, S⟩
  have c5 := Int.emod_nonneg (cell ns 5) (b := 16) (by decide)
  have c5' := Int.emod_lt_of_pos (cell ns 5) (b := 16) (by decide)
  refine rw_set S (ev_add ev_int (ev_mod (ev_calld S T rm (f_cell hc B (by decide) (by decide) hn) (evl_cons (ev_var S rfl) (evl_cons ev_int evl_nil))) ev_int (by walk_at "pos"))) fun h S => ?_
  refine rw_if S (tr_icmp (ev_div (ev_var S rfl) ev_int (by walk_at "pos") (by walk_at "small")) ev_int rfl) (fun e h S => ?_) (fun e h S => ?_)
  · obtain ⟨d, fd, hwd, hkd⟩ := f_no_room hc (k := wayF ns 5 10) (cl := cell ns 6) (wayF_lo (by decide)) (wayF_hi (by decide))
    refine rw_any (x0 := "_law_script") S rfl hkd (ev_call S T rm fd (evl_cons (ev_calld S T rm (f_way hc B (by decide) (by decide) hn (by decide)) (evl_cons (ev_var S rfl) (evl_cons ev_int (evl_cons ev_int evl_nil)))) (evl_cons (ev_calld S T rm (f_cell hc B (by decide) (by decide) hn) (evl_cons (ev_var S rfl) (evl_cons ev_int evl_nil))) evl_nil)) (by decide) rd_old) fun h S => ?_
    exact rw_rete (evc_and (evc_eqs (x := "room") rm (evc_call S PT rm (ref_room hc B O hwd) (evl_cons (ev_var S rfl) (evl_cons (ev_var S rfl) (evl_cons (ev_var S rfl) evl_nil))))) fun g' h' PT' S' => evc_eqs (x := "room") rm (evc_call S' PT' rm (ref_room hc B O hwd) (evl_cons (ev_var S' rfl) (evl_cons (ev_var S' rfl) (evl_cons (ev_var S' rfl) evl_nil)))))
  refine rw_if S (tr_bool (all_and (tr_icmp (ev_div (ev_var S rfl) ev_int (by walk_at "pos") (by walk_at "small")) ev_int rfl) fun _ => (all_and (tr_ne rm (ev_var S rfl) (ev_var S rfl) rfl rfl) fun _ => all_and_nil))) (fun e h S => ?_) (fun e h S => ?_)
  · have hne : ¬ (a0 = p0 ∧ b0 = q0) := fun z => by rw [PD_eqv, z.1, z.2] at e; simp at e
    have hlt : a0 * q0 < p0 * b0 := by
      rcases Int.lt_or_eq_of_le hle0 with z | z
      · exact z
      · obtain ⟨u1, u2⟩ := low_unique h0.lo h0.up hh.lo hh.up hh.co z
        rw [h0.co] at u1 u2
        exact absurd ⟨by simpa using u1, by simpa using u2⟩ hne
    exact rw_rete (evc_eqs (x := "bounds") rm (evc_call S PT rm (ref_bounds hc B O hh G0 (by (first | lia | omega)) hlt) (evl_cons (ev_var S rfl) (evl_cons (ev_var S rfl) (evl_cons (ev_var S rfl) evl_nil)))))
  refine rw_ifJ (fun h => ∃ a b p q M : Int, Fr2 61 a b ∧ Fr2 61 p q ∧ a * q ≤ p * b ∧ 1 ≤ M ∧ M ≤ 16 ∧ (W / 16 = 7 → Fr2 29 a b) ∧ St g L h [("_law_script", scr ns), ("_law_way_here", .int W), ("_law_low", PD a b), ("_law_high", PD p q), ("_law_most", .int M)] none) S (tr_bool (all_or (tr_icmp (ev_div (ev_var S rfl) ev_int (by walk_at "pos") (by walk_at "small")) ev_int rfl) fun _ => (all_or (tr_icmp (ev_div (ev_var S rfl) ev_int (by walk_at "pos") (by walk_at "small")) ev_int rfl) fun _ => all_or_nil))) (fun e h S => ?_) (fun e h S => run_nil ⟨rfl, a0, b0, p0, q0, _, G0, hh, hle0, by (first | lia | omega), by (first | lia | omega), fun _ => h0, S.pick ⟨rfl, rfl, rfl, rfl, rfl, trivial⟩⟩) ?_
  · obtain ⟨a, b, p, q, M, fp, k1, k2, k3, k4, k5⟩ := f_pair_by hc B hn (W := W) w0
    have e' : W / 16 = 4 ∨ W / 16 = 5 := by simpa using e
    exact run_unpack3 rm.hd S (ev_calld S T rm fp (evl_cons (ev_var S rfl) (evl_cons (ev_var S rfl) evl_nil))) fun h S => run_nil ⟨rfl, a, b, p, q, M, k1, k2, k3, k4, k5, fun z => by (first | lia | omega), S.pick ⟨rfl, rfl, rfl, rfl, rfl, trivial⟩⟩
  rintro h ⟨a, b, p, q, M, F1, F2, hle, hM1, hM2, h7, S⟩
  have hw2 : W % 2 = 0 ∨ W % 2 = 1 := by (first | lia | omega)
  refine rw_if S (tr_bool (all_and (tr_icmp (ev_div (ev_var S rfl) ev_int (by walk_at "pos") (by walk_at "small")) ev_int rfl) fun _ => (all_and (tr_icmp (ev_tidx (ev_var S rfl) ev_int) ev_int rfl) fun _ => (all_and (tr_icmp (ev_tidx (ev_var S rfl) ev_int) ev_int rfl) fun _ => all_and_nil)))) (fun e h S => ?_) (fun e h S => ?_)
  · simp only [Bool.and_true, Bool.and_eq_true, decide_eq_true_eq, beq_iff_eq] at e
    obtain ⟨e7, ea, eb⟩ := e
    have f29 := h7 e7
    have z1 := f29.sa
    have z2 := f29.sb
    obtain ⟨l0, l1, r0, r1, fs, n1, n2, n3, n4, hd, hx, hy⟩ := f_sides_ex hc (U := a) (V := b) (by (first | lia | omega)) f29.up f29.co (z1.mono (by decide)) (z2.mono (by decide))
    have hl1 : 1 ≤ l1 := by
      rcases Int.lt_or_eq_of_le n2 with q | q
      · (first | lia | omega)
      · rw [← q] at hd; have := Int.mul_nonneg n1 n4; (first | lia | omega)
    have hr1 : 1 ≤ r1 := by
      rcases Int.lt_or_eq_of_le n4 with q | q
      · (first | lia | omega)
      · have q' : r1 = 0 := q.symm
        rw [q', Int.mul_zero] at hd
        have l2 : 2 ≤ l1 := by (first | lia | omega)
        rcases Int.lt_or_le 0 r0 with z | z
        · have := Int.mul_le_mul (show 1 ≤ r0 by (first | lia | omega)) l2 (by decide) (by (first | lia | omega))
          (first | lia | omega)
        · have : r0 = 0 := by (first | lia | omega)
          rw [this] at hd; (first | lia | omega)
    have FL : Fr2 29 l0 l1 := ⟨n1, hl1, det_co hd, z1.le n1 (by (first | lia | omega)), z2.le n2 (by (first | lia | omega))⟩
    have FR : Fr2 29 r0 r1 := ⟨n3, hr1, det_co2 hd, z1.le n3 (by (first | lia | omega)), z2.le n4 (by (first | lia | omega))⟩
    obtain ⟨x3, y3, ff3, g3, up, _⟩ := f_mid hc FL FR (by decide)
    obtain ⟨up1, up2⟩ := up (by (first | lia | omega))
    have y1 := FL.sa
    have y2 := FL.sb
    have y3' := FR.sa
    have y4 := FR.sb
    have m1 := Int.emod_nonneg (cell ns 5) (b := min l1 r1) (by (first | lia | omega))
    obtain ⟨a', b', p', q', hxl, G1, G2, hle'⟩ : ∃ a' b' p' q' : Int, ([.tuple [PD l0 l1, PD x3 y3], .tuple [PD x3 y3, PD r0 r1]] : List PyData)[(W % 2).toNat]? = some (.tuple [PD a' b', PD p' q']) ∧ Fr2 61 a' b' ∧ Fr2 61 p' q' ∧ a' * q' ≤ p' * b' := by
      rcases hw2 with z | z <;> rw [z]
      · exact ⟨l0, l1, x3, y3, rfl, FL.mono (by decide), g3, up1⟩
      · exact ⟨x3, y3, r0, r1, rfl, g3, FR.mono (by decide), up2⟩
    refine rw_cut (fun h => St g L h [("_law_script", scr ns), ("_law_way_here", .int W), ("_law_left", PD l0 l1), ("_law_right_here", PD r0 r1)] none) (run_unpack2 rm.hd S (ev_calld S T rm fs (evl_cons (ev_var S rfl) evl_nil)) fun h S => run_nil ⟨rfl, S.pick ⟨rfl, rfl, rfl, rfl, trivial⟩⟩) fun h S => ?_
    refine rw_set S (ev_calld S T rm ff3 (evl_cons (ev_add (ev_mul (ev_tidx (ev_var S rfl) ev_int) (ev_tidx (ev_var S rfl) ev_int) (by walk_at "mul")) (ev_mul (ev_tidx (ev_var S rfl) ev_int) (ev_tidx (ev_var S rfl) ev_int) (by walk_at "mul"))) (evl_cons (ev_mul (ev_mul ev_int (ev_tidx (ev_var S rfl) ev_int) (by walk_at "mul")) (ev_tidx (ev_var S rfl) ev_int) (by walk_at "mul")) evl_nil))) fun h S => ?_
    refine rw_set S (ev_add (ev_max S T B rm.hd (ev_tidx (ev_var S rfl) ev_int) (ev_tidx (ev_var S rfl) ev_int)) (ev_mod (ev_calld S T rm (f_cell hc B (by decide) (by decide) hn) (evl_cons (ev_var S rfl) (evl_cons ev_int evl_nil))) (ev_min S T B rm.hd (ev_tidx (ev_var S rfl) ev_int) (ev_tidx (ev_var S rfl) ev_int)) (by (first | lia | omega)))) fun h S => ?_
    refine rw_cut (fun h => St g L h [("_law_low", PD a' b'), ("_law_high", PD p' q'), ("_law_most", .int (max l1 r1 + cell ns 5 % min l1 r1))] none) (run_unpack2 rm.hd S (ev_lidx ((ev_list (evl_cons (ev_tup (evl_cons (ev_var S rfl) (evl_cons (ev_var S rfl) evl_nil))) (evl_cons (ev_tup (evl_cons (ev_var S rfl) (evl_cons (ev_var S rfl) evl_nil))) evl_nil))).mono fun _ _ _ r => r.rd) (ev_mod (ev_var S rfl) ev_int (by walk_at "pos")) hxl (by (first | lia | omega)) (by (first | lia | omega))) fun h S => run_nil ⟨rfl, S.pick ⟨rfl, rfl, rfl, trivial⟩⟩) fun h S => ?_
    exact rw_retc S PT rm (f_as_nearest hc B O G1 G2 (by (first | lia | omega)) hle') (evl_cons (ev_var S rfl) (evl_cons (ev_var S rfl) (evl_cons (ev_var S rfl) evl_nil)))
  refine rw_if S (tr_icmp (ev_div (ev_var S rfl) ev_int (by walk_at "pos") (by walk_at "small")) ev_int rfl) (fun e h S => ?_) (fun e h S => ?_)
  · obtain ⟨m, hm, hm0⟩ : ∃ m : Int, ([PyData.int (10 ^ (6 : Int).toNat), .int (10 ^ (28 : Int).toNat)] : List PyData)[(W % 2).toNat]? = some (.int m) ∧ 0 < m := by
      rcases hw2 with z | z <;> rw [z]
      · exact ⟨_, rfl, by decide +kernel⟩
      · exact ⟨_, rfl, by decide +kernel⟩
    have q1 := Int.emod_nonneg (cell ns 5) (b := m) (by (first | lia | omega))
    exact rw_retc S PT rm (f_as_nearest hc B O F1 F2 (M := 1 + cell ns 5 % m) (by (first | lia | omega)) hle) (evl_cons (ev_var S rfl) (evl_cons (ev_var S rfl) (evl_cons (ev_add ev_int (ev_mod (ev_calld S T rm (f_cell hc B (by decide) (by decide) hn) (evl_cons (ev_var S rfl) (evl_cons ev_int evl_nil))) (ev_lidx ((ev_list (evl_cons (ev_pow ev_int ev_int (by decide) (by decide) (by decide)) (evl_cons (ev_pow ev_int ev_int (by decide) (by decide) (by decide)) evl_nil))).mono fun _ _ _ r => r.rd) (ev_mod (ev_var S rfl) ev_int (by walk_at "pos")) hm (by (first | lia | omega)) (by (first | lia | omega))) hm0)) evl_nil)))
  exact rw_retc S PT rm (f_right hc B O hn F1 F2 hM1 (by (first | lia | omega)) hle) (evl_cons (ev_var S rfl) (evl_cons (ev_var S rfl) (evl_cons (ev_var S rfl) (evl_cons (ev_var S rfl) evl_nil))))
end

end Mine

namespace Mine
open PySem PySem.Spec PySem.Calls PyProof.Rows PySem.W
noncomputable section
abbrev hp : Program := PySem.Challenge.pw_uf050018_14
/-- the defs' parts, by their places -/
def hfp (i : Nat) : Arguments := match hp.main.body[i]? with | some (.FunctionDef _ ps _ _ _ _ _ _ _ _) => ps | _ => { posonlyargs := [], args := [], vararg := none, kwonlyargs := [], kw_defaults := [], kwarg := none, defaults := [] }
def hfb (i : Nat) : List Stmt := match hp.main.body[i]? with | some (.FunctionDef _ _ b _ _ _ _ _ _ _) => b | _ => []
def hfs (i : Nat) : Scope := match hp.main.body[i]? with | some (.FunctionDef _ _ _ _ _ _ sc _ _ _) => sc | _ => { kind := .module, names := [], isGenerator := false, isCoroutine := false }
/-- the objects that stand on the way (written by a program of mine from a run of the top) -/
def hob204 : Params → Obj := fun P => { cls := Value.type "dict", data := Data.dict #[{ hash := PyData.keyHash P (Str.ofString "__name__"), key := Value.str (Str.ofString "__name__") 165, val := Value.str (Str.ofString "law_uf050018_14") 474 }, { hash := PyData.keyHash P (Str.ofString "__doc__"), key := Value.str (Str.ofString "__doc__") 166, val := Value.none }, { hash := PyData.keyHash P (Str.ofString "__package__"), key := Value.str (Str.ofString "__package__") 167, val := Value.none }, { hash := PyData.keyHash P (Str.ofString "__loader__"), key := Value.str (Str.ofString "__loader__") 168, val := Value.builtin "__main__.__loader__#opaque" }, { hash := PyData.keyHash P (Str.ofString "__spec__"), key := Value.str (Str.ofString "__spec__") 169, val := Value.none }, { hash := PyData.keyHash P (Str.ofString "__annotations__"), key := Value.str (Str.ofString "__annotations__") 170, val := Value.ref 6 }, { hash := PyData.keyHash P (Str.ofString "__builtins__"), key := Value.str (Str.ofString "__builtins__") 171, val := Value.ref 4 }, { hash := PyData.keyHash P (Str.ofString "__file__"), key := Value.str (Str.ofString "__file__") 173, val := Value.str (Str.ofString "/claim/cut.py") 172 }, { hash := PyData.keyHash P (Str.ofString "__cached__"), key := Value.str (Str.ofString "__cached__") 174, val := Value.none }, { hash := PyData.keyHash P (Str.ofString "FractionError"), key := Value.str (Str.ofString "FractionError") 206, val := Value.ref 24 }, { hash := PyData.keyHash P (Str.ofString "NoFraction"), key := Value.str (Str.ofString "NoFraction") 222, val := Value.ref 37 }, { hash := PyData.keyHash P (Str.ofString "NoPath"), key := Value.str (Str.ofString "NoPath") 238, val := Value.ref 49 }, { hash := PyData.keyHash P (Str.ofString "NoBounds"), key := Value.str (Str.ofString "NoBounds") 254, val := Value.ref 61 }, { hash := PyData.keyHash P (Str.ofString "NoRoom"), key := Value.str (Str.ofString "NoRoom") 270, val := Value.ref 73 }, { hash := PyData.keyHash P (Str.ofString "Unsure"), key := Value.str (Str.ofString "Unsure") 286, val := Value.ref 85 }, { hash := PyData.keyHash P (Str.ofString "NoText"), key := Value.str (Str.ofString "NoText") 302, val := Value.ref 97 }, { hash := PyData.keyHash P (Str.ofString "NoNumber"), key := Value.str (Str.ofString "NoNumber") 318, val := Value.ref 109 }, { hash := PyData.keyHash P (Str.ofString "is_whole"), key := Value.str (Str.ofString "is_whole") 328, val := Value.ref 118 }, { hash := PyData.keyHash P (Str.ofString "divisor"), key := Value.str (Str.ofString "divisor") 337, val := Value.ref 125 }, { hash := PyData.keyHash P (Str.ofString "lowest"), key := Value.str (Str.ofString "lowest") 346, val := Value.ref 132 }, { hash := PyData.keyHash P (Str.ofString "less"), key := Value.str (Str.ofString "less") 354, val := Value.ref 139 }, { hash := PyData.keyHash P (Str.ofString "apart"), key := Value.str (Str.ofString "apart") 363, val := Value.ref 146 }, { hash := PyData.keyHash P (Str.ofString "need_room"), key := Value.str (Str.ofString "need_room") 372, val := Value.ref 153 }, { hash := PyData.keyHash P (Str.ofString "need_bounds"), key := Value.str (Str.ofString "need_bounds") 380, val := Value.ref 160 }, { hash := PyData.keyHash P (Str.ofString "gap"), key := Value.str (Str.ofString "gap") 388, val := Value.ref 167 }, { hash := PyData.keyHash P (Str.ofString "stepped"), key := Value.str (Str.ofString "stepped") 397, val := Value.ref 174 }, { hash := PyData.keyHash P (Str.ofString "fitting"), key := Value.str (Str.ofString "fitting") 407, val := Value.ref 181 }, { hash := PyData.keyHash P (Str.ofString "around"), key := Value.str (Str.ofString "around") 419, val := Value.ref 188 }, { hash := PyData.keyHash P (Str.ofString "nearest"), key := Value.str (Str.ofString "nearest") 431, val := Value.ref 195 }, { hash := PyData.keyHash P (Str.ofString "sure"), key := Value.str (Str.ofString "sure") 441, val := Value.ref 202 }, { hash := PyData.keyHash P (Str.ofString "walked"), key := Value.str (Str.ofString "walked") 455, val := Value.ref 209 }, { hash := PyData.keyHash P (Str.ofString "path_of"), key := Value.str (Str.ofString "path_of") 466, val := Value.ref 216 }, { hash := PyData.keyHash P (Str.ofString "sides"), key := Value.str (Str.ofString "sides") 473, val := Value.ref 223 }, { hash := PyData.keyHash P (Str.ofString "_law_cell_at"), key := Value.str (Str.ofString "_law_cell_at") 483, val := Value.ref 230 }] 34 }
def hob180 : Params → Obj := fun _ => { cls := Value.none, data := Data.func { name := Str.ofString "divisor", qualname := Str.ofString "divisor", params := hfp 11, body := FuncBody.stmts (hfb 11), scope := hfs 11, globals := 0, closure := [], defaults := Value.none, kwdefaults := Value.none } }
def hob83 : Params → Obj := fun _ => { cls := Value.type "builtin_function_or_method", data := Data.fields #[Value.builtin "type.__prepare__", Value.type "type"] }
def hob84 : Params → Obj := fun P => { cls := Value.type "dict", data := Data.dict #[{ hash := PyData.keyHash P (Str.ofString "__module__"), key := Value.str (Str.ofString "__module__") 230, val := Value.str (Str.ofString "nearfrac.errors") 187 }, { hash := PyData.keyHash P (Str.ofString "__qualname__"), key := Value.str (Str.ofString "__qualname__") 232, val := Value.str (Str.ofString "NoPath") 231 }, { hash := PyData.keyHash P (Str.ofString "__firstlineno__"), key := Value.str (Str.ofString "__firstlineno__") 234, val := Value.int 6 233 }, { hash := PyData.keyHash P (Str.ofString "__static_attributes__"), key := Value.str (Str.ofString "__static_attributes__") 235, val := Value.ref 47 }] 4 }
def hob268 : Params → Obj := fun _ => { cls := Value.type "function", data := Data.func { name := Str.ofString "walked", qualname := Str.ofString "walked", params := hfp 25, body := FuncBody.stmts (hfb 25), scope := hfs 25, globals := 3, closure := [], defaults := Value.none, kwdefaults := Value.none, pyModule := Value.str (Str.ofString "nearfrac.tree") 442, code := Value.ref 208 } }
def hob61 : Params → Obj := fun _ => { cls := Value.type "getset_descriptor", data := Data.fields #[Value.str (Str.ofString "__weakref__") 202, Value.ref 24, Value.builtin "ExceptionGroup.__weakref__", Value.none] }
def hob146 : Params → Obj := fun _ => { cls := Value.none, data := Data.fields #[] }
def hob232 : Params → Obj := fun _ => { cls := Value.type "code", data := Data.fields #[Value.str (Str.ofString "stepped") 389, Value.str (Str.ofString "stepped") 390, Value.str (Str.ofString "/claim/cut.py") 391, Value.int 46 0, Value.int 3 0, Value.int 0 0, Value.int 0 0, Value.int 3 0, Value.ref 168, Value.bool true, Value.int 181 0, Value.ref 169, Value.none, Value.ref 170, Value.ref 171, Value.ref 172, Value.int 395 0, Value.int 46 0, Value.str (Str.ofString "/claim/cut.py") 396] }
def hob66 : Params → Obj := fun _ => { cls := Value.type "type", data := Data.cls { name := Str.ofString "FractionError", bases := [Value.type "ValueError"], mro := [Value.ref 24, Value.type "ValueError", Value.type "Exception", Value.type "BaseException", Value.type "object"], ns := 23, qualname := Str.ofString "FractionError", subclasses := [Value.ref 37] }, slots := #[some (Value.ref 15), none, some (Value.str (Str.ofString "FractionError") 189), some (Value.str (Str.ofString "FractionError") 197), some (Value.builtin "ValueError.__new__"), some (Value.bool true)] }
def hob285 : Params → Obj := fun _ => { cls := Value.type "tuple", data := Data.seq #[Value.str (Str.ofString "_law_script") 479, Value.str (Str.ofString "_law_k") 480] }
def hob343 : Params → Obj := fun _ => { cls := Value.type "tuple", data := Data.seq #[Value.str (Str.ofString "_law_kind") 546, Value.str (Str.ofString "_law_cell") 547, Value.str (Str.ofString "_law_some") 548] }
def hob297 : Params → Obj := fun _ => { cls := Value.type "code", data := Data.fields #[Value.str (Str.ofString "_law_way") 484, Value.str (Str.ofString "_law_way") 485, Value.str (Str.ofString "/claim/cut.py") 486, Value.int 120 0, Value.int 3 0, Value.int 0 0, Value.int 0 0, Value.int 3 0, Value.ref 231, Value.bool true, Value.int 181 0, Value.ref 232, Value.none, Value.ref 233, Value.ref 234, Value.ref 235, Value.int 490 0, Value.int 120 0, Value.str (Str.ofString "/claim/cut.py") 491] }
def hob330 : Params → Obj := fun _ => { cls := Value.type "tuple", data := Data.seq #[] }
def hob69 : Params → Obj := fun P => { cls := Value.type "dict", data := Data.dict #[{ hash := PyData.keyHash P (Str.ofString "__module__"), key := Value.str (Str.ofString "__module__") 214, val := Value.str (Str.ofString "nearfrac.errors") 187 }, { hash := PyData.keyHash P (Str.ofString "__qualname__"), key := Value.str (Str.ofString "__qualname__") 216, val := Value.str (Str.ofString "NoFraction") 215 }, { hash := PyData.keyHash P (Str.ofString "__firstlineno__"), key := Value.str (Str.ofString "__firstlineno__") 218, val := Value.int 4 217 }, { hash := PyData.keyHash P (Str.ofString "__static_attributes__"), key := Value.str (Str.ofString "__static_attributes__") 219, val := Value.ref 35 }] 4 }
def hob68 : Params → Obj := fun _ => { cls := Value.type "builtin_function_or_method", data := Data.fields #[Value.builtin "type.__prepare__", Value.type "type"] }
def hob371 : Params → Obj := fun _ => { cls := Value.type "tuple", data := Data.seq #[Value.str (Str.ofString "_law_low") 590, Value.str (Str.ofString "_law_high") 591, Value.str (Str.ofString "_law_most") 592, Value.str (Str.ofString "_law_e") 593] }
def hob51 : Params → Obj := fun _ => { cls := Value.type "tuple", data := Data.seq #[Value.type "ValueError"] }
def hob375 : Params → Obj := fun _ => { cls := Value.type "function", data := Data.func { name := Str.ofString "_law_refusal", qualname := Str.ofString "_law_refusal", params := hfp 41, body := FuncBody.stmts (hfb 41), scope := hfs 41, globals := 3, closure := [], defaults := Value.none, kwdefaults := Value.none, pyModule := Value.str (Str.ofString "law_uf050018_14") 474, code := Value.ref 313 } }
def hob110 : Params → Obj := fun _ => { cls := Value.none, data := Data.fields #[Value.int 2 0, Value.int 0 0, Value.ref 20, Value.int 4 0, Value.int 0 0, Value.ref 33, Value.int 6 0, Value.int 0 0, Value.ref 45, Value.int 8 0, Value.int 0 0, Value.ref 57, Value.int 10 0, Value.int 0 0, Value.ref 69] }
def hob383 : Params → Obj := fun _ => { cls := Value.type "code", data := Data.fields #[Value.str (Str.ofString "_law_as_nearest") 597, Value.str (Str.ofString "_law_as_nearest") 598, Value.str (Str.ofString "/claim/cut.py") 599, Value.int 184 0, Value.int 3 0, Value.int 0 0, Value.int 0 0, Value.int 3 0, Value.ref 315, Value.bool true, Value.int 181 0, Value.ref 316, Value.none, Value.ref 317, Value.ref 318, Value.ref 319, Value.int 604 0, Value.int 184 0, Value.str (Str.ofString "/claim/cut.py") 605] }
def hob75 : Params → Obj := fun P => { cls := Value.type "dict", data := Data.dict #[{ hash := PyData.keyHash P (Str.ofString "__module__"), key := Value.str (Str.ofString "__module__") 214, val := Value.str (Str.ofString "nearfrac.errors") 187 }, { hash := PyData.keyHash P (Str.ofString "__firstlineno__"), key := Value.str (Str.ofString "__firstlineno__") 218, val := Value.int 4 217 }, { hash := PyData.keyHash P (Str.ofString "__static_attributes__"), key := Value.str (Str.ofString "__static_attributes__") 219, val := Value.ref 35 }, { hash := PyData.keyHash P (Str.ofString "__doc__"), key := Value.str (Str.ofString "__doc__") 220, val := Value.none }] 2 }
def hob364 : Params → Obj := fun _ => { cls := Value.type "tuple", data := Data.seq #[Value.str (Str.ofString "_law_script") 576, Value.str (Str.ofString "_law_way_here") 577, Value.str (Str.ofString "_law_whole_here") 578, Value.str (Str.ofString "_law_many") 579, Value.str (Str.ofString "_law_upper") 580, Value.str (Str.ofString "_law_one") 581, Value.str (Str.ofString "_law_other") 582, Value.str (Str.ofString "_law_middle") 583] }
def hob183 : Params → Obj := fun _ => { cls := Value.type "tuple", data := Data.seq #[] }
def hob306 : Params → Obj := fun _ => { cls := Value.type "tuple", data := Data.seq #[] }
def hob388 : Params → Obj := fun _ => { cls := Value.type "tuple", data := Data.seq #[] }
def hob379 : Params → Obj := fun _ => { cls := Value.none, data := Data.fields #[] }
def hob237 : Params → Obj := fun _ => { cls := Value.type "tuple", data := Data.seq #[] }
def hob251 : Params → Obj := fun _ => { cls := Value.type "tuple", data := Data.seq #[] }
def hob89 : Params → Obj := fun _ => { cls := Value.type "tuple", data := Data.seq #[] }
def hob356 : Params → Obj := fun _ => { cls := Value.none, data := Data.fields #[] }
def hob120 : Params → Obj := fun P => { cls := Value.type "dict", data := Data.dict #[{ hash := PyData.keyHash P (Str.ofString "__module__"), key := Value.str (Str.ofString "__module__") 262, val := Value.str (Str.ofString "nearfrac.errors") 187 }, { hash := PyData.keyHash P (Str.ofString "__firstlineno__"), key := Value.str (Str.ofString "__firstlineno__") 266, val := Value.int 10 265 }, { hash := PyData.keyHash P (Str.ofString "__static_attributes__"), key := Value.str (Str.ofString "__static_attributes__") 267, val := Value.ref 71 }, { hash := PyData.keyHash P (Str.ofString "__doc__"), key := Value.str (Str.ofString "__doc__") 268, val := Value.none }] 2 }
def hob138 : Params → Obj := fun _ => { cls := Value.type "builtin_function_or_method", data := Data.fields #[Value.builtin "object.__init_subclass__", Value.ref 85] }
def hob344 : Params → Obj := fun _ => { cls := Value.type "tuple", data := Data.seq #[] }
def hob46 : Params → Obj := fun _ => { cls := Value.type "frame", slots := #[some (Value.ref 13), some (Value.ref 3), some (Value.ref 3), none, some (Value.str (Str.ofString "__main__") 164), none, some (Value.ref 0)] }
def hob212 : Params → Obj := fun _ => { cls := Value.type "function", data := Data.func { name := Str.ofString "need_room", qualname := Str.ofString "need_room", params := hfp 16, body := FuncBody.stmts (hfb 16), scope := hfs 16, globals := 3, closure := [], defaults := Value.none, kwdefaults := Value.none, pyModule := Value.str (Str.ofString "nearfrac.near") 364, code := Value.ref 152 } }
def hob291 : Params → Obj := fun _ => { cls := Value.none, data := Data.fields #[Value.int 2 0, Value.int 0 0, Value.ref 20, Value.int 4 0, Value.int 0 0, Value.ref 33, Value.int 6 0, Value.int 0 0, Value.ref 45, Value.int 8 0, Value.int 0 0, Value.ref 57, Value.int 10 0, Value.int 0 0, Value.ref 69, Value.int 12 0, Value.int 0 0, Value.ref 81, Value.int 14 0, Value.int 0 0, Value.ref 93, Value.int 16 0, Value.int 0 0, Value.ref 105, Value.int 19 0, Value.int 0 0, Value.ref 117, Value.int 21 0, Value.int 0 0, Value.ref 124, Value.int 27 0, Value.int 0 0, Value.ref 131, Value.int 32 0, Value.int 0 0, Value.ref 138, Value.int 34 0, Value.int 0 0, Value.ref 145, Value.int 38 0, Value.int 0 0, Value.ref 152, Value.int 41 0, Value.int 0 0, Value.ref 159, Value.int 44 0, Value.int 0 0, Value.ref 166, Value.int 46 0, Value.int 0 0, Value.ref 173, Value.int 48 0, Value.int 0 0, Value.ref 180, Value.int 52 0, Value.int 0 0, Value.ref 187, Value.int 66 0, Value.int 0 0, Value.ref 194, Value.int 77 0, Value.int 0 0, Value.ref 201, Value.int 85 0, Value.int 0 0, Value.ref 208, Value.int 98 0, Value.int 0 0, Value.ref 215, Value.int 113 0, Value.int 0 0, Value.ref 222, Value.int 116 0, Value.int 0 0, Value.ref 229, Value.int 120 0, Value.int 0 0, Value.ref 236, Value.int 122 0, Value.int 0 0, Value.ref 243, Value.int 124 0, Value.int 0 0, Value.ref 250, Value.int 128 0, Value.int 0 0, Value.ref 257, Value.int 131 0, Value.int 0 0, Value.ref 264, Value.int 137 0, Value.int 0 0, Value.ref 271, Value.int 139 0, Value.int 0 0, Value.ref 278, Value.int 143 0, Value.int 0 0, Value.ref 285, Value.int 146 0, Value.int 0 0, Value.ref 292, Value.int 155 0, Value.int 0 0, Value.ref 299, Value.int 159 0, Value.int 0 0, Value.ref 306, Value.int 171 0, Value.int 0 0, Value.ref 313] }
def hob257 : Params → Obj := fun _ => { cls := Value.type "tuple", data := Data.seq #[Value.str (Str.ofString "low") 435, Value.str (Str.ofString "high") 436, Value.str (Str.ofString "most") 437, Value.str (Str.ofString "found") 438] }
def hob335 : Params → Obj := fun _ => { cls := Value.none, data := Data.fields #[] }
def hob128 : Params → Obj := fun _ => { cls := Value.type "builtin_function_or_method", data := Data.fields #[Value.builtin "type.__prepare__", Value.type "type"] }
def hob348 : Params → Obj := fun _ => { cls := Value.type "tuple", data := Data.seq #[] }
def hob279 : Params → Obj := fun _ => { cls := Value.type "tuple", data := Data.seq #[] }
def hob240 : Params → Obj := fun _ => { cls := Value.type "function", data := Data.func { name := Str.ofString "fitting", qualname := Str.ofString "fitting", params := hfp 20, body := FuncBody.stmts (hfb 20), scope := hfs 20, globals := 3, closure := [], defaults := Value.none, kwdefaults := Value.none, pyModule := Value.str (Str.ofString "nearfrac.near") 364, code := Value.ref 180 } }
def hob185 : Params → Obj := fun _ => { cls := Value.type "tuple", data := Data.seq #[Value.str (Str.ofString "upper") 341, Value.str (Str.ofString "lower") 342, Value.str (Str.ofString "many") 343] }
def hob250 : Params → Obj := fun _ => { cls := Value.type "tuple", data := Data.seq #[Value.str (Str.ofString "target") 423, Value.str (Str.ofString "most") 424, Value.str (Str.ofString "low") 425, Value.str (Str.ofString "high") 426, Value.str (Str.ofString "below") 427, Value.str (Str.ofString "above") 428] }
def hob133 : Params → Obj := fun _ => { cls := Value.type "frame", slots := #[some (Value.ref 81), some (Value.ref 3), some (Value.ref 78), none, some (Value.str (Str.ofString "nearfrac.errors") 187), none, some (Value.ref 0)] }
def hob45 : Params → Obj := fun _ => { cls := Value.type "code", data := Data.fields #[Value.str (Str.ofString "<module>") 182, Value.str (Str.ofString "<module>") 183, Value.str (Str.ofString "/claim/cut.py") 184, Value.int 1 0, Value.int 0 0, Value.int 0 0, Value.int 0 0, Value.int 0 0, Value.ref 11, Value.bool false, Value.int 181 0, Value.ref 12, Value.none, Value.none, Value.none, Value.none, Value.int 185 0, Value.int 1 0, Value.str (Str.ofString "/claim/cut.py") 186] }
def hob203 : Params → Obj := fun _ => { cls := Value.type "function", data := Data.func { name := Str.ofString "apart", qualname := Str.ofString "apart", params := hfp 14, body := FuncBody.stmts (hfb 14), scope := hfs 14, globals := 3, closure := [], defaults := Value.none, kwdefaults := Value.none, pyModule := Value.str (Str.ofString "nearfrac.fracs") 319, code := Value.ref 145 } }
def hob334 : Params → Obj := fun _ => { cls := Value.type "tuple", data := Data.seq #[] }
def hob292 : Params → Obj := fun _ => { cls := Value.type "tuple", data := Data.seq #[] }
def hob168 : Params → Obj := fun _ => { cls := Value.type "builtin_function_or_method", data := Data.fields #[Value.builtin "object.__init_subclass__", Value.ref 109] }
def hob170 : Params → Obj := fun _ => { cls := Value.none, data := Data.fields #[] }
def hob90 : Params → Obj := fun P => { cls := Value.type "dict", data := Data.dict #[{ hash := PyData.keyHash P (Str.ofString "__module__"), key := Value.str (Str.ofString "__module__") 230, val := Value.str (Str.ofString "nearfrac.errors") 187 }, { hash := PyData.keyHash P (Str.ofString "__firstlineno__"), key := Value.str (Str.ofString "__firstlineno__") 234, val := Value.int 6 233 }, { hash := PyData.keyHash P (Str.ofString "__static_attributes__"), key := Value.str (Str.ofString "__static_attributes__") 235, val := Value.ref 47 }, { hash := PyData.keyHash P (Str.ofString "__doc__"), key := Value.str (Str.ofString "__doc__") 236, val := Value.none }] 2 }
def hob261 : Params → Obj := fun _ => { cls := Value.type "function", data := Data.func { name := Str.ofString "sure", qualname := Str.ofString "sure", params := hfp 23, body := FuncBody.stmts (hfb 23), scope := hfs 23, globals := 3, closure := [], defaults := Value.none, kwdefaults := Value.none, pyModule := Value.str (Str.ofString "nearfrac.near") 364, code := Value.ref 201 } }
def hob272 : Params → Obj := fun _ => { cls := Value.type "tuple", data := Data.seq #[] }
def hob238 : Params → Obj := fun _ => { cls := Value.none, data := Data.func { name := Str.ofString "fitting", qualname := Str.ofString "fitting", params := hfp 20, body := FuncBody.stmts (hfb 20), scope := hfs 20, globals := 0, closure := [], defaults := Value.none, kwdefaults := Value.none } }
def hob384 : Params → Obj := fun _ => { cls := Value.type "function", data := Data.func { name := Str.ofString "_law_as_nearest", qualname := Str.ofString "_law_as_nearest", params := hfp 42, body := FuncBody.stmts (hfb 42), scope := hfs 42, globals := 3, closure := [], defaults := Value.none, kwdefaults := Value.none, pyModule := Value.str (Str.ofString "law_uf050018_14") 474, code := Value.ref 320 } }
def hob195 : Params → Obj := fun _ => { cls := Value.type "code", data := Data.fields #[Value.str (Str.ofString "less") 347, Value.str (Str.ofString "less") 348, Value.str (Str.ofString "/claim/cut.py") 349, Value.int 32 0, Value.int 2 0, Value.int 0 0, Value.int 0 0, Value.int 3 0, Value.ref 133, Value.bool true, Value.int 181 0, Value.ref 134, Value.none, Value.ref 135, Value.ref 136, Value.ref 137, Value.int 352 0, Value.int 32 0, Value.str (Str.ofString "/claim/cut.py") 353] }
def hob121 : Params → Obj := fun _ => { cls := Value.type "type", data := Data.cls { name := Str.ofString "NoRoom", bases := [Value.ref 24], mro := [Value.ref 73, Value.ref 24, Value.type "ValueError", Value.type "Exception", Value.type "BaseException", Value.type "object"], ns := 72, qualname := Str.ofString "NoRoom" }, slots := #[some (Value.ref 64), none, some (Value.str (Str.ofString "NoRoom") 255), some (Value.str (Str.ofString "NoRoom") 263), some (Value.builtin "ValueError.__new__"), some (Value.bool true)] }
def hob325 : Params → Obj := fun _ => { cls := Value.type "code", data := Data.fields #[Value.str (Str.ofString "_law_is_frac") 517, Value.str (Str.ofString "_law_is_frac") 518, Value.str (Str.ofString "/claim/cut.py") 519, Value.int 131 0, Value.int 1 0, Value.int 0 0, Value.int 0 0, Value.int 3 0, Value.ref 259, Value.bool true, Value.int 181 0, Value.ref 260, Value.none, Value.ref 261, Value.ref 262, Value.ref 263, Value.int 521 0, Value.int 131 0, Value.str (Str.ofString "/claim/cut.py") 522] }
def hob116 : Params → Obj := fun _ => { cls := Value.none, data := Data.fields #[] }
def hob118 : Params → Obj := fun _ => { cls := Value.type "frame", slots := #[some (Value.ref 69), some (Value.ref 3), some (Value.ref 66), none, some (Value.str (Str.ofString "nearfrac.errors") 187), none, some (Value.ref 0)] }
def hob267 : Params → Obj := fun _ => { cls := Value.type "code", data := Data.fields #[Value.str (Str.ofString "walked") 444, Value.str (Str.ofString "walked") 445, Value.str (Str.ofString "/claim/cut.py") 446, Value.int 85 0, Value.int 1 0, Value.int 0 0, Value.int 0 0, Value.int 3 0, Value.ref 203, Value.bool true, Value.int 181 0, Value.ref 204, Value.none, Value.ref 205, Value.ref 206, Value.ref 207, Value.int 453 0, Value.int 85 0, Value.str (Str.ofString "/claim/cut.py") 454] }
def hob360 : Params → Obj := fun _ => { cls := Value.type "code", data := Data.fields #[Value.str (Str.ofString "_law_alone") 565, Value.str (Str.ofString "_law_alone") 566, Value.str (Str.ofString "/claim/cut.py") 567, Value.int 155 0, Value.int 1 0, Value.int 0 0, Value.int 0 0, Value.int 3 0, Value.ref 294, Value.bool true, Value.int 181 0, Value.ref 295, Value.none, Value.ref 296, Value.ref 297, Value.ref 298, Value.int 570 0, Value.int 155 0, Value.str (Str.ofString "/claim/cut.py") 571] }
def hob319 : Params → Obj := fun _ => { cls := Value.type "function", data := Data.func { name := Str.ofString "_law_frac", qualname := Str.ofString "_law_frac", params := hfp 33, body := FuncBody.stmts (hfb 33), scope := hfs 33, globals := 3, closure := [], defaults := Value.none, kwdefaults := Value.none, pyModule := Value.str (Str.ofString "law_uf050018_14") 474, code := Value.ref 257 } }
def hob260 : Params → Obj := fun _ => { cls := Value.type "code", data := Data.fields #[Value.str (Str.ofString "sure") 432, Value.str (Str.ofString "sure") 433, Value.str (Str.ofString "/claim/cut.py") 434, Value.int 77 0, Value.int 3 0, Value.int 0 0, Value.int 0 0, Value.int 3 0, Value.ref 196, Value.bool true, Value.int 181 0, Value.ref 197, Value.none, Value.ref 198, Value.ref 199, Value.ref 200, Value.int 439 0, Value.int 77 0, Value.str (Str.ofString "/claim/cut.py") 440] }
def hob200 : Params → Obj := fun _ => { cls := Value.type "tuple", data := Data.seq #[] }
def hob382 : Params → Obj := fun _ => { cls := Value.none, data := Data.func { name := Str.ofString "_law_as_nearest", qualname := Str.ofString "_law_as_nearest", params := hfp 42, body := FuncBody.stmts (hfb 42), scope := hfs 42, globals := 0, closure := [], defaults := Value.none, kwdefaults := Value.none } }
def hob179 : Params → Obj := fun _ => { cls := Value.type "tuple", data := Data.seq #[] }
def hob359 : Params → Obj := fun _ => { cls := Value.none, data := Data.func { name := Str.ofString "_law_alone", qualname := Str.ofString "_law_alone", params := hfp 39, body := FuncBody.stmts (hfb 39), scope := hfs 39, globals := 0, closure := [], defaults := Value.none, kwdefaults := Value.none } }
def hob108 : Params → Obj := fun _ => { cls := Value.type "builtin_function_or_method", data := Data.fields #[Value.builtin "object.__init_subclass__", Value.ref 61] }
def hob345 : Params → Obj := fun _ => { cls := Value.none, data := Data.func { name := Str.ofString "_law_no_room", qualname := Str.ofString "_law_no_room", params := hfp 37, body := FuncBody.stmts (hfb 37), scope := hfs 37, globals := 0, closure := [], defaults := Value.none, kwdefaults := Value.none } }
def hob299 : Params → Obj := fun _ => { cls := Value.type "tuple", data := Data.seq #[] }
def hob387 : Params → Obj := fun _ => { cls := Value.type "tuple", data := Data.seq #[Value.str (Str.ofString "_law_low") 610, Value.str (Str.ofString "_law_high") 611, Value.str (Str.ofString "_law_most") 612, Value.str (Str.ofString "_law_script") 613, Value.str (Str.ofString "_law_due") 614, Value.str (Str.ofString "_law_found") 615, Value.str (Str.ofString "_law_one") 616, Value.str (Str.ofString "_law_two") 617, Value.str (Str.ofString "_law_within") 618] }
def hob290 : Params → Obj := fun P => { cls := Value.type "dict", data := Data.dict #[{ hash := PyData.keyHash P (Str.ofString "__name__"), key := Value.str (Str.ofString "__name__") 165, val := Value.str (Str.ofString "law_uf050018_14") 474 }, { hash := PyData.keyHash P (Str.ofString "__doc__"), key := Value.str (Str.ofString "__doc__") 166, val := Value.none }, { hash := PyData.keyHash P (Str.ofString "__package__"), key := Value.str (Str.ofString "__package__") 167, val := Value.none }, { hash := PyData.keyHash P (Str.ofString "__loader__"), key := Value.str (Str.ofString "__loader__") 168, val := Value.builtin "__main__.__loader__#opaque" }, { hash := PyData.keyHash P (Str.ofString "__spec__"), key := Value.str (Str.ofString "__spec__") 169, val := Value.none }, { hash := PyData.keyHash P (Str.ofString "__annotations__"), key := Value.str (Str.ofString "__annotations__") 170, val := Value.ref 6 }, { hash := PyData.keyHash P (Str.ofString "__builtins__"), key := Value.str (Str.ofString "__builtins__") 171, val := Value.ref 4 }, { hash := PyData.keyHash P (Str.ofString "__file__"), key := Value.str (Str.ofString "__file__") 173, val := Value.str (Str.ofString "/claim/cut.py") 172 }, { hash := PyData.keyHash P (Str.ofString "__cached__"), key := Value.str (Str.ofString "__cached__") 174, val := Value.none }, { hash := PyData.keyHash P (Str.ofString "FractionError"), key := Value.str (Str.ofString "FractionError") 206, val := Value.ref 24 }, { hash := PyData.keyHash P (Str.ofString "NoFraction"), key := Value.str (Str.ofString "NoFraction") 222, val := Value.ref 37 }, { hash := PyData.keyHash P (Str.ofString "NoPath"), key := Value.str (Str.ofString "NoPath") 238, val := Value.ref 49 }, { hash := PyData.keyHash P (Str.ofString "NoBounds"), key := Value.str (Str.ofString "NoBounds") 254, val := Value.ref 61 }, { hash := PyData.keyHash P (Str.ofString "NoRoom"), key := Value.str (Str.ofString "NoRoom") 270, val := Value.ref 73 }, { hash := PyData.keyHash P (Str.ofString "Unsure"), key := Value.str (Str.ofString "Unsure") 286, val := Value.ref 85 }, { hash := PyData.keyHash P (Str.ofString "NoText"), key := Value.str (Str.ofString "NoText") 302, val := Value.ref 97 }, { hash := PyData.keyHash P (Str.ofString "NoNumber"), key := Value.str (Str.ofString "NoNumber") 318, val := Value.ref 109 }, { hash := PyData.keyHash P (Str.ofString "is_whole"), key := Value.str (Str.ofString "is_whole") 328, val := Value.ref 118 }, { hash := PyData.keyHash P (Str.ofString "divisor"), key := Value.str (Str.ofString "divisor") 337, val := Value.ref 125 }, { hash := PyData.keyHash P (Str.ofString "lowest"), key := Value.str (Str.ofString "lowest") 346, val := Value.ref 132 }, { hash := PyData.keyHash P (Str.ofString "less"), key := Value.str (Str.ofString "less") 354, val := Value.ref 139 }, { hash := PyData.keyHash P (Str.ofString "apart"), key := Value.str (Str.ofString "apart") 363, val := Value.ref 146 }, { hash := PyData.keyHash P (Str.ofString "need_room"), key := Value.str (Str.ofString "need_room") 372, val := Value.ref 153 }, { hash := PyData.keyHash P (Str.ofString "need_bounds"), key := Value.str (Str.ofString "need_bounds") 380, val := Value.ref 160 }, { hash := PyData.keyHash P (Str.ofString "gap"), key := Value.str (Str.ofString "gap") 388, val := Value.ref 167 }, { hash := PyData.keyHash P (Str.ofString "stepped"), key := Value.str (Str.ofString "stepped") 397, val := Value.ref 174 }, { hash := PyData.keyHash P (Str.ofString "fitting"), key := Value.str (Str.ofString "fitting") 407, val := Value.ref 181 }, { hash := PyData.keyHash P (Str.ofString "around"), key := Value.str (Str.ofString "around") 419, val := Value.ref 188 }, { hash := PyData.keyHash P (Str.ofString "nearest"), key := Value.str (Str.ofString "nearest") 431, val := Value.ref 195 }, { hash := PyData.keyHash P (Str.ofString "sure"), key := Value.str (Str.ofString "sure") 441, val := Value.ref 202 }, { hash := PyData.keyHash P (Str.ofString "walked"), key := Value.str (Str.ofString "walked") 455, val := Value.ref 209 }, { hash := PyData.keyHash P (Str.ofString "path_of"), key := Value.str (Str.ofString "path_of") 466, val := Value.ref 216 }, { hash := PyData.keyHash P (Str.ofString "sides"), key := Value.str (Str.ofString "sides") 473, val := Value.ref 223 }, { hash := PyData.keyHash P (Str.ofString "_law_cell_at"), key := Value.str (Str.ofString "_law_cell_at") 483, val := Value.ref 230 }, { hash := PyData.keyHash P (Str.ofString "_law_way"), key := Value.str (Str.ofString "_law_way") 492, val := Value.ref 237 }, { hash := PyData.keyHash P (Str.ofString "_law_whole"), key := Value.str (Str.ofString "_law_whole") 499, val := Value.ref 244 }, { hash := PyData.keyHash P (Str.ofString "_law_shared"), key := Value.str (Str.ofString "_law_shared") 507, val := Value.ref 251 }, { hash := PyData.keyHash P (Str.ofString "_law_frac"), key := Value.str (Str.ofString "_law_frac") 516, val := Value.ref 258 }, { hash := PyData.keyHash P (Str.ofString "_law_is_frac"), key := Value.str (Str.ofString "_law_is_frac") 523, val := Value.ref 265 }, { hash := PyData.keyHash P (Str.ofString "_law_number"), key := Value.str (Str.ofString "_law_number") 531, val := Value.ref 272 }, { hash := PyData.keyHash P (Str.ofString "_law_drawn"), key := Value.str (Str.ofString "_law_drawn") 542, val := Value.ref 279 }, { hash := PyData.keyHash P (Str.ofString "_law_no_room"), key := Value.str (Str.ofString "_law_no_room") 551, val := Value.ref 286 }, { hash := PyData.keyHash P (Str.ofString "_law_found_by"), key := Value.str (Str.ofString "_law_found_by") 564, val := Value.ref 293 }, { hash := PyData.keyHash P (Str.ofString "_law_alone"), key := Value.str (Str.ofString "_law_alone") 572, val := Value.ref 300 }, { hash := PyData.keyHash P (Str.ofString "_law_pair_by"), key := Value.str (Str.ofString "_law_pair_by") 586, val := Value.ref 307 }, { hash := PyData.keyHash P (Str.ofString "_law_refusal"), key := Value.str (Str.ofString "_law_refusal") 596, val := Value.ref 314 }] 46 }
def hob296 : Params → Obj := fun _ => { cls := Value.none, data := Data.func { name := Str.ofString "_law_way", qualname := Str.ofString "_law_way", params := hfp 30, body := FuncBody.stmts (hfb 30), scope := hfs 30, globals := 0, closure := [], defaults := Value.none, kwdefaults := Value.none } }
def hob396 : Params → Obj := fun _ => { cls := Value.none, data := Data.func { name := Str.ofString "law", qualname := Str.ofString "law", params := hfp 44, body := FuncBody.stmts (hfb 44), scope := hfs 44, globals := 0, closure := [], defaults := Value.none, kwdefaults := Value.none } }
def hob380 : Params → Obj := fun _ => { cls := Value.type "tuple", data := Data.seq #[Value.str (Str.ofString "_law_low") 600, Value.str (Str.ofString "_law_high") 601, Value.str (Str.ofString "_law_most") 602, Value.str (Str.ofString "_law_due") 603] }
def hob149 : Params → Obj := fun _ => { cls := Value.type "tuple", data := Data.seq #[] }
def hob213 : Params → Obj := fun _ => { cls := Value.type "tuple", data := Data.seq #[] }
def hob193 : Params → Obj := fun _ => { cls := Value.type "tuple", data := Data.seq #[] }
def hob111 : Params → Obj := fun _ => { cls := Value.type "type", data := Data.cls { name := Str.ofString "FractionError", bases := [Value.type "ValueError"], mro := [Value.ref 24, Value.type "ValueError", Value.type "Exception", Value.type "BaseException", Value.type "object"], ns := 23, qualname := Str.ofString "FractionError", subclasses := [Value.ref 37, Value.ref 49, Value.ref 61, Value.ref 73] }, slots := #[some (Value.ref 15), none, some (Value.str (Str.ofString "FractionError") 189), some (Value.str (Str.ofString "FractionError") 197), some (Value.builtin "ValueError.__new__"), some (Value.bool true)] }
def hob160 : Params → Obj := fun _ => { cls := Value.type "tuple", data := Data.seq #[] }
def hob228 : Params → Obj := fun _ => { cls := Value.none, data := Data.fields #[] }
def hob329 : Params → Obj := fun _ => { cls := Value.type "tuple", data := Data.seq #[Value.str (Str.ofString "_law_cell") 527, Value.str (Str.ofString "_law_way_here") 528] }
def hob188 : Params → Obj := fun _ => { cls := Value.type "code", data := Data.fields #[Value.str (Str.ofString "lowest") 338, Value.str (Str.ofString "lowest") 339, Value.str (Str.ofString "/claim/cut.py") 340, Value.int 27 0, Value.int 2 0, Value.int 0 0, Value.int 0 0, Value.int 3 0, Value.ref 126, Value.bool true, Value.int 181 0, Value.ref 127, Value.none, Value.ref 128, Value.ref 129, Value.ref 130, Value.int 344 0, Value.int 27 0, Value.str (Str.ofString "/claim/cut.py") 345] }
def hob248 : Params → Obj := fun _ => { cls := Value.type "tuple", data := Data.seq #[] }
def hob227 : Params → Obj := fun _ => { cls := Value.type "tuple", data := Data.seq #[] }
def hob236 : Params → Obj := fun _ => { cls := Value.type "tuple", data := Data.seq #[Value.str (Str.ofString "most") 401, Value.str (Str.ofString "pair") 402, Value.str (Str.ofString "by") 403, Value.str (Str.ofString "many") 404] }
def hob353 : Params → Obj := fun _ => { cls := Value.type "code", data := Data.fields #[Value.str (Str.ofString "_law_found_by") 552, Value.str (Str.ofString "_law_found_by") 553, Value.str (Str.ofString "/claim/cut.py") 554, Value.int 146 0, Value.int 2 0, Value.int 0 0, Value.int 0 0, Value.int 3 0, Value.ref 287, Value.bool true, Value.int 181 0, Value.ref 288, Value.none, Value.ref 289, Value.ref 290, Value.ref 291, Value.int 562 0, Value.int 146 0, Value.str (Str.ofString "/claim/cut.py") 563] }
def hob189 : Params → Obj := fun _ => { cls := Value.type "function", data := Data.func { name := Str.ofString "lowest", qualname := Str.ofString "lowest", params := hfp 12, body := FuncBody.stmts (hfb 12), scope := hfs 12, globals := 3, closure := [], defaults := Value.none, kwdefaults := Value.none, pyModule := Value.str (Str.ofString "nearfrac.fracs") 319, code := Value.ref 131 } }
def hob163 : Params → Obj := fun _ => { cls := Value.type "frame", slots := #[some (Value.ref 105), some (Value.ref 3), some (Value.ref 102), none, some (Value.str (Str.ofString "nearfrac.errors") 187), none, some (Value.ref 0)] }
def hob314 : Params → Obj := fun _ => { cls := Value.none, data := Data.fields #[] }
def hob156 : Params → Obj := fun _ => { cls := Value.type "type", data := Data.cls { name := Str.ofString "FractionError", bases := [Value.type "ValueError"], mro := [Value.ref 24, Value.type "ValueError", Value.type "Exception", Value.type "BaseException", Value.type "object"], ns := 23, qualname := Str.ofString "FractionError", subclasses := [Value.ref 37, Value.ref 49, Value.ref 61, Value.ref 73, Value.ref 85, Value.ref 97, Value.ref 109] }, slots := #[some (Value.ref 15), none, some (Value.str (Str.ofString "FractionError") 189), some (Value.str (Str.ofString "FractionError") 197), some (Value.builtin "ValueError.__new__"), some (Value.bool true)] }
def hob191 : Params → Obj := fun _ => { cls := Value.none, data := Data.fields #[] }
def hob357 : Params → Obj := fun _ => { cls := Value.type "tuple", data := Data.seq #[Value.str (Str.ofString "_law_e") 568, Value.str (Str.ofString "_law_kinds") 569] }
def hob98 : Params → Obj := fun _ => { cls := Value.type "builtin_function_or_method", data := Data.fields #[Value.builtin "type.__prepare__", Value.type "type"] }
def hob95 : Params → Obj := fun _ => { cls := Value.none, data := Data.fields #[Value.int 2 0, Value.int 0 0, Value.ref 20, Value.int 4 0, Value.int 0 0, Value.ref 33, Value.int 6 0, Value.int 0 0, Value.ref 45, Value.int 8 0, Value.int 0 0, Value.ref 57] }
def hob135 : Params → Obj := fun P => { cls := Value.type "dict", data := Data.dict #[{ hash := PyData.keyHash P (Str.ofString "__module__"), key := Value.str (Str.ofString "__module__") 278, val := Value.str (Str.ofString "nearfrac.errors") 187 }, { hash := PyData.keyHash P (Str.ofString "__firstlineno__"), key := Value.str (Str.ofString "__firstlineno__") 282, val := Value.int 12 281 }, { hash := PyData.keyHash P (Str.ofString "__static_attributes__"), key := Value.str (Str.ofString "__static_attributes__") 283, val := Value.ref 83 }, { hash := PyData.keyHash P (Str.ofString "__doc__"), key := Value.str (Str.ofString "__doc__") 284, val := Value.none }] 2 }
def hob79 : Params → Obj := fun P => { cls := Value.type "dict", data := Data.dict #[{ hash := PyData.keyHash P (Str.ofString "__name__"), key := Value.str (Str.ofString "__name__") 165, val := Value.str (Str.ofString "nearfrac.errors") 187 }, { hash := PyData.keyHash P (Str.ofString "__doc__"), key := Value.str (Str.ofString "__doc__") 166, val := Value.none }, { hash := PyData.keyHash P (Str.ofString "__package__"), key := Value.str (Str.ofString "__package__") 167, val := Value.none }, { hash := PyData.keyHash P (Str.ofString "__loader__"), key := Value.str (Str.ofString "__loader__") 168, val := Value.builtin "__main__.__loader__#opaque" }, { hash := PyData.keyHash P (Str.ofString "__spec__"), key := Value.str (Str.ofString "__spec__") 169, val := Value.none }, { hash := PyData.keyHash P (Str.ofString "__annotations__"), key := Value.str (Str.ofString "__annotations__") 170, val := Value.ref 6 }, { hash := PyData.keyHash P (Str.ofString "__builtins__"), key := Value.str (Str.ofString "__builtins__") 171, val := Value.ref 4 }, { hash := PyData.keyHash P (Str.ofString "__file__"), key := Value.str (Str.ofString "__file__") 173, val := Value.str (Str.ofString "/claim/cut.py") 172 }, { hash := PyData.keyHash P (Str.ofString "__cached__"), key := Value.str (Str.ofString "__cached__") 174, val := Value.none }, { hash := PyData.keyHash P (Str.ofString "FractionError"), key := Value.str (Str.ofString "FractionError") 206, val := Value.ref 24 }, { hash := PyData.keyHash P (Str.ofString "NoFraction"), key := Value.str (Str.ofString "NoFraction") 222, val := Value.ref 37 }, { hash := PyData.keyHash P (Str.ofString "NoPath"), key := Value.str (Str.ofString "NoPath") 238, val := Value.ref 49 }] 12 }
def hob231 : Params → Obj := fun _ => { cls := Value.none, data := Data.func { name := Str.ofString "stepped", qualname := Str.ofString "stepped", params := hfp 19, body := FuncBody.stmts (hfb 19), scope := hfs 19, globals := 0, closure := [], defaults := Value.none, kwdefaults := Value.none } }
def hob74 : Params → Obj := fun _ => { cls := Value.type "tuple", data := Data.seq #[] }
def hob273 : Params → Obj := fun _ => { cls := Value.none, data := Data.func { name := Str.ofString "path_of", qualname := Str.ofString "path_of", params := hfp 26, body := FuncBody.stmts (hfb 26), scope := hfs 26, globals := 0, closure := [], defaults := Value.none, kwdefaults := Value.none } }
def hob331 : Params → Obj := fun _ => { cls := Value.none, data := Data.func { name := Str.ofString "_law_number", qualname := Str.ofString "_law_number", params := hfp 35, body := FuncBody.stmts (hfb 35), scope := hfs 35, globals := 0, closure := [], defaults := Value.none, kwdefaults := Value.none } }
def hob363 : Params → Obj := fun _ => { cls := Value.none, data := Data.fields #[] }
def hob229 : Params → Obj := fun _ => { cls := Value.type "tuple", data := Data.seq #[Value.str (Str.ofString "pair") 392, Value.str (Str.ofString "by") 393, Value.str (Str.ofString "many") 394] }
def hob336 : Params → Obj := fun _ => { cls := Value.type "tuple", data := Data.seq #[Value.str (Str.ofString "_law_script") 535, Value.str (Str.ofString "_law_first") 536, Value.str (Str.ofString "_law_way_here") 537, Value.str (Str.ofString "_law_upper") 538, Value.str (Str.ofString "_law_lower") 539] }
def hob216 : Params → Obj := fun _ => { cls := Value.type "tuple", data := Data.seq #[] }
def hob395 : Params → Obj := fun _ => { cls := Value.type "tuple", data := Data.seq #[] }
def hob310 : Params → Obj := fun _ => { cls := Value.none, data := Data.func { name := Str.ofString "_law_shared", qualname := Str.ofString "_law_shared", params := hfp 32, body := FuncBody.stmts (hfb 32), scope := hfs 32, globals := 0, closure := [], defaults := Value.none, kwdefaults := Value.none } }
def hob124 : Params → Obj := fun P => { cls := Value.type "dict", data := Data.dict #[{ hash := PyData.keyHash P (Str.ofString "__name__"), key := Value.str (Str.ofString "__name__") 165, val := Value.str (Str.ofString "nearfrac.errors") 187 }, { hash := PyData.keyHash P (Str.ofString "__doc__"), key := Value.str (Str.ofString "__doc__") 166, val := Value.none }, { hash := PyData.keyHash P (Str.ofString "__package__"), key := Value.str (Str.ofString "__package__") 167, val := Value.none }, { hash := PyData.keyHash P (Str.ofString "__loader__"), key := Value.str (Str.ofString "__loader__") 168, val := Value.builtin "__main__.__loader__#opaque" }, { hash := PyData.keyHash P (Str.ofString "__spec__"), key := Value.str (Str.ofString "__spec__") 169, val := Value.none }, { hash := PyData.keyHash P (Str.ofString "__annotations__"), key := Value.str (Str.ofString "__annotations__") 170, val := Value.ref 6 }, { hash := PyData.keyHash P (Str.ofString "__builtins__"), key := Value.str (Str.ofString "__builtins__") 171, val := Value.ref 4 }, { hash := PyData.keyHash P (Str.ofString "__file__"), key := Value.str (Str.ofString "__file__") 173, val := Value.str (Str.ofString "/claim/cut.py") 172 }, { hash := PyData.keyHash P (Str.ofString "__cached__"), key := Value.str (Str.ofString "__cached__") 174, val := Value.none }, { hash := PyData.keyHash P (Str.ofString "FractionError"), key := Value.str (Str.ofString "FractionError") 206, val := Value.ref 24 }, { hash := PyData.keyHash P (Str.ofString "NoFraction"), key := Value.str (Str.ofString "NoFraction") 222, val := Value.ref 37 }, { hash := PyData.keyHash P (Str.ofString "NoPath"), key := Value.str (Str.ofString "NoPath") 238, val := Value.ref 49 }, { hash := PyData.keyHash P (Str.ofString "NoBounds"), key := Value.str (Str.ofString "NoBounds") 254, val := Value.ref 61 }, { hash := PyData.keyHash P (Str.ofString "NoRoom"), key := Value.str (Str.ofString "NoRoom") 270, val := Value.ref 73 }, { hash := PyData.keyHash P (Str.ofString "Unsure"), key := Value.str (Str.ofString "Unsure") 286, val := Value.ref 85 }] 15 }
def hob92 : Params → Obj := fun _ => { cls := Value.type "super", data := Data.fields #[Value.ref 49, Value.ref 49, Value.ref 49] }
def hob199 : Params → Obj := fun _ => { cls := Value.type "tuple", data := Data.seq #[Value.str (Str.ofString "one") 358, Value.str (Str.ofString "other") 359, Value.str (Str.ofString "gap") 360] }
def hob312 : Params → Obj := fun _ => { cls := Value.type "function", data := Data.func { name := Str.ofString "_law_shared", qualname := Str.ofString "_law_shared", params := hfp 32, body := FuncBody.stmts (hfb 32), scope := hfs 32, globals := 3, closure := [], defaults := Value.none, kwdefaults := Value.none, pyModule := Value.str (Str.ofString "law_uf050018_14") 474, code := Value.ref 250 } }
def hob217 : Params → Obj := fun _ => { cls := Value.none, data := Data.func { name := Str.ofString "need_bounds", qualname := Str.ofString "need_bounds", params := hfp 17, body := FuncBody.stmts (hfb 17), scope := hfs 17, globals := 0, closure := [], defaults := Value.none, kwdefaults := Value.none } }
def hob152 : Params → Obj := fun _ => { cls := Value.type "super", data := Data.fields #[Value.ref 97, Value.ref 97, Value.ref 97] }
def hob230 : Params → Obj := fun _ => { cls := Value.type "tuple", data := Data.seq #[] }
def hob171 : Params → Obj := fun _ => { cls := Value.type "tuple", data := Data.seq #[Value.str (Str.ofString "thing") 324, Value.str (Str.ofString "least") 325] }
def hob207 : Params → Obj := fun _ => { cls := Value.none, data := Data.fields #[] }
def hob233 : Params → Obj := fun _ => { cls := Value.type "function", data := Data.func { name := Str.ofString "stepped", qualname := Str.ofString "stepped", params := hfp 19, body := FuncBody.stmts (hfb 19), scope := hfs 19, globals := 3, closure := [], defaults := Value.none, kwdefaults := Value.none, pyModule := Value.str (Str.ofString "nearfrac.near") 364, code := Value.ref 173 } }
def hob241 : Params → Obj := fun _ => { cls := Value.type "tuple", data := Data.seq #[] }
def hob282 : Params → Obj := fun _ => { cls := Value.type "function", data := Data.func { name := Str.ofString "sides", qualname := Str.ofString "sides", params := hfp 27, body := FuncBody.stmts (hfb 27), scope := hfs 27, globals := 3, closure := [], defaults := Value.none, kwdefaults := Value.none, pyModule := Value.str (Str.ofString "nearfrac.tree") 442, code := Value.ref 222 } }
def hob386 : Params → Obj := fun _ => { cls := Value.none, data := Data.fields #[] }
def hob107 : Params → Obj := fun _ => { cls := Value.type "super", data := Data.fields #[Value.ref 61, Value.ref 61, Value.ref 61] }
def hob141 : Params → Obj := fun _ => { cls := Value.type "type", data := Data.cls { name := Str.ofString "FractionError", bases := [Value.type "ValueError"], mro := [Value.ref 24, Value.type "ValueError", Value.type "Exception", Value.type "BaseException", Value.type "object"], ns := 23, qualname := Str.ofString "FractionError", subclasses := [Value.ref 37, Value.ref 49, Value.ref 61, Value.ref 73, Value.ref 85, Value.ref 97] }, slots := #[some (Value.ref 15), none, some (Value.str (Str.ofString "FractionError") 189), some (Value.str (Str.ofString "FractionError") 197), some (Value.builtin "ValueError.__new__"), some (Value.bool true)] }
def hob147 : Params → Obj := fun _ => { cls := Value.type "code", data := Data.fields #[Value.str (Str.ofString "NoText") 289, Value.str (Str.ofString "NoText") 290, Value.str (Str.ofString "/claim/cut.py") 291, Value.int 14 0, Value.int 0 0, Value.int 0 0, Value.int 0 0, Value.int 0 0, Value.ref 91, Value.bool false, Value.int 181 0, Value.ref 92, Value.none, Value.none, Value.none, Value.none, Value.int 292 0, Value.int 14 0, Value.str (Str.ofString "/claim/cut.py") 293] }
def hob72 : Params → Obj := fun _ => { cls := Value.type "code", data := Data.fields #[Value.str (Str.ofString "NoFraction") 209, Value.str (Str.ofString "NoFraction") 210, Value.str (Str.ofString "/claim/cut.py") 211, Value.int 4 0, Value.int 0 0, Value.int 0 0, Value.int 0 0, Value.int 0 0, Value.ref 31, Value.bool false, Value.int 181 0, Value.ref 32, Value.none, Value.none, Value.none, Value.none, Value.int 212 0, Value.int 4 0, Value.str (Str.ofString "/claim/cut.py") 213] }
def hob93 : Params → Obj := fun _ => { cls := Value.type "builtin_function_or_method", data := Data.fields #[Value.builtin "object.__init_subclass__", Value.ref 49] }
def hob102 : Params → Obj := fun _ => { cls := Value.type "code", data := Data.fields #[Value.str (Str.ofString "NoBounds") 241, Value.str (Str.ofString "NoBounds") 242, Value.str (Str.ofString "/claim/cut.py") 243, Value.int 8 0, Value.int 0 0, Value.int 0 0, Value.int 0 0, Value.int 0 0, Value.ref 55, Value.bool false, Value.int 181 0, Value.ref 56, Value.none, Value.none, Value.none, Value.none, Value.int 244 0, Value.int 8 0, Value.str (Str.ofString "/claim/cut.py") 245] }
def hob247 : Params → Obj := fun _ => { cls := Value.type "function", data := Data.func { name := Str.ofString "around", qualname := Str.ofString "around", params := hfp 21, body := FuncBody.stmts (hfb 21), scope := hfs 21, globals := 3, closure := [], defaults := Value.none, kwdefaults := Value.none, pyModule := Value.str (Str.ofString "nearfrac.near") 364, code := Value.ref 187 } }
def hob366 : Params → Obj := fun _ => { cls := Value.none, data := Data.func { name := Str.ofString "_law_pair_by", qualname := Str.ofString "_law_pair_by", params := hfp 40, body := FuncBody.stmts (hfb 40), scope := hfs 40, globals := 0, closure := [], defaults := Value.none, kwdefaults := Value.none } }
def hob57 : Params → Obj := fun _ => { cls := Value.type "frame", slots := #[some (Value.ref 20), some (Value.ref 3), some (Value.ref 17), none, some (Value.str (Str.ofString "nearfrac.errors") 187), none, some (Value.ref 0)] }
def hob94 : Params → Obj := fun P => { cls := Value.type "dict", data := Data.dict #[{ hash := PyData.keyHash P (Str.ofString "__name__"), key := Value.str (Str.ofString "__name__") 165, val := Value.str (Str.ofString "nearfrac.errors") 187 }, { hash := PyData.keyHash P (Str.ofString "__doc__"), key := Value.str (Str.ofString "__doc__") 166, val := Value.none }, { hash := PyData.keyHash P (Str.ofString "__package__"), key := Value.str (Str.ofString "__package__") 167, val := Value.none }, { hash := PyData.keyHash P (Str.ofString "__loader__"), key := Value.str (Str.ofString "__loader__") 168, val := Value.builtin "__main__.__loader__#opaque" }, { hash := PyData.keyHash P (Str.ofString "__spec__"), key := Value.str (Str.ofString "__spec__") 169, val := Value.none }, { hash := PyData.keyHash P (Str.ofString "__annotations__"), key := Value.str (Str.ofString "__annotations__") 170, val := Value.ref 6 }, { hash := PyData.keyHash P (Str.ofString "__builtins__"), key := Value.str (Str.ofString "__builtins__") 171, val := Value.ref 4 }, { hash := PyData.keyHash P (Str.ofString "__file__"), key := Value.str (Str.ofString "__file__") 173, val := Value.str (Str.ofString "/claim/cut.py") 172 }, { hash := PyData.keyHash P (Str.ofString "__cached__"), key := Value.str (Str.ofString "__cached__") 174, val := Value.none }, { hash := PyData.keyHash P (Str.ofString "FractionError"), key := Value.str (Str.ofString "FractionError") 206, val := Value.ref 24 }, { hash := PyData.keyHash P (Str.ofString "NoFraction"), key := Value.str (Str.ofString "NoFraction") 222, val := Value.ref 37 }, { hash := PyData.keyHash P (Str.ofString "NoPath"), key := Value.str (Str.ofString "NoPath") 238, val := Value.ref 49 }, { hash := PyData.keyHash P (Str.ofString "NoBounds"), key := Value.str (Str.ofString "NoBounds") 254, val := Value.ref 61 }] 13 }
def hob194 : Params → Obj := fun _ => { cls := Value.none, data := Data.func { name := Str.ofString "less", qualname := Str.ofString "less", params := hfp 13, body := FuncBody.stmts (hfb 13), scope := hfs 13, globals := 0, closure := [], defaults := Value.none, kwdefaults := Value.none } }
def hob55 : Params → Obj := fun _ => { cls := Value.none, data := Data.fields #[] }
def hob144 : Params → Obj := fun P => { cls := Value.type "dict", data := Data.dict #[{ hash := PyData.keyHash P (Str.ofString "__module__"), key := Value.str (Str.ofString "__module__") 294, val := Value.str (Str.ofString "nearfrac.errors") 187 }, { hash := PyData.keyHash P (Str.ofString "__qualname__"), key := Value.str (Str.ofString "__qualname__") 296, val := Value.str (Str.ofString "NoText") 295 }, { hash := PyData.keyHash P (Str.ofString "__firstlineno__"), key := Value.str (Str.ofString "__firstlineno__") 298, val := Value.int 14 297 }, { hash := PyData.keyHash P (Str.ofString "__static_attributes__"), key := Value.str (Str.ofString "__static_attributes__") 299, val := Value.ref 95 }] 4 }
def hob58 : Params → Obj := fun _ => { cls := Value.type "tuple", data := Data.seq #[] }
def hob205 : Params → Obj := fun _ => { cls := Value.none, data := Data.fields #[Value.int 2 0, Value.int 0 0, Value.ref 20, Value.int 4 0, Value.int 0 0, Value.ref 33, Value.int 6 0, Value.int 0 0, Value.ref 45, Value.int 8 0, Value.int 0 0, Value.ref 57, Value.int 10 0, Value.int 0 0, Value.ref 69, Value.int 12 0, Value.int 0 0, Value.ref 81, Value.int 14 0, Value.int 0 0, Value.ref 93, Value.int 16 0, Value.int 0 0, Value.ref 105, Value.int 19 0, Value.int 0 0, Value.ref 117, Value.int 21 0, Value.int 0 0, Value.ref 124, Value.int 27 0, Value.int 0 0, Value.ref 131, Value.int 32 0, Value.int 0 0, Value.ref 138, Value.int 34 0, Value.int 0 0, Value.ref 145, Value.int 38 0, Value.int 0 0, Value.ref 152, Value.int 41 0, Value.int 0 0, Value.ref 159, Value.int 44 0, Value.int 0 0, Value.ref 166, Value.int 46 0, Value.int 0 0, Value.ref 173, Value.int 48 0, Value.int 0 0, Value.ref 180, Value.int 52 0, Value.int 0 0, Value.ref 187, Value.int 66 0, Value.int 0 0, Value.ref 194, Value.int 77 0, Value.int 0 0, Value.ref 201, Value.int 85 0, Value.int 0 0, Value.ref 208, Value.int 98 0, Value.int 0 0, Value.ref 215, Value.int 113 0, Value.int 0 0, Value.ref 222, Value.int 116 0, Value.int 0 0, Value.ref 229] }
def hob342 : Params → Obj := fun _ => { cls := Value.none, data := Data.fields #[] }
def hob373 : Params → Obj := fun _ => { cls := Value.none, data := Data.func { name := Str.ofString "_law_refusal", qualname := Str.ofString "_law_refusal", params := hfp 41, body := FuncBody.stmts (hfb 41), scope := hfs 41, globals := 0, closure := [], defaults := Value.none, kwdefaults := Value.none } }
def hob85 : Params → Obj := fun _ => { cls := Value.type "tuple", data := Data.seq #[] }
def hob259 : Params → Obj := fun _ => { cls := Value.none, data := Data.func { name := Str.ofString "sure", qualname := Str.ofString "sure", params := hfp 23, body := FuncBody.stmts (hfb 23), scope := hfs 23, globals := 0, closure := [], defaults := Value.none, kwdefaults := Value.none } }
def hob182 : Params → Obj := fun _ => { cls := Value.type "function", data := Data.func { name := Str.ofString "divisor", qualname := Str.ofString "divisor", params := hfp 11, body := FuncBody.stmts (hfb 11), scope := hfs 11, globals := 3, closure := [], defaults := Value.none, kwdefaults := Value.none, pyModule := Value.str (Str.ofString "nearfrac.fracs") 319, code := Value.ref 124 } }
def hob82 : Params → Obj := fun _ => { cls := Value.type "tuple", data := Data.seq #[Value.ref 24] }
def hob255 : Params → Obj := fun _ => { cls := Value.type "tuple", data := Data.seq #[] }
def hob181 : Params → Obj := fun _ => { cls := Value.type "code", data := Data.fields #[Value.str (Str.ofString "divisor") 329, Value.str (Str.ofString "divisor") 330, Value.str (Str.ofString "/claim/cut.py") 331, Value.int 21 0, Value.int 2 0, Value.int 0 0, Value.int 0 0, Value.int 3 0, Value.ref 119, Value.bool true, Value.int 181 0, Value.ref 120, Value.none, Value.ref 121, Value.ref 122, Value.ref 123, Value.int 335 0, Value.int 21 0, Value.str (Str.ofString "/claim/cut.py") 336] }
def hob78 : Params → Obj := fun _ => { cls := Value.type "builtin_function_or_method", data := Data.fields #[Value.builtin "object.__init_subclass__", Value.ref 37] }
def hob166 : Params → Obj := fun _ => { cls := Value.type "type", data := Data.cls { name := Str.ofString "NoNumber", bases := [Value.ref 24], mro := [Value.ref 109, Value.ref 24, Value.type "ValueError", Value.type "Exception", Value.type "BaseException", Value.type "object"], ns := 108, qualname := Str.ofString "NoNumber" }, slots := #[some (Value.ref 100), none, some (Value.str (Str.ofString "NoNumber") 303), some (Value.str (Str.ofString "NoNumber") 311), some (Value.builtin "ValueError.__new__"), some (Value.bool true)] }
def hob377 : Params → Obj := fun _ => { cls := Value.none, data := Data.fields #[Value.int 2 0, Value.int 0 0, Value.ref 20, Value.int 4 0, Value.int 0 0, Value.ref 33, Value.int 6 0, Value.int 0 0, Value.ref 45, Value.int 8 0, Value.int 0 0, Value.ref 57, Value.int 10 0, Value.int 0 0, Value.ref 69, Value.int 12 0, Value.int 0 0, Value.ref 81, Value.int 14 0, Value.int 0 0, Value.ref 93, Value.int 16 0, Value.int 0 0, Value.ref 105, Value.int 19 0, Value.int 0 0, Value.ref 117, Value.int 21 0, Value.int 0 0, Value.ref 124, Value.int 27 0, Value.int 0 0, Value.ref 131, Value.int 32 0, Value.int 0 0, Value.ref 138, Value.int 34 0, Value.int 0 0, Value.ref 145, Value.int 38 0, Value.int 0 0, Value.ref 152, Value.int 41 0, Value.int 0 0, Value.ref 159, Value.int 44 0, Value.int 0 0, Value.ref 166, Value.int 46 0, Value.int 0 0, Value.ref 173, Value.int 48 0, Value.int 0 0, Value.ref 180, Value.int 52 0, Value.int 0 0, Value.ref 187, Value.int 66 0, Value.int 0 0, Value.ref 194, Value.int 77 0, Value.int 0 0, Value.ref 201, Value.int 85 0, Value.int 0 0, Value.ref 208, Value.int 98 0, Value.int 0 0, Value.ref 215, Value.int 113 0, Value.int 0 0, Value.ref 222, Value.int 116 0, Value.int 0 0, Value.ref 229, Value.int 120 0, Value.int 0 0, Value.ref 236, Value.int 122 0, Value.int 0 0, Value.ref 243, Value.int 124 0, Value.int 0 0, Value.ref 250, Value.int 128 0, Value.int 0 0, Value.ref 257, Value.int 131 0, Value.int 0 0, Value.ref 264, Value.int 137 0, Value.int 0 0, Value.ref 271, Value.int 139 0, Value.int 0 0, Value.ref 278, Value.int 143 0, Value.int 0 0, Value.ref 285, Value.int 146 0, Value.int 0 0, Value.ref 292, Value.int 155 0, Value.int 0 0, Value.ref 299, Value.int 159 0, Value.int 0 0, Value.ref 306, Value.int 171 0, Value.int 0 0, Value.ref 313, Value.int 184 0, Value.int 0 0, Value.ref 320, Value.int 189 0, Value.int 0 0, Value.ref 327, Value.int 198 0, Value.int 0 0, Value.ref 334] }
def hob86 : Params → Obj := fun _ => { cls := Value.none, data := Data.fields #[] }
def hob63 : Params → Obj := fun _ => { cls := Value.type "builtin_function_or_method", data := Data.fields #[Value.builtin "object.__init_subclass__", Value.ref 24] }
def hob44 : Params → Obj := fun _ => { cls := Value.none, data := Data.fields #[] }
def hob109 : Params → Obj := fun P => { cls := Value.type "dict", data := Data.dict #[{ hash := PyData.keyHash P (Str.ofString "__name__"), key := Value.str (Str.ofString "__name__") 165, val := Value.str (Str.ofString "nearfrac.errors") 187 }, { hash := PyData.keyHash P (Str.ofString "__doc__"), key := Value.str (Str.ofString "__doc__") 166, val := Value.none }, { hash := PyData.keyHash P (Str.ofString "__package__"), key := Value.str (Str.ofString "__package__") 167, val := Value.none }, { hash := PyData.keyHash P (Str.ofString "__loader__"), key := Value.str (Str.ofString "__loader__") 168, val := Value.builtin "__main__.__loader__#opaque" }, { hash := PyData.keyHash P (Str.ofString "__spec__"), key := Value.str (Str.ofString "__spec__") 169, val := Value.none }, { hash := PyData.keyHash P (Str.ofString "__annotations__"), key := Value.str (Str.ofString "__annotations__") 170, val := Value.ref 6 }, { hash := PyData.keyHash P (Str.ofString "__builtins__"), key := Value.str (Str.ofString "__builtins__") 171, val := Value.ref 4 }, { hash := PyData.keyHash P (Str.ofString "__file__"), key := Value.str (Str.ofString "__file__") 173, val := Value.str (Str.ofString "/claim/cut.py") 172 }, { hash := PyData.keyHash P (Str.ofString "__cached__"), key := Value.str (Str.ofString "__cached__") 174, val := Value.none }, { hash := PyData.keyHash P (Str.ofString "FractionError"), key := Value.str (Str.ofString "FractionError") 206, val := Value.ref 24 }, { hash := PyData.keyHash P (Str.ofString "NoFraction"), key := Value.str (Str.ofString "NoFraction") 222, val := Value.ref 37 }, { hash := PyData.keyHash P (Str.ofString "NoPath"), key := Value.str (Str.ofString "NoPath") 238, val := Value.ref 49 }, { hash := PyData.keyHash P (Str.ofString "NoBounds"), key := Value.str (Str.ofString "NoBounds") 254, val := Value.ref 61 }, { hash := PyData.keyHash P (Str.ofString "NoRoom"), key := Value.str (Str.ofString "NoRoom") 270, val := Value.ref 73 }] 14 }
def hob313 : Params → Obj := fun _ => { cls := Value.type "tuple", data := Data.seq #[] }
def hob378 : Params → Obj := fun _ => { cls := Value.type "tuple", data := Data.seq #[] }
def hob142 : Params → Obj := fun _ => { cls := Value.type "tuple", data := Data.seq #[Value.ref 24] }
def hob59 : Params → Obj := fun P => { cls := Value.type "dict", data := Data.dict #[{ hash := PyData.keyHash P (Str.ofString "__module__"), key := Value.str (Str.ofString "__module__") 196, val := Value.str (Str.ofString "nearfrac.errors") 187 }, { hash := PyData.keyHash P (Str.ofString "__firstlineno__"), key := Value.str (Str.ofString "__firstlineno__") 200, val := Value.int 2 199 }, { hash := PyData.keyHash P (Str.ofString "__static_attributes__"), key := Value.str (Str.ofString "__static_attributes__") 201, val := Value.ref 22 }, { hash := PyData.keyHash P (Str.ofString "__weakref__"), key := Value.str (Str.ofString "__weakref__") 203, val := Value.ref 25 }, { hash := PyData.keyHash P (Str.ofString "__doc__"), key := Value.str (Str.ofString "__doc__") 204, val := Value.none }] 3 }
def hob190 : Params → Obj := fun _ => { cls := Value.type "tuple", data := Data.seq #[] }
def hob219 : Params → Obj := fun _ => { cls := Value.type "function", data := Data.func { name := Str.ofString "need_bounds", qualname := Str.ofString "need_bounds", params := hfp 17, body := FuncBody.stmts (hfb 17), scope := hfs 17, globals := 3, closure := [], defaults := Value.none, kwdefaults := Value.none, pyModule := Value.str (Str.ofString "nearfrac.near") 364, code := Value.ref 159 } }
def hob114 : Params → Obj := fun P => { cls := Value.type "dict", data := Data.dict #[{ hash := PyData.keyHash P (Str.ofString "__module__"), key := Value.str (Str.ofString "__module__") 262, val := Value.str (Str.ofString "nearfrac.errors") 187 }, { hash := PyData.keyHash P (Str.ofString "__qualname__"), key := Value.str (Str.ofString "__qualname__") 264, val := Value.str (Str.ofString "NoRoom") 263 }, { hash := PyData.keyHash P (Str.ofString "__firstlineno__"), key := Value.str (Str.ofString "__firstlineno__") 266, val := Value.int 10 265 }, { hash := PyData.keyHash P (Str.ofString "__static_attributes__"), key := Value.str (Str.ofString "__static_attributes__") 267, val := Value.ref 71 }] 4 }
def hob365 : Params → Obj := fun _ => { cls := Value.type "tuple", data := Data.seq #[] }
def hob350 : Params → Obj := fun _ => { cls := Value.type "tuple", data := Data.seq #[Value.str (Str.ofString "_law_target") 555, Value.str (Str.ofString "_law_most") 556, Value.str (Str.ofString "_law_best") 557, Value.str (Str.ofString "_law_lower") 558, Value.str (Str.ofString "_law_more") 559, Value.str (Str.ofString "_law_other") 560, Value.str (Str.ofString "_law_mine") 561] }
def hob136 : Params → Obj := fun _ => { cls := Value.type "type", data := Data.cls { name := Str.ofString "Unsure", bases := [Value.ref 24], mro := [Value.ref 85, Value.ref 24, Value.type "ValueError", Value.type "Exception", Value.type "BaseException", Value.type "object"], ns := 84, qualname := Str.ofString "Unsure" }, slots := #[some (Value.ref 76), none, some (Value.str (Str.ofString "Unsure") 271), some (Value.str (Str.ofString "Unsure") 279), some (Value.builtin "ValueError.__new__"), some (Value.bool true)] }
def hob277 : Params → Obj := fun _ => { cls := Value.none, data := Data.fields #[] }
def hob178 : Params → Obj := fun _ => { cls := Value.type "tuple", data := Data.seq #[Value.str (Str.ofString "one") 332, Value.str (Str.ofString "other") 333, Value.str (Str.ofString "rest") 334] }
def hob192 : Params → Obj := fun _ => { cls := Value.type "tuple", data := Data.seq #[Value.str (Str.ofString "one") 350, Value.str (Str.ofString "other") 351] }
def hob104 : Params → Obj := fun _ => { cls := Value.type "tuple", data := Data.seq #[] }
def hob177 : Params → Obj := fun _ => { cls := Value.none, data := Data.fields #[] }
def hob43 : Params → Obj := fun _ => { cls := Value.type "tuple", data := Data.seq #[] }
def hob281 : Params → Obj := fun _ => { cls := Value.type "code", data := Data.fields #[Value.str (Str.ofString "sides") 467, Value.str (Str.ofString "sides") 468, Value.str (Str.ofString "/claim/cut.py") 469, Value.int 113 0, Value.int 1 0, Value.int 0 0, Value.int 0 0, Value.int 3 0, Value.ref 217, Value.bool true, Value.int 181 0, Value.ref 218, Value.none, Value.ref 219, Value.ref 220, Value.ref 221, Value.int 471 0, Value.int 113 0, Value.str (Str.ofString "/claim/cut.py") 472] }
def hob220 : Params → Obj := fun _ => { cls := Value.type "tuple", data := Data.seq #[] }
def hob321 : Params → Obj := fun _ => { cls := Value.none, data := Data.fields #[] }
def hob372 : Params → Obj := fun _ => { cls := Value.type "tuple", data := Data.seq #[] }
def hob218 : Params → Obj := fun _ => { cls := Value.type "code", data := Data.fields #[Value.str (Str.ofString "need_bounds") 373, Value.str (Str.ofString "need_bounds") 374, Value.str (Str.ofString "/claim/cut.py") 375, Value.int 41 0, Value.int 2 0, Value.int 0 0, Value.int 0 0, Value.int 3 0, Value.ref 154, Value.bool true, Value.int 181 0, Value.ref 155, Value.none, Value.ref 156, Value.ref 157, Value.ref 158, Value.int 378 0, Value.int 41 0, Value.str (Str.ofString "/claim/cut.py") 379] }
def hob284 : Params → Obj := fun _ => { cls := Value.none, data := Data.fields #[] }
def hob245 : Params → Obj := fun _ => { cls := Value.none, data := Data.func { name := Str.ofString "around", qualname := Str.ofString "around", params := hfp 21, body := FuncBody.stmts (hfb 21), scope := hfs 21, globals := 0, closure := [], defaults := Value.none, kwdefaults := Value.none } }
def hob355 : Params → Obj := fun _ => { cls := Value.type "tuple", data := Data.seq #[] }
def hob214 : Params → Obj := fun _ => { cls := Value.none, data := Data.fields #[] }
def hob300 : Params → Obj := fun _ => { cls := Value.none, data := Data.fields #[] }
def hob392 : Params → Obj := fun _ => { cls := Value.type "tuple", data := Data.seq #[] }
def hob305 : Params → Obj := fun _ => { cls := Value.type "function", data := Data.func { name := Str.ofString "_law_whole", qualname := Str.ofString "_law_whole", params := hfp 31, body := FuncBody.stmts (hfb 31), scope := hfs 31, globals := 3, closure := [], defaults := Value.none, kwdefaults := Value.none, pyModule := Value.str (Str.ofString "law_uf050018_14") 474, code := Value.ref 243 } }
def hob174 : Params → Obj := fun _ => { cls := Value.type "code", data := Data.fields #[Value.str (Str.ofString "is_whole") 321, Value.str (Str.ofString "is_whole") 322, Value.str (Str.ofString "/claim/cut.py") 323, Value.int 19 0, Value.int 2 0, Value.int 0 0, Value.int 0 0, Value.int 3 0, Value.ref 112, Value.bool true, Value.int 181 0, Value.ref 113, Value.none, Value.ref 114, Value.ref 115, Value.ref 116, Value.int 326 0, Value.int 19 0, Value.str (Str.ofString "/claim/cut.py") 327] }
def hob311 : Params → Obj := fun _ => { cls := Value.type "code", data := Data.fields #[Value.str (Str.ofString "_law_shared") 500, Value.str (Str.ofString "_law_shared") 501, Value.str (Str.ofString "/claim/cut.py") 502, Value.int 124 0, Value.int 2 0, Value.int 0 0, Value.int 0 0, Value.int 3 0, Value.ref 245, Value.bool true, Value.int 181 0, Value.ref 246, Value.none, Value.ref 247, Value.ref 248, Value.ref 249, Value.int 505 0, Value.int 124 0, Value.str (Str.ofString "/claim/cut.py") 506] }
def hob271 : Params → Obj := fun _ => { cls := Value.type "tuple", data := Data.seq #[Value.str (Str.ofString "frac") 459, Value.str (Str.ofString "upper") 460, Value.str (Str.ofString "lower") 461, Value.str (Str.ofString "path") 462, Value.str (Str.ofString "many") 463] }
def hob73 : Params → Obj := fun _ => { cls := Value.type "frame", slots := #[some (Value.ref 33), some (Value.ref 3), some (Value.ref 30), none, some (Value.str (Str.ofString "nearfrac.errors") 187), none, some (Value.ref 0)] }
def hob139 : Params → Obj := fun P => { cls := Value.type "dict", data := Data.dict #[{ hash := PyData.keyHash P (Str.ofString "__name__"), key := Value.str (Str.ofString "__name__") 165, val := Value.str (Str.ofString "nearfrac.errors") 187 }, { hash := PyData.keyHash P (Str.ofString "__doc__"), key := Value.str (Str.ofString "__doc__") 166, val := Value.none }, { hash := PyData.keyHash P (Str.ofString "__package__"), key := Value.str (Str.ofString "__package__") 167, val := Value.none }, { hash := PyData.keyHash P (Str.ofString "__loader__"), key := Value.str (Str.ofString "__loader__") 168, val := Value.builtin "__main__.__loader__#opaque" }, { hash := PyData.keyHash P (Str.ofString "__spec__"), key := Value.str (Str.ofString "__spec__") 169, val := Value.none }, { hash := PyData.keyHash P (Str.ofString "__annotations__"), key := Value.str (Str.ofString "__annotations__") 170, val := Value.ref 6 }, { hash := PyData.keyHash P (Str.ofString "__builtins__"), key := Value.str (Str.ofString "__builtins__") 171, val := Value.ref 4 }, { hash := PyData.keyHash P (Str.ofString "__file__"), key := Value.str (Str.ofString "__file__") 173, val := Value.str (Str.ofString "/claim/cut.py") 172 }, { hash := PyData.keyHash P (Str.ofString "__cached__"), key := Value.str (Str.ofString "__cached__") 174, val := Value.none }, { hash := PyData.keyHash P (Str.ofString "FractionError"), key := Value.str (Str.ofString "FractionError") 206, val := Value.ref 24 }, { hash := PyData.keyHash P (Str.ofString "NoFraction"), key := Value.str (Str.ofString "NoFraction") 222, val := Value.ref 37 }, { hash := PyData.keyHash P (Str.ofString "NoPath"), key := Value.str (Str.ofString "NoPath") 238, val := Value.ref 49 }, { hash := PyData.keyHash P (Str.ofString "NoBounds"), key := Value.str (Str.ofString "NoBounds") 254, val := Value.ref 61 }, { hash := PyData.keyHash P (Str.ofString "NoRoom"), key := Value.str (Str.ofString "NoRoom") 270, val := Value.ref 73 }, { hash := PyData.keyHash P (Str.ofString "Unsure"), key := Value.str (Str.ofString "Unsure") 286, val := Value.ref 85 }, { hash := PyData.keyHash P (Str.ofString "NoText"), key := Value.str (Str.ofString "NoText") 302, val := Value.ref 97 }] 16 }
def hob198 : Params → Obj := fun _ => { cls := Value.none, data := Data.fields #[] }
def hob186 : Params → Obj := fun _ => { cls := Value.type "tuple", data := Data.seq #[] }
def hob165 : Params → Obj := fun P => { cls := Value.type "dict", data := Data.dict #[{ hash := PyData.keyHash P (Str.ofString "__module__"), key := Value.str (Str.ofString "__module__") 310, val := Value.str (Str.ofString "nearfrac.errors") 187 }, { hash := PyData.keyHash P (Str.ofString "__firstlineno__"), key := Value.str (Str.ofString "__firstlineno__") 314, val := Value.int 16 313 }, { hash := PyData.keyHash P (Str.ofString "__static_attributes__"), key := Value.str (Str.ofString "__static_attributes__") 315, val := Value.ref 107 }, { hash := PyData.keyHash P (Str.ofString "__doc__"), key := Value.str (Str.ofString "__doc__") 316, val := Value.none }] 2 }
def hob278 : Params → Obj := fun _ => { cls := Value.type "tuple", data := Data.seq #[Value.str (Str.ofString "frac") 470] }
def hob289 : Params → Obj := fun _ => { cls := Value.type "function", data := Data.func { name := Str.ofString "_law_cell_at", qualname := Str.ofString "_law_cell_at", params := hfp 29, body := FuncBody.stmts (hfb 29), scope := hfs 29, globals := 3, closure := [], defaults := Value.none, kwdefaults := Value.none, pyModule := Value.str (Str.ofString "law_uf050018_14") 474, code := Value.ref 229 } }
def hob322 : Params → Obj := fun _ => { cls := Value.type "tuple", data := Data.seq #[Value.str (Str.ofString "_law_found") 520] }
def hob223 : Params → Obj := fun _ => { cls := Value.type "tuple", data := Data.seq #[] }
def hob65 : Params → Obj := fun _ => { cls := Value.none, data := Data.fields #[Value.int 2 0, Value.int 0 0, Value.ref 20, Value.int 4 0, Value.int 0 0, Value.ref 33] }
def hob352 : Params → Obj := fun _ => { cls := Value.none, data := Data.func { name := Str.ofString "_law_found_by", qualname := Str.ofString "_law_found_by", params := hfp 38, body := FuncBody.stmts (hfb 38), scope := hfs 38, globals := 0, closure := [], defaults := Value.none, kwdefaults := Value.none } }
def hob338 : Params → Obj := fun _ => { cls := Value.none, data := Data.func { name := Str.ofString "_law_drawn", qualname := Str.ofString "_law_drawn", params := hfp 36, body := FuncBody.stmts (hfb 36), scope := hfs 36, globals := 0, closure := [], defaults := Value.none, kwdefaults := Value.none } }
def hob239 : Params → Obj := fun _ => { cls := Value.type "code", data := Data.fields #[Value.str (Str.ofString "fitting") 398, Value.str (Str.ofString "fitting") 399, Value.str (Str.ofString "/claim/cut.py") 400, Value.int 48 0, Value.int 4 0, Value.int 0 0, Value.int 0 0, Value.int 3 0, Value.ref 175, Value.bool true, Value.int 181 0, Value.ref 176, Value.none, Value.ref 177, Value.ref 178, Value.ref 179, Value.int 405 0, Value.int 48 0, Value.str (Str.ofString "/claim/cut.py") 406] }
def hob158 : Params → Obj := fun _ => { cls := Value.type "builtin_function_or_method", data := Data.fields #[Value.builtin "type.__prepare__", Value.type "type"] }
def hob318 : Params → Obj := fun _ => { cls := Value.type "code", data := Data.fields #[Value.str (Str.ofString "_law_frac") 508, Value.str (Str.ofString "_law_frac") 509, Value.str (Str.ofString "/claim/cut.py") 510, Value.int 128 0, Value.int 2 0, Value.int 0 0, Value.int 0 0, Value.int 3 0, Value.ref 252, Value.bool true, Value.int 181 0, Value.ref 253, Value.none, Value.ref 254, Value.ref 255, Value.ref 256, Value.int 514 0, Value.int 128 0, Value.str (Str.ofString "/claim/cut.py") 515] }
def hob131 : Params → Obj := fun _ => { cls := Value.none, data := Data.fields #[] }
def hob390 : Params → Obj := fun _ => { cls := Value.type "code", data := Data.fields #[Value.str (Str.ofString "_law_right") 607, Value.str (Str.ofString "_law_right") 608, Value.str (Str.ofString "/claim/cut.py") 609, Value.int 189 0, Value.int 4 0, Value.int 0 0, Value.int 0 0, Value.int 3 0, Value.ref 322, Value.bool true, Value.int 181 0, Value.ref 323, Value.none, Value.ref 324, Value.ref 325, Value.ref 326, Value.int 619 0, Value.int 189 0, Value.str (Str.ofString "/claim/cut.py") 620] }
def hob176 : Params → Obj := fun _ => { cls := Value.type "tuple", data := Data.seq #[] }
def hob151 : Params → Obj := fun _ => { cls := Value.type "type", data := Data.cls { name := Str.ofString "NoText", bases := [Value.ref 24], mro := [Value.ref 97, Value.ref 24, Value.type "ValueError", Value.type "Exception", Value.type "BaseException", Value.type "object"], ns := 96, qualname := Str.ofString "NoText" }, slots := #[some (Value.ref 88), none, some (Value.str (Str.ofString "NoText") 287), some (Value.str (Str.ofString "NoText") 295), some (Value.builtin "ValueError.__new__"), some (Value.bool true)] }
def hob235 : Params → Obj := fun _ => { cls := Value.none, data := Data.fields #[] }
def hob370 : Params → Obj := fun _ => { cls := Value.none, data := Data.fields #[] }
def hob175 : Params → Obj := fun _ => { cls := Value.type "function", data := Data.func { name := Str.ofString "is_whole", qualname := Str.ofString "is_whole", params := hfp 10, body := FuncBody.stmts (hfb 10), scope := hfs 10, globals := 3, closure := [], defaults := Value.none, kwdefaults := Value.none, pyModule := Value.str (Str.ofString "nearfrac.fracs") 319, code := Value.ref 117 } }
def hob100 : Params → Obj := fun _ => { cls := Value.type "tuple", data := Data.seq #[] }
def hob394 : Params → Obj := fun _ => { cls := Value.type "tuple", data := Data.seq #[Value.str (Str.ofString "_law_script") 625, Value.str (Str.ofString "_law_way_here") 626, Value.str (Str.ofString "_law_low") 627, Value.str (Str.ofString "_law_high") 628, Value.str (Str.ofString "_law_gap") 629, Value.str (Str.ofString "_law_most") 630, Value.str (Str.ofString "_law_none") 631, Value.str (Str.ofString "_law_left") 632, Value.str (Str.ofString "_law_right_here") 633, Value.str (Str.ofString "_law_middle") 634] }
def hob340 : Params → Obj := fun _ => { cls := Value.type "function", data := Data.func { name := Str.ofString "_law_drawn", qualname := Str.ofString "_law_drawn", params := hfp 36, body := FuncBody.stmts (hfb 36), scope := hfs 36, globals := 3, closure := [], defaults := Value.none, kwdefaults := Value.none, pyModule := Value.str (Str.ofString "law_uf050018_14") 474, code := Value.ref 278 } }
def hob54 : Params → Obj := fun _ => { cls := Value.type "tuple", data := Data.seq #[] }
def hob209 : Params → Obj := fun _ => { cls := Value.type "tuple", data := Data.seq #[] }
def hob145 : Params → Obj := fun _ => { cls := Value.type "tuple", data := Data.seq #[] }
def hob376 : Params → Obj := fun P => { cls := Value.type "dict", data := Data.dict #[{ hash := PyData.keyHash P (Str.ofString "__name__"), key := Value.str (Str.ofString "__name__") 165, val := Value.str (Str.ofString "law_uf050018_14") 474 }, { hash := PyData.keyHash P (Str.ofString "__doc__"), key := Value.str (Str.ofString "__doc__") 166, val := Value.none }, { hash := PyData.keyHash P (Str.ofString "__package__"), key := Value.str (Str.ofString "__package__") 167, val := Value.none }, { hash := PyData.keyHash P (Str.ofString "__loader__"), key := Value.str (Str.ofString "__loader__") 168, val := Value.builtin "__main__.__loader__#opaque" }, { hash := PyData.keyHash P (Str.ofString "__spec__"), key := Value.str (Str.ofString "__spec__") 169, val := Value.none }, { hash := PyData.keyHash P (Str.ofString "__annotations__"), key := Value.str (Str.ofString "__annotations__") 170, val := Value.ref 6 }, { hash := PyData.keyHash P (Str.ofString "__builtins__"), key := Value.str (Str.ofString "__builtins__") 171, val := Value.ref 4 }, { hash := PyData.keyHash P (Str.ofString "__file__"), key := Value.str (Str.ofString "__file__") 173, val := Value.str (Str.ofString "/claim/cut.py") 172 }, { hash := PyData.keyHash P (Str.ofString "__cached__"), key := Value.str (Str.ofString "__cached__") 174, val := Value.none }, { hash := PyData.keyHash P (Str.ofString "FractionError"), key := Value.str (Str.ofString "FractionError") 206, val := Value.ref 24 }, { hash := PyData.keyHash P (Str.ofString "NoFraction"), key := Value.str (Str.ofString "NoFraction") 222, val := Value.ref 37 }, { hash := PyData.keyHash P (Str.ofString "NoPath"), key := Value.str (Str.ofString "NoPath") 238, val := Value.ref 49 }, { hash := PyData.keyHash P (Str.ofString "NoBounds"), key := Value.str (Str.ofString "NoBounds") 254, val := Value.ref 61 }, { hash := PyData.keyHash P (Str.ofString "NoRoom"), key := Value.str (Str.ofString "NoRoom") 270, val := Value.ref 73 }, { hash := PyData.keyHash P (Str.ofString "Unsure"), key := Value.str (Str.ofString "Unsure") 286, val := Value.ref 85 }, { hash := PyData.keyHash P (Str.ofString "NoText"), key := Value.str (Str.ofString "NoText") 302, val := Value.ref 97 }, { hash := PyData.keyHash P (Str.ofString "NoNumber"), key := Value.str (Str.ofString "NoNumber") 318, val := Value.ref 109 }, { hash := PyData.keyHash P (Str.ofString "is_whole"), key := Value.str (Str.ofString "is_whole") 328, val := Value.ref 118 }, { hash := PyData.keyHash P (Str.ofString "divisor"), key := Value.str (Str.ofString "divisor") 337, val := Value.ref 125 }, { hash := PyData.keyHash P (Str.ofString "lowest"), key := Value.str (Str.ofString "lowest") 346, val := Value.ref 132 }, { hash := PyData.keyHash P (Str.ofString "less"), key := Value.str (Str.ofString "less") 354, val := Value.ref 139 }, { hash := PyData.keyHash P (Str.ofString "apart"), key := Value.str (Str.ofString "apart") 363, val := Value.ref 146 }, { hash := PyData.keyHash P (Str.ofString "need_room"), key := Value.str (Str.ofString "need_room") 372, val := Value.ref 153 }, { hash := PyData.keyHash P (Str.ofString "need_bounds"), key := Value.str (Str.ofString "need_bounds") 380, val := Value.ref 160 }, { hash := PyData.keyHash P (Str.ofString "gap"), key := Value.str (Str.ofString "gap") 388, val := Value.ref 167 }, { hash := PyData.keyHash P (Str.ofString "stepped"), key := Value.str (Str.ofString "stepped") 397, val := Value.ref 174 }, { hash := PyData.keyHash P (Str.ofString "fitting"), key := Value.str (Str.ofString "fitting") 407, val := Value.ref 181 }, { hash := PyData.keyHash P (Str.ofString "around"), key := Value.str (Str.ofString "around") 419, val := Value.ref 188 }, { hash := PyData.keyHash P (Str.ofString "nearest"), key := Value.str (Str.ofString "nearest") 431, val := Value.ref 195 }, { hash := PyData.keyHash P (Str.ofString "sure"), key := Value.str (Str.ofString "sure") 441, val := Value.ref 202 }, { hash := PyData.keyHash P (Str.ofString "walked"), key := Value.str (Str.ofString "walked") 455, val := Value.ref 209 }, { hash := PyData.keyHash P (Str.ofString "path_of"), key := Value.str (Str.ofString "path_of") 466, val := Value.ref 216 }, { hash := PyData.keyHash P (Str.ofString "sides"), key := Value.str (Str.ofString "sides") 473, val := Value.ref 223 }, { hash := PyData.keyHash P (Str.ofString "_law_cell_at"), key := Value.str (Str.ofString "_law_cell_at") 483, val := Value.ref 230 }, { hash := PyData.keyHash P (Str.ofString "_law_way"), key := Value.str (Str.ofString "_law_way") 492, val := Value.ref 237 }, { hash := PyData.keyHash P (Str.ofString "_law_whole"), key := Value.str (Str.ofString "_law_whole") 499, val := Value.ref 244 }, { hash := PyData.keyHash P (Str.ofString "_law_shared"), key := Value.str (Str.ofString "_law_shared") 507, val := Value.ref 251 }, { hash := PyData.keyHash P (Str.ofString "_law_frac"), key := Value.str (Str.ofString "_law_frac") 516, val := Value.ref 258 }, { hash := PyData.keyHash P (Str.ofString "_law_is_frac"), key := Value.str (Str.ofString "_law_is_frac") 523, val := Value.ref 265 }, { hash := PyData.keyHash P (Str.ofString "_law_number"), key := Value.str (Str.ofString "_law_number") 531, val := Value.ref 272 }, { hash := PyData.keyHash P (Str.ofString "_law_drawn"), key := Value.str (Str.ofString "_law_drawn") 542, val := Value.ref 279 }, { hash := PyData.keyHash P (Str.ofString "_law_no_room"), key := Value.str (Str.ofString "_law_no_room") 551, val := Value.ref 286 }, { hash := PyData.keyHash P (Str.ofString "_law_found_by"), key := Value.str (Str.ofString "_law_found_by") 564, val := Value.ref 293 }, { hash := PyData.keyHash P (Str.ofString "_law_alone"), key := Value.str (Str.ofString "_law_alone") 572, val := Value.ref 300 }, { hash := PyData.keyHash P (Str.ofString "_law_pair_by"), key := Value.str (Str.ofString "_law_pair_by") 586, val := Value.ref 307 }, { hash := PyData.keyHash P (Str.ofString "_law_refusal"), key := Value.str (Str.ofString "_law_refusal") 596, val := Value.ref 314 }, { hash := PyData.keyHash P (Str.ofString "_law_as_nearest"), key := Value.str (Str.ofString "_law_as_nearest") 606, val := Value.ref 321 }, { hash := PyData.keyHash P (Str.ofString "_law_right"), key := Value.str (Str.ofString "_law_right") 621, val := Value.ref 328 }, { hash := PyData.keyHash P (Str.ofString "law"), key := Value.str (Str.ofString "law") 637, val := Value.ref 335 }] 49 }
def hob153 : Params → Obj := fun _ => { cls := Value.type "builtin_function_or_method", data := Data.fields #[Value.builtin "object.__init_subclass__", Value.ref 97] }
def hob262 : Params → Obj := fun _ => { cls := Value.type "tuple", data := Data.seq #[] }
def hob130 : Params → Obj := fun _ => { cls := Value.type "tuple", data := Data.seq #[] }
def hob80 : Params → Obj := fun _ => { cls := Value.none, data := Data.fields #[Value.int 2 0, Value.int 0 0, Value.ref 20, Value.int 4 0, Value.int 0 0, Value.ref 33, Value.int 6 0, Value.int 0 0, Value.ref 45] }
def hob317 : Params → Obj := fun _ => { cls := Value.none, data := Data.func { name := Str.ofString "_law_frac", qualname := Str.ofString "_law_frac", params := hfp 33, body := FuncBody.stmts (hfb 33), scope := hfs 33, globals := 0, closure := [], defaults := Value.none, kwdefaults := Value.none } }
def hob215 : Params → Obj := fun _ => { cls := Value.type "tuple", data := Data.seq #[Value.str (Str.ofString "low") 376, Value.str (Str.ofString "high") 377] }
def hob88 : Params → Obj := fun _ => { cls := Value.type "frame", slots := #[some (Value.ref 45), some (Value.ref 3), some (Value.ref 42), none, some (Value.str (Str.ofString "nearfrac.errors") 187), none, some (Value.ref 0)] }
def hob286 : Params → Obj := fun _ => { cls := Value.type "tuple", data := Data.seq #[] }
def hob294 : Params → Obj := fun _ => { cls := Value.type "tuple", data := Data.seq #[Value.str (Str.ofString "_law_script") 487, Value.str (Str.ofString "_law_k") 488, Value.str (Str.ofString "_law_many") 489] }
def hob358 : Params → Obj := fun _ => { cls := Value.type "tuple", data := Data.seq #[] }
def hob295 : Params → Obj := fun _ => { cls := Value.type "tuple", data := Data.seq #[] }
def hob162 : Params → Obj := fun _ => { cls := Value.type "code", data := Data.fields #[Value.str (Str.ofString "NoNumber") 305, Value.str (Str.ofString "NoNumber") 306, Value.str (Str.ofString "/claim/cut.py") 307, Value.int 16 0, Value.int 0 0, Value.int 0 0, Value.int 0 0, Value.int 0 0, Value.ref 103, Value.bool false, Value.int 181 0, Value.ref 104, Value.none, Value.none, Value.none, Value.none, Value.int 308 0, Value.int 16 0, Value.str (Str.ofString "/claim/cut.py") 309] }
def hob276 : Params → Obj := fun _ => { cls := Value.type "tuple", data := Data.seq #[] }
def hob70 : Params → Obj := fun _ => { cls := Value.type "tuple", data := Data.seq #[] }
def hob106 : Params → Obj := fun _ => { cls := Value.type "type", data := Data.cls { name := Str.ofString "NoBounds", bases := [Value.ref 24], mro := [Value.ref 61, Value.ref 24, Value.type "ValueError", Value.type "Exception", Value.type "BaseException", Value.type "object"], ns := 60, qualname := Str.ofString "NoBounds" }, slots := #[some (Value.ref 52), none, some (Value.str (Str.ofString "NoBounds") 239), some (Value.str (Str.ofString "NoBounds") 247), some (Value.builtin "ValueError.__new__"), some (Value.bool true)] }
def hob398 : Params → Obj := fun _ => { cls := Value.type "function", data := Data.func { name := Str.ofString "law", qualname := Str.ofString "law", params := hfp 44, body := FuncBody.stmts (hfb 44), scope := hfs 44, globals := 3, closure := [], defaults := Value.none, kwdefaults := Value.none, pyModule := Value.str (Str.ofString "law_uf050018_14") 474, code := Value.ref 334 } }
def hob169 : Params → Obj := fun _ => { cls := Value.type "tuple", data := Data.seq #[] }
def hob123 : Params → Obj := fun _ => { cls := Value.type "builtin_function_or_method", data := Data.fields #[Value.builtin "object.__init_subclass__", Value.ref 73] }
def hob164 : Params → Obj := fun _ => { cls := Value.type "tuple", data := Data.seq #[] }
def hob323 : Params → Obj := fun _ => { cls := Value.type "tuple", data := Data.seq #[] }
def hob351 : Params → Obj := fun _ => { cls := Value.type "tuple", data := Data.seq #[] }
def hob53 : Params → Obj := fun P => { cls := Value.type "dict", data := Data.dict #[{ hash := PyData.keyHash P (Str.ofString "__module__"), key := Value.str (Str.ofString "__module__") 196, val := Value.str (Str.ofString "nearfrac.errors") 187 }, { hash := PyData.keyHash P (Str.ofString "__qualname__"), key := Value.str (Str.ofString "__qualname__") 198, val := Value.str (Str.ofString "FractionError") 197 }, { hash := PyData.keyHash P (Str.ofString "__firstlineno__"), key := Value.str (Str.ofString "__firstlineno__") 200, val := Value.int 2 199 }, { hash := PyData.keyHash P (Str.ofString "__static_attributes__"), key := Value.str (Str.ofString "__static_attributes__") 201, val := Value.ref 22 }] 4 }
def hob326 : Params → Obj := fun _ => { cls := Value.type "function", data := Data.func { name := Str.ofString "_law_is_frac", qualname := Str.ofString "_law_is_frac", params := hfp 34, body := FuncBody.stmts (hfb 34), scope := hfs 34, globals := 3, closure := [], defaults := Value.none, kwdefaults := Value.none, pyModule := Value.str (Str.ofString "law_uf050018_14") 474, code := Value.ref 264 } }
def hob159 : Params → Obj := fun P => { cls := Value.type "dict", data := Data.dict #[{ hash := PyData.keyHash P (Str.ofString "__module__"), key := Value.str (Str.ofString "__module__") 310, val := Value.str (Str.ofString "nearfrac.errors") 187 }, { hash := PyData.keyHash P (Str.ofString "__qualname__"), key := Value.str (Str.ofString "__qualname__") 312, val := Value.str (Str.ofString "NoNumber") 311 }, { hash := PyData.keyHash P (Str.ofString "__firstlineno__"), key := Value.str (Str.ofString "__firstlineno__") 314, val := Value.int 16 313 }, { hash := PyData.keyHash P (Str.ofString "__static_attributes__"), key := Value.str (Str.ofString "__static_attributes__") 315, val := Value.ref 107 }] 4 }
def hob315 : Params → Obj := fun _ => { cls := Value.type "tuple", data := Data.seq #[Value.str (Str.ofString "_law_upper") 511, Value.str (Str.ofString "_law_lower") 512, Value.str (Str.ofString "_law_part") 513] }
def hob361 : Params → Obj := fun _ => { cls := Value.type "function", data := Data.func { name := Str.ofString "_law_alone", qualname := Str.ofString "_law_alone", params := hfp 39, body := FuncBody.stmts (hfb 39), scope := hfs 39, globals := 3, closure := [], defaults := Value.none, kwdefaults := Value.none, pyModule := Value.str (Str.ofString "law_uf050018_14") 474, code := Value.ref 299 } }
def hob302 : Params → Obj := fun _ => { cls := Value.type "tuple", data := Data.seq #[] }
def hob221 : Params → Obj := fun _ => { cls := Value.none, data := Data.fields #[] }
def hob316 : Params → Obj := fun _ => { cls := Value.type "tuple", data := Data.seq #[] }
def hob210 : Params → Obj := fun _ => { cls := Value.none, data := Data.func { name := Str.ofString "need_room", qualname := Str.ofString "need_room", params := hfp 16, body := FuncBody.stmts (hfb 16), scope := hfs 16, globals := 0, closure := [], defaults := Value.none, kwdefaults := Value.none } }
def hob253 : Params → Obj := fun _ => { cls := Value.type "code", data := Data.fields #[Value.str (Str.ofString "nearest") 420, Value.str (Str.ofString "nearest") 421, Value.str (Str.ofString "/claim/cut.py") 422, Value.int 66 0, Value.int 2 0, Value.int 0 0, Value.int 0 0, Value.int 3 0, Value.ref 189, Value.bool true, Value.int 181 0, Value.ref 190, Value.none, Value.ref 191, Value.ref 192, Value.ref 193, Value.int 429 0, Value.int 66 0, Value.str (Str.ofString "/claim/cut.py") 430] }
def hob389 : Params → Obj := fun _ => { cls := Value.none, data := Data.func { name := Str.ofString "_law_right", qualname := Str.ofString "_law_right", params := hfp 43, body := FuncBody.stmts (hfb 43), scope := hfs 43, globals := 0, closure := [], defaults := Value.none, kwdefaults := Value.none } }
def hob288 : Params → Obj := fun _ => { cls := Value.type "code", data := Data.fields #[Value.str (Str.ofString "_law_cell_at") 476, Value.str (Str.ofString "_law_cell_at") 477, Value.str (Str.ofString "/claim/cut.py") 478, Value.int 116 0, Value.int 2 0, Value.int 0 0, Value.int 0 0, Value.int 3 0, Value.ref 224, Value.bool true, Value.int 181 0, Value.ref 225, Value.none, Value.ref 226, Value.ref 227, Value.ref 228, Value.int 481 0, Value.int 116 0, Value.str (Str.ofString "/claim/cut.py") 482] }
def hob308 : Params → Obj := fun _ => { cls := Value.type "tuple", data := Data.seq #[Value.str (Str.ofString "_law_one") 503, Value.str (Str.ofString "_law_other") 504] }
def hob254 : Params → Obj := fun _ => { cls := Value.type "function", data := Data.func { name := Str.ofString "nearest", qualname := Str.ofString "nearest", params := hfp 22, body := FuncBody.stmts (hfb 22), scope := hfs 22, globals := 3, closure := [], defaults := Value.none, kwdefaults := Value.none, pyModule := Value.str (Str.ofString "nearfrac.near") 364, code := Value.ref 194 } }
def hob287 : Params → Obj := fun _ => { cls := Value.none, data := Data.func { name := Str.ofString "_law_cell_at", qualname := Str.ofString "_law_cell_at", params := hfp 29, body := FuncBody.stmts (hfb 29), scope := hfs 29, globals := 0, closure := [], defaults := Value.none, kwdefaults := Value.none } }
def hob301 : Params → Obj := fun _ => { cls := Value.type "tuple", data := Data.seq #[Value.str (Str.ofString "_law_found") 496] }
def hob244 : Params → Obj := fun _ => { cls := Value.type "tuple", data := Data.seq #[] }
def hob161 : Params → Obj := fun _ => { cls := Value.none, data := Data.fields #[] }
def hob274 : Params → Obj := fun _ => { cls := Value.type "code", data := Data.fields #[Value.str (Str.ofString "path_of") 456, Value.str (Str.ofString "path_of") 457, Value.str (Str.ofString "/claim/cut.py") 458, Value.int 98 0, Value.int 1 0, Value.int 0 0, Value.int 0 0, Value.int 3 0, Value.ref 210, Value.bool true, Value.int 181 0, Value.ref 211, Value.none, Value.ref 212, Value.ref 213, Value.ref 214, Value.int 464 0, Value.int 98 0, Value.str (Str.ofString "/claim/cut.py") 465] }
def hob115 : Params → Obj := fun _ => { cls := Value.type "tuple", data := Data.seq #[] }
def hob264 : Params → Obj := fun _ => { cls := Value.type "tuple", data := Data.seq #[Value.str (Str.ofString "path") 447, Value.str (Str.ofString "left") 448, Value.str (Str.ofString "right") 449, Value.str (Str.ofString "ahead") 450, Value.str (Str.ofString "way") 451, Value.str (Str.ofString "many") 452] }
def hob91 : Params → Obj := fun _ => { cls := Value.type "type", data := Data.cls { name := Str.ofString "NoPath", bases := [Value.ref 24], mro := [Value.ref 49, Value.ref 24, Value.type "ValueError", Value.type "Exception", Value.type "BaseException", Value.type "object"], ns := 48, qualname := Str.ofString "NoPath" }, slots := #[some (Value.ref 40), none, some (Value.str (Str.ofString "NoPath") 223), some (Value.str (Str.ofString "NoPath") 231), some (Value.builtin "ValueError.__new__"), some (Value.bool true)] }
def hob309 : Params → Obj := fun _ => { cls := Value.type "tuple", data := Data.seq #[] }
def hob112 : Params → Obj := fun _ => { cls := Value.type "tuple", data := Data.seq #[Value.ref 24] }
def hob374 : Params → Obj := fun _ => { cls := Value.type "code", data := Data.fields #[Value.str (Str.ofString "_law_refusal") 587, Value.str (Str.ofString "_law_refusal") 588, Value.str (Str.ofString "/claim/cut.py") 589, Value.int 171 0, Value.int 3 0, Value.int 0 0, Value.int 0 0, Value.int 3 0, Value.ref 308, Value.bool true, Value.int 181 0, Value.ref 309, Value.none, Value.ref 310, Value.ref 311, Value.ref 312, Value.int 594 0, Value.int 171 0, Value.str (Str.ofString "/claim/cut.py") 595] }
def hob234 : Params → Obj := fun _ => { cls := Value.type "tuple", data := Data.seq #[] }
def hob197 : Params → Obj := fun _ => { cls := Value.type "tuple", data := Data.seq #[] }
def hob77 : Params → Obj := fun _ => { cls := Value.type "super", data := Data.fields #[Value.ref 37, Value.ref 37, Value.ref 37] }
def hob280 : Params → Obj := fun _ => { cls := Value.none, data := Data.func { name := Str.ofString "sides", qualname := Str.ofString "sides", params := hfp 27, body := FuncBody.stmts (hfb 27), scope := hfs 27, globals := 0, closure := [], defaults := Value.none, kwdefaults := Value.none } }
def hob225 : Params → Obj := fun _ => { cls := Value.type "code", data := Data.fields #[Value.str (Str.ofString "gap") 381, Value.str (Str.ofString "gap") 382, Value.str (Str.ofString "/claim/cut.py") 383, Value.int 44 0, Value.int 2 0, Value.int 0 0, Value.int 0 0, Value.int 3 0, Value.ref 161, Value.bool true, Value.int 181 0, Value.ref 162, Value.none, Value.ref 163, Value.ref 164, Value.ref 165, Value.int 386 0, Value.int 44 0, Value.str (Str.ofString "/claim/cut.py") 387] }
def hob226 : Params → Obj := fun _ => { cls := Value.type "function", data := Data.func { name := Str.ofString "gap", qualname := Str.ofString "gap", params := hfp 18, body := FuncBody.stmts (hfb 18), scope := hfs 18, globals := 3, closure := [], defaults := Value.none, kwdefaults := Value.none, pyModule := Value.str (Str.ofString "nearfrac.near") 364, code := Value.ref 166 } }
def hob196 : Params → Obj := fun _ => { cls := Value.type "function", data := Data.func { name := Str.ofString "less", qualname := Str.ofString "less", params := hfp 13, body := FuncBody.stmts (hfb 13), scope := hfs 13, globals := 3, closure := [], defaults := Value.none, kwdefaults := Value.none, pyModule := Value.str (Str.ofString "nearfrac.fracs") 319, code := Value.ref 138 } }
def hob81 : Params → Obj := fun _ => { cls := Value.type "type", data := Data.cls { name := Str.ofString "FractionError", bases := [Value.type "ValueError"], mro := [Value.ref 24, Value.type "ValueError", Value.type "Exception", Value.type "BaseException", Value.type "object"], ns := 23, qualname := Str.ofString "FractionError", subclasses := [Value.ref 37, Value.ref 49] }, slots := #[some (Value.ref 15), none, some (Value.str (Str.ofString "FractionError") 189), some (Value.str (Str.ofString "FractionError") 197), some (Value.builtin "ValueError.__new__"), some (Value.bool true)] }
def hob283 : Params → Obj := fun _ => { cls := Value.type "tuple", data := Data.seq #[] }
def hob132 : Params → Obj := fun _ => { cls := Value.type "code", data := Data.fields #[Value.str (Str.ofString "Unsure") 273, Value.str (Str.ofString "Unsure") 274, Value.str (Str.ofString "/claim/cut.py") 275, Value.int 12 0, Value.int 0 0, Value.int 0 0, Value.int 0 0, Value.int 0 0, Value.ref 79, Value.bool false, Value.int 181 0, Value.ref 80, Value.none, Value.none, Value.none, Value.none, Value.int 276 0, Value.int 12 0, Value.str (Str.ofString "/claim/cut.py") 277] }
def hob206 : Params → Obj := fun _ => { cls := Value.type "tuple", data := Data.seq #[] }
def hob71 : Params → Obj := fun _ => { cls := Value.none, data := Data.fields #[] }
def hob105 : Params → Obj := fun P => { cls := Value.type "dict", data := Data.dict #[{ hash := PyData.keyHash P (Str.ofString "__module__"), key := Value.str (Str.ofString "__module__") 246, val := Value.str (Str.ofString "nearfrac.errors") 187 }, { hash := PyData.keyHash P (Str.ofString "__firstlineno__"), key := Value.str (Str.ofString "__firstlineno__") 250, val := Value.int 8 249 }, { hash := PyData.keyHash P (Str.ofString "__static_attributes__"), key := Value.str (Str.ofString "__static_attributes__") 251, val := Value.ref 59 }, { hash := PyData.keyHash P (Str.ofString "__doc__"), key := Value.str (Str.ofString "__doc__") 252, val := Value.none }] 2 }
def hob258 : Params → Obj := fun _ => { cls := Value.type "tuple", data := Data.seq #[] }
def hob346 : Params → Obj := fun _ => { cls := Value.type "code", data := Data.fields #[Value.str (Str.ofString "_law_no_room") 543, Value.str (Str.ofString "_law_no_room") 544, Value.str (Str.ofString "/claim/cut.py") 545, Value.int 143 0, Value.int 2 0, Value.int 0 0, Value.int 0 0, Value.int 3 0, Value.ref 280, Value.bool true, Value.int 181 0, Value.ref 281, Value.none, Value.ref 282, Value.ref 283, Value.ref 284, Value.int 549 0, Value.int 143 0, Value.str (Str.ofString "/claim/cut.py") 550] }
def hob327 : Params → Obj := fun _ => { cls := Value.type "tuple", data := Data.seq #[] }
def hob60 : Params → Obj := fun _ => { cls := Value.type "type", data := Data.cls { name := Str.ofString "FractionError", bases := [Value.type "ValueError"], mro := [Value.ref 24, Value.type "ValueError", Value.type "Exception", Value.type "BaseException", Value.type "object"], ns := 23, qualname := Str.ofString "FractionError" }, slots := #[some (Value.ref 15), none, some (Value.str (Str.ofString "FractionError") 189), some (Value.str (Str.ofString "FractionError") 197), some (Value.builtin "ValueError.__new__"), some (Value.bool true)] }
def hob122 : Params → Obj := fun _ => { cls := Value.type "super", data := Data.fields #[Value.ref 73, Value.ref 73, Value.ref 73] }
def hob252 : Params → Obj := fun _ => { cls := Value.none, data := Data.func { name := Str.ofString "nearest", qualname := Str.ofString "nearest", params := hfp 22, body := FuncBody.stmts (hfb 22), scope := hfs 22, globals := 0, closure := [], defaults := Value.none, kwdefaults := Value.none } }
def hob187 : Params → Obj := fun _ => { cls := Value.none, data := Data.func { name := Str.ofString "lowest", qualname := Str.ofString "lowest", params := hfp 12, body := FuncBody.stmts (hfb 12), scope := hfs 12, globals := 0, closure := [], defaults := Value.none, kwdefaults := Value.none } }
def hob103 : Params → Obj := fun _ => { cls := Value.type "frame", slots := #[some (Value.ref 57), some (Value.ref 3), some (Value.ref 54), none, some (Value.str (Str.ofString "nearfrac.errors") 187), none, some (Value.ref 0)] }
def hob157 : Params → Obj := fun _ => { cls := Value.type "tuple", data := Data.seq #[Value.ref 24] }
def hob341 : Params → Obj := fun _ => { cls := Value.type "tuple", data := Data.seq #[] }
def hob243 : Params → Obj := fun _ => { cls := Value.type "tuple", data := Data.seq #[Value.str (Str.ofString "target") 411, Value.str (Str.ofString "most") 412, Value.str (Str.ofString "left") 413, Value.str (Str.ofString "right") 414, Value.str (Str.ofString "below") 415, Value.str (Str.ofString "above") 416] }
def hob56 : Params → Obj := fun _ => { cls := Value.type "code", data := Data.fields #[Value.str (Str.ofString "FractionError") 191, Value.str (Str.ofString "FractionError") 192, Value.str (Str.ofString "/claim/cut.py") 193, Value.int 2 0, Value.int 0 0, Value.int 0 0, Value.int 0 0, Value.int 0 0, Value.ref 18, Value.bool false, Value.int 181 0, Value.ref 19, Value.none, Value.none, Value.none, Value.none, Value.int 194 0, Value.int 2 0, Value.str (Str.ofString "/claim/cut.py") 195] }
def hob49 : Params → Obj := fun P => { cls := Value.type "dict", data := Data.dict #[{ hash := PyData.keyHash P (Str.ofString "__name__"), key := Value.str (Str.ofString "__name__") 165, val := Value.str (Str.ofString "nearfrac.errors") 187 }, { hash := PyData.keyHash P (Str.ofString "__doc__"), key := Value.str (Str.ofString "__doc__") 166, val := Value.none }, { hash := PyData.keyHash P (Str.ofString "__package__"), key := Value.str (Str.ofString "__package__") 167, val := Value.none }, { hash := PyData.keyHash P (Str.ofString "__loader__"), key := Value.str (Str.ofString "__loader__") 168, val := Value.builtin "__main__.__loader__#opaque" }, { hash := PyData.keyHash P (Str.ofString "__spec__"), key := Value.str (Str.ofString "__spec__") 169, val := Value.none }, { hash := PyData.keyHash P (Str.ofString "__annotations__"), key := Value.str (Str.ofString "__annotations__") 170, val := Value.ref 6 }, { hash := PyData.keyHash P (Str.ofString "__builtins__"), key := Value.str (Str.ofString "__builtins__") 171, val := Value.ref 4 }, { hash := PyData.keyHash P (Str.ofString "__file__"), key := Value.str (Str.ofString "__file__") 173, val := Value.str (Str.ofString "/claim/cut.py") 172 }, { hash := PyData.keyHash P (Str.ofString "__cached__"), key := Value.str (Str.ofString "__cached__") 174, val := Value.none }, { hash := PyData.keyHash P (Str.ofString "FractionError"), key := Value.str (Str.ofString "FractionError") 206, val := Value.ref 24 }] 10 }
def hob347 : Params → Obj := fun _ => { cls := Value.type "function", data := Data.func { name := Str.ofString "_law_no_room", qualname := Str.ofString "_law_no_room", params := hfp 37, body := FuncBody.stmts (hfb 37), scope := hfs 37, globals := 3, closure := [], defaults := Value.none, kwdefaults := Value.none, pyModule := Value.str (Str.ofString "law_uf050018_14") 474, code := Value.ref 285 } }
def hob62 : Params → Obj := fun _ => { cls := Value.type "super", data := Data.fields #[Value.ref 24, Value.ref 24, Value.ref 24] }
def hob211 : Params → Obj := fun _ => { cls := Value.type "code", data := Data.fields #[Value.str (Str.ofString "need_room") 366, Value.str (Str.ofString "need_room") 367, Value.str (Str.ofString "/claim/cut.py") 368, Value.int 38 0, Value.int 1 0, Value.int 0 0, Value.int 0 0, Value.int 3 0, Value.ref 147, Value.bool true, Value.int 181 0, Value.ref 148, Value.none, Value.ref 149, Value.ref 150, Value.ref 151, Value.int 370 0, Value.int 38 0, Value.str (Str.ofString "/claim/cut.py") 371] }
def hob167 : Params → Obj := fun _ => { cls := Value.type "super", data := Data.fields #[Value.ref 109, Value.ref 109, Value.ref 109] }
def hob50 : Params → Obj := fun _ => { cls := Value.none, data := Data.fields #[Value.int 2 0, Value.int 0 0, Value.ref 20] }
def hob304 : Params → Obj := fun _ => { cls := Value.type "code", data := Data.fields #[Value.str (Str.ofString "_law_whole") 493, Value.str (Str.ofString "_law_whole") 494, Value.str (Str.ofString "/claim/cut.py") 495, Value.int 122 0, Value.int 1 0, Value.int 0 0, Value.int 0 0, Value.int 3 0, Value.ref 238, Value.bool true, Value.int 181 0, Value.ref 239, Value.none, Value.ref 240, Value.ref 241, Value.ref 242, Value.int 497 0, Value.int 122 0, Value.str (Str.ofString "/claim/cut.py") 498] }
def hob332 : Params → Obj := fun _ => { cls := Value.type "code", data := Data.fields #[Value.str (Str.ofString "_law_number") 524, Value.str (Str.ofString "_law_number") 525, Value.str (Str.ofString "/claim/cut.py") 526, Value.int 137 0, Value.int 2 0, Value.int 0 0, Value.int 0 0, Value.int 3 0, Value.ref 266, Value.bool true, Value.int 181 0, Value.ref 267, Value.none, Value.ref 268, Value.ref 269, Value.ref 270, Value.int 529 0, Value.int 137 0, Value.str (Str.ofString "/claim/cut.py") 530] }
def hob172 : Params → Obj := fun _ => { cls := Value.type "tuple", data := Data.seq #[] }
def hob155 : Params → Obj := fun _ => { cls := Value.none, data := Data.fields #[Value.int 2 0, Value.int 0 0, Value.ref 20, Value.int 4 0, Value.int 0 0, Value.ref 33, Value.int 6 0, Value.int 0 0, Value.ref 45, Value.int 8 0, Value.int 0 0, Value.ref 57, Value.int 10 0, Value.int 0 0, Value.ref 69, Value.int 12 0, Value.int 0 0, Value.ref 81, Value.int 14 0, Value.int 0 0, Value.ref 93, Value.int 16 0, Value.int 0 0, Value.ref 105, Value.int 19 0, Value.int 0 0, Value.ref 117, Value.int 21 0, Value.int 0 0, Value.ref 124, Value.int 27 0, Value.int 0 0, Value.ref 131, Value.int 32 0, Value.int 0 0, Value.ref 138, Value.int 34 0, Value.int 0 0, Value.ref 145] }
def hob263 : Params → Obj := fun _ => { cls := Value.none, data := Data.fields #[] }
def hob67 : Params → Obj := fun _ => { cls := Value.type "tuple", data := Data.seq #[Value.ref 24] }
def hob369 : Params → Obj := fun _ => { cls := Value.type "tuple", data := Data.seq #[] }
def hob307 : Params → Obj := fun _ => { cls := Value.none, data := Data.fields #[] }
def hob293 : Params → Obj := fun _ => { cls := Value.none, data := Data.fields #[] }
def hob269 : Params → Obj := fun _ => { cls := Value.type "tuple", data := Data.seq #[] }
def hob97 : Params → Obj := fun _ => { cls := Value.type "tuple", data := Data.seq #[Value.ref 24] }
def hob137 : Params → Obj := fun _ => { cls := Value.type "super", data := Data.fields #[Value.ref 85, Value.ref 85, Value.ref 85] }
def hob202 : Params → Obj := fun _ => { cls := Value.type "code", data := Data.fields #[Value.str (Str.ofString "apart") 355, Value.str (Str.ofString "apart") 356, Value.str (Str.ofString "/claim/cut.py") 357, Value.int 34 0, Value.int 2 0, Value.int 0 0, Value.int 0 0, Value.int 3 0, Value.ref 140, Value.bool true, Value.int 181 0, Value.ref 141, Value.none, Value.ref 142, Value.ref 143, Value.ref 144, Value.int 361 0, Value.int 34 0, Value.str (Str.ofString "/claim/cut.py") 362] }
def hob385 : Params → Obj := fun _ => { cls := Value.type "tuple", data := Data.seq #[] }
def hob393 : Params → Obj := fun _ => { cls := Value.none, data := Data.fields #[] }
def hob140 : Params → Obj := fun _ => { cls := Value.none, data := Data.fields #[Value.int 2 0, Value.int 0 0, Value.ref 20, Value.int 4 0, Value.int 0 0, Value.ref 33, Value.int 6 0, Value.int 0 0, Value.ref 45, Value.int 8 0, Value.int 0 0, Value.ref 57, Value.int 10 0, Value.int 0 0, Value.ref 69, Value.int 12 0, Value.int 0 0, Value.ref 81, Value.int 14 0, Value.int 0 0, Value.ref 93] }
def hob148 : Params → Obj := fun _ => { cls := Value.type "frame", slots := #[some (Value.ref 93), some (Value.ref 3), some (Value.ref 90), none, some (Value.str (Str.ofString "nearfrac.errors") 187), none, some (Value.ref 0)] }
def hob368 : Params → Obj := fun _ => { cls := Value.type "function", data := Data.func { name := Str.ofString "_law_pair_by", qualname := Str.ofString "_law_pair_by", params := hfp 40, body := FuncBody.stmts (hfb 40), scope := hfs 40, globals := 3, closure := [], defaults := Value.none, kwdefaults := Value.none, pyModule := Value.str (Str.ofString "law_uf050018_14") 474, code := Value.ref 306 } }
def hob76 : Params → Obj := fun _ => { cls := Value.type "type", data := Data.cls { name := Str.ofString "NoFraction", bases := [Value.ref 24], mro := [Value.ref 37, Value.ref 24, Value.type "ValueError", Value.type "Exception", Value.type "BaseException", Value.type "object"], ns := 36, qualname := Str.ofString "NoFraction" }, slots := #[some (Value.ref 28), none, some (Value.str (Str.ofString "NoFraction") 207), some (Value.str (Str.ofString "NoFraction") 215), some (Value.builtin "ValueError.__new__"), some (Value.bool true)] }
def hob129 : Params → Obj := fun P => { cls := Value.type "dict", data := Data.dict #[{ hash := PyData.keyHash P (Str.ofString "__module__"), key := Value.str (Str.ofString "__module__") 278, val := Value.str (Str.ofString "nearfrac.errors") 187 }, { hash := PyData.keyHash P (Str.ofString "__qualname__"), key := Value.str (Str.ofString "__qualname__") 280, val := Value.str (Str.ofString "Unsure") 279 }, { hash := PyData.keyHash P (Str.ofString "__firstlineno__"), key := Value.str (Str.ofString "__firstlineno__") 282, val := Value.int 12 281 }, { hash := PyData.keyHash P (Str.ofString "__static_attributes__"), key := Value.str (Str.ofString "__static_attributes__") 283, val := Value.ref 83 }] 4 }
def hob64 : Params → Obj := fun P => { cls := Value.type "dict", data := Data.dict #[{ hash := PyData.keyHash P (Str.ofString "__name__"), key := Value.str (Str.ofString "__name__") 165, val := Value.str (Str.ofString "nearfrac.errors") 187 }, { hash := PyData.keyHash P (Str.ofString "__doc__"), key := Value.str (Str.ofString "__doc__") 166, val := Value.none }, { hash := PyData.keyHash P (Str.ofString "__package__"), key := Value.str (Str.ofString "__package__") 167, val := Value.none }, { hash := PyData.keyHash P (Str.ofString "__loader__"), key := Value.str (Str.ofString "__loader__") 168, val := Value.builtin "__main__.__loader__#opaque" }, { hash := PyData.keyHash P (Str.ofString "__spec__"), key := Value.str (Str.ofString "__spec__") 169, val := Value.none }, { hash := PyData.keyHash P (Str.ofString "__annotations__"), key := Value.str (Str.ofString "__annotations__") 170, val := Value.ref 6 }, { hash := PyData.keyHash P (Str.ofString "__builtins__"), key := Value.str (Str.ofString "__builtins__") 171, val := Value.ref 4 }, { hash := PyData.keyHash P (Str.ofString "__file__"), key := Value.str (Str.ofString "__file__") 173, val := Value.str (Str.ofString "/claim/cut.py") 172 }, { hash := PyData.keyHash P (Str.ofString "__cached__"), key := Value.str (Str.ofString "__cached__") 174, val := Value.none }, { hash := PyData.keyHash P (Str.ofString "FractionError"), key := Value.str (Str.ofString "FractionError") 206, val := Value.ref 24 }, { hash := PyData.keyHash P (Str.ofString "NoFraction"), key := Value.str (Str.ofString "NoFraction") 222, val := Value.ref 37 }] 11 }
def hob246 : Params → Obj := fun _ => { cls := Value.type "code", data := Data.fields #[Value.str (Str.ofString "around") 408, Value.str (Str.ofString "around") 409, Value.str (Str.ofString "/claim/cut.py") 410, Value.int 52 0, Value.int 2 0, Value.int 0 0, Value.int 0 0, Value.int 3 0, Value.ref 182, Value.bool true, Value.int 181 0, Value.ref 183, Value.none, Value.ref 184, Value.ref 185, Value.ref 186, Value.int 417 0, Value.int 52 0, Value.str (Str.ofString "/claim/cut.py") 418] }
def hob362 : Params → Obj := fun _ => { cls := Value.type "tuple", data := Data.seq #[] }
def hob270 : Params → Obj := fun _ => { cls := Value.none, data := Data.fields #[] }
def hob150 : Params → Obj := fun P => { cls := Value.type "dict", data := Data.dict #[{ hash := PyData.keyHash P (Str.ofString "__module__"), key := Value.str (Str.ofString "__module__") 294, val := Value.str (Str.ofString "nearfrac.errors") 187 }, { hash := PyData.keyHash P (Str.ofString "__firstlineno__"), key := Value.str (Str.ofString "__firstlineno__") 298, val := Value.int 14 297 }, { hash := PyData.keyHash P (Str.ofString "__static_attributes__"), key := Value.str (Str.ofString "__static_attributes__") 299, val := Value.ref 95 }, { hash := PyData.keyHash P (Str.ofString "__doc__"), key := Value.str (Str.ofString "__doc__") 300, val := Value.none }] 2 }
def hob337 : Params → Obj := fun _ => { cls := Value.type "tuple", data := Data.seq #[] }
def hob127 : Params → Obj := fun _ => { cls := Value.type "tuple", data := Data.seq #[Value.ref 24] }
def hob266 : Params → Obj := fun _ => { cls := Value.none, data := Data.func { name := Str.ofString "walked", qualname := Str.ofString "walked", params := hfp 25, body := FuncBody.stmts (hfb 25), scope := hfs 25, globals := 0, closure := [], defaults := Value.none, kwdefaults := Value.none } }
def hob397 : Params → Obj := fun _ => { cls := Value.type "code", data := Data.fields #[Value.str (Str.ofString "law") 622, Value.str (Str.ofString "law") 623, Value.str (Str.ofString "/claim/cut.py") 624, Value.int 198 0, Value.int 1 0, Value.int 0 0, Value.int 0 0, Value.int 3 0, Value.ref 329, Value.bool true, Value.int 181 0, Value.ref 330, Value.none, Value.ref 331, Value.ref 332, Value.ref 333, Value.int 635 0, Value.int 198 0, Value.str (Str.ofString "/claim/cut.py") 636] }
def hob249 : Params → Obj := fun _ => { cls := Value.none, data := Data.fields #[] }
def hob339 : Params → Obj := fun _ => { cls := Value.type "code", data := Data.fields #[Value.str (Str.ofString "_law_drawn") 532, Value.str (Str.ofString "_law_drawn") 533, Value.str (Str.ofString "/claim/cut.py") 534, Value.int 139 0, Value.int 3 0, Value.int 0 0, Value.int 0 0, Value.int 3 0, Value.ref 273, Value.bool true, Value.int 181 0, Value.ref 274, Value.none, Value.ref 275, Value.ref 276, Value.ref 277, Value.int 540 0, Value.int 139 0, Value.str (Str.ofString "/claim/cut.py") 541] }
def hob242 : Params → Obj := fun _ => { cls := Value.none, data := Data.fields #[] }
def hob201 : Params → Obj := fun _ => { cls := Value.none, data := Data.func { name := Str.ofString "apart", qualname := Str.ofString "apart", params := hfp 14, body := FuncBody.stmts (hfb 14), scope := hfs 14, globals := 0, closure := [], defaults := Value.none, kwdefaults := Value.none } }
def hob324 : Params → Obj := fun _ => { cls := Value.none, data := Data.func { name := Str.ofString "_law_is_frac", qualname := Str.ofString "_law_is_frac", params := hfp 34, body := FuncBody.stmts (hfb 34), scope := hfs 34, globals := 0, closure := [], defaults := Value.none, kwdefaults := Value.none } }
def hob208 : Params → Obj := fun _ => { cls := Value.type "tuple", data := Data.seq #[Value.str (Str.ofString "most") 369] }
def hob134 : Params → Obj := fun _ => { cls := Value.type "tuple", data := Data.seq #[] }
def hob87 : Params → Obj := fun _ => { cls := Value.type "code", data := Data.fields #[Value.str (Str.ofString "NoPath") 225, Value.str (Str.ofString "NoPath") 226, Value.str (Str.ofString "/claim/cut.py") 227, Value.int 6 0, Value.int 0 0, Value.int 0 0, Value.int 0 0, Value.int 0 0, Value.ref 43, Value.bool false, Value.int 181 0, Value.ref 44, Value.none, Value.none, Value.none, Value.none, Value.int 228 0, Value.int 6 0, Value.str (Str.ofString "/claim/cut.py") 229] }
def hob125 : Params → Obj := fun _ => { cls := Value.none, data := Data.fields #[Value.int 2 0, Value.int 0 0, Value.ref 20, Value.int 4 0, Value.int 0 0, Value.ref 33, Value.int 6 0, Value.int 0 0, Value.ref 45, Value.int 8 0, Value.int 0 0, Value.ref 57, Value.int 10 0, Value.int 0 0, Value.ref 69, Value.int 12 0, Value.int 0 0, Value.ref 81] }
def hob328 : Params → Obj := fun _ => { cls := Value.none, data := Data.fields #[] }
def hob265 : Params → Obj := fun _ => { cls := Value.type "tuple", data := Data.seq #[] }
def hob333 : Params → Obj := fun _ => { cls := Value.type "function", data := Data.func { name := Str.ofString "_law_number", qualname := Str.ofString "_law_number", params := hfp 35, body := FuncBody.stmts (hfb 35), scope := hfs 35, globals := 3, closure := [], defaults := Value.none, kwdefaults := Value.none, pyModule := Value.str (Str.ofString "law_uf050018_14") 474, code := Value.ref 271 } }
def hob391 : Params → Obj := fun _ => { cls := Value.type "function", data := Data.func { name := Str.ofString "_law_right", qualname := Str.ofString "_law_right", params := hfp 43, body := FuncBody.stmts (hfb 43), scope := hfs 43, globals := 3, closure := [], defaults := Value.none, kwdefaults := Value.none, pyModule := Value.str (Str.ofString "law_uf050018_14") 474, code := Value.ref 327 } }
def hob119 : Params → Obj := fun _ => { cls := Value.type "tuple", data := Data.seq #[] }
def hob52 : Params → Obj := fun _ => { cls := Value.type "builtin_function_or_method", data := Data.fields #[Value.builtin "type.__prepare__", Value.type "type"] }
def hob224 : Params → Obj := fun _ => { cls := Value.none, data := Data.func { name := Str.ofString "gap", qualname := Str.ofString "gap", params := hfp 18, body := FuncBody.stmts (hfb 18), scope := hfs 18, globals := 0, closure := [], defaults := Value.none, kwdefaults := Value.none } }
def hob126 : Params → Obj := fun _ => { cls := Value.type "type", data := Data.cls { name := Str.ofString "FractionError", bases := [Value.type "ValueError"], mro := [Value.ref 24, Value.type "ValueError", Value.type "Exception", Value.type "BaseException", Value.type "object"], ns := 23, qualname := Str.ofString "FractionError", subclasses := [Value.ref 37, Value.ref 49, Value.ref 61, Value.ref 73, Value.ref 85] }, slots := #[some (Value.ref 15), none, some (Value.str (Str.ofString "FractionError") 189), some (Value.str (Str.ofString "FractionError") 197), some (Value.builtin "ValueError.__new__"), some (Value.bool true)] }
def hob303 : Params → Obj := fun _ => { cls := Value.none, data := Data.func { name := Str.ofString "_law_whole", qualname := Str.ofString "_law_whole", params := hfp 31, body := FuncBody.stmts (hfb 31), scope := hfs 31, globals := 0, closure := [], defaults := Value.none, kwdefaults := Value.none } }
def hob298 : Params → Obj := fun _ => { cls := Value.type "function", data := Data.func { name := Str.ofString "_law_way", qualname := Str.ofString "_law_way", params := hfp 30, body := FuncBody.stmts (hfb 30), scope := hfs 30, globals := 3, closure := [], defaults := Value.none, kwdefaults := Value.none, pyModule := Value.str (Str.ofString "law_uf050018_14") 474, code := Value.ref 236 } }
def hob113 : Params → Obj := fun _ => { cls := Value.type "builtin_function_or_method", data := Data.fields #[Value.builtin "type.__prepare__", Value.type "type"] }
def hob381 : Params → Obj := fun _ => { cls := Value.type "tuple", data := Data.seq #[] }
def hob117 : Params → Obj := fun _ => { cls := Value.type "code", data := Data.fields #[Value.str (Str.ofString "NoRoom") 257, Value.str (Str.ofString "NoRoom") 258, Value.str (Str.ofString "/claim/cut.py") 259, Value.int 10 0, Value.int 0 0, Value.int 0 0, Value.int 0 0, Value.int 0 0, Value.ref 67, Value.bool false, Value.int 181 0, Value.ref 68, Value.none, Value.none, Value.none, Value.none, Value.int 260 0, Value.int 10 0, Value.str (Str.ofString "/claim/cut.py") 261] }
def hob173 : Params → Obj := fun _ => { cls := Value.none, data := Data.func { name := Str.ofString "is_whole", qualname := Str.ofString "is_whole", params := hfp 10, body := FuncBody.stmts (hfb 10), scope := hfs 10, globals := 0, closure := [], defaults := Value.none, kwdefaults := Value.none } }
def hob154 : Params → Obj := fun P => { cls := Value.type "dict", data := Data.dict #[{ hash := PyData.keyHash P (Str.ofString "__name__"), key := Value.str (Str.ofString "__name__") 165, val := Value.str (Str.ofString "nearfrac.near") 364 }, { hash := PyData.keyHash P (Str.ofString "__doc__"), key := Value.str (Str.ofString "__doc__") 166, val := Value.none }, { hash := PyData.keyHash P (Str.ofString "__package__"), key := Value.str (Str.ofString "__package__") 167, val := Value.none }, { hash := PyData.keyHash P (Str.ofString "__loader__"), key := Value.str (Str.ofString "__loader__") 168, val := Value.builtin "__main__.__loader__#opaque" }, { hash := PyData.keyHash P (Str.ofString "__spec__"), key := Value.str (Str.ofString "__spec__") 169, val := Value.none }, { hash := PyData.keyHash P (Str.ofString "__annotations__"), key := Value.str (Str.ofString "__annotations__") 170, val := Value.ref 6 }, { hash := PyData.keyHash P (Str.ofString "__builtins__"), key := Value.str (Str.ofString "__builtins__") 171, val := Value.ref 4 }, { hash := PyData.keyHash P (Str.ofString "__file__"), key := Value.str (Str.ofString "__file__") 173, val := Value.str (Str.ofString "/claim/cut.py") 172 }, { hash := PyData.keyHash P (Str.ofString "__cached__"), key := Value.str (Str.ofString "__cached__") 174, val := Value.none }, { hash := PyData.keyHash P (Str.ofString "FractionError"), key := Value.str (Str.ofString "FractionError") 206, val := Value.ref 24 }, { hash := PyData.keyHash P (Str.ofString "NoFraction"), key := Value.str (Str.ofString "NoFraction") 222, val := Value.ref 37 }, { hash := PyData.keyHash P (Str.ofString "NoPath"), key := Value.str (Str.ofString "NoPath") 238, val := Value.ref 49 }, { hash := PyData.keyHash P (Str.ofString "NoBounds"), key := Value.str (Str.ofString "NoBounds") 254, val := Value.ref 61 }, { hash := PyData.keyHash P (Str.ofString "NoRoom"), key := Value.str (Str.ofString "NoRoom") 270, val := Value.ref 73 }, { hash := PyData.keyHash P (Str.ofString "Unsure"), key := Value.str (Str.ofString "Unsure") 286, val := Value.ref 85 }, { hash := PyData.keyHash P (Str.ofString "NoText"), key := Value.str (Str.ofString "NoText") 302, val := Value.ref 97 }, { hash := PyData.keyHash P (Str.ofString "NoNumber"), key := Value.str (Str.ofString "NoNumber") 318, val := Value.ref 109 }, { hash := PyData.keyHash P (Str.ofString "is_whole"), key := Value.str (Str.ofString "is_whole") 328, val := Value.ref 118 }, { hash := PyData.keyHash P (Str.ofString "divisor"), key := Value.str (Str.ofString "divisor") 337, val := Value.ref 125 }, { hash := PyData.keyHash P (Str.ofString "lowest"), key := Value.str (Str.ofString "lowest") 346, val := Value.ref 132 }, { hash := PyData.keyHash P (Str.ofString "less"), key := Value.str (Str.ofString "less") 354, val := Value.ref 139 }, { hash := PyData.keyHash P (Str.ofString "apart"), key := Value.str (Str.ofString "apart") 363, val := Value.ref 146 }] 22 }
def hob256 : Params → Obj := fun _ => { cls := Value.none, data := Data.fields #[] }
def hob367 : Params → Obj := fun _ => { cls := Value.type "code", data := Data.fields #[Value.str (Str.ofString "_law_pair_by") 573, Value.str (Str.ofString "_law_pair_by") 574, Value.str (Str.ofString "/claim/cut.py") 575, Value.int 159 0, Value.int 2 0, Value.int 0 0, Value.int 0 0, Value.int 3 0, Value.ref 301, Value.bool true, Value.int 181 0, Value.ref 302, Value.none, Value.ref 303, Value.ref 304, Value.ref 305, Value.int 584 0, Value.int 159 0, Value.str (Str.ofString "/claim/cut.py") 585] }
def hob99 : Params → Obj := fun P => { cls := Value.type "dict", data := Data.dict #[{ hash := PyData.keyHash P (Str.ofString "__module__"), key := Value.str (Str.ofString "__module__") 246, val := Value.str (Str.ofString "nearfrac.errors") 187 }, { hash := PyData.keyHash P (Str.ofString "__qualname__"), key := Value.str (Str.ofString "__qualname__") 248, val := Value.str (Str.ofString "NoBounds") 247 }, { hash := PyData.keyHash P (Str.ofString "__firstlineno__"), key := Value.str (Str.ofString "__firstlineno__") 250, val := Value.int 8 249 }, { hash := PyData.keyHash P (Str.ofString "__static_attributes__"), key := Value.str (Str.ofString "__static_attributes__") 251, val := Value.ref 59 }] 4 }
def hob143 : Params → Obj := fun _ => { cls := Value.type "builtin_function_or_method", data := Data.fields #[Value.builtin "type.__prepare__", Value.type "type"] }
def hob275 : Params → Obj := fun _ => { cls := Value.type "function", data := Data.func { name := Str.ofString "path_of", qualname := Str.ofString "path_of", params := hfp 26, body := FuncBody.stmts (hfb 26), scope := hfs 26, globals := 3, closure := [], defaults := Value.none, kwdefaults := Value.none, pyModule := Value.str (Str.ofString "nearfrac.tree") 442, code := Value.ref 215 } }
def hob222 : Params → Obj := fun _ => { cls := Value.type "tuple", data := Data.seq #[Value.str (Str.ofString "one") 384, Value.str (Str.ofString "other") 385] }
def hob101 : Params → Obj := fun _ => { cls := Value.none, data := Data.fields #[] }
def hob184 : Params → Obj := fun _ => { cls := Value.none, data := Data.fields #[] }
def hob96 : Params → Obj := fun _ => { cls := Value.type "type", data := Data.cls { name := Str.ofString "FractionError", bases := [Value.type "ValueError"], mro := [Value.ref 24, Value.type "ValueError", Value.type "Exception", Value.type "BaseException", Value.type "object"], ns := 23, qualname := Str.ofString "FractionError", subclasses := [Value.ref 37, Value.ref 49, Value.ref 61] }, slots := #[some (Value.ref 15), none, some (Value.str (Str.ofString "FractionError") 189), some (Value.str (Str.ofString "FractionError") 197), some (Value.builtin "ValueError.__new__"), some (Value.bool true)] }
def hob349 : Params → Obj := fun _ => { cls := Value.none, data := Data.fields #[] }
def hob320 : Params → Obj := fun _ => { cls := Value.type "tuple", data := Data.seq #[] }
def hob354 : Params → Obj := fun _ => { cls := Value.type "function", data := Data.func { name := Str.ofString "_law_found_by", qualname := Str.ofString "_law_found_by", params := hfp 38, body := FuncBody.stmts (hfb 38), scope := hfs 38, globals := 3, closure := [], defaults := Value.none, kwdefaults := Value.none, pyModule := Value.str (Str.ofString "law_uf050018_14") 474, code := Value.ref 292 } }
def ht78 (P : Params) : BT := (.node (boot_o_0 P) (.node (boot_o_1 P) (.node (hob64 P) (.node (boot_o_7 P) (.node (hob51 P) (.node (hob70 P) .nil .nil) .nil) (.node (hob59 P) (.node (hob78 P) .nil .nil) .nil)) (.node (hob43 P) (.node (hob55 P) (.node (hob74 P) .nil .nil) .nil) (.node (hob63 P) .nil .nil))) (.node (boot_o_5 P) (.node (boot_o_9 P) (.node (hob53 P) (.node (hob72 P) .nil .nil) .nil) (.node (hob61 P) .nil .nil)) (.node (hob45 P) (.node (hob57 P) (.node (hob76 P) .nil .nil) .nil) (.node (hob68 P) .nil .nil)))) (.node (boot_o_2 P) (.node (boot_o_4 P) (.node (boot_o_8 P) (.node (hob52 P) (.node (hob71 P) .nil .nil) .nil) (.node (hob66 P) .nil .nil)) (.node (hob65 P) (.node (hob56 P) (.node (hob75 P) .nil .nil) .nil) (.node (hob67 P) .nil .nil))) (.node (boot_o_6 P) (.node (boot_o_10 P) (.node (hob54 P) (.node (hob73 P) .nil .nil) .nil) (.node (hob62 P) .nil .nil)) (.node (hob46 P) (.node (hob58 P) (.node (hob77 P) .nil .nil) .nil) (.node (hob69 P) .nil .nil)))))
def ht108 (P : Params) : BT := (.node (boot_o_0 P) (.node (boot_o_1 P) (.node (hob94 P) (.node (boot_o_7 P) (.node (hob51 P) (.node (hob70 P) (.node (hob108 P) .nil .nil) .nil) (.node (hob89 P) .nil .nil)) (.node (hob59 P) (.node (hob78 P) .nil .nil) (.node (hob100 P) .nil .nil))) (.node (hob43 P) (.node (hob55 P) (.node (hob74 P) .nil .nil) (.node (hob93 P) .nil .nil)) (.node (hob63 P) (.node (hob85 P) .nil .nil) (.node (hob104 P) .nil .nil)))) (.node (boot_o_5 P) (.node (boot_o_9 P) (.node (hob53 P) (.node (hob72 P) .nil .nil) (.node (hob91 P) .nil .nil)) (.node (hob61 P) (.node (hob83 P) .nil .nil) (.node (hob102 P) .nil .nil))) (.node (hob45 P) (.node (hob57 P) (.node (hob76 P) .nil .nil) (.node (hob98 P) .nil .nil)) (.node (hob68 P) (.node (hob87 P) .nil .nil) (.node (hob106 P) .nil .nil))))) (.node (boot_o_2 P) (.node (boot_o_4 P) (.node (boot_o_8 P) (.node (hob52 P) (.node (hob71 P) .nil .nil) (.node (hob90 P) .nil .nil)) (.node (hob96 P) (.node (hob82 P) .nil .nil) (.node (hob101 P) .nil .nil))) (.node (hob95 P) (.node (hob56 P) (.node (hob75 P) .nil .nil) (.node (hob97 P) .nil .nil)) (.node (hob67 P) (.node (hob86 P) .nil .nil) (.node (hob105 P) .nil .nil)))) (.node (boot_o_6 P) (.node (boot_o_10 P) (.node (hob54 P) (.node (hob73 P) .nil .nil) (.node (hob92 P) .nil .nil)) (.node (hob62 P) (.node (hob84 P) .nil .nil) (.node (hob103 P) .nil .nil))) (.node (hob46 P) (.node (hob58 P) (.node (hob77 P) .nil .nil) (.node (hob99 P) .nil .nil)) (.node (hob69 P) (.node (hob88 P) .nil .nil) (.node (hob107 P) .nil .nil))))))
def ht398 (P : Params) : BT := (.node (boot_o_0 P) (.node (boot_o_1 P) (.node (hob376 P) (.node (boot_o_7 P) (.node (hob51 P) (.node (hob70 P) (.node (hob108 P) (.node (hob184 P) (.node (hob316 P) .nil .nil) .nil) (.node (hob250 P) (.node (hob382 P) .nil .nil) .nil)) (.node (hob149 P) (.node (hob218 P) (.node (hob348 P) .nil .nil) .nil) (.node (hob282 P) .nil .nil))) (.node (hob89 P) (.node (hob130 P) (.node (hob200 P) (.node (hob332 P) .nil .nil) .nil) (.node (hob266 P) (.node (hob398 P) .nil .nil) .nil)) (.node (hob168 P) (.node (hob234 P) (.node (hob364 P) .nil .nil) .nil) (.node (hob300 P) .nil .nil)))) (.node (hob59 P) (.node (hob78 P) (.node (hob119 P) (.node (hob192 P) (.node (hob324 P) .nil .nil) .nil) (.node (hob258 P) (.node (hob390 P) .nil .nil) .nil)) (.node (hob160 P) (.node (hob226 P) (.node (hob356 P) .nil .nil) .nil) (.node (hob292 P) .nil .nil))) (.node (hob100 P) (.node (hob138 P) (.node (hob210 P) (.node (hob340 P) .nil .nil) .nil) (.node (hob274 P) .nil .nil)) (.node (hob176 P) (.node (hob242 P) (.node (hob372 P) .nil .nil) .nil) (.node (hob308 P) .nil .nil))))) (.node (hob43 P) (.node (hob55 P) (.node (hob74 P) (.node (hob115 P) (.node (hob188 P) (.node (hob320 P) .nil .nil) .nil) (.node (hob254 P) (.node (hob386 P) .nil .nil) .nil)) (.node (hob153 P) (.node (hob222 P) (.node (hob352 P) .nil .nil) .nil) (.node (hob286 P) .nil .nil))) (.node (hob93 P) (.node (hob134 P) (.node (hob206 P) (.node (hob336 P) .nil .nil) .nil) (.node (hob270 P) .nil .nil)) (.node (hob172 P) (.node (hob238 P) (.node (hob368 P) .nil .nil) .nil) (.node (hob304 P) .nil .nil)))) (.node (hob63 P) (.node (hob85 P) (.node (hob123 P) (.node (hob196 P) (.node (hob328 P) .nil .nil) .nil) (.node (hob262 P) (.node (hob394 P) .nil .nil) .nil)) (.node (hob164 P) (.node (hob230 P) (.node (hob360 P) .nil .nil) .nil) (.node (hob296 P) .nil .nil))) (.node (hob104 P) (.node (hob145 P) (.node (hob214 P) (.node (hob344 P) .nil .nil) .nil) (.node (hob278 P) .nil .nil)) (.node (hob180 P) (.node (hob246 P) (.node (hob378 P) .nil .nil) .nil) (.node (hob312 P) .nil .nil)))))) (.node (boot_o_5 P) (.node (boot_o_9 P) (.node (hob53 P) (.node (hob72 P) (.node (hob113 P) (.node (hob186 P) (.node (hob318 P) .nil .nil) .nil) (.node (hob252 P) (.node (hob384 P) .nil .nil) .nil)) (.node (hob151 P) (.node (hob220 P) (.node (hob350 P) .nil .nil) .nil) (.node (hob284 P) .nil .nil))) (.node (hob91 P) (.node (hob132 P) (.node (hob202 P) (.node (hob334 P) .nil .nil) .nil) (.node (hob268 P) .nil .nil)) (.node (hob170 P) (.node (hob236 P) (.node (hob366 P) .nil .nil) .nil) (.node (hob302 P) .nil .nil)))) (.node (hob61 P) (.node (hob83 P) (.node (hob121 P) (.node (hob194 P) (.node (hob326 P) .nil .nil) .nil) (.node (hob260 P) (.node (hob392 P) .nil .nil) .nil)) (.node (hob162 P) (.node (hob228 P) (.node (hob358 P) .nil .nil) .nil) (.node (hob294 P) .nil .nil))) (.node (hob102 P) (.node (hob143 P) (.node (hob212 P) (.node (hob342 P) .nil .nil) .nil) (.node (hob276 P) .nil .nil)) (.node (hob178 P) (.node (hob244 P) (.node (hob374 P) .nil .nil) .nil) (.node (hob310 P) .nil .nil))))) (.node (hob45 P) (.node (hob57 P) (.node (hob76 P) (.node (hob117 P) (.node (hob190 P) (.node (hob322 P) .nil .nil) .nil) (.node (hob256 P) (.node (hob388 P) .nil .nil) .nil)) (.node (hob158 P) (.node (hob224 P) (.node (hob354 P) .nil .nil) .nil) (.node (hob288 P) .nil .nil))) (.node (hob98 P) (.node (hob136 P) (.node (hob208 P) (.node (hob338 P) .nil .nil) .nil) (.node (hob272 P) .nil .nil)) (.node (hob174 P) (.node (hob240 P) (.node (hob370 P) .nil .nil) .nil) (.node (hob306 P) .nil .nil)))) (.node (hob68 P) (.node (hob87 P) (.node (hob128 P) (.node (hob198 P) (.node (hob330 P) .nil .nil) .nil) (.node (hob264 P) (.node (hob396 P) .nil .nil) .nil)) (.node (hob166 P) (.node (hob232 P) (.node (hob362 P) .nil .nil) .nil) (.node (hob298 P) .nil .nil))) (.node (hob106 P) (.node (hob147 P) (.node (hob216 P) (.node (hob346 P) .nil .nil) .nil) (.node (hob280 P) .nil .nil)) (.node (hob182 P) (.node (hob248 P) (.node (hob380 P) .nil .nil) .nil) (.node (hob314 P) .nil .nil))))))) (.node (boot_o_2 P) (.node (boot_o_4 P) (.node (boot_o_8 P) (.node (hob52 P) (.node (hob71 P) (.node (hob112 P) (.node (hob185 P) (.node (hob317 P) .nil .nil) .nil) (.node (hob251 P) (.node (hob383 P) .nil .nil) .nil)) (.node (hob150 P) (.node (hob219 P) (.node (hob349 P) .nil .nil) .nil) (.node (hob283 P) .nil .nil))) (.node (hob90 P) (.node (hob131 P) (.node (hob201 P) (.node (hob333 P) .nil .nil) .nil) (.node (hob267 P) .nil .nil)) (.node (hob169 P) (.node (hob235 P) (.node (hob365 P) .nil .nil) .nil) (.node (hob301 P) .nil .nil)))) (.node (hob156 P) (.node (hob82 P) (.node (hob120 P) (.node (hob193 P) (.node (hob325 P) .nil .nil) .nil) (.node (hob259 P) (.node (hob391 P) .nil .nil) .nil)) (.node (hob161 P) (.node (hob227 P) (.node (hob357 P) .nil .nil) .nil) (.node (hob293 P) .nil .nil))) (.node (hob101 P) (.node (hob142 P) (.node (hob211 P) (.node (hob341 P) .nil .nil) .nil) (.node (hob275 P) .nil .nil)) (.node (hob177 P) (.node (hob243 P) (.node (hob373 P) .nil .nil) .nil) (.node (hob309 P) .nil .nil))))) (.node (hob377 P) (.node (hob56 P) (.node (hob75 P) (.node (hob116 P) (.node (hob189 P) (.node (hob321 P) .nil .nil) .nil) (.node (hob255 P) (.node (hob387 P) .nil .nil) .nil)) (.node (hob157 P) (.node (hob223 P) (.node (hob353 P) .nil .nil) .nil) (.node (hob287 P) .nil .nil))) (.node (hob97 P) (.node (hob135 P) (.node (hob207 P) (.node (hob337 P) .nil .nil) .nil) (.node (hob271 P) .nil .nil)) (.node (hob173 P) (.node (hob239 P) (.node (hob369 P) .nil .nil) .nil) (.node (hob305 P) .nil .nil)))) (.node (hob67 P) (.node (hob86 P) (.node (hob127 P) (.node (hob197 P) (.node (hob329 P) .nil .nil) .nil) (.node (hob263 P) (.node (hob395 P) .nil .nil) .nil)) (.node (hob165 P) (.node (hob231 P) (.node (hob361 P) .nil .nil) .nil) (.node (hob297 P) .nil .nil))) (.node (hob105 P) (.node (hob146 P) (.node (hob215 P) (.node (hob345 P) .nil .nil) .nil) (.node (hob279 P) .nil .nil)) (.node (hob181 P) (.node (hob247 P) (.node (hob379 P) .nil .nil) .nil) (.node (hob313 P) .nil .nil)))))) (.node (boot_o_6 P) (.node (boot_o_10 P) (.node (hob54 P) (.node (hob73 P) (.node (hob114 P) (.node (hob187 P) (.node (hob319 P) .nil .nil) .nil) (.node (hob253 P) (.node (hob385 P) .nil .nil) .nil)) (.node (hob152 P) (.node (hob221 P) (.node (hob351 P) .nil .nil) .nil) (.node (hob285 P) .nil .nil))) (.node (hob92 P) (.node (hob133 P) (.node (hob203 P) (.node (hob335 P) .nil .nil) .nil) (.node (hob269 P) .nil .nil)) (.node (hob171 P) (.node (hob237 P) (.node (hob367 P) .nil .nil) .nil) (.node (hob303 P) .nil .nil)))) (.node (hob62 P) (.node (hob84 P) (.node (hob122 P) (.node (hob195 P) (.node (hob327 P) .nil .nil) .nil) (.node (hob261 P) (.node (hob393 P) .nil .nil) .nil)) (.node (hob163 P) (.node (hob229 P) (.node (hob359 P) .nil .nil) .nil) (.node (hob295 P) .nil .nil))) (.node (hob103 P) (.node (hob144 P) (.node (hob213 P) (.node (hob343 P) .nil .nil) .nil) (.node (hob277 P) .nil .nil)) (.node (hob179 P) (.node (hob245 P) (.node (hob375 P) .nil .nil) .nil) (.node (hob311 P) .nil .nil))))) (.node (hob46 P) (.node (hob58 P) (.node (hob77 P) (.node (hob118 P) (.node (hob191 P) (.node (hob323 P) .nil .nil) .nil) (.node (hob257 P) (.node (hob389 P) .nil .nil) .nil)) (.node (hob159 P) (.node (hob225 P) (.node (hob355 P) .nil .nil) .nil) (.node (hob289 P) .nil .nil))) (.node (hob99 P) (.node (hob137 P) (.node (hob209 P) (.node (hob339 P) .nil .nil) .nil) (.node (hob273 P) .nil .nil)) (.node (hob175 P) (.node (hob241 P) (.node (hob371 P) .nil .nil) .nil) (.node (hob307 P) .nil .nil)))) (.node (hob69 P) (.node (hob88 P) (.node (hob129 P) (.node (hob199 P) (.node (hob331 P) .nil .nil) .nil) (.node (hob265 P) (.node (hob397 P) .nil .nil) .nil)) (.node (hob167 P) (.node (hob233 P) (.node (hob363 P) .nil .nil) .nil) (.node (hob299 P) .nil .nil))) (.node (hob107 P) (.node (hob148 P) (.node (hob217 P) (.node (hob347 P) .nil .nil) .nil) (.node (hob281 P) .nil .nil)) (.node (hob183 P) (.node (hob249 P) (.node (hob381 P) .nil .nil) .nil) (.node (hob315 P) .nil .nil))))))))
def ht375 (P : Params) : BT := (.node (boot_o_0 P) (.node (boot_o_1 P) (.node (hob290 P) (.node (boot_o_7 P) (.node (hob51 P) (.node (hob70 P) (.node (hob108 P) (.node (hob184 P) (.node (hob316 P) .nil .nil) .nil) (.node (hob250 P) .nil .nil)) (.node (hob149 P) (.node (hob218 P) (.node (hob348 P) .nil .nil) .nil) (.node (hob282 P) .nil .nil))) (.node (hob89 P) (.node (hob130 P) (.node (hob200 P) (.node (hob332 P) .nil .nil) .nil) (.node (hob266 P) .nil .nil)) (.node (hob168 P) (.node (hob234 P) (.node (hob364 P) .nil .nil) .nil) (.node (hob300 P) .nil .nil)))) (.node (hob59 P) (.node (hob78 P) (.node (hob119 P) (.node (hob192 P) (.node (hob324 P) .nil .nil) .nil) (.node (hob258 P) .nil .nil)) (.node (hob160 P) (.node (hob226 P) (.node (hob356 P) .nil .nil) .nil) (.node (hob292 P) .nil .nil))) (.node (hob100 P) (.node (hob138 P) (.node (hob210 P) (.node (hob340 P) .nil .nil) .nil) (.node (hob274 P) .nil .nil)) (.node (hob176 P) (.node (hob242 P) (.node (hob372 P) .nil .nil) .nil) (.node (hob308 P) .nil .nil))))) (.node (hob43 P) (.node (hob55 P) (.node (hob74 P) (.node (hob115 P) (.node (hob188 P) (.node (hob320 P) .nil .nil) .nil) (.node (hob254 P) .nil .nil)) (.node (hob153 P) (.node (hob222 P) (.node (hob352 P) .nil .nil) .nil) (.node (hob286 P) .nil .nil))) (.node (hob93 P) (.node (hob134 P) (.node (hob206 P) (.node (hob336 P) .nil .nil) .nil) (.node (hob270 P) .nil .nil)) (.node (hob172 P) (.node (hob238 P) (.node (hob368 P) .nil .nil) .nil) (.node (hob304 P) .nil .nil)))) (.node (hob63 P) (.node (hob85 P) (.node (hob123 P) (.node (hob196 P) (.node (hob328 P) .nil .nil) .nil) (.node (hob262 P) .nil .nil)) (.node (hob164 P) (.node (hob230 P) (.node (hob360 P) .nil .nil) .nil) (.node (hob296 P) .nil .nil))) (.node (hob104 P) (.node (hob145 P) (.node (hob214 P) (.node (hob344 P) .nil .nil) .nil) (.node (hob278 P) .nil .nil)) (.node (hob180 P) (.node (hob246 P) .nil .nil) (.node (hob312 P) .nil .nil)))))) (.node (boot_o_5 P) (.node (boot_o_9 P) (.node (hob53 P) (.node (hob72 P) (.node (hob113 P) (.node (hob186 P) (.node (hob318 P) .nil .nil) .nil) (.node (hob252 P) .nil .nil)) (.node (hob151 P) (.node (hob220 P) (.node (hob350 P) .nil .nil) .nil) (.node (hob284 P) .nil .nil))) (.node (hob91 P) (.node (hob132 P) (.node (hob202 P) (.node (hob334 P) .nil .nil) .nil) (.node (hob268 P) .nil .nil)) (.node (hob170 P) (.node (hob236 P) (.node (hob366 P) .nil .nil) .nil) (.node (hob302 P) .nil .nil)))) (.node (hob61 P) (.node (hob83 P) (.node (hob121 P) (.node (hob194 P) (.node (hob326 P) .nil .nil) .nil) (.node (hob260 P) .nil .nil)) (.node (hob162 P) (.node (hob228 P) (.node (hob358 P) .nil .nil) .nil) (.node (hob294 P) .nil .nil))) (.node (hob102 P) (.node (hob143 P) (.node (hob212 P) (.node (hob342 P) .nil .nil) .nil) (.node (hob276 P) .nil .nil)) (.node (hob178 P) (.node (hob244 P) (.node (hob374 P) .nil .nil) .nil) (.node (hob310 P) .nil .nil))))) (.node (hob45 P) (.node (hob57 P) (.node (hob76 P) (.node (hob117 P) (.node (hob190 P) (.node (hob322 P) .nil .nil) .nil) (.node (hob256 P) .nil .nil)) (.node (hob158 P) (.node (hob224 P) (.node (hob354 P) .nil .nil) .nil) (.node (hob288 P) .nil .nil))) (.node (hob98 P) (.node (hob136 P) (.node (hob208 P) (.node (hob338 P) .nil .nil) .nil) (.node (hob272 P) .nil .nil)) (.node (hob174 P) (.node (hob240 P) (.node (hob370 P) .nil .nil) .nil) (.node (hob306 P) .nil .nil)))) (.node (hob68 P) (.node (hob87 P) (.node (hob128 P) (.node (hob198 P) (.node (hob330 P) .nil .nil) .nil) (.node (hob264 P) .nil .nil)) (.node (hob166 P) (.node (hob232 P) (.node (hob362 P) .nil .nil) .nil) (.node (hob298 P) .nil .nil))) (.node (hob106 P) (.node (hob147 P) (.node (hob216 P) (.node (hob346 P) .nil .nil) .nil) (.node (hob280 P) .nil .nil)) (.node (hob182 P) (.node (hob248 P) .nil .nil) (.node (hob314 P) .nil .nil))))))) (.node (boot_o_2 P) (.node (boot_o_4 P) (.node (boot_o_8 P) (.node (hob52 P) (.node (hob71 P) (.node (hob112 P) (.node (hob185 P) (.node (hob317 P) .nil .nil) .nil) (.node (hob251 P) .nil .nil)) (.node (hob150 P) (.node (hob219 P) (.node (hob349 P) .nil .nil) .nil) (.node (hob283 P) .nil .nil))) (.node (hob90 P) (.node (hob131 P) (.node (hob201 P) (.node (hob333 P) .nil .nil) .nil) (.node (hob267 P) .nil .nil)) (.node (hob169 P) (.node (hob235 P) (.node (hob365 P) .nil .nil) .nil) (.node (hob301 P) .nil .nil)))) (.node (hob156 P) (.node (hob82 P) (.node (hob120 P) (.node (hob193 P) (.node (hob325 P) .nil .nil) .nil) (.node (hob259 P) .nil .nil)) (.node (hob161 P) (.node (hob227 P) (.node (hob357 P) .nil .nil) .nil) (.node (hob293 P) .nil .nil))) (.node (hob101 P) (.node (hob142 P) (.node (hob211 P) (.node (hob341 P) .nil .nil) .nil) (.node (hob275 P) .nil .nil)) (.node (hob177 P) (.node (hob243 P) (.node (hob373 P) .nil .nil) .nil) (.node (hob309 P) .nil .nil))))) (.node (hob291 P) (.node (hob56 P) (.node (hob75 P) (.node (hob116 P) (.node (hob189 P) (.node (hob321 P) .nil .nil) .nil) (.node (hob255 P) .nil .nil)) (.node (hob157 P) (.node (hob223 P) (.node (hob353 P) .nil .nil) .nil) (.node (hob287 P) .nil .nil))) (.node (hob97 P) (.node (hob135 P) (.node (hob207 P) (.node (hob337 P) .nil .nil) .nil) (.node (hob271 P) .nil .nil)) (.node (hob173 P) (.node (hob239 P) (.node (hob369 P) .nil .nil) .nil) (.node (hob305 P) .nil .nil)))) (.node (hob67 P) (.node (hob86 P) (.node (hob127 P) (.node (hob197 P) (.node (hob329 P) .nil .nil) .nil) (.node (hob263 P) .nil .nil)) (.node (hob165 P) (.node (hob231 P) (.node (hob361 P) .nil .nil) .nil) (.node (hob297 P) .nil .nil))) (.node (hob105 P) (.node (hob146 P) (.node (hob215 P) (.node (hob345 P) .nil .nil) .nil) (.node (hob279 P) .nil .nil)) (.node (hob181 P) (.node (hob247 P) .nil .nil) (.node (hob313 P) .nil .nil)))))) (.node (boot_o_6 P) (.node (boot_o_10 P) (.node (hob54 P) (.node (hob73 P) (.node (hob114 P) (.node (hob187 P) (.node (hob319 P) .nil .nil) .nil) (.node (hob253 P) .nil .nil)) (.node (hob152 P) (.node (hob221 P) (.node (hob351 P) .nil .nil) .nil) (.node (hob285 P) .nil .nil))) (.node (hob92 P) (.node (hob133 P) (.node (hob203 P) (.node (hob335 P) .nil .nil) .nil) (.node (hob269 P) .nil .nil)) (.node (hob171 P) (.node (hob237 P) (.node (hob367 P) .nil .nil) .nil) (.node (hob303 P) .nil .nil)))) (.node (hob62 P) (.node (hob84 P) (.node (hob122 P) (.node (hob195 P) (.node (hob327 P) .nil .nil) .nil) (.node (hob261 P) .nil .nil)) (.node (hob163 P) (.node (hob229 P) (.node (hob359 P) .nil .nil) .nil) (.node (hob295 P) .nil .nil))) (.node (hob103 P) (.node (hob144 P) (.node (hob213 P) (.node (hob343 P) .nil .nil) .nil) (.node (hob277 P) .nil .nil)) (.node (hob179 P) (.node (hob245 P) (.node (hob375 P) .nil .nil) .nil) (.node (hob311 P) .nil .nil))))) (.node (hob46 P) (.node (hob58 P) (.node (hob77 P) (.node (hob118 P) (.node (hob191 P) (.node (hob323 P) .nil .nil) .nil) (.node (hob257 P) .nil .nil)) (.node (hob159 P) (.node (hob225 P) (.node (hob355 P) .nil .nil) .nil) (.node (hob289 P) .nil .nil))) (.node (hob99 P) (.node (hob137 P) (.node (hob209 P) (.node (hob339 P) .nil .nil) .nil) (.node (hob273 P) .nil .nil)) (.node (hob175 P) (.node (hob241 P) (.node (hob371 P) .nil .nil) .nil) (.node (hob307 P) .nil .nil)))) (.node (hob69 P) (.node (hob88 P) (.node (hob129 P) (.node (hob199 P) (.node (hob331 P) .nil .nil) .nil) (.node (hob265 P) .nil .nil)) (.node (hob167 P) (.node (hob233 P) (.node (hob363 P) .nil .nil) .nil) (.node (hob299 P) .nil .nil))) (.node (hob107 P) (.node (hob148 P) (.node (hob217 P) (.node (hob347 P) .nil .nil) .nil) (.node (hob281 P) .nil .nil)) (.node (hob183 P) (.node (hob249 P) .nil .nil) (.node (hob315 P) .nil .nil))))))))
def ht123 (P : Params) : BT := (.node (boot_o_0 P) (.node (boot_o_1 P) (.node (hob109 P) (.node (boot_o_7 P) (.node (hob51 P) (.node (hob70 P) (.node (hob108 P) .nil .nil) .nil) (.node (hob89 P) .nil .nil)) (.node (hob59 P) (.node (hob78 P) (.node (hob119 P) .nil .nil) .nil) (.node (hob100 P) .nil .nil))) (.node (hob43 P) (.node (hob55 P) (.node (hob74 P) (.node (hob115 P) .nil .nil) .nil) (.node (hob93 P) .nil .nil)) (.node (hob63 P) (.node (hob85 P) (.node (hob123 P) .nil .nil) .nil) (.node (hob104 P) .nil .nil)))) (.node (boot_o_5 P) (.node (boot_o_9 P) (.node (hob53 P) (.node (hob72 P) (.node (hob113 P) .nil .nil) .nil) (.node (hob91 P) .nil .nil)) (.node (hob61 P) (.node (hob83 P) (.node (hob121 P) .nil .nil) .nil) (.node (hob102 P) .nil .nil))) (.node (hob45 P) (.node (hob57 P) (.node (hob76 P) (.node (hob117 P) .nil .nil) .nil) (.node (hob98 P) .nil .nil)) (.node (hob68 P) (.node (hob87 P) .nil .nil) (.node (hob106 P) .nil .nil))))) (.node (boot_o_2 P) (.node (boot_o_4 P) (.node (boot_o_8 P) (.node (hob52 P) (.node (hob71 P) (.node (hob112 P) .nil .nil) .nil) (.node (hob90 P) .nil .nil)) (.node (hob111 P) (.node (hob82 P) (.node (hob120 P) .nil .nil) .nil) (.node (hob101 P) .nil .nil))) (.node (hob110 P) (.node (hob56 P) (.node (hob75 P) (.node (hob116 P) .nil .nil) .nil) (.node (hob97 P) .nil .nil)) (.node (hob67 P) (.node (hob86 P) .nil .nil) (.node (hob105 P) .nil .nil)))) (.node (boot_o_6 P) (.node (boot_o_10 P) (.node (hob54 P) (.node (hob73 P) (.node (hob114 P) .nil .nil) .nil) (.node (hob92 P) .nil .nil)) (.node (hob62 P) (.node (hob84 P) (.node (hob122 P) .nil .nil) .nil) (.node (hob103 P) .nil .nil))) (.node (hob46 P) (.node (hob58 P) (.node (hob77 P) (.node (hob118 P) .nil .nil) .nil) (.node (hob99 P) .nil .nil)) (.node (hob69 P) (.node (hob88 P) .nil .nil) (.node (hob107 P) .nil .nil))))))
def hh399 (P : Params) : Heap := ⟨Array.mk [boot_o_0 P, boot_o_1 P, boot_o_2 P, hob376 P, boot_o_4 P, boot_o_5 P, boot_o_6 P, boot_o_7 P, boot_o_8 P, boot_o_9 P, boot_o_10 P, hob43 P, hob377 P, hob45 P, hob46 P, hob51 P, hob52 P, hob53 P, hob54 P, hob55 P, hob56 P, hob57 P, hob58 P, hob59 P, hob156 P, hob61 P, hob62 P, hob63 P, hob67 P, hob68 P, hob69 P, hob70 P, hob71 P, hob72 P, hob73 P, hob74 P, hob75 P, hob76 P, hob77 P, hob78 P, hob82 P, hob83 P, hob84 P, hob85 P, hob86 P, hob87 P, hob88 P, hob89 P, hob90 P, hob91 P, hob92 P, hob93 P, hob97 P, hob98 P, hob99 P, hob100 P, hob101 P, hob102 P, hob103 P, hob104 P, hob105 P, hob106 P, hob107 P, hob108 P, hob112 P, hob113 P, hob114 P, hob115 P, hob116 P, hob117 P, hob118 P, hob119 P, hob120 P, hob121 P, hob122 P, hob123 P, hob127 P, hob128 P, hob129 P, hob130 P, hob131 P, hob132 P, hob133 P, hob134 P, hob135 P, hob136 P, hob137 P, hob138 P, hob142 P, hob143 P, hob144 P, hob145 P, hob146 P, hob147 P, hob148 P, hob149 P, hob150 P, hob151 P, hob152 P, hob153 P, hob157 P, hob158 P, hob159 P, hob160 P, hob161 P, hob162 P, hob163 P, hob164 P, hob165 P, hob166 P, hob167 P, hob168 P, hob169 P, hob170 P, hob171 P, hob172 P, hob173 P, hob174 P, hob175 P, hob176 P, hob177 P, hob178 P, hob179 P, hob180 P, hob181 P, hob182 P, hob183 P, hob184 P, hob185 P, hob186 P, hob187 P, hob188 P, hob189 P, hob190 P, hob191 P, hob192 P, hob193 P, hob194 P, hob195 P, hob196 P, hob197 P, hob198 P, hob199 P, hob200 P, hob201 P, hob202 P, hob203 P, hob206 P, hob207 P, hob208 P, hob209 P, hob210 P, hob211 P, hob212 P, hob213 P, hob214 P, hob215 P, hob216 P, hob217 P, hob218 P, hob219 P, hob220 P, hob221 P, hob222 P, hob223 P, hob224 P, hob225 P, hob226 P, hob227 P, hob228 P, hob229 P, hob230 P, hob231 P, hob232 P, hob233 P, hob234 P, hob235 P, hob236 P, hob237 P, hob238 P, hob239 P, hob240 P, hob241 P, hob242 P, hob243 P, hob244 P, hob245 P, hob246 P, hob247 P, hob248 P, hob249 P, hob250 P, hob251 P, hob252 P, hob253 P, hob254 P, hob255 P, hob256 P, hob257 P, hob258 P, hob259 P, hob260 P, hob261 P, hob262 P, hob263 P, hob264 P, hob265 P, hob266 P, hob267 P, hob268 P, hob269 P, hob270 P, hob271 P, hob272 P, hob273 P, hob274 P, hob275 P, hob276 P, hob277 P, hob278 P, hob279 P, hob280 P, hob281 P, hob282 P, hob283 P, hob284 P, hob285 P, hob286 P, hob287 P, hob288 P, hob289 P, hob292 P, hob293 P, hob294 P, hob295 P, hob296 P, hob297 P, hob298 P, hob299 P, hob300 P, hob301 P, hob302 P, hob303 P, hob304 P, hob305 P, hob306 P, hob307 P, hob308 P, hob309 P, hob310 P, hob311 P, hob312 P, hob313 P, hob314 P, hob315 P, hob316 P, hob317 P, hob318 P, hob319 P, hob320 P, hob321 P, hob322 P, hob323 P, hob324 P, hob325 P, hob326 P, hob327 P, hob328 P, hob329 P, hob330 P, hob331 P, hob332 P, hob333 P, hob334 P, hob335 P, hob336 P, hob337 P, hob338 P, hob339 P, hob340 P, hob341 P, hob342 P, hob343 P, hob344 P, hob345 P, hob346 P, hob347 P, hob348 P, hob349 P, hob350 P, hob351 P, hob352 P, hob353 P, hob354 P, hob355 P, hob356 P, hob357 P, hob358 P, hob359 P, hob360 P, hob361 P, hob362 P, hob363 P, hob364 P, hob365 P, hob366 P, hob367 P, hob368 P, hob369 P, hob370 P, hob371 P, hob372 P, hob373 P, hob374 P, hob375 P, hob378 P, hob379 P, hob380 P, hob381 P, hob382 P, hob383 P, hob384 P, hob385 P, hob386 P, hob387 P, hob388 P, hob389 P, hob390 P, hob391 P, hob392 P, hob393 P, hob394 P, hob395 P, hob396 P, hob397 P, hob398 P], {}⟩
def ht138 (P : Params) : BT := (.node (boot_o_0 P) (.node (boot_o_1 P) (.node (hob124 P) (.node (boot_o_7 P) (.node (hob51 P) (.node (hob70 P) (.node (hob108 P) .nil .nil) .nil) (.node (hob89 P) (.node (hob130 P) .nil .nil) .nil)) (.node (hob59 P) (.node (hob78 P) (.node (hob119 P) .nil .nil) .nil) (.node (hob100 P) (.node (hob138 P) .nil .nil) .nil))) (.node (hob43 P) (.node (hob55 P) (.node (hob74 P) (.node (hob115 P) .nil .nil) .nil) (.node (hob93 P) (.node (hob134 P) .nil .nil) .nil)) (.node (hob63 P) (.node (hob85 P) (.node (hob123 P) .nil .nil) .nil) (.node (hob104 P) .nil .nil)))) (.node (boot_o_5 P) (.node (boot_o_9 P) (.node (hob53 P) (.node (hob72 P) (.node (hob113 P) .nil .nil) .nil) (.node (hob91 P) (.node (hob132 P) .nil .nil) .nil)) (.node (hob61 P) (.node (hob83 P) (.node (hob121 P) .nil .nil) .nil) (.node (hob102 P) .nil .nil))) (.node (hob45 P) (.node (hob57 P) (.node (hob76 P) (.node (hob117 P) .nil .nil) .nil) (.node (hob98 P) (.node (hob136 P) .nil .nil) .nil)) (.node (hob68 P) (.node (hob87 P) (.node (hob128 P) .nil .nil) .nil) (.node (hob106 P) .nil .nil))))) (.node (boot_o_2 P) (.node (boot_o_4 P) (.node (boot_o_8 P) (.node (hob52 P) (.node (hob71 P) (.node (hob112 P) .nil .nil) .nil) (.node (hob90 P) (.node (hob131 P) .nil .nil) .nil)) (.node (hob126 P) (.node (hob82 P) (.node (hob120 P) .nil .nil) .nil) (.node (hob101 P) .nil .nil))) (.node (hob125 P) (.node (hob56 P) (.node (hob75 P) (.node (hob116 P) .nil .nil) .nil) (.node (hob97 P) (.node (hob135 P) .nil .nil) .nil)) (.node (hob67 P) (.node (hob86 P) (.node (hob127 P) .nil .nil) .nil) (.node (hob105 P) .nil .nil)))) (.node (boot_o_6 P) (.node (boot_o_10 P) (.node (hob54 P) (.node (hob73 P) (.node (hob114 P) .nil .nil) .nil) (.node (hob92 P) (.node (hob133 P) .nil .nil) .nil)) (.node (hob62 P) (.node (hob84 P) (.node (hob122 P) .nil .nil) .nil) (.node (hob103 P) .nil .nil))) (.node (hob46 P) (.node (hob58 P) (.node (hob77 P) (.node (hob118 P) .nil .nil) .nil) (.node (hob99 P) (.node (hob137 P) .nil .nil) .nil)) (.node (hob69 P) (.node (hob88 P) (.node (hob129 P) .nil .nil) .nil) (.node (hob107 P) .nil .nil))))))
def ht203 (P : Params) : BT := (.node (boot_o_0 P) (.node (boot_o_1 P) (.node (hob154 P) (.node (boot_o_7 P) (.node (hob51 P) (.node (hob70 P) (.node (hob108 P) (.node (hob184 P) .nil .nil) .nil) (.node (hob149 P) .nil .nil)) (.node (hob89 P) (.node (hob130 P) (.node (hob200 P) .nil .nil) .nil) (.node (hob168 P) .nil .nil))) (.node (hob59 P) (.node (hob78 P) (.node (hob119 P) (.node (hob192 P) .nil .nil) .nil) (.node (hob160 P) .nil .nil)) (.node (hob100 P) (.node (hob138 P) .nil .nil) (.node (hob176 P) .nil .nil)))) (.node (hob43 P) (.node (hob55 P) (.node (hob74 P) (.node (hob115 P) (.node (hob188 P) .nil .nil) .nil) (.node (hob153 P) .nil .nil)) (.node (hob93 P) (.node (hob134 P) .nil .nil) (.node (hob172 P) .nil .nil))) (.node (hob63 P) (.node (hob85 P) (.node (hob123 P) (.node (hob196 P) .nil .nil) .nil) (.node (hob164 P) .nil .nil)) (.node (hob104 P) (.node (hob145 P) .nil .nil) (.node (hob180 P) .nil .nil))))) (.node (boot_o_5 P) (.node (boot_o_9 P) (.node (hob53 P) (.node (hob72 P) (.node (hob113 P) (.node (hob186 P) .nil .nil) .nil) (.node (hob151 P) .nil .nil)) (.node (hob91 P) (.node (hob132 P) (.node (hob202 P) .nil .nil) .nil) (.node (hob170 P) .nil .nil))) (.node (hob61 P) (.node (hob83 P) (.node (hob121 P) (.node (hob194 P) .nil .nil) .nil) (.node (hob162 P) .nil .nil)) (.node (hob102 P) (.node (hob143 P) .nil .nil) (.node (hob178 P) .nil .nil)))) (.node (hob45 P) (.node (hob57 P) (.node (hob76 P) (.node (hob117 P) (.node (hob190 P) .nil .nil) .nil) (.node (hob158 P) .nil .nil)) (.node (hob98 P) (.node (hob136 P) .nil .nil) (.node (hob174 P) .nil .nil))) (.node (hob68 P) (.node (hob87 P) (.node (hob128 P) (.node (hob198 P) .nil .nil) .nil) (.node (hob166 P) .nil .nil)) (.node (hob106 P) (.node (hob147 P) .nil .nil) (.node (hob182 P) .nil .nil)))))) (.node (boot_o_2 P) (.node (boot_o_4 P) (.node (boot_o_8 P) (.node (hob52 P) (.node (hob71 P) (.node (hob112 P) (.node (hob185 P) .nil .nil) .nil) (.node (hob150 P) .nil .nil)) (.node (hob90 P) (.node (hob131 P) (.node (hob201 P) .nil .nil) .nil) (.node (hob169 P) .nil .nil))) (.node (hob156 P) (.node (hob82 P) (.node (hob120 P) (.node (hob193 P) .nil .nil) .nil) (.node (hob161 P) .nil .nil)) (.node (hob101 P) (.node (hob142 P) .nil .nil) (.node (hob177 P) .nil .nil)))) (.node (hob155 P) (.node (hob56 P) (.node (hob75 P) (.node (hob116 P) (.node (hob189 P) .nil .nil) .nil) (.node (hob157 P) .nil .nil)) (.node (hob97 P) (.node (hob135 P) .nil .nil) (.node (hob173 P) .nil .nil))) (.node (hob67 P) (.node (hob86 P) (.node (hob127 P) (.node (hob197 P) .nil .nil) .nil) (.node (hob165 P) .nil .nil)) (.node (hob105 P) (.node (hob146 P) .nil .nil) (.node (hob181 P) .nil .nil))))) (.node (boot_o_6 P) (.node (boot_o_10 P) (.node (hob54 P) (.node (hob73 P) (.node (hob114 P) (.node (hob187 P) .nil .nil) .nil) (.node (hob152 P) .nil .nil)) (.node (hob92 P) (.node (hob133 P) (.node (hob203 P) .nil .nil) .nil) (.node (hob171 P) .nil .nil))) (.node (hob62 P) (.node (hob84 P) (.node (hob122 P) (.node (hob195 P) .nil .nil) .nil) (.node (hob163 P) .nil .nil)) (.node (hob103 P) (.node (hob144 P) .nil .nil) (.node (hob179 P) .nil .nil)))) (.node (hob46 P) (.node (hob58 P) (.node (hob77 P) (.node (hob118 P) (.node (hob191 P) .nil .nil) .nil) (.node (hob159 P) .nil .nil)) (.node (hob99 P) (.node (hob137 P) .nil .nil) (.node (hob175 P) .nil .nil))) (.node (hob69 P) (.node (hob88 P) (.node (hob129 P) (.node (hob199 P) .nil .nil) .nil) (.node (hob167 P) .nil .nil)) (.node (hob107 P) (.node (hob148 P) .nil .nil) (.node (hob183 P) .nil .nil)))))))
def ht289 (P : Params) : BT := (.node (boot_o_0 P) (.node (boot_o_1 P) (.node (hob204 P) (.node (boot_o_7 P) (.node (hob51 P) (.node (hob70 P) (.node (hob108 P) (.node (hob184 P) .nil .nil) (.node (hob250 P) .nil .nil)) (.node (hob149 P) (.node (hob218 P) .nil .nil) (.node (hob282 P) .nil .nil))) (.node (hob89 P) (.node (hob130 P) (.node (hob200 P) .nil .nil) (.node (hob266 P) .nil .nil)) (.node (hob168 P) (.node (hob234 P) .nil .nil) .nil))) (.node (hob59 P) (.node (hob78 P) (.node (hob119 P) (.node (hob192 P) .nil .nil) (.node (hob258 P) .nil .nil)) (.node (hob160 P) (.node (hob226 P) .nil .nil) .nil)) (.node (hob100 P) (.node (hob138 P) (.node (hob210 P) .nil .nil) (.node (hob274 P) .nil .nil)) (.node (hob176 P) (.node (hob242 P) .nil .nil) .nil)))) (.node (hob43 P) (.node (hob55 P) (.node (hob74 P) (.node (hob115 P) (.node (hob188 P) .nil .nil) (.node (hob254 P) .nil .nil)) (.node (hob153 P) (.node (hob222 P) .nil .nil) (.node (hob286 P) .nil .nil))) (.node (hob93 P) (.node (hob134 P) (.node (hob206 P) .nil .nil) (.node (hob270 P) .nil .nil)) (.node (hob172 P) (.node (hob238 P) .nil .nil) .nil))) (.node (hob63 P) (.node (hob85 P) (.node (hob123 P) (.node (hob196 P) .nil .nil) (.node (hob262 P) .nil .nil)) (.node (hob164 P) (.node (hob230 P) .nil .nil) .nil)) (.node (hob104 P) (.node (hob145 P) (.node (hob214 P) .nil .nil) (.node (hob278 P) .nil .nil)) (.node (hob180 P) (.node (hob246 P) .nil .nil) .nil))))) (.node (boot_o_5 P) (.node (boot_o_9 P) (.node (hob53 P) (.node (hob72 P) (.node (hob113 P) (.node (hob186 P) .nil .nil) (.node (hob252 P) .nil .nil)) (.node (hob151 P) (.node (hob220 P) .nil .nil) (.node (hob284 P) .nil .nil))) (.node (hob91 P) (.node (hob132 P) (.node (hob202 P) .nil .nil) (.node (hob268 P) .nil .nil)) (.node (hob170 P) (.node (hob236 P) .nil .nil) .nil))) (.node (hob61 P) (.node (hob83 P) (.node (hob121 P) (.node (hob194 P) .nil .nil) (.node (hob260 P) .nil .nil)) (.node (hob162 P) (.node (hob228 P) .nil .nil) .nil)) (.node (hob102 P) (.node (hob143 P) (.node (hob212 P) .nil .nil) (.node (hob276 P) .nil .nil)) (.node (hob178 P) (.node (hob244 P) .nil .nil) .nil)))) (.node (hob45 P) (.node (hob57 P) (.node (hob76 P) (.node (hob117 P) (.node (hob190 P) .nil .nil) (.node (hob256 P) .nil .nil)) (.node (hob158 P) (.node (hob224 P) .nil .nil) (.node (hob288 P) .nil .nil))) (.node (hob98 P) (.node (hob136 P) (.node (hob208 P) .nil .nil) (.node (hob272 P) .nil .nil)) (.node (hob174 P) (.node (hob240 P) .nil .nil) .nil))) (.node (hob68 P) (.node (hob87 P) (.node (hob128 P) (.node (hob198 P) .nil .nil) (.node (hob264 P) .nil .nil)) (.node (hob166 P) (.node (hob232 P) .nil .nil) .nil)) (.node (hob106 P) (.node (hob147 P) (.node (hob216 P) .nil .nil) (.node (hob280 P) .nil .nil)) (.node (hob182 P) (.node (hob248 P) .nil .nil) .nil)))))) (.node (boot_o_2 P) (.node (boot_o_4 P) (.node (boot_o_8 P) (.node (hob52 P) (.node (hob71 P) (.node (hob112 P) (.node (hob185 P) .nil .nil) (.node (hob251 P) .nil .nil)) (.node (hob150 P) (.node (hob219 P) .nil .nil) (.node (hob283 P) .nil .nil))) (.node (hob90 P) (.node (hob131 P) (.node (hob201 P) .nil .nil) (.node (hob267 P) .nil .nil)) (.node (hob169 P) (.node (hob235 P) .nil .nil) .nil))) (.node (hob156 P) (.node (hob82 P) (.node (hob120 P) (.node (hob193 P) .nil .nil) (.node (hob259 P) .nil .nil)) (.node (hob161 P) (.node (hob227 P) .nil .nil) .nil)) (.node (hob101 P) (.node (hob142 P) (.node (hob211 P) .nil .nil) (.node (hob275 P) .nil .nil)) (.node (hob177 P) (.node (hob243 P) .nil .nil) .nil)))) (.node (hob205 P) (.node (hob56 P) (.node (hob75 P) (.node (hob116 P) (.node (hob189 P) .nil .nil) (.node (hob255 P) .nil .nil)) (.node (hob157 P) (.node (hob223 P) .nil .nil) (.node (hob287 P) .nil .nil))) (.node (hob97 P) (.node (hob135 P) (.node (hob207 P) .nil .nil) (.node (hob271 P) .nil .nil)) (.node (hob173 P) (.node (hob239 P) .nil .nil) .nil))) (.node (hob67 P) (.node (hob86 P) (.node (hob127 P) (.node (hob197 P) .nil .nil) (.node (hob263 P) .nil .nil)) (.node (hob165 P) (.node (hob231 P) .nil .nil) .nil)) (.node (hob105 P) (.node (hob146 P) (.node (hob215 P) .nil .nil) (.node (hob279 P) .nil .nil)) (.node (hob181 P) (.node (hob247 P) .nil .nil) .nil))))) (.node (boot_o_6 P) (.node (boot_o_10 P) (.node (hob54 P) (.node (hob73 P) (.node (hob114 P) (.node (hob187 P) .nil .nil) (.node (hob253 P) .nil .nil)) (.node (hob152 P) (.node (hob221 P) .nil .nil) (.node (hob285 P) .nil .nil))) (.node (hob92 P) (.node (hob133 P) (.node (hob203 P) .nil .nil) (.node (hob269 P) .nil .nil)) (.node (hob171 P) (.node (hob237 P) .nil .nil) .nil))) (.node (hob62 P) (.node (hob84 P) (.node (hob122 P) (.node (hob195 P) .nil .nil) (.node (hob261 P) .nil .nil)) (.node (hob163 P) (.node (hob229 P) .nil .nil) .nil)) (.node (hob103 P) (.node (hob144 P) (.node (hob213 P) .nil .nil) (.node (hob277 P) .nil .nil)) (.node (hob179 P) (.node (hob245 P) .nil .nil) .nil)))) (.node (hob46 P) (.node (hob58 P) (.node (hob77 P) (.node (hob118 P) (.node (hob191 P) .nil .nil) (.node (hob257 P) .nil .nil)) (.node (hob159 P) (.node (hob225 P) .nil .nil) (.node (hob289 P) .nil .nil))) (.node (hob99 P) (.node (hob137 P) (.node (hob209 P) .nil .nil) (.node (hob273 P) .nil .nil)) (.node (hob175 P) (.node (hob241 P) .nil .nil) .nil))) (.node (hob69 P) (.node (hob88 P) (.node (hob129 P) (.node (hob199 P) .nil .nil) (.node (hob265 P) .nil .nil)) (.node (hob167 P) (.node (hob233 P) .nil .nil) .nil)) (.node (hob107 P) (.node (hob148 P) (.node (hob217 P) .nil .nil) (.node (hob281 P) .nil .nil)) (.node (hob183 P) (.node (hob249 P) .nil .nil) .nil)))))))
def ht47 (P : Params) : BT := (.node (boot_o_0 P) (.node (boot_o_1 P) (.node (boot_o_3 P) (.node (boot_o_7 P) .nil .nil) (.node (hob43 P) .nil .nil)) (.node (boot_o_5 P) (.node (boot_o_9 P) .nil .nil) (.node (hob45 P) .nil .nil))) (.node (boot_o_2 P) (.node (boot_o_4 P) (.node (boot_o_8 P) .nil .nil) (.node (hob44 P) .nil .nil)) (.node (boot_o_6 P) (.node (boot_o_10 P) .nil .nil) (.node (hob46 P) .nil .nil))))
def ht93 (P : Params) : BT := (.node (boot_o_0 P) (.node (boot_o_1 P) (.node (hob79 P) (.node (boot_o_7 P) (.node (hob51 P) (.node (hob70 P) .nil .nil) (.node (hob89 P) .nil .nil)) (.node (hob59 P) (.node (hob78 P) .nil .nil) .nil)) (.node (hob43 P) (.node (hob55 P) (.node (hob74 P) .nil .nil) (.node (hob93 P) .nil .nil)) (.node (hob63 P) (.node (hob85 P) .nil .nil) .nil))) (.node (boot_o_5 P) (.node (boot_o_9 P) (.node (hob53 P) (.node (hob72 P) .nil .nil) (.node (hob91 P) .nil .nil)) (.node (hob61 P) (.node (hob83 P) .nil .nil) .nil)) (.node (hob45 P) (.node (hob57 P) (.node (hob76 P) .nil .nil) .nil) (.node (hob68 P) (.node (hob87 P) .nil .nil) .nil)))) (.node (boot_o_2 P) (.node (boot_o_4 P) (.node (boot_o_8 P) (.node (hob52 P) (.node (hob71 P) .nil .nil) (.node (hob90 P) .nil .nil)) (.node (hob81 P) (.node (hob82 P) .nil .nil) .nil)) (.node (hob80 P) (.node (hob56 P) (.node (hob75 P) .nil .nil) .nil) (.node (hob67 P) (.node (hob86 P) .nil .nil) .nil))) (.node (boot_o_6 P) (.node (boot_o_10 P) (.node (hob54 P) (.node (hob73 P) .nil .nil) (.node (hob92 P) .nil .nil)) (.node (hob62 P) (.node (hob84 P) .nil .nil) .nil)) (.node (hob46 P) (.node (hob58 P) (.node (hob77 P) .nil .nil) .nil) (.node (hob69 P) (.node (hob88 P) .nil .nil) .nil)))))
def ht63 (P : Params) : BT := (.node (boot_o_0 P) (.node (boot_o_1 P) (.node (hob49 P) (.node (boot_o_7 P) (.node (hob51 P) .nil .nil) (.node (hob59 P) .nil .nil)) (.node (hob43 P) (.node (hob55 P) .nil .nil) (.node (hob63 P) .nil .nil))) (.node (boot_o_5 P) (.node (boot_o_9 P) (.node (hob53 P) .nil .nil) (.node (hob61 P) .nil .nil)) (.node (hob45 P) (.node (hob57 P) .nil .nil) .nil))) (.node (boot_o_2 P) (.node (boot_o_4 P) (.node (boot_o_8 P) (.node (hob52 P) .nil .nil) (.node (hob60 P) .nil .nil)) (.node (hob50 P) (.node (hob56 P) .nil .nil) .nil)) (.node (boot_o_6 P) (.node (boot_o_10 P) (.node (hob54 P) .nil .nil) (.node (hob62 P) .nil .nil)) (.node (hob46 P) (.node (hob58 P) .nil .nil) .nil))))
def ht153 (P : Params) : BT := (.node (boot_o_0 P) (.node (boot_o_1 P) (.node (hob139 P) (.node (boot_o_7 P) (.node (hob51 P) (.node (hob70 P) (.node (hob108 P) .nil .nil) (.node (hob149 P) .nil .nil)) (.node (hob89 P) (.node (hob130 P) .nil .nil) .nil)) (.node (hob59 P) (.node (hob78 P) (.node (hob119 P) .nil .nil) .nil) (.node (hob100 P) (.node (hob138 P) .nil .nil) .nil))) (.node (hob43 P) (.node (hob55 P) (.node (hob74 P) (.node (hob115 P) .nil .nil) (.node (hob153 P) .nil .nil)) (.node (hob93 P) (.node (hob134 P) .nil .nil) .nil)) (.node (hob63 P) (.node (hob85 P) (.node (hob123 P) .nil .nil) .nil) (.node (hob104 P) (.node (hob145 P) .nil .nil) .nil)))) (.node (boot_o_5 P) (.node (boot_o_9 P) (.node (hob53 P) (.node (hob72 P) (.node (hob113 P) .nil .nil) (.node (hob151 P) .nil .nil)) (.node (hob91 P) (.node (hob132 P) .nil .nil) .nil)) (.node (hob61 P) (.node (hob83 P) (.node (hob121 P) .nil .nil) .nil) (.node (hob102 P) (.node (hob143 P) .nil .nil) .nil))) (.node (hob45 P) (.node (hob57 P) (.node (hob76 P) (.node (hob117 P) .nil .nil) .nil) (.node (hob98 P) (.node (hob136 P) .nil .nil) .nil)) (.node (hob68 P) (.node (hob87 P) (.node (hob128 P) .nil .nil) .nil) (.node (hob106 P) (.node (hob147 P) .nil .nil) .nil))))) (.node (boot_o_2 P) (.node (boot_o_4 P) (.node (boot_o_8 P) (.node (hob52 P) (.node (hob71 P) (.node (hob112 P) .nil .nil) (.node (hob150 P) .nil .nil)) (.node (hob90 P) (.node (hob131 P) .nil .nil) .nil)) (.node (hob141 P) (.node (hob82 P) (.node (hob120 P) .nil .nil) .nil) (.node (hob101 P) (.node (hob142 P) .nil .nil) .nil))) (.node (hob140 P) (.node (hob56 P) (.node (hob75 P) (.node (hob116 P) .nil .nil) .nil) (.node (hob97 P) (.node (hob135 P) .nil .nil) .nil)) (.node (hob67 P) (.node (hob86 P) (.node (hob127 P) .nil .nil) .nil) (.node (hob105 P) (.node (hob146 P) .nil .nil) .nil)))) (.node (boot_o_6 P) (.node (boot_o_10 P) (.node (hob54 P) (.node (hob73 P) (.node (hob114 P) .nil .nil) (.node (hob152 P) .nil .nil)) (.node (hob92 P) (.node (hob133 P) .nil .nil) .nil)) (.node (hob62 P) (.node (hob84 P) (.node (hob122 P) .nil .nil) .nil) (.node (hob103 P) (.node (hob144 P) .nil .nil) .nil))) (.node (hob46 P) (.node (hob58 P) (.node (hob77 P) (.node (hob118 P) .nil .nil) .nil) (.node (hob99 P) (.node (hob137 P) .nil .nil) .nil)) (.node (hob69 P) (.node (hob88 P) (.node (hob129 P) .nil .nil) .nil) (.node (hob107 P) (.node (hob148 P) .nil .nil) .nil))))))
def hen : Env := { scope := hp.main.scope, locals := mainNs, globals := mainNs, cells := [], code := .ref 13, frame := some 14 }
def hvw : Program := view hp ((List.range 45).filter fun i => !([0, 9, 15, 24, 28].contains i))
def hcs : List (Str × Addr) := [("FractionError", 24), ("NoFraction", 37), ("NoPath", 49), ("NoBounds", 61), ("NoRoom", 73), ("Unsure", 85), ("NoText", 97), ("NoNumber", 109)]
def hpl : List Addr := [3, 24, 23, 37, 36, 49, 48, 61, 60, 73, 72, 85, 84, 97, 96, 109, 108]
abbrev hz : Pos := { line := 0, col := 0, endLine := 0, endCol := 0 }
abbrev hcE : Code := .body (behindTheImports hp) hen
abbrev hXt (s : Shared) : Bool := xlAt hvw [] s && recOk (RowW.records PySem.Challenge.rw_uf050018_14.row.toRowW) s
abbrev hH : Hook := ecHook hpl hcs 24
abbrev hs0 (w : World) (os : OsState) : SharedT := { tree := ht47 w.params, n := 15, life := {}, gens := Array.mk [], drawn := {}, toks := 187, os := os }
abbrev hs1 (w : World) (os : OsState) : SharedT := { tree := ht63 w.params, n := 28, life := {}, gens := Array.mk [], drawn := {}, toks := 207, os := os }
abbrev hs2 (w : World) (os : OsState) : SharedT := { tree := ht78 w.params, n := 40, life := {}, gens := Array.mk [], drawn := {}, toks := 223, os := os }
abbrev hs3 (w : World) (os : OsState) : SharedT := { tree := ht93 w.params, n := 52, life := {}, gens := Array.mk [], drawn := {}, toks := 239, os := os }
abbrev hs4 (w : World) (os : OsState) : SharedT := { tree := ht108 w.params, n := 64, life := {}, gens := Array.mk [], drawn := {}, toks := 255, os := os }
abbrev hs5 (w : World) (os : OsState) : SharedT := { tree := ht123 w.params, n := 76, life := {}, gens := Array.mk [], drawn := {}, toks := 271, os := os }
abbrev hs6 (w : World) (os : OsState) : SharedT := { tree := ht138 w.params, n := 88, life := {}, gens := Array.mk [], drawn := {}, toks := 287, os := os }
abbrev hs7 (w : World) (os : OsState) : SharedT := { tree := ht153 w.params, n := 100, life := {}, gens := Array.mk [], drawn := {}, toks := 303, os := os }
abbrev hs8 (w : World) (os : OsState) : SharedT := { tree := ht203 w.params, n := 147, life := {}, gens := Array.mk [], drawn := {}, toks := 366, os := os }
abbrev hs9 (w : World) (os : OsState) : SharedT := { tree := ht289 w.params, n := 231, life := {}, gens := Array.mk [], drawn := {}, toks := 484, os := os }
abbrev hs10 (w : World) (os : OsState) : SharedT := { tree := ht375 w.params, n := 315, life := {}, gens := Array.mk [], drawn := {}, toks := 597, os := os }
abbrev hs11 (w : World) (os : OsState) : SharedT := { tree := ht398 w.params, n := 336, life := {}, gens := Array.mk [], drawn := {}, toks := 638, os := os }
abbrev hsf (w : World) (os : OsState) : Shared := ⟨hh399 w.params, Array.mk [], {}, 638, os⟩
theorem h_size (w : World) : ((boot_heap w.params).isNs mainGlobals && (Array.mk [] : Array GenState).size == 0, (boot_heap w.params).objs.size, (boot_heap w.params).nsMap mainGlobals "__annotations__") = (true, 11, some (.ref 6)) := by rw [PySem.W.Fast.te8920871248978507458]; kernel_rfl
theorem h_pre (w : World) (os : OsState) : topGo treeTable hp w 11 (some (.ref 6)) 12 ⟨boot_heap w.params, Array.mk [], boot_drawn, boot_toks, os⟩ (topStub hp) = some ((hs0 w os).abs, ⟨denote treeTable hcE, hcE, hz, [topFrame hz]⟩) := by rw [PySem.W.Fast.te15667345088766844465, PySem.W.Fast.te14364793385576792824, PySem.W.Fast.te11892475500146522536]; kernel_rfl
theorem h_blk (w : World) (os : OsState) : segRun treeTable hp w 11 (some (.ref 6)) 1 1 (hs0 w os).abs (blockOf (behindTheImports hp) hen hcE hz [topFrame hz]) = some (.next, (hs0 w os).abs, hcE, hz) := by rw [PySem.W.Fast.te14374325043358763698, PySem.W.Fast.te14364793385576792824]; kernel_rfl
theorem h_p0 (w : World) (os : OsState) : segRunT treeTable hp w 11 (some (.ref 6)) 1 196 (hs0 w os) (piecesOf (((behindTheImports hp).drop 0).take 2) hen hcE { line := 0, col := 0, endLine := 0, endCol := 0 } [topFrame hz]) = some (.next, hs1 w os, hcE, { line := 2, col := 0, endLine := 3, endCol := 8 }) := by rw [PySem.W.Fast.te10110043849684766642, PySem.W.Fast.te14364793385576792824]; kernel_rfl
theorem h_p1 (w : World) (os : OsState) : segRunT treeTable hp w 11 (some (.ref 6)) 1 214 (hs1 w os) (piecesOf (((behindTheImports hp).drop 2).take 1) hen hcE { line := 2, col := 0, endLine := 3, endCol := 8 } [topFrame hz]) = some (.next, hs2 w os, hcE, { line := 4, col := 0, endLine := 5, endCol := 8 }) := by rw [PySem.W.Fast.te10110043849684766642, PySem.W.Fast.te14364793385576792824]; kernel_rfl
theorem h_p2 (w : World) (os : OsState) : segRunT treeTable hp w 11 (some (.ref 6)) 1 214 (hs2 w os) (piecesOf (((behindTheImports hp).drop 3).take 1) hen hcE { line := 4, col := 0, endLine := 5, endCol := 8 } [topFrame hz]) = some (.next, hs3 w os, hcE, { line := 6, col := 0, endLine := 7, endCol := 8 }) := by rw [PySem.W.Fast.te10110043849684766642, PySem.W.Fast.te14364793385576792824]; kernel_rfl
theorem h_p3 (w : World) (os : OsState) : segRunT treeTable hp w 11 (some (.ref 6)) 1 214 (hs3 w os) (piecesOf (((behindTheImports hp).drop 4).take 1) hen hcE { line := 6, col := 0, endLine := 7, endCol := 8 } [topFrame hz]) = some (.next, hs4 w os, hcE, { line := 8, col := 0, endLine := 9, endCol := 8 }) := by rw [PySem.W.Fast.te10110043849684766642, PySem.W.Fast.te14364793385576792824]; kernel_rfl
theorem h_p4 (w : World) (os : OsState) : segRunT treeTable hp w 11 (some (.ref 6)) 1 214 (hs4 w os) (piecesOf (((behindTheImports hp).drop 5).take 1) hen hcE { line := 8, col := 0, endLine := 9, endCol := 8 } [topFrame hz]) = some (.next, hs5 w os, hcE, { line := 10, col := 0, endLine := 11, endCol := 8 }) := by rw [PySem.W.Fast.te10110043849684766642, PySem.W.Fast.te14364793385576792824]; kernel_rfl
theorem h_p5 (w : World) (os : OsState) : segRunT treeTable hp w 11 (some (.ref 6)) 1 214 (hs5 w os) (piecesOf (((behindTheImports hp).drop 6).take 1) hen hcE { line := 10, col := 0, endLine := 11, endCol := 8 } [topFrame hz]) = some (.next, hs6 w os, hcE, { line := 12, col := 0, endLine := 13, endCol := 8 }) := by rw [PySem.W.Fast.te10110043849684766642, PySem.W.Fast.te14364793385576792824]; kernel_rfl
theorem h_p6 (w : World) (os : OsState) : segRunT treeTable hp w 11 (some (.ref 6)) 1 214 (hs6 w os) (piecesOf (((behindTheImports hp).drop 7).take 1) hen hcE { line := 12, col := 0, endLine := 13, endCol := 8 } [topFrame hz]) = some (.next, hs7 w os, hcE, { line := 14, col := 0, endLine := 15, endCol := 8 }) := by rw [PySem.W.Fast.te10110043849684766642, PySem.W.Fast.te14364793385576792824]; kernel_rfl
theorem h_p7 (w : World) (os : OsState) : segRunT treeTable hp w 11 (some (.ref 6)) 1 385 (hs7 w os) (piecesOf (((behindTheImports hp).drop 8).take 8) hen hcE { line := 14, col := 0, endLine := 15, endCol := 8 } [topFrame hz]) = some (.next, hs8 w os, hcE, { line := 37, col := 0, endLine := 37, endCol := 8 }) := by rw [PySem.W.Fast.te10110043849684766642, PySem.W.Fast.te14364793385576792824]; kernel_rfl
theorem h_p8 (w : World) (os : OsState) : segRunT treeTable hp w 11 (some (.ref 6)) 1 397 (hs8 w os) (piecesOf (((behindTheImports hp).drop 16).take 14) hen hcE { line := 37, col := 0, endLine := 37, endCol := 8 } [topFrame hz]) = some (.next, hs9 w os, hcE, { line := 116, col := 0, endLine := 119, endCol := 12 }) := by rw [PySem.W.Fast.te10110043849684766642, PySem.W.Fast.te14364793385576792824]; kernel_rfl
theorem h_p9 (w : World) (os : OsState) : segRunT treeTable hp w 11 (some (.ref 6)) 1 378 (hs9 w os) (piecesOf (((behindTheImports hp).drop 30).take 12) hen hcE { line := 116, col := 0, endLine := 119, endCol := 12 } [topFrame hz]) = some (.next, hs10 w os, hcE, { line := 171, col := 0, endLine := 183, endCol := 13 }) := by rw [PySem.W.Fast.te10110043849684766642, PySem.W.Fast.te14364793385576792824]; kernel_rfl
theorem h_p10 (w : World) (os : OsState) : segRunT treeTable hp w 11 (some (.ref 6)) 1 108 (hs10 w os) (piecesOf (((behindTheImports hp).drop 42).take 3) hen hcE { line := 171, col := 0, endLine := 183, endCol := 13 } [topFrame hz]) = some (.next, hs11 w os, hcE, { line := 198, col := 0, endLine := 222, endCol := 66 }) := by rw [PySem.W.Fast.te10110043849684766642, PySem.W.Fast.te14364793385576792824]; kernel_rfl
theorem h_fin (w : World) (os : OsState) : topRun treeTable hp w 11 (some (.ref 6)) 2 (hs11 w os).abs ⟨doneF .next, hcE, { line := 198, col := 0, endLine := 222, endCol := 66 }, [topFrame hz]⟩ = some (hsf w os) := by rw [PySem.W.Fast.te14082659384304107361, PySem.W.Fast.te14364793385576792824]; kernel_rfl
theorem h_l0 (w : World) (os : OsState) : (staticsOk (importedModules hp.main.body) (boot_heap w.params) (hsf w os).heap && namesBound hp (hsf w os).heap && gensDone (hsf w os) && laidKept (boot_heap w.params) (hsf w os).heap) = true := by rw [PySem.W.Fast.te5923862056798008813]; kernel_rfl
theorem h_l1 (w : World) (os : OsState) : seen ((recsOf hvw).map (·.name)) (ownsOf hvw) [] { hsf w os with gens := #[] } = expectedOf hvw := by rw [PySem.W.Fast.te5160383126252970620, PySem.W.Fast.te3399658132070893891, PySem.W.Fast.te5991557255702980513]; kernel_rfl
theorem h_l2 (w : World) (os : OsState) : (hsf w os).heap.bltView = bltViewBooted := by kernel_rfl
theorem h_l3 (w : World) (os : OsState) : ((hsf w os).heap.keysOk (looseW hvw []) ((recsOf hvw).map (·.name)) ((litsOf hvw).map (·.1)) ((clssOf hvw (looseW hvw [])).map (·.name)) && (hsf w os).heap.accountedOkI (importedModules hp.main.body) && (hsf w os).heap.isNs mainGlobals && (hsf w os).heap.isNs builtinsNs && tablesOk hvw (hsf w os).heap && hXt (hsf w os) && (if true = true then (hsf w os).gens.size == 0 else !leftWithCleanup (hsf w os).gens)) = true := by rw [PySem.W.Fast.te10880121769531294198, PySem.W.Fast.te821141287760084731, PySem.W.Fast.te3399658132070893891, PySem.W.Fast.te7409074990110511671, PySem.W.Fast.te13664370479719496447, PySem.W.Fast.te14722251495701143533, PySem.W.Fast.te5923862056798008813, PySem.W.Fast.te10994771534591457954]; kernel_rfl
theorem h_l4 (w : World) (os : OsState) : tabsOk hvw (hsf w os) = true := by rw [PySem.W.Fast.te479339242167458305]; kernel_rfl
theorem h_l5 (w : World) (os : OsState) : pinSeenD hvw (drecsOf hvw) (hsf w os) = pinGoodD (drecsOf hvw) := by rw [PySem.W.Fast.te16090120013241838585, PySem.W.Fast.te3247288618530077131]; kernel_rfl
theorem h_l6 (w : World) (os : OsState) : plainSeenE hvw (looseW hvw []) (hsf w os) = plainGoodE hvw (looseW hvw []) := by rw [PySem.W.Fast.te2386780881361962483, PySem.W.Fast.te821141287760084731]; kernel_rfl
theorem h_l7 (w : World) (os : OsState) : plainSeenD hvw [] (hsf w os) = plainGoodD hvw [] := by rw [PySem.W.Fast.te11698064438423848299]; kernel_rfl
theorem h_l8 (w : World) (os : OsState) : wideSeen hvw (hsf w os) = wideGood hvw := by rw [PySem.W.Fast.te7317090234206586261]; kernel_rfl
theorem h_l9 (w : World) (os : OsState) : clsSeenW hvw [] (hsf w os) = clsGoodW hvw [] := by rw [PySem.W.Fast.te7369524293546568484]; kernel_rfl
theorem h_ly (w : World) (os : OsState) : hH.obs (hsf w os) = hH.val w := by kernel_rfl
theorem h_open : ∀ w : World, (fencedOpening treeTable hp w 5600).map (fun s => (s.heap, s.gens, s.drawn, s.toks)) = some (boot_heap w.params, Array.mk [], boot_drawn, boot_toks) := boot_open (by kernel_rfl) (by kernel_rfl) (fun s => by kernel_rfl)
theorem h_parts : ((behindTheImports hp).drop 0).take 2 ++ (((behindTheImports hp).drop 2).take 1 ++ (((behindTheImports hp).drop 3).take 1 ++ (((behindTheImports hp).drop 4).take 1 ++ (((behindTheImports hp).drop 5).take 1 ++ (((behindTheImports hp).drop 6).take 1 ++ (((behindTheImports hp).drop 7).take 1 ++ (((behindTheImports hp).drop 8).take 8 ++ (((behindTheImports hp).drop 16).take 14 ++ (((behindTheImports hp).drop 30).take 12 ++ (((behindTheImports hp).drop 42).take 3 ++ ([]))))))))))) = behindTheImports hp := by kernel_rfl
theorem h_run (w : World) (os : OsState) : topRun treeTable hp w 11 (some (.ref 6)) (12 + (1 + (196 + (214 + (214 + (214 + (214 + (214 + (214 + (385 + (397 + (378 + (108 + (2)))))))))))))) ⟨boot_heap w.params, Array.mk [], boot_drawn, boot_toks, os⟩ (topStub hp) = some (hsf w os) := by
  have r := piece_nil (env := hen) (h_fin w os)
  have r := piece_app (segRun_of (h_p10 w os)) r
  have r := piece_app (segRun_of (h_p9 w os)) r
  have r := piece_app (segRun_of (h_p8 w os)) r
  have r := piece_app (segRun_of (h_p7 w os)) r
  have r := piece_app (segRun_of (h_p6 w os)) r
  have r := piece_app (segRun_of (h_p5 w os)) r
  have r := piece_app (segRun_of (h_p4 w os)) r
  have r := piece_app (segRun_of (h_p3 w os)) r
  have r := piece_app (segRun_of (h_p2 w os)) r
  have r := piece_app (segRun_of (h_p1 w os)) r
  have r := piece_app (segRun_of (h_p0 w os)) r
  rw [h_parts] at r
  exact go_top (h_pre w os) (piece_block (h_blk w os) r)
theorem h_left : LeftO hp hvw [] hXt hH.obs hH.val 5600 :=
  LeftO.of_pieces (H₁ := hh399) (gs₁ := Array.mk []) (d₁ := {}) (k₁ := 638) h_open h_size h_run (by kernel_rfl) fun w => funext fun os =>
    looks_of (h_l0 w os) (h_l1 w os) (h_l2 w os) (h_l3 w os) (h_l4 w os) (h_l5 w os) (h_l6 w os) (h_l7 w os) (h_l8 w os) (h_l9 w os) (h_ly w os)
abbrev hl : OpenLaw := PySem.Challenge.rw_uf050018_14
theorem h_q1 : namesResolve hl.row.prog = true := by kernel_rfl
theorem h_q2 : hl.row.prog.boundNames.all (fun n => !worldNames.contains n) = true := by kernel_rfl
theorem h_q3 : (["vars", "dir", "locals"] : List Str).filter (readsOut hl.row.prog hl.row.prog.main.body) = [] := by kernel_rfl
theorem h_q4 : noRoadLSs { strict := !(importedModules hl.row.prog.main.body).all cThrough.contains, foot := none, bare := (["vars", "dir", "locals"] : List Str).filter (readsOut hl.row.prog hl.row.prog.main.body) } hl.row.prog.main.body = true := by rw [h_q3]; kernel_rfl
theorem h_q5 : namesMeet hl.row.prog hl.row.prog.main.body (fun _ n => attrL n) = true := by kernel_rfl
theorem h_s1 : looksOpen hl.row.prog = true := by unfold looksOpen; rw [h_q1, h_q2, h_q4, h_q5]; kernel_rfl
theorem h_s2 : noRoadLSs { strict := true, foot := some hl.bound', writes := hl.writes, may := hl.may } hl.footing = true := by kernel_rfl
theorem h_s3 : hl.bound'.all (fun n => !builtinNamed n || hl.about == [n] || !hl.reads n) = true := by kernel_rfl
theorem h_s4 : namesMeet hl.prog hl.footing (fun sc n => (!(["type", "isinstance", "issubclass", "getattr", "hasattr"] : List Str).contains n || sc.names.lookup n == some .globalImplicit) &&
    (hl.may != some n || sc.kind == .module || sc.names.lookup n == some .globalImplicit)) = true := by kernel_rfl
theorem h_s5 : namesMeet hl.prog hl.above (fun _ n => !hl.own.contains n) = true := by kernel_rfl
theorem h_s6 : namesMeet hl.prog hl.footing (fun sc n => sc.kind == .module || sc.names.lookup n != some .globalExplicit) = true := by kernel_rfl
theorem h_said : hl.wellSaid = true := by unfold OpenLaw.wellSaid OpenRow.wellSaid OpenRow.partSaid; rw [h_s1, h_s2, h_s3, h_s4, h_s5, h_s6]; kernel_rfl
theorem h_ok : (chainsOk hvw && opensWell PySem.Challenge.rw_uf050018_14.row.prog && (frees PySem.Challenge.rw_uf050018_14.row.toRowW && PySem.Challenge.rw_uf050018_14.row.within.isEmpty)) = true := by kernel_rfl
end
end Mine

open PySem PySem.W PyProof.Rows
set_option maxHeartbeats 8000000 in
theorem PySem.Challenge.cw_uf050018_14_holds : PySem.Challenge.rw_uf050018_14.Holds := by
  refine holds_law Mine.h_said fun said => ?_
  refine holds_open (q := Mine.hvw) (loose := []) (Xt := Mine.hXt) (XP := XL Mine.hvw []) (Yf := Mine.hH.obs) (Ya := Mine.hH.val) (YP := Mine.hH.says) (N := 5600) Mine.h_left Mine.hH.of Mine.hH.keeps (fun s e => xl_of s (Bool.and_eq_true_iff.mp e).1) XL.keeps (by rfl) (by rfl) (by rfl) (fun s e => recFacts_of (Bool.and_eq_true_iff.mp e).2) (by rfl) said Mine.h_ok ⟨rfl, rfl, rfl, rfl, rfl, by decide +kernel⟩ ?hw ?hc
  (case hw => w_witness2)
  intro w s₀ s₁ mg mb G Y fa o pm cd doc dV kV ho hd hcd hD hmg hg args vals as hpre hlay hrd hwl hlo
  have T := G.T
  wrow_args hpre hlay hrd hwl hlo
  rename_i ns _ _ _ _ _ _ _ _ _ _ _ _ _ r0 _ _ hcond _
  have hn : ns.length ≤ 63 := by omega
  have hB : Mine.Bn ⟨PySem.Challenge.rw_uf050018_14.row.prog, w, _, _, _, mg, mb⟩ := Mine.bn_of T (by kernel_rfl)
  obtain ⟨K, KX, C⟩ := Y
  have m0 : ((("FractionError" : Str), 24) : Str × Addr) ∈ Mine.hcs := .head _
  have m1 : ((("NoFraction" : Str), 37) : Str × Addr) ∈ Mine.hcs := .tail _ (.head _)
  have m2 : ((("NoPath" : Str), 49) : Str × Addr) ∈ Mine.hcs := .tail _ (.tail _ (.head _))
  have m3 : ((("NoBounds" : Str), 61) : Str × Addr) ∈ Mine.hcs := .tail _ (.tail _ (.tail _ (.head _)))
  have m4 : ((("NoRoom" : Str), 73) : Str × Addr) ∈ Mine.hcs := .tail _ (.tail _ (.tail _ (.tail _ (.head _))))
  have m5 : ((("Unsure" : Str), 85) : Str × Addr) ∈ Mine.hcs := .tail _ (.tail _ (.tail _ (.tail _ (.tail _ (.head _)))))
  have m6 : ((("NoText" : Str), 97) : Str × Addr) ∈ Mine.hcs := .tail _ (.tail _ (.tail _ (.tail _ (.tail _ (.tail _ (.head _))))))
  have m7 : ((("NoNumber" : Str), 109) : Str × Addr) ∈ Mine.hcs := .tail _ (.tail _ (.tail _ (.tail _ (.tail _ (.tail _ (.tail _ (.head _)))))))
  have O := Mine.cls_of (c := ⟨PySem.Challenge.rw_uf050018_14.row.prog, w, _, _, _, mg, mb⟩) (by kernel_rfl) hB (C.ec _ m0) (C.eu m3 m0) (C.ei false m3 m1 (by decide)) (C.ei false m3 m2 (by decide)) (C.ei true m3 m3 (by decide)) (C.ei false m3 m4 (by decide)) (C.ei false m3 m5 (by decide)) (C.ei false m3 m6 (by decide)) (C.ei false m3 m7 (by decide)) (C.eu m4 m0) (C.ei false m4 m1 (by decide)) (C.ei false m4 m2 (by decide)) (C.ei false m4 m3 (by decide)) (C.ei true m4 m4 (by decide)) (C.ei false m4 m5 (by decide)) (C.ei false m4 m6 (by decide)) (C.ei false m4 m7 (by decide)) (C.eu m5 m0) (C.ei false m5 m1 (by decide)) (C.ei false m5 m2 (by decide)) (C.ei false m5 m3 (by decide)) (C.ei false m5 m4 (by decide)) (C.ei true m5 m5 (by decide)) (C.ei false m5 m6 (by decide)) (C.ei false m5 m7 (by decide))
  exact Mine.law_endW (c := ⟨PySem.Challenge.rw_uf050018_14.row.prog, w, _, _, _, mg, mb⟩) (Mine.f_law (by kernel_rfl) hB O hn) T KX hmg r0 hg (raisesW_false (fun _ h => nomatch h)) (postW_of rfl rfl (by first | rfl | decide | simp [same] | w_fin))
