import PyProof.Rows.All
import Wide.All
import OpenK.AllK
import Wide.FinOn
import KE.KStateDown
import HandS.ForMost
import HandS.Codes
import HandS.Defaults
import HandS.IsInst
import HandS.Star
import HandS.HeadHook4
import PySem.Str
import HandS.More
import HandS.Set
import HandS.SetFor
import HandS.SetTxt0
import HandS.Strs
import KE.KEqNest
import PyProof.NeKinds
import PyProof.EqKinds
import HandS.TupAny
import HandS.DictComp
import HandS.Walk
import HandS.OwnEq
import KE.KDictPairs
import KE.KAssignIn
import KE.KDictLaw
import HandS.ExcInit
import HandS.ExcField
import HandS.Head0
import HandS.Head1
import HandS.Head2
import HandS.Conv
import HandS.Lambda
import HandS.HeadWalk
import PySem.Challenge.RW_twopatches_k96_whole_logs_and_functions
set_option Elab.async false
set_option linter.all false
section
/-! Twopatches: the plain mathematics. Documents and effects over four keys; a place where nothing is bears `abs`. -/
namespace Tp
open PySem

/-! ### keys, atoms, documents, effects -/
inductive Ky where
  | a | b | c | z
  deriving DecidableEq
def kys : List Ky := [.a, .b, .c, .z]
theorem mem_kys (k : Ky) : k ∈ kys := by cases k <;> decide
/-- what may stand in a list -/
abbrev TStr : Type := {x : Str // x.cps.all (· < 0x110000) = true}
inductive A0 where
  | non | int (i : Int) | str (x : TStr)
  deriving DecidableEq
inductive At where
  | pl (x : A0) | lst (xs : List A0)
  deriving DecidableEq
/-- a document, or nothing -/
inductive D where
  | abs | atom (x : At) | obj (f : Ky → D)
inductive E where
  | keep | drop | set (x : At) | mrg (f : Ky → E) | bld (f : Ky → E)
abbrev non : At := .pl .non
def all4 (p : Ky → Bool) : Bool := p .a && p .b && p .c && p .z
def any4 (p : Ky → Bool) : Bool := p .a || p .b || p .c || p .z
theorem all4_iff {p : Ky → Bool} : all4 p = true ↔ ∀ k, p k = true := by
  constructor
  · intro h k
    simp only [all4, Bool.and_eq_true] at h
    cases k <;> simp_all
  · intro h
    simp [all4, h]
theorem any4_iff {p : Ky → Bool} : any4 p = true ↔ ∃ k, p k = true := by
  constructor
  · intro h
    simp only [any4, Bool.or_eq_true] at h
    rcases h with ((h | h) | h) | h
    · exact ⟨_, h⟩
    · exact ⟨_, h⟩
    · exact ⟨_, h⟩
    · exact ⟨_, h⟩
  · rintro ⟨k, h⟩
    cases k <;> simp [any4, h]
def mx4 (g : Ky → Nat) : Nat := max (max (g .a) (g .b)) (max (g .c) (g .z))
theorem mx4_le {g : Ky → Nat} {n : Nat} : mx4 g ≤ n ↔ ∀ k, g k ≤ n := by
  constructor
  · intro h k
    unfold mx4 at h
    cases k <;> omega
  · intro h
    have := h .a; have := h .b; have := h .c; have := h .z
    unfold mx4
    omega
def sm4 (g : Ky → Nat) : Nat := g .a + g .b + g .c + g .z
namespace D
def isAbs : D → Bool
  | abs => true
  | _ => false
def isObj : D → Bool
  | obj _ => true
  | _ => false
def isNon : D → Bool
  | atom (.pl .non) => true
  | _ => false
def kid : D → Ky → D
  | obj f, k => f k
  | _, _ => abs
def dep : D → Nat
  | abs => 0
  | atom _ => 0
  | obj f => 1 + mx4 fun k => (f k).dep
def par : D → Nat
  | abs => 0
  | atom _ => 1
  | obj f => 1 + sm4 fun k => (f k).par
def eqb : D → D → Bool
  | abs, abs => true
  | atom x, atom y => decide (x = y)
  | obj f, obj g => all4 fun k => eqb (f k) (g k)
  | _, _ => false
theorem eqb_iff : ∀ {d e : D}, eqb d e = true ↔ d = e
  | abs, e => by cases e <;> simp [eqb]
  | atom x, e => by cases e <;> simp [eqb]
  | obj f, e => by
    cases e with
    | abs => simp [eqb]
    | atom y => simp [eqb]
    | obj g =>
      rw [eqb, all4_iff]
      constructor
      · intro h
        have : f = g := funext fun k => (eqb_iff (d := f k) (e := g k)).mp (h k)
        rw [this]
      · intro h k
        have e : f = g := D.obj.inj h
        exact (eqb_iff (d := f k) (e := g k)).mpr (by rw [e])
instance : DecidableEq D := fun d e => if h : eqb d e = true then .isTrue (eqb_iff.mp h) else .isFalse fun q => h (eqb_iff.mpr q)
theorem isAbs_iff {d : D} : d.isAbs = true ↔ d = abs := by cases d <;> simp [isAbs]
theorem isNon_iff {d : D} : d.isNon = true ↔ d = atom non := by
  cases d with
  | atom x =>
    cases x with
    | pl y => cases y <;> simp [isNon, non]
    | lst ys => simp [isNon, non]
  | _ => simp [isNon]
theorem dep_kid {d : D} {n : Nat} (h : d.dep ≤ n + 1) (k : Ky) : (d.kid k).dep ≤ n := by
  cases d with
  | obj f =>
    have h1 : 1 + mx4 (fun k => (f k).dep) ≤ n + 1 := h
    exact mx4_le.mp (show mx4 (fun k => (f k).dep) ≤ n by omega) k
  | _ => exact Nat.zero_le _
theorem dep_obj {f : Ky → D} {n : Nat} (h : ∀ k, (f k).dep ≤ n) : (obj f).dep ≤ n + 1 := by
  show 1 + mx4 (fun k => (f k).dep) ≤ n + 1
  have := mx4_le.mpr h
  omega
/-- a document of depth n has at most so many parts -/
def cap : Nat → Nat
  | 0 => 1
  | n + 1 => 1 + 4 * cap n
theorem cap_mono {n m : Nat} (h : n ≤ m) : cap n ≤ cap m := by
  induction h with
  | refl => exact Nat.le_refl _
  | step _ ih => exact Nat.le_trans ih (by show _ ≤ 1 + 4 * cap _; omega)
theorem par_le : ∀ (n : Nat) (d : D), d.dep ≤ n → d.par ≤ cap n
  | n, abs, _ => Nat.zero_le _
  | n, atom _, _ => by
    show 1 ≤ cap n
    cases n with
    | zero => exact Nat.le_refl _
    | succ n => show 1 ≤ 1 + 4 * cap n; omega
  | 0, obj f, h => by
    have h1 : 1 + mx4 (fun k => (f k).dep) ≤ 0 := h
    omega
  | n + 1, obj f, h => by
    have q := fun k => par_le n (f k) (dep_kid (d := obj f) h k)
    have := q .a; have := q .b; have := q .c; have := q .z
    show 1 + ((f .a).par + (f .b).par + (f .c).par + (f .z).par) ≤ 1 + 4 * cap n
    omega
end D
namespace E
def isKeep : E → Bool
  | keep => true
  | _ => false
def isDrop : E → Bool
  | drop => true
  | _ => false
def isMrg : E → Bool
  | mrg _ => true
  | _ => false
def isBld : E → Bool
  | bld _ => true
  | _ => false
def dep : E → Nat
  | mrg f => 1 + mx4 fun k => (f k).dep
  | bld f => 1 + mx4 fun k => (f k).dep
  | _ => 0
def eqb : E → E → Bool
  | keep, keep => true
  | drop, drop => true
  | set x, set y => decide (x = y)
  | mrg f, mrg g => all4 fun k => eqb (f k) (g k)
  | bld f, bld g => all4 fun k => eqb (f k) (g k)
  | _, _ => false
theorem eqb_iff : ∀ {d e : E}, eqb d e = true ↔ d = e
  | keep, e => by cases e <;> simp [eqb]
  | drop, e => by cases e <;> simp [eqb]
  | set x, e => by cases e <;> simp [eqb]
  | mrg f, e => by
    cases e with
    | mrg g =>
      rw [eqb, all4_iff]
      constructor
      · intro h
        have : f = g := funext fun k => (eqb_iff (d := f k) (e := g k)).mp (h k)
        rw [this]
      · intro h k
        have e : f = g := E.mrg.inj h
        exact (eqb_iff (d := f k) (e := g k)).mpr (by rw [e])
    | _ => simp [eqb]
  | bld f, e => by
    cases e with
    | bld g =>
      rw [eqb, all4_iff]
      constructor
      · intro h
        have : f = g := funext fun k => (eqb_iff (d := f k) (e := g k)).mp (h k)
        rw [this]
      · intro h k
        have e : f = g := E.bld.inj h
        exact (eqb_iff (d := f k) (e := g k)).mpr (by rw [e])
    | _ => simp [eqb]
instance : DecidableEq E := fun d e => if h : eqb d e = true then .isTrue (eqb_iff.mp h) else .isFalse fun q => h (eqb_iff.mpr q)
theorem isKeep_iff {e : E} : e.isKeep = true ↔ e = keep := by cases e <;> simp [isKeep]
theorem isDrop_iff {e : E} : e.isDrop = true ↔ e = drop := by cases e <;> simp [isDrop]
theorem dep_mrg {f : Ky → E} {n : Nat} : (mrg f).dep ≤ n + 1 ↔ ∀ k, (f k).dep ≤ n := by
  show 1 + mx4 (fun k => (f k).dep) ≤ n + 1 ↔ _
  rw [← mx4_le]
  omega
theorem dep_bld {f : Ky → E} {n : Nat} : (bld f).dep ≤ n + 1 ↔ ∀ k, (f k).dep ≤ n := by
  show 1 + mx4 (fun k => (f k).dep) ≤ n + 1 ↔ _
  rw [← mx4_le]
  omega
end E

/-! ### what a patch does, what an effect does -/
open D E
/-- a document (or nothing) after a patch -/
def mg (d : D) : D → D
  | .abs => .abs
  | .atom x => .atom x
  | .obj p => .obj fun k => if (p k).isAbs = true then d.kid k else if (p k).isNon = true then .abs else mg (d.kid k) (p k)
/-- a document (or nothing) after an effect -/
def act : E → D → D
  | .keep, d => d
  | .drop, _ => .abs
  | .set x, _ => .atom x
  | .mrg f, d => .obj fun k => act (f k) (d.kid k)
  | .bld f, _ => .obj fun k => act (f k) .abs
/-- the effect of a patch as a member; nothing there: keep -/
def ofM : D → E
  | .abs => .keep
  | .atom x => if x = non then .drop else .set x
  | .obj p => .mrg fun k => ofM (p k)
/-- the effect of a patch -/
def ofP : D → E
  | .atom x => .set x
  | p => ofM p
/-- what a member's effect makes where nothing is -/
def blt : E → E
  | .keep => .drop
  | .drop => .drop
  | .set x => .set x
  | .mrg f => .bld fun k => blt (f k)
  | .bld f => .bld f
/-- one effect, then another -/
def jn : E → E → E
  | e, .keep => e
  | _, .drop => .drop
  | _, .set x => .set x
  | _, .bld f => .bld f
  | .keep, .mrg f => .mrg f
  | .set _, .mrg f => blt (.mrg f)
  | .drop, .mrg f => blt (.mrg f)
  | .mrg g, .mrg f => .mrg fun k => jn (g k) (f k)
  | .bld g, .mrg f => .bld fun k => jn (g k) (f k)
theorem jn_keep (e : E) : jn e .keep = e := by cases e <;> rfl
theorem keep_jn (e : E) : jn .keep e = e := by cases e <;> rfl
theorem act_idem : ∀ (e : E) (d : D), act e (act e d) = act e d
  | .keep, _ => rfl
  | .drop, _ => rfl
  | .set _, _ => rfl
  | .mrg f, d => by
    show D.obj (fun k => act (f k) (act (f k) (d.kid k))) = D.obj fun k => act (f k) (d.kid k)
    exact congrArg D.obj (funext fun k => act_idem (f k) (d.kid k))
  | .bld f, d => rfl
theorem act_blt : ∀ (e : E) (d : D), act (blt e) d = act e .abs
  | .keep, _ => rfl
  | .drop, _ => rfl
  | .set _, _ => rfl
  | .mrg f, d => by
    show D.obj (fun k => act (blt (f k)) .abs) = D.obj fun k => act (f k) (D.kid .abs k)
    exact congrArg D.obj (funext fun k => act_blt (f k) .abs)
  | .bld f, d => rfl
/-- only what is an object matters to an effect -/
theorem act_mrg_noObj {f : Ky → E} {d : D} (h : d.isObj = false) : act (.mrg f) d = act (.mrg f) .abs := by
  cases d with
  | obj g => cases h
  | _ => rfl
theorem act_jn : ∀ (e2 e1 : E) (d : D), act (jn e1 e2) d = act e2 (act e1 d)
  | .keep, e1, d => by rw [jn_keep]; rfl
  | .drop, e1, d => by cases e1 <;> rfl
  | .set _, e1, d => by cases e1 <;> rfl
  | .bld f, e1, d => by cases e1 <;> rfl
  | .mrg f, e1, d => by
    cases e1 with
    | keep => rfl
    | drop => exact act_blt (.mrg f) d
    | set x => exact (act_blt (.mrg f) d).trans (act_mrg_noObj (d := .atom x) rfl).symm
    | mrg g =>
      show D.obj (fun k => act (jn (g k) (f k)) (d.kid k)) = D.obj fun k => act (f k) (act (g k) (d.kid k))
      exact congrArg D.obj (funext fun k => act_jn (f k) (g k) (d.kid k))
    | bld g =>
      show D.obj (fun k => act (jn (g k) (f k)) .abs) = D.obj fun k => act (f k) (act (g k) .abs)
      exact congrArg D.obj (funext fun k => act_jn (f k) (g k) .abs)
theorem act_ofM : ∀ (p d : D), act (ofM p) d = if p.isAbs = true then d else if p.isNon = true then .abs else mg d p
  | .abs, d => rfl
  | .atom x, d => by
    by_cases h : x = non
    · subst h; rfl
    · show act (if x = non then .drop else .set x) d = _
      rw [if_neg h]
      have hn : (D.atom x).isNon = false := by
        cases q : (D.atom x).isNon with
        | false => rfl
        | true => exact absurd (D.atom.inj (D.isNon_iff.mp q)) h
      simp [D.isAbs, hn, act, mg]
  | .obj p, d => by
    show D.obj (fun k => act (ofM (p k)) (d.kid k)) = mg d (.obj p)
    exact congrArg D.obj (funext fun k => act_ofM (p k) (d.kid k))
theorem act_ofP {p : D} (h : p ≠ .abs) (d : D) : act (ofP p) d = mg d p := by
  cases p with
  | abs => exact absurd rfl h
  | atom x => rfl
  | obj f => exact act_ofM (.obj f) d
theorem blt_blt : ∀ e : E, blt (blt e) = blt e
  | .keep => rfl
  | .drop => rfl
  | .set _ => rfl
  | .mrg _ => rfl
  | .bld _ => rfl
theorem jn_blt : ∀ (z y : E), jn (blt y) z = blt (jn y z)
  | .keep, y => by rw [jn_keep, jn_keep]
  | .drop, y => by cases y <;> rfl
  | .set _, y => by cases y <;> rfl
  | .bld f, y => by cases y <;> rfl
  | .mrg f, y => by
    cases y with
    | keep => rfl
    | drop => rfl
    | set x => rfl
    | mrg g =>
      show E.bld (fun k => jn (blt (g k)) (f k)) = E.bld fun k => blt (jn (g k) (f k))
      exact congrArg E.bld (funext fun k => jn_blt (f k) (g k))
    | bld g => rfl
theorem jn_assoc : ∀ (z x y : E), jn (jn x y) z = jn x (jn y z)
  | .keep, x, y => by rw [jn_keep, jn_keep]
  | .drop, x, y => by
    have e : jn y E.drop = .drop := by cases y <;> rfl
    have e2 : jn (jn x y) E.drop = .drop := by cases jn x y <;> rfl
    have e3 : jn x E.drop = .drop := by cases x <;> rfl
    rw [e, e2, e3]
  | .set a, x, y => by
    have e : jn y (E.set a) = .set a := by cases y <;> rfl
    have e2 : jn (jn x y) (E.set a) = .set a := by cases jn x y <;> rfl
    have e3 : jn x (E.set a) = .set a := by cases x <;> rfl
    rw [e, e2, e3]
  | .bld a, x, y => by
    have e : jn y (E.bld a) = .bld a := by cases y <;> rfl
    have e2 : jn (jn x y) (E.bld a) = .bld a := by cases jn x y <;> rfl
    have e3 : jn x (E.bld a) = .bld a := by cases x <;> rfl
    rw [e, e2, e3]
  | .mrg h, x, y => by
    cases y with
    | keep => rw [jn_keep, keep_jn]
    | drop => cases x <;> rfl
    | set a => cases x <;> rfl
    | bld g => cases x <;> rfl
    | mrg g =>
      cases x with
      | keep => rfl
      | drop =>
        show E.bld (fun k => jn (blt (g k)) (h k)) = E.bld fun k => blt (jn (g k) (h k))
        exact congrArg E.bld (funext fun k => jn_blt (h k) (g k))
      | set a =>
        show E.bld (fun k => jn (blt (g k)) (h k)) = E.bld fun k => blt (jn (g k) (h k))
        exact congrArg E.bld (funext fun k => jn_blt (h k) (g k))
      | mrg f =>
        show E.mrg (fun k => jn (jn (f k) (g k)) (h k)) = E.mrg fun k => jn (f k) (jn (g k) (h k))
        exact congrArg E.mrg (funext fun k => jn_assoc (h k) (f k) (g k))
      | bld f =>
        show E.bld (fun k => jn (jn (f k) (g k)) (h k)) = E.bld fun k => jn (f k) (jn (g k) (h k))
        exact congrArg E.bld (funext fun k => jn_assoc (h k) (f k) (g k))

/-! ### rows -/
/-- a document after a row -/
def runD (d : D) (ps : List D) : D := ps.foldl mg d
/-- the effect of a row -/
def whole (ps : List D) : E := ps.foldl (fun e p => jn e (ofP p)) .keep
theorem whole_from (ps : List D) : ∀ e : E, ps.foldl (fun e p => jn e (ofP p)) e = jn e (whole ps) := by
  induction ps with
  | nil => intro e; exact (jn_keep e).symm
  | cons p r ih =>
    intro e
    show r.foldl (fun e p => jn e (ofP p)) (jn e (ofP p)) = jn e (r.foldl (fun e p => jn e (ofP p)) (jn .keep (ofP p)))
    rw [ih, ih, keep_jn, jn_assoc]
theorem whole_cons (p : D) (r : List D) : whole (p :: r) = jn (ofP p) (whole r) := by
  show r.foldl (fun e p => jn e (ofP p)) (jn .keep (ofP p)) = _
  rw [whole_from, keep_jn]
theorem whole_append (ps qs : List D) : whole (ps ++ qs) = jn (whole ps) (whole qs) := by
  unfold whole
  rw [List.foldl_append, whole_from]
  rfl
theorem whole_snoc (ps : List D) (p : D) : whole (ps ++ [p]) = jn (whole ps) (ofP p) := by
  unfold whole
  rw [List.foldl_append] <;> rfl
theorem act_whole : ∀ (ps : List D), (∀ p ∈ ps, p ≠ .abs) → ∀ d, act (whole ps) d = runD d ps
  | [], _, _ => rfl
  | p :: r, h, d => by
    rw [whole_cons, act_jn, act_ofP (h p List.mem_cons_self), act_whole r fun q hq => h q (List.mem_cons_of_mem _ hq)]
    rfl
theorem mg_ne {d p : D} (h : p ≠ .abs) : mg d p ≠ .abs := by
  cases p with
  | abs => exact absurd rfl h
  | _ => exact fun q => nomatch q
theorem runD_ne : ∀ {ps : List D}, (∀ p ∈ ps, p ≠ .abs) → ∀ {d : D}, d ≠ .abs → runD d ps ≠ .abs
  | [], _, _, hd => hd
  | p :: r, h, _, _ => runD_ne (ps := r) (fun q hq => h q (List.mem_cons_of_mem _ hq)) (mg_ne (h p List.mem_cons_self))
theorem runD_snoc (d : D) (ps : List D) (p : D) : runD d (ps ++ [p]) = mg (runD d ps) p := by
  unfold runD
  rw [List.foldl_append] <;> rfl
theorem run_run (ps : List D) (h : ∀ p ∈ ps, p ≠ .abs) (d : D) : runD (runD d ps) ps = runD d ps := by
  rw [← act_whole ps h, ← act_whole ps h, act_idem]

/-! ### depths -/
theorem mg_dep : ∀ (p d : D) {n : Nat}, p.dep ≤ n → d.dep ≤ n → (mg d p).dep ≤ n
  | .abs, _, _, _, _ => Nat.zero_le _
  | .atom _, _, _, _, _ => Nat.zero_le _
  | .obj p, d, n, hp, hd => by
    cases n with
    | zero =>
      have h1 : 1 + mx4 (fun k => (p k).dep) ≤ 0 := hp
      omega
    | succ n =>
      refine D.dep_obj fun k => ?_
      have h1 := D.dep_kid hp k
      have h2 := D.dep_kid hd k
      split
      · exact h2
      · split
        · exact Nat.zero_le _
        · exact mg_dep (p k) (d.kid k) h1 h2
theorem runD_dep {n : Nat} : ∀ (ps : List D) (d : D), (∀ p ∈ ps, p.dep ≤ n) → d.dep ≤ n → (runD d ps).dep ≤ n
  | [], _, _, h => h
  | p :: r, d, hp, h => runD_dep r (mg d p) (fun q hq => hp q (List.mem_cons_of_mem _ hq)) (mg_dep p d (hp p List.mem_cons_self) h)
theorem ofM_dep : ∀ (p : D), (ofM p).dep = p.dep
  | .abs => rfl
  | .atom x => by
    show (if x = non then E.drop else .set x).dep = 0
    split <;> rfl
  | .obj p => by
    show 1 + mx4 (fun k => (ofM (p k)).dep) = 1 + mx4 fun k => (p k).dep
    have e : (fun k => (ofM (p k)).dep) = fun k => (p k).dep := funext fun k => ofM_dep (p k)
    rw [e]
theorem ofP_dep (p : D) : (ofP p).dep = p.dep := by
  cases p with
  | atom x => rfl
  | abs => rfl
  | obj f => exact ofM_dep (.obj f)
theorem blt_dep : ∀ (e : E), (blt e).dep = e.dep
  | .keep => rfl
  | .drop => rfl
  | .set _ => rfl
  | .bld _ => rfl
  | .mrg f => by
    show 1 + mx4 (fun k => (blt (f k)).dep) = 1 + mx4 fun k => (f k).dep
    have e : (fun k => (blt (f k)).dep) = fun k => (f k).dep := funext fun k => blt_dep (f k)
    rw [e]
theorem jn_dep : ∀ (e2 e1 : E) {n : Nat}, e2.dep ≤ n → e1.dep ≤ n → (jn e1 e2).dep ≤ n
  | .keep, e1, n, _, h => by rw [jn_keep]; exact h
  | .drop, e1, n, h, _ => by cases e1 <;> exact h
  | .set _, e1, n, h, _ => by cases e1 <;> exact h
  | .bld f, e1, n, h, _ => by cases e1 <;> exact h
  | .mrg f, e1, n, h, h1 => by
    cases e1 with
    | keep => exact h
    | drop =>
      show (blt (.mrg f)).dep ≤ n
      rw [blt_dep]
      exact h
    | set x =>
      show (blt (.mrg f)).dep ≤ n
      rw [blt_dep]
      exact h
    | mrg g =>
      cases n with
      | zero =>
        have z : 1 + mx4 (fun k => (f k).dep) ≤ 0 := h
        omega
      | succ n => exact E.dep_mrg.mpr fun k => jn_dep (f k) (g k) (E.dep_mrg.mp h k) (E.dep_mrg.mp h1 k)
    | bld g =>
      cases n with
      | zero =>
        have z : 1 + mx4 (fun k => (f k).dep) ≤ 0 := h
        omega
      | succ n => exact E.dep_bld.mpr fun k => jn_dep (f k) (g k) (E.dep_mrg.mp h k) (E.dep_bld.mp h1 k)
theorem whole_dep {n : Nat} (ps : List D) (h : ∀ p ∈ ps, p.dep ≤ n) : (whole ps).dep ≤ n := by
  induction ps with
  | nil => exact Nat.zero_le _
  | cons p r ih =>
    rw [whole_cons]
    exact jn_dep _ _ (ih fun q hq => h q (List.mem_cons_of_mem _ hq)) (by rw [ofP_dep]; exact h p List.mem_cons_self)
theorem act_dep : ∀ (e : E) (d : D) {n : Nat}, e.dep ≤ n → d.dep ≤ n → (act e d).dep ≤ n
  | .keep, _, _, _, h => h
  | .drop, _, _, _, _ => Nat.zero_le _
  | .set _, _, _, _, _ => Nat.zero_le _
  | .mrg f, d, n, h, hd => by
    cases n with
    | zero =>
      have z : 1 + mx4 (fun k => (f k).dep) ≤ 0 := h
      omega
    | succ n => exact D.dep_obj fun k => act_dep (f k) (d.kid k) (E.dep_mrg.mp h k) (D.dep_kid hd k)
  | .bld f, d, n, h, hd => by
    cases n with
    | zero =>
      have z : 1 + mx4 (fun k => (f k).dep) ≤ 0 := h
      omega
    | succ n => exact D.dep_obj fun k => act_dep (f k) .abs (E.dep_bld.mp h k) (Nat.zero_le _)

/-! ### compacting -/
/-- a member's effect as a patch's member -/
def asP : E → D
  | .keep => .abs
  | .drop => .atom non
  | .set x => .atom x
  | .mrg f => .obj fun k => asP (f k)
  | .bld f => .obj fun k => if (f k).isDrop = true then .abs else asP (f k)
def bs : E → Bool
  | .mrg f => any4 fun k => bs (f k)
  | .bld _ => true
  | _ => false
/-- deletes what is built -/
def clr : E → D
  | .mrg f => .obj fun k => if bs (f k) = true then clr (f k) else .abs
  | _ => .atom non
def short (e : E) : List D := if e.isKeep = true then [] else if bs e = true then [clr e, asP e] else [asP e]
/-- effects of rows -/
def wfM : E → Bool
  | .set x => decide (x ≠ non)
  | .mrg f => all4 fun k => wfM (f k)
  | .bld f => all4 fun k => wfM (f k) && !(f k).isKeep && !(f k).isMrg
  | _ => true
def wf : E → Bool
  | .set _ => true
  | .drop => false
  | e => wfM e
theorem wfM_ofM : ∀ p : D, wfM (ofM p) = true
  | .abs => rfl
  | .atom x => by
    show wfM (if x = non then E.drop else .set x) = true
    split
    · rfl
    · rename_i h
      exact decide_eq_true h
  | .obj p => all4_iff.mpr fun k => wfM_ofM (p k)
theorem wf_ofP {p : D} (h : p ≠ .abs) : wf (ofP p) = true := by
  cases p with
  | abs => exact absurd rfl h
  | atom x => rfl
  | obj f => exact wfM_ofM (.obj f)
theorem blt_kind (e : E) : (blt e).isKeep = false ∧ (blt e).isMrg = false := by cases e <;> exact ⟨rfl, rfl⟩
theorem wfM_blt : ∀ e : E, wfM e = true → wfM (blt e) = true
  | .keep, _ => rfl
  | .drop, _ => rfl
  | .set _, h => h
  | .bld _, h => h
  | .mrg f, h => by
    refine all4_iff.mpr fun k => ?_
    have q := wfM_blt (f k) (all4_iff.mp h k)
    rw [q, (blt_kind (f k)).1, (blt_kind (f k)).2]
    rfl
theorem jn_kind2 {e1 e2 : E} (h1 : e1.isKeep = false) (h2 : e1.isMrg = false) : (jn e1 e2).isKeep = false ∧ (jn e1 e2).isMrg = false := by
  cases e2 with
  | keep => rw [jn_keep]; exact ⟨h1, h2⟩
  | mrg f => cases e1 <;> first | (exact ⟨rfl, rfl⟩) | exact Bool.noConfusion h1 | exact Bool.noConfusion h2
  | drop => cases e1 <;> exact ⟨rfl, rfl⟩
  | set x => cases e1 <;> exact ⟨rfl, rfl⟩
  | bld f => cases e1 <;> exact ⟨rfl, rfl⟩
theorem wfM_jn : ∀ (e2 e1 : E), wfM e1 = true → wfM e2 = true → wfM (jn e1 e2) = true
  | .keep, e1, h, _ => by rw [jn_keep]; exact h
  | .drop, e1, _, h => by cases e1 <;> exact h
  | .set _, e1, _, h => by cases e1 <;> exact h
  | .bld f, e1, _, h => by cases e1 <;> exact h
  | .mrg f, e1, h1, h => by
    cases e1 with
    | keep => exact h
    | drop => exact wfM_blt _ h
    | set x => exact wfM_blt _ h
    | mrg g => exact all4_iff.mpr fun k => wfM_jn (f k) (g k) (all4_iff.mp h1 k) (all4_iff.mp h k)
    | bld g =>
      refine all4_iff.mpr fun k => ?_
      have q := all4_iff.mp h1 k
      simp only [Bool.and_eq_true, Bool.not_eq_true'] at q
      have r := jn_kind2 (e2 := f k) q.1.2 q.2
      rw [wfM_jn (f k) (g k) q.1.1 (all4_iff.mp h k), r.1, r.2]
      rfl
theorem wf_jn {e1 e2 : E} (h1 : wf e1 = true) (h2 : wf e2 = true) : wf (jn e1 e2) = true := by
  cases e2 with
  | keep => rw [jn_keep]; exact h1
  | drop => cases h2
  | set x => cases e1 <;> rfl
  | bld f => cases e1 <;> exact h2
  | mrg f =>
    cases e1 with
    | keep => exact h2
    | drop => cases h1
    | set x => exact wfM_blt (.mrg f) h2
    | mrg g => exact wfM_jn (.mrg f) (.mrg g) h1 h2
    | bld g => exact wfM_jn (.mrg f) (.bld g) h1 h2
theorem wf_whole : ∀ ps : List D, (∀ p ∈ ps, p ≠ .abs) → wf (whole ps) = true
  | [], _ => rfl
  | p :: r, h => by
    rw [whole_cons]
    exact wf_jn (wf_ofP (h p List.mem_cons_self)) (wf_whole r fun q hq => h q (List.mem_cons_of_mem _ hq))
/-- as a patch and back: without a build it is the same; with builds as objects that merge -/
theorem ofM_asP : ∀ e : E, wfM e = true → bs e = false → ofM (asP e) = e
  | .keep, _, _ => rfl
  | .drop, _, _ => rfl
  | .set x, h, _ => if_neg (of_decide_eq_true h)
  | .bld _, _, h => by cases h
  | .mrg f, h, hb => by
    refine congrArg E.mrg (funext fun k => ?_)
    refine ofM_asP (f k) (all4_iff.mp h k) ?_
    cases q : bs (f k) with
    | false => rfl
    | true =>
      have : bs (.mrg f) = true := any4_iff.mpr ⟨k, q⟩
      rw [this] at hb
      cases hb
theorem blt_asP : ∀ e : E, wfM e = true → e.isKeep = false → e.isMrg = false → blt (ofM (if e.isDrop = true then .abs else asP e)) = e
  | .keep, _, h, _ => by cases h
  | .drop, _, _, _ => rfl
  | .set x, h, _, _ => by
    show blt (if x = non then E.drop else .set x) = .set x
    rw [if_neg (of_decide_eq_true h)] <;> rfl
  | .mrg _, _, _, h => by cases h
  | .bld f, h, _, _ => by
    refine congrArg E.bld (funext fun k => ?_)
    have q := all4_iff.mp h k
    simp only [Bool.and_eq_true, Bool.not_eq_true'] at q
    exact blt_asP (f k) q.1.1 q.1.2 q.2
theorem jn_clr : ∀ e : E, wfM e = true → bs e = true → jn (ofM (clr e)) (ofM (asP e)) = e
  | .keep, _, h => by cases h
  | .drop, _, h => by cases h
  | .set _, _, h => by cases h
  | .bld f, h, _ => blt_asP (.bld f) h rfl rfl
  | .mrg f, h, hb => by
    refine congrArg E.mrg (funext fun k => ?_)
    have hk := all4_iff.mp h k
    show jn (ofM (if bs (f k) = true then clr (f k) else .abs)) (ofM (asP (f k))) = f k
    cases q : bs (f k) with
    | false =>
      rw [if_neg Bool.false_ne_true]
      show jn .keep (ofM (asP (f k))) = f k
      rw [keep_jn, ofM_asP _ hk q]
    | true =>
      rw [if_pos rfl]
      exact jn_clr (f k) hk q
theorem ofP_obj (f : Ky → D) : ofP (.obj f) = ofM (.obj f) := rfl
theorem asP_ne : ∀ {e : E}, e.isKeep = false → asP e ≠ .abs
  | .keep, h => by cases h
  | .drop, _ => fun q => nomatch q
  | .set _, _ => fun q => nomatch q
  | .mrg _, _ => fun q => nomatch q
  | .bld _, _ => fun q => nomatch q
theorem clr_ne (e : E) : clr e ≠ .abs := by cases e <;> exact fun q => nomatch q
theorem short_ne (e : E) : ∀ p ∈ short e, p ≠ .abs := by
  intro p hp
  unfold short at hp
  cases hk : e.isKeep with
  | true => rw [hk] at hp; cases hp
  | false =>
    rw [hk, if_neg Bool.false_ne_true] at hp
    split at hp
    · rcases List.mem_cons.mp hp with h | h
      · rw [h]; exact clr_ne e
      · rw [List.mem_singleton.mp h]; exact asP_ne hk
    · rw [List.mem_singleton.mp hp]; exact asP_ne hk
theorem whole_short : ∀ e : E, wf e = true → whole (short e) = e
  | .keep, _ => rfl
  | .drop, h => by cases h
  | .set x, _ => rfl
  | .bld f, h => by
    show whole [clr (.bld f), asP (.bld f)] = _
    show jn (jn .keep (ofP (.atom non))) (ofM (asP (.bld f))) = .bld f
    exact blt_asP (.bld f) h rfl rfl
  | .mrg f, h => by
    unfold short
    rw [if_neg (show ¬ (E.mrg f).isKeep = true from Bool.false_ne_true)]
    cases q : bs (.mrg f) with
    | false =>
      rw [if_neg Bool.false_ne_true]
      show jn .keep (ofM (asP (.mrg f))) = _
      rw [keep_jn, ofM_asP _ h q]
    | true =>
      rw [if_pos rfl]
      show jn (jn .keep (ofM (clr (.mrg f)))) (ofM (asP (.mrg f))) = _
      rw [keep_jn, jn_clr _ h q]
theorem asP_dep : ∀ (e : E) {n : Nat}, e.dep ≤ n → (asP e).dep ≤ n
  | .keep, _, _ => Nat.zero_le _
  | .drop, _, _ => Nat.zero_le _
  | .set _, _, _ => Nat.zero_le _
  | .mrg f, n, h => by
    cases n with
    | zero =>
      have z : 1 + mx4 (fun k => (f k).dep) ≤ 0 := h
      omega
    | succ n => exact D.dep_obj fun k => asP_dep (f k) (E.dep_mrg.mp h k)
  | .bld f, n, h => by
    cases n with
    | zero =>
      have z : 1 + mx4 (fun k => (f k).dep) ≤ 0 := h
      omega
    | succ n =>
      refine D.dep_obj fun k => ?_
      split
      · exact Nat.zero_le _
      · exact asP_dep (f k) (E.dep_bld.mp h k)
theorem clr_dep : ∀ (e : E) {n : Nat}, e.dep ≤ n → (clr e).dep ≤ n
  | .keep, _, _ => Nat.zero_le _
  | .drop, _, _ => Nat.zero_le _
  | .set _, _, _ => Nat.zero_le _
  | .bld _, _, _ => Nat.zero_le _
  | .mrg f, n, h => by
    cases n with
    | zero =>
      have z : 1 + mx4 (fun k => (f k).dep) ≤ 0 := h
      omega
    | succ n =>
      refine D.dep_obj fun k => ?_
      split
      · exact clr_dep (f k) (E.dep_mrg.mp h k)
      · exact Nat.zero_le _
theorem short_dep {e : E} {n : Nat} (h : e.dep ≤ n) : ∀ p ∈ short e, p.dep ≤ n := by
  intro p hp
  unfold short at hp
  split at hp
  · cases hp
  · split at hp
    · rcases List.mem_cons.mp hp with q | q
      · rw [q]; exact clr_dep e h
      · rw [List.mem_singleton.mp q]; exact asP_dep e h
    · rw [List.mem_singleton.mp hp]; exact asP_dep e h
theorem short_two (e : E) : (short e).length ≤ 2 := by
  unfold short
  split
  · exact Nat.zero_le _
  · split
    · exact Nat.le_refl _
    · exact Nat.le_succ _
theorem bs_ofM : ∀ p : D, bs (ofM p) = false
  | .abs => rfl
  | .atom x => by
    show bs (if x = non then E.drop else .set x) = false
    split <;> rfl
  | .obj p => by
    cases q : bs (ofM (.obj p)) with
    | false => rfl
    | true =>
      obtain ⟨k, h⟩ := any4_iff.mp (show (any4 fun k => bs (ofM (p k))) = true from q)
      rw [bs_ofM (p k)] at h
      cases h
theorem bs_ofP (p : D) : bs (ofP p) = false := by
  cases p with
  | atom x => rfl
  | abs => rfl
  | obj f => exact bs_ofM (.obj f)
/-- no longer than the row -/
theorem short_len : ∀ ps : List D, (short (whole ps)).length ≤ min 2 ps.length
  | [] => Nat.le_refl _
  | [p] => by
    show (short (jn .keep (ofP p))).length ≤ 1
    rw [keep_jn]
    unfold short
    rw [bs_ofP, if_neg Bool.false_ne_true]
    split
    · exact Nat.zero_le _
    · exact Nat.le_refl _
  | p :: q :: r => by
    have h := short_two (whole (p :: q :: r))
    have e : (p :: q :: r).length = r.length + 2 := rfl
    rw [e]
    omega

/-! ### results that two rows share -/
/-- a member's document that two effects leave as it is, or the way to where they clash -/
inductive Ft where
  | ok (d : D) | clash (q : List Ky)
def Ft.isOk : Ft → Bool
  | .ok _ => true
  | _ => false
def Ft.doc : Ft → D
  | .ok d => d
  | _ => .abs
def Ft.way : Ft → List Ky
  | .clash q => q
  | _ => []
/-- the first clash among the keys -/
def fst4 (r : Ky → Ft) : List Ky → Option (List Ky)
  | [] => none
  | k :: ks => match r k with
    | .clash q => some (k :: q)
    | .ok _ => fst4 r ks
def fitO (r : Ky → Ft) : Ft := match fst4 r kys with
  | some q => .clash q
  | none => .ok (.obj fun k => (r k).doc)
def ft : E → E → Ft
  | .keep, e => .ok (act e .abs)
  | .mrg f, .keep => .ok (act (.mrg f) .abs)
  | .bld f, .keep => .ok (act (.bld f) .abs)
  | .set x, .keep => .ok (act (.set x) .abs)
  | .drop, .keep => .ok (act .drop .abs)
  | .mrg f, .mrg g => fitO fun k => ft (f k) (g k)
  | .mrg f, .bld g => fitO fun k => ft (f k) (g k)
  | .bld f, .mrg g => fitO fun k => ft (f k) (g k)
  | .bld f, .bld g => fitO fun k => ft (f k) (g k)
  | .set x, e => if e = .set x then .ok (.atom x) else .clash []
  | .drop, e => if e = .drop then .ok .abs else .clash []
  | e, .set _ => .clash []
  | e, .drop => .clash []
theorem fst4_none {r : Ky → Ft} : ∀ {ks : List Ky}, fst4 r ks = none → ∀ k ∈ ks, ∃ d, r k = .ok d
  | [], _, k, h => by cases h
  | a :: ks, h, k, hk => by
    unfold fst4 at h
    cases e : r a with
    | clash q => rw [e] at h; cases h
    | ok d =>
      rw [e] at h
      rcases List.mem_cons.mp hk with q | q
      · rw [q]; exact ⟨d, e⟩
      · exact fst4_none h k q
theorem fst4_some {r : Ky → Ft} {q : List Ky} : ∀ {ks : List Ky}, fst4 r ks = some q → ∃ k q', q = k :: q' ∧ r k = .clash q'
  | [], h => by cases h
  | a :: ks, h => by
    unfold fst4 at h
    cases e : r a with
    | clash q' =>
      rw [e] at h
      exact ⟨a, q', (Option.some.inj h).symm, e⟩
    | ok d =>
      rw [e] at h
      exact fst4_some h
theorem fitO_ok {r : Ky → Ft} {d : D} (h : fitO r = .ok d) : (∀ k, ∃ e, r k = .ok e) ∧ d = .obj fun k => (r k).doc := by
  unfold fitO at h
  cases e : fst4 r kys with
  | some q => rw [e] at h; cases h
  | none =>
    rw [e] at h
    exact ⟨fun k => fst4_none e k (mem_kys k), (Ft.ok.inj h).symm⟩
theorem fitO_clash {r : Ky → Ft} {q : List Ky} (h : fitO r = .clash q) : ∃ k q', q = k :: q' ∧ r k = .clash q' := by
  unfold fitO at h
  cases e : fst4 r kys with
  | some q' =>
    rw [e] at h
    rw [← Ft.clash.inj h]
    exact fst4_some e
  | none => rw [e] at h; cases h
/-- what an effect leaves as it is -/
def Fix (e : E) (d : D) : Prop := act e d = d
theorem fix_mrg {f : Ky → E} {g : Ky → D} : Fix (.mrg f) (.obj g) ↔ ∀ k, Fix (f k) (g k) := by
  constructor
  · intro h k
    exact congrFun (D.obj.inj (show D.obj (fun k => act (f k) (g k)) = .obj g from h)) k
  · intro h
    exact congrArg D.obj (funext fun k => h k)
theorem fix_bld {f : Ky → E} {g : Ky → D} (h : ∀ k, g k = act (f k) .abs) : Fix (.bld f) (.obj g) := congrArg D.obj (funext fun k => (h k).symm)
theorem fix_obj {f : Ky → E} {d : D} (h : Fix (.mrg f) d ∨ Fix (.bld f) d) : ∃ g, d = .obj g ∧ ∀ k, Fix (f k) (g k) := by
  rcases h with h | h
  · have e : D.obj (fun k => act (f k) (d.kid k)) = d := h
    cases d with
    | obj g => exact ⟨g, rfl, fix_mrg.mp h⟩
    | abs => cases e
    | atom x => cases e
  · have e : D.obj (fun k => act (f k) .abs) = d := h
    refine ⟨_, e.symm, fun k => act_idem (f k) .abs⟩
theorem ft_clash : ∀ (e1 e2 : E) {q : List Ky}, ft e1 e2 = .clash q → ∀ d, Fix e1 d → Fix e2 d → False
  | .keep, e2, q, h, _, _, _ => by cases e2 <;> cases h
  | .set x, e2, q, h, d, h1, h2 => by
    have ed : d = .atom x := h1.symm
    subst ed
    cases e2 with
    | keep => cases h
    | drop => cases h2
    | set y =>
      have h : (if E.set y = .set x then Ft.ok (.atom x) else .clash []) = .clash q := h
      have : y = x := D.atom.inj (show D.atom y = .atom x from h2)
      subst this
      rw [if_pos rfl] at h
      cases h
    | mrg f =>
      obtain ⟨g, e, _⟩ := fix_obj (.inl h2)
      cases e
    | bld f =>
      obtain ⟨g, e, _⟩ := fix_obj (.inr h2)
      cases e
  | .drop, e2, q, h, d, h1, h2 => by
    have ed : d = .abs := h1.symm
    subst ed
    cases e2 with
    | keep => cases h
    | drop =>
      have h : (if E.drop = .drop then Ft.ok .abs else .clash []) = .clash q := h
      rw [if_pos rfl] at h
      cases h
    | set y => cases h2
    | mrg f =>
      obtain ⟨g, e, _⟩ := fix_obj (.inl h2)
      cases e
    | bld f =>
      obtain ⟨g, e, _⟩ := fix_obj (.inr h2)
      cases e
  | .mrg f, e2, q, h, d, h1, h2 => by
    obtain ⟨g, e, hg⟩ := fix_obj (.inl h1)
    subst e
    cases e2 with
    | keep => cases h
    | drop => cases h2
    | set y => cases h2
    | mrg f2 =>
      obtain ⟨g2, e, hg2⟩ := fix_obj (.inl h2)
      cases e
      obtain ⟨k, q', _, hk⟩ := fitO_clash h
      exact ft_clash (f k) (f2 k) hk _ (hg k) (hg2 k)
    | bld f2 =>
      obtain ⟨g2, e, hg2⟩ := fix_obj (.inr h2)
      cases e
      obtain ⟨k, q', _, hk⟩ := fitO_clash h
      exact ft_clash (f k) (f2 k) hk _ (hg k) (hg2 k)
  | .bld f, e2, q, h, d, h1, h2 => by
    obtain ⟨g, e, hg⟩ := fix_obj (.inr h1)
    subst e
    cases e2 with
    | keep => cases h
    | drop => cases h2
    | set y => cases h2
    | mrg f2 =>
      obtain ⟨g2, e, hg2⟩ := fix_obj (.inl h2)
      cases e
      obtain ⟨k, q', _, hk⟩ := fitO_clash h
      exact ft_clash (f k) (f2 k) hk _ (hg k) (hg2 k)
    | bld f2 =>
      obtain ⟨g2, e, hg2⟩ := fix_obj (.inr h2)
      cases e
      obtain ⟨k, q', _, hk⟩ := fitO_clash h
      exact ft_clash (f k) (f2 k) hk _ (hg k) (hg2 k)
end Tp
end
section
set_option maxRecDepth 100000
set_option maxHeartbeats 4000000
/-! How documents and effects lie in the abstract heap. -/
namespace Tp
open PySem PySem.Spec PyProof.Rows L2

/-! ### keys and plain values -/
def kS : Ky → Str
  | .a => "a"
  | .b => "b"
  | .c => "c"
  | .z => "z"
theorem kS_inj {j k : Ky} (h : kS j = kS k) : j = k := by
  cases j <;> cases k <;> first | rfl | exact absurd h (by decide)
abbrev kK (k : Ky) : L2.Key := Sum.inr (kS k)
theorem kK_inj {j k : Ky} (h : kK j = kK k) : j = k := kS_inj (Sum.inr.inj h)
def A0.v : A0 → V
  | .non => .non
  | .int i => .int i
  | .str x => .str x.1
theorem A0.v_inj {x y : A0} (h : x.v = y.v) : x = y := by
  cases x <;> cases y <;> first
    | rfl
    | exact congrArg A0.str (Subtype.ext (V.str.inj h))
    | exact congrArg A0.int (V.int.inj h)
    | exact nomatch h

/-- a tuple object that has no namespace -/
def TupF (H : Hp) (a : Addr) (xs : List V) : Prop := ∃ o : Obj, H a = some (.frz o (.tup xs)) ∧ o.dict = none
theorem TupF.seq {K : PySem.W.Frag} {H : Hp} {a : Addr} {xs : List V} (h : TupF H a xs) : SqT K H a xs := let ⟨o, e, _⟩ := h; .inl (.inr ⟨o, e⟩)
/-! ### what stays readable -/
structure Le (H H' : Hp) : Prop where
  l : ∀ a xs, Rd H a (.lst xs) → Rd H' a (.lst xs)
  d : ∀ a kvs, Rd H a (.dK kvs) → Rd H' a (.dK kvs)
  t : ∀ a xs, H a = some (.tup xs) → H' a = some (.tup xs)
  i : ∀ a C dx fs, H a = some (.ins C dx fs) → H' a = some (.ins C dx fs)
  f : ∀ a o xs, H a = some (.frz o (.tup xs)) → H' a = some (.frz o (.tup xs))
theorem Le.refl (H : Hp) : Le H H := ⟨fun _ _ h => h, fun _ _ h => h, fun _ _ h => h, fun _ _ _ _ h => h, fun _ _ _ h => h⟩
theorem Le.trans {H H1 H2 : Hp} (a : Le H H1) (b : Le H1 H2) : Le H H2 :=
  ⟨fun x y h => b.l x y (a.l x y h), fun x y h => b.d x y (a.d x y h), fun x y h => b.t x y (a.t x y h), fun x y z w h => b.i x y z w (a.i x y z w h), fun x y z h => b.f x y z (a.f x y z h)⟩
theorem Le.of {H H' : Hp} (s : Same H H') : Le H H' :=
  ⟨fun a xs h => h.imp (s _ _) fun ⟨o, h⟩ => ⟨o, s _ _ h⟩, fun a xs h => h.imp (s _ _) fun ⟨o, h⟩ => ⟨o, s _ _ h⟩, fun a xs h => s _ _ h, fun _ _ _ _ h => s _ _ h, fun _ _ _ h => s _ _ h⟩
theorem same_new {H : Hp} {p : Addr} (h : H p = none) (o : HO) : Same H (upd H p o) := fun b u q => by rw [upd_ne (ne_of_none q h)]; exact q
/-- a dict is locked, unlocked -/
theorem Le.lock {H : Hp} {d : Addr} {kvs : List (L2.Key × V)} (h : H d = some (.dK kvs)) (od : Obj) : Le H (upd H d (.frz od (.dK kvs))) := by
  have ne : ∀ {a : Addr} {o : HO}, H a = some o → o ≠ .dK kvs → a ≠ d := fun {a o} e n => ne_of e h n
  refine ⟨fun a xs q => ?_, fun a ks q => ?_, fun a xs q => ?_, fun a C dx fs q => ?_, fun a o xs q => ?_⟩
  · rcases q with q | ⟨o, q⟩
    · exact .inl (by rw [upd_ne (ne q (by intro z; cases z))]; exact q)
    · exact .inr ⟨o, by rw [upd_ne (ne q (by intro z; cases z))]; exact q⟩
  · by_cases e : a = d
    · subst e
      rcases q with q | ⟨o, q⟩
      · rw [h] at q
        cases q
        exact .inr ⟨od, upd_same⟩
      · rw [h] at q
        cases q
    · rcases q with q | ⟨o, q⟩
      · exact .inl (by rw [upd_ne e]; exact q)
      · exact .inr ⟨o, by rw [upd_ne e]; exact q⟩
  · rw [upd_ne (ne q (by intro z; cases z))]; exact q
  · rw [upd_ne (ne q (by intro z; cases z))]; exact q
  · rw [upd_ne (ne q (by intro z; cases z))]; exact q
/-- a dict is unlocked -/
theorem Le.unlock {H : Hp} {d : Addr} {kvs : List (L2.Key × V)} {od : Obj} (h : H d = some (.frz od (.dK kvs))) : Le H (upd H d (.dK kvs)) := by
  have ne : ∀ {a : Addr} {o : HO}, H a = some o → o ≠ .frz od (.dK kvs) → a ≠ d := fun {a o} e n => ne_of e h n
  refine ⟨fun a xs q => ?_, fun a ks q => ?_, fun a xs q => ?_, fun a C dx fs q => ?_, fun a o xs q => ?_⟩
  · rcases q with q | ⟨o, q⟩
    · exact .inl (by rw [upd_ne (ne q (by intro z; cases z))]; exact q)
    · exact .inr ⟨o, by rw [upd_ne (ne q (by intro z; cases z))]; exact q⟩
  · by_cases e : a = d
    · subst e
      rcases q with q | ⟨o, q⟩
      · rw [h] at q
        cases q
      · rw [h] at q
        cases q
        exact .inl upd_same
    · rcases q with q | ⟨o, q⟩
      · exact .inl (by rw [upd_ne e]; exact q)
      · exact .inr ⟨o, by rw [upd_ne e]; exact q⟩
  · rw [upd_ne (ne q (by intro z; cases z))]; exact q
  · rw [upd_ne (ne q (by intro z; cases z))]; exact q
  · rw [upd_ne (ne q (by intro z; cases z))]; exact q

theorem Le.tf {H H' : Hp} (le : Le H H') {a : Addr} {xs : List V} (h : TupF H a xs) : TupF H' a xs := let ⟨o, h, e⟩ := h; ⟨o, le.f _ _ _ h, e⟩
/-! ### what is new -/
/-- what H' has beside H -/
def nw (H H' : Hp) : Hp := fun b => if (H b).isSome = true then none else H' b
theorem nw_some {H H' : Hp} {b : Addr} {o : HO} (h : nw H H' b = some o) : H b = none ∧ H' b = some o := by
  unfold nw at h
  split at h
  · cases h
  · rename_i q
    refine ⟨?_, h⟩
    cases e : H b with
    | none => rfl
    | some u => rw [e] at q; exact (q rfl).elim
theorem nw_at {H H' : Hp} {b : Addr} (h : H b = none) : nw H H' b = H' b := by
  unfold nw
  rw [h]
  rfl
theorem same_nw (H H' : Hp) : Same (nw H H') H' := fun _ _ h => (nw_some h).2
/-- less old, more there -/
theorem nw_mono {H H1 H2 H3 : Hp} (h : ∀ b, H2 b = none → H b = none) (s : Same H1 H3) : Same (nw H2 H1) (nw H H3) := fun b o q => by
  obtain ⟨q1, q2⟩ := nw_some q
  rw [nw_at (h b q1)]
  exact s b o q2
theorem nw_upd {H H' : Hp} {p : Addr} {x o : HO} : nw (upd H p x) (upd H' p o) = nw (upd H p x) H' := by
  funext b
  by_cases e : b = p
  · subst e
    unfold nw
    rw [upd_same] <;> rfl
  · unfold nw
    rw [upd_ne e, upd_ne e]

/-! ### documents -/
def tabOk (kvs : List (L2.Key × V)) : Prop := (kvs.map (·.1)).Nodup ∧ ∀ p ∈ kvs, ∃ k : Ky, p.1 = kK k
def DocAt (H : Hp) : D → V → Prop
  | .abs => fun _ => False
  | .atom (.pl x) => fun v => v = x.v
  | .atom (.lst xs) => fun v => ∃ a, v = .ref a ∧ Rd H a (.lst (xs.map A0.v)) ∧ xs.length ≤ 999
  | .obj f => fun v => ∃ a kvs, v = .ref a ∧ Rd H a (.dK kvs) ∧ tabOk kvs ∧ ∀ k, match valV kvs (kK k) with
    | none => f k = .abs
    | some u => DocAt H (f k) u
/-- a member: what a key has -/
def MAt (H : Hp) (d : D) (o : Option V) : Prop := match o with
  | none => d = .abs
  | some u => DocAt H d u
theorem DocAt.ne {H : Hp} {d : D} {v : V} (h : DocAt H d v) : d ≠ .abs := fun e => by subst e; exact h
theorem DocAt.obj_iff {H : Hp} {f : Ky → D} {v : V} : DocAt H (.obj f) v ↔ ∃ a kvs, v = .ref a ∧ Rd H a (.dK kvs) ∧ tabOk kvs ∧ ∀ k, MAt H (f k) (valV kvs (kK k)) := Iff.rfl
theorem DocAt.mono {H H' : Hp} (le : Le H H') : ∀ {d : D} {v : V}, DocAt H d v → DocAt H' d v
  | .abs, _, h => h.elim
  | .atom (.pl _), _, h => h
  | .atom (.lst _), _, h => by
    obtain ⟨a, e, r, z⟩ := h
    exact ⟨a, e, le.l _ _ r, z⟩
  | .obj f, v, h => by
    obtain ⟨a, kvs, e, r, ok, m⟩ := DocAt.obj_iff.mp h
    refine DocAt.obj_iff.mpr ⟨a, kvs, e, le.d _ _ r, ok, fun k => ?_⟩
    have q := m k
    cases hv : valV kvs (kK k) with
    | none => rw [hv] at q; exact q
    | some u =>
      rw [hv] at q
      exact DocAt.mono le (d := f k) q
theorem MAt.mono {H H' : Hp} (le : Le H H') {d : D} {o : Option V} (h : MAt H d o) : MAt H' d o := by
  cases o with
  | none => exact h
  | some u => exact DocAt.mono le h
theorem MAt.abs_iff {H : Hp} {d : D} {o : Option V} (h : MAt H d o) : o = none ↔ d = .abs := by
  cases o with
  | none => exact ⟨fun _ => h, fun _ => rfl⟩
  | some u => exact ⟨fun q => (by cases q), fun q => (DocAt.ne h q).elim⟩
theorem doc_pl {H : Hp} {x : A0} {v : V} (h : v = x.v) : DocAt H (.atom (.pl x)) v := h
theorem doc_non {H : Hp} : DocAt H (.atom non) .non := rfl
theorem doc_lst {H : Hp} {xs : List A0} {a : Addr} (h : Rd H a (.lst (xs.map A0.v))) (z : xs.length ≤ 999) : DocAt H (.atom (.lst xs)) (.ref a) := ⟨a, rfl, h, z⟩
/-- a document that is no reference is a plain atom -/
theorem DocAt.is_non {H : Hp} {d : D} {v : V} (h : DocAt H d v) : decide (v = .non) = d.isNon := by
  cases d with
  | abs => exact (show False from h).elim
  | atom x =>
    cases x with
    | pl y =>
      have e : v = y.v := h
      subst e
      cases y <;> rfl
    | lst ys =>
      obtain ⟨a, rfl, _⟩ := h
      rfl
  | obj f =>
    obtain ⟨a, kvs, rfl, _⟩ := DocAt.obj_iff.mp h
    rfl

/-! ### tables -/
theorem valV_drop {κ : Type} [DecidableEq κ] (k j : κ) : ∀ kvs : List (κ × V), valV (dropK kvs k) j = if j = k then none else valV kvs j
  | [] => by
    show (none : Option V) = if j = k then none else none
    split <;> rfl
  | p :: r => by
    have ih := valV_drop k j r
    by_cases e : p.1 = k
    · rw [dropK_pos e, ih]
      split
      · rfl
      · rename_i n
        rw [valV_neg (p := p) (fun q => n (q.symm.trans e))]
    · rw [dropK_neg e]
      by_cases q : p.1 = j
      · rw [valV_pos q, valV_pos q, if_neg (fun z => e (q.trans z))]
      · rw [valV_neg q, valV_neg q, ih]
theorem keys_putK {κ : Type} [DecidableEq κ] (kvs : List (κ × V)) (k : κ) (v : V) : (putK kvs k v).map (·.1) = if (valV kvs k).isSome = true then kvs.map (·.1) else kvs.map (·.1) ++ [k] := by
  unfold putK
  rw [valV_any]
  split
  · rw [List.map_map]
    refine List.map_congr_left fun p _ => ?_
    show (if p.1 = k then (p.1, v) else p).1 = p.1
    split <;> rfl
  · rw [List.map_append] <;> rfl
theorem tabOk_put {kvs : List (L2.Key × V)} (h : tabOk kvs) (k : Ky) (v : V) : tabOk (putK kvs (kK k) v) := by
  have hk := keys_putK kvs (kK k) v
  refine ⟨?_, fun p hp => ?_⟩
  · cases e : valV kvs (kK k) with
    | none => exact nd_putK v h.1 e
    | some u =>
      rw [hk, e, if_pos (show (some u).isSome = true from rfl)]
      exact h.1
  · have hm : p.1 ∈ (putK kvs (kK k) v).map (·.1) := List.mem_map_of_mem hp
    rw [hk] at hm
    have old : p.1 ∈ kvs.map (·.1) → ∃ k : Ky, p.1 = kK k := fun q => by
      obtain ⟨p', h1, h2⟩ := List.mem_map.mp q
      obtain ⟨k', e⟩ := h.2 p' h1
      exact ⟨k', h2.symm.trans e⟩
    split at hm
    · exact old hm
    · rcases List.mem_append.mp hm with q | q
      · exact old q
      · exact ⟨k, List.mem_singleton.mp q⟩
theorem tabOk_drop {kvs : List (L2.Key × V)} (h : tabOk kvs) (k : Ky) : tabOk (dropK kvs (kK k)) := ⟨nd_dropK h.1, fun p hp => h.2 p (dropK_mem hp)⟩
theorem tabOk_nil : tabOk [] := ⟨List.nodup_nil, fun _ h => nomatch h⟩
/-- at most four keys -/
theorem keys_len : ∀ (ks : List L2.Key), ks.Nodup → (∀ x ∈ ks, ∃ k : Ky, x = kK k) → ks.length ≤ 4 := by
  intro ks nd h
  have sub : ks ⊆ kys.map kK := fun x hx => by
    obtain ⟨k, e⟩ := h x hx
    rw [e]
    exact List.mem_map_of_mem (mem_kys k)
  exact List.Nodup.length_le_of_subset nd sub
theorem tabOk.len {kvs : List (L2.Key × V)} (h : tabOk kvs) : kvs.length ≤ 4 := by
  have := keys_len (kvs.map (·.1)) h.1 fun x hx => by
    obtain ⟨p, h1, h2⟩ := List.mem_map.mp hx
    obtain ⟨k, e⟩ := h.2 p h1
    exact ⟨k, h2.symm.trans e⟩
  rw [List.length_map] at this
  exact this
theorem tabOk.lt {kvs : List (L2.Key × V)} (h : tabOk kvs) : kvs.length < sizeLine := small1000 (Nat.le_trans h.len (by decide))

/-! ### an object that is being made at p; H: the heap ahead of it -/
structure Bld (H : Hp) (p : Addr) (H2 : Hp) (kvs : List (L2.Key × V)) (f : Ky → D) : Prop where
  old : ∀ b o, b ≠ p → H b = some o → H2 b = some o
  fr : H p = none
  at_ : H2 p = some (.dK kvs)
  ok : tabOk kvs
  mem : ∀ k, MAt (nw (upd H p (.dK [])) H2) (f k) (valV kvs (kK k))
section
variable {H H1 H2 H3 : Hp} {p : Addr} {kvs : List (L2.Key × V)} {f : Ky → D} {k : Ky} {d : D} {u : V}
theorem Bld.start (h : H p = none) : Bld H p (upd H p (.dK [])) [] fun _ => .abs :=
  ⟨fun b o hb q => by rw [upd_ne hb]; exact q, h, upd_same, tabOk_nil, fun _ => rfl⟩
theorem Bld.same (B : Bld H p H2 kvs f) : Same H H2 := fun b o q => B.old b o (ne_of_none q B.fr) q
theorem Bld.none_of (B : Bld H p H2 kvs f) {b : Addr} (h : H2 b = none) : upd H p (.dK []) b = none := by
  have ne : b ≠ p := fun e => by rw [e, B.at_] at h; cases h
  rw [upd_ne ne]
  exact B.same.free h
theorem Bld.call (B : Bld H p H2 kvs f) (s : Same H2 H3) : Bld H p H3 kvs f :=
  ⟨fun b o hb q => s _ _ (B.old b o hb q), B.fr, s _ _ B.at_, B.ok, fun k => (B.mem k).mono (Le.of (nw_mono (fun _ h => h) s))⟩
/-- what was made since H1, when p stood already, may become a member -/
theorem Bld.into (B : Bld H p H1 kvs f) (s : Same H1 H2) (h : DocAt (nw H1 H2) d u) : DocAt (nw (upd H p (.dK [])) H2) d u :=
  h.mono (Le.of (nw_mono (fun _ q => B.none_of q) (Same.refl H2)))
theorem Bld.put (B : Bld H p H2 kvs f) (h : DocAt (nw (upd H p (.dK [])) H2) d u) :
    Bld H p (upd H2 p (.dK (putK kvs (kK k) u))) (putK kvs (kK k) u) fun j => if j = k then d else f j := by
  refine ⟨fun b o hb q => by rw [upd_ne hb]; exact B.old b o hb q, B.fr, upd_same, tabOk_put B.ok k u, fun j => ?_⟩
  rw [nw_upd, valV_put]
  by_cases e : j = k
  · subst e
    rw [if_pos rfl, if_pos rfl]
    exact h
  · rw [if_neg (fun q => e (kK_inj q))]
    show MAt _ (if j = k then d else f j) _
    rw [if_neg e]
    exact B.mem j
theorem Bld.drop (B : Bld H p H2 kvs f) : Bld H p (upd H2 p (.dK (dropK kvs (kK k)))) (dropK kvs (kK k)) fun j => if j = k then .abs else f j := by
  refine ⟨fun b o hb q => by rw [upd_ne hb]; exact B.old b o hb q, B.fr, upd_same, tabOk_drop B.ok k, fun j => ?_⟩
  rw [nw_upd, valV_drop]
  by_cases e : j = k
  · subst e
    rw [if_pos rfl, if_pos rfl]
    exact rfl
  · rw [if_neg (fun q => e (kK_inj q))]
    show MAt _ (if j = k then .abs else f j) _
    rw [if_neg e]
    exact B.mem j
theorem Bld.congr {g : Ky → D} (B : Bld H p H2 kvs f) (h : ∀ k, f k = g k) : Bld H p H2 kvs g := by
  have e : f = g := funext h
  rw [← e]
  exact B
theorem Bld.doc (B : Bld H p H2 kvs f) : DocAt (nw H H2) (.obj f) (.ref p) := by
  refine DocAt.obj_iff.mpr ⟨p, kvs, rfl, .inl (by rw [nw_at B.fr]; exact B.at_), B.ok, fun k => (B.mem k).mono (Le.of (nw_mono (fun b h => ?_) (Same.refl H2)))⟩
  by_cases e : b = p
  · rw [e]; exact B.fr
  · rw [upd_ne e] at h; exact h
/-- as it may be read where it is being made -/
theorem Bld.read (B : Bld H p H2 kvs f) : DocAt H2 (.obj f) (.ref p) := B.doc.mono (Le.of (same_nw H H2))
theorem Bld.mread (B : Bld H p H2 kvs f) (k : Ky) : MAt H2 (f k) (valV kvs (kK k)) := (B.mem k).mono (Le.of (same_nw _ H2))
/-- a dict of the old heap is locked, unlocked -/
theorem Bld.lock {a : Addr} {o : HO} (B : Bld H p H2 kvs f) (h : H a = some o) (x : HO) : Bld (upd H a x) p (upd H2 a x) kvs f := by
  have ne : p ≠ a := fun e => by rw [← e, B.fr] at h; cases h
  have eq : nw (upd (upd H a x) p (.dK [])) (upd H2 a x) = nw (upd H p (.dK [])) H2 := by
    funext b
    unfold nw
    by_cases e1 : b = p
    · rw [e1, upd_same, upd_same] <;> rfl
    · rw [upd_ne e1, upd_ne e1]
      by_cases e2 : b = a
      · rw [e2, upd_same, h] <;> rfl
      · rw [upd_ne e2, upd_ne e2]
  refine ⟨fun b u hb q => ?_, by rw [upd_ne ne]; exact B.fr, by rw [upd_ne ne]; exact B.at_, B.ok, fun k => by rw [eq]; exact B.mem k⟩
  by_cases e : b = a
  · rw [e, upd_same] at q ⊢
    exact q
  · rw [upd_ne e] at q ⊢
    exact B.old b u hb q
end
/-- a document that the call has made -/
def Fresh (H H' : Hp) (d : D) (v : V) : Prop := Same H H' ∧ match d with
  | .obj f => ∃ p kvs, v = .ref p ∧ Bld H p H' kvs f
  | d => DocAt (nw H H') d v
theorem Fresh.same {H H' : Hp} {d : D} {v : V} (h : Fresh H H' d v) : Same H H' := h.1
theorem Fresh.doc {H H' : Hp} {d : D} {v : V} (h : Fresh H H' d v) : DocAt (nw H H') d v := by
  cases d with
  | obj f =>
    obtain ⟨_, p, kvs, rfl, B⟩ := h
    exact B.doc
  | abs => exact h.2
  | atom x => exact h.2
theorem Fresh.read {H H' : Hp} {d : D} {v : V} (h : Fresh H H' d v) : DocAt H' d v := h.doc.mono (Le.of (same_nw H H'))
theorem Fresh.obj {H H' : Hp} {f : Ky → D} {p : Addr} {kvs : List (L2.Key × V)} (B : Bld H p H' kvs f) : Fresh H H' (.obj f) (.ref p) := ⟨B.same, p, kvs, rfl, B⟩
theorem Fresh.pl {H : Hp} {x : A0} : Fresh H H (.atom (.pl x)) x.v := ⟨Same.refl H, rfl⟩
theorem Fresh.lst {H : Hp} {xs : List A0} {p : Addr} (h : H p = none) (z : xs.length ≤ 999) : Fresh H (upd H p (.lst (xs.map A0.v))) (.atom (.lst xs)) (.ref p) :=
  ⟨same_new h _, p, rfl, .inl (by rw [nw_at h]; exact upd_same), z⟩
/-- later in the same def -/
theorem Fresh.keep {H H1 H2 H3 : Hp} {d : D} {v : V} (h : Fresh H1 H2 d v) (s0 : Same H H1) (s : Same H2 H3) : DocAt (nw H H3) d v :=
  h.doc.mono (Le.of (nw_mono (fun _ q => s0.free q) s))

/-! ### the first i of some keys -/
def upto {κ : Type} [DecidableEq κ] (ks : List κ) (i : Nat) (x : κ) : Bool := decide (x ∈ ks.take i)
theorem upto_zero {κ : Type} [DecidableEq κ] (ks : List κ) (x : κ) : upto ks 0 x = false := by simp [upto]
theorem upto_succ {κ : Type} [DecidableEq κ] {ks : List κ} {i : Nat} {k : κ} (h : ks[i]? = some k) (x : κ) : upto ks (i + 1) x = (upto ks i x || decide (x = k)) := by
  have e : ks.take (i + 1) = ks.take i ++ [k] := by rw [List.take_add_one, h] <;> rfl
  unfold upto
  rw [e]
  simp [List.mem_append]
theorem upto_not {κ : Type} [DecidableEq κ] {ks : List κ} {i : Nat} {k : κ} (nd : ks.Nodup) (h : ks[i]? = some k) : upto ks i k = false := by
  have e : ks.take (i + 1) = ks.take i ++ [k] := by rw [List.take_add_one, h] <;> rfl
  have n2 : (ks.take (i + 1)).Nodup := nd.sublist (List.take_sublist _ _)
  rw [e] at n2
  have := (List.nodup_append.mp n2).2.2
  unfold upto
  refine decide_eq_false fun hm => this k hm k (List.mem_singleton.mpr rfl) rfl
theorem upto_all {κ : Type} [DecidableEq κ] {ks : List κ} {i : Nat} (h : ks.length ≤ i) (x : κ) : upto ks i x = decide (x ∈ ks) := by
  unfold upto
  rw [List.take_of_length_le h]
theorem upto_step {ks : List L2.Key} {i : Nat} {k : Ky} (hki : ks[i]? = some (kK k)) {g h : Ky → D} {x : D} (e : g k = x) (j : Ky) :
    (if j = k then x else if upto ks i (kK j) = true then g j else h j) = if upto ks (i + 1) (kK j) = true then g j else h j := by
  rw [upto_succ hki]
  by_cases q : j = k
  · subst q
    simp [e]
  · have : ¬ kK j = kK k := fun z => q (kK_inj z)
    simp [q, this]
/-- a dict's i-th entry -/
theorem tabOk.nth {kvs : List (L2.Key × V)} (h : tabOk kvs) {i : Nat} {kv : L2.Key × V} (e : kvs[i]? = some kv) : ∃ k : Ky, kv.1 = kK k ∧ valV kvs (kK k) = some kv.2 ∧ (kvs.map (·.1))[i]? = some (kK k) := by
  obtain ⟨k, hk⟩ := h.2 kv (List.mem_of_getElem? e)
  refine ⟨k, hk, ?_, by rw [List.getElem?_map, e, ← hk] <;> rfl⟩
  have key : ∀ (l : List (L2.Key × V)) (i : Nat), (l.map (·.1)).Nodup → l[i]? = some kv → valV l kv.1 = some kv.2 := by
    intro l
    induction l with
    | nil => intro i _ e; simp at e
    | cons p r ih =>
      intro i nd e
      cases i with
      | zero =>
        have e' : p = kv := by simpa using e
        rw [e']
        exact valV_pos rfl
      | succ i =>
        have e' : r[i]? = some kv := by simpa using e
        have hm : kv.1 ∈ r.map (·.1) := List.mem_map_of_mem (List.mem_of_getElem? e')
        obtain ⟨n1, n2⟩ := List.nodup_cons.mp (show (p.1 :: r.map (·.1)).Nodup from nd)
        rw [valV_neg (p := p) (fun q => n1 (q ▸ hm))]
        exact ih i n2 e'
  have := key kvs i h.1 e
  rw [hk] at this
  exact this
theorem valV_mem {κ : Type} [DecidableEq κ] {kvs : List (κ × V)} {k : κ} : (valV kvs k).isSome = decide (k ∈ kvs.map (·.1)) := by
  rw [← valV_any]
  induction kvs with
  | nil => simp
  | cons p r ih =>
    rw [List.any_cons, ih, List.map_cons]
    by_cases e : p.1 = k
    · simp [e]
    · have e' : ¬ k = p.1 := fun q => e q.symm
      simp [e, e', List.mem_cons]
end Tp
end
section
set_option maxRecDepth 100000
set_option maxHeartbeats 4000000
/-! The text by places; what the top leaves of it. -/
namespace Tp
open PySem PySem.Spec PyProof.Rows L2
def top (i : Nat) : Stmt := PySem.Challenge.pw_twopatches_k96_whole_logs_and_functions.main.body.getD i (.Pass ⟨0, 0, 0, 0⟩)
def clsB (i j : Nat) : Stmt := (C8.clsBody (top i)).getD j (.Pass ⟨0, 0, 0, 0⟩)
abbrev s_NoChange_init : Stmt := clsB 5 0
abbrev s_is_plain : Stmt := top 11
abbrev s_is_atom : Stmt := top 12
abbrev s_wrong_path : Stmt := top 13
abbrev s_depth_of : Stmt := top 14
abbrev s_parts_of : Stmt := top 15
abbrev s_check : Stmt := top 16
abbrev s_check_row : Stmt := top 17
abbrev s_copied : Stmt := top 18
abbrev s_merged : Stmt := top 19
abbrev s_after_all : Stmt := top 20
abbrev s_run : Stmt := top 21
abbrev s_Effect_init : Stmt := clsB 23 0
abbrev s_Effect_facts : Stmt := clsB 23 1
abbrev s_Effect_eq : Stmt := clsB 23 2
abbrev s_Effect_add : Stmt := clsB 23 3
abbrev s_Effect_call : Stmt := clsB 23 4
abbrev s_Effect_by_key : Stmt := clsB 23 5
abbrev s_Effect_builds : Stmt := clsB 23 6
abbrev s_keep : Stmt := top 24
abbrev s_drop : Stmt := top 25
abbrev s_of_patch : Stmt := top 26
abbrev s_built : Stmt := top 27
abbrev s_joined : Stmt := top 28
abbrev s_acted : Stmt := top 29
abbrev s_whole : Stmt := top 30
abbrev s_effect : Stmt := top 31
abbrev s_as_patch : Stmt := top 33
abbrev s_clearing : Stmt := top 34
abbrev s_short : Stmt := top 35
abbrev s_compact : Stmt := top 36
abbrev s_Log_init : Stmt := clsB 38 0
abbrev s_Log_go_on : Stmt := clsB 38 1
abbrev s_Log_begin : Stmt := clsB 38 2
abbrev s_Log_add : Stmt := clsB 38 3
abbrev s_Log_row : Stmt := clsB 38 4
abbrev s_Log_first : Stmt := clsB 38 5
abbrev s_Log_check_time : Stmt := clsB 38 6
abbrev s_Log_at : Stmt := clsB 38 7
abbrev s_Log_now : Stmt := clsB 38 8
abbrev s_Log_squeeze : Stmt := clsB 38 9
abbrev s_Log_back : Stmt := clsB 38 10
abbrev s_same : Stmt := top 42
abbrev s_witness : Stmt := top 46
abbrev s_parting : Stmt := top 47
abbrev s_none_path : Stmt := top 49
abbrev s_made : Stmt := top 50
abbrev s_changed : Stmt := top 51
abbrev s_new_member : Stmt := top 52
abbrev s_led : Stmt := top 53
abbrev s_change : Stmt := top 54
abbrev s_undoing : Stmt := top 55
abbrev s_is_result : Stmt := top 56
abbrev s_Clash_init : Stmt := clsB 57 0
abbrev s_Clash_eq : Stmt := clsB 57 1
abbrev s_least : Stmt := top 58
abbrev s_fitted : Stmt := top 59
abbrev s_shared : Stmt := top 60
abbrev s_law_cell_at : Stmt := top 62
abbrev s_law_source : Stmt := top 63
abbrev s_law_draw : Stmt := top 64
abbrev s_law_choice : Stmt := top 65
abbrev s_law_atom : Stmt := top 67
abbrev s_law_document : Stmt := top 68
abbrev s_law_patch : Stmt := top 69
abbrev s_law_parts : Stmt := top 70
abbrev s_law_rows : Stmt := top 71
abbrev s_law_same_again : Stmt := top 72
abbrev s_law_after : Stmt := top 74
abbrev s_law_end : Stmt := top 75
abbrev s_law_logged : Stmt := top 76
abbrev s_law_times_right : Stmt := top 77
abbrev s_law_squeezed_right : Stmt := top 78
abbrev s_law_asked : Stmt := top 79
abbrev s_law_led_right : Stmt := top 80
abbrev s_law_shared_right : Stmt := top 81
abbrev s_law : Stmt := top 82
def gloN0 : List Str := ["PatchError", "NoDocument", "Large", "NoChange", "NoTime", "NoBack", "is_plain", "is_atom", "wrong_path", "depth_of", "parts_of", "check", "check_row", "copied", "merged", "after_all", "run", "Effect", "keep", "drop", "of_patch", "built", "joined", "acted", "whole", "effect", "as_patch", "clearing", "short", "compact"]
def gloN1 : List Str := ["Log", "same", "witness", "parting", "none_path", "made", "changed", "new_member", "led", "change", "undoing", "is_result", "Clash", "least", "fitted", "shared", "_law_cell_at", "_law_source", "_law_draw", "_law_choice", "_law_atom", "_law_document", "_law_patch", "_law_parts", "_law_rows", "_law_same_again", "_law_after", "_law_end", "_law_logged", "_law_times_right"]
def gloN2 : List Str := ["_law_squeezed_right", "_law_asked", "_law_led_right", "_law_shared_right", "law"]
def gloN : List Str := gloN0 ++ gloN1 ++ gloN2
def freeN : List Str := ["isinstance", "str", "int", "bool", "list", "dict", "tuple", "set", "all", "any", "sum", "max", "min", "sorted", "len", "range"]
def d_NoChange_init : He.DefD := ⟨("NoChange", some "__init__"), "__init__", "NoChange.__init__", C8.fnArgs s_NoChange_init, C8.fnBody s_NoChange_init, C8.fnScope s_NoChange_init, [], []⟩
def d_is_plain : He.DefD := ⟨("is_plain", none), "is_plain", "is_plain", C8.fnArgs s_is_plain, C8.fnBody s_is_plain, C8.fnScope s_is_plain, [], []⟩
def d_is_atom : He.DefD := ⟨("is_atom", none), "is_atom", "is_atom", C8.fnArgs s_is_atom, C8.fnBody s_is_atom, C8.fnScope s_is_atom, [], []⟩
def d_wrong_path : He.DefD := ⟨("wrong_path", none), "wrong_path", "wrong_path", C8.fnArgs s_wrong_path, C8.fnBody s_wrong_path, C8.fnScope s_wrong_path, [], []⟩
def d_depth_of : He.DefD := ⟨("depth_of", none), "depth_of", "depth_of", C8.fnArgs s_depth_of, C8.fnBody s_depth_of, C8.fnScope s_depth_of, [], []⟩
def d_parts_of : He.DefD := ⟨("parts_of", none), "parts_of", "parts_of", C8.fnArgs s_parts_of, C8.fnBody s_parts_of, C8.fnScope s_parts_of, [], []⟩
def d_check : He.DefD := ⟨("check", none), "check", "check", C8.fnArgs s_check, C8.fnBody s_check, C8.fnScope s_check, [], []⟩
def d_check_row : He.DefD := ⟨("check_row", none), "check_row", "check_row", C8.fnArgs s_check_row, C8.fnBody s_check_row, C8.fnScope s_check_row, [], []⟩
def d_copied : He.DefD := ⟨("copied", none), "copied", "copied", C8.fnArgs s_copied, C8.fnBody s_copied, C8.fnScope s_copied, [], []⟩
def d_merged : He.DefD := ⟨("merged", none), "merged", "merged", C8.fnArgs s_merged, C8.fnBody s_merged, C8.fnScope s_merged, [], []⟩
def d_after_all : He.DefD := ⟨("after_all", none), "after_all", "after_all", C8.fnArgs s_after_all, C8.fnBody s_after_all, C8.fnScope s_after_all, [], []⟩
def d_run : He.DefD := ⟨("run", none), "run", "run", C8.fnArgs s_run, C8.fnBody s_run, C8.fnScope s_run, [], []⟩
def d_Effect_init : He.DefD := ⟨("Effect", some "__init__"), "__init__", "Effect.__init__", C8.fnArgs s_Effect_init, C8.fnBody s_Effect_init, C8.fnScope s_Effect_init, [], []⟩
def d_Effect_facts : He.DefD := ⟨("Effect", some "facts"), "facts", "Effect.facts", C8.fnArgs s_Effect_facts, C8.fnBody s_Effect_facts, C8.fnScope s_Effect_facts, [], []⟩
def d_Effect_eq : He.DefD := ⟨("Effect", some "__eq__"), "__eq__", "Effect.__eq__", C8.fnArgs s_Effect_eq, C8.fnBody s_Effect_eq, C8.fnScope s_Effect_eq, [], []⟩
def d_Effect_add : He.DefD := ⟨("Effect", some "__add__"), "__add__", "Effect.__add__", C8.fnArgs s_Effect_add, C8.fnBody s_Effect_add, C8.fnScope s_Effect_add, [], []⟩
def d_Effect_call : He.DefD := ⟨("Effect", some "__call__"), "__call__", "Effect.__call__", C8.fnArgs s_Effect_call, C8.fnBody s_Effect_call, C8.fnScope s_Effect_call, [], []⟩
def d_Effect_by_key : He.DefD := ⟨("Effect", some "by_key"), "by_key", "Effect.by_key", C8.fnArgs s_Effect_by_key, C8.fnBody s_Effect_by_key, C8.fnScope s_Effect_by_key, [], []⟩
def d_Effect_builds : He.DefD := ⟨("Effect", some "builds"), "builds", "Effect.builds", C8.fnArgs s_Effect_builds, C8.fnBody s_Effect_builds, C8.fnScope s_Effect_builds, [], []⟩
def d_keep : He.DefD := ⟨("keep", none), "keep", "keep", C8.fnArgs s_keep, C8.fnBody s_keep, C8.fnScope s_keep, [], []⟩
def d_drop : He.DefD := ⟨("drop", none), "drop", "drop", C8.fnArgs s_drop, C8.fnBody s_drop, C8.fnScope s_drop, [], []⟩
def d_of_patch : He.DefD := ⟨("of_patch", none), "of_patch", "of_patch", C8.fnArgs s_of_patch, C8.fnBody s_of_patch, C8.fnScope s_of_patch, [], []⟩
def d_built : He.DefD := ⟨("built", none), "built", "built", C8.fnArgs s_built, C8.fnBody s_built, C8.fnScope s_built, [], []⟩
def d_joined : He.DefD := ⟨("joined", none), "joined", "joined", C8.fnArgs s_joined, C8.fnBody s_joined, C8.fnScope s_joined, [], []⟩
def d_acted : He.DefD := ⟨("acted", none), "acted", "acted", C8.fnArgs s_acted, C8.fnBody s_acted, C8.fnScope s_acted, [], []⟩
def d_whole : He.DefD := ⟨("whole", none), "whole", "whole", C8.fnArgs s_whole, C8.fnBody s_whole, C8.fnScope s_whole, [], []⟩
def d_effect : He.DefD := ⟨("effect", none), "effect", "effect", C8.fnArgs s_effect, C8.fnBody s_effect, C8.fnScope s_effect, [], []⟩
def d_as_patch : He.DefD := ⟨("as_patch", none), "as_patch", "as_patch", C8.fnArgs s_as_patch, C8.fnBody s_as_patch, C8.fnScope s_as_patch, [], []⟩
def d_clearing : He.DefD := ⟨("clearing", none), "clearing", "clearing", C8.fnArgs s_clearing, C8.fnBody s_clearing, C8.fnScope s_clearing, [], []⟩
def d_short : He.DefD := ⟨("short", none), "short", "short", C8.fnArgs s_short, C8.fnBody s_short, C8.fnScope s_short, [], []⟩
def d_compact : He.DefD := ⟨("compact", none), "compact", "compact", C8.fnArgs s_compact, C8.fnBody s_compact, C8.fnScope s_compact, [], []⟩
def d_Log_init : He.DefD := ⟨("Log", some "__init__"), "__init__", "Log.__init__", C8.fnArgs s_Log_init, C8.fnBody s_Log_init, C8.fnScope s_Log_init, [], []⟩
def d_Log_go_on : He.DefD := ⟨("Log", some "go_on"), "go_on", "Log.go_on", C8.fnArgs s_Log_go_on, C8.fnBody s_Log_go_on, C8.fnScope s_Log_go_on, [], []⟩
def d_Log_begin : He.DefD := ⟨("Log", some "begin"), "begin", "Log.begin", C8.fnArgs s_Log_begin, C8.fnBody s_Log_begin, C8.fnScope s_Log_begin, [], []⟩
def d_Log_add : He.DefD := ⟨("Log", some "add"), "add", "Log.add", C8.fnArgs s_Log_add, C8.fnBody s_Log_add, C8.fnScope s_Log_add, [], []⟩
def d_Log_row : He.DefD := ⟨("Log", some "row"), "row", "Log.row", C8.fnArgs s_Log_row, C8.fnBody s_Log_row, C8.fnScope s_Log_row, [], []⟩
def d_Log_first : He.DefD := ⟨("Log", some "first"), "first", "Log.first", C8.fnArgs s_Log_first, C8.fnBody s_Log_first, C8.fnScope s_Log_first, [], []⟩
def d_Log_check_time : He.DefD := ⟨("Log", some "check_time"), "check_time", "Log.check_time", C8.fnArgs s_Log_check_time, C8.fnBody s_Log_check_time, C8.fnScope s_Log_check_time, [], []⟩
def d_Log_at : He.DefD := ⟨("Log", some "at"), "at", "Log.at", C8.fnArgs s_Log_at, C8.fnBody s_Log_at, C8.fnScope s_Log_at, [], []⟩
def d_Log_now : He.DefD := ⟨("Log", some "now"), "now", "Log.now", C8.fnArgs s_Log_now, C8.fnBody s_Log_now, C8.fnScope s_Log_now, [], []⟩
def d_Log_squeeze : He.DefD := ⟨("Log", some "squeeze"), "squeeze", "Log.squeeze", C8.fnArgs s_Log_squeeze, C8.fnBody s_Log_squeeze, C8.fnScope s_Log_squeeze, [], []⟩
def d_Log_back : He.DefD := ⟨("Log", some "back"), "back", "Log.back", C8.fnArgs s_Log_back, C8.fnBody s_Log_back, C8.fnScope s_Log_back, [], []⟩
def d_same : He.DefD := ⟨("same", none), "same", "same", C8.fnArgs s_same, C8.fnBody s_same, C8.fnScope s_same, [], []⟩
def d_witness : He.DefD := ⟨("witness", none), "witness", "witness", C8.fnArgs s_witness, C8.fnBody s_witness, C8.fnScope s_witness, [], []⟩
def d_parting : He.DefD := ⟨("parting", none), "parting", "parting", C8.fnArgs s_parting, C8.fnBody s_parting, C8.fnScope s_parting, [], []⟩
def d_none_path : He.DefD := ⟨("none_path", none), "none_path", "none_path", C8.fnArgs s_none_path, C8.fnBody s_none_path, C8.fnScope s_none_path, [], []⟩
def d_made : He.DefD := ⟨("made", none), "made", "made", C8.fnArgs s_made, C8.fnBody s_made, C8.fnScope s_made, [], []⟩
def d_changed : He.DefD := ⟨("changed", none), "changed", "changed", C8.fnArgs s_changed, C8.fnBody s_changed, C8.fnScope s_changed, [], []⟩
def d_new_member : He.DefD := ⟨("new_member", none), "new_member", "new_member", C8.fnArgs s_new_member, C8.fnBody s_new_member, C8.fnScope s_new_member, [], []⟩
def d_led : He.DefD := ⟨("led", none), "led", "led", C8.fnArgs s_led, C8.fnBody s_led, C8.fnScope s_led, [], []⟩
def d_change : He.DefD := ⟨("change", none), "change", "change", C8.fnArgs s_change, C8.fnBody s_change, C8.fnScope s_change, [], []⟩
def d_undoing : He.DefD := ⟨("undoing", none), "undoing", "undoing", C8.fnArgs s_undoing, C8.fnBody s_undoing, C8.fnScope s_undoing, [], []⟩
def d_is_result : He.DefD := ⟨("is_result", none), "is_result", "is_result", C8.fnArgs s_is_result, C8.fnBody s_is_result, C8.fnScope s_is_result, [], []⟩
def d_Clash_init : He.DefD := ⟨("Clash", some "__init__"), "__init__", "Clash.__init__", C8.fnArgs s_Clash_init, C8.fnBody s_Clash_init, C8.fnScope s_Clash_init, [], []⟩
def d_Clash_eq : He.DefD := ⟨("Clash", some "__eq__"), "__eq__", "Clash.__eq__", C8.fnArgs s_Clash_eq, C8.fnBody s_Clash_eq, C8.fnScope s_Clash_eq, [], []⟩
def d_least : He.DefD := ⟨("least", none), "least", "least", C8.fnArgs s_least, C8.fnBody s_least, C8.fnScope s_least, [], []⟩
def d_fitted : He.DefD := ⟨("fitted", none), "fitted", "fitted", C8.fnArgs s_fitted, C8.fnBody s_fitted, C8.fnScope s_fitted, [], []⟩
def d_shared : He.DefD := ⟨("shared", none), "shared", "shared", C8.fnArgs s_shared, C8.fnBody s_shared, C8.fnScope s_shared, [], []⟩
def d_law_cell_at : He.DefD := ⟨("_law_cell_at", none), "_law_cell_at", "_law_cell_at", C8.fnArgs s_law_cell_at, C8.fnBody s_law_cell_at, C8.fnScope s_law_cell_at, [], []⟩
def d_law_source : He.DefD := ⟨("_law_source", none), "_law_source", "_law_source", C8.fnArgs s_law_source, C8.fnBody s_law_source, C8.fnScope s_law_source, [], []⟩
def d_law_draw : He.DefD := ⟨("_law_draw", none), "_law_draw", "_law_draw", C8.fnArgs s_law_draw, C8.fnBody s_law_draw, C8.fnScope s_law_draw, [], []⟩
def d_law_choice : He.DefD := ⟨("_law_choice", none), "_law_choice", "_law_choice", C8.fnArgs s_law_choice, C8.fnBody s_law_choice, C8.fnScope s_law_choice, [], []⟩
def d_law_atom : He.DefD := ⟨("_law_atom", none), "_law_atom", "_law_atom", C8.fnArgs s_law_atom, C8.fnBody s_law_atom, C8.fnScope s_law_atom, [], []⟩
def d_law_document : He.DefD := ⟨("_law_document", none), "_law_document", "_law_document", C8.fnArgs s_law_document, C8.fnBody s_law_document, C8.fnScope s_law_document, [], []⟩
def d_law_patch : He.DefD := ⟨("_law_patch", none), "_law_patch", "_law_patch", C8.fnArgs s_law_patch, C8.fnBody s_law_patch, C8.fnScope s_law_patch, [], []⟩
def d_law_parts : He.DefD := ⟨("_law_parts", none), "_law_parts", "_law_parts", C8.fnArgs s_law_parts, C8.fnBody s_law_parts, C8.fnScope s_law_parts, [], []⟩
def d_law_rows : He.DefD := ⟨("_law_rows", none), "_law_rows", "_law_rows", C8.fnArgs s_law_rows, C8.fnBody s_law_rows, C8.fnScope s_law_rows, [], []⟩
def d_law_same_again : He.DefD := ⟨("_law_same_again", none), "_law_same_again", "_law_same_again", C8.fnArgs s_law_same_again, C8.fnBody s_law_same_again, C8.fnScope s_law_same_again, [], []⟩
def d_law_after : He.DefD := ⟨("_law_after", none), "_law_after", "_law_after", C8.fnArgs s_law_after, C8.fnBody s_law_after, C8.fnScope s_law_after, [], []⟩
def d_law_end : He.DefD := ⟨("_law_end", none), "_law_end", "_law_end", C8.fnArgs s_law_end, C8.fnBody s_law_end, C8.fnScope s_law_end, [], []⟩
def d_law_logged : He.DefD := ⟨("_law_logged", none), "_law_logged", "_law_logged", C8.fnArgs s_law_logged, C8.fnBody s_law_logged, C8.fnScope s_law_logged, [], []⟩
def d_law_times_right : He.DefD := ⟨("_law_times_right", none), "_law_times_right", "_law_times_right", C8.fnArgs s_law_times_right, C8.fnBody s_law_times_right, C8.fnScope s_law_times_right, [], []⟩
def d_law_squeezed_right : He.DefD := ⟨("_law_squeezed_right", none), "_law_squeezed_right", "_law_squeezed_right", C8.fnArgs s_law_squeezed_right, C8.fnBody s_law_squeezed_right, C8.fnScope s_law_squeezed_right, [], []⟩
def d_law_asked : He.DefD := ⟨("_law_asked", none), "_law_asked", "_law_asked", C8.fnArgs s_law_asked, C8.fnBody s_law_asked, C8.fnScope s_law_asked, [], []⟩
def d_law_led_right : He.DefD := ⟨("_law_led_right", none), "_law_led_right", "_law_led_right", C8.fnArgs s_law_led_right, C8.fnBody s_law_led_right, C8.fnScope s_law_led_right, [], []⟩
def d_law_shared_right : He.DefD := ⟨("_law_shared_right", none), "_law_shared_right", "_law_shared_right", C8.fnArgs s_law_shared_right, C8.fnBody s_law_shared_right, C8.fnScope s_law_shared_right, [], []⟩
def d_law : He.DefD := ⟨("law", none), "law", "law", C8.fnArgs s_law, C8.fnBody s_law, C8.fnScope s_law, [], []⟩
def fn0 : List He.DefD := [d_NoChange_init, d_is_plain, d_is_atom, d_wrong_path, d_depth_of, d_parts_of, d_check, d_check_row, d_copied, d_merged, d_after_all, d_run, d_Effect_init, d_Effect_facts, d_Effect_eq, d_Effect_add, d_Effect_call, d_Effect_by_key, d_Effect_builds, d_keep, d_drop, d_of_patch, d_built, d_joined, d_acted]
def fn1 : List He.DefD := [d_whole, d_effect, d_as_patch, d_clearing, d_short, d_compact, d_Log_init, d_Log_go_on, d_Log_begin, d_Log_add, d_Log_row, d_Log_first, d_Log_check_time, d_Log_at, d_Log_now, d_Log_squeeze, d_Log_back, d_same, d_witness, d_parting, d_none_path, d_made, d_changed, d_new_member, d_led]
def fn2 : List He.DefD := [d_change, d_undoing, d_is_result, d_Clash_init, d_Clash_eq, d_least, d_fitted, d_shared, d_law_cell_at, d_law_source, d_law_draw, d_law_choice, d_law_atom, d_law_document, d_law_patch, d_law_parts, d_law_rows, d_law_same_again, d_law_after, d_law_end, d_law_logged, d_law_times_right, d_law_squeezed_right, d_law_asked, d_law_led_right]
def fn3 : List He.DefD := [d_law_shared_right, d_law]
def fn : List He.DefD := fn0 ++ fn1 ++ fn2 ++ fn3
/-- what is known of the text behind the top -/
structure Tx (K : PySem.W.Frag) (mg : Str → Option Value) : Prop where
  glo : ∀ x, gloN.contains x = true → mg x = some (.ref (He.ga K x))
  fre : ∀ x, freeN.contains x = true → mg x = none
  dfs : ∀ (i : Nat) (d : He.DefD), fn[i]? = some d → ∃ fd, FunD K d.name d.qual d.params d.body d.scope (d.dvs K) (d.kws K) (He.fAd K d.at_) fd
  mdep : ∃ t, mg "MOST_DEPTH" = some (.int 8 t)
  mpar : ∃ t, mg "MOST_PARTS" = some (.int 200 t)
  cEffect : Cls K (He.ga K "Effect")
  kEffect : Mk K (He.ga K "Effect") (He.ma K (He.ga K "Effect") "__init__")
  cLog : Cls K (He.ga K "Log")
  kLog : Mk K (He.ga K "Log") (He.ma K (He.ga K "Log") "__init__")
  cClash : Cls K (He.ga K "Clash")
  kClash : Mk K (He.ga K "Clash") (He.ma K (He.ga K "Clash") "__init__")
  nEffect_kind : NoAttr K (He.ga K "Effect") "kind"
  nEffect_atom : NoAttr K (He.ga K "Effect") "atom"
  nEffect_members : NoAttr K (He.ga K "Effect") "members"
  nLog_begun : NoAttr K (He.ga K "Log") "begun"
  nLog_patches : NoAttr K (He.ga K "Log") "patches"
  nLog_history : NoAttr K (He.ga K "Log") "history"
  nClash_path : NoAttr K (He.ga K "Clash") "path"
  mEffect_eq : Meth K (He.ga K "Effect") "__eq__" (He.ma K (He.ga K "Effect") "__eq__")
  mEffect_add : Meth K (He.ga K "Effect") "__add__" (He.ma K (He.ga K "Effect") "__add__")
  mEffect_call : Meth K (He.ga K "Effect") "__call__" (He.ma K (He.ga K "Effect") "__call__")
  mClash_eq : Meth K (He.ga K "Clash") "__eq__" (He.ma K (He.ga K "Clash") "__eq__")
  xEffect : C8.InsC K (He.ga K "Effect")
  xClash : C8.InsC K (He.ga K "Clash")
  yClash : (["NoneType", "int", "str", "list", "dict"] : List String).all (fun t => PySem.W.kitOne K (.type t) (.ref (He.ga K "Clash")) == some false) = true
  aEffect : PySem.W.selfFirst K (He.ga K "Effect") = true
  oEffect : StX.CallO K (He.ga K "Effect") (He.ma K (He.ga K "Effect") "__call__")
  mEffect_facts : Meth K (He.ga K "Effect") "facts" (He.ma K (He.ga K "Effect") "facts")
  mEffect_by_key : Meth K (He.ga K "Effect") "by_key" (He.ma K (He.ga K "Effect") "by_key")
  mEffect_builds : Meth K (He.ga K "Effect") "builds" (He.ma K (He.ga K "Effect") "builds")
  mLog_go_on : Meth K (He.ga K "Log") "go_on" (He.ma K (He.ga K "Log") "go_on")
  mLog_begin : Meth K (He.ga K "Log") "begin" (He.ma K (He.ga K "Log") "begin")
  mLog_add : Meth K (He.ga K "Log") "add" (He.ma K (He.ga K "Log") "add")
  mLog_row : Meth K (He.ga K "Log") "row" (He.ma K (He.ga K "Log") "row")
  mLog_first : Meth K (He.ga K "Log") "first" (He.ma K (He.ga K "Log") "first")
  mLog_check_time : Meth K (He.ga K "Log") "check_time" (He.ma K (He.ga K "Log") "check_time")
  mLog_at : Meth K (He.ga K "Log") "at" (He.ma K (He.ga K "Log") "at")
  mLog_now : Meth K (He.ga K "Log") "now" (He.ma K (He.ga K "Log") "now")
  mLog_squeeze : Meth K (He.ga K "Log") "squeeze" (He.ma K (He.ga K "Log") "squeeze")
  mLog_back : Meth K (He.ga K "Log") "back" (He.ma K (He.ga K "Log") "back")
section
variable {P : Program} {w : World} {K : PySem.W.Frag} {mg : Str → Option Value} {base : Heap}
theorem Fun_of {x qual : Str} {st : Stmt} {f : Addr} {fd : FuncData} (F : FunD K x qual (C8.fnArgs st) (C8.fnBody st) (C8.fnScope st) [] [] f fd) : C8.Fun K x qual st f fd ∧ fd.defaults = .none := by
  obtain ⟨oc, od, dV, kV, doc, pm, an, cdv, ct, osl, rfl, lk, hcd, hD, _⟩ := F.ex
  refine ⟨⟨oc, od, dV, kV, doc, pm, an, cdv, ct, osl, rfl, lk, hcd⟩, ?_⟩
  rcases hD with ⟨_, e⟩ | ⟨e, _⟩
  · exact e
  · exact absurd rfl e
/-- a def of the module keeps its promise -/
theorem Tx.cal (T : Tx K mg) (i : Nat) {x : Str} {st : Stmt} {N ps : List Str} {k : Nat} {sp : Sp}
    (hd : fn[i]? = some ⟨(x, none), x, x, C8.fnArgs st, C8.fnBody st, C8.fnScope st, [], []⟩) (hx : gloN.contains x = true) (S : FnScope N ps (C8.fnScope st))
    (hb : ∀ (kV doc pm : Value) (an : Option Addr) (cdv ct : Value) (us : List Value), us.length = ps.length → bindArgs (PySem.W.fnOf x x (C8.fnArgs st) (C8.fnBody st) (C8.fnScope st) .none kV doc pm an cdv ct) ⟨us, []⟩ = pure (ps.zip us))
    (len : ∀ vs H Q E, sp vs H Q E → vs.length = ps.length)
    (hbody : ∀ (cdv : Value) (A : Around) (outer : List Env) (s : Shared) (H : Hp) (vs : List V) (Q : VK) (E : XK) (f : Addr), Room k (A.deeper (envOfC x (C8.fnScope st) s.heap.objs.size f cdv)) → sp vs H Q E →
      ∃ t, PSs (cxOf C8.CX0 P w K mg base N x (C8.fnScope st) f cdv A outer s H E).nox (C8.fnBody st) t ∧ t { nx := fun _ H' => Q .non H', rt := Q } (start N vs) H) : C8.Cal P w K mg base (k + 1) x sp [] := by
  obtain ⟨fd, F⟩ := T.dfs i _ hd
  obtain ⟨F0, df⟩ := Fun_of (st := st) F
  exact C8.cal0 ⟨F0, T.glo x hx, F.kp⟩ (F0.binds df hb) .nil S len fun cdv A outer s H vs Q E hr h => hbody cdv A outer s H vs Q E _ hr h
/-- a promise that can't be asked -/
theorem Tx.calF (T : Tx K mg) (i : Nat) {x : Str} {st : Stmt} {ps : List Str} {k : Nat} {sp : Sp}
    (hd : fn[i]? = some ⟨(x, none), x, x, C8.fnArgs st, C8.fnBody st, C8.fnScope st, [], []⟩) (hx : gloN.contains x = true)
    (hb : ∀ (kV doc pm : Value) (an : Option Addr) (cdv ct : Value) (us : List Value), us.length = ps.length → bindArgs (PySem.W.fnOf x x (C8.fnArgs st) (C8.fnBody st) (C8.fnScope st) .none kV doc pm an cdv ct) ⟨us, []⟩ = pure (ps.zip us))
    (no : ∀ vs H Q E, ¬ sp vs H Q E) : C8.Cal P w K mg base k x sp [] := by
  obtain ⟨fd, F⟩ := T.dfs i _ hd
  obtain ⟨F0, df⟩ := Fun_of (st := st) F
  exact ⟨_, fd, ps, [], ⟨fun vs H Q E h => absurd h (no vs H Q E), fun A outer s H args us vs Q E _ _ _ _ h => absurd h (no vs H Q E)⟩, T.glo x hx, F.kp, F0.binds df hb, .nil⟩
/-- a method -/
theorem Tx.met (T : Tx K mg) (i : Nat) {c x q : Str} {st : Stmt} {N ps : List Str} {k : Nat} {sp : Sp}
    (hd : fn[i]? = some ⟨(c, some x), x, q, C8.fnArgs st, C8.fnBody st, C8.fnScope st, [], []⟩) (C : Cls K (He.ga K c)) (M : Meth K (He.ga K c) x (He.ma K (He.ga K c) x)) (S : FnScope N ps (C8.fnScope st))
    (hb : ∀ (kV doc pm : Value) (an : Option Addr) (cdv ct : Value) (us : List Value), us.length = ps.length → bindArgs (PySem.W.fnOf x q (C8.fnArgs st) (C8.fnBody st) (C8.fnScope st) .none kV doc pm an cdv ct) ⟨us, []⟩ = pure (ps.zip us))
    (len : ∀ vs H Q E, sp vs H Q E → vs.length = ps.length)
    (hbody : ∀ (cdv : Value) (A : Around) (outer : List Env) (s : Shared) (H : Hp) (vs : List V) (Q : VK) (E : XK) (f : Addr), Room k (A.deeper (envOfC q (C8.fnScope st) s.heap.objs.size f cdv)) → sp vs H Q E →
      ∃ t, PSs (cxOf C8.CX0 P w K mg base N q (C8.fnScope st) f cdv A outer s H E).nox (C8.fnBody st) t ∧ t { nx := fun _ H' => Q .non H', rt := Q } (start N vs) H) : C8.Met P w K mg base (k + 1) (He.ga K c) x sp [] := by
  obtain ⟨fd, F⟩ := T.dfs i _ hd
  obtain ⟨F0, df⟩ := Fun_of (st := st) F
  exact C8.met0 C M F0 (F0.binds df hb) S len fun cdv A outer s H vs Q E hr h => hbody cdv A outer s H vs Q E _ hr h
/-- a method's promise that can't be asked -/
theorem Tx.metF (T : Tx K mg) (i : Nat) {c x q : Str} {st : Stmt} {ps : List Str} {k : Nat} {sp : Sp}
    (hd : fn[i]? = some ⟨(c, some x), x, q, C8.fnArgs st, C8.fnBody st, C8.fnScope st, [], []⟩) (C : Cls K (He.ga K c)) (M : Meth K (He.ga K c) x (He.ma K (He.ga K c) x))
    (hb : ∀ (kV doc pm : Value) (an : Option Addr) (cdv ct : Value) (us : List Value), us.length = ps.length → bindArgs (PySem.W.fnOf x q (C8.fnArgs st) (C8.fnBody st) (C8.fnScope st) .none kV doc pm an cdv ct) ⟨us, []⟩ = pure (ps.zip us))
    (no : ∀ vs H Q E, ¬ sp vs H Q E) : C8.Met P w K mg base k (He.ga K c) x sp [] := by
  obtain ⟨fd, F⟩ := T.dfs i _ hd
  obtain ⟨F0, df⟩ := Fun_of (st := st) F
  exact ⟨_, fd, ps, [], C, M, ⟨fun vs H Q E h => absurd h (no vs H Q E), fun A outer s H args us vs Q E _ _ _ _ h => absurd h (no vs H Q E)⟩, F0.binds df hb, .nil⟩
/-- a class -/
theorem Tx.mak (T : Tx K mg) (i : Nat) {c q : Str} {st : Stmt} {N ps : List Str} {k : Nat} {sp : Sp}
    (hd : fn[i]? = some ⟨(c, some "__init__"), "__init__", q, C8.fnArgs st, C8.fnBody st, C8.fnScope st, [], []⟩) (hx : gloN.contains c = true) (M : Mk K (He.ga K c) (He.ma K (He.ga K c) "__init__")) (S : FnScope N ps (C8.fnScope st))
    (hb : ∀ (kV doc pm : Value) (an : Option Addr) (cdv ct : Value) (us : List Value), us.length = ps.length → bindArgs (PySem.W.fnOf "__init__" q (C8.fnArgs st) (C8.fnBody st) (C8.fnScope st) .none kV doc pm an cdv ct) ⟨us, []⟩ = pure (ps.zip us))
    (len : ∀ vs H Q E, sp vs H Q E → vs.length = ps.length)
    (hbody : ∀ (cdv : Value) (A : Around) (outer : List Env) (s : Shared) (H : Hp) (vs : List V) (Q : VK) (E : XK) (f : Addr), Room k (A.deeper (envOfC q (C8.fnScope st) s.heap.objs.size f cdv)) → sp vs H Q E →
      ∃ t, PSs (cxOf C8.CX0 P w K mg base N q (C8.fnScope st) f cdv A outer s H E).nox (C8.fnBody st) t ∧ t { nx := fun _ H' => Q .non H', rt := Q } (start N vs) H) : C8.Mak P w K mg base (k + 1) c (He.ga K c) sp [] := by
  obtain ⟨fd, F⟩ := T.dfs i _ hd
  obtain ⟨F0, df⟩ := Fun_of (st := st) F
  exact C8.mak0 M (T.glo c hx) F0 (F0.binds df hb) .nil S len fun cdv A outer s H vs Q E hr h => hbody cdv A outer s H vs Q E _ hr h
end
theorem bt_isinstance : bootBuiltins "isinstance" = some (.builtin "isinstance") := by decide +kernel
theorem bt_all : bootBuiltins "all" = some (.builtin "all") := by decide +kernel
theorem bt_any : bootBuiltins "any" = some (.builtin "any") := by decide +kernel
theorem bt_sum : bootBuiltins "sum" = some (.builtin "sum") := by decide +kernel
theorem bt_max : bootBuiltins "max" = some (.builtin "max") := by decide +kernel
theorem bt_min : bootBuiltins "min" = some (.builtin "min") := by decide +kernel
theorem bt_sorted : bootBuiltins "sorted" = some (.builtin "sorted") := by decide +kernel
theorem bt_len : bootBuiltins "len" = some (.builtin "len") := by decide +kernel
theorem bt_str : bootBuiltins "str" = some (.type "str") := by decide +kernel
theorem bt_int : bootBuiltins "int" = some (.type "int") := by decide +kernel
theorem bt_bool : bootBuiltins "bool" = some (.type "bool") := by decide +kernel
theorem bt_list : bootBuiltins "list" = some (.type "list") := by decide +kernel
theorem bt_dict : bootBuiltins "dict" = some (.type "dict") := by decide +kernel
theorem bt_tuple : bootBuiltins "tuple" = some (.type "tuple") := by decide +kernel
theorem bt_set : bootBuiltins "set" = some (.type "set") := by decide +kernel
theorem bt_range : bootBuiltins "range" = some (.type "range") := by decide +kernel
end Tp
end
section
/-! More of the mathematics. -/
namespace Tp
open PySem D E
/-- a build's members are no keeps -/
def wk : E → Bool
  | .mrg f => all4 fun k => wk (f k)
  | .bld f => all4 fun k => wk (f k) && !(f k).isKeep
  | _ => true
theorem wk_of : ∀ e : E, wfM e = true → wk e = true
  | .keep, _ => rfl
  | .drop, _ => rfl
  | .set _, _ => rfl
  | .mrg f, h => all4_iff.mpr fun k => wk_of (f k) (all4_iff.mp h k)
  | .bld f, h => all4_iff.mpr fun k => by
    have q := all4_iff.mp h k
    simp only [Bool.and_eq_true, Bool.not_eq_true'] at q
    rw [wk_of (f k) q.1.1, q.1.2] <;> rfl
theorem wk_wf {e : E} (h : wf e = true) : wk e = true := by
  cases e with
  | set x => rfl
  | drop => rfl
  | keep => rfl
  | mrg f => exact wk_of (.mrg f) h
  | bld f => exact wk_of (.bld f) h
theorem wk_kid {e : E} (h : wk e = true) (k : Ky) : wk (match e, k with | .mrg f, k => f k | .bld f, k => f k | _, _ => .keep) = true := by
  cases e with
  | mrg f => exact all4_iff.mp h k
  | bld f =>
    have q := all4_iff.mp h k
    simp only [Bool.and_eq_true] at q
    exact q.1
  | _ => rfl
theorem not_drop_wf {e : E} (h : wf e = true) : e.isDrop = false := by
  cases e with
  | drop => cases h
  | _ => rfl
end Tp
end
section
/-! The mathematics of changes and of shared results. -/
namespace Tp
open PySem D E
/-! ### shared results -/
/-- a build's members are no keeps, no merges -/
def wm : E → Bool
  | .mrg f => all4 fun k => wm (f k)
  | .bld f => all4 fun k => wm (f k) && !(f k).isKeep && !(f k).isMrg
  | _ => true
theorem wm_of : ∀ e : E, wfM e = true → wm e = true
  | .keep, _ => rfl
  | .drop, _ => rfl
  | .set _, _ => rfl
  | .mrg f, h => all4_iff.mpr fun k => wm_of (f k) (all4_iff.mp h k)
  | .bld f, h => all4_iff.mpr fun k => by
    have q := all4_iff.mp h k
    simp only [Bool.and_eq_true, Bool.not_eq_true'] at q
    rw [wm_of (f k) q.1.1, q.1.2, q.2] <;> rfl
theorem wm_wf {e : E} (h : wf e = true) : wm e = true := by
  cases e with
  | set x => rfl
  | drop => rfl
  | keep => rfl
  | mrg f => exact wm_of (.mrg f) h
  | bld f => exact wm_of (.bld f) h
theorem act_noK {e : E} (h1 : e.isKeep = false) (h2 : e.isMrg = false) (d : D) : act e d = act e .abs := by
  cases e with
  | keep => cases h1
  | mrg f => cases h2
  | drop => rfl
  | set x => rfl
  | bld f => rfl
theorem fix_abs {e : E} (d : D) (h : e.isKeep = false) (h2 : e.isMrg = false) (q : Fix e d) : d = act e .abs := by
  have q : act e d = d := q
  rw [act_noK h h2] at q
  exact q.symm
theorem bld_mem {f : Ky → E} (h : wm (.bld f) = true) (k : Ky) : wm (f k) = true ∧ (f k).isKeep = false ∧ (f k).isMrg = false := by
  have q := all4_iff.mp h k
  simp only [Bool.and_eq_true, Bool.not_eq_true'] at q
  exact ⟨q.1.1, q.1.2, q.2⟩
theorem fix_bld_of {f : Ky → E} {g : Ky → D} (h : wm (.bld f) = true) (q : ∀ k, Fix (f k) (g k)) : Fix (.bld f) (.obj g) :=
  fix_bld fun k => fix_abs _ (bld_mem h k).2.1 (bld_mem h k).2.2 (q k)
theorem fitO_fix {f g : Ky → E} {r : Ky → Ft} {d : D} (h : fitO r = .ok d) (ih : ∀ k e, r k = .ok e → Fix (f k) e ∧ Fix (g k) e) : ∃ u : Ky → D, d = .obj u ∧ ∀ k, Fix (f k) (u k) ∧ Fix (g k) (u k) := by
  obtain ⟨h1, h2⟩ := fitO_ok h
  refine ⟨_, h2, fun k => ?_⟩
  obtain ⟨e, he⟩ := h1 k
  have := ih k e he
  rw [he]
  exact this
theorem ft_ok : ∀ (e1 e2 : E) {d : D}, wm e1 = true → wm e2 = true → ft e1 e2 = .ok d → Fix e1 d ∧ Fix e2 d
  | .keep, e2, d, _, _, h => by
    have h : Ft.ok (act e2 .abs) = .ok d := h
    cases h
    exact ⟨rfl, act_idem e2 .abs⟩
  | .set x, e2, d, _, _, h => by
    cases e2 with
    | keep =>
      have h : Ft.ok (act (.set x) .abs) = .ok d := h
      cases h
      exact ⟨rfl, rfl⟩
    | set y =>
      have h : (if E.set y = .set x then Ft.ok (.atom x) else .clash []) = .ok d := h
      split at h
      · rename_i e
        cases h
        cases e
        exact ⟨rfl, rfl⟩
      · cases h
    | drop => cases h
    | mrg f => cases h
    | bld f => cases h
  | .drop, e2, d, _, _, h => by
    cases e2 with
    | keep =>
      have h : Ft.ok (act .drop .abs) = .ok d := h
      cases h
      exact ⟨rfl, rfl⟩
    | drop =>
      have h : (if E.drop = .drop then Ft.ok .abs else .clash []) = .ok d := h
      rw [if_pos rfl] at h
      cases h
      exact ⟨rfl, rfl⟩
    | set y => cases h
    | mrg f => cases h
    | bld f => cases h
  | .mrg f, e2, d, w1, w2, h => by
    cases e2 with
    | keep =>
      have h : Ft.ok (act (.mrg f) .abs) = .ok d := h
      cases h
      exact ⟨act_idem (.mrg f) .abs, rfl⟩
    | drop => cases h
    | set y => cases h
    | mrg g =>
      obtain ⟨u, rfl, q⟩ := fitO_fix (f := f) (g := g) h fun k e he => ft_ok (f k) (g k) (all4_iff.mp w1 k) (all4_iff.mp w2 k) he
      exact ⟨fix_mrg.mpr fun k => (q k).1, fix_mrg.mpr fun k => (q k).2⟩
    | bld g =>
      obtain ⟨u, rfl, q⟩ := fitO_fix (f := f) (g := g) h fun k e he => ft_ok (f k) (g k) (all4_iff.mp w1 k) (bld_mem w2 k).1 he
      exact ⟨fix_mrg.mpr fun k => (q k).1, fix_bld_of w2 fun k => (q k).2⟩
  | .bld f, e2, d, w1, w2, h => by
    cases e2 with
    | keep =>
      have h : Ft.ok (act (.bld f) .abs) = .ok d := h
      cases h
      exact ⟨act_idem (.bld f) .abs, rfl⟩
    | drop => cases h
    | set y => cases h
    | mrg g =>
      obtain ⟨u, rfl, q⟩ := fitO_fix (f := f) (g := g) h fun k e he => ft_ok (f k) (g k) (bld_mem w1 k).1 (all4_iff.mp w2 k) he
      exact ⟨fix_bld_of w1 fun k => (q k).1, fix_mrg.mpr fun k => (q k).2⟩
    | bld g =>
      obtain ⟨u, rfl, q⟩ := fitO_fix (f := f) (g := g) h fun k e he => ft_ok (f k) (g k) (bld_mem w1 k).1 (bld_mem w2 k).1 he
      exact ⟨fix_bld_of w1 fun k => (q k).1, fix_bld_of w2 fun k => (q k).2⟩
theorem ft_comm : ∀ (e1 e2 : E), ft e1 e2 = ft e2 e1
  | .keep, e2 => by cases e2 <;> rfl
  | .set x, e2 => by
    cases e2 with
    | set y =>
      show (if E.set y = .set x then Ft.ok (.atom x) else .clash []) = (if E.set x = .set y then Ft.ok (.atom y) else .clash [])
      by_cases e : x = y
      · subst e; rfl
      · rw [if_neg (fun z => e (E.set.inj z).symm), if_neg (fun z => e (E.set.inj z))]
    | keep => rfl
    | drop =>
      show (if E.drop = .set x then Ft.ok (.atom x) else .clash []) = (if E.set x = .drop then Ft.ok .abs else .clash [])
      rw [if_neg (fun z => nomatch z), if_neg (fun z => nomatch z)]
    | mrg f =>
      show (if E.mrg f = .set x then Ft.ok (.atom x) else .clash []) = .clash []
      rw [if_neg (fun z => nomatch z)]
    | bld f =>
      show (if E.bld f = .set x then Ft.ok (.atom x) else .clash []) = .clash []
      rw [if_neg (fun z => nomatch z)]
  | .drop, e2 => by
    cases e2 with
    | set y =>
      show (if E.set y = .drop then Ft.ok .abs else .clash []) = (if E.drop = .set y then Ft.ok (.atom y) else .clash [])
      rw [if_neg (fun z => nomatch z), if_neg (fun z => nomatch z)]
    | keep => rfl
    | drop => rfl
    | mrg f =>
      show (if E.mrg f = .drop then Ft.ok .abs else .clash []) = .clash []
      rw [if_neg (fun z => nomatch z)]
    | bld f =>
      show (if E.bld f = .drop then Ft.ok .abs else .clash []) = .clash []
      rw [if_neg (fun z => nomatch z)]
  | .mrg f, e2 => by
    cases e2 with
    | keep => rfl
    | set y =>
      show Ft.clash [] = (if E.mrg f = .set y then Ft.ok (.atom y) else .clash [])
      rw [if_neg (fun z => nomatch z)]
    | drop =>
      show Ft.clash [] = (if E.mrg f = .drop then Ft.ok .abs else .clash [])
      rw [if_neg (fun z => nomatch z)]
    | mrg g => exact congrArg fitO (funext fun k => ft_comm (f k) (g k))
    | bld g => exact congrArg fitO (funext fun k => ft_comm (f k) (g k))
  | .bld f, e2 => by
    cases e2 with
    | keep => rfl
    | set y =>
      show Ft.clash [] = (if E.bld f = .set y then Ft.ok (.atom y) else .clash [])
      rw [if_neg (fun z => nomatch z)]
    | drop =>
      show Ft.clash [] = (if E.bld f = .drop then Ft.ok .abs else .clash [])
      rw [if_neg (fun z => nomatch z)]
    | mrg g => exact congrArg fitO (funext fun k => ft_comm (f k) (g k))
    | bld g => exact congrArg fitO (funext fun k => ft_comm (f k) (g k))
theorem ft_dep : ∀ (e1 e2 : E) {d : D} {n : Nat}, e1.dep ≤ n → e2.dep ≤ n → ft e1 e2 = .ok d → d.dep ≤ n := by
  intro e1 e2 d n h1 h2 h
  have key : ∀ (e1 e2 : E) {n : Nat}, e1.dep ≤ n → e2.dep ≤ n → (ft e1 e2).doc.dep ≤ n := by
    intro e1
    induction e1 with
    | keep =>
      intro e2 n _ h2
      have e : ft .keep e2 = .ok (act e2 .abs) := by cases e2 <;> rfl
      rw [e]
      exact act_dep e2 .abs h2 (Nat.zero_le _)
    | set x =>
      intro e2 n _ h2
      cases e2 with
      | keep => exact Nat.zero_le _
      | _ =>
        unfold ft
        split <;> exact Nat.zero_le _
    | drop =>
      intro e2 n _ h2
      cases e2 with
      | keep => exact Nat.zero_le _
      | _ =>
        unfold ft
        split <;> exact Nat.zero_le _
    | mrg f ih =>
      intro e2 n h1 h2
      have go : ∀ g : Ky → E, (∀ k, (g k).dep ≤ n - 1) → 1 ≤ n → (fitO fun k => ft (f k) (g k)).doc.dep ≤ n := by
        intro g hg hn
        obtain ⟨m, rfl⟩ : ∃ m, n = m + 1 := ⟨n - 1, by omega⟩
        unfold fitO
        cases fst4 (fun k => ft (f k) (g k)) kys with
        | some q => exact Nat.zero_le _
        | none => exact dep_obj fun k => ih k (g k) (dep_mrg.mp h1 k) (hg k)
      have hn : 1 ≤ n := by
        have : 1 + mx4 (fun k => (f k).dep) ≤ n := h1
        omega
      cases e2 with
      | keep => exact act_dep (.mrg f) .abs h1 (Nat.zero_le _)
      | set y => exact Nat.zero_le _
      | drop => exact Nat.zero_le _
      | mrg g => exact go g (fun k => by
          obtain ⟨m, rfl⟩ : ∃ m, n = m + 1 := ⟨n - 1, by omega⟩
          exact dep_mrg.mp h2 k) hn
      | bld g => exact go g (fun k => by
          obtain ⟨m, rfl⟩ : ∃ m, n = m + 1 := ⟨n - 1, by omega⟩
          exact dep_bld.mp h2 k) hn
    | bld f ih =>
      intro e2 n h1 h2
      have go : ∀ g : Ky → E, (∀ k, (g k).dep ≤ n - 1) → 1 ≤ n → (fitO fun k => ft (f k) (g k)).doc.dep ≤ n := by
        intro g hg hn
        obtain ⟨m, rfl⟩ : ∃ m, n = m + 1 := ⟨n - 1, by omega⟩
        unfold fitO
        cases fst4 (fun k => ft (f k) (g k)) kys with
        | some q => exact Nat.zero_le _
        | none => exact dep_obj fun k => ih k (g k) (dep_bld.mp h1 k) (hg k)
      have hn : 1 ≤ n := by
        have : 1 + mx4 (fun k => (f k).dep) ≤ n := h1
        omega
      cases e2 with
      | keep => exact act_dep (.bld f) .abs h1 (Nat.zero_le _)
      | set y => exact Nat.zero_le _
      | drop => exact Nat.zero_le _
      | mrg g => exact go g (fun k => by
          obtain ⟨m, rfl⟩ : ∃ m, n = m + 1 := ⟨n - 1, by omega⟩
          exact dep_mrg.mp h2 k) hn
      | bld g => exact go g (fun k => by
          obtain ⟨m, rfl⟩ : ∃ m, n = m + 1 := ⟨n - 1, by omega⟩
          exact dep_bld.mp h2 k) hn
  have := key e1 e2 h1 h2
  rw [h] at this
  exact this
/-! ### changes -/
/-- a member that is new: a null in it is nothing a patch could set -/
def nn : D → Ft
  | .abs => .ok .abs
  | .atom x => if x = non then .clash [] else .ok (.atom x)
  | .obj f => fitO fun k => nn (f k)
/-- the member patch from b to a -/
def lm : D → D → Ft
  | .abs, b => if b.isAbs = true then .ok .abs else .ok (.atom non)
  | .atom x, b => if b = .atom x then .ok .abs else if x = non then .clash [] else .ok (.atom x)
  | .obj g, b => if b = .obj g then .ok .abs else match b with
    | .obj f => fitO fun k => lm (g k) (f k)
    | _ => fitO fun k => nn (g k)
/-- the patch that leads from b to a -/
def led (b a : D) : Ft := match a with
  | .obj g => match b with
    | .obj f => fitO fun k => lm (g k) (f k)
    | _ => fitO fun k => nn (g k)
  | a => .ok a
/-- what stands at a way -/
def wayTo : D → List Ky → D
  | d, [] => d
  | d, k :: q => wayTo (d.kid k) q
theorem way_abs : ∀ q : List Ky, wayTo .abs q = .abs
  | [] => rfl
  | _ :: q => way_abs q
theorem nn_ok : ∀ (d : D) {e : D}, nn d = .ok e → e = d ∧ mg .abs d = d
  | .abs, e, h => by cases h; exact ⟨rfl, rfl⟩
  | .atom x, e, h => by
    unfold nn at h
    split at h
    · cases h
    · cases h
      exact ⟨rfl, rfl⟩
  | .obj f, e, h => by
    obtain ⟨h1, h2⟩ := fitO_ok (show fitO (fun k => nn (f k)) = .ok e from h)
    have q : ∀ k, (nn (f k)).doc = f k ∧ mg .abs (f k) = f k := fun k => by
      obtain ⟨x, hx⟩ := h1 k
      have := nn_ok (f k) hx
      rw [hx]
      exact this
    refine ⟨h2.trans (congrArg D.obj (funext fun k => (q k).1)), congrArg D.obj (funext fun k => ?_)⟩
    show (if (f k).isAbs = true then D.abs else if (f k).isNon = true then .abs else mg .abs (f k)) = f k
    by_cases e1 : (f k).isAbs = true
    · rw [if_pos e1, isAbs_iff.mp e1]
    · rw [if_neg e1]
      by_cases e2 : (f k).isNon = true
      · obtain ⟨x, hx⟩ := h1 k
        rw [isNon_iff.mp e2] at hx
        have : (if non = non then Ft.clash [] else .ok (.atom non)) = .ok x := hx
        rw [if_pos rfl] at this
        cases this
      · rw [if_neg e2]
        exact (q k).2
theorem nn_no : ∀ (d : D) {q : List Ky}, nn d = .clash q → wayTo d q = .atom non
  | .abs, q, h => by cases h
  | .atom x, q, h => by
    unfold nn at h
    split at h
    · rename_i e
      cases h
      rw [e] <;> rfl
    · cases h
  | .obj f, q, h => by
    obtain ⟨k, q', e, hk⟩ := fitO_clash (show fitO (fun k => nn (f k)) = .clash q from h)
    rw [e]
    exact nn_no (f k) hk
/-- a member after a member patch -/
def mgm (b p : D) : D := if p.isAbs = true then b else if p.isNon = true then .abs else mg b p
theorem kid_noObj {b : D} (h : b.isObj = false) (k : Ky) : b.kid k = .abs := by
  cases b with
  | obj f => cases h
  | _ => rfl
theorem obj_new {g : Ky → D} {b p : D} (hb : b.isObj = false) (h : fitO (fun k => nn (g k)) = .ok p) : p = .obj g ∧ mg b (.obj g) = .obj g := by
  obtain ⟨e1, e2⟩ := nn_ok (.obj g) h
  refine ⟨e1, Eq.trans (congrArg D.obj (funext fun k => ?_)) e2⟩
  rw [kid_noObj hb k] <;> rfl
theorem obj_led {f g : Ky → D} {p : D} (h : fitO (fun k => lm (g k) (f k)) = .ok p) (ih : ∀ k x, lm (g k) (f k) = .ok x → mgm (f k) x = g k) : p.isObj = true ∧ mg (.obj f) p = .obj g := by
  obtain ⟨h1, h2⟩ := fitO_ok h
  subst h2
  refine ⟨rfl, congrArg D.obj (funext fun k => ?_)⟩
  obtain ⟨x, hx⟩ := h1 k
  have := ih k x hx
  show mgm (f k) (lm (g k) (f k)).doc = g k
  rw [hx]
  exact this
theorem lm_ok : ∀ (a b : D) {p : D}, lm a b = .ok p → mgm b p = a
  | .abs, b, p, h => by
    unfold lm at h
    split at h
    · rename_i e
      cases h
      show b = .abs
      exact isAbs_iff.mp e
    · cases h
      rfl
  | .atom x, b, p, h => by
    unfold lm at h
    split at h
    · rename_i e
      cases h
      exact e
    · split at h
      · cases h
      · rename_i n
        cases h
        have : (D.atom x).isNon = false := by
          cases q : (D.atom x).isNon with
          | false => rfl
          | true => exact absurd (D.atom.inj (isNon_iff.mp q)) n
        show (if (D.atom x).isAbs = true then b else if (D.atom x).isNon = true then .abs else mg b (.atom x)) = .atom x
        rw [this] <;> rfl
  | .obj g, b, p, h => by
    unfold lm at h
    split at h
    · rename_i e
      cases h
      exact e
    · cases b with
      | obj f =>
        obtain ⟨hp, e⟩ := obj_led h fun k x hx => lm_ok (g k) (f k) hx
        unfold mgm
        cases p with
        | obj u => exact e
        | abs => cases hp
        | atom x => cases hp
      | abs =>
        obtain ⟨rfl, e⟩ := obj_new (b := .abs) rfl h
        exact e
      | atom x =>
        obtain ⟨rfl, e⟩ := obj_new (b := .atom x) rfl h
        exact e
theorem lm_no : ∀ (a b : D) {q : List Ky}, lm a b = .clash q → wayTo a q = .atom non
  | .abs, b, q, h => by
    unfold lm at h
    split at h <;> cases h
  | .atom x, b, q, h => by
    unfold lm at h
    split at h
    · cases h
    · split at h
      · rename_i e
        cases h
        rw [e] <;> rfl
      · cases h
  | .obj g, b, q, h => by
    unfold lm at h
    split at h
    · cases h
    · cases b with
      | obj f =>
        obtain ⟨k, q', e, hk⟩ := fitO_clash h
        rw [e]
        exact lm_no (g k) (f k) hk
      | abs => exact nn_no (.obj g) h
      | atom x => exact nn_no (.obj g) h
theorem lm_self (a : D) : lm a a = .ok .abs := by
  cases a with
  | abs => rfl
  | atom x =>
    unfold lm
    rw [if_pos rfl]
  | obj g =>
    unfold lm
    rw [if_pos rfl]
theorem led_ok {a b p : D} (ha : a ≠ .abs) (h : led b a = .ok p) : mg b p = a ∧ p ≠ .abs := by
  unfold led at h
  cases a with
  | abs => exact absurd rfl ha
  | atom x => cases h; exact ⟨rfl, fun z => nomatch z⟩
  | obj g =>
    cases b with
    | obj f =>
      obtain ⟨hp, e⟩ := obj_led h fun k x hx => lm_ok (g k) (f k) hx
      exact ⟨e, fun z => by rw [z] at hp; cases hp⟩
    | abs =>
      obtain ⟨rfl, e⟩ := obj_new (b := .abs) rfl h
      exact ⟨e, fun z => nomatch z⟩
    | atom x =>
      obtain ⟨rfl, e⟩ := obj_new (b := .atom x) rfl h
      exact ⟨e, fun z => nomatch z⟩
theorem led_no {a b : D} {q : List Ky} (h : led b a = .clash q) : q ≠ [] ∧ wayTo a q = .atom non := by
  unfold led at h
  cases a with
  | abs => cases h
  | atom x => cases h
  | obj g =>
    cases b with
    | obj f =>
      obtain ⟨k, q', e, hk⟩ := fitO_clash h
      rw [e]
      exact ⟨(fun z => nomatch z), lm_no (g k) (f k) hk⟩
    | abs =>
      obtain ⟨k, q', e, hk⟩ := fitO_clash h
      rw [e]
      exact ⟨(fun z => nomatch z), nn_no (g k) hk⟩
    | atom x =>
      obtain ⟨k, q', e, hk⟩ := fitO_clash h
      rw [e]
      exact ⟨(fun z => nomatch z), nn_no (g k) hk⟩
theorem fitO_ok_of {r : Ky → Ft} {u : Ky → D} (h : ∀ k, r k = .ok (u k)) : fitO r = .ok (.obj u) := by
  have n : ∀ ks, fst4 r ks = none := by
    intro ks
    induction ks with
    | nil => rfl
    | cons k ks ih =>
      unfold fst4
      rw [h k]
      exact ih
  unfold fitO
  rw [n kys]
  show Ft.ok (.obj fun k => (r k).doc) = _
  congr 2
  funext k
  rw [h k] <;> rfl
theorem led_self (a : D) : led a a = .ok (if a.isObj = true then .obj fun _ => .abs else a) := by
  cases a with
  | obj g => exact fitO_ok_of fun k => lm_self (g k)
  | abs => rfl
  | atom x => rfl
theorem fitO_dep {r : Ky → Ft} {g : Ky → D} {p : D} (h : fitO r = .ok p) (ih : ∀ k x, r k = .ok x → x.dep ≤ (g k).dep) : p.dep ≤ (D.obj g).dep := by
  obtain ⟨h1, h2⟩ := fitO_ok h
  subst h2
  refine Nat.le_trans (dep_obj (n := mx4 fun k => (g k).dep) (fun k => ?_)) (by show _ ≤ 1 + mx4 _; omega)
  obtain ⟨x, hx⟩ := h1 k
  rw [hx]
  exact Nat.le_trans (ih k x hx) ((mx4_le (g := fun k => (g k).dep)).mp (Nat.le_refl _) k)
theorem lm_dep : ∀ (a b : D) {p : D}, lm a b = .ok p → p.dep ≤ a.dep
  | .abs, b, p, h => by
    unfold lm at h
    split at h <;> cases h <;> exact Nat.zero_le _
  | .atom x, b, p, h => by
    unfold lm at h
    split at h
    · cases h; exact Nat.zero_le _
    · split at h
      · cases h
      · cases h; exact Nat.le_refl _
  | .obj g, b, p, h => by
    unfold lm at h
    split at h
    · cases h; exact Nat.zero_le _
    · cases b with
      | obj f => exact fitO_dep h fun k x hx => lm_dep (g k) (f k) hx
      | abs => exact fitO_dep h fun k x hx => by rw [(nn_ok (g k) hx).1]; exact Nat.le_refl _
      | atom x => exact fitO_dep h fun k x hx => by rw [(nn_ok (g k) hx).1]; exact Nat.le_refl _
theorem led_dep {a b p : D} (h : led b a = .ok p) : p.dep ≤ a.dep := by
  unfold led at h
  cases a with
  | abs => cases h; exact Nat.le_refl _
  | atom x => cases h; exact Nat.le_refl _
  | obj g =>
    cases b with
    | obj f => exact fitO_dep h fun k x hx => lm_dep (g k) (f k) hx
    | abs => exact fitO_dep h fun k x hx => by rw [(nn_ok (g k) hx).1]; exact Nat.le_refl _
    | atom x => exact fitO_dep h fun k x hx => by rw [(nn_ok (g k) hx).1]; exact Nat.le_refl _
theorem led_ne {a b p : D} (ha : a ≠ .abs) (h : led b a = .ok p) : p ≠ .abs := (led_ok ha h).2
end Tp
end
section
set_option maxRecDepth 100000
set_option maxHeartbeats 4000000
/-! set(list of texts), sorted(of such a set). -/
namespace Tp
open PySem PySem.Spec PyProof.Rows L2
def keyS (e : Int × Value) : Str := match e.2 with
  | .str k _ => k
  | _ => Str.empty
/-- the set of the texts l at a -/
structure SetD (P : Program) (w : World) (D : Froz.SD) (l : List Str) : Prop where
  ok : Froz.TxOk P w D l
  pm : (D.1.toList.map keyS).Perm l
  good : ∀ e ∈ D.1.toList, ∃ k tk, e.2 = Value.str k tk
  ris : L2.Ris D.2.2.place.toList
  led : w.params.followText "set-order" = true ∨ D.2.2.led = true
  nd : l.Nodup
def SetL (P : Program) (w : World) (h : Heap) (a : Addr) (l : List Str) : Prop := ∃ D : Froz.SD, h.get? a = some (Froz.sObj "set" D) ∧ SetD P w D l
theorem SetL.at {P : Program} {w : World} {h h' : Heap} {a : Addr} {l : List Str} (R : SetL P w h a l) (k : ∀ o, h.get? a = some o → h'.get? a = some o) : SetL P w h' a l := let ⟨D, e, d⟩ := R; ⟨D, k _ e, d⟩
theorem tailTx_perm (ep : Nat) (es1 : Array (Int × Value)) (t2 : SetTable) (wd : Bool) : (Froz.tailTx ep es1 t2 wd).1.toList.Perm es1.toList := by
  unfold Froz.tailTx
  by_cases c : (!wd && t2.tooFull) = true
  · rw [if_pos c]; exact relayAll_perm _ _ _
  · rw [if_neg c]
theorem tailTx_ris (ep : Nat) (es1 : Array (Int × Value)) (t2 : SetTable) (wd : Bool) (r : L2.Ris t2.place.toList) : L2.Ris (Froz.tailTx ep es1 t2 wd).2.2.place.toList := by
  unfold Froz.tailTx
  by_cases c : (!wd && t2.tooFull) = true
  · rw [if_pos c]; exact relayAll_ris _ _ _
  · rw [if_neg c]; exact r
theorem tailTx_led (ep : Nat) (es1 : Array (Int × Value)) (t2 : SetTable) (wd : Bool) : (Froz.tailTx ep es1 t2 wd).2.2.led = t2.led := by
  unfold Froz.tailTx
  by_cases c : (!wd && t2.tooFull) = true
  · rw [if_pos c]; exact relayAll_led _ _ _
  · rw [if_neg c]
theorem addTx_perm (h : Int) (v : Value) (D : Froz.SD) : (Froz.addTx h v D).1.toList.Perm (D.1.toList ++ [(h, v)]) := by
  have p := layNew_perm D.2.2 D.1 h v
  rw [Array.toList_push] at p
  unfold Froz.addTx
  exact (tailTx_perm _ _ _ _).trans p
theorem addTx_ris (h : Int) (v : Value) (D : Froz.SD) (r : L2.Ris D.2.2.place.toList) : L2.Ris (Froz.addTx h v D).2.2.place.toList := by
  have r1 := layNew_ris D.2.2 D.1 h v r
  unfold Froz.addTx
  refine tailTx_ris _ _ _ _ ?_
  split <;> exact r1
theorem addTx_led (h : Int) (v : Value) (D : Froz.SD) : (Froz.addTx h v D).2.2.led = D.2.2.led := by
  have r1 := layNew_led D.2.2 D.1 h v
  unfold Froz.addTx
  refine (tailTx_led _ _ _ _).trans ?_
  split <;> exact r1
theorem SetD.add {P : Program} {w : World} {D : Froz.SD} {l : List Str} {k : Str} (u : Tok) (d : SetD P w D l) (hk : k ∉ l) : SetD P w (Froz.addTx (hashStr w k) (.str k u) D) (k :: l) where
  ok := Froz.add_ok u d.ok
  pm := by
    have p := (addTx_perm (hashStr w k) (.str k u) D).map keyS
    rw [List.map_append] at p
    refine p.trans ((List.perm_append_singleton _ _).trans ?_)
    exact List.Perm.cons k d.pm
  good := fun e he => by
    rcases List.mem_append.mp ((addTx_perm _ _ D).mem_iff.mp he) with h | h
    · exact d.good e h
    · rw [List.mem_singleton.mp h]; exact ⟨k, u, rfl⟩
  ris := addTx_ris _ _ D d.ris
  led := d.led.imp id fun z => by rw [addTx_led]; exact z
  nd := List.nodup_cons.mpr ⟨hk, d.nd⟩
section
variable {P : Program} {w : World} {A : Around} {E : Value → Shared → Prop} {s : Shared} {a : Addr} {l : List Str} {k : Str} {u : Tok}
/-- a text that is there already -/
theorem add_old {D : Froz.SD} {Q : Bool → Shared → Prop} (ho : s.heap.get? a = some (Froz.sObj "set" D)) (F : Froz.TxOk P w D l) (hk : k ∈ l) (hb : l.length < scanBound) (h : Q false s) : wpAny (model P w) A (setAddHashed a (.str k u) (hashStr w k)) Q E s := by
  obtain ⟨es, ep, t⟩ := D
  have hd : (Froz.sObj "set" (es, ep, t)).data = .set es ep t := rfl
  have hf : t.fits es.size = true := F.fit
  have hel : ElemsOf (strKind P w) es.toList := F.el
  have hsz : es.size = l.length := F.sz
  have hkey : (strKind P w).is k (.str k u) = true := Froz.is_str k u
  unfold setAddHashed setAddHashedIn
  refine wpAny_holding (wpAny_bind (wpAny_setState_of ho hd hf ?_))
  dsimp only
  rw [byScan_of rfl (by omega) hel]
  simp only [↓reduceIte]
  unfold setAddByScan
  refine wpAny_bind ?_
  refine wpAny_bind (wpAny_rule ?_)
  refine wpAny_bind (wpAny_setScan_of (knd := strKind P w) (k := k) hkey ho hd hf hel ?_)
  obtain ⟨e, he, hp⟩ := (F.mem k).mp hk
  cases hr : List.findIdx? (fun e => (strKind P w).is k e.2) es.toList with
  | none =>
    have c := List.findIdx?_eq_none_iff.mp hr e he
    rw [hp] at c
    cases c
  | some j =>
    dsimp only
    exact wpAny_pure (wpAny_pure h)
/-- the texts told so far, without doubles -/
def told (ks : List Str) : List Str := ks.foldl (fun l k => if k ∈ l then l else k :: l) []
theorem told_snoc (ks : List Str) (k : Str) : told (ks ++ [k]) = if k ∈ told ks then told ks else k :: told ks := by
  unfold told
  rw [List.foldl_append] <;> rfl
theorem told_mem : ∀ {ks : List Str} {x : Str}, x ∈ told ks ↔ x ∈ ks := by
  have key : ∀ (ks l : List Str) (x : Str), x ∈ ks.foldl (fun l k => if k ∈ l then l else k :: l) l ↔ x ∈ ks ∨ x ∈ l := by
    intro ks
    induction ks with
    | nil => intro l x; simp
    | cons k r ih =>
      intro l x
      rw [List.foldl_cons, ih]
      by_cases h : k ∈ l
      · rw [if_pos h, List.mem_cons]
        constructor
        · rintro (h | h)
          · exact .inl (.inr h)
          · exact .inr h
        · rintro ((h | h) | h)
          · exact .inr (by rw [h]; assumption)
          · exact .inl h
          · exact .inr h
      · rw [if_neg h, List.mem_cons, List.mem_cons]
        constructor
        · rintro (h | h | h)
          · exact .inl (.inr h)
          · exact .inl (.inl h)
          · exact .inr h
        · rintro ((h | h) | h)
          · exact .inr (.inl h)
          · exact .inl h
          · exact .inr (.inr h)
  intro ks x
  have := key ks [] x
  simpa [told] using this
theorem told_len (ks : List Str) : (told ks).length ≤ ks.length := by
  have key : ∀ (ks l : List Str), (ks.foldl (fun l k => if k ∈ l then l else k :: l) l).length ≤ ks.length + l.length := by
    intro ks
    induction ks with
    | nil => intro l; simp
    | cons k r ih =>
      intro l
      rw [List.foldl_cons]
      refine Nat.le_trans (ih _) ?_
      split
      · rw [List.length_cons]; omega
      · rw [List.length_cons, List.length_cons]; omega
  have := key ks []
  simpa [told] using this
theorem setL_new {h : Heap} {a : Addr} (ho : h.get? a = some { cls := .type "set", dict := none, data := .set #[] 0 (.fresh 0 0 (!w.params.followText "set-order")) }) : SetL P w h a [] :=
  ⟨(#[], 0, .fresh 0 0 (!w.params.followText "set-order")), ho, Froz.TxOk.nil rfl, List.Perm.refl _, (fun e he => by simp at he), List.Pairwise.nil, (by
    show _ ∨ (!w.params.followText "set-order") = true
    cases w.params.followText "set-order"
    · exact .inr rfl
    · exact .inl rfl), List.nodup_nil⟩
theorem setL_add {ks : List Str} {Q : Bool → Shared → Prop} (R : SetL P w s.heap a (told ks)) (hb : ks.length + 1 < scanBound)
    (h : ∀ b h', Heap.SameBut a s.heap h' → SetL P w h' a (told (ks ++ [k])) → Q b { s with heap := h' }) : wpAny (model P w) A (setAddHashed a (.str k u) (hashStr w k)) Q E s := by
  obtain ⟨D, ho, d⟩ := R
  have hl := told_len ks
  rw [told_snoc] at h
  by_cases hk : k ∈ told ks
  · rw [if_pos hk] at h
    exact add_old ho d.ok hk (by omega) (h false s.heap (Heap.SameBut.refl a s.heap) ⟨D, ho, d⟩)
  · rw [if_neg hk] at h
    refine Froz.add_x ho d.ok hk (by omega) (h true _ (Heap.SameBut.update s.heap a _) ⟨_, Froz.get_upd _ ho rfl, d.add u hk⟩)
theorem set_update_strs {I : Addr} {fp wr : List Addr} {G : Array GenState → Array GenState → Prop} {n : Nat} {Pv : Nat → Value → Prop} {St : Nat → Shared → Prop} {R : Result → Shared → Prop}
    (W : WalksS P w A.in1 I fp wr G n Pv St) (S : Addr) (hSf : S ∉ fp) (ks : List Str) (hn : n = ks.length) (hb : ks.length + 1 < scanBound) (hval : ∀ i v, Pv i v → ∃ k t, ks[i]? = some k ∧ v = .str k t) :
    ∀ (k i : Nat) (s : Shared), n - i = k → i ≤ n → St i s → SetL P w s.heap S (told (ks.take i)) →
      (∀ s', Moved (S :: wr) G s s' → SetL P w s'.heap S (told ks) → R (.ok (.ret .none)) s') →
      codeAny (model P w) A (.builtin "set.update.loop" ⟨[.ref S, .ref I], []⟩) R s := by
  have hSw : S ∉ wr := fun h => hSf (W.sub _ h)
  have hsub : ∀ b ∈ wr, b ∈ S :: wr := fun b hb => List.mem_cons_of_mem _ hb
  intro k
  induction k with
  | zero =>
    intro i s hk' hi hst hS hR
    have hin : i = n := by omega
    subst hin
    refine codeAny_builtin F.entry_set_update_loop ?_
    rw [Around.under_plainId F.plain_set_update_loop _]
    show wpAny _ A.in1 (pyNext (.ref I) >>= _) _ _ s
    refine wpAny_bind (W.done s _ _ hst fun s' hm => ?_)
    show wpAny _ A.in1 (ret Value.none) _ _ s'
    rw [List.take_of_length_le (show ks.length ≤ i by omega)] at hS
    exact wpAny_pure (hR s' (hm.mono hsub) (hS.at fun o e => hm.heap S o hSw e))
  | succ k ih =>
    intro i s hk' hi hst hS hR
    have hlt : i < n := by omega
    refine codeAny_builtin F.entry_set_update_loop ?_
    rw [Around.under_plainId F.plain_set_update_loop _]
    show wpAny _ A.in1 (pyNext (.ref I) >>= _) _ _ s
    refine wpAny_bind (W.item i s _ _ hlt hst fun v s' hP hst' hm => ?_)
    obtain ⟨z, t, hz, rfl⟩ := hval i v hP
    have hS' : SetL P w s'.heap S (told (ks.take i)) := hS.at fun o e => hm.heap S o hSw e
    show wpAny _ A.in1 (holding [Value.str z t] (setAdd S (.str z t)) >>= _) _ _ s'
    refine wpAny_bind (wpAny_holding ?_)
    unfold setAdd
    refine wpAny_holding ?_
    refine wpAny_bind (wpAny_pyHash_str ?_)
    refine setL_add (s := { s' with toks := s'.toks + 1 }) hS' (by rw [List.length_take]; omega) fun b h' hsb hS2 => ?_
    have e2 : ks.take (i + 1) = ks.take i ++ [z] := by rw [List.take_add_one, hz] <;> rfl
    rw [← e2] at hS2
    refine wpAny_pure ⟨plainId_quiet F.plain_set_update_loop _, ih (i + 1) _ (by omega) hlt (W.frame _ s' _ _ hst' (Nat.le_succ _) fun b hb o e => ?_) hS2 fun s'' hm'' hS'' => ?_⟩
    · rw [hsb.2 b (fun h : b = S => hSf (by rw [← h]; exact hb))]; exact e
    · refine hR s'' (Moved.trans W.gtrans ((hm.mono hsub).then_heap (Nat.le_succ _) fun b o hb e => ?_) hm'') hS''
      rw [hsb.2 b (fun h : b = S => hb (by rw [h]; exact List.mem_cons_self))]; exact e
set_option maxRecDepth 100000 in
set_option maxHeartbeats 3200000 in
theorem call_set_strs {lp : Addr} {items : Array Value} (ks : List Str) {Q : Value → Shared → Prop} (hh : A.handled = none) (hl : s.heap.IsList lp items) (hit : StrsAre items.toList ks) (hb : ks.length + 1 < scanBound)
    (h : ∀ (h' : Heap) (tk : Nat), SetL P w h' s.heap.objs.size (told ks) → (∀ b o, s.heap.get? b = some o → h'.get? b = some o) → Q (.ref s.heap.objs.size) { s with heap := h', toks := tk }) :
    wpAny (model P w) A (call (.type "set") [.ref lp]) Q E s := by
  have hisz : items.size = ks.length := by
    have q := StrsAre.len_eq hit
    rw [Array.length_toList] at q
    exact q
  obtain ⟨c, tl, hmro⟩ := F.called_set.mro
  have hmade := F.called_set.made
  have hsub := F.called_set.sub
  refine wpAny_call (codeAny_of_tree ?_)
  show wpAny _ _ (callAny (.type "set") _) _ _ _
  refine wpAny_pure ⟨Code.quiet_builtin _ (by decide +kernel), codeAny_builtin F.entry_type_call ?_⟩
  rw [Around.under_plain (weight_type_call_type "set" [.ref lp] []) rfl]
  have h1 := F.called_set.notType
  have h2 := F.called_set.canCreate
  have hct := F.typeCall_set_1 (.ref lp)
  repeat (any_goals (first | assumption | wp_step))

  refine codeAny_mono (code_set_led1 (.ref lp) (E := E) (Q₁ := fun obj s₁ => obj = .ref s.heap.objs.size ∧ s₁ = { s with heap := s.heap.push { cls := .type "set", dict := none, data := .set #[] 0 (.fresh 0 0 (!w.params.followText "set-order")) } }) ⟨rfl, rfl⟩) fun r s₁ hr => ?_
  cases r with
  | error e => exact hr
  | ok fl =>
    cases fl with
    | ret obj =>
      obtain ⟨rfl, rfl⟩ := hr
      have hS : (s.heap.push { cls := .type "set", dict := none, data := .set #[] 0 (.fresh 0 0 (!w.params.followText "set-order")) }).get? s.heap.objs.size = some { cls := .type "set", dict := none, data := .set #[] 0 (.fresh 0 0 (!w.params.followText "set-order")) } := Heap.get?_push_size _ rfl
      have hT : Shared.TypeIs { s with heap := s.heap.push { cls := .type "set", dict := none, data := .set #[] 0 (.fresh 0 0 (!w.params.followText "set-order")) } } (.ref s.heap.objs.size) "set" := ⟨_, hS, rfl⟩
      have hli := F.called_set.init.lookup
      have hbi := F.called_set.init.bind (.ref s.heap.objs.size)
      repeat (any_goals (first | assumption | wp_step))

      refine codeAny_mono (codeAny_call_builtin (R := wants (fun r s₂ => r = .none ∧ ∃ h' tk, s₂ = { s with heap := h', toks := tk } ∧ SetL P w h' s.heap.objs.size (told ks) ∧
          (∀ b o, s.heap.get? b = some o → h'.get? b = some o)) E) F.called_set.init.plain F.entry_set_init (check_set_init_1 hT ?_)) fun r₂ s₂ hr₂ => ?_
      · obtain ⟨ol, hol, hcl, nl, hdl⟩ := hl
        obtain ⟨ocls, odict, odata, oslots⟩ := ol
        simp only at hcl hdl
        subst hcl; subst hdl
        have hol' : (s.heap.push { cls := .type "set", dict := none, data := .set #[] 0 (.fresh 0 0 (!w.params.followText "set-order")) }).get? lp = some { cls := .type "list", dict := odict, data := .seq items nl, slots := oslots } := Heap.get?_push_of_some _ hol
        have hsls := F.sub_list_set
        have hslf := F.sub_list_frozenset
        have hne : (Value.type "list" == Value.type "dict") = false := by decide
        have hl1 : (s.heap.push { cls := .type "set", dict := none, data := .set #[] 0 (.fresh 0 0 (!w.params.followText "set-order")) }).IsList lp items := ⟨_, hol', rfl, nl, rfl⟩
        unfold Builtin.«set.__init__» noKeywords Builtin.Frozenset.updateFrom
        generalize hPI : pyIter = PI
        wp_walk
        subst hPI

        refine wpAny_pyIter_list hl1 ?_
        refine wpAny_bind (wpAny_runValue ?_)
        have hlS : lp < s.heap.objs.size := Heap.lt_size hol
        have hh3 : A.in1.in1.in1.handled = none := by simp [hh]
        have hneI : lp ≠ (s.heap.push { cls := .type "set", dict := none, data := .set #[] 0 (.fresh 0 0 (!w.params.followText "set-order")) }).objs.size := by
          rw [Heap.size_push]; exact Nat.ne_of_lt (Nat.lt_succ_of_lt hlS)
        have hSf : s.heap.objs.size ∉ [(s.heap.push { cls := .type "set", dict := none, data := .set #[] 0 (.fresh 0 0 (!w.params.followText "set-order")) }).objs.size, lp] := by
          rw [Heap.size_push]; simp only [List.mem_cons, List.mem_singleton, List.not_mem_nil, or_false, not_or]
          exact ⟨Nat.ne_of_lt (Nat.lt_succ_self _), Nat.ne_of_gt hlS⟩
        have hval : ∀ (i : Nat) (v : Value), items[i]? = some v → ∃ k t, ks[i]? = some k ∧ v = .str k t := fun i v hv => by
          have hi : i < ks.length := by rw [← hisz]; exact (Array.getElem?_eq_some_iff.mp hv).1
          obtain ⟨t, e⟩ := SS.strs_at hit i v (by rw [Array.getElem?_toList]; exact hv)
          refine ⟨ks[i], t, List.getElem?_eq_getElem hi, ?_⟩
          rw [e, List.getD_eq_getElem?_getD, List.getElem?_eq_getElem hi] <;> rfl
        refine set_update_strs ((Walks.list hh3 _ lp hneI items).toS) s.heap.objs.size
          hSf ks hisz hb hval (items.size - 0) 0 _ (by omega) (Nat.zero_le _)
          ⟨⟨_, Heap.get?_push_size _ rfl, rfl, rfl⟩, (hl1.push _)⟩ ?hS0 ?hR
        case hS0 =>
          have hget : ((s.heap.push { cls := .type "set", dict := none, data := .set #[] 0 (.fresh 0 0 (!w.params.followText "set-order")) }).push { cls := .type "list_iterator", data := .fields #[.ref lp, .int 0 0] }).get? s.heap.objs.size
              = some { cls := .type "set", dict := none, data := .set #[] 0 (.fresh 0 0 (!w.params.followText "set-order")) } := Heap.get?_push_of_some _ hS
          exact setL_new hget
        case hR =>
          intro s' hm hS'
          obtain ⟨h', g2, d', tk', os'⟩ := s'
          have eg : g2 = s.gens := hm.gens
          have ed : d' = s.drawn := hm.drawn
          have eo : os' = s.os := hm.os
          subst eg; subst ed; subst eo
          show wpAny _ _ _ _ _ _
          refine wpAny_pure ?_
          show wpAny _ _ (ret Value.none) _ _ _
          refine wpAny_pure ⟨rfl, h', tk', rfl, hS', fun b o e => ?_⟩
          have hb0 : b < s.heap.objs.size := Heap.lt_size e
          have hb1 : b ≠ s.heap.objs.size := Nat.ne_of_lt hb0
          have hb2 : b ≠ (s.heap.push { cls := .type "set", dict := none, data := .set #[] 0 (.fresh 0 0 (!w.params.followText "set-order")) }).objs.size := by
            rw [Heap.size_push]; exact Nat.ne_of_lt (Nat.lt_succ_of_lt hb0)
          exact hm.heap b o (by simp only [List.mem_cons, List.mem_singleton, List.not_mem_nil, or_false, not_or]; exact ⟨hb1, hb2⟩) (Heap.get?_push_of_some _ (Heap.get?_push_of_some _ e))
      · cases r₂ with
        | error e => exact hr₂
        | ok fl₂ =>
          cases fl₂ with
          | ret r =>
            obtain ⟨rfl, h', tk, rfl, hS', hk'⟩ := hr₂
            repeat (any_goals (first | assumption | wp_step))
            exact h _ _ hS' hk'
          | _ => exact hr₂.elim
    | _ => exact hr.elim
theorem strs_vals : ∀ (vs : List Value), (∀ v ∈ vs, ∃ k tk, v = Value.str k tk) → StrsAre vs (vs.map fun v => keyS (0, v))
  | [], _ => .nil
  | v :: vs, h => by
    obtain ⟨k, tk, rfl⟩ := h v List.mem_cons_self
    exact .cons k tk (strs_vals vs fun u hu => h u (List.mem_cons_of_mem _ hu))
end
/-- the set of texts at a (membership alone) -/
def SetLO (P : Program) (w : World) (a : Addr) (l : List Str) : HO := .ext fun h => SetL P w h a l
def rSetL (K : PySem.W.Frag) (P : Program) (w : World) : List V → Hp → VK → Prop := fun xs H Q => ∃ (lp : Addr) (ks : List Str), xs = [.ref lp] ∧ SqL K H lp (ks.map V.str) ∧ ks.length < 60 ∧ ∀ a, H a = none → Q (.ref a) (upd H a (SetLO P w a (told ks)))
def rSortedL (P : Program) (w : World) : List V → Hp → VK → Prop := fun xs H Q => ∃ (a : Addr) (l : List Str), xs = [.ref a] ∧ H a = some (SetLO P w a l) ∧ l.length < 64 ∧ ∀ ys p, ys.Perm l → sortedS ys = true → l.Nodup → H p = none → Q (.ref p) (upd H p (.lst (ys.map V.str)))
section
variable {X : Cx}
theorem setLO_new {w : World} {P : Program} {H : Hp} {h : Heap} {a : Addr} {l : List Str} (R : SetL P w h a l) : ObjOk P w H h a (SetLO P w a l) := by
  have ⟨D, ho, _⟩ := R
  exact ⟨R, ⟨_, ho⟩, fun h1 h2 p k => SetL.at p k⟩
theorem call_setL (hc : X.calm = true) : CallR X (.type "set") (rSetL X.K X.prog X.w) := by
  intro pins s σ H xs us Q I r h
  obtain ⟨lp, ks, rfl, hl, hf, q⟩ := h
  rw [Vals.ref1 r]
  obtain ⟨its, rv, pl, hz⟩ := I.list hl
  have hn : H s.heap.objs.size = none := I.hok.fresh (Nat.le_refl _)
  refine call_set_strs (P := X.prog) (w := X.w) ks (I.ok.hd hc) pl.isList (by simpa using rv.strs) (by unfold scanBound; omega) fun h' tk R k => ?_
  exact ⟨.ref s.heap.objs.size, upd H s.heap.objs.size (SetLO X.prog X.w s.heap.objs.size (told ks)), I.laid (t' := tk) k (Nat.le_refl _) (setLO_new R), rfl, q _ hn⟩
theorem call_sortedL (hc : X.calm = true) : CallR X (.builtin "sorted") (rSortedL X.prog X.w) := by
  intro pins s σ H vs us Q I r h
  obtain ⟨a, l, rfl, ha, h64, q⟩ := h
  have R : SetL X.prog X.w s.heap a l := (I.hok a _ ha).1
  obtain ⟨⟨es, ep, t⟩, ho, d⟩ := R
  rw [Vals.ref1 r]
  have hsz : es.size = l.length := d.ok.sz
  refine Calls.call_function_entry kind_sorted plain_sorted entry_sorted (args_sorted1 _) ?_
  unfold Builtin.«sorted»
  refine wpAny_bind (m := checkCount "sorted" 1 1 _) (wpAny_pure ?_)
  refine wpAny_bind (collect_set (A := X.A.in1) (I.ok.hd hc) ⟨_, ho, rfl, rfl⟩ d.ok.fit (by show es.size < scanBound; unfold scanBound; omega) d.ris d.led fun s1 vs k1 hz g1 o1 pm => ?_)
  have hvl : vs.length = l.length := by rw [pm.length_eq, List.length_map, Array.length_toList]; exact hsz
  have hS : StrsAre vs (vs.map fun v => keyS (0, v)) := strs_vals vs fun v hv => by
    obtain ⟨e, he, q⟩ := List.mem_map.mp (pm.mem_iff.mp hv)
    obtain ⟨k, tk, h1⟩ := d.good e he
    exact ⟨k, tk, by rw [← q]; exact h1⟩
  have pk : (vs.map fun v => keyS (0, v)).Perm l := by
    have q := pm.map fun v => keyS (0, v)
    rw [List.map_map] at q
    exact q.trans d.pm
  have I1 : Inv X pins σ H s1 := by
    have e : s1 = { s with heap := s1.heap, gens := s1.gens, drawn := s1.drawn, toks := s1.toks } := by
      cases s1
      cases s
      cases o1
      rfl
    rw [e]
    exact I.call (ch := []) (Un.kept k1) (I.hok.kept k1) (by rw [g1]; exact I.bare) (fun _ z => nomatch z)
  refine wpAny_bind (wpAny_newList ?_ (by rw [hvl, sizeLine_eq]; omega))
  have hoL : (s1.heap.push (seqObj "list" vs.toArray 0)).get? s1.heap.objs.size = some (seqObj "list" vs.toArray 0) := Heap.get?_push_size _ rfl
  refine wpAny_bind (wpAny_holding (wpAny_call_entry PyProof.Rows.slot_list_sort ⟨_, hoL, rfl⟩ PyProof.Rows.entry_list_sort
    (list_sort_treeK strKind_oneLt (s := { s1 with heap := s1.heap.push (seqObj "list" vs.toArray 0) }) hoL hS.keysOf (fun v₁ v₂ rest e => keyKind_strs (by rw [← e]; exact hS)) (by rw [hvl]; exact h64) fun st' hp hs => ⟨_, rfl, ?_⟩)
    (PyProof.Rows.args_list_sort _)))
  obtain ⟨ys, g1', g2, g3⟩ := sorted_out_str hS hp hs
  obtain ⟨e', he'⟩ := PyProof.Rows.sortedHeap_at (vs := vs) (out := (arrOf st').map (·.2)) hoL
  have pl : ys.Perm l := g2.trans pk
  have hlen : (ys.map V.str).length ≤ sizeLine := by
    rw [List.length_map, pl.length_eq]
    exact Nat.le_trans (Nat.le_of_lt h64) (by decide)
  refine wpAny_pure ⟨_, rfl, .ref s1.heap.objs.size, upd H s1.heap.objs.size (.lst (ys.map V.str)), I1.laid (t' := s1.toks) (fun b u e => ?_) (Nat.le_refl _)
    (show ObjOk X.prog X.w _ _ _ (.lst (ys.map V.str)) from ⟨hlen, ((arrOf st').map (·.2)).toList, e', vals_of_strs g1', by rw [Array.toArray_toList]; exact he'⟩), rfl, q ys _ pl g3 d.nd (I1.hok.fresh (Nat.le_refl _))⟩
  have hb : b < s1.heap.objs.size := Heap.lt_size e
  rw [PyProof.Rows.sortedHeap_old (Nat.ne_of_lt hb) (by rw [size_push']; exact Nat.lt_succ_of_lt hb)]
  exact Heap.get?_push_of_some _ e
end
end Tp
end
section
set_option maxRecDepth 100000
set_option maxHeartbeats 4000000
/-! == and != where a dict stands on one side or within: what the library leaves open. -/
namespace Tp
open PySem PySem.SeqAt PySem.Spec
open AutoSeq1 (wpAny_loadPart')
open MeetsSeq MeetsSeq2 MeetsSeq3 SeqRoads2
section
variable {prog : Program} {w : World} {A : Around} {E : Value → Shared → Prop} {s : Shared} {d : Addr} {y : Value} {T : String} {Q : Value → Shared → Prop}
/-- a dict object -/
def DObj (h : Heap) (d : Addr) : Prop := ∃ o es ep, h.get? d = some o ∧ o.cls = .type "dict" ∧ o.data = .dict es ep
theorem DObj.type (h : DObj s.heap d) : s.TypeIs (.ref d) "dict" := let ⟨o, _, _, e, c, _⟩ := h; ⟨o, e, c⟩
theorem dict_eq_declines (hd : DObj s.heap d) (hy : s.TypeIs y T) (hs : isSubtype (.type T) (.type "dict") = pure false) (h : Q .notImplemented s) : wpAny (model prog w) A (call (.builtin "dict.__eq__") [.ref d, y]) Q E s := by
  refine wpAny_call_entry PySem.F.slot_dict_eq hd.type PySem.F.entry_dict_eq ?_ (PySem.F.args_dict_eq_2 _ _)
  show wpAny _ _ (Builtin.Dict.dictSlotArgs "__eq__" ⟨[.ref d, y], []⟩ >>= _) _ _ s
  refine wpAny_bind ?_
  unfold Builtin.Dict.dictSlotArgs
  refine wpAny_bind (wpAny_notOrdered_dict hd.type ?_)
  show wpAny _ _ (pure (Value.ref d, y)) _ _ s
  refine wpAny_pure ?_
  refine wpAny_bind (wpAny_isInstance (T := T) hy hs ?_)
  simp only [Bool.not_false, if_true]
  exact wpAny_bind (wpAny_rule (wpAny_bind (wpAny_pure (wpAny_pure ⟨_, rfl, h⟩))))
theorem dict_ne_declines (hd : DObj s.heap d) (hy : s.TypeIs y T) (hs : isSubtype (.type T) (.type "dict") = pure false) (h : Q .notImplemented s) : wpAny (model prog w) A (call (.builtin "dict.__ne__") [.ref d, y]) Q E s := by
  refine wpAny_call_entry PySem.F.slot_dict_ne hd.type PySem.F.entry_dict_ne ?_ (PySem.F.args_dict_ne_2 _ _)
  show wpAny _ _ (Builtin.Dict.dictSlotArgs "__ne__" ⟨[.ref d, y], []⟩ >>= _) _ _ s
  refine wpAny_bind ?_
  unfold Builtin.Dict.dictSlotArgs
  refine wpAny_bind (wpAny_notOrdered_dict hd.type ?_)
  show wpAny _ _ (pure (Value.ref d, y)) _ _ s
  refine wpAny_pure ?_
  refine wpAny_bind (wpAny_isInstance (T := T) hy hs ?_)
  simp only [Bool.not_false, if_true]
  exact wpAny_bind (wpAny_rule (wpAny_bind (wpAny_pure (wpAny_pure ⟨_, rfl, h⟩))))
theorem int_eq_dict (b : Int) (u : Tok) (d : Addr) (c : Value) (es : Array DictEntry) (ep : Nat) (dd : Option Addr) (sl : Array (Option Value)) :
    Meets (Builtin.«int.__eq__» ⟨[.int b u, .ref d], []⟩) (fun _ R s => s.heap.get? d = some { cls := c, dict := dd, data := .dict es ep, slots := sl } ∧ R (.ok (.ret .notImplemented)) s) :=
  .of_wp fun prog w A R s h => by obtain ⟨hp, g, d, tk, os⟩ := s; obtain ⟨hl, h⟩ := h; wp_walk using wpAny_loadPart' hl, wpAny_load hl; exact ⟨_, rfl, h⟩
theorem int_ne_dict (b : Int) (u : Tok) (d : Addr) (c : Value) (es : Array DictEntry) (ep : Nat) (dd : Option Addr) (sl : Array (Option Value)) :
    Meets (Builtin.«int.__ne__» ⟨[.int b u, .ref d], []⟩) (fun _ R s => s.heap.get? d = some { cls := c, dict := dd, data := .dict es ep, slots := sl } ∧ R (.ok (.ret .notImplemented)) s) :=
  .of_wp fun prog w A R s h => by obtain ⟨hp, g, d, tk, os⟩ := s; obtain ⟨hl, h⟩ := h; wp_walk using wpAny_loadPart' hl, wpAny_load hl; exact ⟨_, rfl, h⟩
theorem str_eq_dict (b : Str) (u : Tok) (d : Addr) (c : Value) (es : Array DictEntry) (ep : Nat) (dd : Option Addr) (sl : Array (Option Value)) :
    Meets (Builtin.«str.__eq__» ⟨[.str b u, .ref d], []⟩) (fun _ R s => s.heap.get? d = some { cls := c, dict := dd, data := .dict es ep, slots := sl } ∧ R (.ok (.ret .notImplemented)) s) :=
  .of_wp fun prog w A R s h => by obtain ⟨hp, g, d, tk, os⟩ := s; obtain ⟨hl, h⟩ := h; wp_walk using wpAny_loadPart' hl, wpAny_load hl; exact ⟨_, rfl, h⟩
theorem str_ne_dict (b : Str) (u : Tok) (d : Addr) (c : Value) (es : Array DictEntry) (ep : Nat) (dd : Option Addr) (sl : Array (Option Value)) :
    Meets (Builtin.«str.__ne__» ⟨[.str b u, .ref d], []⟩) (fun _ R s => s.heap.get? d = some { cls := c, dict := dd, data := .dict es ep, slots := sl } ∧ R (.ok (.ret .notImplemented)) s) :=
  .of_wp fun prog w A R s h => by obtain ⟨hp, g, d, tk, os⟩ := s; obtain ⟨hl, h⟩ := h; wp_walk using wpAny_loadPart' hl, wpAny_load hl; exact ⟨_, rfl, h⟩
theorem list_eq_dict (l d : Addr) (items : Array Value) (n : Nat) (dd dd2 : Option Addr) (sl sl2 : Array (Option Value)) (es : Array DictEntry) (ep : Nat) :
    Meets (Builtin.«list.__eq__» ⟨[.ref l, .ref d], []⟩) (fun _ R s => s.heap.get? l = some { cls := .type "list", dict := dd, data := .seq items n, slots := sl } ∧ s.heap.get? d = some { cls := .type "dict", dict := dd2, data := .dict es ep, slots := sl2 } ∧ R (.ok (.ret .notImplemented)) s) :=
  .of_wp fun prog w A R s h => by obtain ⟨hp, g, d, tk, os⟩ := s; obtain ⟨hl, hb, h⟩ := h; have f1 := F.sub_dict_list; wp_walk using wpAny_loadPart' hl, wpAny_loadPart' hb, wpAny_load hb; exact ⟨_, rfl, h⟩
theorem list_ne_dict (l d : Addr) (items : Array Value) (n : Nat) (dd dd2 : Option Addr) (sl sl2 : Array (Option Value)) (es : Array DictEntry) (ep : Nat) :
    Meets (Builtin.«list.__ne__» ⟨[.ref l, .ref d], []⟩) (fun _ R s => s.heap.get? l = some { cls := .type "list", dict := dd, data := .seq items n, slots := sl } ∧ s.heap.get? d = some { cls := .type "dict", dict := dd2, data := .dict es ep, slots := sl2 } ∧ R (.ok (.ret .notImplemented)) s) :=
  .of_wp fun prog w A R s h => by obtain ⟨hp, g, d, tk, os⟩ := s; obtain ⟨hl, hb, h⟩ := h; have f1 := F.sub_dict_list; wp_walk using wpAny_loadPart' hl, wpAny_loadPart' hb, wpAny_load hb; exact ⟨_, rfl, h⟩
end
end Tp
end
section
set_option maxRecDepth 100000
set_option maxHeartbeats 4000000
namespace Tp
open PySem PySem.SeqAt PySem.Spec
open MeetsSeq MeetsSeq2 MeetsSeq3 SeqRoads2
section
variable {A : Around} {s : Shared} {d : Addr}
theorem eq_dict_none (hd : DObj s.heap d) (hu : A.units < cLine) : RcAt A s (.ref d) .none false := fun prog w E Q h => by
  obtain ⟨⟨c, dd, data, sl⟩, es, ep, ho, hc, hdat⟩ := id hd
  simp only at hc hdat
  subst hdat
  exact rc_eq_decline_or (k := false) hd.type rfl (by decide) F.sub_NoneType_dict PySem.F.slot_dict_eq F.slot_NoneType_eq_refl
    (fun _ hq => dict_eq_declines hd rfl F.sub_NoneType_dict hq)
    (fun _ hq => call_gives F.slot_NoneType_eq_refl rfl F.entry_NoneType_eq (F.args_NoneType_eq_2 _ _) (NoneType___eq___none_ref_0 d) hq)
    (fun _ hq => wpAny_of_eq (rfl : isSame (.ref d) .none = pure false) hq) (.inr hu) h
theorem eq_none_dict (hd : DObj s.heap d) (hu : A.units < cLine) : RcAt A s .none (.ref d) false := fun prog w E Q h => by
  obtain ⟨⟨c, dd, data, sl⟩, es, ep, ho, hc, hdat⟩ := id hd
  simp only at hc hdat
  subst hdat
  exact rc_eq_decline_or (k := false) rfl hd.type (by decide) F.sub_dict_NoneType F.slot_NoneType_eq PySem.F.slot_dict_eq_refl
    (fun _ hq => call_gives F.slot_NoneType_eq rfl F.entry_NoneType_eq (F.args_NoneType_eq_2 _ _) (NoneType___eq___none_ref_0 d) hq)
    (fun _ hq => dict_eq_declines hd rfl F.sub_NoneType_dict hq)
    (fun _ hq => wpAny_of_eq (rfl : isSame .none (.ref d) = pure false) hq) (.inr hu) h
theorem eq_dict_int (b : Int) (u : Tok) (hd : DObj s.heap d) (hu : A.units < cLine) : RcAt A s (.ref d) (.int b u) false := fun prog w E Q h => by
  obtain ⟨⟨c, dd, data, sl⟩, es, ep, ho, hc, hdat⟩ := id hd
  simp only at hc hdat
  subst hdat
  exact rc_eq_decline_or (k := false) hd.type (typeIs_int s b u) (by decide) F.sub_int_dict PySem.F.slot_dict_eq F.slot_int_eq_refl
    (fun _ hq => dict_eq_declines hd (typeIs_int s b u) F.sub_int_dict hq)
    (fun _ hq => call_meets F.slot_int_eq_refl (typeIs_int s b u) F.entry_int_eq (F.args_int_eq_2 _ _) (int_eq_dict b u d c es ep dd sl) ⟨ho, hq⟩)
    (fun _ hq => wpAny_of_eq (rfl : isSame (.ref d) (.int b u) = pure false) hq) (.inr hu) h
theorem eq_int_dict (b : Int) (u : Tok) (hd : DObj s.heap d) (hu : A.units < cLine) : RcAt A s (.int b u) (.ref d) false := fun prog w E Q h => by
  obtain ⟨⟨c, dd, data, sl⟩, es, ep, ho, hc, hdat⟩ := id hd
  simp only at hc hdat
  subst hdat
  exact rc_eq_decline_or (k := false) (typeIs_int s b u) hd.type (by decide) F.sub_dict_int F.slot_int_eq PySem.F.slot_dict_eq_refl
    (fun _ hq => call_meets F.slot_int_eq (typeIs_int s b u) F.entry_int_eq (F.args_int_eq_2 _ _) (int_eq_dict b u d c es ep dd sl) ⟨ho, hq⟩)
    (fun _ hq => dict_eq_declines hd (typeIs_int s b u) F.sub_int_dict hq)
    (fun _ hq => wpAny_of_eq (rfl : isSame (.int b u) (.ref d) = pure false) hq) (.inr hu) h
theorem eq_dict_str (b : Str) (u : Tok) (hd : DObj s.heap d) (hu : A.units < cLine) : RcAt A s (.ref d) (.str b u) false := fun prog w E Q h => by
  obtain ⟨⟨c, dd, data, sl⟩, es, ep, ho, hc, hdat⟩ := id hd
  simp only at hc hdat
  subst hdat
  exact rc_eq_decline_or (k := false) hd.type (typeIs_str s b u) (by decide) F.sub_str_dict PySem.F.slot_dict_eq F.slot_str_eq_refl
    (fun _ hq => dict_eq_declines hd (typeIs_str s b u) F.sub_str_dict hq)
    (fun _ hq => call_meets F.slot_str_eq_refl (typeIs_str s b u) F.entry_str_eq (F.args_str_eq_2 _ _) (str_eq_dict b u d c es ep dd sl) ⟨ho, hq⟩)
    (fun _ hq => wpAny_of_eq (rfl : isSame (.ref d) (.str b u) = pure false) hq) (.inr hu) h
theorem eq_str_dict (b : Str) (u : Tok) (hd : DObj s.heap d) (hu : A.units < cLine) : RcAt A s (.str b u) (.ref d) false := fun prog w E Q h => by
  obtain ⟨⟨c, dd, data, sl⟩, es, ep, ho, hc, hdat⟩ := id hd
  simp only at hc hdat
  subst hdat
  exact rc_eq_decline_or (k := false) (typeIs_str s b u) hd.type (by decide) F.sub_dict_str F.slot_str_eq PySem.F.slot_dict_eq_refl
    (fun _ hq => call_meets F.slot_str_eq (typeIs_str s b u) F.entry_str_eq (F.args_str_eq_2 _ _) (str_eq_dict b u d c es ep dd sl) ⟨ho, hq⟩)
    (fun _ hq => dict_eq_declines hd (typeIs_str s b u) F.sub_str_dict hq)
    (fun _ hq => wpAny_of_eq (rfl : isSame (.str b u) (.ref d) = pure false) hq) (.inr hu) h
theorem eq_dict_list {l : Addr} {items : Array Value} (hd : DObj s.heap d) (hl : s.heap.IsList l items) (hu : A.units < cLine) : RcAt A s (.ref d) (.ref l) false := fun prog w E Q h => by
  obtain ⟨⟨c, dd, data, sl⟩, es, ep, ho, hc, hdat⟩ := id hd
  obtain ⟨⟨c2, dd2, data2, sl2⟩, ho2, hc2, n, hd2⟩ := id hl
  simp only at hc hdat hc2 hd2
  subst hc hdat hc2 hd2
  have ne : d ≠ l := fun e => by rw [e, ho2] at ho; have z := congrArg Obj.data (Option.some.inj ho); cases z
  exact rc_eq_decline_or (k := false) hd.type ⟨_, ho2, rfl⟩ (by decide) F.sub_list_dict PySem.F.slot_dict_eq F.slot_list_eq_refl
    (fun _ hq => dict_eq_declines hd ⟨_, ho2, rfl⟩ F.sub_list_dict hq)
    (fun _ hq => call_meets F.slot_list_eq_refl ⟨_, ho2, rfl⟩ F.entry_list_eq (F.args_list_eq_2 _ _) (list_eq_dict l d items n dd2 dd sl2 sl es ep) ⟨ho2, ho, hq⟩)
    (fun _ hq => wpAny_isSame_ref_other' ne ho ho2 (by intro x; injection x with x; exact absurd x (by decide)) hq) (.inr hu) h
theorem eq_list_dict {l : Addr} {items : Array Value} (hd : DObj s.heap d) (hl : s.heap.IsList l items) (hu : A.units < cLine) : RcAt A s (.ref l) (.ref d) false := fun prog w E Q h => by
  obtain ⟨⟨c, dd, data, sl⟩, es, ep, ho, hc, hdat⟩ := id hd
  obtain ⟨⟨c2, dd2, data2, sl2⟩, ho2, hc2, n, hd2⟩ := id hl
  simp only at hc hdat hc2 hd2
  subst hc hdat hc2 hd2
  have ne : l ≠ d := fun e => by rw [← e, ho2] at ho; have z := congrArg Obj.data (Option.some.inj ho); cases z
  exact rc_eq_decline_or (k := false) ⟨_, ho2, rfl⟩ hd.type (by decide) F.sub_dict_list F.slot_list_eq PySem.F.slot_dict_eq_refl
    (fun _ hq => call_meets F.slot_list_eq ⟨_, ho2, rfl⟩ F.entry_list_eq (F.args_list_eq_2 _ _) (list_eq_dict l d items n dd2 dd sl2 sl es ep) ⟨ho2, ho, hq⟩)
    (fun _ hq => dict_eq_declines hd ⟨_, ho2, rfl⟩ F.sub_list_dict hq)
    (fun _ hq => wpAny_isSame_ref_other' ne ho2 ho (by intro x; injection x with x; exact absurd x (by decide)) hq) (.inr hu) h
theorem ne_dict_none (hd : DObj s.heap d) (hu : A.units < cLine) : RcNeAt A s (.ref d) .none true := fun prog w E Q h => by
  obtain ⟨⟨c, dd, data, sl⟩, es, ep, ho, hc, hdat⟩ := id hd
  simp only at hc hdat
  subst hdat
  exact rc_ne_decline_or (k := false) hd.type rfl (by decide) F.sub_NoneType_dict PySem.F.slot_dict_ne F.slot_NoneType_ne_refl
    (fun _ hq => dict_ne_declines hd rfl F.sub_NoneType_dict hq)
    (fun _ hq => call_gives F.slot_NoneType_ne_refl rfl F.entry_NoneType_ne (F.args_NoneType_ne_2 _ _) (NoneType___ne___none_ref_0 d) hq)
    (fun _ hq => wpAny_of_eq (rfl : isSame (.ref d) .none = pure false) hq) (.inr hu) h
theorem ne_none_dict (hd : DObj s.heap d) (hu : A.units < cLine) : RcNeAt A s .none (.ref d) true := fun prog w E Q h => by
  obtain ⟨⟨c, dd, data, sl⟩, es, ep, ho, hc, hdat⟩ := id hd
  simp only at hc hdat
  subst hdat
  exact rc_ne_decline_or (k := false) rfl hd.type (by decide) F.sub_dict_NoneType F.slot_NoneType_ne PySem.F.slot_dict_ne_refl
    (fun _ hq => call_gives F.slot_NoneType_ne rfl F.entry_NoneType_ne (F.args_NoneType_ne_2 _ _) (NoneType___ne___none_ref_0 d) hq)
    (fun _ hq => dict_ne_declines hd rfl F.sub_NoneType_dict hq)
    (fun _ hq => wpAny_of_eq (rfl : isSame .none (.ref d) = pure false) hq) (.inr hu) h
theorem ne_dict_int (b : Int) (u : Tok) (hd : DObj s.heap d) (hu : A.units < cLine) : RcNeAt A s (.ref d) (.int b u) true := fun prog w E Q h => by
  obtain ⟨⟨c, dd, data, sl⟩, es, ep, ho, hc, hdat⟩ := id hd
  simp only at hc hdat
  subst hdat
  exact rc_ne_decline_or (k := false) hd.type (typeIs_int s b u) (by decide) F.sub_int_dict PySem.F.slot_dict_ne F.slot_int_ne_refl
    (fun _ hq => dict_ne_declines hd (typeIs_int s b u) F.sub_int_dict hq)
    (fun _ hq => call_meets F.slot_int_ne_refl (typeIs_int s b u) F.entry_int_ne (F.args_int_ne_2 _ _) (int_ne_dict b u d c es ep dd sl) ⟨ho, hq⟩)
    (fun _ hq => wpAny_of_eq (rfl : isSame (.ref d) (.int b u) = pure false) hq) (.inr hu) h
theorem ne_int_dict (b : Int) (u : Tok) (hd : DObj s.heap d) (hu : A.units < cLine) : RcNeAt A s (.int b u) (.ref d) true := fun prog w E Q h => by
  obtain ⟨⟨c, dd, data, sl⟩, es, ep, ho, hc, hdat⟩ := id hd
  simp only at hc hdat
  subst hdat
  exact rc_ne_decline_or (k := false) (typeIs_int s b u) hd.type (by decide) F.sub_dict_int F.slot_int_ne PySem.F.slot_dict_ne_refl
    (fun _ hq => call_meets F.slot_int_ne (typeIs_int s b u) F.entry_int_ne (F.args_int_ne_2 _ _) (int_ne_dict b u d c es ep dd sl) ⟨ho, hq⟩)
    (fun _ hq => dict_ne_declines hd (typeIs_int s b u) F.sub_int_dict hq)
    (fun _ hq => wpAny_of_eq (rfl : isSame (.int b u) (.ref d) = pure false) hq) (.inr hu) h
theorem ne_dict_str (b : Str) (u : Tok) (hd : DObj s.heap d) (hu : A.units < cLine) : RcNeAt A s (.ref d) (.str b u) true := fun prog w E Q h => by
  obtain ⟨⟨c, dd, data, sl⟩, es, ep, ho, hc, hdat⟩ := id hd
  simp only at hc hdat
  subst hdat
  exact rc_ne_decline_or (k := false) hd.type (typeIs_str s b u) (by decide) F.sub_str_dict PySem.F.slot_dict_ne F.slot_str_ne_refl
    (fun _ hq => dict_ne_declines hd (typeIs_str s b u) F.sub_str_dict hq)
    (fun _ hq => call_meets F.slot_str_ne_refl (typeIs_str s b u) F.entry_str_ne (F.args_str_ne_2 _ _) (str_ne_dict b u d c es ep dd sl) ⟨ho, hq⟩)
    (fun _ hq => wpAny_of_eq (rfl : isSame (.ref d) (.str b u) = pure false) hq) (.inr hu) h
theorem ne_str_dict (b : Str) (u : Tok) (hd : DObj s.heap d) (hu : A.units < cLine) : RcNeAt A s (.str b u) (.ref d) true := fun prog w E Q h => by
  obtain ⟨⟨c, dd, data, sl⟩, es, ep, ho, hc, hdat⟩ := id hd
  simp only at hc hdat
  subst hdat
  exact rc_ne_decline_or (k := false) (typeIs_str s b u) hd.type (by decide) F.sub_dict_str F.slot_str_ne PySem.F.slot_dict_ne_refl
    (fun _ hq => call_meets F.slot_str_ne (typeIs_str s b u) F.entry_str_ne (F.args_str_ne_2 _ _) (str_ne_dict b u d c es ep dd sl) ⟨ho, hq⟩)
    (fun _ hq => dict_ne_declines hd (typeIs_str s b u) F.sub_str_dict hq)
    (fun _ hq => wpAny_of_eq (rfl : isSame (.str b u) (.ref d) = pure false) hq) (.inr hu) h
theorem ne_dict_list {l : Addr} {items : Array Value} (hd : DObj s.heap d) (hl : s.heap.IsList l items) (hu : A.units < cLine) : RcNeAt A s (.ref d) (.ref l) true := fun prog w E Q h => by
  obtain ⟨⟨c, dd, data, sl⟩, es, ep, ho, hc, hdat⟩ := id hd
  obtain ⟨⟨c2, dd2, data2, sl2⟩, ho2, hc2, n, hd2⟩ := id hl
  simp only at hc hdat hc2 hd2
  subst hc hdat hc2 hd2
  have ne : d ≠ l := fun e => by rw [e, ho2] at ho; have z := congrArg Obj.data (Option.some.inj ho); cases z
  exact rc_ne_decline_or (k := false) hd.type ⟨_, ho2, rfl⟩ (by decide) F.sub_list_dict PySem.F.slot_dict_ne F.slot_list_ne_refl
    (fun _ hq => dict_ne_declines hd ⟨_, ho2, rfl⟩ F.sub_list_dict hq)
    (fun _ hq => call_meets F.slot_list_ne_refl ⟨_, ho2, rfl⟩ F.entry_list_ne (F.args_list_ne_2 _ _) (list_ne_dict l d items n dd2 dd sl2 sl es ep) ⟨ho2, ho, hq⟩)
    (fun _ hq => wpAny_isSame_ref_other' ne ho ho2 (by intro x; injection x with x; exact absurd x (by decide)) hq) (.inr hu) h
theorem ne_list_dict {l : Addr} {items : Array Value} (hd : DObj s.heap d) (hl : s.heap.IsList l items) (hu : A.units < cLine) : RcNeAt A s (.ref l) (.ref d) true := fun prog w E Q h => by
  obtain ⟨⟨c, dd, data, sl⟩, es, ep, ho, hc, hdat⟩ := id hd
  obtain ⟨⟨c2, dd2, data2, sl2⟩, ho2, hc2, n, hd2⟩ := id hl
  simp only at hc hdat hc2 hd2
  subst hc hdat hc2 hd2
  have ne : l ≠ d := fun e => by rw [← e, ho2] at ho; have z := congrArg Obj.data (Option.some.inj ho); cases z
  exact rc_ne_decline_or (k := false) ⟨_, ho2, rfl⟩ hd.type (by decide) F.sub_dict_list F.slot_list_ne PySem.F.slot_dict_ne_refl
    (fun _ hq => call_meets F.slot_list_ne ⟨_, ho2, rfl⟩ F.entry_list_ne (F.args_list_ne_2 _ _) (list_ne_dict l d items n dd2 dd sl2 sl es ep) ⟨ho2, ho, hq⟩)
    (fun _ hq => dict_ne_declines hd ⟨_, ho2, rfl⟩ F.sub_list_dict hq)
    (fun _ hq => wpAny_isSame_ref_other' ne ho2 ho (by intro x; injection x with x; exact absurd x (by decide)) hq) (.inr hu) h
theorem at_dict_none (hd : DObj s.heap d) (hu : A.units < cLine) : EqAt A s (.ref d) .none false := fun prog w E Q h => by
  unfold eqBool
  refine wpAny_holding ?_
  refine wpAny_ite_split (fun hab => absurd (eq_of_beq hab) nofun) (fun _ => ?_)
  exact wpAny_bind (eq_dict_none hd hu prog w E _ (wpAny_truthy_bool h))
theorem at_none_dict (hd : DObj s.heap d) (hu : A.units < cLine) : EqAt A s .none (.ref d) false := fun prog w E Q h => by
  unfold eqBool
  refine wpAny_holding ?_
  refine wpAny_ite_split (fun hab => absurd (eq_of_beq hab) nofun) (fun _ => ?_)
  exact wpAny_bind (eq_none_dict hd hu prog w E _ (wpAny_truthy_bool h))
theorem at_dict_int (b : Int) (u : Tok) (hd : DObj s.heap d) (hu : A.units < cLine) : EqAt A s (.ref d) (.int b u) false := fun prog w E Q h => by
  unfold eqBool
  refine wpAny_holding ?_
  refine wpAny_ite_split (fun hab => absurd (eq_of_beq hab) nofun) (fun _ => ?_)
  exact wpAny_bind (eq_dict_int b u hd hu prog w E _ (wpAny_truthy_bool h))
theorem at_int_dict (b : Int) (u : Tok) (hd : DObj s.heap d) (hu : A.units < cLine) : EqAt A s (.int b u) (.ref d) false := fun prog w E Q h => by
  unfold eqBool
  refine wpAny_holding ?_
  refine wpAny_ite_split (fun hab => absurd (eq_of_beq hab) nofun) (fun _ => ?_)
  exact wpAny_bind (eq_int_dict b u hd hu prog w E _ (wpAny_truthy_bool h))
theorem at_dict_str (b : Str) (u : Tok) (hd : DObj s.heap d) (hu : A.units < cLine) : EqAt A s (.ref d) (.str b u) false := fun prog w E Q h => by
  unfold eqBool
  refine wpAny_holding ?_
  refine wpAny_ite_split (fun hab => absurd (eq_of_beq hab) nofun) (fun _ => ?_)
  exact wpAny_bind (eq_dict_str b u hd hu prog w E _ (wpAny_truthy_bool h))
theorem at_str_dict (b : Str) (u : Tok) (hd : DObj s.heap d) (hu : A.units < cLine) : EqAt A s (.str b u) (.ref d) false := fun prog w E Q h => by
  unfold eqBool
  refine wpAny_holding ?_
  refine wpAny_ite_split (fun hab => absurd (eq_of_beq hab) nofun) (fun _ => ?_)
  exact wpAny_bind (eq_str_dict b u hd hu prog w E _ (wpAny_truthy_bool h))
end
end Tp
end
section
set_option maxRecDepth 100000
set_option maxHeartbeats 4000000
/-! != of lists, tuples and dicts whose items may be dicts. -/
namespace Tp
open PySem PySem.SeqAt PySem.Spec
open AutoSeq1 (wpAny_loadPart')
open MeetsSeq MeetsSeq2 MeetsSeq3 SeqRoads2
section
variable {prog : Program} {w : World}
theorem ne_loopX (l b : Addr) (xs ys : Array Value) (n n2 : Nat) (dd dd2 : Option Addr) (sl sl2 : Array (Option Value)) (hsz : xs.size = ys.size) (e : Nat → Bool) (k : Nat) :
    ∀ i : Nat, xs.size - i = k → MeetsIn prog w (Builtin.«list.__eq__.loop» ⟨[.ref l, .ref b, rawInt i, rawInt 3], []⟩)
      (fun A R s => s.heap.get? l = some { cls := .type "list", dict := dd, data := .seq xs n, slots := sl } ∧ s.heap.get? b = some { cls := .type "list", dict := dd2, data := .seq ys n2, slots := sl2 } ∧
        (∀ j (h1 : j < xs.size) (h2 : j < ys.size), EqIn prog w A.in1 s xs[j] ys[j] (e j)) ∧
        R (.ok (.ret (.bool (!((List.range xs.size).drop i).all e)))) s) := by
  induction k with
  | zero =>
    intro i hk A R s h
    obtain ⟨hp, g, d, tk, os⟩ := s
    obtain ⟨hl, hb, he, h⟩ := h
    wp_walk using wpAny_loadPart' hl, wpAny_loadPart' hb
    have g1 : xs[((i : Nat) : Int).toNat]? = none := by simp; omega
    have g2 : ys[((i : Nat) : Int).toNat]? = none := by simp; omega
    have gd : (List.range xs.size).drop i = [] := by simp; omega
    rw [gd] at h
    rw [g1, g2]
    wp_walk using wpAny_loadPart' hl, wpAny_loadPart' hb
    show R (.ok (.ret (.bool (xs.size != ys.size)))) _
    rw [hsz]
    simpa using h
  | succ k ih =>
    intro i hk A R s h
    obtain ⟨hp, g, d, tk, os⟩ := s
    obtain ⟨hl, hb, he, h⟩ := h
    wp_walk using wpAny_loadPart' hl, wpAny_loadPart' hb
    have l1 : i < xs.size := by omega
    have l2 : i < ys.size := by omega
    have g1 : xs[((i : Nat) : Int).toNat]? = some xs[i] := by simp [l1]
    have g2 : ys[((i : Nat) : Int).toNat]? = some ys[i] := by simp [l2]
    have gd : (List.range xs.size).drop i = i :: (List.range xs.size).drop (i + 1) := by simp [List.drop_eq_getElem_cons, l1]
    have hc : ((i : Int) + 1) = ((i + 1 : Nat) : Int) := by push_cast; rfl
    rw [gd, List.all_cons] at h
    rw [g1, g2]
    refine wpAny_bind (he i l1 l2 _ _ ?_)
    cases hv : e i with
    | true =>
      rw [hv] at h
      wp_walk
      rw [hc]
      refine ⟨plainId_quiet plain_eq_loop _, codeAny_builtin entry_eq_loop ?_⟩
      rw [Around.under_plainId plain_eq_loop _]
      exact ih (i + 1) (by omega) A R _ ⟨hl, hb, he, by simpa using h⟩
    | false =>
      rw [hv] at h
      wp_walk using wpAny_loadPart' hl, wpAny_loadPart' hb
      rw [g1, g2]
      wp_walk
      simpa using h
theorem list_neX (l b : Addr) (xs ys : Array Value) (n n2 : Nat) (dd dd2 : Option Addr) (sl sl2 : Array (Option Value)) (hsz : xs.size = ys.size) (e : Nat → Bool) :
    MeetsIn prog w (Builtin.«list.__ne__» ⟨[.ref l, .ref b], []⟩)
      (fun A R s => s.heap.get? l = some { cls := .type "list", dict := dd, data := .seq xs n, slots := sl } ∧ s.heap.get? b = some { cls := .type "list", dict := dd2, data := .seq ys n2, slots := sl2 } ∧
        (∀ j (h1 : j < xs.size) (h2 : j < ys.size), EqIn prog w A.in1 s xs[j] ys[j] (e j)) ∧
        R (.ok (.ret (.bool (!(List.range xs.size).all e)))) s) := by
  intro A R s h
  obtain ⟨hp, g, d, tk, os⟩ := s
  obtain ⟨hl, hb, he, h⟩ := h
  have f3 := AutoSeq1.sub_list_list
  have hne : ¬ (xs.size != ys.size) = true := by simp [hsz]
  wp_walk using wpAny_loadPart' hl, wpAny_loadPart' hb
  refine ⟨plainId_quiet plain_eq_loop _, codeAny_builtin entry_eq_loop ?_⟩
  rw [Around.under_plainId plain_eq_loop _]
  exact ne_loopX l b xs ys n n2 dd dd2 sl sl2 hsz e _ 0 rfl A R _ ⟨hl, hb, he, by simpa using h⟩
theorem tuple_neX (l b : Addr) (xs ys : Array Value) (n n2 : Nat) (dd dd2 : Option Addr) (sl sl2 : Array (Option Value)) (e : Nat → Bool) :
    MeetsIn prog w (Builtin.«tuple.__ne__» ⟨[.ref l, .ref b], []⟩)
      (fun A R s => s.heap.get? l = some { cls := .type "tuple", dict := dd, data := .seq xs n, slots := sl } ∧ s.heap.get? b = some { cls := .type "tuple", dict := dd2, data := .seq ys n2, slots := sl2 } ∧
        (∀ j (h1 : j < xs.size) (h2 : j < ys.size), EqIn prog w A.in1 s xs[j] ys[j] (e j)) ∧
        R (.ok (.ret (.bool (!((List.range (min xs.size ys.size)).all e && xs.size == ys.size))))) s) :=
  .of_wp fun A R s h => by
    obtain ⟨hp, g, d, tk, os⟩ := s
    obtain ⟨hl, hb, he, h⟩ := h
    have f2 := AutoSeq1.sub_tuple_tuple
    have hZ : (xs.toList.zip ys.toList).length = min xs.size ys.size := by simp
    wp_walk using wpAny_loadPart' hl, wpAny_loadPart' hb, wpAny_forIn_list _ (fun rest b s' => b.1 = none ∧ s' = ⟨hp, g, d, tk, os⟩ ∧ ∃ i, rest = (xs.toList.zip ys.toList).drop i ∧
      R (.ok (.ret (.bool (!(((List.range (min xs.size ys.size)).drop i).all e && xs.size == ys.size))))) ⟨hp, g, d, tk, os⟩) _
    case turn =>
      rintro ⟨y, x⟩ rest b s' ⟨hb', rfl, i, hz, hR⟩
      have hlt : i < (xs.toList.zip ys.toList).length := by
        rcases Nat.lt_or_ge i (xs.toList.zip ys.toList).length with h' | h'
        · exact h'
        · rw [List.drop_of_length_le h'] at hz
          cases hz
      have hm : i < min xs.size ys.size := hZ ▸ hlt
      have l1 : i < xs.size := Nat.lt_of_lt_of_le hm (Nat.min_le_left _ _)
      have l2 : i < ys.size := Nat.lt_of_lt_of_le hm (Nat.min_le_right _ _)
      rw [List.drop_eq_getElem_cons hlt] at hz
      injection hz with hyx hrest
      have hy : y = xs[i] := by have := congrArg Prod.fst hyx; simpa using this
      have hx : x = ys[i] := by have := congrArg Prod.snd hyx; simpa using this
      subst hy hx
      have gd : (List.range (min xs.size ys.size)).drop i = i :: (List.range (min xs.size ys.size)).drop (i + 1) := by simp [List.drop_eq_getElem_cons, hm]
      rw [gd, List.all_cons] at hR
      refine wpAny_bind (he i l1 l2 _ _ ?_)
      cases hv : e i with
      | true =>
        rw [hv] at hR
        wp_walk
        exact ⟨rfl, rfl, i + 1, hrest, by simpa using hR⟩
      | false =>
        rw [hv] at hR
        wp_walk
        exact ⟨_, rfl, by simpa using hR⟩
    case fin =>
      rintro ⟨b1, b2⟩ s' ⟨hb', rfl, i, hz, hR⟩
      simp only at hb'
      subst hb'
      have hge : min xs.size ys.size ≤ i := by
        rcases Nat.lt_or_ge i (xs.toList.zip ys.toList).length with h' | h'
        · rw [List.drop_eq_getElem_cons h'] at hz
          cases hz
        · exact hZ ▸ h'
      rw [List.drop_of_length_le (by simpa using hge)] at hR
      wp_walk
      exact ⟨_, rfl, by simpa [Builtin.Tuple.tupleCompareSizes, bne] using hR⟩
    case h =>
      exact ⟨rfl, rfl, 0, rfl, by simpa using h⟩
end
section
variable {prog : Program} {w : World} {A : Around} {s : Shared} {E : Value → Shared → Prop} {l b : Addr} {xs ys : Array Value} {e : Nat → Bool} {Q : Value → Shared → Prop}
theorem ncX_lists (hl : s.heap.IsList l xs) (hb : s.heap.IsList b ys) (hsz : xs.size = ys.size) (hu : A.units < cLine)
    (he : ∀ j (h1 : j < xs.size) (h2 : j < ys.size), EqIn prog w A.in1 s xs[j] ys[j] (e j)) (h : Q (.bool (!(List.range xs.size).all e)) s) : wpAny (model prog w) A (richCompare .NotEq (.ref l) (.ref b)) Q E s := by
  obtain ⟨⟨cls, dd, data, sl⟩, ho, hc, n, hd⟩ := id hl
  obtain ⟨⟨cls2, dd2, data2, sl2⟩, ho2, hc2, n2, hd2⟩ := id hb
  simp only at hc hd hc2 hd2
  subst hc hd hc2 hd2
  refine wpAny_richCompare_same_room (T := "list") (op := .NotEq) ⟨_, ho, rfl⟩ ⟨_, ho2, rfl⟩ F.slot_list_ne (call_meetsIn F.slot_list_ne ⟨_, ho, rfl⟩ F.entry_list_ne (F.args_list_ne_2 _ _) (list_neX l b xs ys n n2 dd dd2 sl sl2 hsz e) ⟨ho, ho2, he, ?_⟩) hu
  show Value.bool (!(List.range xs.size).all e) ≠ Value.notImplemented ∧ Q (.bool (!(List.range xs.size).all e)) s
  exact ⟨(fun x => nomatch x), h⟩
theorem ncX_tuples (hl : s.heap.IsTuple l xs) (hb : s.heap.IsTuple b ys) (hu : A.units < cLine)
    (he : ∀ j (h1 : j < xs.size) (h2 : j < ys.size), EqIn prog w A.in1 s xs[j] ys[j] (e j)) (h : Q (.bool (!((List.range (min xs.size ys.size)).all e && xs.size == ys.size))) s) :
    wpAny (model prog w) A (richCompare .NotEq (.ref l) (.ref b)) Q E s := by
  obtain ⟨⟨cls, dd, data, sl⟩, ho, hc, n, hd⟩ := id hl
  obtain ⟨⟨cls2, dd2, data2, sl2⟩, ho2, hc2, n2, hd2⟩ := id hb
  simp only at hc hd hc2 hd2
  subst hc hd hc2 hd2
  refine wpAny_richCompare_same_room (T := "tuple") (op := .NotEq) ⟨_, ho, rfl⟩ ⟨_, ho2, rfl⟩ F.slot_tuple_ne (call_meetsIn F.slot_tuple_ne ⟨_, ho, rfl⟩ F.entry_tuple_ne (F.args_tuple_ne_2 _ _) (tuple_neX l b xs ys n n2 dd dd2 sl sl2 e) ⟨ho, ho2, he, ?_⟩) hu
  show Value.bool (!((List.range (min xs.size ys.size)).all e && xs.size == ys.size)) ≠ Value.notImplemented ∧ Q (.bool (!((List.range (min xs.size ys.size)).all e && xs.size == ys.size))) s
  exact ⟨(fun x => nomatch x), h⟩
theorem ncX_dicts {K : Type} [DecidableEq K] {knd : KeyKind prog w K} {a b : Addr} {ka kb : List (K × Value)} {r : Bool} (ha : (a == sysModules) = false) (hb : (b == sysModules) = false)
    (da : s.heap.DictOf knd a ka) (db : s.heap.DictOf knd b kb) (hu : A.units < cLine) (hits : ka.length = kb.length → PySem.W.KeqHitsIn prog w A.in1 s kb ka r) (h : Q (.bool (!(ka.length == kb.length && r))) s) :
    wpAny (model prog w) A (richCompare .NotEq (.ref a) (.ref b)) Q E s := by
  refine wpAny_richCompare_same_room (op := .NotEq) da.typeIs db.typeIs PySem.F.slot_dict_ne (wpAny_call_entry PySem.F.slot_dict_ne da.typeIs PySem.F.entry_dict_ne ?_ (PySem.F.args_dict_ne_2 _ _)) hu
  show wpAny _ _ (Builtin.Dict.dictSlotArgs "__ne__" ⟨[.ref a, .ref b], []⟩ >>= _) _ _ s
  refine wpAny_bind ?_
  unfold Builtin.Dict.dictSlotArgs
  refine wpAny_bind (wpAny_notOrdered_dict da.typeIs ?_)
  show wpAny _ _ (pure (Value.ref a, Value.ref b)) _ _ s
  refine wpAny_pure ?_
  refine wpAny_bind (wpAny_isInstance (T := "dict") db.typeIs PySem.F.sub_dict_dict ?_)
  simp only [Bool.not_true, Bool.false_eq_true, if_false]
  refine wpAny_bind (wpAny_pure (wpAny_bind (wpAny_pure ?_)))
  refine wpAny_bind (PySem.W.keq_samePairsIn ha hb da db hits ?_)
  refine wpAny_pure ⟨_, rfl, ?_, ?_⟩
  · exact fun x => nomatch x
  · simpa using h
end
end Tp
end
section
set_option maxRecDepth 100000
set_option maxHeartbeats 4000000
/-! Rules of the layer's kind that the program wants besides. -/
namespace Tp
open PySem PySem.Spec PyProof.Rows L2
section
variable {K : PySem.W.Frag} {mg : Str → Option Value} (T : Tx K mg)
include T
theorem Tx.v_MOST_DEPTH : ∃ u, mg "MOST_DEPTH" = some u ∧ RelV (.int 8) u := by
  obtain ⟨t, h⟩ := T.mdep
  exact ⟨_, h, t, rfl⟩
theorem Tx.v_MOST_PARTS : ∃ u, mg "MOST_PARTS" = some u ∧ RelV (.int 200) u := by
  obtain ⟨t, h⟩ := T.mpar
  exact ⟨_, h, t, rfl⟩
theorem Tx.f_isinstance : mg "isinstance" = none := T.fre _ (by decide +kernel)
theorem Tx.f_str : mg "str" = none := T.fre _ (by decide +kernel)
theorem Tx.f_int : mg "int" = none := T.fre _ (by decide +kernel)
theorem Tx.f_bool : mg "bool" = none := T.fre _ (by decide +kernel)
theorem Tx.f_list : mg "list" = none := T.fre _ (by decide +kernel)
theorem Tx.f_dict : mg "dict" = none := T.fre _ (by decide +kernel)
theorem Tx.f_tuple : mg "tuple" = none := T.fre _ (by decide +kernel)
theorem Tx.f_set : mg "set" = none := T.fre _ (by decide +kernel)
theorem Tx.f_all : mg "all" = none := T.fre _ (by decide +kernel)
theorem Tx.f_any : mg "any" = none := T.fre _ (by decide +kernel)
theorem Tx.f_sum : mg "sum" = none := T.fre _ (by decide +kernel)
theorem Tx.f_max : mg "max" = none := T.fre _ (by decide +kernel)
theorem Tx.f_min : mg "min" = none := T.fre _ (by decide +kernel)
theorem Tx.f_sorted : mg "sorted" = none := T.fre _ (by decide +kernel)
theorem Tx.f_len : mg "len" = none := T.fre _ (by decide +kernel)
theorem Tx.f_range : mg "range" = none := T.fre _ (by decide +kernel)
theorem Tx.g_PatchError : mg "PatchError" = some (.ref (He.ga K "PatchError")) := T.glo _ (by decide +kernel)
theorem Tx.g_NoDocument : mg "NoDocument" = some (.ref (He.ga K "NoDocument")) := T.glo _ (by decide +kernel)
theorem Tx.g_Large : mg "Large" = some (.ref (He.ga K "Large")) := T.glo _ (by decide +kernel)
theorem Tx.g_NoChange : mg "NoChange" = some (.ref (He.ga K "NoChange")) := T.glo _ (by decide +kernel)
theorem Tx.g_NoTime : mg "NoTime" = some (.ref (He.ga K "NoTime")) := T.glo _ (by decide +kernel)
theorem Tx.g_NoBack : mg "NoBack" = some (.ref (He.ga K "NoBack")) := T.glo _ (by decide +kernel)
theorem Tx.g_is_plain : mg "is_plain" = some (.ref (He.ga K "is_plain")) := T.glo _ (by decide +kernel)
theorem Tx.g_is_atom : mg "is_atom" = some (.ref (He.ga K "is_atom")) := T.glo _ (by decide +kernel)
theorem Tx.g_wrong_path : mg "wrong_path" = some (.ref (He.ga K "wrong_path")) := T.glo _ (by decide +kernel)
theorem Tx.g_depth_of : mg "depth_of" = some (.ref (He.ga K "depth_of")) := T.glo _ (by decide +kernel)
theorem Tx.g_parts_of : mg "parts_of" = some (.ref (He.ga K "parts_of")) := T.glo _ (by decide +kernel)
theorem Tx.g_check : mg "check" = some (.ref (He.ga K "check")) := T.glo _ (by decide +kernel)
theorem Tx.g_check_row : mg "check_row" = some (.ref (He.ga K "check_row")) := T.glo _ (by decide +kernel)
theorem Tx.g_copied : mg "copied" = some (.ref (He.ga K "copied")) := T.glo _ (by decide +kernel)
theorem Tx.g_merged : mg "merged" = some (.ref (He.ga K "merged")) := T.glo _ (by decide +kernel)
theorem Tx.g_after_all : mg "after_all" = some (.ref (He.ga K "after_all")) := T.glo _ (by decide +kernel)
theorem Tx.g_run : mg "run" = some (.ref (He.ga K "run")) := T.glo _ (by decide +kernel)
theorem Tx.g_Effect : mg "Effect" = some (.ref (He.ga K "Effect")) := T.glo _ (by decide +kernel)
theorem Tx.g_keep : mg "keep" = some (.ref (He.ga K "keep")) := T.glo _ (by decide +kernel)
theorem Tx.g_drop : mg "drop" = some (.ref (He.ga K "drop")) := T.glo _ (by decide +kernel)
theorem Tx.g_of_patch : mg "of_patch" = some (.ref (He.ga K "of_patch")) := T.glo _ (by decide +kernel)
theorem Tx.g_built : mg "built" = some (.ref (He.ga K "built")) := T.glo _ (by decide +kernel)
theorem Tx.g_joined : mg "joined" = some (.ref (He.ga K "joined")) := T.glo _ (by decide +kernel)
theorem Tx.g_acted : mg "acted" = some (.ref (He.ga K "acted")) := T.glo _ (by decide +kernel)
theorem Tx.g_whole : mg "whole" = some (.ref (He.ga K "whole")) := T.glo _ (by decide +kernel)
theorem Tx.g_effect : mg "effect" = some (.ref (He.ga K "effect")) := T.glo _ (by decide +kernel)
theorem Tx.g_as_patch : mg "as_patch" = some (.ref (He.ga K "as_patch")) := T.glo _ (by decide +kernel)
theorem Tx.g_clearing : mg "clearing" = some (.ref (He.ga K "clearing")) := T.glo _ (by decide +kernel)
theorem Tx.g_short : mg "short" = some (.ref (He.ga K "short")) := T.glo _ (by decide +kernel)
theorem Tx.g_compact : mg "compact" = some (.ref (He.ga K "compact")) := T.glo _ (by decide +kernel)
theorem Tx.g_Log : mg "Log" = some (.ref (He.ga K "Log")) := T.glo _ (by decide +kernel)
theorem Tx.g_same : mg "same" = some (.ref (He.ga K "same")) := T.glo _ (by decide +kernel)
theorem Tx.g_witness : mg "witness" = some (.ref (He.ga K "witness")) := T.glo _ (by decide +kernel)
theorem Tx.g_parting : mg "parting" = some (.ref (He.ga K "parting")) := T.glo _ (by decide +kernel)
theorem Tx.g_none_path : mg "none_path" = some (.ref (He.ga K "none_path")) := T.glo _ (by decide +kernel)
theorem Tx.g_made : mg "made" = some (.ref (He.ga K "made")) := T.glo _ (by decide +kernel)
theorem Tx.g_changed : mg "changed" = some (.ref (He.ga K "changed")) := T.glo _ (by decide +kernel)
theorem Tx.g_new_member : mg "new_member" = some (.ref (He.ga K "new_member")) := T.glo _ (by decide +kernel)
theorem Tx.g_led : mg "led" = some (.ref (He.ga K "led")) := T.glo _ (by decide +kernel)
theorem Tx.g_change : mg "change" = some (.ref (He.ga K "change")) := T.glo _ (by decide +kernel)
theorem Tx.g_undoing : mg "undoing" = some (.ref (He.ga K "undoing")) := T.glo _ (by decide +kernel)
theorem Tx.g_is_result : mg "is_result" = some (.ref (He.ga K "is_result")) := T.glo _ (by decide +kernel)
theorem Tx.g_Clash : mg "Clash" = some (.ref (He.ga K "Clash")) := T.glo _ (by decide +kernel)
theorem Tx.g_least : mg "least" = some (.ref (He.ga K "least")) := T.glo _ (by decide +kernel)
theorem Tx.g_fitted : mg "fitted" = some (.ref (He.ga K "fitted")) := T.glo _ (by decide +kernel)
theorem Tx.g_shared : mg "shared" = some (.ref (He.ga K "shared")) := T.glo _ (by decide +kernel)
theorem Tx.g__law_cell_at : mg "_law_cell_at" = some (.ref (He.ga K "_law_cell_at")) := T.glo _ (by decide +kernel)
theorem Tx.g__law_source : mg "_law_source" = some (.ref (He.ga K "_law_source")) := T.glo _ (by decide +kernel)
theorem Tx.g__law_draw : mg "_law_draw" = some (.ref (He.ga K "_law_draw")) := T.glo _ (by decide +kernel)
theorem Tx.g__law_choice : mg "_law_choice" = some (.ref (He.ga K "_law_choice")) := T.glo _ (by decide +kernel)
theorem Tx.g__law_atom : mg "_law_atom" = some (.ref (He.ga K "_law_atom")) := T.glo _ (by decide +kernel)
theorem Tx.g__law_document : mg "_law_document" = some (.ref (He.ga K "_law_document")) := T.glo _ (by decide +kernel)
theorem Tx.g__law_patch : mg "_law_patch" = some (.ref (He.ga K "_law_patch")) := T.glo _ (by decide +kernel)
theorem Tx.g__law_parts : mg "_law_parts" = some (.ref (He.ga K "_law_parts")) := T.glo _ (by decide +kernel)
theorem Tx.g__law_rows : mg "_law_rows" = some (.ref (He.ga K "_law_rows")) := T.glo _ (by decide +kernel)
theorem Tx.g__law_same_again : mg "_law_same_again" = some (.ref (He.ga K "_law_same_again")) := T.glo _ (by decide +kernel)
theorem Tx.g__law_after : mg "_law_after" = some (.ref (He.ga K "_law_after")) := T.glo _ (by decide +kernel)
theorem Tx.g__law_end : mg "_law_end" = some (.ref (He.ga K "_law_end")) := T.glo _ (by decide +kernel)
theorem Tx.g__law_logged : mg "_law_logged" = some (.ref (He.ga K "_law_logged")) := T.glo _ (by decide +kernel)
theorem Tx.g__law_times_right : mg "_law_times_right" = some (.ref (He.ga K "_law_times_right")) := T.glo _ (by decide +kernel)
theorem Tx.g__law_squeezed_right : mg "_law_squeezed_right" = some (.ref (He.ga K "_law_squeezed_right")) := T.glo _ (by decide +kernel)
theorem Tx.g__law_asked : mg "_law_asked" = some (.ref (He.ga K "_law_asked")) := T.glo _ (by decide +kernel)
theorem Tx.g__law_led_right : mg "_law_led_right" = some (.ref (He.ga K "_law_led_right")) := T.glo _ (by decide +kernel)
theorem Tx.g__law_shared_right : mg "_law_shared_right" = some (.ref (He.ga K "_law_shared_right")) := T.glo _ (by decide +kernel)
theorem Tx.g_law : mg "law" = some (.ref (He.ga K "law")) := T.glo _ (by decide +kernel)
end

/-! ### a dict is walked: locked, or locked already -/
/-- from the heap that is locked back to the one ahead -/
structure Lk (d : Addr) (H Hl : Hp) (un : Hp → Hp) : Prop where
  le : Le H Hl
  bld : ∀ {p H' kvs f}, Bld Hl p H' kvs f → Bld H p (un H') kvs f
  fre : ∀ {p}, H p = none ↔ Hl p = none
  same : ∀ {H'}, Same Hl H' → Same H (un H')
  lb : ∀ {p H' kvs f}, Bld H p H' kvs f → ∃ H'', Bld Hl p H'' kvs f
  nw : ∀ {H'}, nw H (un H') = nw Hl H'
  ule : ∀ {H'}, H' d = Hl d → Le H' (un H')
  mid : ∀ {H0 p kvs f}, Bld H0 p H kvs f → H0 d ≠ none → ∃ Hm, Le H0 Hm ∧ Bld Hm p Hl kvs f ∧ ∀ {H5 kvs' f'}, Bld Hm p H5 kvs' f' → Bld H0 p (un H5) kvs' f'
theorem upd_self {H : Hp} {a : Addr} {o : HO} (h : H a = some o) : upd H a o = H := by
  funext b
  by_cases e : b = a
  · rw [e, upd_same, h]
  · rw [upd_ne e]
theorem Lk.refl (d : Addr) (H : Hp) : Lk d H H id := ⟨Le.refl H, fun B => B, Iff.rfl, fun s => s, fun B => ⟨_, B⟩, rfl, fun _ => Le.refl _, fun B _ => ⟨_, Le.refl _, B, fun B => B⟩⟩
theorem Lk.lock {H : Hp} {d : Addr} {kvs : List (L2.Key × V)} (h : H d = some (.dK kvs)) (od : Obj) : Lk d H (upd H d (.frz od (.dK kvs))) fun H' => upd H' d (.dK kvs) := by
  have back : upd (upd H d (.frz od (.dK kvs))) d (.dK kvs) = H := by rw [upd_upd, upd_self h]
  refine ⟨Le.lock h od, fun B => ?_, fun {p} => ?_, fun {H'} s b o q => ?_, fun B => ⟨_, B.lock h _⟩, fun {H'} => ?_, fun {H'} e => Le.unlock (e.trans upd_same), fun {H0 p kvs0 f} B hd => ?_⟩
  · have := B.lock (a := d) (o := .frz od (.dK kvs)) upd_same (.dK kvs)
    rw [back] at this
    exact this
  · by_cases e : p = d
    · rw [e, upd_same, h]
      exact ⟨fun q => (by cases q), fun q => (by cases q)⟩
    · rw [upd_ne e]
  · by_cases e : b = d
    · rw [e, upd_same, ← h, ← e]
      exact q
    · rw [upd_ne e]
      exact s b o (by rw [upd_ne e]; exact q)
  · funext b
    unfold Tp.nw
    by_cases e : b = d
    · rw [e, h, upd_same, upd_same] <;> rfl
    · rw [upd_ne e, upd_ne e]
  · have ne : d ≠ p := fun e => hd (by rw [e]; exact B.fr)
    have h0 : H0 d = some (.dK kvs) := by
      cases q : H0 d with
      | none => exact absurd q hd
      | some o =>
        have := B.old d o ne q
        rw [h] at this
        exact this.symm
    refine ⟨_, Le.lock h0 od, B.lock h0 _, fun {H5 kvs' f'} B5 => ?_⟩
    have := B5.lock (a := d) (o := .frz od (.dK kvs)) upd_same (.dK kvs)
    rw [upd_upd, upd_self h0] at this
    exact this
theorem Lk.new {H Hl H' : Hp} {un : Hp → Hp} {b : Addr} {d : Addr} (lk : Lk d H Hl un) (h : Hl b = none) : un H' b = H' b := by
  have e := congrFun (lk.nw (H' := H')) b
  rw [nw_at (lk.fre.mpr h), nw_at h] at e
  exact e
def tLk (t : TE) : TE := fun σ H Q => ∃ d kvs, Rd H d (.dK kvs) ∧ ∀ (Hl : Hp) (od : Obj) (un : Hp → Hp), Hl d = some (.frz od (.dK kvs)) → Lk d H Hl un → t σ Hl fun v H' => H' d = some (.frz od (.dK kvs)) ∧ Q v (un H')
def tLkS (t : TS) : TS := fun D σ H => ∃ d kvs, Rd H d (.dK kvs) ∧ ∀ (Hl : Hp) (od : Obj) (un : Hp → Hp), Hl d = some (.frz od (.dK kvs)) → Lk d H Hl un →
  t ⟨fun σ' H' => H' d = some (.frz od (.dK kvs)) ∧ D.nx σ' (un H'), fun v H' => H' d = some (.frz od (.dK kvs)) ∧ D.rt v (un H'), fun σ' H' => H' d = some (.frz od (.dK kvs)) ∧ D.bk σ' (un H'), fun σ' H' => H' d = some (.frz od (.dK kvs)) ∧ D.ct σ' (un H')⟩ σ Hl
section
variable {X : Cx}
theorem pe_lk {e : Expr} {t : TE} (h : PE X e t) : PE X e (tLk t) := by
  refine ⟨fun pins s σ H Q I hw => ?_⟩
  obtain ⟨d, kvs, r, hw⟩ := hw
  rcases r with r | ⟨od, r⟩
  · exact (pe_lock h).run pins s σ H Q I ⟨d, .dK kvs, r, True.intro, fun od => hw _ od _ upd_same (Lk.lock r od)⟩
  · exact thn (h.run pins s σ H _ I (hw H od id r (Lk.refl d H))) fun v s1 ⟨x, H1, I1, rx, _, q⟩ => ⟨x, H1, I1, rx, q⟩
theorem ps_lk {st : Stmt} {t : TS} (h : PS X st t) : PS X st (tLkS t) := by
  refine ⟨fun pins s σ H D I hw => ?_⟩
  obtain ⟨d, kvs, r, hw⟩ := hw
  rcases r with r | ⟨od, r⟩
  · exact (ps_lock h).run pins s σ H D I ⟨d, .dK kvs, r, True.intro, fun od => hw _ od _ upd_same (Lk.lock r od)⟩
  · refine thn (h.run pins s σ H _ I (hw H od id r (Lk.refl d H))) fun f s1 q => ?_
    cases f with
    | next => obtain ⟨σ', H', I2, _, q⟩ := q; exact ⟨σ', _, I2, q⟩
    | brk => obtain ⟨σ', H', I2, _, q⟩ := q; exact ⟨σ', _, I2, q⟩
    | cont => obtain ⟨σ', H', I2, _, q⟩ := q; exact ⟨σ', _, I2, q⟩
    | ret v => obtain ⟨x, σ', H', I2, rx, _, q⟩ := q; exact ⟨x, σ', _, I2, rx, q⟩
/-- calls without arguments -/
theorem pe_c0 {k j : Nat} {x : Str} {sp : Sp} {dvs : List V} {p pos : Pos} (c : C8.Cal X.prog X.w X.K X.mg X.base k x sp dvs) (hr : Room j X.A) (hk : k ≤ j) (hg : Gl X x) (hdb : (x == ("__debug__" : Str)) = false := by decide) :
    PE X (.Call (.Name x p) [] [] pos) (tCall sp dvs C8.E0 tNil) := by
  obtain ⟨f, fd, ps, ds, F, hm, kp, b, d⟩ := c.ex
  exact pe_call0 F (hr.mono hk) hg hm kp b d C8.pass0 hdb
theorem pe_mk0 {k j : Nat} {x : Str} {C : Addr} {sp : Sp} {dvs : List V} {p pos : Pos} (c : C8.Mak X.prog X.w X.K X.mg X.base k x C sp dvs) (hr : Room j X.A) (hk : k + 1 ≤ j) (hg : Gl X x) (hdb : (x == ("__debug__" : Str)) = false := by decide) :
    PE X (.Call (.Name x p) [] [] pos) (tMake C sp dvs C8.E0 tNil) := by
  obtain ⟨f, fd, ps, ds, M, F, hm, b, d⟩ := c.ex
  exact pe_make0 M F (hr.mono hk) hg hm b d C8.pass0 hdb
end
/-- a dict comprehension over anything that is walked -/
theorem dc_it {J : It} {n : Nat} {G : Hp → Prop} {Y : Nat → Hp → V → Hp → Prop} (w : Walk J n G Y) {g : TG} {tt : TT} {tk tv : TE} {vs : List Nat} {σ : L2.St} {H1 : Hp} {D : Addr} {Qd : Hp → Prop} (Pv : Nat → Hp → Prop) (h0 : Pv 0 (upd H1 D (.dK []))) (hG : ∀ i H, i ≤ n → Pv i H → G H)
    (hs : ∀ i x H H', i < n → Pv i H → Y i H x H' → g x (wipe σ vs) H' fun σ2 H2 => wipe σ2 vs = wipe σ vs ∧ tt σ2 H2 fun b H3 =>
      if b = true then tk σ2 H3 fun y H4 => tv σ2 H4 fun z H5 => ∃ kvs k, y = kV k ∧ H5 D = some (.dK kvs) ∧ kvs.length < sizeLine ∧ Pv (i + 1) (upd H5 D (.dK (putK kvs k z))) else Pv (i + 1) H3) (hd : ∀ H, Pv n H → Qd H) :
    ∃ W : Nat → Nat → Hp → Prop, (∃ m, W 0 m (upd H1 D (.dK []))) ∧ ∀ i m H, W i m H →
      (J.stop i H ∧ Qd H) ∨ (J.go i H ∧ ∃ Nx : Hp → Prop, (∀ H', Nx H' → ∃ m', m' < m ∧ W (i + 1) m' H') ∧ ∀ x H', J.yld i H x H' → g x (wipe σ vs) H' fun σ2 H2 => wipe σ2 vs = wipe σ vs ∧ tt σ2 H2 fun b H3 =>
        if b = true then tk σ2 H3 fun y H4 => tv σ2 H4 fun z H5 => ∃ kvs k, y = kV k ∧ H5 D = some (.dK kvs) ∧ kvs.length < sizeLine ∧ Nx (upd H5 D (.dK (putK kvs k z))) else Nx H3) := by
  refine ⟨fun i m H => m = n - i ∧ i ≤ n ∧ Pv i H, ⟨n, by simp, Nat.zero_le _, h0⟩, ?_⟩
  rintro i m H ⟨rfl, hi, p⟩
  have q := hG i H hi p
  by_cases hlt : i < n
  · refine .inr ⟨w.goes i H hlt q, Pv (i + 1), fun H' p' => ⟨n - (i + 1), by omega, rfl, hlt, p'⟩, fun x H' y => hs i x H H' hlt p (w.yields i H x H' hlt q y)⟩
  · have e : i = n := by omega
    subst e
    exact .inl ⟨w.stops H q, hd H p⟩

/-! ### names for readings -/
def rListOf (K : PySem.W.Frag) : List V → Hp → VK → Prop := fun xs H Q => ∃ p ys, xs = [.ref p] ∧ (SqL K H p ys ∨ SqT K H p ys) ∧ ∀ l, H l = none → Q (.ref l) (upd H l (.lst ys))
def rTupleOf (K : PySem.W.Frag) : List V → Hp → VK → Prop := fun xs H Q => ∃ p ys, xs = [.ref p] ∧ ((SqL K H p ys ∧ ∀ l, H l = none → Q (.ref l) (upd H l (.tup ys))) ∨ (SqT K H p ys ∧ Q (.ref p) H))
def rDictP (K : PySem.W.Frag) : List V → Hp → VK → Prop := fun xs H Q => ∃ (a : Addr) (ps : List Addr) (kvs : List (L2.Key × V)), xs = [.ref a] ∧ SqL K H a (ps.map V.ref) ∧ Paired (fun p kv => SqT K H p [kV kv.1, kv.2]) ps kvs ∧ ∀ p, H p = none → Q (.ref p) (upd H p (.dK (mergeK [] kvs)))
def rLenSeq (K : PySem.W.Frag) : List V → Hp → VK → Prop := fun xs H Q => ∃ p ys, xs = [.ref p] ∧ (SqL K H p ys ∨ SqT K H p ys) ∧ Q (.int ys.length) H
def rSortedD : List V → Hp → VK → Prop := fun xs H Q => ∃ (a : Addr) (kvs : List (L2.Key × V)) (ks : List Str), xs = [.ref a] ∧ Rd H a (.dK kvs) ∧ kvs.map (·.1) = ks.map Sum.inr ∧ ks.length < 64 ∧ ∀ ys p, ys.Perm ks → sortedS ys = true → H p = none → Q (.ref p) (upd H p (.lst (ys.map V.str)))
def rListK : List V → Hp → VK → Prop := fun xs H Q => ∃ (a : Addr) (kvs : List (L2.Key × V)), xs = [.ref a] ∧ Rd H a (.dK kvs) ∧ ∀ p, H p = none → Q (.ref p) (upd H p (.lst (kvs.map fun kv => kV kv.1)))
def rInt1 : List V → Hp → VK → Prop := fun xs H Q => (∃ i, xs = [.int i] ∧ Q (.int i) H) ∨ ∃ k, xs = [.bl k] ∧ Q (.int (if k then 1 else 0)) H
def rMax2 : List V → Hp → VK → Prop := fun xs H Q => ∃ i j, xs = [.int i, .int j] ∧ Q (.int (if j > i then j else i)) H
def rMin2 : List V → Hp → VK → Prop := fun xs H Q => ∃ i j, xs = [.int i, .int j] ∧ Q (.int (if j < i then j else i)) H

/-! ### the type of a document, for isinstance -/
def D.ty : D → String
  | .obj _ => "dict"
  | .atom (.lst _) => "list"
  | .atom (.pl .non) => "NoneType"
  | .atom (.pl (.int _)) => "int"
  | .atom (.pl (.str _)) => "str"
  | .abs => "NoneType"
theorem ty_rd {K : PySem.W.Frag} {H : Hp} {a : Addr} {kvs : List (L2.Key × V)} (h : Rd H a (.dK kvs)) : TyX K H (.ref a) (.type "dict") := by
  rcases h with h | ⟨o, h⟩
  · exact .base (.dK h)
  · exact .fDict h
theorem ty_rl {K : PySem.W.Frag} {H : Hp} {a : Addr} {xs : List V} (h : Rd H a (.lst xs)) : TyX K H (.ref a) (.type "list") := by
  rcases h with h | ⟨o, h⟩
  · exact .base (.lst h)
  · exact .base (.frz h)
theorem DocAt.tyX {K : PySem.W.Frag} {H : Hp} {d : D} {v : V} (h : DocAt H d v) : TyX K H v (.type d.ty) := by
  cases d with
  | abs => exact (show False from h).elim
  | atom x =>
    cases x with
    | pl y =>
      have e : v = y.v := h
      subst e
      cases y with
      | non => exact .base .non
      | int i => exact .base (.int i)
      | str x => exact .base (.str x.1)
    | lst ys =>
      obtain ⟨a, rfl, r, _⟩ := h
      exact ty_rl r
  | obj f =>
    obtain ⟨a, kvs, rfl, r, _⟩ := DocAt.obj_iff.mp h
    exact ty_rd r
/-- isinstance(v, dict), isinstance(v, list) of a document -/
theorem isi_dict {K : PySem.W.Frag} {H : Hp} {d : D} {v : V} {Q : VK} (h : DocAt H d v) (q : Q (.bl d.isObj) H) : rIsi K [v, .ty "dict"] H Q := by
  refine ⟨v, .ty "dict", _, _, d.isObj, rfl, .ty _, h.tyX, ?_, q⟩
  refine kit_ty (r := d.isObj) ?_
  cases d with
  | abs => exact (show False from h).elim
  | atom x =>
    cases x with
    | pl y =>
      cases y with
      | non => show kitB "NoneType" "dict" = some false; decide +kernel
      | int i => show kitB "int" "dict" = some false; decide +kernel
      | str x => show kitB "str" "dict" = some false; decide +kernel
    | lst ys => show kitB "list" "dict" = some false; decide +kernel
  | obj f => show kitB "dict" "dict" = some true; decide +kernel
def At.isLst : At → Bool
  | .lst _ => true
  | _ => false
def D.isLst : D → Bool
  | .atom x => x.isLst
  | _ => false
theorem isi_list {K : PySem.W.Frag} {H : Hp} {d : D} {v : V} {Q : VK} (h : DocAt H d v) (q : Q (.bl d.isLst) H) : rIsi K [v, .ty "list"] H Q := by
  refine ⟨v, .ty "list", _, _, d.isLst, rfl, .ty _, h.tyX, ?_, q⟩
  refine kit_ty (r := d.isLst) ?_
  cases d with
  | abs => exact (show False from h).elim
  | atom x =>
    cases x with
    | pl y =>
      cases y with
      | non => show kitB "NoneType" "list" = some false; decide +kernel
      | int i => show kitB "int" "list" = some false; decide +kernel
      | str x => show kitB "str" "list" = some false; decide +kernel
    | lst ys => show kitB "list" "list" = some true; decide +kernel
  | obj f => show kitB "dict" "list" = some false; decide +kernel
theorem kb_NoneType_str : kitB "NoneType" "str" = some false := by decide +kernel
theorem kb_NoneType_int : kitB "NoneType" "int" = some false := by decide +kernel
theorem kb_NoneType_bool : kitB "NoneType" "bool" = some false := by decide +kernel
theorem kb_NoneType_tuple : kitB "NoneType" "tuple" = some false := by decide +kernel
theorem kb_NoneType_list : kitB "NoneType" "list" = some false := by decide +kernel
theorem kb_NoneType_dict : kitB "NoneType" "dict" = some false := by decide +kernel
theorem kb_int_str : kitB "int" "str" = some false := by decide +kernel
theorem kb_int_int : kitB "int" "int" = some true := by decide +kernel
theorem kb_int_bool : kitB "int" "bool" = some false := by decide +kernel
theorem kb_int_tuple : kitB "int" "tuple" = some false := by decide +kernel
theorem kb_int_list : kitB "int" "list" = some false := by decide +kernel
theorem kb_int_dict : kitB "int" "dict" = some false := by decide +kernel
theorem kb_str_str : kitB "str" "str" = some true := by decide +kernel
theorem kb_str_int : kitB "str" "int" = some false := by decide +kernel
theorem kb_str_bool : kitB "str" "bool" = some false := by decide +kernel
theorem kb_str_tuple : kitB "str" "tuple" = some false := by decide +kernel
theorem kb_str_list : kitB "str" "list" = some false := by decide +kernel
theorem kb_str_dict : kitB "str" "dict" = some false := by decide +kernel
theorem kb_list_str : kitB "list" "str" = some false := by decide +kernel
theorem kb_list_int : kitB "list" "int" = some false := by decide +kernel
theorem kb_list_bool : kitB "list" "bool" = some false := by decide +kernel
theorem kb_list_tuple : kitB "list" "tuple" = some false := by decide +kernel
theorem kb_list_list : kitB "list" "list" = some true := by decide +kernel
theorem kb_list_dict : kitB "list" "dict" = some false := by decide +kernel
theorem kb_dict_str : kitB "dict" "str" = some false := by decide +kernel
theorem kb_dict_int : kitB "dict" "int" = some false := by decide +kernel
theorem kb_dict_bool : kitB "dict" "bool" = some false := by decide +kernel
theorem kb_dict_tuple : kitB "dict" "tuple" = some false := by decide +kernel
theorem kb_dict_list : kitB "dict" "list" = some false := by decide +kernel
theorem kb_dict_dict : kitB "dict" "dict" = some true := by decide +kernel
theorem kb_tuple_str : kitB "tuple" "str" = some false := by decide +kernel
theorem kb_tuple_int : kitB "tuple" "int" = some false := by decide +kernel
theorem kb_tuple_bool : kitB "tuple" "bool" = some false := by decide +kernel
theorem kb_tuple_tuple : kitB "tuple" "tuple" = some true := by decide +kernel
theorem kb_tuple_list : kitB "tuple" "list" = some false := by decide +kernel
theorem kb_tuple_dict : kitB "tuple" "dict" = some false := by decide +kernel
/-- a known list (atoms of documents) -/
theorem SqL.rd {K : PySem.W.Frag} {H : Hp} {a : Addr} {xs : List V} (h : Rd H a (.lst xs)) : SqL K H a xs := .inl h
theorem D.lt_kid {f : Ky → D} {n : Nat} (h : (D.obj f).dep < n + 1) (k : Ky) : (f k).dep < n := by
  have h1 : 1 + mx4 (fun k => (f k).dep) < n + 1 := h
  have h2 := mx4_le.mp (Nat.le_refl (mx4 fun k => (f k).dep)) k
  omega
/-! ### readings, a step at a time -/
section
variable {K : PySem.W.Frag} {t u : TS} {c : TT} {te : TE} {g : TG} {D : Ends} {σ : L2.St} {H : Hp} {Q : VK} {QT : Bool → Hp → Prop} {i : Nat} {v : V} {d : Tp.D} {en : L2.St → Hp → Prop} {er : VK} {eb ec : L2.St → Hp → Prop}
theorem sSeq (h : t ⟨u ⟨en, er, eb, ec⟩, er, eb, ec⟩ σ H) : tSeq t u ⟨en, er, eb, ec⟩ σ H := h
theorem sIf (h : c σ H fun b H1 => if b = true then t ⟨en, er, eb, ec⟩ σ H1 else u ⟨en, er, eb, ec⟩ σ H1) : tIfS c t u ⟨en, er, eb, ec⟩ σ H := h
theorem sAsg (h : te σ H fun x H1 => g x σ H1 en) : tAsg te g ⟨en, er, eb, ec⟩ σ H := h
theorem sRet (h : te σ H er) : tRet te ⟨en, er, eb, ec⟩ σ H := h
theorem sDrop (h : te σ H fun _ H1 => en σ H1) : tDrop te ⟨en, er, eb, ec⟩ σ H := h
theorem sNext (h : en σ H) : tNext ⟨en, er, eb, ec⟩ σ H := h
theorem sFor {wi : TI} {tb : TS} (h : wi σ H fun J H1 => ∃ W : Nat → Nat → L2.St → Hp → Prop, (∃ m, W 0 m σ H1) ∧ ∀ i m σ H, W i m σ H →
  (J.stop i H ∧ en σ H) ∨ (J.go i H ∧ ∃ N : L2.St → Hp → Prop, (∀ σ' H', N σ' H' → ∃ m', m' < m ∧ W (i + 1) m' σ' H') ∧ ∀ x H', J.yld i H x H' → g x σ H' fun σ2 H2 => tb ⟨N, er, en, N⟩ σ2 H2)) : tFor wi g tb ⟨en, er, eb, ec⟩ σ H := h
theorem sLk (h : ∃ d kvs, Rd H d (.dK kvs) ∧ ∀ (Hl : Hp) (od : Obj) (un : Hp → Hp), Hl d = some (.frz od (.dK kvs)) → Lk d H Hl un →
  t ⟨fun σ' H' => H' d = some (.frz od (.dK kvs)) ∧ en σ' (un H'), fun v H' => H' d = some (.frz od (.dK kvs)) ∧ er v (un H'), fun σ' H' => H' d = some (.frz od (.dK kvs)) ∧ eb σ' (un H'), fun σ' H' => H' d = some (.frz od (.dK kvs)) ∧ ec σ' (un H')⟩ σ Hl) : tLkS t ⟨en, er, eb, ec⟩ σ H := h
theorem ifT {b : Bool} {A B : Prop} (e : b = true) (h : A) : if b = true then A else B := by
  rw [if_pos e]
  exact h
theorem ifF {b : Bool} {A B : Prop} (e : b = false) (h : B) : if b = true then A else B := by
  rw [e, if_neg Bool.false_ne_true]
  exact h
theorem xOr {c' : TT} (h : c σ H fun b H1 => if b = true then QT true H1 else c' σ H1 QT) : tOr c c' σ H QT := h
theorem xAnd {c' : TT} (h : c σ H fun b H1 => if b = true then c' σ H1 QT else QT false H1) : tAnd c c' σ H QT := h
theorem xNot (h : c σ H fun b H1 => QT (!b) H1) : tNot c σ H QT := h
theorem xIf {ta tb : TE} (h : c σ H fun b H1 => if b = true then ta σ H1 Q else tb σ H1 Q) : tIf c ta tb σ H Q := h
theorem xB (h : te σ H fun x H1 => ∃ b, x = .bl b ∧ QT b H1) : tB te σ H QT := h
theorem xCB {r : List V → Hp → VK → Prop} {ta : TA} (h : ta σ H fun vs H1 => r vs H1 Q) : tCB r ta σ H Q := h
theorem xCB1 {r : List V → Hp → VK → Prop} (hs : σ[i]? = some (some v)) (q : r [v] H Q) : tCB r (tCons (tVar i) tNil) σ H Q := ⟨v, hs, q⟩
theorem aCons {ta : TA} {QA : List V → Hp → Prop} (h : te σ H fun x H1 => ta σ H1 fun xs H2 => QA (x :: xs) H2) : tCons te ta σ H QA := h
theorem aNil {QA : List V → Hp → Prop} (h : QA [] H) : tNil σ H QA := h
theorem xVar (hs : σ[i]? = some (some v)) (q : Q v H) : tVar i σ H Q := ⟨v, hs, q⟩
theorem iListV {R : It → Hp → Prop} {a : Addr} {xs : List V} (h : te σ H fun x H1 => x = .ref a ∧ SqL K H1 a xs ∧ R (Itl K a) H1) (m : ∀ H Q Q', te σ H Q → (∀ x H1, Q x H1 → Q' x H1) → te σ H Q') : iList K te σ H R :=
  m _ _ _ h fun x H1 ⟨e, s, r⟩ => ⟨a, e, ⟨xs, s⟩, r⟩
theorem sFldI {ta tv : TE} {f : Str} (h : tv σ H fun y H1 => ta σ H1 fun x H2 => ∃ a C dx fs, x = .ref a ∧ H2 a = some (.ins C dx fs) ∧ Cls K C ∧ NoAttr K C f ∧ fs.length < 1000 ∧ en σ (upd H2 a (.ins C dx (putF f y fs)))) : sFld K ta tv f ⟨en, er, eb, ec⟩ σ H := h
theorem xLc {wi : TI} {tt : TT} {vs : List Nat} (h : wi σ H fun J H1 => ∀ D, H1 D = none → ∃ W : Nat → Nat → Hp → Prop, (∃ m, W 0 m (upd H1 D (.lst []))) ∧ ∀ i m H, W i m H →
    (J.stop i H ∧ Q (.ref D) H) ∨ (J.go i H ∧ ∃ Nx : Hp → Prop, (∀ H', Nx H' → ∃ m', m' < m ∧ W (i + 1) m' H') ∧ ∀ x H', J.yld i H x H' → g x (wipe σ vs) H' fun σ2 H2 => wipe σ2 vs = wipe σ vs ∧ tt σ2 H2 fun b H3 =>
      if b = true then te σ2 H3 fun y H4 => ∃ acc, H4 D = some (.lst acc) ∧ acc.length < sizeLine ∧ Nx (upd H4 D (.lst (acc ++ [y]))) else Nx H3)) : tLc wi g tt te vs σ H Q := h
theorem iL {R : It → Hp → Prop} (h : te σ H fun x H1 => ∃ a, x = .ref a ∧ (∃ xs, SqL K H1 a xs) ∧ R (Itl K a) H1) : iList K te σ H R := h
theorem iT {R : It → Hp → Prop} (h : te σ H fun x H1 => ∃ a, x = .ref a ∧ (∃ xs, SqT K H1 a xs) ∧ R (Itt K a) H1) : iTup K te σ H R := h
theorem twoS {a b : V} : [a, b].length ≤ sizeLine := Nat.le_trans (show 2 ≤ 1000 by decide) (Nat.le_of_lt (small1000 (Nat.le_refl _)))
theorem xOrV {ta tb : TE} (h : ta σ H fun x H1 => ∃ c, x = .bl c ∧ if c = true then Q (.bl true) H1 else tb σ H1 Q) : tOrV ta tb σ H Q := h
theorem xAndV {ta tb : TE} (h : ta σ H fun x H1 => ∃ c, x = .bl c ∧ if c = true then tb σ H1 Q else Q (.bl false) H1) : tAndV ta tb σ H Q := h
theorem xOp {r : R2} {ta tb : TE} (h : ta σ H fun x H1 => tb σ H1 fun y H2 => r x y H2 Q) : tOp r ta tb σ H Q := h
theorem xTest (h : te σ H fun x H1 => ∃ k, x = .bl k ∧ QT k H1) : tTest te σ H QT := h
theorem xC (q : Q v H) : tC v σ H Q := q
theorem xTup {ta : TA} (h : ta σ H fun xs H1 => xs.length ≤ sizeLine ∧ ∀ p, H1 p = none → Q (.ref p) (upd H1 p (.tup xs))) : tTup ta σ H Q := h
theorem xLst {ta : TA} (h : ta σ H fun xs H1 => xs.length ≤ sizeLine ∧ ∀ p, H1 p = none → Q (.ref p) (upd H1 p (.lst xs))) : tLst ta σ H Q := h
/-- isinstance(x, dict) as a test -/
theorem xDict (hs : σ[i]? = some (some v)) (hd : DocAt H d v) (q : QT d.isObj H) : tB (tCB (rIsi K) (tCons (tVar i) (tCons (tC (.ty "dict")) tNil))) σ H QT :=
  ⟨v, hs, (isi_dict hd ⟨_, rfl, q⟩ : rIsi K [v, .ty "dict"] H fun x H1 => ∃ b, x = .bl b ∧ QT b H1)⟩
theorem xList (hs : σ[i]? = some (some v)) (hd : DocAt H d v) (q : QT d.isLst H) : tB (tCB (rIsi K) (tCons (tVar i) (tCons (tC (.ty "list")) tNil))) σ H QT :=
  ⟨v, hs, (isi_list hd ⟨_, rfl, q⟩ : rIsi K [v, .ty "list"] H fun x H1 => ∃ b, x = .bl b ∧ QT b H1)⟩
end
/-- a turn over a dict's items: the pair, the key, the value -/
theorem gPair {K : PySem.W.Frag} {p q : Nat} {t : Addr} {x y : V} {σ : L2.St} {H : Hp} {Q : L2.St → Hp → Prop} (h : H t = some (.tup [x, y])) (k : Q ((σ.set p (some x)).set q (some y)) H) : gTup K 2 (gCons (gName p) (gCons (gName q) gNil)) (.ref t) σ H Q :=
  ⟨t, [x, y], rfl, SqT.of h, rfl, x, [y], rfl, y, [], rfl, rfl, k⟩
theorem items_turn {kvs : List (L2.Key × V)} (ok : tabOk kvs) {i : Nat} {H H' : Hp} {x : V} (y : YPair (fun i => kvs[i]?.map fun kv => kV kv.1) (fun i => kvs[i]?.map Prod.snd) i H x H') :
    ∃ (t : Addr) (k : Ky) (u : V), x = .ref t ∧ H t = none ∧ H' = upd H t (.tup [.str (kS k), u]) ∧ valV kvs (kK k) = some u ∧ (kvs.map (·.1))[i]? = some (kK k) := by
  obtain ⟨t, a, b, rfl, h1, rfl, h2, h3⟩ := y
  dsimp only at h2 h3
  cases e : kvs[i]? with
  | none => rw [e] at h2; cases h2
  | some kv =>
    obtain ⟨k, hk, hv, hi⟩ := ok.nth e
    rw [e] at h2 h3
    have h2' : kV kv.1 = a := Option.some.inj h2
    have h3' : kv.2 = b := Option.some.inj h3
    subst h2' h3'
    rw [hk]
    exact ⟨t, k, kv.2, rfl, h1, rfl, hv, hi⟩
end Tp
end
section
set_option maxRecDepth 100000
set_option maxHeartbeats 4000000
/-! Sorted keys, sums over keys, lists that are being made, rows. -/
namespace Tp
open PySem PySem.Spec PyProof.Rows L2

theorem valV_iff {κ : Type} [DecidableEq κ] {kvs : List (κ × V)} {k : κ} : (valV kvs k).isSome = true ↔ k ∈ kvs.map (·.1) := by
  rw [valV_mem, decide_eq_true_iff]
theorem nd_of_map {α β : Type} (f : α → β) : ∀ {l : List α}, (l.map f).Nodup → l.Nodup
  | [], _ => List.nodup_nil
  | a :: r, h => by
    have h2 : (f a :: r.map f).Nodup := h
    obtain ⟨h3, h4⟩ := List.nodup_cons.mp h2
    exact List.nodup_cons.mpr ⟨fun q => h3 (List.mem_map_of_mem q), nd_of_map f h4⟩
/-! ### sorted keys -/
def rk : Ky → Nat
  | .a => 0
  | .b => 1
  | .c => 2
  | .z => 3
theorem rk_inj {j k : Ky} (h : rk j = rk k) : j = k := by cases j <;> cases k <;> first | rfl | exact absurd h (by decide)
theorem rise_rk : ∀ (j k : Ky), (!ltCps (kS k).cps.toList (kS j).cps.toList) = true → rk j ≤ rk k := by
  intro j k
  cases j <;> cases k <;> decide
theorem rise_all : ∀ (ls : List Ky) (j : Ky), risingS (kS j) (ls.map kS) = true → (j :: ls).Pairwise (fun a b => rk a ≤ rk b)
  | [], j, _ => List.pairwise_singleton _ _
  | k :: r, j, h => by
    have h2 : (!ltCps (kS k).cps.toList (kS j).cps.toList && risingS (kS k) (r.map kS)) = true := h
    obtain ⟨h3, h4⟩ := Bool.and_eq_true_iff.mp h2
    have ih := rise_all r k h4
    have hjk := rise_rk j k h3
    refine List.pairwise_cons.mpr ⟨fun x hx => ?_, ih⟩
    rcases List.mem_cons.mp hx with e | hx
    · rw [e]; exact hjk
    · exact Nat.le_trans hjk ((List.pairwise_cons.mp ih).1 x hx)
theorem sorted_rk : ∀ (ls : List Ky), sortedS (ls.map kS) = true → ls.Pairwise (fun a b => rk a ≤ rk b)
  | [], _ => List.Pairwise.nil
  | j :: r, h => rise_all r j h
theorem kys_rk : kys.Pairwise (fun a b => rk a ≤ rk b) := by decide
theorem kys_nd : kys.Nodup := by decide
theorem filter_nd (p : Ky → Bool) : (kys.filter p).Nodup := kys_nd.sublist List.filter_sublist
theorem mem_filter_kys {p : Ky → Bool} {k : Ky} : k ∈ kys.filter p ↔ p k = true := by
  rw [List.mem_filter]
  exact ⟨fun h => h.2, fun h => ⟨mem_kys k, h⟩⟩
/-- the keys of a list that is sorted: those of the four that are there -/
theorem sorted_keys {ks ys : List Str} {p : Ky → Bool} (hp : ys.Perm ks) (hs : sortedS ys = true) (nd : ks.Nodup) (h1 : ∀ x ∈ ks, ∃ k, x = kS k) (h2 : ∀ k, kS k ∈ ks ↔ p k = true) : ys = (kys.filter p).map kS := by
  obtain ⟨ls, rfl⟩ : ∃ ls : List Ky, ys = ls.map kS := by
    have all : ∀ (l : List Str), (∀ x ∈ l, ∃ k, x = kS k) → ∃ ls : List Ky, l = ls.map kS := by
      intro l
      induction l with
      | nil => intro _; exact ⟨[], rfl⟩
      | cons x r ih =>
        intro h
        obtain ⟨k, e⟩ := h x List.mem_cons_self
        obtain ⟨ls, e2⟩ := ih fun y hy => h y (List.mem_cons_of_mem _ hy)
        exact ⟨k :: ls, by rw [e, e2] <;> rfl⟩
    exact all ys fun x hx => h1 x (hp.subset hx)
  have nl : ls.Nodup := nd_of_map kS (hp.symm.nodup nd)
  have e : ls = kys.filter p := by
    refine List.Perm.eq_of_pairwise (le := fun a b => rk a ≤ rk b) (fun a b _ _ u v => rk_inj (Nat.le_antisymm u v)) (sorted_rk ls hs) (kys_rk.sublist List.filter_sublist) ?_
    refine (List.perm_ext_iff_of_nodup nl (filter_nd p)).mpr fun k => ?_
    rw [mem_filter_kys, ← h2]
    constructor
    · intro hk; exact hp.subset (List.mem_map_of_mem hk)
    · intro hk
      obtain ⟨j, hj, ej⟩ := List.mem_map.mp (hp.symm.subset hk)
      rw [← kS_inj ej]; exact hj
  rw [e]
/-- a dict's keys as texts -/
theorem tabOk.strs {kvs : List (L2.Key × V)} (h : tabOk kvs) : ∃ ks : List Str, kvs.map (·.1) = ks.map Sum.inr ∧ ks.Nodup ∧ (∀ x ∈ ks, ∃ k, x = kS k) ∧ ∀ k, kS k ∈ ks ↔ (valV kvs (kK k)).isSome = true := by
  have all : ∀ (l : List L2.Key), (∀ x ∈ l, ∃ k : Ky, x = kK k) → ∃ ks : List Str, l = ks.map Sum.inr ∧ ∀ x ∈ ks, ∃ k, x = kS k := by
    intro l
    induction l with
    | nil => intro _; exact ⟨[], rfl, fun _ q => nomatch q⟩
    | cons x r ih =>
      intro h
      obtain ⟨k, e⟩ := h x List.mem_cons_self
      obtain ⟨ls, e2, e3⟩ := ih fun y hy => h y (List.mem_cons_of_mem _ hy)
      refine ⟨kS k :: ls, by rw [e, e2] <;> rfl, fun y hy => ?_⟩
      rcases List.mem_cons.mp hy with q | q
      · exact ⟨k, q⟩
      · exact e3 y q
  obtain ⟨ks, e1, e2⟩ := all (kvs.map (·.1)) fun x hx => by
    obtain ⟨p, h1, h2⟩ := List.mem_map.mp hx
    obtain ⟨k, e⟩ := h.2 p h1
    exact ⟨k, h2.symm.trans e⟩
  refine ⟨ks, e1, nd_of_map Sum.inr (by rw [← e1]; exact h.1), e2, fun k => ?_⟩
  rw [valV_iff, e1]
  constructor
  · intro q; exact List.mem_map_of_mem q
  · intro q
    obtain ⟨x, h1, h2⟩ := List.mem_map.mp q
    rw [← Sum.inr.inj h2]; exact h1
/-- sorted(d) -/
theorem sortedD_use {H : Hp} {a : Addr} {kvs : List (L2.Key × V)} {Q : VK} (ok : tabOk kvs) (r : Rd H a (.dK kvs))
    (h : ∀ p, H p = none → Q (.ref p) (upd H p (.lst ((kys.filter fun k => (valV kvs (kK k)).isSome).map fun k => .str (kS k))))) : rSortedD [.ref a] H Q := by
  obtain ⟨ks, e1, nd, e2, e3⟩ := ok.strs
  have hl : ks.length = kvs.length := by rw [← List.length_map (f := Sum.inr), ← e1, List.length_map]
  refine ⟨a, kvs, ks, rfl, r, e1, by have := ok.len; omega, fun ys p hp hs hn => ?_⟩
  rw [sorted_keys hp hs nd e2 e3, List.map_map]
  exact h p hn

/-! ### functions of a dict's keys -/
/-- the member at a key -/
def look (f : Ky → D) (x : L2.Key) : D := if x = kK .a then f .a else if x = kK .b then f .b else if x = kK .c then f .c else f .z
theorem look_at (f : Ky → D) (k : Ky) : look f (kK k) = f k := by
  unfold look
  cases k
  · rw [if_pos rfl]
  · rw [if_neg (by decide), if_pos rfl]
  · rw [if_neg (by decide), if_neg (by decide), if_pos rfl]
  · rw [if_neg (by decide), if_neg (by decide), if_neg (by decide)]
theorem sum_filter (g : Ky → Int) (p : Ky → Bool) (h : ∀ k, p k = false → g k = 0) : ((kys.filter p).map g).sum = g .a + g .b + g .c + g .z := by
  have e : ∀ k, p k = true ∨ p k = false := fun k => by cases p k <;> simp
  unfold kys
  rcases e .a with ha | ha <;> rcases e .b with hb | hb <;> rcases e .c with hc | hc <;> rcases e .z with hz | hz <;>
    simp [List.filter_cons, ha, hb, hc, hz, h] <;> omega
theorem perm_sum {l l' : List Int} (h : l.Perm l') : l.sum = l'.sum := by
  induction h with
  | nil => rfl
  | cons x _ ih => simp [ih]
  | swap x y l => simp only [List.sum_cons]; omega
  | trans _ _ a b => exact a.trans b
/-- a dict's keys are the keys that are there, in some order -/
theorem tabOk.perm {kvs : List (L2.Key × V)} (h : tabOk kvs) : (kvs.map (·.1)).Perm ((kys.filter fun k => (valV kvs (kK k)).isSome).map kK) := by
  refine (List.perm_ext_iff_of_nodup h.1 ?_).mpr fun x => ?_
  · exact List.Pairwise.map kK (fun a b ne q => ne (kK_inj q)) (filter_nd _)
  · constructor
    · intro hx
      obtain ⟨p, h1, h2⟩ := List.mem_map.mp hx
      obtain ⟨k, e⟩ := h.2 p h1
      have ex : x = kK k := h2.symm.trans e
      refine List.mem_map.mpr ⟨k, mem_filter_kys.mpr ?_, ex.symm⟩
      rw [valV_iff, ← ex]
      exact hx
    · intro hx
      obtain ⟨k, h1, h2⟩ := List.mem_map.mp hx
      have := mem_filter_kys.mp h1
      rw [valV_iff] at this
      rw [← h2]; exact this
theorem sum_keys {kvs : List (L2.Key × V)} (h : tabOk kvs) (f : Ky → D) (g : D → Int) (hg : ∀ k, valV kvs (kK k) = none → g (f k) = 0) :
    (kvs.map fun kv => g (look f kv.1)).sum = g (f .a) + g (f .b) + g (f .c) + g (f .z) := by
  have e : (kvs.map fun kv => g (look f kv.1)) = (kvs.map (·.1)).map fun x => g (look f x) := by rw [List.map_map]; rfl
  rw [e, perm_sum (h.perm.map _), List.map_map]
  have e2 : ((kys.filter fun k => (valV kvs (kK k)).isSome).map ((fun x => g (look f x)) ∘ kK)) = (kys.filter fun k => (valV kvs (kK k)).isSome).map fun k => g (f k) := by
    refine List.map_congr_left fun k _ => ?_
    show g (look f (kK k)) = g (f k)
    rw [look_at]
  rw [e2]
  exact sum_filter (fun k => g (f k)) _ fun k hk => hg k (by cases q : valV kvs (kK k) with | none => rfl | some u => rw [q] at hk; cases hk)

/-! ### a list that is being made at p -/
structure Acc (H : Hp) (p : Addr) (H2 : Hp) (acc : List V) : Prop where
  old : ∀ b o, b ≠ p → H b = some o → H2 b = some o
  fr : H p = none
  at_ : H2 p = some (.lst acc)
section
variable {H H1 H2 H3 : Hp} {p : Addr} {acc : List V} {v : V}
theorem Acc.start (h : H p = none) : Acc H p (upd H p (.lst [])) [] := ⟨fun b o hb q => by rw [upd_ne hb]; exact q, h, upd_same⟩
theorem Acc.same (B : Acc H p H2 acc) : Same H H2 := fun b o q => B.old b o (ne_of_none q B.fr) q
theorem Acc.call (B : Acc H p H2 acc) (s : Same H2 H3) : Acc H p H3 acc := ⟨fun b o hb q => s _ _ (B.old b o hb q), B.fr, s _ _ B.at_⟩
theorem Acc.push (B : Acc H p H2 acc) (v : V) : Acc H p (upd H2 p (.lst (acc ++ [v]))) (acc ++ [v]) := ⟨fun b o hb q => by rw [upd_ne hb]; exact B.old b o hb q, B.fr, upd_same⟩
theorem Acc.none_of (B : Acc H p H2 acc) {b : Addr} (h : H2 b = none) : upd H p (.lst []) b = none := by
  have ne : b ≠ p := fun e => by rw [e, B.at_] at h; cases h
  rw [upd_ne ne]
  exact B.same.free h
end
/-- a list comprehension whose element's value is told by the turn -/
theorem lt_line {n m : Nat} (h : n ≤ m) (hm : m ≤ 1000) : n < sizeLine := small1000 (Nat.le_trans h hm)

/-! ### rows -/
/-- documents one after another -/
abbrev DocsAt (H : Hp) : List D → List V → Prop := Paired fun d v => DocAt H d v
theorem DocsAt.mono {H H' : Hp} (le : Le H H') {ds : List D} {vs : List V} (h : DocsAt H ds vs) : DocsAt H' ds vs := Paired.mapP h fun _ _ q => q.mono le
theorem DocsAt.ne {H : Hp} : ∀ {ds : List D} {vs : List V}, DocsAt H ds vs → ∀ d ∈ ds, d ≠ .abs
  | _, _, .nil, _, h => nomatch h
  | _, _, .cons r t, d, h => by
    rcases List.mem_cons.mp h with e | h
    · rw [e]; exact r.ne
    · exact DocsAt.ne t d h
theorem DocsAt.nth {H : Hp} {ds : List D} {vs : List V} (h : DocsAt H ds vs) {i : Nat} {v : V} (e : vs[i]? = some v) : ∃ d, ds[i]? = some d ∧ DocAt H d v := by
  induction h generalizing i with
  | nil => simp at e
  | cons r t ih =>
    cases i with
    | zero =>
      have e' := Option.some.inj (show some _ = some v from e)
      subst e'
      exact ⟨_, rfl, r⟩
    | succ i => exact ih (i := i) e
theorem DocsAt.snoc {H : Hp} {ds : List D} {vs : List V} {d : D} {v : V} (h : DocsAt H ds vs) (r : DocAt H d v) : DocsAt H (ds ++ [d]) (vs ++ [v]) := by
  induction h with
  | nil => exact .cons r .nil
  | cons r' t ih => exact .cons r' ih
theorem DocsAt.app {H : Hp} {ds es : List D} {vs us : List V} (h : DocsAt H ds vs) (h' : DocsAt H es us) : DocsAt H (ds ++ es) (vs ++ us) := by
  induction h with
  | nil => exact h'
  | cons r t ih => exact .cons r ih
theorem DocsAt.take {H : Hp} {ds : List D} {vs : List V} (h : DocsAt H ds vs) (n : Nat) : DocsAt H (ds.take n) (vs.take n) := by
  induction h generalizing n with
  | nil => simp only [List.take_nil]; exact .nil
  | cons r t ih =>
    cases n with
    | zero => exact .nil
    | succ n => exact .cons r (ih n)
theorem DocsAt.drop {H : Hp} {ds : List D} {vs : List V} (h : DocsAt H ds vs) (n : Nat) : DocsAt H (ds.drop n) (vs.drop n) := by
  induction h generalizing n with
  | nil => simp only [List.drop_nil]; exact .nil
  | cons r t ih =>
    cases n with
    | zero => exact .cons r t
    | succ n => exact ih n
theorem DocsAt.len {H : Hp} {ds : List D} {vs : List V} (h : DocsAt H ds vs) : vs.length = ds.length := (Paired.length h).symm
def RowAt (H : Hp) (ds : List D) (v : V) : Prop := ∃ a vs, v = .ref a ∧ Rd H a (.lst vs) ∧ DocsAt H ds vs
theorem RowAt.mono {H H' : Hp} (le : Le H H') {ds : List D} {v : V} (h : RowAt H ds v) : RowAt H' ds v := by
  obtain ⟨a, vs, e, r, q⟩ := h
  exact ⟨a, vs, e, le.l _ _ r, q.mono le⟩
/-- patches of a row -/
structure RowOk (n : Nat) (ds : List D) : Prop where
  ne : ∀ d ∈ ds, d ≠ .abs
  dep : ∀ d ∈ ds, d.dep < n
theorem take_more {α : Type} {l : List α} {i : Nat} {x : α} (h : l[i]? = some x) : l.take (i + 1) = l.take i ++ [x] := by rw [List.take_add_one, h] <;> rfl

/-! ### loops that leave the old heap alone -/
section
variable {K : PySem.W.Frag} {g : TG} {tb : TS} {D : Ends} {σ : L2.St} {H : Hp} {a : Addr} {xs : List V}
theorem for_same {en : L2.St → Hp → Prop} {er : VK} (hx : SqL K H a xs) (Pv : Nat → L2.St → Hp → Prop) (h0 : Pv 0 σ H)
    (hs : ∀ j x σ H5, xs[j]? = some x → Same H H5 → Pv j σ H5 → g x σ H5 fun σ2 H6 => tb ⟨fun σ' H' => Same H H' ∧ Pv (j + 1) σ' H', er, en, fun σ' H' => Same H H' ∧ Pv (j + 1) σ' H'⟩ σ2 H6)
    (hd : ∀ σ H5, Same H H5 → Pv xs.length σ H5 → en σ H5) :
    ∃ W : Nat → Nat → L2.St → Hp → Prop, (∃ m, W 0 m σ H) ∧ ∀ i m σ H, W i m σ H →
      ((Itl K a).stop i H ∧ en σ H) ∨ ((Itl K a).go i H ∧ ∃ N : L2.St → Hp → Prop, (∀ σ' H', N σ' H' → ∃ m', m' < m ∧ W (i + 1) m' σ' H') ∧ ∀ x H', (Itl K a).yld i H x H' → g x σ H' fun σ2 H2 => tb ⟨N, er, en, N⟩ σ2 H2) := by
  refine for_it (D := ⟨en, er, fun _ _ => False, fun _ _ => False⟩) (walk_list (xs := xs)) (fun j σ H5 => Same H H5 ∧ Pv j σ H5) ⟨Same.refl H, h0⟩ (fun _ _ _ _ h => h.1.seq hx) (fun j x σ H5 H6 _ h y => ?_) (fun σ H5 h => hd σ H5 h.1 h.2)
  obtain ⟨rfl, hx⟩ := y
  exact hs j x σ H6 hx h.1 h.2
end
theorem map_nth {α β : Type} {f : α → β} {l : List α} {i : Nat} {x : β} (h : (l.map f)[i]? = some x) : ∃ y, l[i]? = some y ∧ x = f y := by
  rw [List.getElem?_map] at h
  cases e : l[i]? with
  | none => rw [e] at h; cases h
  | some y => rw [e] at h; exact ⟨y, rfl, (Option.some.inj h).symm⟩
theorem dgetK {H : Hp} {a : Addr} {kvs : List (L2.Key × V)} (r : Rd H a (.dK kvs)) (k : Ky) : DGet H a (.str (kS k)) (valV kvs (kK k)) := .inl ⟨kvs, kK k, r, rfl, rfl⟩
theorem dgetU {H : Hp} {a : Addr} {kvs : List (L2.Key × V)} {k : Ky} {u : V} (r : Rd H a (.dK kvs)) (e : valV kvs (kK k) = some u) : DGet H a (.str (kS k)) (some u) := by
  rw [← e]
  exact dgetK r k
theorem szO {n : Nat} (h : n ≤ 100000) : n ≤ sizeLine := Nat.le_trans h (by decide)
theorem dputK {H : Hp} {a : Addr} {kvs : List (L2.Key × V)} (e : H a = some (.dK kvs)) (ok : tabOk kvs) (k : Ky) (u : V) : DPut H a (.str (kS k)) u (upd H a (.dK (putK kvs (kK k) u))) := .inl ⟨kvs, kK k, e, rfl, ok.lt, rfl⟩
/-- path + (key,) -/
theorem xPath {K : PySem.W.Frag} {σ : L2.St} {H : Hp} {i j : Nat} {p : Addr} {xs : List V} {s : Str} {Q : VK} (h1 : σ[i]? = some (some (.ref p))) (hp : H p = some (.tup xs)) (h2 : σ[j]? = some (some (.str s))) (hl : xs.length ≤ 900)
    (q : ∀ t H', Same H H' → H' t = some (.tup (xs ++ [.str s])) → Q (.ref t) H') : tOp (rCatA K) (tVar i) (tTup (tCons (tVar j) tNil)) σ H Q := by
  refine ⟨_, h1, _, h2, szO (show 1 ≤ 100000 by decide), fun p1 hp1 => ?_⟩
  have s1 := same_new hp1 (.tup [.str s])
  refine ⟨p, p1, xs, [.str s], rfl, rfl, SqT.of (s1 _ _ hp), SqT.of upd_same, szO (by show xs.length + 1 ≤ _; omega), fun e => q p1 _ s1 (by subst e; exact upd_same), fun _ e => (nomatch e), fun _ _ p2 hp2 => q p2 _ (s1.trans (same_new hp2 _)) upd_same⟩
/-! ### comprehensions -/
def AccP (H1 : Hp) (p : Addr) (Pv : Nat → Hp → List V → Prop) (i : Nat) (H : Hp) : Prop := ∃ acc, Acc H1 p H acc ∧ acc.length ≤ i ∧ Pv i (nw (upd H1 p (.lst [])) H) acc
theorem accPush {H1 H H4 : Hp} {p : Addr} {acc : List V} {i : Nat} {y : V} {Pv : Nat → Hp → List V → Prop} (B : Acc H1 p H acc) (hl : acc.length ≤ i) (hi : i < 1000) (s : Same H H4) (q : Pv (i + 1) (nw (upd H1 p (.lst [])) H4) (acc ++ [y])) :
    ∃ acc, H4 p = some (.lst acc) ∧ acc.length < sizeLine ∧ AccP H1 p Pv (i + 1) (upd H4 p (.lst (acc ++ [y]))) := by
  refine ⟨acc, s _ _ B.at_, small1000 (by omega), acc ++ [y], (B.call s).push y, by rw [List.length_append]; show acc.length + 1 ≤ _; omega, ?_⟩
  rw [nw_upd]
  exact q
theorem accSkip {H1 H H4 : Hp} {p : Addr} {acc : List V} {i : Nat} {Pv : Nat → Hp → List V → Prop} (B : Acc H1 p H acc) (hl : acc.length ≤ i) (s : Same H H4) (q : Pv (i + 1) (nw (upd H1 p (.lst [])) H4) acc) : AccP H1 p Pv (i + 1) H4 :=
  ⟨acc, B.call s, by omega, q⟩
theorem lc_acc {J : It} {n : Nat} {G : Hp → Prop} {Y : Nat → Hp → V → Hp → Prop} (w : Walk J n G Y) {g : TG} {tt : TT} {te : TE} {vs : List Nat} {σ : L2.St} {H1 : Hp} {p : Addr} {Qd : Hp → Prop} (hp : H1 p = none) (Pv : Nat → Hp → List V → Prop)
    (hG : ∀ H, Same H1 H → G H) (h0 : ∀ N, Pv 0 N [])
    (hs : ∀ i x H H' acc, i < n → Acc H1 p H acc → acc.length ≤ i → Pv i (nw (upd H1 p (.lst [])) H) acc → Y i H x H' → g x (wipe σ vs) H' fun σ2 H2 => wipe σ2 vs = wipe σ vs ∧ tt σ2 H2 fun b H3 =>
      if b = true then te σ2 H3 fun y H4 => ∃ acc, H4 p = some (.lst acc) ∧ acc.length < sizeLine ∧ AccP H1 p Pv (i + 1) (upd H4 p (.lst (acc ++ [y]))) else AccP H1 p Pv (i + 1) H3)
    (hd : ∀ H acc, Acc H1 p H acc → acc.length ≤ n → Pv n (nw (upd H1 p (.lst [])) H) acc → Qd H) :
    ∃ W : Nat → Nat → Hp → Prop, (∃ m, W 0 m (upd H1 p (.lst []))) ∧ ∀ i m H, W i m H →
      (J.stop i H ∧ Qd H) ∨ (J.go i H ∧ ∃ Nx : Hp → Prop, (∀ H', Nx H' → ∃ m', m' < m ∧ W (i + 1) m' H') ∧ ∀ x H', J.yld i H x H' → g x (wipe σ vs) H' fun σ2 H2 => wipe σ2 vs = wipe σ vs ∧ tt σ2 H2 fun b H3 =>
        if b = true then te σ2 H3 fun y H4 => ∃ acc, H4 p = some (.lst acc) ∧ acc.length < sizeLine ∧ Nx (upd H4 p (.lst (acc ++ [y]))) else Nx H3) := by
  refine lc_it w (AccP H1 p Pv) ⟨[], Acc.start hp, Nat.le_refl _, h0 _⟩ (fun i H _ ⟨acc, B, _⟩ => hG H B.same) (fun i x H H' hi ⟨acc, B, hl, q⟩ y => hs i x H H' acc hi B hl q y) fun H ⟨acc, B, hl, q⟩ => hd H acc B hl q
end Tp
end
section
set_option maxRecDepth 100000
set_option maxHeartbeats 4000000
/-! Rules that the layer lacks: tuples without a namespace; dict(of such a tuple of pairs). -/
namespace Tp
open PySem PySem.Spec PyProof.Rows L2
def rTupleF (K : PySem.W.Frag) : List V → Hp → VK → Prop := fun xs H Q => ∃ p ys, xs = [.ref p] ∧ SqL K H p ys ∧ ∀ (l : Addr) (o : Obj), H l = none → o.dict = none → Q (.ref l) (upd H l (.frz o (.tup ys)))
def rDictF (K : PySem.W.Frag) : List V → Hp → VK → Prop := fun xs H Q => ∃ (a : Addr) (ps : List Addr) (kvs : List (L2.Key × V)), xs = [.ref a] ∧ TupF H a (ps.map V.ref) ∧ Paired (fun p kv => SqT K H p [kV kv.1, kv.2]) ps kvs ∧
  ∀ p, H p = none → Q (.ref p) (upd H p (.dK (mergeK [] kvs)))
section
variable {X : Cx}
theorem call_tupleF : CallR X (.type "tuple") (rTupleF X.K) := by
  intro pins s σ H xs us Q I r h
  obtain ⟨p, ys, rfl, hq, q⟩ := h
  obtain ⟨u, rfl, rx⟩ := vals1 r
  cases rx
  obtain ⟨its, r', pl, hz⟩ := I.list hq
  have hlen := r'.length
  refine call_tuple_list pl.isList (fun h' kp => ?_) (by simp only [List.size_toArray] <;> omega)
  have I1 : Inv X pins σ H { s with heap := h' } := I.kept (t' := s.toks) kp
  have I2 : Inv X pins σ (upd H h'.objs.size (.frz { cls := .type "tuple", data := .seq its.toArray } (.tup ys))) { s with heap := h'.push { cls := .type "tuple", data := .seq its.toArray } } :=
    I1.laid (t' := s.toks) (fun b o e => Heap.get?_push_of_some _ e) (Nat.le_refl _) (show ObjOk X.prog X.w _ _ _ (.frz _ (.tup ys)) from ⟨Heap.get?_push_size _ rfl, hz, its, r', IsTup.new _ _⟩)
  exact ⟨.ref h'.objs.size, _, I2, rfl, q _ _ (I1.hok.fresh (Nat.le_refl _)) rfl⟩
theorem pairsV_of {pins : List (Addr × Obj)} {σ : L2.St} {H : Hp} {s : Shared} (I : Inv X pins σ H s) : ∀ {ps : List Addr} {kvs : List (L2.Key × V)}, Paired (fun p kv => SqT X.K H p [kV kv.1, kv.2]) ps kvs →
    ∃ (prs : List (L2.Key × Value)) (uvs : List (Value × Value)), KV kvs prs ∧ prs.length = ps.length ∧ uvs.length = ps.length ∧
      ∀ (j : Nat) (u y : Value), uvs[j]? = some (u, y) → ∃ (b : Addr) (k : L2.Key), ps[j]? = some b ∧ IsTup s.heap b #[u, y] ∧ prs[j]? = some (k, y) ∧ keyIs k u = true
  | _, _, .nil => ⟨[], [], .nil, rfl, rfl, fun j u y e => by simp at e⟩
  | _, _, .cons (a := p) (b := kv) h t => by
    obtain ⟨prs, uvs, r, hl, hl2, hp⟩ := pairsV_of I t
    obtain ⟨its, rv, ht, _⟩ := I.tuple h
    obtain ⟨u, y, ei, ru, ry⟩ := vals2 rv
    subst ei
    refine ⟨(kv.1, y) :: prs, (u, y) :: uvs, .cons ⟨rfl, ry⟩ r, by rw [List.length_cons, List.length_cons, hl], by rw [List.length_cons, List.length_cons, hl2], fun j u' y' e => ?_⟩
    cases j with
    | zero =>
      have e' : (u, y) = (u', y') := Option.some.inj e
      cases e'
      exact ⟨p, kv.1, rfl, ht, rfl, kV_is (P := X.prog) (w := X.w) ru⟩
    | succ j =>
      obtain ⟨b, k, e1, e2, e3, e4⟩ := hp j u' y' (by simpa using e)
      exact ⟨b, k, by simpa using e1, e2, by simpa using e3, e4⟩
theorem call_dictF (hcalm : X.calm = true) : CallR X (.type "dict") (rDictF X.K) := by
  intro pins s σ H xs us Q I r q
  obtain ⟨a, ps, kvs, ex, ⟨ot, hq, hdn⟩, hp, q⟩ := q
  subst ex
  obtain ⟨u, eu, rx⟩ := vals1 r
  subst eu
  cases rx
  obtain ⟨ho, hz, its, rv, o', ho', hc, n, hdat⟩ := I.hok a _ hq
  have eo : ot = o' := Option.some.inj (ho.symm.trans ho')
  subst eo
  have ei := refs_at rv
  subst ei
  rw [List.length_map] at hz
  obtain ⟨prs, uvs, rel, hl, hl2, hpr⟩ := pairsV_of I hp
  have P := PySem.PairArg.tuple (prog := X.prog) (w := X.w) a (ps.map Value.ref).toArray (fun j => ps.getD j 0) uvs
  refine PySem.call_dict_pairs (knd := mixKind X.prog X.w) (kvs := prs) P (I.ok.hd hcalm) ⟨⟨ot, n, ho, hc, hdn, hdat⟩, by simp [hl2], fun j k v e => ?_⟩ ⟨by rw [hl, hl2], fun i k v e => ?_⟩ (by rw [hl2]; exact hz) fun h' tk hd' k => ?_
  · obtain ⟨b, k', e1, e2, _⟩ := hpr j k v e
    refine ⟨by simp [e1], ?_⟩
    have eb : ps.getD j 0 = b := by simp [List.getD, e1]
    show PairAt s.heap (ps.getD j 0) k v
    rw [eb]
    exact .inl e2
  · obtain ⟨b, k', _, _, e3, e4⟩ := hpr i k v e
    exact ⟨k', e3, e4⟩
  · have hm : (s.heap.objs.size == sysModules) = false := beq_eq_false_iff_ne.mpr (Nat.ne_of_gt I.big)
    have hlen : (mergeK [] kvs).length ≤ sizeLine := by
      refine Nat.le_trans (length_mergeK kvs []) ?_
      rw [List.length_nil, Nat.zero_add, rel.length, hl]
      exact hz
    exact ⟨.ref s.heap.objs.size, upd H s.heap.objs.size (.dK (mergeK [] kvs)), I.laid (t' := tk) (fun b o e => k b o (fun z => nomatch z) e) (Nat.le_refl _) (show ObjOk X.prog X.w _ _ _ (.dK (mergeK [] kvs)) from ⟨hlen, hm, merged [] prs, KV.merge rel .nil, hd'⟩), rfl, q _ (I.hok.fresh (Nat.le_refl _))⟩
end
end Tp
namespace Tp
open PySem PySem.Spec PyProof.Rows L2
section
variable {X : Cx} {k j : Nat} {C : Addr} {sp : Sp}
/-- x == y by the class's own method, where it is true -/
theorem op_eqO {R : Addr → Addr → Hp → Prop} (c : C8.Met X.prog X.w X.K X.mg X.base k C "__eq__" (spEq R) []) (hr : Room j X.A) (hk : k ≤ j) : OpR X (compareOp .Eq) (rEqG (DIns C R)) := by
  obtain ⟨f, fd, ps, ds, hc, hm, F, b, d⟩ := c.ex
  cases d
  exact op_eqG (rcG_ins (E := C8.E0) F hm.at_ hm.fn b C8.pass0) (hr.mono hk)
/-- x + y by the class's own method -/
def rAddO (C : Addr) (sp : Sp) : R2 := fun x y H Q => ∃ a b dx dy fs gs, x = .ref a ∧ y = .ref b ∧ H a = some (.ins C dx fs) ∧ H b = some (.ins C dy gs) ∧ sp [.ref a, .ref b] H Q C8.E0
theorem op_addO (c : C8.Met X.prog X.w X.K X.mg X.base k C "__add__" sp []) (sf : PySem.W.selfFirst X.K C = true) (hr : Room j X.A) (hk : k ≤ j) : OpR X (binaryOp .Add) (rAddO C sp) := by
  obtain ⟨f, fd, ps, ds, hc, hm, F, b, d⟩ := c.ex
  cases d
  intro pins s σ H x y u v Q I rx ry h
  obtain ⟨a, b', dx, dy, fs, gs, rfl, rfl, ha, hb', hq⟩ := h
  cases rx
  cases ry
  obtain ⟨mA, J, _⟩ := ins_get I.hok ha
  obtain ⟨mB, J', _⟩ := ins_get I.hok hb'
  obtain ⟨od, J, _⟩ := J.look
  obtain ⟨od', J', _⟩ := J'.look
  obtain ⟨m, hF⟩ := I.fr
  have r2 : Vals [V.ref a, V.ref b'] [Value.ref a, Value.ref b'] := .cons rfl (.cons rfl .nil)
  refine PySem.W.binop_K hF I.ok.mod.kin J J'.type sf hm.at_ hm.fn (thn (run_fn (dvs := []) F (hr.mono hk) b .nil C8.pass0 I r2 hq) fun r s' z => ?_)
  obtain ⟨zv, H', I', rz, qz⟩ := z
  cases r with
  | notImplemented => cases (show (none : Option V) = some zv from rz.abs)
  | _ => exact ⟨zv, H', I', rz, qz⟩
end
end Tp
namespace Tp
open PySem PySem.Spec PyProof.Rows L2
/-- f(e, ..), f an expression that gives an instance of C -/
theorem pe_cO {X : Cx} {k j : Nat} {C g : Addr} {sp : Sp} {fe e : Expr} {es : List Expr} {tf : TE} {t : TA} {pos : Pos} (hf : PE X fe tf) (c : C8.Met X.prog X.w X.K X.mg X.base k C "__call__" sp []) (co : StX.CallO X.K C g) (hr : Room j X.A) (hk : k ≤ j) (ha : PA X (e :: es) t)
    (ht : eval (.Call fe (e :: es) [] pos) X.env = (do callWith pos (← eval fe X.env) [] (backTo pos (starEach (e :: es) X.env)) (backToKw pos (keywordEach [] X.env))) := by rfl)
    (he : starEach (e :: es) X.env = (false, eval e X.env) :: starEach es X.env := by rfl) (hpl : (backTo pos (starEach es X.env)).any (·.1) = false := by rfl) : PE X (.Call fe (e :: es) [] pos) (StX.tCallO X C sp C8.E0 tf t) := by
  obtain ⟨f, fd, ps, ds, hc, hm, F, b, d⟩ := c.ex
  cases d
  have ef : f = g := by
    have := hm.at_.symm.trans co.at_
    cases this
    rfl
  subst ef
  exact StX.pe_callO hf co ((F.raw b .nil).imp fun vs H Q E h => by rw [List.append_nil]; exact h) (hr.mono hk) C8.pass0 ha ht he hpl
end Tp
namespace Tp
open PySem PySem.Spec PyProof.Rows L2
/-- o.f as a target among others -/
def gFld (K : PySem.W.Frag) (ta : TE) (f : Str) : TG := fun v σ H Q => ta σ H fun x H2 => ∃ a C dx fs, x = .ref a ∧ H2 a = some (.ins C dx fs) ∧ Cls K C ∧ NoAttr K C f ∧ fs.length < 1000 ∧ Q σ (upd H2 a (.ins C dx (putF f v fs)))
theorem pg_fld {X : Cx} {o : Expr} {f : Str} {pos : Pos} {ta : TE} (ho : PE X o ta) : PG X (.Attribute o f pos) (gFld X.K ta f) := by
  refine ⟨fun pins s σ H v u Q I r h => ?_⟩
  refine PySem.W.kas_attr (thn (ho.run pins s σ H _ I h) fun ov s1 ⟨x, H1, I1, rx, a, C, dx, fs, ex, ea, c, n, l, q⟩ => ?_)
  subst ex
  obtain rfl : ov = Value.ref a := rx
  exact setattr_ok I1 ea c n l r fun s3 I3 => ⟨σ, _, I3, q⟩
end Tp
end
section
set_option maxRecDepth 100000
set_option maxHeartbeats 4000000
/-! How effects lie in the abstract heap. -/
namespace Tp
open PySem PySem.Spec PyProof.Rows L2
/-- what never changes: tuples, effects -/
structure Im (C : Addr) (H H' : Hp) : Prop where
  t : ∀ a xs, H a = some (.tup xs) → H' a = some (.tup xs)
  f : ∀ a o xs, H a = some (.frz o (.tup xs)) → H' a = some (.frz o (.tup xs))
  i : ∀ a dx fs, H a = some (.ins C dx fs) → H' a = some (.ins C dx fs)
theorem Im.le {C : Addr} {H H' : Hp} (h : Le H H') : Im C H H' := ⟨h.t, h.f, fun a dx fs => h.i a C dx fs⟩
theorem Im.of {C : Addr} {H H' : Hp} (h : Same H H') : Im C H H' := Im.le (Le.of h)
theorem Im.refl (C : Addr) (H : Hp) : Im C H H := Im.of (Same.refl H)
theorem Im.trans {C : Addr} {H H1 H2 : Hp} (a : Im C H H1) (b : Im C H1 H2) : Im C H H2 := ⟨fun x y h => b.t x y (a.t x y h), fun x y z h => b.f x y z (a.f x y z h), fun x y z h => b.i x y z (a.i x y z h)⟩
theorem Im.tf {C : Addr} {H H' : Hp} (le : Im C H H') {a : Addr} {xs : List V} (h : TupF H a xs) : TupF H' a xs := let ⟨o, h, e⟩ := h; ⟨o, le.f _ _ _ h, e⟩
/-- something else changes -/
theorem Im.set {C p : Addr} {H : Hp} {o o' : HO} (h : H p = some o) (n1 : ∀ xs, o ≠ .tup xs) (n2 : ∀ ob xs, o ≠ .frz ob (.tup xs)) (n3 : ∀ dx fs, o ≠ .ins C dx fs) : Im C H (upd H p o') := by
  have ne : ∀ {a : Addr} {u : HO}, H a = some u → (o ≠ u) → a ≠ p := fun {a u} e n z => by rw [z, h] at e; exact n (Option.some.inj e)
  refine ⟨fun a xs q => ?_, fun a ob xs q => ?_, fun a dx fs q => ?_⟩
  · rw [upd_ne (ne q (n1 xs))]; exact q
  · rw [upd_ne (ne q (n2 ob xs))]; exact q
  · rw [upd_ne (ne q (n3 dx fs))]; exact q
theorem Im.lst {C p : Addr} {H : Hp} {xs : List V} {o' : HO} (h : H p = some (.lst xs)) : Im C H (L2.upd H p o') := Im.set h (fun _ e => nomatch e) (fun _ _ e => nomatch e) (fun _ _ e => nomatch e)
theorem Im.dk {C p : Addr} {H : Hp} {xs : List (L2.Key × V)} {o' : HO} (h : H p = some (.dK xs)) : Im C H (L2.upd H p o') := Im.set h (fun _ e => nomatch e) (fun _ _ e => nomatch e) (fun _ _ e => nomatch e)
/-! ### lists of pairs -/
def PairIs (H : Hp) (p : Addr) (kv : L2.Key × V) : Prop := H p = some (.tup [kV kv.1, kv.2])
abbrev PairsAt (H : Hp) : List Addr → List (L2.Key × V) → Prop := Paired (PairIs H)
theorem PairsAt.mono {H H' : Hp} (le : ∀ a xs, H a = some (.tup xs) → H' a = some (.tup xs)) {ps : List Addr} {kvs : List (L2.Key × V)} (h : PairsAt H ps kvs) : PairsAt H' ps kvs := Paired.mapP h fun _ _ q => le _ _ q
theorem PairsAt.snoc {H : Hp} {ps : List Addr} {kvs : List (L2.Key × V)} {t : Addr} {kv : L2.Key × V} (h : PairsAt H ps kvs) (e : PairIs H t kv) : PairsAt H (ps ++ [t]) (kvs ++ [kv]) := by
  induction h with
  | nil => exact .cons e .nil
  | cons r _ ih => exact .cons r ih
theorem PairsAt.app {H : Hp} {ps qs : List Addr} {kvs ls : List (L2.Key × V)} (h : PairsAt H ps kvs) (h' : PairsAt H qs ls) : PairsAt H (ps ++ qs) (kvs ++ ls) := by
  induction h with
  | nil => exact h'
  | cons r _ ih => exact .cons r ih
theorem PairsAt.nth {H : Hp} {ps : List Addr} {kvs : List (L2.Key × V)} (h : PairsAt H ps kvs) {i : Nat} {x : V} (e : (ps.map V.ref)[i]? = some x) : ∃ p kv, x = .ref p ∧ kvs[i]? = some kv ∧ PairIs H p kv := by
  induction h generalizing i with
  | nil => simp at e
  | cons r t ih =>
    cases i with
    | zero =>
      have e' := Option.some.inj (show some (V.ref _) = some x from e)
      exact ⟨_, _, e'.symm, rfl, r⟩
    | succ i => exact ih (i := i) e
theorem PairsAt.seqT {K : PySem.W.Frag} {H : Hp} {ps : List Addr} {kvs : List (L2.Key × V)} (h : PairsAt H ps kvs) : Paired (fun p kv => SqT K H p [kV kv.1, kv.2]) ps kvs := Paired.mapP h fun _ _ q => SqT.of q
theorem PairsAt.len {H : Hp} {ps : List Addr} {kvs : List (L2.Key × V)} (h : PairsAt H ps kvs) : ps.length = kvs.length := Paired.length h
theorem mergeK_nd : ∀ (kvs acc : List (L2.Key × V)), ((acc ++ kvs).map (·.1)).Nodup → mergeK acc kvs = acc ++ kvs
  | [], acc, _ => (List.append_nil acc).symm
  | kv :: r, acc, nd => by
    have h0 : valV acc kv.1 = none := by
      cases e : valV acc kv.1 with
      | none => rfl
      | some u =>
        have hm : kv.1 ∈ acc.map (·.1) := valV_iff.mp (by rw [e] <;> rfl)
        rw [List.map_append] at nd
        exact ((List.nodup_append.mp nd).2.2 _ hm _ (by rw [List.map_cons]; exact List.mem_cons_self) rfl).elim
    have e1 : putK acc kv.1 kv.2 = acc ++ [kv] := by
      unfold putK
      rw [valV_any, h0, if_neg (by simp)]
    show mergeK (putK acc kv.1 kv.2) r = _
    rw [e1, mergeK_nd r (acc ++ [kv]) (by rw [List.append_assoc]; exact nd), List.append_assoc] <;> rfl
theorem tabOk.merge {kvs : List (L2.Key × V)} (ok : tabOk kvs) : mergeK [] kvs = kvs := mergeK_nd kvs [] (by rw [List.nil_append]; exact ok.1)

/-! ### members -/
/-- the members' tuple: the keys that are there, in order -/
def prs (g : Ky → Option V) (ks : List Ky) : List (L2.Key × V) := ks.filterMap fun k => (g k).map fun u => (kK k, u)
def MemAt (H : Hp) (g : Ky → Option V) (tp : Addr) : Prop := ∃ ps, TupF H tp (ps.map V.ref) ∧ PairsAt H ps (prs g kys)
theorem MemAt.mono {C : Addr} {H H' : Hp} (le : Im C H H') {g : Ky → Option V} {tp : Addr} (h : MemAt H g tp) : MemAt H' g tp := by
  obtain ⟨ps, t, p⟩ := h
  exact ⟨ps, le.tf t, p.mono le.t⟩
theorem prs_keys (g : Ky → Option V) : ∀ ks : List Ky, (prs g ks).map (·.1) = (ks.filter fun k => (g k).isSome).map kK
  | [] => rfl
  | k :: r => by
    have ih := prs_keys g r
    unfold prs at ih ⊢
    cases e : g k with
    | none => simp [List.filterMap_cons, List.filter_cons, e, ih]
    | some u => simp [List.filterMap_cons, List.filter_cons, e, ih]
theorem prs_ok (g : Ky → Option V) : tabOk (prs g kys) := by
  refine ⟨?_, fun p hp => ?_⟩
  · rw [prs_keys]
    exact List.Pairwise.map kK (fun a b ne q => ne (kK_inj q)) (filter_nd _)
  · obtain ⟨k, _, e⟩ := List.mem_filterMap.mp hp
    cases h : g k with
    | none => rw [h] at e; cases e
    | some u =>
      rw [h] at e
      exact ⟨k, (congrArg Prod.fst (Option.some.inj e)).symm⟩
theorem prs_val (g : Ky → Option V) (k : Ky) : ∀ ks : List Ky, valV (prs g ks) (kK k) = if k ∈ ks then g k else none
  | [] => rfl
  | j :: r => by
    have ih := prs_val g k r
    unfold prs at ih ⊢
    rw [List.filterMap_cons]
    cases e : g j with
    | none =>
      show valV (List.filterMap _ r) (kK k) = _
      rw [ih]
      by_cases q : k = j
      · subst q; simp [e]
      · simp [q]
    | some u =>
      show valV ((kK j, u) :: List.filterMap _ r) (kK k) = _
      by_cases q : j = k
      · subst q
        rw [valV_pos (p := (kK j, u)) rfl]
        simp [e]
      · rw [valV_neg (p := (kK j, u)) (fun z => q (kK_inj z)), ih]
        have q' : ¬ k = j := fun z => q z.symm
        simp [q']
theorem prs_at (g : Ky → Option V) (k : Ky) : valV (prs g kys) (kK k) = g k := by rw [prs_val, if_pos (mem_kys k)]
theorem prs_nth {g : Ky → Option V} {i : Nat} {kv : L2.Key × V} (e : (prs g kys)[i]? = some kv) : ∃ k u, kv = (kK k, u) ∧ g k = some u ∧ ((prs g kys).map (·.1))[i]? = some (kK k) := by
  obtain ⟨k, h1, h2, h3⟩ := (prs_ok g).nth e
  refine ⟨k, kv.2, Prod.ext h1 rfl, ?_, h3⟩
  rw [prs_at] at h2
  exact h2
theorem prs_of {g : Ky → Option V} {k : Ky} {u : V} (h : g k = some u) : ∃ i : Nat, (prs g kys)[i]? = some (kK k, u) := by
  have hm : (kK k, u) ∈ prs g kys := List.mem_filterMap.mpr ⟨k, mem_kys k, by rw [h] <;> rfl⟩
  exact List.getElem?_of_mem hm

theorem prs_get {g : Ky → Option V} {i : Nat} {k : Ky} (e : (kys.filter fun k => (g k).isSome)[i]? = some k) : ∃ u, g k = some u ∧ (prs g kys)[i]? = some (kK k, u) := by
  have h : ((prs g kys).map (·.1))[i]? = some (kK k) := by rw [prs_keys, List.getElem?_map, e] <;> rfl
  obtain ⟨kv, h1, h2⟩ := map_nth h
  obtain ⟨j, u, rfl, h3, _⟩ := prs_nth h1
  have : k = j := kK_inj h2
  subst this
  exact ⟨u, h3, h1⟩
/-! ### effects -/
def AtOut (H : Hp) : At → V → Prop
  | .pl x => fun w => w = x.v
  | .lst xs => fun w => ∃ p, w = .ref p ∧ H p = some (.tup (xs.map A0.v)) ∧ xs.length ≤ 999
theorem AtOut.mono {C : Addr} {H H' : Hp} (le : Im C H H') : ∀ {x : At} {w : V}, AtOut H x w → AtOut H' x w
  | .pl _, _, h => h
  | .lst _, _, ⟨p, e, q, z⟩ => ⟨p, e, le.t _ _ q, z⟩
def flds (kind : Str) (w : V) (tp : Addr) : List (Str × V) := [("kind", .str kind), ("atom", w), ("members", .ref tp)]
def InsE (C : Addr) (H : Hp) (v : V) (kind : Str) (x : At) (g : Ky → Option V) : Prop :=
  ∃ a dx w tp, v = .ref a ∧ H a = some (.ins C dx (flds kind w tp)) ∧ AtOut H x w ∧ MemAt H g tp
theorem InsE.mono {H H' : Hp} {C : Addr} (le : Im C H H') {v : V} {kind : Str} {x : At} {g : Ky → Option V} (h : InsE C H v kind x g) : InsE C H' v kind x g := by
  obtain ⟨a, dx, w, tp, e, h1, h2, h3⟩ := h
  exact ⟨a, dx, w, tp, e, le.i _ _ _ h1, h2.mono le, h3.mono le⟩
def noM : Ky → Option V := fun _ => none
def EffAt (C : Addr) (H : Hp) : E → V → Prop
  | .keep => fun v => InsE C H v "keep" non noM
  | .drop => fun v => InsE C H v "drop" non noM
  | .set x => fun v => InsE C H v "set" x noM
  | .mrg f => fun v => ∃ g, InsE C H v "merge" non g ∧ ∀ k, match g k with
    | none => f k = .keep
    | some u => f k ≠ .keep ∧ EffAt C H (f k) u
  | .bld f => fun v => ∃ g, InsE C H v "build" non g ∧ ∀ k, match g k with
    | none => f k = .drop
    | some u => f k ≠ .drop ∧ EffAt C H (f k) u
def MoE (C : Addr) (H : Hp) (z e : E) (o : Option V) : Prop := match o with
  | none => e = z
  | some u => e ≠ z ∧ EffAt C H e u
section
variable {C : Addr} {H H' : Hp} {f : Ky → E} {e : E} {v : V}
theorem EffAt.mrg_iff : EffAt C H (.mrg f) v ↔ ∃ g, InsE C H v "merge" non g ∧ ∀ k, MoE C H .keep (f k) (g k) := Iff.rfl
theorem EffAt.bld_iff : EffAt C H (.bld f) v ↔ ∃ g, InsE C H v "build" non g ∧ ∀ k, MoE C H .drop (f k) (g k) := Iff.rfl
theorem EffAt.mono (le : Im C H H') : ∀ {e : E} {v : V}, EffAt C H e v → EffAt C H' e v
  | .keep, _, h => InsE.mono le h
  | .drop, _, h => InsE.mono le h
  | .set _, _, h => InsE.mono le h
  | .mrg f, v, h => by
    obtain ⟨g, h1, h2⟩ := EffAt.mrg_iff.mp h
    refine EffAt.mrg_iff.mpr ⟨g, h1.mono le, fun k => ?_⟩
    have q := h2 k
    cases e : g k with
    | none => rw [e] at q; exact q
    | some u =>
      rw [e] at q
      exact ⟨q.1, EffAt.mono le (e := f k) q.2⟩
  | .bld f, v, h => by
    obtain ⟨g, h1, h2⟩ := EffAt.bld_iff.mp h
    refine EffAt.bld_iff.mpr ⟨g, h1.mono le, fun k => ?_⟩
    have q := h2 k
    cases e : g k with
    | none => rw [e] at q; exact q
    | some u =>
      rw [e] at q
      exact ⟨q.1, EffAt.mono le (e := f k) q.2⟩
theorem MoE.mono (le : Im C H H') {z : E} {o : Option V} (h : MoE C H z e o) : MoE C H' z e o := by
  cases o with
  | none => exact h
  | some u => exact ⟨h.1, h.2.mono le⟩
end
/-- an effect, told all at once -/
def E.kind : E → Str
  | .keep => "keep"
  | .drop => "drop"
  | .set _ => "set"
  | .mrg _ => "merge"
  | .bld _ => "build"
def E.atm : E → At
  | .set x => x
  | _ => non
def E.kid : E → Ky → E
  | .mrg f, k => f k
  | .bld f, k => f k
  | _, _ => .keep
def E.nil : E → E
  | .bld _ => .drop
  | _ => .keep
theorem EffAt.view {C : Addr} {H : Hp} : ∀ {e : E} {v : V}, EffAt C H e v → ∃ g, InsE C H v e.kind e.atm g ∧ ∀ k, MoE C H e.nil (e.kid k) (g k)
  | .keep, _, h => ⟨noM, h, fun _ => rfl⟩
  | .drop, _, h => ⟨noM, h, fun _ => rfl⟩
  | .set _, _, h => ⟨noM, h, fun _ => rfl⟩
  | .mrg _, _, h => h
  | .bld _, _, h => h
theorem EffAt.dec {C : Addr} {H : Hp} {e : E} {v : V} (h : EffAt C H e v) : ∃ a dx w tp ps g, v = .ref a ∧ H a = some (.ins C dx (flds e.kind w tp)) ∧ AtOut H e.atm w ∧ TupF H tp (ps.map V.ref) ∧ PairsAt H ps (prs g kys) ∧ ∀ k, MoE C H e.nil (e.kid k) (g k) := by
  obtain ⟨g, ⟨a, dx, w, tp, e1, e2, e3, ps, e4, e5⟩, m⟩ := h.view
  exact ⟨a, dx, w, tp, ps, g, e1, e2, e3, e4, e5, m⟩
theorem kid_lt {e : E} {n : Nat} (h : e.dep < n + 1) {C : Addr} {H : Hp} {o : Option V} {k : Ky} {u : V} (m : MoE C H e.nil (e.kid k) o) (ho : o = some u) : (e.kid k).dep < n := by
  cases e with
  | mrg f =>
    have h1 : 1 + mx4 (fun k => (f k).dep) < n + 1 := h
    have := mx4_le.mp (Nat.le_refl (mx4 fun k => (f k).dep)) k
    show (f k).dep < n
    omega
  | bld f =>
    have h1 : 1 + mx4 (fun k => (f k).dep) < n + 1 := h
    have := mx4_le.mp (Nat.le_refl (mx4 fun k => (f k).dep)) k
    show (f k).dep < n
    omega
  | _ =>
    subst ho
    exact absurd rfl m.1
/-! ### lists of pairs of keys and effects -/
def EfsAt (C : Addr) (H : Hp) (F : Ky → E) (kvs : List (L2.Key × V)) : Prop := ∀ kv ∈ kvs, ∃ k, kv.1 = kK k ∧ EffAt C H (F k) kv.2
theorem EfsAt.mono {C : Addr} {H H' : Hp} (le : Im C H H') {F : Ky → E} {kvs : List (L2.Key × V)} (h : EfsAt C H F kvs) : EfsAt C H' F kvs := fun kv hk => let ⟨k, e, q⟩ := h kv hk; ⟨k, e, q.mono le⟩
theorem EfsAt.snoc {C : Addr} {H : Hp} {F : Ky → E} {kvs : List (L2.Key × V)} (h : EfsAt C H F kvs) {k : Ky} {u : V} (q : EffAt C H (F k) u) : EfsAt C H F (kvs ++ [(kK k, u)]) := fun kv hk => by
  rcases List.mem_append.mp hk with hk | hk
  · exact h kv hk
  · rw [List.mem_singleton.mp hk]
    exact ⟨k, rfl, q⟩
theorem EfsAt.app {C : Addr} {H : Hp} {F : Ky → E} {kvs ls : List (L2.Key × V)} (h : EfsAt C H F kvs) (h' : EfsAt C H F ls) : EfsAt C H F (kvs ++ ls) := fun kv hk => by
  rcases List.mem_append.mp hk with hk | hk
  · exact h kv hk
  · exact h' kv hk
theorem EfsAt.nil {C : Addr} {H : Hp} {F : Ky → E} : EfsAt C H F [] := fun _ h => nomatch h
theorem valV_some_mem {κ : Type} [DecidableEq κ] {k : κ} {u : V} : ∀ {kvs : List (κ × V)}, valV kvs k = some u → (k, u) ∈ kvs
  | [], h => nomatch h
  | p :: r, h => by
    by_cases e : p.1 = k
    · rw [valV_pos e] at h
      have : p = (k, u) := Prod.ext e (Option.some.inj h)
      rw [this]
      exact List.mem_cons_self
    · rw [valV_neg e] at h
      exact List.mem_cons_of_mem _ (valV_some_mem h)
theorem EfsAt.val {C : Addr} {H : Hp} {F : Ky → E} {kvs : List (L2.Key × V)} (h : EfsAt C H F kvs) {k : Ky} {u : V} (e : valV kvs (kK k) = some u) : EffAt C H (F k) u := by
  obtain ⟨j, e1, q⟩ := h _ (valV_some_mem e)
  rw [kK_inj e1]
  exact q
/-- new pairs in a new list -/
def PvI (R : Nat → Hp → List (L2.Key × V) → Prop) (i : Nat) (H : Hp) (acc : List V) : Prop := ∃ qs kvs, acc = qs.map V.ref ∧ PairsAt H qs kvs ∧ R i H kvs
def AccI (H1 : Hp) (p : Addr) (Pv : Nat → Hp → List V → Prop) (i : Nat) (H : Hp) : Prop := ∃ acc, Acc H1 p H acc ∧ acc.length ≤ i ∧ Pv i H acc
theorem lc_im {J : It} {n : Nat} {G : Hp → Prop} {Y : Nat → Hp → V → Hp → Prop} (w : Walk J n G Y) {g : TG} {tt : TT} {te : TE} {vs : List Nat} {σ : L2.St} {H1 : Hp} {p : Addr} {Qd : Hp → Prop} (hp : H1 p = none) (Pv : Nat → Hp → List V → Prop)
    (hG : ∀ H, Same H1 H → G H) (h0 : Pv 0 (upd H1 p (.lst [])) [])
    (hs : ∀ i x H H' acc, i < n → Acc H1 p H acc → acc.length ≤ i → Pv i H acc → Y i H x H' → g x (wipe σ vs) H' fun σ2 H2 => wipe σ2 vs = wipe σ vs ∧ tt σ2 H2 fun b H3 =>
      if b = true then te σ2 H3 fun y H4 => ∃ acc, H4 p = some (.lst acc) ∧ acc.length < sizeLine ∧ AccI H1 p Pv (i + 1) (upd H4 p (.lst (acc ++ [y]))) else AccI H1 p Pv (i + 1) H3)
    (hd : ∀ H acc, Acc H1 p H acc → acc.length ≤ n → Pv n H acc → Qd H) :
    ∃ W : Nat → Nat → Hp → Prop, (∃ m, W 0 m (upd H1 p (.lst []))) ∧ ∀ i m H, W i m H →
      (J.stop i H ∧ Qd H) ∨ (J.go i H ∧ ∃ Nx : Hp → Prop, (∀ H', Nx H' → ∃ m', m' < m ∧ W (i + 1) m' H') ∧ ∀ x H', J.yld i H x H' → g x (wipe σ vs) H' fun σ2 H2 => wipe σ2 vs = wipe σ vs ∧ tt σ2 H2 fun b H3 =>
        if b = true then te σ2 H3 fun y H4 => ∃ acc, H4 p = some (.lst acc) ∧ acc.length < sizeLine ∧ Nx (upd H4 p (.lst (acc ++ [y]))) else Nx H3) := by
  refine lc_it w (AccI H1 p Pv) ⟨[], Acc.start hp, Nat.le_refl _, h0⟩ (fun i H _ ⟨acc, B, _⟩ => hG H B.same) (fun i x H H' hi ⟨acc, B, hl, q⟩ y => hs i x H H' acc hi B hl q y) fun H ⟨acc, B, hl, q⟩ => hd H acc B hl q
theorem pushI {H1 H H4 : Hp} {p : Addr} {acc : List V} {i : Nat} {y : V} {Pv : Nat → Hp → List V → Prop} (B : Acc H1 p H acc) (hl : acc.length ≤ i) (hi : i < 1000) (s : Same H H4) (q : Pv (i + 1) (upd H4 p (.lst (acc ++ [y]))) (acc ++ [y])) :
    ∃ acc, H4 p = some (.lst acc) ∧ acc.length < sizeLine ∧ AccI H1 p Pv (i + 1) (upd H4 p (.lst (acc ++ [y]))) :=
  ⟨acc, s _ _ B.at_, small1000 (by omega), acc ++ [y], (B.call s).push y, by rw [List.length_append]; show acc.length + 1 ≤ _; omega, q⟩
theorem skipI {H1 H H4 : Hp} {p : Addr} {acc : List V} {i : Nat} {Pv : Nat → Hp → List V → Prop} (B : Acc H1 p H acc) (hl : acc.length ≤ i) (s : Same H H4) (q : Pv (i + 1) H4 acc) : AccI H1 p Pv (i + 1) H4 :=
  ⟨acc, B.call s, by omega, q⟩
/-- a pair is made and put behind -/
theorem pairI {C : Addr} {R : Nat → Hp → List (L2.Key × V) → Prop} {H1 H H' : Hp} {p t : Addr} {acc : List V} {k : L2.Key} {u : V} {i : Nat} (B : Acc H1 p H acc) (hl : acc.length ≤ i) (hi : i < 1000) (hq : PvI R i H acc) (s : Same H H') (ht : H' t = none)
    (hR : ∀ kvs H5, Im C H' H5 → R i H kvs → R (i + 1) H5 (kvs ++ [(k, u)])) :
    ∃ acc, (upd H' t (.tup [kV k, u])) p = some (.lst acc) ∧ acc.length < sizeLine ∧ AccI H1 p (PvI R) (i + 1) (upd (upd H' t (.tup [kV k, u])) p (.lst (acc ++ [.ref t]))) := by
  have s1 := same_new ht (.tup [kV k, u])
  have hp2 := s1 _ _ (s _ _ B.at_)
  have im2 : Im C (upd H' t (.tup [kV k, u])) (upd (upd H' t (.tup [kV k, u])) p (.lst (acc ++ [.ref t]))) := Im.lst hp2
  refine pushI B hl hi (s.trans s1) ?_
  obtain ⟨qs, kvs, rfl, hp, hr⟩ := hq
  refine ⟨qs ++ [t], kvs ++ [(k, u)], by rw [List.map_append] <;> rfl, PairsAt.snoc (hp.mono fun a xs e => im2.t _ _ ((s.trans s1) _ _ e)) (im2.t _ _ upd_same), hR kvs _ ((Im.of s1).trans im2) hr⟩
theorem tabOk_keys {kvs kvs' : List (L2.Key × V)} (h : kvs'.map (·.1) = kvs.map (·.1)) (ok : tabOk kvs) : tabOk kvs' := by
  refine ⟨by rw [h]; exact ok.1, fun p hp => ?_⟩
  have hm : p.1 ∈ kvs'.map (·.1) := List.mem_map_of_mem hp
  rw [h] at hm
  obtain ⟨p', h1, h2⟩ := List.mem_map.mp hm
  obtain ⟨k, e⟩ := ok.2 p' h1
  exact ⟨k, h2.symm.trans e⟩
theorem val_keys {kvs kvs' : List (L2.Key × V)} (h : kvs'.map (·.1) = kvs.map (·.1)) (k : L2.Key) : (valV kvs' k).isSome = (valV kvs k).isSome := by
  rw [valV_mem, valV_mem, h]
theorem ofM_ne {p : D} (h : p ≠ .abs) : ofM p ≠ .keep := by
  cases p with
  | abs => exact absurd rfl h
  | atom x =>
    show (if x = non then E.drop else .set x) ≠ .keep
    split <;> exact fun e => nomatch e
  | obj f => exact fun e => nomatch e
theorem twoS_and {a b : V} {A : Prop} (h : A) : [a, b].length ≤ sizeLine ∧ A := ⟨twoS, h⟩
theorem none_of {o : Option V} (h : (none : Option V).isSome = o.isSome) : o = none := by
  cases o with
  | none => rfl
  | some u => cases h
end Tp
namespace Tp
open PySem PySem.Spec PyProof.Rows L2
def RFil (kvs : List (L2.Key × V)) (p : L2.Key × V → Bool) (i : Nat) (_ : Hp) (l : List (L2.Key × V)) : Prop := l = (kvs.take i).filter p
theorem RFil.zero {kvs : List (L2.Key × V)} {p : L2.Key × V → Bool} {H : Hp} : RFil kvs p 0 H [] := by unfold RFil; rw [List.take_zero] <;> rfl
theorem RFil.yes {kvs l : List (L2.Key × V)} {kv : L2.Key × V} {p : L2.Key × V → Bool} {H H' : Hp} {i : Nat} (hk : kvs[i]? = some kv) (hp : p kv = true) (h : RFil kvs p i H l) : RFil kvs p (i + 1) H' (l ++ [kv]) := by
  unfold RFil at h ⊢
  rw [take_more hk, List.filter_append, h, List.filter_cons, if_pos hp] <;> rfl
theorem RFil.no {kvs l : List (L2.Key × V)} {kv : L2.Key × V} {p : L2.Key × V → Bool} {H H' : Hp} {i : Nat} (hk : kvs[i]? = some kv) (hp : p kv = false) (h : RFil kvs p i H l) : RFil kvs p (i + 1) H' l := by
  unfold RFil at h ⊢
  rw [take_more hk, List.filter_append, h, List.filter_cons, if_neg (by rw [hp]; exact Bool.false_ne_true)]
  simp
theorem RFil.all {kvs l : List (L2.Key × V)} {p : L2.Key × V → Bool} {H : Hp} {i : Nat} (h : RFil kvs p i H l) (hi : kvs.length ≤ i) : l = kvs.filter p := by
  unfold RFil at h
  rw [List.take_of_length_le hi] at h
  exact h
end Tp
namespace Tp
open PySem PySem.Spec PyProof.Rows L2
def lookE (f : Ky → E) (x : L2.Key) : E := if x = kK .a then f .a else if x = kK .b then f .b else if x = kK .c then f .c else f .z
theorem lookE_at (f : Ky → E) (k : Ky) : lookE f (kK k) = f k := by
  unfold lookE
  cases k
  · rw [if_pos rfl]
  · rw [if_neg (show ¬ (kK .b = kK .a) by decide), if_pos rfl]
  · rw [if_neg (show ¬ (kK .c = kK .a) by decide), if_neg (show ¬ (kK .c = kK .b) by decide), if_pos rfl]
  · rw [if_neg (show ¬ (kK .z = kK .a) by decide), if_neg (show ¬ (kK .z = kK .b) by decide), if_neg (show ¬ (kK .z = kK .c) by decide)]
theorem EfsAt.filter {C : Addr} {H : Hp} {F : Ky → E} {kvs : List (L2.Key × V)} (h : EfsAt C H F kvs) (p : L2.Key × V → Bool) : EfsAt C H F (kvs.filter p) := fun kv hk => h kv (List.mem_filter.mp hk).1
theorem tabOk.filter {kvs : List (L2.Key × V)} (ok : tabOk kvs) (p : L2.Key × V → Bool) : tabOk (kvs.filter p) := ⟨ok.1.sublist ((List.filter_sublist).map _), fun q hq => ok.2 q (List.mem_filter.mp hq).1⟩
end Tp
end
section
set_option maxRecDepth 100000
set_option maxHeartbeats 4000000
/-! What an effect tells of itself. -/
namespace Tp
open PySem PySem.Spec PyProof.Rows L2
def A0.d : A0 → PyData
  | .non => .none
  | .int i => .int i
  | .str x => .str x.1
def At.d : At → PyData
  | .pl x => x.d
  | .lst xs => .tuple (xs.map A0.d)
def fct : E → PyData
  | .keep => .tuple [.str "keep", .none, .tuple []]
  | .drop => .tuple [.str "drop", .none, .tuple []]
  | .set x => .tuple [.str "set", x.d, .tuple []]
  | .mrg f => .tuple [.str "merge", .none, .tuple (kys.flatMap fun k => if (f k).isKeep = true then [] else [.tuple [.str (kS k), fct (f k)]])]
  | .bld f => .tuple [.str "build", .none, .tuple (kys.flatMap fun k => if (f k).isDrop = true then [] else [.tuple [.str (kS k), fct (f k)]])]
/-! equality -/
theorem eqv_a0 (x y : A0) : PyData.eqv x.d y.d = decide (x = y) := by
  cases x <;> cases y <;> simp [A0.d, PyData.eqv, Subtype.ext_iff]
  · rename_i i j
    by_cases h : i = j <;> simp [h]
  · rename_i i j
    by_cases h : i.val = j.val <;> simp [h]
theorem eqv_a0s : ∀ xs ys : List A0, PyData.eqvAll (xs.map A0.d) (ys.map A0.d) = decide (xs = ys)
  | [], [] => by simp [PyData.eqvAll]
  | [], y :: ys => by simp [PyData.eqvAll]
  | x :: xs, [] => by simp [PyData.eqvAll]
  | x :: xs, y :: ys => by
    simp only [List.map_cons, PyData.eqvAll, eqv_a0, eqv_a0s xs ys, List.cons.injEq]
    simp
theorem eqv_at (x y : At) : PyData.eqv x.d y.d = decide (x = y) := by
  cases x with
  | pl a =>
    cases y with
    | pl b => simp only [At.d, eqv_a0, At.pl.injEq]
    | lst ys => cases a <;> simp [At.d, A0.d, PyData.eqv]
  | lst xs =>
    cases y with
    | pl b => cases b <;> simp [At.d, A0.d, PyData.eqv]
    | lst ys => simp only [At.d, PyData.eqv, eqv_a0s, At.lst.injEq]
theorem eqvAll_mem (p q : Ky → Bool) (F G : Ky → PyData) : ∀ ks : List Ky, ks.Nodup →
    (PyData.eqvAll (ks.flatMap fun k => if p k = true then [] else [.tuple [.str (kS k), F k]]) (ks.flatMap fun k => if q k = true then [] else [.tuple [.str (kS k), G k]]) = true ↔
      ∀ k ∈ ks, p k = q k ∧ (p k = false → PyData.eqv (F k) (G k) = true)) := by
  intro ks nd
  induction ks with
  | nil => simp [PyData.eqvAll]
  | cons k r ih =>
    obtain ⟨n1, n2⟩ := List.nodup_cons.mp nd
    have ih := ih n2
    -- a list of members that begins with another key
    have other : ∀ (p : Ky → Bool) (F : Ky → PyData) (x : PyData) (l : List PyData) (r : List Ky), k ∉ r → PyData.eqvAll (PyData.tuple [.str (kS k), x] :: l) (r.flatMap fun k => if p k = true then [] else [.tuple [.str (kS k), F k]]) = false := by
      intro p F x l r hk
      induction r with
      | nil => simp [PyData.eqvAll]
      | cons j s ih2 =>
        have hj : k ≠ j := fun e => hk (e ▸ List.mem_cons_self)
        have hs : k ∉ s := fun e => hk (List.mem_cons_of_mem _ e)
        have ne : (kS k == kS j) = false := by
          rw [beq_eq_false_iff_ne]
          exact fun e => hj (kS_inj e)
        cases e : p j with
        | true => simp only [List.flatMap_cons, e, if_true, List.nil_append]; exact ih2 hs
        | false => simp [List.flatMap_cons, e, PyData.eqvAll, PyData.eqv, ne]
    have other2 : ∀ (p : Ky → Bool) (F : Ky → PyData) (x : PyData) (l : List PyData) (r : List Ky), k ∉ r → PyData.eqvAll (r.flatMap fun k => if p k = true then [] else [.tuple [.str (kS k), F k]]) (PyData.tuple [.str (kS k), x] :: l) = false := by
      intro p F x l r hk
      induction r with
      | nil => simp [PyData.eqvAll]
      | cons j s ih2 =>
        have hj : k ≠ j := fun e => hk (e ▸ List.mem_cons_self)
        have hs : k ∉ s := fun e => hk (List.mem_cons_of_mem _ e)
        have ne : (kS j == kS k) = false := by
          rw [beq_eq_false_iff_ne]
          exact fun e => hj (kS_inj e).symm
        cases e : p j with
        | true => simp only [List.flatMap_cons, e, if_true, List.nil_append]; exact ih2 hs
        | false => simp [List.flatMap_cons, e, PyData.eqvAll, PyData.eqv, ne]
    cases ep : p k with
    | true =>
      cases eq : q k with
      | true => simp only [List.flatMap_cons, ep, eq, if_true, List.nil_append, List.forall_mem_cons, ih]; simp
      | false =>
        simp only [List.flatMap_cons, ep, eq, if_true, List.nil_append, List.forall_mem_cons]
        simp only [Bool.false_eq_true, if_false, List.singleton_append]
        rw [other2 p F _ _ r n1]
        simp
    | false =>
      cases eq : q k with
      | true =>
        simp only [List.flatMap_cons, ep, eq, if_true, List.nil_append, List.forall_mem_cons]
        simp only [Bool.false_eq_true, if_false, List.singleton_append]
        rw [other q G _ _ r n1]
        simp
      | false =>
        simp only [List.flatMap_cons, ep, eq, Bool.false_eq_true, if_false, List.singleton_append, List.forall_mem_cons, PyData.eqvAll, PyData.eqv, Bool.and_eq_true, ih]
        simp
theorem tup3 (k1 k2 : Str) (a1 a2 b1 b2 : PyData) : PyData.eqv (.tuple [.str k1, a1, b1]) (.tuple [.str k2, a2, b2]) = (k1 == k2 && (PyData.eqv a1 a2 && (PyData.eqv b1 b2 && true))) := by
  simp only [PyData.eqv, PyData.eqvAll]
theorem tup3_ne {k1 k2 : Str} {a1 a2 b1 b2 : PyData} (h : (k1 == k2) = false) : ¬ PyData.eqv (.tuple [.str k1, a1, b1]) (.tuple [.str k2, a2, b2]) = true := by
  rw [tup3, h]
  exact Bool.false_ne_true
theorem tup3_eq {k1 : Str} {a1 a2 b1 b2 : PyData} : PyData.eqv (.tuple [.str k1, a1, b1]) (.tuple [.str k1, a2, b2]) = (PyData.eqv a1 a2 && PyData.eqv b1 b2) := by
  rw [tup3, beq_self_eq_true, Bool.true_and, Bool.and_true]
theorem eqv_tup (xs ys : List PyData) : PyData.eqv (.tuple xs) (.tuple ys) = PyData.eqvAll xs ys := by simp only [PyData.eqv]
theorem fct_eq (a : E) : ∀ b : E, PyData.eqv (fct a) (fct b) = true ↔ a = b := by
  induction a with
  | keep =>
    intro b
    cases b with
    | keep => exact ⟨fun _ => rfl, fun _ => by decide +kernel⟩
    | drop => exact ⟨fun h => absurd h (tup3_ne (by decide)), fun h => nomatch h⟩
    | set x => exact ⟨fun h => absurd h (tup3_ne (by decide)), fun h => nomatch h⟩
    | mrg g => exact ⟨fun h => absurd h (tup3_ne (by decide)), fun h => nomatch h⟩
    | bld g => exact ⟨fun h => absurd h (tup3_ne (by decide)), fun h => nomatch h⟩
  | drop =>
    intro b
    cases b with
    | keep => exact ⟨fun h => absurd h (tup3_ne (by decide)), fun h => nomatch h⟩
    | drop => exact ⟨fun _ => rfl, fun _ => by decide +kernel⟩
    | set x => exact ⟨fun h => absurd h (tup3_ne (by decide)), fun h => nomatch h⟩
    | mrg g => exact ⟨fun h => absurd h (tup3_ne (by decide)), fun h => nomatch h⟩
    | bld g => exact ⟨fun h => absurd h (tup3_ne (by decide)), fun h => nomatch h⟩
  | set x =>
    intro b
    cases b with
    | keep => exact ⟨fun h => absurd h (tup3_ne (by decide)), fun h => nomatch h⟩
    | drop => exact ⟨fun h => absurd h (tup3_ne (by decide)), fun h => nomatch h⟩
    | set y =>
      show PyData.eqv (.tuple [.str "set", x.d, .tuple []]) (.tuple [.str "set", y.d, .tuple []]) = true ↔ _
      rw [tup3_eq, eqv_at, eqv_tup]
      simp [PyData.eqvAll]
    | mrg g => exact ⟨fun h => absurd h (tup3_ne (by decide)), fun h => nomatch h⟩
    | bld g => exact ⟨fun h => absurd h (tup3_ne (by decide)), fun h => nomatch h⟩
  | mrg f ih =>
    intro b
    cases b with
    | keep => exact ⟨fun h => absurd h (tup3_ne (by decide)), fun h => nomatch h⟩
    | drop => exact ⟨fun h => absurd h (tup3_ne (by decide)), fun h => nomatch h⟩
    | set x => exact ⟨fun h => absurd h (tup3_ne (by decide)), fun h => nomatch h⟩
    | bld g => exact ⟨fun h => absurd h (tup3_ne (by decide)), fun h => nomatch h⟩
    | mrg g =>
      show PyData.eqv (.tuple [_, _, .tuple _]) (.tuple [_, _, .tuple _]) = true ↔ _
      rw [tup3_eq, eqv_tup, show PyData.eqv PyData.none PyData.none = true by simp only [PyData.eqv], Bool.true_and, eqvAll_mem (fun k => (f k).isKeep) (fun k => (g k).isKeep) (fun k => fct (f k)) (fun k => fct (g k)) kys kys_nd]
      constructor
      · intro h
        refine congrArg E.mrg (funext fun k => ?_)
        obtain ⟨h1, h2⟩ := h k (mem_kys k)
        cases e : (f k).isKeep with
        | true => rw [E.isKeep_iff.mp e, E.isKeep_iff.mp (h1.symm.trans e)]
        | false => exact (ih k (g k)).mp (h2 e)
      · intro h k _
        have e : f = g := E.mrg.inj h
        subst e
        exact ⟨rfl, fun _ => (ih k (f k)).mpr rfl⟩
  | bld f ih =>
    intro b
    cases b with
    | keep => exact ⟨fun h => absurd h (tup3_ne (by decide)), fun h => nomatch h⟩
    | drop => exact ⟨fun h => absurd h (tup3_ne (by decide)), fun h => nomatch h⟩
    | set x => exact ⟨fun h => absurd h (tup3_ne (by decide)), fun h => nomatch h⟩
    | mrg g => exact ⟨fun h => absurd h (tup3_ne (by decide)), fun h => nomatch h⟩
    | bld g =>
      show PyData.eqv (.tuple [_, _, .tuple _]) (.tuple [_, _, .tuple _]) = true ↔ _
      rw [tup3_eq, eqv_tup, show PyData.eqv PyData.none PyData.none = true by simp only [PyData.eqv], Bool.true_and, eqvAll_mem (fun k => (f k).isDrop) (fun k => (g k).isDrop) (fun k => fct (f k)) (fun k => fct (g k)) kys kys_nd]
      constructor
      · intro h
        refine congrArg E.bld (funext fun k => ?_)
        obtain ⟨h1, h2⟩ := h k (mem_kys k)
        cases e : (f k).isDrop with
        | true => rw [E.isDrop_iff.mp e, E.isDrop_iff.mp (h1.symm.trans e)]
        | false => exact (ih k (g k)).mp (h2 e)
      · intro h k _
        have e : f = g := E.bld.inj h
        subst e
        exact ⟨rfl, fun _ => (ih k (f k)).mpr rfl⟩
theorem fct_dec (a b : E) : PyData.eqv (fct a) (fct b) = decide (a = b) := by
  by_cases h : a = b
  · rw [decide_eq_true h, (fct_eq a b).mpr h]
  · rw [decide_eq_false h]
    cases e : PyData.eqv (fct a) (fct b) with
    | false => rfl
    | true => exact absurd ((fct_eq a b).mp e) h
/-! its shape -/
mutual
def noL : PyData → Bool
  | .list _ => false
  | .dict _ => false
  | .tuple xs => noLs xs
  | _ => true
def noLs : List PyData → Bool
  | [] => true
  | x :: xs => noL x && noLs xs
end
structure Shp (d : PyData) (n : Nat) : Prop where
  l : noL d = true
  c : d.canLay0 = true
  d : d.depth ≤ n
structure Shps (ds : List PyData) (n : Nat) : Prop where
  l : noLs ds = true
  c : PyData.canLayAll0 ds = true
  d : PyData.depthAll ds ≤ n
theorem Shps.nil {n : Nat} : Shps [] n := ⟨rfl, rfl, Nat.zero_le _⟩
theorem Shps.cons {d : PyData} {ds : List PyData} {n : Nat} (h : Shp d n) (t : Shps ds n) : Shps (d :: ds) n :=
  ⟨by simp [noLs, h.l, t.l], by simp [PyData.canLayAll0, h.c, t.c], by simp only [PyData.depthAll]; exact Nat.max_le.mpr ⟨h.d, t.d⟩⟩
theorem Shps.tup {ds : List PyData} {n : Nat} (h : Shps ds n) : Shp (.tuple ds) (n + 1) :=
  ⟨by simp [noL, h.l], by simp [PyData.canLay0, h.c], by simp only [PyData.depth]; have := h.d; omega⟩
theorem Shp.wk {d : PyData} {n m : Nat} (h : Shp d n) (l : n ≤ m) : Shp d m := ⟨h.l, h.c, Nat.le_trans h.d l⟩
theorem Shps.app {ds es : List PyData} {n : Nat} (h : Shps ds n) (h' : Shps es n) : Shps (ds ++ es) n := by
  induction ds with
  | nil => exact h'
  | cons d ds ih =>
    have h1 := h.l; have h2 := h.c; have h3 := h.d
    simp only [noLs, PyData.canLayAll0, PyData.depthAll, Bool.and_eq_true] at h1 h2 h3
    exact Shps.cons ⟨h1.1, h2.1, by omega⟩ (ih ⟨h1.2, h2.2, by omega⟩)
theorem shp_str {x : Str} (h : x.cps.all (· < 0x110000) = true) (n : Nat) : Shp (.str x) n := ⟨rfl, by simpa [PyData.canLay0, PyData.strOk] using h, Nat.zero_le _⟩
theorem shp_a0 (x : A0) (n : Nat) : Shp x.d n := by
  cases x with
  | non => exact ⟨rfl, rfl, Nat.zero_le _⟩
  | int i => exact ⟨rfl, rfl, Nat.zero_le _⟩
  | str x => exact shp_str x.2 n
theorem shp_a0s (xs : List A0) (n : Nat) : Shps (xs.map A0.d) n := by
  induction xs with
  | nil => exact Shps.nil
  | cons x xs ih => exact Shps.cons (shp_a0 x n) ih
theorem shp_at (x : At) (n : Nat) : Shp x.d (n + 1) := by
  cases x with
  | pl a => exact shp_a0 a _
  | lst xs => exact (shp_a0s xs n).tup
theorem kS_ok (k : Ky) : (kS k).cps.all (· < 0x110000) = true := by cases k <;> decide +kernel
theorem shp_mem (p : Ky → Bool) (F : Ky → PyData) (n : Nat) : ∀ ks : List Ky, (∀ k, p k = false → Shp (F k) n) → Shps (ks.flatMap fun k => if p k = true then [] else [.tuple [.str (kS k), F k]]) (n + 1)
  | [], _ => Shps.nil
  | k :: r, h => by
    rw [List.flatMap_cons]
    refine Shps.app ?_ (shp_mem p F n r h)
    cases e : p k with
    | true => exact Shps.nil
    | false => exact Shps.cons (Shps.tup (Shps.cons (shp_str (kS_ok k) n) (Shps.cons (h k e) Shps.nil))) Shps.nil
theorem shp_fct : ∀ (e : E) (n : Nat), e.dep ≤ n → Shp (fct e) (3 * n + 2)
  | .keep, n, _ => Shps.tup (Shps.cons (shp_str (by decide +kernel) _) (Shps.cons ⟨rfl, rfl, Nat.zero_le _⟩ (Shps.cons (Shps.tup Shps.nil) Shps.nil)))
  | .drop, n, _ => Shps.tup (Shps.cons (shp_str (by decide +kernel) _) (Shps.cons ⟨rfl, rfl, Nat.zero_le _⟩ (Shps.cons (Shps.tup Shps.nil) Shps.nil)))
  | .set x, n, _ => Shps.tup (Shps.cons (shp_str (by decide +kernel) _) (Shps.cons (shp_at x _) (Shps.cons (Shps.tup Shps.nil) Shps.nil)))
  | .mrg f, n, h => by
    have h1 : 1 + mx4 (fun k => (f k).dep) ≤ n := h
    have hk := fun k => mx4_le.mp (Nat.le_refl (mx4 fun k => (f k).dep)) k
    refine (Shps.tup (Shps.cons (shp_str (by decide +kernel) _) (Shps.cons ⟨rfl, rfl, Nat.zero_le _⟩ (Shps.cons (Shps.tup (shp_mem (fun k => (f k).isKeep) (fun k => fct (f k)) (3 * (n - 1) + 2) kys fun k _ => shp_fct (f k) (n - 1) (by have := hk k; omega))) Shps.nil)))).wk (by omega)
  | .bld f, n, h => by
    have h1 : 1 + mx4 (fun k => (f k).dep) ≤ n := h
    have hk := fun k => mx4_le.mp (Nat.le_refl (mx4 fun k => (f k).dep)) k
    refine (Shps.tup (Shps.cons (shp_str (by decide +kernel) _) (Shps.cons ⟨rfl, rfl, Nat.zero_le _⟩ (Shps.cons (Shps.tup (shp_mem (fun k => (f k).isDrop) (fun k => fct (f k)) (3 * (n - 1) + 2) kys fun k _ => shp_fct (f k) (n - 1) (by have := hk k; omega))) Shps.nil)))).wk (by omega)
theorem shaped_fct {e : E} (h : e.dep ≤ 20) : SeqAt.shaped (fct e) = true := by
  have := shp_fct e 20 h
  unfold SeqAt.shaped
  rw [this.c, decide_eq_true (Nat.le_trans this.d (by decide))] <;> rfl
/-! what has no list in it stays -/
theorem SqT.im {K : PySem.W.Frag} {C : Addr} {H H' : Hp} (le : Im C H H') {a : Addr} {xs : List V} (h : SqT K H a xs) : SqT K H' a xs := by
  rcases h with (h | ⟨o, h⟩) | h
  · exact .inl (.inl (le.t _ _ h))
  · exact .inl (.inr ⟨o, le.f _ _ _ h⟩)
  · exact .inr h
mutual
theorem Dp.im {K : PySem.W.Frag} {C : Addr} {H H' : Hp} (le : Im C H H') : ∀ (d : PyData) (v : V), noL d = true → Dp K H v d → Dp K H' v d
  | .none, _, _, h => by cases h; exact .non
  | .bool _, _, _, h => by cases h; exact .bl _
  | .int _, _, _, h => by cases h; exact .int _
  | .str _, _, _, h => by cases h; exact .str _
  | .list _, _, n, _ => by cases n
  | .dict _, _, n, _ => by cases n
  | .tuple ds, _, n, h => by
    cases h with
    | tup hs ha => exact .tup (SqT.im le hs) (Dp.ims le ds _ (by simpa [noL] using n) ha)
theorem Dp.ims {K : PySem.W.Frag} {C : Addr} {H H' : Hp} (le : Im C H H') : ∀ (ds : List PyData) (vs : List V), noLs ds = true → DpAll K H vs ds → DpAll K H' vs ds
  | [], _, _, h => by cases h; exact .nil
  | d :: ds, _, n, h => by
    cases h with
    | cons h1 h2 =>
      have n' : noL d = true ∧ noLs ds = true := by simpa [noLs, Bool.and_eq_true] using n
      exact .cons (Dp.im le d _ n'.1 h1) (Dp.ims le ds _ n'.2 h2)
end
theorem dpAll_snoc {K : PySem.W.Frag} {H : Hp} {vs : List V} {ds : List PyData} {v : V} {d : PyData} : DpAll K H vs ds → Dp K H v d → DpAll K H (vs ++ [v]) (ds ++ [d]) := by
  intro h
  induction vs generalizing ds with
  | nil => cases h; exact fun q => .cons q .nil
  | cons u us ih =>
    cases h with
    | cons h1 h2 => exact fun q => .cons h1 (ih h2 q)
theorem dp_a0s {K : PySem.W.Frag} {H : Hp} : ∀ xs : List A0, DpAll K H (xs.map A0.v) (xs.map A0.d)
  | [] => .nil
  | .non :: r => .cons .non (dp_a0s r)
  | .int _ :: r => .cons (.int _) (dp_a0s r)
  | .str _ :: r => .cons (.str _) (dp_a0s r)
theorem dp_out {K : PySem.W.Frag} {H : Hp} : ∀ {x : At} {v : V}, AtOut H x v → Dp K H v x.d
  | .pl .non, _, e => by rw [show _ = _ from e]; exact .non
  | .pl (.int _), _, e => by rw [show _ = _ from e]; exact .int _
  | .pl (.str _), _, e => by rw [show _ = _ from e]; exact .str _
  | .lst xs, _, ⟨p, e, h, _⟩ => by rw [e]; exact .tup (SqT.of h) (dp_a0s xs)
end Tp
namespace Tp
open PySem PySem.Spec PyProof.Rows L2
def E.isSet : E → Bool
  | .set _ => true
  | _ => false
theorem k_is (a b : Str) : decide (V.str a = V.str b) = decide (a = b) := by
  by_cases h : a = b
  · rw [h]; simp
  · have : ¬ V.str a = V.str b := fun e => h (V.str.inj e)
    simp [h]
theorem k_keep (e : E) : decide (V.str e.kind = V.str "keep") = e.isKeep := by
  rw [k_is]
  cases e with
  | set x => show decide (("set" : Str) = "keep") = false; decide
  | mrg x => show decide (("merge" : Str) = "keep") = false; decide
  | bld x => show decide (("build" : Str) = "keep") = false; decide
  | keep => decide
  | drop => decide
theorem k_drop (e : E) : decide (V.str e.kind = V.str "drop") = e.isDrop := by
  rw [k_is]
  cases e with
  | set x => show decide (("set" : Str) = "drop") = false; decide
  | mrg x => show decide (("merge" : Str) = "drop") = false; decide
  | bld x => show decide (("build" : Str) = "drop") = false; decide
  | keep => decide
  | drop => decide
theorem k_set (e : E) : decide (V.str e.kind = V.str "set") = e.isSet := by
  rw [k_is]
  cases e with
  | set x => show decide (("set" : Str) = "set") = true; decide
  | mrg x => show decide (("merge" : Str) = "set") = false; decide
  | bld x => show decide (("build" : Str) = "set") = false; decide
  | keep => decide
  | drop => decide
theorem k_mrg (e : E) : decide (V.str e.kind = V.str "merge") = e.isMrg := by
  rw [k_is]
  cases e with
  | set x => show decide (("set" : Str) = "merge") = false; decide
  | mrg x => show decide (("merge" : Str) = "merge") = true; decide
  | bld x => show decide (("build" : Str) = "merge") = false; decide
  | keep => decide
  | drop => decide
theorem k_bld (e : E) : decide (V.str e.kind = V.str "build") = e.isBld := by
  rw [k_is]
  cases e with
  | set x => show decide (("set" : Str) = "build") = false; decide
  | mrg x => show decide (("merge" : Str) = "build") = false; decide
  | bld x => show decide (("build" : Str) = "build") = true; decide
  | keep => decide
  | drop => decide
end Tp
namespace Tp
open PySem PySem.Spec PyProof.Rows L2
theorem k_in_kd (e : E) : inV (V.str e.kind) [.str "keep", .str "drop"] = (e.isKeep || e.isDrop) := by
  cases e with
  | set x => show inV (V.str "set") _ = false; decide
  | mrg x => show inV (V.str "merge") _ = false; decide
  | bld x => show inV (V.str "build") _ = false; decide
  | keep => decide
  | drop => decide
theorem k_in_sd (e : E) : inV (V.str e.kind) [.str "set", .str "drop"] = (e.isSet || e.isDrop) := by
  cases e with
  | set x => show inV (V.str "set") _ = true; decide
  | mrg x => show inV (V.str "merge") _ = false; decide
  | bld x => show inV (V.str "build") _ = false; decide
  | keep => decide
  | drop => decide
theorem jn_eq_keep {a b : E} (h : jn a b = .keep) : a = .keep ∧ b = .keep := by
  cases b with
  | keep => rw [jn_keep] at h; exact ⟨h, rfl⟩
  | drop => cases a <;> cases h
  | set x => cases a <;> cases h
  | bld f => cases a <;> cases h
  | mrg f => cases a <;> cases h
end Tp
namespace Tp
open PySem PySem.Spec PyProof.Rows L2
theorem valV_filter {κ : Type} [DecidableEq κ] {p : κ × V → Bool} {k : κ} : ∀ {kvs : List (κ × V)}, (kvs.map (·.1)).Nodup → valV (kvs.filter p) k = match valV kvs k with
    | none => none
    | some u => if p (k, u) = true then some u else none
  | [], _ => rfl
  | kv :: r, nd => by
    obtain ⟨n1, n2⟩ := List.nodup_cons.mp (show (kv.1 :: r.map (·.1)).Nodup from nd)
    have ih := valV_filter (p := p) (k := k) n2
    rw [List.filter_cons]
    by_cases e : kv.1 = k
    · rw [valV_pos e]
      have e2 : kv = (k, kv.2) := Prod.ext e rfl
      have hr : valV r k = none := by
        cases q : valV r k with
        | none => rfl
        | some u => exact (n1 (e ▸ valV_iff.mp (by rw [q] <;> rfl))).elim
      cases hp : p kv with
      | true =>
        rw [if_pos rfl, valV_pos e]
        show _ = if p (k, kv.2) = true then _ else _
        rw [← e2, hp] <;> rfl
      | false =>
        rw [if_neg Bool.false_ne_true, ih, hr]
        show none = if p (k, kv.2) = true then _ else _
        rw [← e2, hp] <;> rfl
    · rw [valV_neg e]
      cases hp : p kv with
      | true => rw [if_pos rfl, valV_neg e, ih]
      | false => rw [if_neg Bool.false_ne_true, ih]
end Tp
end
section
set_option maxRecDepth 100000
set_option maxHeartbeats 4000000
/-! == and != of documents, rows, pairs of both. -/
namespace Tp
open PySem PySem.Spec PyProof.Rows L2
/-! ### a value is of one document -/
theorem Rd.one {H : Hp} {a : Addr} {u u' : HO} (h : Rd H a u) (h' : Rd H a u') (n1 : ∀ o v, u ≠ .frz o v) (n2 : ∀ o v, u' ≠ .frz o v) : u = u' := by
  rcases h with h | ⟨o, h⟩ <;> rcases h' with h' | ⟨o', h'⟩ <;> rw [h] at h'
  · exact Option.some.inj h'
  · exact absurd (Option.some.inj h') (n1 _ _)
  · exact absurd (Option.some.inj h').symm (n2 _ _)
  · have := Option.some.inj h'
    injection this
theorem map_v_inj : ∀ {xs ys : List A0}, xs.map A0.v = ys.map A0.v → xs = ys
  | [], [], _ => rfl
  | [], _ :: _, h => nomatch h
  | _ :: _, [], h => nomatch h
  | x :: xs, y :: ys, h => by
    rw [List.map_cons, List.map_cons] at h
    injection h with h1 h2
    rw [A0.v_inj h1, map_v_inj h2]
theorem A0.v_ne_ref {x : A0} {a : Addr} : x.v ≠ .ref a := by cases x <;> exact fun h => nomatch h
theorem DocAt.inj {H : Hp} : ∀ {d d' : D} {v : V}, DocAt H d v → DocAt H d' v → d = d'
  | .abs, _, _, h, _ => (show False from h).elim
  | _, .abs, _, _, h => (show False from h).elim
  | .atom (.pl x), .atom (.pl y), v, h, h' => by
    have e : x.v = y.v := (show v = x.v from h).symm.trans (show v = y.v from h')
    rw [A0.v_inj e]
  | .atom (.pl x), .atom (.lst ys), v, h, h' => by
    obtain ⟨a, e, _⟩ := h'
    exact absurd ((show v = x.v from h).symm.trans e) A0.v_ne_ref
  | .atom (.lst xs), .atom (.pl y), v, h, h' => by
    obtain ⟨a, e, _⟩ := h
    exact absurd ((show v = y.v from h').symm.trans e) A0.v_ne_ref
  | .atom (.lst xs), .atom (.lst ys), v, h, h' => by
    obtain ⟨a, rfl, r, _⟩ := h
    obtain ⟨a', e, r', _⟩ := h'
    cases e
    have := Rd.one r r' (fun _ _ z => nomatch z) (fun _ _ z => nomatch z)
    injection this with this
    rw [map_v_inj this]
  | .atom (.pl x), .obj g, v, h, h' => by
    obtain ⟨a, kvs, e, _⟩ := DocAt.obj_iff.mp h'
    exact absurd ((show v = x.v from h).symm.trans e) A0.v_ne_ref
  | .obj f, .atom (.pl y), v, h, h' => by
    obtain ⟨a, kvs, e, _⟩ := DocAt.obj_iff.mp h
    exact absurd ((show v = y.v from h').symm.trans e) A0.v_ne_ref
  | .atom (.lst xs), .obj g, v, h, h' => by
    obtain ⟨a, rfl, r, _⟩ := h
    obtain ⟨a', kvs, e, r', _⟩ := DocAt.obj_iff.mp h'
    cases e
    exact nomatch Rd.one r r' (fun _ _ z => nomatch z) (fun _ _ z => nomatch z)
  | .obj f, .atom (.lst ys), v, h, h' => by
    obtain ⟨a, rfl, r, _⟩ := h'
    obtain ⟨a', kvs, e, r', _⟩ := DocAt.obj_iff.mp h
    cases e
    exact nomatch Rd.one r r' (fun _ _ z => nomatch z) (fun _ _ z => nomatch z)
  | .obj f, .obj g, v, h, h' => by
    obtain ⟨a, kvs, rfl, r, _, m⟩ := DocAt.obj_iff.mp h
    obtain ⟨a', kvs', e, r', _, m'⟩ := DocAt.obj_iff.mp h'
    cases e
    have := Rd.one r r' (fun _ _ z => nomatch z) (fun _ _ z => nomatch z)
    injection this with this
    subst this
    refine congrArg D.obj (funext fun k => ?_)
    have h1 := m k
    have h2 := m' k
    cases e : valV kvs (kK k) with
    | none =>
      rw [e] at h1 h2
      rw [show f k = .abs from h1, show g k = .abs from h2]
    | some u =>
      rw [e] at h1 h2
      exact DocAt.inj (d := f k) (d' := g k) h1 h2
theorem DocsAt.inj {H : Hp} : ∀ {ds es : List D} {vs : List V}, DocsAt H ds vs → DocsAt H es vs → ds = es
  | _, _, _, .nil, .nil => rfl
  | _, _, _, .cons h t, .cons h' t' => by rw [h.inj h', DocsAt.inj t t']

/-! ### atoms -/
def At.dl : At → PyData
  | .pl x => x.d
  | .lst xs => .list (xs.map A0.d)
theorem eqv_dl (x y : At) : PyData.eqv x.dl y.dl = decide (x = y) := by
  cases x with
  | pl a =>
    cases y with
    | pl b => simp only [At.dl, eqv_a0, At.pl.injEq]
    | lst ys => cases a <;> simp [At.dl, A0.d, PyData.eqv]
  | lst xs =>
    cases y with
    | pl b => cases b <;> simp [At.dl, A0.d, PyData.eqv]
    | lst ys => simp only [At.dl, PyData.eqv, eqv_a0s, At.lst.injEq]
theorem shaped_dl (x : At) : SeqAt.shaped x.dl = true := by
  have key : ∀ d : PyData, d.canLay0 = true → d.depth ≤ 1 → SeqAt.shaped d = true := fun d h1 h2 => by
    unfold SeqAt.shaped
    rw [h1, decide_eq_true (Nat.le_trans h2 (by decide))] <;> rfl
  cases x with
  | pl a => exact key _ (shp_a0 a 1).c (shp_a0 a 1).d
  | lst xs =>
    have := shp_a0s xs 0
    refine key _ (by simp only [At.dl, PyData.canLay0]; exact this.c) (by simp only [At.dl, PyData.depth]; have := this.d; omega)
theorem dl_depth (x : At) : x.dl.depth ≤ 1 := by
  cases x with
  | pl a => exact (shp_a0 a 1).d
  | lst xs => simp only [At.dl, PyData.depth]; have := (shp_a0s xs 0).d; omega
theorem dp_dl {K : PySem.W.Frag} {H : Hp} : ∀ {x : At} {v : V}, DocAt H (.atom x) v → Dp K H v x.dl
  | .pl .non, v, e => by rw [show v = _ from e]; exact .non
  | .pl (.int _), v, e => by rw [show v = _ from e]; exact .int _
  | .pl (.str _), v, e => by rw [show v = _ from e]; exact .str _
  | .lst xs, _, ⟨p, e, r, _⟩ => by rw [e]; exact .lst (SqL.rd r) (dp_a0s xs)

/-! ### comparisons as trees -/
def CmpT (X : Cx) (H : Hp) (n : Nat) (x y : V) (b : Bool) : Prop := ∀ (pins : List (Addr × Obj)) (s : Shared) (σ : L2.St) (u v : Value), L2.Inv X pins σ H s → RelV x u → RelV y v → PySem.W.EqTree X.prog X.w s n u v b
section
variable {X : Cx} {H : Hp}
/-- the answer for two tables -/
theorem tab_eq {kvs kvs' : List (L2.Key × V)} {ka kb : List (L2.Key × Value)} {f g : Ky → D} (rel : KV kvs ka) (rel' : KV kvs' kb) (ok : tabOk kvs) (ok' : tabOk kvs') (m : ∀ k, MAt H (f k) (valV kvs (kK k))) (m' : ∀ k, MAt H (g k) (valV kvs' (kK k))) :
    (ka.length == kb.length && ka.all fun p => (PySem.valueAt kb p.1).isSome && decide (look f p.1 = look g p.1)) = decide (D.obj f = .obj g) := by
  have ks := rel.keys
  have ks' := rel'.keys
  have some_iff : ∀ k, (PySem.valueAt kb (kK k)).isSome = (valV kvs' (kK k)).isSome := fun k => (rel'.val (kK k)).isSome_eq.symm
  have nf : ∀ {k}, (valV kvs (kK k)).isSome = true ↔ f k ≠ .abs := fun {k} => by
    have := (m k).abs_iff
    cases e : valV kvs (kK k) with
    | none => rw [e] at this; exact ⟨fun h => (by cases h), fun h => absurd (this.mp rfl) h⟩
    | some u => rw [e] at this; exact ⟨fun _ h => (nomatch this.mpr h), fun _ => rfl⟩
  have ng : ∀ {k}, (valV kvs' (kK k)).isSome = true ↔ g k ≠ .abs := fun {k} => by
    have := (m' k).abs_iff
    cases e : valV kvs' (kK k) with
    | none => rw [e] at this; exact ⟨fun h => (by cases h), fun h => absurd (this.mp rfl) h⟩
    | some u => rw [e] at this; exact ⟨fun _ h => (nomatch this.mpr h), fun _ => rfl⟩
  have sub : ∀ {l l' : List (L2.Key × V)}, tabOk l → (∀ k, (valV l (kK k)).isSome = true → (valV l' (kK k)).isSome = true) → l.map (·.1) ⊆ l'.map (·.1) := fun {l l'} ok h x hx => by
    obtain ⟨p, h1, h2⟩ := List.mem_map.mp hx
    obtain ⟨k, e⟩ := ok.2 p h1
    have ex : x = kK k := h2.symm.trans e
    rw [ex] at hx ⊢
    exact valV_iff.mp (h k (valV_iff.mpr hx))
  have iff : ((ka.length == kb.length && ka.all fun p => (PySem.valueAt kb p.1).isSome && decide (look f p.1 = look g p.1)) = true) ↔ D.obj f = .obj g := by
    rw [Bool.and_eq_true, beq_iff_eq, List.all_eq_true]
    constructor
    · rintro ⟨hl, hall⟩
      have hk : ∀ k, (valV kvs (kK k)).isSome = true → (valV kvs' (kK k)).isSome = true ∧ f k = g k := fun k h => by
        have hm := valV_iff.mp h
        rw [ks] at hm
        obtain ⟨p, h1, h2⟩ := List.mem_map.mp hm
        have := hall p h1
        rw [h2, Bool.and_eq_true, some_iff, decide_eq_true_iff, look_at, look_at] at this
        exact this
      refine congrArg D.obj (funext fun k => ?_)
      by_cases h : (valV kvs (kK k)).isSome = true
      · exact (hk k h).2
      · have hf : f k = .abs := by
          by_cases z : f k = .abs
          · exact z
          · exact absurd (nf.mpr z) h
        by_cases h' : (valV kvs' (kK k)).isSome = true
        · exfalso
          have n1 : kK k ∉ kvs.map (·.1) := fun z => h (valV_iff.mpr z)
          have nd : (kK k :: kvs.map (·.1)).Nodup := List.nodup_cons.mpr ⟨n1, ok.1⟩
          have hs : (kK k :: kvs.map (·.1)) ⊆ kvs'.map (·.1) := List.cons_subset.mpr ⟨valV_iff.mp h', sub ok fun k h => (hk k h).1⟩
          have := List.Nodup.length_le_of_subset nd hs
          rw [List.length_cons, List.length_map, List.length_map, rel.length, rel'.length, hl] at this
          omega
        · by_cases z : g k = .abs
          · rw [hf, z]
          · exact absurd (ng.mpr z) h'
    · intro e
      have e : f = g := D.obj.inj e
      subst e
      have same : ∀ k, (valV kvs (kK k)).isSome = true ↔ (valV kvs' (kK k)).isSome = true := fun k => nf.trans ng.symm
      refine ⟨?_, fun p hp => ?_⟩
      · have l1 := List.Nodup.length_le_of_subset ok.1 (sub (l' := kvs') ok fun k h => (same k).mp h)
        have l2 := List.Nodup.length_le_of_subset ok'.1 (sub (l' := kvs) ok' fun k h => (same k).mpr h)
        rw [List.length_map, List.length_map] at l1 l2
        rw [← rel.length, ← rel'.length]
        omega
      · have hm : p.1 ∈ kvs.map (·.1) := by rw [ks]; exact List.mem_map_of_mem hp
        obtain ⟨p', h1, h2⟩ := List.mem_map.mp hm
        obtain ⟨k, e⟩ := ok.2 p' h1
        have ep : p.1 = kK k := h2.symm.trans e
        rw [ep] at hm ⊢
        rw [some_iff, (same k).mp (valV_iff.mpr hm)]
        simp
  cases x : (ka.length == kb.length && ka.all fun p => (PySem.valueAt kb p.1).isSome && decide (look f p.1 = look g p.1)) with
  | true => exact (decide_eq_true (iff.mp x)).symm
  | false => exact (decide_eq_false fun z => by rw [iff.mpr z] at x; cases x).symm
theorem isDObj {kvs : List (L2.Key × V)} {a : Addr} {h : Heap} {P : Program} {w : World} (ok : HOk P w H h) (r : Rd H a (.dK kvs)) : DObj h a := by
  obtain ⟨_, _, vs, _, o, es, ep, ho, hc, hd, _⟩ := dk_rd ok r
  exact ⟨o, es, ep, ho, hc.1, hd⟩
theorem rl_ne_rd {a b : Addr} {xs : List V} {kvs : List (L2.Key × V)} (h : Rd H a (.lst xs)) (h' : Rd H b (.dK kvs)) : a ≠ b := fun e => by
  subst e
  exact nomatch Rd.one h h' (fun _ _ z => nomatch z) (fun _ _ z => nomatch z)
theorem doc_cmp : ∀ (n : Nat) (d d' : D) (x y : V), d.dep < n → DocAt H d x → DocAt H d' y → CmpT X H (n + 1) x y (decide (d = d'))
  | _, .abs, _, _, _, _, h, _ => (show False from h).elim
  | _, _, .abs, _, _, _, _, h => (show False from h).elim
  | n, .atom x0, .atom y0, x, y, _, h, h' => fun pins s σ u v I rx ry => by
    obtain ⟨as, r1⟩ := Dp.reads I _ x u (dp_dl (K := X.K) h) rx
    obtain ⟨bs, r2⟩ := Dp.reads I _ y v (dp_dl (K := X.K) h') ry
    have e : decide (D.atom x0 = .atom y0) = PyData.eqv x0.dl y0.dl := by
      rw [eqv_dl]
      by_cases z : x0 = y0
      · simp [z]
      · simp [z]
    rw [e]
    refine .leaf fun A hu => SeqAt.eqAt_reads _ _ A s u v as bs r1 r2 (SeqAt.canLay_of_shaped (shaped_dl x0)) (SeqAt.canLay_of_shaped (shaped_dl y0)) ?_
    have h1 := dl_depth x0
    have h2 : min x0.dl.depth y0.dl.depth ≤ x0.dl.depth := Nat.min_le_left _ _
    omega
  | n, .atom x0, .obj g, x, y, _, h, h' => fun pins s σ u v I rx ry => by
    obtain ⟨b, kvs, rfl, r, _⟩ := DocAt.obj_iff.mp h'
    cases ry
    have hd := isDObj I.hok r
    rw [decide_eq_false (show ¬ D.atom x0 = .obj g from fun z => nomatch z)]
    cases x0 with
    | pl a0 =>
      have ex : x = a0.v := h
      subst ex
      cases a0 with
      | non => cases rx; exact .leaf fun A hu => at_none_dict hd (by omega)
      | int i => obtain ⟨t, rfl⟩ := rx; exact .leaf fun A hu => at_int_dict _ _ hd (by omega)
      | str z => obtain ⟨t, rfl⟩ := rx; exact .leaf fun A hu => at_str_dict _ _ hd (by omega)
    | lst xs =>
      obtain ⟨a, rfl, rl, _⟩ := h
      cases rx
      obtain ⟨its, _, pl, _⟩ := I.list (SqL.rd rl)
      exact .leaf fun A hu => SeqAt.EqAt.of_refs (rl_ne_rd rl r) (eq_list_dict hd pl.isList (by omega))
  | n, .obj f, .atom y0, x, y, _, h, h' => fun pins s σ u v I rx ry => by
    obtain ⟨b, kvs, rfl, r, _⟩ := DocAt.obj_iff.mp h
    cases rx
    have hd := isDObj I.hok r
    rw [decide_eq_false (show ¬ D.obj f = .atom y0 from fun z => nomatch z)]
    cases y0 with
    | pl a0 =>
      have ex : y = a0.v := h'
      subst ex
      cases a0 with
      | non => cases ry; exact .leaf fun A hu => at_dict_none hd (by omega)
      | int i => obtain ⟨t, rfl⟩ := ry; exact .leaf fun A hu => at_dict_int _ _ hd (by omega)
      | str z => obtain ⟨t, rfl⟩ := ry; exact .leaf fun A hu => at_dict_str _ _ hd (by omega)
    | lst xs =>
      obtain ⟨a, rfl, rl, _⟩ := h'
      cases ry
      obtain ⟨its, _, pl, _⟩ := I.list (SqL.rd rl)
      exact .leaf fun A hu => SeqAt.EqAt.of_refs (Ne.symm (rl_ne_rd rl r)) (eq_dict_list hd pl.isList (by omega))
  | 0, .obj f, .obj g, x, y, hn, h, h' => absurd hn (Nat.not_lt_zero _)
  | n + 1, .obj f, .obj g, x, y, hn, h, h' => fun pins s σ u v I rx ry => by
    by_cases exy : x = y
    · subst exy
      have euv : u = v := by
        obtain ⟨a, kvs, rfl, _⟩ := DocAt.obj_iff.mp h
        cases rx
        cases ry
        rfl
      rw [decide_eq_true (h.inj h'), euv]
      exact .same
    · obtain ⟨a, kvs, rfl, r, ok, m⟩ := DocAt.obj_iff.mp h
      obtain ⟨b, kvs', rfl, r', ok', m'⟩ := DocAt.obj_iff.mp h'
      cases rx
      cases ry
      obtain ⟨_, sa, ka, rel, da⟩ := dk_rd I.hok r
      obtain ⟨_, sb, kb, rel', db⟩ := dk_rd I.hok r'
      rw [← tab_eq rel rel' ok ok' m m']
      refine .dicts (e := fun q => decide (look f q = look g q)) (fun e => exy (by rw [e])) sa sb da db fun q v1 y1 hm hv => ?_
      have hq : q ∈ ka.map (·.1) := List.mem_map_of_mem hm
      rw [← rel.keys] at hq
      obtain ⟨p, h1, h2⟩ := List.mem_map.mp hq
      obtain ⟨k, e⟩ := ok.2 p h1
      have eq : q = kK k := h2.symm.trans e
      subst eq
      rw [look_at, look_at]
      have hva : PySem.valueAt ka (kK k) = some v1 := PySem.valueAt_of_mem (by rw [← rel.keys]; exact ok.1) hm
      have ra := rel.val (kK k)
      have rb := rel'.val (kK k)
      rw [hva] at ra
      rw [hv] at rb
      have mk := m k
      have mk' := m' k
      cases e1 : valV kvs (kK k) with
      | none => rw [e1] at ra; exact ra.elim
      | some x1 =>
        cases e2 : valV kvs' (kK k) with
        | none => rw [e2] at rb; exact rb.elim
        | some x2 =>
          rw [e1] at ra mk
          rw [e2] at rb mk'
          exact doc_cmp n (f k) (g k) x1 x2 (D.lt_kid hn k) mk mk' pins s σ v1 y1 I ra rb
theorem kid_cmp {n : Nat} {kvs kvs' : List (L2.Key × V)} {ka kb : List (L2.Key × Value)} {f g : Ky → D} (rel : KV kvs ka) (rel' : KV kvs' kb) (ok : tabOk kvs) (m : ∀ k, MAt H (f k) (valV kvs (kK k))) (m' : ∀ k, MAt H (g k) (valV kvs' (kK k))) (hn : ∀ k, (f k).dep < n)
    {pins : List (Addr × Obj)} {s : Shared} {σ : L2.St} (I : L2.Inv X pins σ H s) {q : L2.Key} {v1 y1 : Value} (hm : (q, v1) ∈ ka) (hv : PySem.valueAt kb q = some y1) : PySem.W.EqTree X.prog X.w s (n + 1) v1 y1 (decide (look f q = look g q)) := by
  have hq : q ∈ ka.map (·.1) := List.mem_map_of_mem hm
  rw [← rel.keys] at hq
  obtain ⟨p, h1, h2⟩ := List.mem_map.mp hq
  obtain ⟨k, e⟩ := ok.2 p h1
  have eq : q = kK k := h2.symm.trans e
  subst eq
  rw [look_at, look_at]
  have hva : PySem.valueAt ka (kK k) = some v1 := PySem.valueAt_of_mem (by rw [← rel.keys]; exact ok.1) hm
  have ra := rel.val (kK k)
  have rb := rel'.val (kK k)
  rw [hva] at ra
  rw [hv] at rb
  have mk := m k
  have mk' := m' k
  cases e1 : valV kvs (kK k) with
  | none => rw [e1] at ra; exact ra.elim
  | some x1 =>
    cases e2 : valV kvs' (kK k) with
    | none => rw [e2] at rb; exact rb.elim
    | some x2 =>
      rw [e1] at ra mk
      rw [e2] at rb mk'
      exact doc_cmp n (f k) (g k) x1 x2 (hn k) mk mk' pins s σ v1 y1 I ra rb
theorem kid_dep20 {f : Ky → D} {n : Nat} (h : (D.obj f).dep ≤ n) (k : Ky) : (f k).dep < n + 1 := by
  have h1 : 1 + mx4 (fun k => (f k).dep) ≤ n := h
  have := mx4_le.mp (Nat.le_refl (mx4 fun k => (f k).dep)) k
  omega
end
end Tp
end
section
set_option maxRecDepth 100000
set_option maxHeartbeats 4000000
/-! The operators == and != on documents, rows, pairs (document, row), and against []. -/
namespace Tp
open PySem PySem.Spec PyProof.Rows L2
section
variable {X : Cx}
def rEqDoc : R2 := fun x y H Q => ∃ d e, DocAt H d x ∧ DocAt H e y ∧ d.dep ≤ 20 ∧ Q (.bl (decide (d = e))) H
def rNeDoc : R2 := fun x y H Q => ∃ d e, DocAt H d x ∧ DocAt H e y ∧ d.dep ≤ 20 ∧ Q (.bl (!decide (d = e))) H
theorem atoms_dl (x0 y0 : At) : PyData.eqv x0.dl y0.dl = decide (D.atom x0 = .atom y0) := by
  rw [eqv_dl]
  by_cases z : x0 = y0
  · simp [z]
  · simp [z]
theorem op_eqDoc (hu : X.A.units + 64 < cLine) : OpR X (compareOp .Eq) rEqDoc := by
  intro pins s σ H x y u v Q I rx ry h
  obtain ⟨d, e, hd, he, hdep, q⟩ := h
  have fin : ∀ (b : Bool), b = decide (d = e) → EP X pins σ Q (.bool b) s := fun b eb => ⟨.bl b, H, I, rfl, by rw [eb]; exact q⟩
  have hu1 : X.A.units < cLine := by omega
  cases d with
  | abs => exact (show False from hd).elim
  | atom x0 =>
    cases e with
    | abs => exact (show False from he).elim
    | atom y0 =>
      obtain ⟨as, r1⟩ := Dp.reads I _ x u (dp_dl (K := X.K) hd) rx
      obtain ⟨bs, r2⟩ := Dp.reads I _ y v (dp_dl (K := X.K) he) ry
      exact SeqAt.compareEq_shaped r1 r2 (shaped_dl x0) (shaped_dl y0) hu (fin _ (atoms_dl x0 y0))
    | obj g =>
      obtain ⟨b, kvs, rfl, r, _⟩ := DocAt.obj_iff.mp he
      cases ry
      have ho := isDObj I.hok r
      have f0 := fin false (decide_eq_false fun z => nomatch z).symm
      show wpAny _ _ (richCompare .Eq u (.ref b)) _ _ s
      cases x0 with
      | pl a0 =>
        have ex : x = a0.v := hd
        subst ex
        cases a0 with
        | non => cases rx; exact eq_none_dict ho hu1 _ _ _ _ f0
        | int i => obtain ⟨t, rfl⟩ := rx; exact eq_int_dict _ _ ho hu1 _ _ _ _ f0
        | str z => obtain ⟨t, rfl⟩ := rx; exact eq_str_dict _ _ ho hu1 _ _ _ _ f0
      | lst xs =>
        obtain ⟨a, rfl, rl, _⟩ := hd
        cases rx
        obtain ⟨its, _, pl, _⟩ := I.list (SqL.rd rl)
        exact eq_list_dict ho pl.isList hu1 _ _ _ _ f0
  | obj f =>
    obtain ⟨b, kvs, rfl, r, ok, m⟩ := DocAt.obj_iff.mp hd
    cases rx
    have ho := isDObj I.hok r
    show wpAny _ _ (richCompare .Eq (.ref b) v) _ _ s
    cases e with
    | abs => exact (show False from he).elim
    | atom y0 =>
      have f0 := fin false (decide_eq_false fun z => nomatch z).symm
      cases y0 with
      | pl a0 =>
        have ex : y = a0.v := he
        subst ex
        cases a0 with
        | non => cases ry; exact eq_dict_none ho hu1 _ _ _ _ f0
        | int i => obtain ⟨t, rfl⟩ := ry; exact eq_dict_int _ _ ho hu1 _ _ _ _ f0
        | str z => obtain ⟨t, rfl⟩ := ry; exact eq_dict_str _ _ ho hu1 _ _ _ _ f0
      | lst xs =>
        obtain ⟨a, rfl, rl, _⟩ := he
        cases ry
        obtain ⟨its, _, pl, _⟩ := I.list (SqL.rd rl)
        exact eq_dict_list ho pl.isList hu1 _ _ _ _ f0
    | obj g =>
      obtain ⟨b', kvs', rfl, r', ok', m'⟩ := DocAt.obj_iff.mp he
      cases ry
      obtain ⟨_, sa, ka, rel, da⟩ := dk_rd I.hok r
      obtain ⟨_, sb, kb, rel', db⟩ := dk_rd I.hok r'
      refine PySem.W.eq_dictsT (n := 22) (e := fun q => decide (look f q = look g q)) sa sb da db (fun q v1 y1 hm hv => ?_) (by omega) (fin _ (tab_eq rel rel' ok ok' m m'))
      exact kid_cmp rel rel' ok m m' (kid_dep20 hdep) I hm hv
theorem op_neDoc (hu : X.A.units + 64 < cLine) : OpR X (compareOp .NotEq) rNeDoc := by
  intro pins s σ H x y u v Q I rx ry h
  obtain ⟨d, e, hd, he, hdep, q⟩ := h
  have fin : ∀ (b : Bool), b = !decide (d = e) → EP X pins σ Q (.bool b) s := fun b eb => ⟨.bl b, H, I, rfl, by rw [eb]; exact q⟩
  have hu1 : X.A.units < cLine := by omega
  cases d with
  | abs => exact (show False from hd).elim
  | atom x0 =>
    cases e with
    | abs => exact (show False from he).elim
    | atom y0 =>
      obtain ⟨as, r1⟩ := Dp.reads I _ x u (dp_dl (K := X.K) hd) rx
      obtain ⟨bs, r2⟩ := Dp.reads I _ y v (dp_dl (K := X.K) he) ry
      exact SeqAt.compareNe_shaped r1 r2 (shaped_dl x0) (shaped_dl y0) hu (fin _ (by rw [atoms_dl x0 y0]))
    | obj g =>
      obtain ⟨b, kvs, rfl, r, _⟩ := DocAt.obj_iff.mp he
      cases ry
      have ho := isDObj I.hok r
      have f0 := fin true (by rw [decide_eq_false (fun z => nomatch z)] <;> rfl)
      show wpAny _ _ (richCompare .NotEq u (.ref b)) _ _ s
      cases x0 with
      | pl a0 =>
        have ex : x = a0.v := hd
        subst ex
        cases a0 with
        | non => cases rx; exact ne_none_dict ho hu1 _ _ _ _ f0
        | int i => obtain ⟨t, rfl⟩ := rx; exact ne_int_dict _ _ ho hu1 _ _ _ _ f0
        | str z => obtain ⟨t, rfl⟩ := rx; exact ne_str_dict _ _ ho hu1 _ _ _ _ f0
      | lst xs =>
        obtain ⟨a, rfl, rl, _⟩ := hd
        cases rx
        obtain ⟨its, _, pl, _⟩ := I.list (SqL.rd rl)
        exact ne_list_dict ho pl.isList hu1 _ _ _ _ f0
  | obj f =>
    obtain ⟨b, kvs, rfl, r, ok, m⟩ := DocAt.obj_iff.mp hd
    cases rx
    have ho := isDObj I.hok r
    show wpAny _ _ (richCompare .NotEq (.ref b) v) _ _ s
    cases e with
    | abs => exact (show False from he).elim
    | atom y0 =>
      have f0 := fin true (by rw [decide_eq_false (fun z => nomatch z)] <;> rfl)
      cases y0 with
      | pl a0 =>
        have ex : y = a0.v := he
        subst ex
        cases a0 with
        | non => cases ry; exact ne_dict_none ho hu1 _ _ _ _ f0
        | int i => obtain ⟨t, rfl⟩ := ry; exact ne_dict_int _ _ ho hu1 _ _ _ _ f0
        | str z => obtain ⟨t, rfl⟩ := ry; exact ne_dict_str _ _ ho hu1 _ _ _ _ f0
      | lst xs =>
        obtain ⟨a, rfl, rl, _⟩ := he
        cases ry
        obtain ⟨its, _, pl, _⟩ := I.list (SqL.rd rl)
        exact ne_dict_list ho pl.isList hu1 _ _ _ _ f0
    | obj g =>
      obtain ⟨b', kvs', rfl, r', ok', m'⟩ := DocAt.obj_iff.mp he
      cases ry
      obtain ⟨_, sa, ka, rel, da⟩ := dk_rd I.hok r
      obtain ⟨_, sb, kb, rel', db⟩ := dk_rd I.hok r'
      refine ncX_dicts sa sb da db hu1 (fun _ => PySem.W.KeqHitsIn.of (e := fun q => decide (look f q = look g q)) _ fun q v1 y1 hm hv => PySem.W.EqTree.at (n := 22) ?_ X.A.in1 (by show X.A.units + 1 + 22 < cLine; omega)) (fin _ (by rw [tab_eq rel rel' ok ok' m m']))
      exact kid_cmp rel rel' ok m m' (kid_dep20 hdep) I hm hv
end
end Tp
end
section
set_option maxRecDepth 100000
set_option maxHeartbeats 4000000
namespace Tp
open PySem PySem.Spec PyProof.Rows L2
/-- the j-th comparison of two rows -/
def rowE (ds es : List D) (j : Nat) : Bool := decide (ds[j]? = es[j]?)
theorem rowE_all : ∀ {ds es : List D}, ds.length = es.length → (List.range ds.length).all (rowE ds es) = decide (ds = es) := by
  intro ds es hl
  have iff : (List.range ds.length).all (rowE ds es) = true ↔ ds = es := by
    rw [List.all_eq_true]
    constructor
    · intro h
      refine List.ext_getElem? fun j => ?_
      by_cases hj : j < ds.length
      · exact of_decide_eq_true (h j (List.mem_range.mpr hj))
      · rw [List.getElem?_eq_none (by omega), List.getElem?_eq_none (by omega)]
    · intro h j _
      subst h
      exact decide_eq_true rfl
  cases x : (List.range ds.length).all (rowE ds es) with
  | true => exact (decide_eq_true (iff.mp x)).symm
  | false => exact (decide_eq_false fun z => by rw [iff.mpr z] at x; cases x).symm
section
variable {X : Cx} {H : Hp}
theorem rows_at {pins : List (Addr × Obj)} {s : Shared} {σ : L2.St} (I : L2.Inv X pins σ H s) {ds es : List D} {vs us : List V} {its its' : List Value} (hd : DocsAt H ds vs) (he : DocsAt H es us) (rv : Vals vs its) (rv' : Vals us its') {n : Nat} (hdep : ∀ d ∈ ds, d.dep < n) :
    ∀ j (h1 : j < its.toArray.size) (h2 : j < its'.toArray.size), PySem.W.EqTree X.prog X.w s (n + 1) its.toArray[j] its'.toArray[j] (rowE ds es j) := by
  intro j h1 h2
  have l1 := rv.length
  have l2 := rv'.length
  have h1' : j < its.length := by simpa using h1
  have h2' : j < its'.length := by simpa using h2
  have e1 : vs[j]? = some (vs[j]'(by omega)) := by simp [show j < vs.length by omega]
  have e2 : us[j]? = some (us[j]'(by omega)) := by simp [show j < us.length by omega]
  obtain ⟨d, hd1, hdx⟩ := hd.nth e1
  obtain ⟨e, he1, hex⟩ := he.nth e2
  obtain ⟨u1, g1, rx⟩ := rv.get e1
  obtain ⟨u2, g2, ry⟩ := rv'.get e2
  have z1 : its[j] = u1 := by rw [List.getElem?_eq_getElem h1'] at g1; exact Option.some.inj g1
  have z2 : its'[j] = u2 := by rw [List.getElem?_eq_getElem h2'] at g2; exact Option.some.inj g2
  have key := doc_cmp n d e _ _ (hdep d (List.mem_of_getElem? hd1)) hdx hex pins s σ _ _ I rx ry
  have eb : rowE ds es j = decide (d = e) := by
    unfold rowE
    rw [hd1, he1]
    by_cases z : d = e <;> simp [z]
  rw [eb]
  simpa [z1, z2] using key
/-- two rows as items -/
theorem row_cmp {n : Nat} {ds es : List D} {x y : V} (hdep : ∀ d ∈ ds, d.dep < n) (h : RowAt H ds x) (h' : RowAt H es y) : CmpT X H (n + 2) x y (decide (ds = es)) := fun pins s σ u v I rx ry => by
  obtain ⟨a, vs, rfl, r, hd⟩ := h
  obtain ⟨b, us, rfl, r', he⟩ := h'
  cases rx
  cases ry
  by_cases eab : a = b
  · subst eab
    have := Rd.one r r' (fun _ _ z => nomatch z) (fun _ _ z => nomatch z)
    injection this with this
    subst this
    rw [decide_eq_true (hd.inj he)]
    exact .same
  · obtain ⟨its, rv, pl, _⟩ := I.list (SqL.rd r)
    obtain ⟨its', rv', pl', _⟩ := I.list (SqL.rd r')
    have l1 := hd.len
    have l2 := he.len
    have l3 := rv.length
    have l4 := rv'.length
    by_cases hl : ds.length = es.length
    · rw [← rowE_all hl]
      have hs : its.toArray.size = ds.length := by simp; omega
      rw [← hs]
      exact .lists eab pl.isList pl'.isList (by simp; omega) (rows_at I hd he rv rv' hdep)
    · rw [decide_eq_false (fun z => hl (by rw [z]))]
      exact .listsLen eab pl.isList pl'.isList (by simp; omega)
def rEqRow : R2 := fun x y H Q => ∃ ds es, RowAt H ds x ∧ RowAt H es y ∧ (∀ d ∈ ds, d.dep < 20) ∧ Q (.bl (decide (ds = es))) H
def rNeRow : R2 := fun x y H Q => ∃ ds es, RowAt H ds x ∧ RowAt H es y ∧ (∀ d ∈ ds, d.dep < 20) ∧ Q (.bl (!decide (ds = es))) H
theorem op_eqRow (hu : X.A.units + 64 < cLine) : OpR X (compareOp .Eq) rEqRow := by
  intro pins s σ H x y u v Q I rx ry h
  obtain ⟨ds, es, ⟨a, vs, rfl, r, hd⟩, ⟨b, us, rfl, r', he⟩, hdep, q⟩ := h
  cases rx
  cases ry
  have fin : ∀ (b : Bool), b = decide (ds = es) → EP X pins σ Q (.bool b) s := fun b eb => ⟨.bl b, H, I, rfl, by rw [eb]; exact q⟩
  obtain ⟨its, rv, pl, _⟩ := I.list (SqL.rd r)
  obtain ⟨its', rv', pl', _⟩ := I.list (SqL.rd r')
  have l1 := hd.len
  have l2 := he.len
  have l3 := rv.length
  have l4 := rv'.length
  show wpAny _ _ (richCompare .Eq (.ref a) (.ref b)) _ _ s
  by_cases hl : ds.length = es.length
  · have hs : its.toArray.size = ds.length := by simp; omega
    exact SeqAt.rcIn_lists pl.isList pl'.isList (by simp; omega) (by omega) (fun j h1 h2 => (rows_at I hd he rv rv' hdep j h1 h2).at X.A.in1 (by show X.A.units + 1 + _ < cLine; omega)) (fin _ (by rw [hs]; exact rowE_all hl))
  · exact SeqAt.RcAt.lists_lengths pl.isList pl'.isList (by simp; omega) (by omega) _ _ _ _ (fin _ (decide_eq_false (fun z => hl (by rw [z]))).symm)
theorem op_neRow (hu : X.A.units + 64 < cLine) : OpR X (compareOp .NotEq) rNeRow := by
  intro pins s σ H x y u v Q I rx ry h
  obtain ⟨ds, es, ⟨a, vs, rfl, r, hd⟩, ⟨b, us, rfl, r', he⟩, hdep, q⟩ := h
  cases rx
  cases ry
  have fin : ∀ (b : Bool), b = !decide (ds = es) → EP X pins σ Q (.bool b) s := fun b eb => ⟨.bl b, H, I, rfl, by rw [eb]; exact q⟩
  obtain ⟨its, rv, pl, _⟩ := I.list (SqL.rd r)
  obtain ⟨its', rv', pl', _⟩ := I.list (SqL.rd r')
  have l1 := hd.len
  have l2 := he.len
  have l3 := rv.length
  have l4 := rv'.length
  show wpAny _ _ (richCompare .NotEq (.ref a) (.ref b)) _ _ s
  by_cases hl : ds.length = es.length
  · have hs : its.toArray.size = ds.length := by simp; omega
    exact ncX_lists pl.isList pl'.isList (by simp; omega) (by omega) (fun j h1 h2 => (rows_at I hd he rv rv' hdep j h1 h2).at X.A.in1 (by show X.A.units + 1 + _ < cLine; omega)) (fin _ (by rw [hs, rowE_all hl]))
  · exact SeqAt.RcNeAt.lists_lengths pl.isList pl'.isList (by simp; omega) (by omega) _ _ _ _ (fin _ (by rw [decide_eq_false (fun z => hl (by rw [z]))] <;> rfl))
/-- (document, row) != (document, row) -/
def rNePair : R2 := fun x y H Q => ∃ p p' v r v' r' d d' ds ds', x = .ref p ∧ y = .ref p' ∧ H p = some (.tup [v, r]) ∧ H p' = some (.tup [v', r']) ∧ DocAt H d v ∧ DocAt H d' v' ∧ RowAt H ds r ∧ RowAt H ds' r' ∧ d.dep < 20 ∧ (∀ d ∈ ds, d.dep < 20) ∧
  Q (.bl (!(decide (d = d') && decide (ds = ds')))) H
theorem op_nePair (hu : X.A.units + 64 < cLine) : OpR X (compareOp .NotEq) rNePair := by
  intro pins s σ H x y u v Q I rx ry h
  obtain ⟨p, p', v1, r1, v2, r2, d, d', ds, ds', rfl, rfl, hp, hp', hd, hd', hr, hr', dd, dr, q⟩ := h
  cases rx
  cases ry
  obtain ⟨its, rv, pl, _⟩ := I.tuple (SqT.of (K := X.K) hp)
  obtain ⟨its', rv', pl', _⟩ := I.tuple (SqT.of (K := X.K) hp')
  obtain ⟨a1, a2, e1, ra1, ra2⟩ := vals2 rv
  obtain ⟨b1, b2, e2, rb1, rb2⟩ := vals2 rv'
  subst e1
  subst e2
  have t1 := (doc_cmp 20 d d' v1 v2 dd hd hd' pins s σ a1 b1 I ra1 rb1)
  have t2 := (row_cmp (n := 20) dr hr hr' pins s σ a2 b2 I ra2 rb2)
  show wpAny _ _ (richCompare .NotEq (.ref p) (.ref p')) _ _ s
  refine ncX_tuples (e := fun j => if j = 0 then decide (d = d') else decide (ds = ds')) pl pl' (by omega) (fun j h1 h2 => ?_) ?_
  · have hj : j < 2 := by simpa using h1
    match j, hj with
    | 0, _ => exact t1.at X.A.in1 (by show X.A.units + 1 + _ < cLine; omega)
    | 1, _ => exact t2.at X.A.in1 (by show X.A.units + 1 + _ < cLine; omega)
  · have e : (!((List.range (min #[a1, a2].size #[b1, b2].size)).all (fun j => if j = 0 then decide (d = d') else decide (ds = ds')) && #[a1, a2].size == #[b1, b2].size)) = !(decide (d = d') && decide (ds = ds')) := by
      show (!((List.range 2).all _ && true)) = _
      simp [List.range_succ]
    show EP X pins σ Q (Value.bool (!((List.range (min #[a1, a2].size #[b1, b2].size)).all (fun j => if j = 0 then decide (d = d') else decide (ds = ds')) && #[a1, a2].size == #[b1, b2].size))) s
    rw [e]
    exact ⟨.bl (!(decide (d = d') && decide (ds = ds'))), H, I, rfl, q⟩
/-- a list against the empty list -/
def rEqNil (K : PySem.W.Frag) : R2 := fun x y H Q => ∃ a b xs, x = .ref a ∧ y = .ref b ∧ SqL K H a xs ∧ SqL K H b [] ∧ Q (.bl (decide (xs = []))) H
def rNeNil (K : PySem.W.Frag) : R2 := fun x y H Q => ∃ a b xs, x = .ref a ∧ y = .ref b ∧ SqL K H a xs ∧ SqL K H b [] ∧ Q (.bl (!decide (xs = []))) H
theorem op_eqNil (hu : X.A.units + 64 < cLine) : OpR X (compareOp .Eq) (rEqNil X.K) := by
  intro pins s σ H x y u v Q I rx ry h
  obtain ⟨a, b, xs, rfl, rfl, ha, hb, q⟩ := h
  cases rx
  cases ry
  obtain ⟨its, rv, pl, _⟩ := I.list ha
  obtain ⟨its', rv', pl', _⟩ := I.list hb
  cases rv'
  have l3 := rv.length
  show wpAny _ _ (richCompare .Eq (.ref a) (.ref b)) _ _ s
  cases xs with
  | nil =>
    cases rv
    exact SeqAt.RcAt.lists (e := fun _ => true) pl.isList pl'.isList rfl (by omega) (fun j h1 _ => absurd h1 (Nat.not_lt_zero _)) _ _ _ _ ⟨.bl true, H, I, rfl, q⟩
  | cons z zs => exact SeqAt.RcAt.lists_lengths pl.isList pl'.isList (by simp; rw [List.length_cons] at l3; intro z; rw [z] at l3; simp at l3) (by omega) _ _ _ _ ⟨.bl false, H, I, rfl, q⟩
theorem op_neNil (hu : X.A.units + 64 < cLine) : OpR X (compareOp .NotEq) (rNeNil X.K) := by
  intro pins s σ H x y u v Q I rx ry h
  obtain ⟨a, b, xs, rfl, rfl, ha, hb, q⟩ := h
  cases rx
  cases ry
  obtain ⟨its, rv, pl, _⟩ := I.list ha
  obtain ⟨its', rv', pl', _⟩ := I.list hb
  cases rv'
  have l3 := rv.length
  show wpAny _ _ (richCompare .NotEq (.ref a) (.ref b)) _ _ s
  cases xs with
  | nil =>
    cases rv
    exact SeqAt.RcNeAt.lists (e := fun _ => true) pl.isList pl'.isList rfl (by omega) (fun j h1 _ => absurd h1 (Nat.not_lt_zero _)) _ _ _ _ ⟨.bl false, H, I, rfl, q⟩
  | cons z zs => exact SeqAt.RcNeAt.lists_lengths pl.isList pl'.isList (by simp; rw [List.length_cons] at l3; intro z; rw [z] at l3; simp at l3) (by omega) _ _ _ _ ⟨.bl true, H, I, rfl, q⟩
end
end Tp
end
section
set_option maxRecDepth 100000
set_option maxHeartbeats 4000000
/-! How a log lies in the abstract heap. -/
namespace Tp
open PySem PySem.Spec PyProof.Rows L2
/-- the heap beside a log at a and its history at hl -/
def rest (H : Hp) (a hl : Addr) : Hp := fun b => if b = a ∨ b = hl then none else H b
section
variable {H H' : Hp} {a hl b : Addr} {o : HO}
theorem rest_some (h : rest H a hl b = some o) : H b = some o ∧ b ≠ a ∧ b ≠ hl := by
  unfold rest at h
  split at h
  · cases h
  · rename_i n
    exact ⟨h, fun e => n (.inl e), fun e => n (.inr e)⟩
theorem rest_of (h : H b = some o) (n1 : b ≠ a) (n2 : b ≠ hl) : rest H a hl b = some o := by
  unfold rest
  rw [if_neg (fun z => z.elim n1 n2)]
  exact h
theorem same_rest : Same (rest H a hl) H := fun _ _ h => (rest_some h).1
theorem rest_mono (s : Same H H') : Same (rest H a hl) (rest H' a hl) := fun b o h => by
  obtain ⟨h1, h2, h3⟩ := rest_some h
  exact rest_of (s _ _ h1) h2 h3
theorem rest_upd1 : rest (upd H a o) a hl = rest H a hl := by
  funext b
  unfold rest
  by_cases e : b = a
  · rw [if_pos (.inl e), if_pos (.inl e)]
  · rw [upd_ne e]
theorem rest_upd2 : rest (upd H hl o) a hl = rest H a hl := by
  funext b
  unfold rest
  by_cases e : b = hl
  · rw [if_pos (.inr e), if_pos (.inr e)]
  · rw [upd_ne e]
/-- what was made since stands beside the log -/
theorem new_rest {oa oh : HO} (ha : H a = some oa) (hh : H hl = some oh) : Same (nw H H') (rest H' a hl) := fun b o h => by
  obtain ⟨h1, h2⟩ := nw_some h
  exact rest_of h2 (fun e => by rw [e, ha] at h1; cases h1) (fun e => by rw [e, hh] at h1; cases h1)
end
/-- .. beside the source at sx, too -/
def rs (sx : Addr) (H : Hp) (a hl : Addr) : Hp := rest (rest H a hl) sx sx
section
variable {H H' : Hp} {sx a hl b : Addr} {o : HO}
theorem rs_mono (s : Same H H') : Same (rs sx H a hl) (rs sx H' a hl) := rest_mono (rest_mono s)
theorem rs_rest (s : Same (rest H a hl) (rest H' a hl)) : Same (rs sx H a hl) (rs sx H' a hl) := rest_mono s
theorem same_rs : Same (rs sx H a hl) H := same_rest.trans same_rest
theorem rs_of (h : H b = some o) (n1 : b ≠ a) (n2 : b ≠ hl) (n3 : b ≠ sx) : rs sx H a hl b = some o := rest_of (rest_of h n1 n2) n3 n3
theorem rs_upd1 : rs sx (upd H a o) a hl = rs sx H a hl := by
  unfold rs
  rw [rest_upd1]
theorem rs_upd2 : rs sx (upd H hl o) a hl = rs sx H a hl := by
  unfold rs
  rw [rest_upd2]
theorem new_rs {oa oh : HO} (ha : H a = some oa) (hh : H hl = some oh) (hs : H sx ≠ none) : Same (nw H H') (rs sx H' a hl) := fun b o h => by
  have h3 := (nw_some h).1
  exact rest_of (new_rest ha hh _ _ h) (fun e => hs (by rw [← e]; exact h3)) (fun e => hs (by rw [← e]; exact h3))
theorem rest_comm : rest (rest H a hl) sx sx = rest (rest H sx sx) a hl := by
  funext b
  unfold rest
  by_cases e1 : b = a ∨ b = hl
  · by_cases e2 : b = sx ∨ b = sx
    · rw [if_pos e2, if_pos e1]
    · rw [if_neg e2, if_pos e1, if_pos e1]
  · by_cases e2 : b = sx ∨ b = sx
    · rw [if_pos e2, if_neg e1, if_pos e2]
    · rw [if_neg e2, if_neg e1, if_neg e1, if_neg e2]
end
def flL (vb vp : V) (hl : Addr) : List (Str × V) := [("begun", vb), ("patches", vp), ("history", .ref hl)]
def HistAt (R : Hp) (p : Addr) (h : D × List D) : Prop := ∃ b r, R p = some (.tup [b, r]) ∧ DocAt R h.1 b ∧ RowAt R h.2 r
theorem HistAt.mono {R R' : Hp} (s : Same R R') {p : Addr} {h : D × List D} (x : HistAt R p h) : HistAt R' p h := let ⟨b, r, e, h1, h2⟩ := x; ⟨b, r, s _ _ e, h1.mono (Le.of s), h2.mono (Le.of s)⟩
structure LogW (sx : Addr) (C : Addr) (H : Hp) (a hl : Addr) (d : D) (ds : List D) (hist : List (D × List D)) (dx : Addr) (vb vp : V) (ps : List Addr) : Prop where
  ins : H a = some (.ins C dx (flL vb vp hl))
  his : H hl = some (.lst (ps.map V.ref))
  doc : DocAt (rs sx H a hl) d vb
  row : RowAt (rs sx H a hl) ds vp
  old : Paired (HistAt (rs sx H a hl)) ps hist
  src : H sx ≠ none
  sn : sx ≠ hl
def LogAt (sx : Addr) (C : Addr) (H : Hp) (a hl : Addr) (d : D) (ds : List D) (hist : List (D × List D)) : Prop := ∃ dx vb vp ps, LogW sx C H a hl d ds hist dx vb vp ps
section
variable {sx C : Addr} {H H' : Hp} {a hl : Addr} {d : D} {ds : List D} {hist : List (D × List D)} {dx : Addr} {vb vp : V} {ps : List Addr}
theorem LogW.ne (L : LogW sx C H a hl d ds hist dx vb vp ps) : a ≠ hl := fun e => by
  have h1 := L.ins
  rw [e, L.his] at h1
  cases h1
theorem LogW.sm (L : LogW sx C H a hl d ds hist dx vb vp ps) (s : Same H H') : LogW sx C H' a hl d ds hist dx vb vp ps := by
  refine ⟨s _ _ L.ins, s _ _ L.his, L.doc.mono (Le.of (rs_mono s)), L.row.mono (Le.of (rs_mono s)), Paired.mapP L.old fun _ _ h => h.mono (rs_mono s), fun z => ?_, L.sn⟩
  cases e : H sx with
  | none => exact L.src e
  | some o => rw [s _ _ e] at z; cases z
theorem LogAt.same (L : LogAt sx C H a hl d ds hist) (s : Same H H') : LogAt sx C H' a hl d ds hist := by
  obtain ⟨dx, vb, vp, ps, L⟩ := L
  exact ⟨dx, vb, vp, ps, L.sm s⟩
/-- the source is still there -/
theorem LogW.src2 (L : LogW sx C H a hl d ds hist dx vb vp ps) (s : Same (rest H a hl) (rest H' a hl)) (h : H' a ≠ none) : H' sx ≠ none := by
  by_cases e : sx = a
  · rw [e]; exact h
  · cases q : H sx with
    | none => exact absurd q L.src
    | some o =>
      have := (rest_some (s _ _ (rest_of q e L.sn))).1
      rw [this]
      exact fun z => nomatch z
/-- the source is drawn from -/
theorem LogW.drawn (L : LogW sx C H a hl d ds hist dx vb vp ps) (na : sx ≠ a) (s : Same (rest H sx sx) (rest H' sx sx)) (h : H' sx ≠ none) : LogW sx C H' a hl d ds hist dx vb vp ps := by
  have r : Same (rs sx H a hl) (rs sx H' a hl) := by
    unfold rs
    rw [rest_comm, rest_comm]
    exact rest_mono s
  exact ⟨(rest_some (s _ _ (rest_of L.ins (Ne.symm na) (Ne.symm na)))).1, (rest_some (s _ _ (rest_of L.his (Ne.symm L.sn) (Ne.symm L.sn)))).1, L.doc.mono (Le.of r), L.row.mono (Le.of r), Paired.mapP L.old fun _ _ h => h.mono r, h, L.sn⟩
theorem Fresh.beside {v : V} {oa oh : HO} (h : Fresh H H' d v) (ha : H a = some oa) (hh : H hl = some oh) (hs : H sx ≠ none) : DocAt (rs sx H' a hl) d v := h.doc.mono (Le.of (new_rs ha hh hs))
end
theorem pairedSnoc {α β : Type} {F : α → β → Prop} {l : List α} {m : List β} {x : α} {y : β} (h : Paired F l m) (r : F x y) : Paired F (l ++ [x]) (m ++ [y]) := by
  induction h with
  | nil => exact .cons r .nil
  | cons r' _ ih => exact .cons r' ih
end Tp
end
section
set_option maxRecDepth 100000
set_option maxHeartbeats 4000000
/-! list + list where the lists may be read only -/
namespace Tp
open PySem PySem.Spec PyProof.Rows L2
section
variable {X : Cx}
def rCatL (K : PySem.W.Frag) : R2 := fun x y H Q => ∃ l b xs zs, x = .ref l ∧ y = .ref b ∧ SqL K H l xs ∧ SqL K H b zs ∧ xs.length + zs.length ≤ sizeLine ∧ ∀ p, H p = none → Q (.ref p) (upd H p (.lst (xs ++ zs)))
theorem op_catL : OpR X (binaryOp .Add) (rCatL X.K) := by
  intro pins s σ H x y v u Q I rx ry h
  obtain ⟨l, b, xs, zs, rfl, rfl, hH, hB, hz, q⟩ := h
  cases rx
  cases ry
  obtain ⟨its, r, ⟨o, n, e, c, d, dd⟩, _⟩ := I.list hH
  obtain ⟨its2, r2, ⟨o2, n2, e2, c2, d2, dd2⟩, _⟩ := I.list hB
  have hl := r.length
  have hl2 := r2.length
  obtain ⟨cls, di, da, sl⟩ := o
  obtain ⟨cls2, di2, da2, sl2⟩ := o2
  simp only at c d dd c2 d2 dd2
  subst c d dd c2 d2 dd2
  have ea : its.toArray ++ its2.toArray = (its ++ its2).toArray := by simp
  refine PySem.concat_meets ⟨_, e, rfl⟩ ⟨_, e2, rfl⟩ PySem.noFill_list_add PySem.seq_list_add PySem.F.slot_list_add PySem.F.entry_list_add (PySem.F.args_list_add_2 _ _) (list_addW l b its.toArray its2.toArray n n2 none none sl sl2 (by rw [List.size_toArray, List.size_toArray]; omega)) ⟨e, e2, ?_⟩
  rw [ea]
  exact ⟨.ref _, _, I.lnew (t' := s.toks) (r.append r2) (by rw [List.length_append]; omega), rfl, q _ I.fresh⟩
end
/-- an expression that the proof never comes to -/
def tNo : TE := fun _ _ _ => False
theorem pe_no {X : Cx} {e : Expr} : PE X e tNo := ⟨fun _ _ _ _ _ _ h => h.elim⟩
theorem cut_all (xs : List V) (n : Nat) (h : n = xs.length) : cutV xs (some 0) (some (n : Int)) = xs := by
  have e0 : HT.sIx xs.length 0 (some 0) = 0 := by
    have := HT.sIx_nat xs.length 0 0
    simpa using this
  unfold cutV
  rw [e0, HT.sIx_nat]
  subst h
  simp
theorem cut_take (xs : List V) (n : Nat) : cutV xs none (some (n : Int)) = xs.take n := by
  unfold cutV
  rw [HT.sIx_none, HT.sIx_nat]
  by_cases h : n ≤ xs.length
  · rw [Nat.min_eq_left h] <;> simp
  · rw [Nat.min_eq_right (by omega), List.take_of_length_le (i := n) (by omega)] <;> simp
theorem cut_drop (xs : List V) (n : Nat) : cutV xs (some (n : Int)) none = xs.drop n := by
  unfold cutV
  rw [HT.sIx_none, HT.sIx_nat]
  by_cases h : n ≤ xs.length
  · rw [Nat.min_eq_left h, List.take_of_length_le (by rw [List.length_drop]; omega)]
  · rw [List.drop_eq_nil_of_le (by omega), List.drop_eq_nil_of_le (by omega)]
    simp
end Tp
end
section
set_option maxRecDepth 100000
set_option maxHeartbeats 4000000
/-! Defs that raise NoChange. -/
namespace Tp
open PySem PySem.Spec PyProof.Rows L2
abbrev CN (K : PySem.W.Frag) : Addr := He.ga K "NoChange"
/-- what the written part says of NoChange -/
structure Nx (K : PySem.W.Frag) : Prop where
  oex : OexC K (CN K)
  ini : PySem.W.findIn K (.ref (CN K)) "__init__" = some (some (.ref (He.ma K (CN K) "__init__")))
  ity : PySem.W.typeIn K (.ref (He.ma K (CN K) "__init__")) = some (.type "function")
  pth : PySem.W.findIn K (.ref (CN K)) "path" = some none
  xfc : XfC K (CN K)
  exm : PySem.W.exmOne K (.ref (CN K)) (.ref (CN K)) = some true
/-- a def that may raise, called by its name -/
structure CalX (P : Program) (w : World) (K : PySem.W.Frag) (mg : Str → Option Value) (base : Heap) (k : Nat) (x : Str) (sp : Sp) : Prop where
  ex : ∃ (f : Addr) (fd : FuncData) (ps : List Str), FnOk P w K mg base (L2.CX P w) k f fd ps sp ∧ mg x = some (.ref f) ∧ PySem.W.keepIn K (.ref f) = true ∧ Binds K fd ps []
section
variable {P : Program} {w : World} {K : PySem.W.Frag} {mg : Str → Option Value} {base : Heap}
theorem Tx.calX (T : Tx K mg) (i : Nat) {x : Str} {st : Stmt} {N ps : List Str} {k : Nat} {sp : Sp}
    (hd : fn[i]? = some ⟨(x, none), x, x, C8.fnArgs st, C8.fnBody st, C8.fnScope st, [], []⟩) (hx : gloN.contains x = true) (S : FnScope N ps (C8.fnScope st))
    (hb : ∀ (kV doc pm : Value) (an : Option Addr) (cdv ct : Value) (us : List Value), us.length = ps.length → bindArgs (PySem.W.fnOf x x (C8.fnArgs st) (C8.fnBody st) (C8.fnScope st) .none kV doc pm an cdv ct) ⟨us, []⟩ = pure (ps.zip us))
    (len : ∀ vs H Q E, sp vs H Q E → vs.length = ps.length)
    (hbody : ∀ (cdv : Value) (A : Around) (outer : List Env) (s : Shared) (H : Hp) (vs : List V) (Q : VK) (E : XK) (f : Addr), Room k (A.deeper (envOfC x (C8.fnScope st) s.heap.objs.size f cdv)) → sp vs H Q E →
      Takes (cxOf (L2.CX P w) P w K mg base N x (C8.fnScope st) f cdv A outer s H E) (fun cls d _ H => E cls d H) → PassesOwn (model P w) (A.deeper (envOfC x (C8.fnScope st) s.heap.objs.size f cdv)) (envOfC x (C8.fnScope st) s.heap.objs.size f cdv) (cxOf (L2.CX P w) P w K mg base N x (C8.fnScope st) f cdv A outer s H E).xe →
      ∃ t, PSs (cxOf (L2.CX P w) P w K mg base N x (C8.fnScope st) f cdv A outer s H E) (C8.fnBody st) t ∧ t { nx := fun _ H' => Q .non H', rt := Q } (start N vs) H) : CalX P w K mg base (k + 1) x sp := by
  obtain ⟨fd, F⟩ := T.dfs i _ hd
  obtain ⟨F0, df⟩ := Fun_of (st := st) F
  refine ⟨_, fd, ps, F.ok S len fun cdv A outer s H vs Q E hr h => hbody cdv A outer s H vs Q E _ hr h ?_ ?_, T.glo x hx, F.kp, F0.binds df hb⟩
  · exact takes_of (X := cxOf (L2.CX P w) P w K mg base N x (C8.fnScope st) _ cdv A outer s H E) rfl rfl rfl rfl
  · exact passes_of (X := cxOf (L2.CX P w) P w K mg base N x (C8.fnScope st) _ cdv A outer s H E) rfl
/-- a promise that can't be asked -/
theorem Tx.calXF (T : Tx K mg) (i : Nat) {x : Str} {st : Stmt} {ps : List Str} {k : Nat} {sp : Sp}
    (hd : fn[i]? = some ⟨(x, none), x, x, C8.fnArgs st, C8.fnBody st, C8.fnScope st, [], []⟩) (hx : gloN.contains x = true)
    (hb : ∀ (kV doc pm : Value) (an : Option Addr) (cdv ct : Value) (us : List Value), us.length = ps.length → bindArgs (PySem.W.fnOf x x (C8.fnArgs st) (C8.fnBody st) (C8.fnScope st) .none kV doc pm an cdv ct) ⟨us, []⟩ = pure (ps.zip us))
    (no : ∀ vs H Q E, ¬ sp vs H Q E) : CalX P w K mg base k x sp := by
  obtain ⟨fd, F⟩ := T.dfs i _ hd
  obtain ⟨F0, df⟩ := Fun_of (st := st) F
  exact ⟨_, fd, ps, ⟨fun vs H Q E h => absurd h (no vs H Q E), fun A outer s H args us vs Q E _ _ _ _ h => absurd h (no vs H Q E)⟩, T.glo x hx, F.kp, F0.binds df hb⟩
end
section
variable {X : Cx} {k j : Nat} {x : Str} {sp : Sp} {p pos : Pos} {e : Expr} {es : List Expr} {t : TA} {te : TE}
/-- f(e, ..), where f may raise -/
theorem pe_cX {E : XK} {W : WX} (c : CalX X.prog X.w X.K X.mg X.base k x sp) (hr : Room j X.A) (hk : k ≤ j) (tk : Takes X W) (hW : ∀ cls d σ H, E cls d H → W cls d σ H) (hg : Gl X x) (ha : PA X (e :: es) t)
    (hdb : (x == ("__debug__" : Str)) = false := by decide) (he : starEach (e :: es) X.env = (false, eval e X.env) :: starEach es X.env := by rfl) (hpl : (backTo pos (starEach es X.env)).any (·.1) = false := by rfl) :
    PE X (.Call (.Name x p) (e :: es) [] pos) (tCall sp [] E t) := by
  obtain ⟨f, fd, ps, F, hm, kp, b⟩ := c.ex
  exact pe_call F (hr.mono hk) hg hm kp b .nil (passes_call tk hW) ha hdb he hpl
end
/-! ### NoChange(path) -/
section
variable {P : Program} {w : World} {K : PySem.W.Frag} {mg : Str → Option Value} {base : Heap} {vs : List V} {H : Hp} {Q : VK} {E : XK}
def sp_NoC (K : PySem.W.Frag) : Sp := fun vs H Q _ => ∃ a v, vs = [.ref a, v] ∧ H a = some (exo a (CN K) none) ∧ ∀ dx, H dx = none → dx ≠ a → Q .non (upd (upd H dx (exd dx [("path", v)])) a (exo a (CN K) (some dx)))
theorem ok_NoC (T : Tx K mg) (N : Nx K) : ∃ fd, FnOk P w K mg base C8.CX0 1 (He.ma K (CN K) "__init__") fd ["self", "path"] (sp_NoC K) ∧ Binds K fd ["self", "path"] [] := by
  obtain ⟨fd, F⟩ := T.dfs 0 _ rfl
  obtain ⟨F0, df⟩ := Fun_of (st := s_NoChange_init) F
  have sc : FnScope ["self", "path"] ["self", "path"] (C8.fnScope s_NoChange_init) := C8.fnScope_by (by decide +kernel)
  refine ⟨fd, C8.fn0 F0 sc (fun vs H Q E ⟨_, _, h, _⟩ => by rw [h]; rfl) (fun cdv A outer s H vs Q E hr h => ⟨tOst K "path" (tVar 0) (tVar 1), ?_, ?_⟩), F0.binds df fun _ _ _ _ _ _ us hl => match us, hl with | [_, _], _ => rfl⟩
  · exact pss_one (ps_ost (pv 0) (pv 1))
  · obtain ⟨a, v, rfl, ha, q⟩ := h
    exact ⟨v, rfl, .ref a, rfl, a, _, rfl, N.oex, N.pth, .inl ⟨ha, q⟩⟩
/-- a way as values -/
def pth (q : List Ky) : List V := q.map fun k => .str (kS k)
theorem pth_snoc (q : List Ky) (k : Ky) : pth q ++ [.str (kS k)] = pth (q ++ [k]) := by
  unfold pth
  rw [List.map_append] <;> rfl
/-- the wish of a def that raises NoChange with the way q -/
def NoW (K : PySem.W.Frag) (H : Hp) (q : List Ky) (E : XK) : Prop := ∀ d t H', Same H H' → H' d = some (.xd [("path", .ref t)]) → H' t = some (.tup (pth q)) → E (.ref (CN K)) (some d) H'
theorem NoW.wk {H H1 : Hp} {q : List Ky} {E : XK} (h : NoW K H q E) (s : Same H H1) : NoW K H1 q E := fun d t H' s1 h1 h2 => h d t H' (s.trans s1) h1 h2
/-- the reading of raise NoChange(x) -/
def tNo1 (K : PySem.W.Frag) (i : Nat) (E : XK) : TS := fun _ σ H => tMkO (CN K) (sp_NoC K) [] (tCons (tVar i) tNil) σ H fun cls d H' => E cls d H'
theorem no_raise {D : Ends} {σ : L2.St} {i : Nat} {t : Addr} {q : List Ky} (hs : σ[i]? = some (some (.ref t))) (h1 : H t = some (.tup (pth q))) (W : NoW K H q E) : tNo1 K i E D σ H := by
  refine ⟨_, hs, (show 1 ≤ 1000 by decide), fun a ha => ⟨a, .ref t, rfl, upd_same, fun dx hdx ne => ⟨rfl, ?_⟩⟩⟩
  have hdx' : H dx = none := by rw [upd_ne ne] at hdx; exact hdx
  refine ⟨dx, [("path", .ref t)], upd_same, ?_, hdx', ?_⟩
  · rw [upd_ne ne, upd_same]
  · have e : upd (del (upd (upd (upd H a (exo a (CN K) none)) dx (exd dx [("path", .ref t)])) a (exo a (CN K) (some dx))) a) dx (.xd [("path", .ref t)]) = upd H dx (.xd [("path", .ref t)]) := by
      funext b
      by_cases e1 : b = dx
      · rw [e1, upd_same, upd_same]
      · rw [upd_ne e1, upd_ne e1]
        by_cases e2 : b = a
        · rw [e2, del_same, ha]
        · rw [del_ne e2, upd_ne e2, upd_ne e1, upd_ne e2]
    rw [e]
    exact W dx t _ (same_new hdx' _) upd_same (same_new hdx' _ _ _ h1)
end
section
variable {X : Cx} {j : Nat} {p pos : Pos} {e : Expr} {te : TE}
theorem pmk_no (T : Tx X.K X.mg) (N : Nx X.K) (hr : Room j X.A) (hj : 2 ≤ j) (hg : Gl X "NoChange") (ha : PE X e te) (he : starEach [e] X.env = (false, eval e X.env) :: starEach [] X.env := by rfl) (hpl : (backTo pos (starEach [] X.env)).any (·.1) = false := by rfl) :
    PMk X (.Call (.Name "NoChange" p) [e] [] pos) (tMkO (CN X.K) (sp_NoC X.K) [] (tCons te tNil)) := by
  obtain ⟨fd, F, b⟩ := ok_NoC (P := X.prog) (w := X.w) (base := X.base) T N
  exact pmk_oex N.oex N.ini N.ity F (hr.mono hj) b .nil C8.pass0 hg T.g_NoChange (pa_cons ha pa_nil he) (by decide) he hpl
theorem ps_no {i : Nat} {E : XK} {pos' : Pos} (T : Tx X.K X.mg) (N : Nx X.K) (hc : X.calm = true) (tk : Takes X (fun cls d _ H => E cls d H)) (hr : Room j X.A) (hj : 2 ≤ j) (hg : Gl X "NoChange") (ha : PE X e (tVar i)) (he : starEach [e] X.env = (false, eval e X.env) :: starEach [] X.env := by rfl) (hpl : (backTo pos (starEach [] X.env)).any (·.1) = false := by rfl) :
    PS X (.Raise (some (.Call (.Name "NoChange" p) [e] [] pos)) none pos') (tNo1 X.K i E) := ps_raise (W := fun cls d _ H => E cls d H) hc tk (pmk_no T N hr hj hg ha he hpl)
end
end Tp
end
section
set_option maxRecDepth 100000
set_option maxHeartbeats 4000000
/-! The looks at what the top leaves. -/
namespace Tp
open PySem PySem.Spec PyProof.Rows L2
/-- a def's code; a class's namespace, its defs and their codes -/
def codeA (g : Addr → Option PySem.Obj) (a : Addr) : List Addr := match g a with
  | some ⟨_, _, .func fd, _⟩ => He.refV fd.code
  | _ => []
def nsA (g : Addr → Option PySem.Obj) (a : Addr) (f : Addr → List Addr) : List Addr := match g a with
  | some ⟨_, _, .dict es _, _⟩ => es.toList.flatMap fun e => match e.val with
    | .ref b => f b
    | _ => []
  | _ => []
def subA (g : Addr → Option PySem.Obj) (a : Addr) : List Addr := match g a with
  | some ⟨_, _, .func fd, _⟩ => a :: He.refV fd.code
  | some ⟨_, _, .cls cd, _⟩ => a :: cd.ns :: nsA g cd.ns fun b => b :: codeA g b
  | _ => []
def addrs (g : Addr → Option PySem.Obj) : List Addr := mainGlobals :: nsA g mainGlobals (subA g)
def isMeth (K : PySem.W.Frag) (c m : Str) : Bool := (He.Fa.meth c m).ok K
def insB (K : PySem.W.Frag) (C : Addr) : Bool := He.eqO (PySem.W.findIn K (.ref C) "__class__") (some (some (.builtin "object.__class__"))) && (He.eqO (PySem.W.specialIn K (.builtin "object.__class__") "__get__") (some (some (.builtin "getset_descriptor.__get__"))) &&
  (decide (PySem.W.takesIn K (.builtin "object.__class__") = some true) && (decide (PySem.W.mroIn K C (.type "object") = some true) && decide (PySem.W.kitOne K (.ref C) (.ref C) = some true))))
def excB (K : PySem.W.Frag) (C : Addr) : Bool := match K.lookup C with
  | some ⟨.type t, _, .cls cd, sl⟩ => (match cd.mro, sl.toList with
    | .ref C' :: bm, [_, _, _, _, some (.builtin n), _] => decide (t = "type") && (decide (C' = C) && (decide (n = "ValueError.__new__") && (!cd.hasDel && (cd.hasDict && PySem.HandSPX.refsVE bm))))
    | _, _ => false)
  | _ => false
def oexB (K : PySem.W.Frag) (C : Addr) : Bool := excB K C && (He.eqO (PySem.W.findIn K (.ref C) "__setattr__") (some (some (.builtin "object.__setattr__"))) && (decide (PySem.W.subIn K (.ref C) (.type "BaseException") = some true) && (decide (PySem.W.typeIn K (.ref C) = some (.type "type")) && PySem.W.keepIn K (.ref C))))
def fa : List He.Fa := [.int "MOST_DEPTH" 8, .int "MOST_PARTS" 200, .cls "Effect", .mkr "Effect", .cls "Log", .mkr "Log", .cls "Clash", .mkr "Clash", .noat "Effect" "kind", .noat "Effect" "atom", .noat "Effect" "members", .noat "Log" "begun", .noat "Log" "patches", .noat "Log" "history", .noat "Clash" "path",
  .meth "Effect" "__eq__", .meth "Effect" "__add__", .meth "Effect" "__call__", .meth "Clash" "__eq__", .meth "Effect" "facts", .meth "Effect" "by_key", .meth "Effect" "builds"]
def fa2 : List He.Fa := [.meth "Log" "go_on", .meth "Log" "begin", .meth "Log" "add", .meth "Log" "row", .meth "Log" "first", .meth "Log" "check_time", .meth "Log" "at", .meth "Log" "now", .meth "Log" "squeeze", .meth "Log" "back"]
def exB (K : PySem.W.Frag) : Bool := insB K (He.ga K "Effect") && (insB K (He.ga K "Clash") && ((["NoneType", "int", "str", "list", "dict"] : List String).all (fun t => PySem.W.kitOne K (.type t) (.ref (He.ga K "Clash")) == some false) && (PySem.W.selfFirst K (He.ga K "Effect") &&
  (PySem.W.fnIn K (He.ma K (He.ga K "Effect") "__call__") && (oexB K (CN K) && (He.eqO (PySem.W.findIn K (.ref (CN K)) "__init__") (some (some (.ref (He.ma K (CN K) "__init__")))) && (decide (PySem.W.typeIn K (.ref (He.ma K (CN K) "__init__")) = some (.type "function")) &&
  (He.eqO (PySem.W.findIn K (.ref (CN K)) "path") (some none) && (xfB K (CN K) && decide (PySem.W.exmOne K (.ref (CN K)) (.ref (CN K)) = some true))))))))))
def tabB (g : Addr → Option PySem.Obj) (K : PySem.W.Frag) : Bool := PySem.W.codeHdIn K (He.cT K ("law", none)).1 (He.cT K ("law", none)).2 && ((K.lookup (He.cT K ("law", none)).2).isNone && (match g (He.cT K ("law", none)).2 with
  | some o => He.emptyTab o
  | none => false))
def good (g : Addr → Option PySem.Obj) (K : PySem.W.Frag) : Bool := gloN.all (fun x => (He.Fa.glo x).ok K) && (freeN.all (fun x => (He.Fa.free x).ok K) && (fa.all (fun f => f.ok K) && (fa2.all (fun f => f.ok K) && (fn.all (fun d => d.ok K) && (exB K && tabB g K)))))
abbrev AlO : Type := Bool × List He.FnW
def obsK (g : Addr → Option PySem.Obj) (K : PySem.W.Frag) : AlO := (good g K, fn.map fun d => He.fnW K d.at_)
def obsO (g : Addr → Option PySem.Obj) : AlO := obsK g (He.frG g (addrs g))
def valO : AlO := (true, fn.map He.DefD.val)
abbrev hk : PySem.W.Hook where
  α := AlO
  obs := fun s => obsO s.heap.get?
  val := fun _ => valO
  says := fun _ h => ∃ K : PySem.W.Frag, K.In h ∧ ∃ g, obsK g K = valO ∧ ∀ a o, g a = some o → h.get? a = some o
  of := fun _ s e => ⟨_, He.frG_in, s.heap.get?, e, fun _ _ e => e⟩
  keeps := fun _ _ _ ⟨K, hK, g, e, c⟩ k => ⟨K, PySem.W.Frag.In.keeps hK k, g, e, fun a o q => k a o (c a o q)⟩
def ob (s : PySem.W.SharedT) : AlO := obsO (HandSHeadRun.getT s)
theorem ob_eq (s : PySem.W.SharedT) : ob s = hk.obs s.abs := by
  have e : HandSHeadRun.getT s = s.abs.heap.get? := funext (HandSHeadRun.getT_eq s)
  unfold ob
  rw [e] <;> rfl
end Tp
end
section
set_option maxRecDepth 100000
set_option maxHeartbeats 0
namespace Tp
open PySem PySem.Spec PyProof.Rows L2
abbrev R : PySem.W.OpenRow := PySem.W.OpenLaw.row PySem.Challenge.rw_twopatches_k96_whole_logs_and_functions
def names0 : List PySem.Str := ["_wall", "PatchError", "NoDocument", "Large", "NoChange", "NoTime", "NoBack", "MOST_DEPTH", "MOST_PARTS", "is_plain", "is_atom", "wrong_path", "depth_of", "parts_of", "check", "check_row", "copied", "merged", "after_all", "run", "Effect", "keep", "drop", "of_patch", "built", "joined", "acted", "whole", "effect", "as_patch"]
def names1 : List PySem.Str := ["clearing", "short", "compact", "Log", "MISSING", "THERE", "same", "result_at", "unused", "candidates", "witness", "parting", "none_path", "made", "changed", "new_member", "led", "change", "undoing", "is_result", "Clash", "least", "fitted", "shared", "_law_cell_at", "_law_source", "_law_draw", "_law_choice", "_law_shuffled", "_law_atom"]
def names2 : List PySem.Str := ["_law_document", "_law_patch", "_law_parts", "_law_rows", "_law_same_again", "_law_spoilt", "_law_after", "_law_end", "_law_logged", "_law_times_right", "_law_squeezed_right", "_law_asked", "_law_led_right", "_law_shared_right"]
def names : List PySem.Str := names0 ++ names1 ++ names2
theorem headRun (w : World) : HandSHeadRun.RunEq R (PySem.W.view R.prog [82]) hk ob 6400 names w := by
  intro os
  kernel_rfl
end Tp
end
section
set_option maxRecDepth 100000
set_option maxHeartbeats 4000000
/-! list(d) of a dict that may be read only; sorted(set(list(d) + list(e))) -/
namespace Tp
open PySem PySem.Spec PyProof.Rows L2
def rListR : List V → Hp → VK → Prop := fun xs H Q => ∃ p kvs, xs = [.ref p] ∧ Rd H p (.dK kvs) ∧ ∀ q, H q = none → Q (.ref q) (upd H q (.lst (kvs.map fun kv => kV kv.1)))
theorem call_listR {X : Cx} (hc : X.calm = true) : CallR X (.type "list") rListR := by
  intro pins s σ H xs us Q I r h
  obtain ⟨p, kvs, e, hk, q⟩ := h
  subst e
  obtain ⟨u, eu, rx⟩ := vals1 r
  subst eu
  obtain rfl : u = Value.ref p := rx
  obtain ⟨z, lo, vs, rk, hd⟩ := dk_rd I.hok hk
  obtain ⟨ep, hat⟩ := hd.dictAt
  have hl : kvs.length = vs.length := Paired.length rk
  refine PySem.W.kdl_call (PySem.W.kdl_dict (knd := mixKind X.prog X.w) (kvs := vs) (ep := ep) lo) (I.ok.hd hc) hat (by rw [← hl]; exact z) fun h' tk acc' c' hkeep hS hacc => ?_
  refine ⟨.ref s.heap.objs.size, upd H s.heap.objs.size (.lst (kvs.map fun kv => kV kv.1)), I.laid hkeep (Nat.le_refl _) (show ObjOk X.prog X.w _ _ _ (.lst (kvs.map fun kv => kV kv.1)) from ⟨?_, acc'.toList, c', ?_, ?_⟩), rfl, q _ (I.hok.fresh (Nat.le_refl _))⟩
  · rw [List.length_map]; exact z
  · have el : acc'.toList.length = acc'.size := by simp
    refine vals_of_at (by rw [List.length_map, el, hacc.1, hl]) fun j x w h1 h2 => ?_
    obtain ⟨k, y, hky, hi⟩ := hacc.2 j w (by rw [← Array.getElem?_toList]; exact h2)
    have e1 : (kvs.map (·.1))[j]? = some k := by
      rw [KV.keys rk, List.getElem?_map, hky] <;> rfl
    have e2 : (kvs.map fun kv => kV kv.1)[j]? = some (kV k) := by
      have e3 : (kvs.map fun kv => kV kv.1) = (kvs.map (·.1)).map kV := by rw [List.map_map] <;> rfl
      rw [e3, List.getElem?_map, e1] <;> rfl
    rw [e2] at h1
    cases h1
    exact keyIs_rel hi
  · rw [Array.toArray_toList]
    exact hS
theorem union_keys {K : PySem.W.Frag} {P : Program} {w : World} {σ : L2.St} {H : Hp} {i j : Nat} {a b : Addr} {kvs lvs : List (L2.Key × V)} {Q : VK} (hi : σ[i]? = some (some (.ref a))) (hj : σ[j]? = some (some (.ref b))) (ra : Rd H a (.dK kvs)) (rb : Rd H b (.dK lvs)) (ok1 : tabOk kvs) (ok2 : tabOk lvs)
    (q : ∀ p H', Same H H' → H p = none → H' p = some (.lst ((kys.filter fun k => (valV kvs (kK k)).isSome || (valV lvs (kK k)).isSome).map fun k => .str (kS k))) → Q (.ref p) H') :
    tCB (rSortedL P w) (tCons (tCB (rSetL K P w) (tCons (tOp rCat (tCB rListR (tCons (tVar i) tNil)) (tCB rListR (tCons (tVar j) tNil))) tNil)) tNil) σ H Q := by
  obtain ⟨ks, e1, nd1, h1, m1⟩ := ok1.strs
  obtain ⟨ls, e2, nd2, h2, m2⟩ := ok2.strs
  have hkl : ks.length = kvs.length := by rw [← List.length_map (f := Sum.inr), ← e1, List.length_map]
  have hll : ls.length = lvs.length := by rw [← List.length_map (f := Sum.inr), ← e2, List.length_map]
  have v1 : (kvs.map fun kv => kV kv.1) = ks.map V.str := by
    have : (kvs.map fun kv => kV kv.1) = (kvs.map (·.1)).map kV := by rw [List.map_map] <;> rfl
    rw [this, e1, List.map_map] <;> rfl
  have v2 : (lvs.map fun kv => kV kv.1) = ls.map V.str := by
    have : (lvs.map fun kv => kV kv.1) = (lvs.map (·.1)).map kV := by rw [List.map_map] <;> rfl
    rw [this, e2, List.map_map] <;> rfl
  refine ⟨_, hi, a, kvs, rfl, ra, fun p1 hp1 => ?_⟩
  rw [v1]
  have s1 := same_new hp1 (.lst (ks.map V.str))
  refine ⟨_, hj, b, lvs, rfl, (Le.of s1).d _ _ rb, fun p2 hp2 => ?_⟩
  rw [v2]
  have s2 := same_new hp2 (.lst (ls.map V.str))
  have l1 := ok1.len
  have l2 := ok2.len
  refine ⟨p1, p2, ks.map V.str, ls.map V.str, rfl, rfl, s2 _ _ upd_same, upd_same, szO (by rw [List.length_map, List.length_map]; omega), fun p3 hp3 => ?_⟩
  have s3 := same_new hp3 (.lst (ks.map V.str ++ ls.map V.str))
  refine ⟨p3, ks ++ ls, rfl, SqL.of (by rw [upd_same, List.map_append]), by rw [List.length_append]; omega, fun p4 hp4 => ?_⟩
  have s4 := same_new hp4 (SetLO P w p4 (told (ks ++ ls)))
  refine ⟨p4, told (ks ++ ls), rfl, upd_same, Nat.lt_of_le_of_lt (told_len _) (by rw [List.length_append]; omega), fun ys p5 hp hs nd hp5 => ?_⟩
  have e : ys = (kys.filter fun k => (valV kvs (kK k)).isSome || (valV lvs (kK k)).isSome).map kS := by
    refine sorted_keys hp hs nd (fun x hx => ?_) fun k => ?_
    · rcases List.mem_append.mp (told_mem.mp hx) with h | h
      · exact h1 x h
      · exact h2 x h
    · rw [told_mem, List.mem_append, m1, m2, Bool.or_eq_true]
  have s5 := same_new hp5 (.lst (ys.map V.str))
  refine q p5 _ (s1.trans (s2.trans (s3.trans (s4.trans s5)))) ((s1.trans (s2.trans (s3.trans s4))).free hp5) ?_
  rw [upd_same, e, List.map_map] <;> rfl
/-! ### the first key that clashes -/
theorem fst4_filter {r : Ky → Ft} {p : Ky → Bool} (h : ∀ k, p k = false → ∃ d, r k = .ok d) : ∀ ks : List Ky, fst4 r (ks.filter p) = fst4 r ks
  | [] => rfl
  | k :: ks => by
    cases e : p k with
    | true =>
      rw [List.filter_cons_of_pos e]
      unfold fst4
      rw [fst4_filter h ks]
    | false =>
      rw [List.filter_cons_of_neg (by simp [e]), fst4_filter h ks]
      obtain ⟨d, hd⟩ := h k e
      show _ = fst4 r (k :: ks)
      conv => rhs; unfold fst4
      rw [hd]
theorem fst4_at {r : Ky → Ft} : ∀ {ks : List Ky} {i : Nat} {k : Ky} {q : List Ky}, (∀ x ∈ ks.take i, ∃ d, r x = .ok d) → ks[i]? = some k → r k = .clash q → fst4 r ks = some (k :: q)
  | [], i, k, q, _, h, _ => by simp at h
  | a :: ks, 0, k, q, _, h, hk => by
    have e : a = k := by simpa using h
    subst e
    unfold fst4
    rw [hk]
  | a :: ks, i + 1, k, q, hx, h, hk => by
    obtain ⟨d, hd⟩ := hx a (by rw [List.take_succ_cons]; exact List.mem_cons_self)
    unfold fst4
    rw [hd]
    exact fst4_at (ks := ks) (i := i) (fun x m => hx x (by rw [List.take_succ_cons]; exact List.mem_cons_of_mem _ m)) (by simpa using h) hk
theorem fst4_no {r : Ky → Ft} : ∀ {ks : List Ky}, (∀ x ∈ ks, ∃ d, r x = .ok d) → fst4 r ks = none
  | [], _ => rfl
  | a :: ks, h => by
    obtain ⟨d, hd⟩ := h a List.mem_cons_self
    unfold fst4
    rw [hd]
    exact fst4_no fun x m => h x (List.mem_cons_of_mem _ m)
theorem fitO_at {r : Ky → Ft} {p : Ky → Bool} {i : Nat} {k : Ky} {q : List Ky} (h : ∀ k, p k = false → ∃ d, r k = .ok d) (hx : ∀ x ∈ (kys.filter p).take i, ∃ d, r x = .ok d) (hi : (kys.filter p)[i]? = some k) (hk : r k = .clash q) : fitO r = .clash (k :: q) := by
  unfold fitO
  rw [← fst4_filter h kys, fst4_at hx hi hk]
theorem fitO_all {r : Ky → Ft} (h : ∀ k, ∃ d, r k = .ok d) : fitO r = .ok (.obj fun k => (r k).doc) := by
  unfold fitO
  rw [fst4_no fun k _ => h k]
end Tp
end
section
set_option maxRecDepth 100000
set_option maxHeartbeats 4000000
namespace Tp
open PySem PySem.Spec PyProof.Rows L2
section
variable {P : Program} {w : World} {K : PySem.W.Frag} {mg : Str → Option Value} {base : Heap}
/-! ### copied(value) -/
def sp_copied (n : Nat) : Sp := fun vs H Q _ => ∃ v d, vs = [v] ∧ DocAt H d v ∧ d.dep < n ∧ ∀ v' H', Fresh H H' d v' → Q v' H'
def t_copied (K : PySem.W.Frag) (n : Nat) : TS :=
  (tSeq (tIfS (tB (tCB (rIsi K) (tCons (tVar 0) (tCons (tC (.ty "dict")) tNil)))) (tRet (tLk (tDc (iItems (tVar 0)) (gTup K 2 (gCons (gName 1) (gCons (gName 2) gNil))) tYes (tVar 1) (tCall (sp_copied n) [] C8.E0 (tCons (tVar 2) tNil)) [1, 2]))) tNext)
    (tRet (tIf (tB (tCB (rIsi K) (tCons (tVar 0) (tCons (tC (.ty "list")) tNil)))) (tCB (rListOf K) (tCons (tVar 0) tNil)) (tVar 0))))
theorem pu_copied {n : Nat} {vs : List V} {H : Hp} {Q : VK} {E : XK} (h : sp_copied (n + 1) vs H Q E) : t_copied K n { nx := fun _ H' => Q .non H', rt := Q } (L2.start ["value", "key", "member"] vs) H := by
  obtain ⟨v, d, rfl, hd, hn, q⟩ := h
  refine sSeq (sIf (xDict rfl hd ?_))
  cases d with
  | abs => exact (show False from hd).elim
  | atom x =>
    refine iteF ?_
    refine sRet (xIf (xList rfl hd ?_))
    cases x with
    | pl y =>
      refine iteF ⟨_, rfl, ?_⟩
      have e : v = y.v := hd
      subst e
      exact q _ _ Fresh.pl
    | lst ys =>
      obtain ⟨a, rfl, r, z⟩ := hd
      refine iteT ⟨_, rfl, a, _, rfl, .inl (SqL.rd r), fun l hl => ?_⟩
      exact q _ _ (Fresh.lst hl z)
  | obj f =>
    obtain ⟨a, kvs, rfl, r, ok, m⟩ := DocAt.obj_iff.mp hd
    refine iteT ⟨a, kvs, r, fun Hl od un hl lk => ?_⟩
    have m' := fun k => (m k).mono lk.le
    refine ⟨_, rfl, a, od, kvs, rfl, hl, fun p hp => ?_⟩
    refine dc_it walk_items (fun i H2 => ∃ kvs2, Bld Hl p H2 kvs2 fun k => if upto (kvs.map (·.1)) i (kK k) = true then f k else .abs) ⟨[], (Bld.start hp).congr fun k => by rw [upto_zero] <;> rfl⟩
      (fun i H2 _ ⟨_, B⟩ => B.same _ _ hl) (fun i x H2 H3 hi ⟨kvs2, B⟩ y => ?_) (fun H2 ⟨kvs2, B⟩ => ?_)
    · obtain ⟨t, k, u, rfl, ht, rfl, hv, hki⟩ := items_turn ok y
      have s1 := same_new ht (.tup [.str (kS k), u])
      have B1 := B.call s1
      have hu : DocAt Hl (f k) u := by have := m' k; rw [hv] at this; exact this
      have hk : (f k).dep < n := D.lt_kid hn k
      refine gPair upd_same ⟨rfl, _, rfl, _, rfl, u, f k, rfl, hu.mono (Le.of B1.same), hk, fun v' H' F => ?_⟩
      have B2 := B1.call F.same
      refine ⟨kvs2, kK k, rfl, B2.at_, B2.ok.lt, _, (B2.put (B1.into F.same F.doc)).congr fun j => ?_⟩
      rw [upto_succ hki]
      by_cases e : j = k
      · subst e
        simp
      · have : ¬ kK j = kK k := fun q => e (kK_inj q)
        simp [e, this]
    · refine ⟨B.same _ _ hl, q _ _ (Fresh.obj (lk.bld (B.congr fun k => ?_)))⟩
      rw [upto_all (by rw [List.length_map]; exact Nat.le_refl _), ← valV_mem]
      have := m' k
      cases e : valV kvs (kK k) with
      | none => rw [e] at this; exact this.symm
      | some u => rfl
theorem ok_copied (T : Tx K mg) : ∀ n, C8.Cal P w K mg base n "copied" (sp_copied n) []
  | 0 => T.calF 8 (st := s_copied) (ps := ["value"]) rfl (by decide +kernel) (fun _ _ _ _ _ _ us hl => match us, hl with | [_], _ => rfl) fun vs H Q E ⟨_, _, _, _, h, _⟩ => absurd h (Nat.not_lt_zero _)
  | n + 1 => by
    have c_copied := ok_copied T n
    have sc : FnScope ["value", "key", "member"] ["value"] (C8.fnScope s_copied) := C8.fnScope_by (by decide +kernel)
    refine T.cal 8 (st := s_copied) rfl (by decide +kernel) sc (fun _ _ _ _ _ _ us hl => match us, hl with | [_], _ => rfl) (fun vs H Q E ⟨_, _, h, _⟩ => by rw [h]; rfl) (fun cdv A outer s H vs Q E f hr h => ⟨t_copied K n, ?_, pu_copied h⟩)
    have hu := hu_of hr
    exact (pss_cons (ps_if (pt_val (pe_callB call_isi rfl T.f_isinstance bt_isinstance (pa_cons (pv 0) (pa_cons (pe_bltn (v := .ty "dict") rfl T.f_dict bt_dict rfl) pa_nil)))) (pss_one (ps_ret (pe_lk (pe_dc (own := [("key", 1), ("member", 2)]) (g := (gTup K 2 (gCons (gName 1) (gCons (gName 2) gNil)))) (tt := tYes) (tk := (tVar 1)) (tv := (tCall (sp_copied n) [] C8.E0 (tCons (tVar 2) tNil))) rfl sc.nd (pi_items (pv 0)) (blkOk_by (N := ["value", "key", "member"]) (sc := C8.fnScope s_copied) (by decide +kernel)) (fun _ _ _ _ _ => (pg_tup rfl (pgs_cons (pg_name (i := 1) sc.nd rfl (Or.inl rfl)) (pgs_cons (pg_name (i := 2) sc.nd rfl (Or.inl rfl)) pgs_nil)))) (fun _ _ _ _ _ => pts_nil) (fun _ _ _ _ _ => (pv 1)) (fun _ _ _ _ _ => (C8.pe_c c_copied hr (by omega) rfl (pa_cons (pv 2) pa_nil))))))) pss_nil)
    (pss_one (ps_ret (pe_ifExp (pt_val (pe_callB call_isi rfl T.f_isinstance bt_isinstance (pa_cons (pv 0) (pa_cons (pe_bltn (v := .ty "list") rfl T.f_list bt_list rfl) pa_nil)))) (pe_callTy call_list_of rfl T.f_list bt_list (pa_cons (pv 0) pa_nil)) (pv 0)))))
end
end Tp
end
section
set_option maxRecDepth 100000
set_option maxHeartbeats 4000000
namespace Tp
open PySem PySem.Spec PyProof.Rows L2
section
variable {K : PySem.W.Frag} {σ : L2.St} {H : Hp} {Q : VK} {QT : Bool → Hp → Prop} {i : Nat} {v : V} {d : Tp.D} {T : String} {b : Bool}
theorem isi_gen (hd : DocAt H d v) (e : kitB d.ty T = some b) (q : Q (.bl b) H) : rIsi K [v, .ty T] H Q := ⟨v, .ty T, _, _, b, rfl, .ty _, hd.tyX, kit_ty e, q⟩
theorem xTy (hs : σ[i]? = some (some v)) (hd : DocAt H d v) (e : kitB d.ty T = some b) (q : QT b H) : tB (tCB (rIsi K) (tCons (tVar i) (tCons (tC (.ty T)) tNil))) σ H QT :=
  ⟨v, hs, (isi_gen hd e ⟨_, rfl, q⟩ : rIsi K [v, .ty T] H fun x H1 => ∃ b, x = .bl b ∧ QT b H1)⟩
theorem vTy (hs : σ[i]? = some (some v)) (hd : DocAt H d v) (e : kitB d.ty T = some b) (q : Q (.bl b) H) : tCB (rIsi K) (tCons (tVar i) (tCons (tC (.ty T)) tNil)) σ H Q :=
  ⟨v, hs, (isi_gen hd e q : rIsi K [v, .ty T] H Q)⟩
end
def D.isPl : D → Bool
  | .atom (.pl _) => true
  | _ => false
section
variable {P : Program} {w : World} {K : PySem.W.Frag} {mg : Str → Option Value} {base : Heap} {vs : List V} {H : Hp} {Q : VK} {E : XK}
/-! ### is_plain(value) -/
def sp_is_plain : Sp := fun vs H Q _ => ∃ v d, vs = [v] ∧ DocAt H d v ∧ Q (.bl d.isPl) H
def t_is_plain (K : PySem.W.Frag) : TS :=
  (tSeq (tIfS (tOr (tB (tIsN (tVar 0))) (tB (tCB (rIsi K) (tCons (tVar 0) (tCons (tC (.ty "str")) tNil))))) (tRet (tC (.bl true))) tNext)
    (tRet (tAndV (tCB (rIsi K) (tCons (tVar 0) (tCons (tC (.ty "int")) tNil))) (tNotV (tCB (rIsi K) (tCons (tVar 0) (tCons (tC (.ty "bool")) tNil)))))))
theorem pu_is_plain (h : sp_is_plain vs H Q E) : t_is_plain K { nx := fun _ H' => Q .non H', rt := Q } (L2.start ["value"] vs) H := by
  obtain ⟨v, d, rfl, hd, q⟩ := h
  refine sSeq (sIf ?_)
  cases d with
  | abs => exact (show False from hd).elim
  | atom x =>
    cases x with
    | pl y =>
      have e : v = y.v := hd
      subst e
      cases y with
      | non => exact ⟨_, rfl, _, rfl, q⟩
      | int i => exact ⟨_, rfl, _, rfl, xTy rfl hd kb_int_str (vTy rfl hd kb_int_int ⟨_, rfl, vTy rfl hd kb_int_bool ⟨_, rfl, q⟩⟩)⟩
      | str x => exact ⟨_, rfl, _, rfl, xTy rfl hd kb_str_str q⟩
    | lst ys =>
      obtain ⟨a, rfl, r, _⟩ := id hd
      exact ⟨_, rfl, _, rfl, xTy rfl hd kb_list_str (vTy rfl hd kb_list_int ⟨_, rfl, q⟩)⟩
  | obj f =>
    obtain ⟨a, kvs, rfl, _⟩ := DocAt.obj_iff.mp hd
    exact ⟨_, rfl, _, rfl, xTy rfl hd kb_dict_str (vTy rfl hd kb_dict_int ⟨_, rfl, q⟩)⟩
theorem ok_is_plain (T : Tx K mg) : C8.Cal P w K mg base 1 "is_plain" sp_is_plain [] := by
  have sc : FnScope ["value"] ["value"] (C8.fnScope s_is_plain) := C8.fnScope_by (by decide +kernel)
  refine T.cal 1 (st := s_is_plain) rfl (by decide +kernel) sc (fun _ _ _ _ _ _ us hl => match us, hl with | [_], _ => rfl) (fun vs H Q E ⟨_, _, h, _⟩ => by rw [h]; rfl) (fun cdv A outer s H vs Q E f hr h => ⟨t_is_plain K, ?_, pu_is_plain h⟩)
  exact (pss_cons (ps_if (PW.pt (pw_or (pt_cmp (pc_isN (pv 0))) (pw_or1 (pt_val (pe_callB call_isi rfl T.f_isinstance bt_isinstance (pa_cons (pv 0) (pa_cons (pe_bltn (v := .ty "str") rfl T.f_str bt_str rfl) pa_nil))))))) (pss_one (ps_ret pe_bl)) pss_nil)
    (pss_one (ps_ret (pe_and (pe_callB call_isi rfl T.f_isinstance bt_isinstance (pa_cons (pv 0) (pa_cons (pe_bltn (v := .ty "int") rfl T.f_int bt_int rfl) pa_nil))) (pe_one (pe_not (pe_callB call_isi rfl T.f_isinstance bt_isinstance (pa_cons (pv 0) (pa_cons (pe_bltn (v := .ty "bool") rfl T.f_bool bt_bool rfl) pa_nil)))))))))
/-! ### is_atom(value) -/
def sp_is_atom : Sp := fun vs H Q _ => ∃ v d, vs = [v] ∧ DocAt H d v ∧ ∀ H', Same H H' → Q (.bl (!d.isObj)) H'
def t_is_atom (K : PySem.W.Frag) : TS :=
  (tSeq (tIfS (tB (tCB (rIsi K) (tCons (tVar 0) (tCons (tC (.ty "list")) tNil)))) (tRet (tCB (rAll K) (tCons (tLc (iList K (tVar 0)) (gName 1) tYes (tCall sp_is_plain [] C8.E0 (tCons (tVar 1) tNil)) [1]) tNil))) tNext)
    (tRet (tCall sp_is_plain [] C8.E0 (tCons (tVar 0) tNil))))
theorem pu_is_atom (h : sp_is_atom vs H Q E) : t_is_atom K { nx := fun _ H' => Q .non H', rt := Q } (L2.start ["value", "one"] vs) H := by
  obtain ⟨v, d, rfl, hd, q⟩ := h
  refine sSeq (sIf (xList rfl hd ?_))
  cases d with
  | abs => exact (show False from hd).elim
  | atom x =>
    cases x with
    | pl y => exact ⟨_, rfl, v, _, rfl, hd, q _ (Same.refl H)⟩
    | lst ys =>
      obtain ⟨a, rfl, r, z⟩ := id hd
      refine ⟨_, rfl, a, rfl, ⟨_, SqL.rd r⟩, fun p hp => ?_⟩
      refine lc_list (K := K) (a := a) (xs := ys.map A0.v) (fun i H2 => Acc H p H2 ((ys.take i).map fun _ => .bl true)) (Acc.start hp) (fun i H2 _ B => B.same.seq (SqL.rd r)) (fun i x H2 hx B => ?_) (fun H2 B => ?_)
      · rw [List.getElem?_map] at hx
        cases e : ys[i]? with
        | none => rw [e] at hx; cases hx
        | some y =>
          rw [e] at hx
          have ex : y.v = x := Option.some.inj hx
          subst ex
          have hlt : i < ys.length := (List.getElem?_eq_some_iff.mp e).1
          refine ⟨rfl, _, rfl, y.v, .atom (.pl y), rfl, rfl, _, B.at_, ?_, ?_⟩
          · rw [List.length_map, List.length_take]
            exact small1000 (by omega)
          · have := B.push (.bl true)
            rw [take_more e, List.map_append]
            exact this
      · rw [List.length_map, List.take_length] at B
        refine ⟨p, ys.map fun _ => true, rfl, SqL.of (by rw [B.at_, List.map_map] <;> rfl), ?_⟩
        have e : (ys.map fun _ => true).any id = false ∨ True := .inr trivial
        have e2 : (ys.map fun _ => true).all id = true := by simp
        rw [e2]
        exact q _ B.same
  | obj f => exact ⟨_, rfl, v, _, rfl, hd, q _ (Same.refl H)⟩
theorem ok_is_atom (T : Tx K mg) : C8.Cal P w K mg base 2 "is_atom" sp_is_atom [] := by
  have c_is_plain := ok_is_plain (P := P) (w := w) (base := base) T
  have sc : FnScope ["value", "one"] ["value"] (C8.fnScope s_is_atom) := C8.fnScope_by (by decide +kernel)
  refine T.cal 2 (st := s_is_atom) rfl (by decide +kernel) sc (fun _ _ _ _ _ _ us hl => match us, hl with | [_], _ => rfl) (fun vs H Q E ⟨_, _, h, _⟩ => by rw [h]; rfl) (fun cdv A outer s H vs Q E f hr h => ⟨t_is_atom K, ?_, pu_is_atom h⟩)
  exact (pss_cons (ps_if (pt_val (pe_callB call_isi rfl T.f_isinstance bt_isinstance (pa_cons (pv 0) (pa_cons (pe_bltn (v := .ty "list") rfl T.f_list bt_list rfl) pa_nil)))) (pss_one (ps_ret (pe_callB (cr_all rfl) rfl T.f_all bt_all (pa_cons (pe_lc (own := [("one", 1)]) (g := (gName 1)) (tt := tYes) (te := (tCall sp_is_plain [] C8.E0 (tCons (tVar 1) tNil))) rfl sc.nd (pi_list (pv 0)) (blkOk_by (N := ["value", "one"]) (sc := C8.fnScope s_is_atom) (by decide +kernel)) (fun _ _ _ _ _ => (pg_name (i := 1) sc.nd rfl (Or.inl rfl))) (fun _ _ _ _ _ => pts_nil) (fun _ _ _ _ _ => (C8.pe_c c_is_plain hr (by omega) rfl (pa_cons (pv 1) pa_nil)))) pa_nil)))) pss_nil)
    (pss_one (ps_ret (C8.pe_c c_is_plain hr (by omega) rfl (pa_cons (pv 0) pa_nil)))))
end
end Tp
end
section
set_option maxRecDepth 100000
set_option maxHeartbeats 4000000
namespace Tp
open PySem PySem.Spec PyProof.Rows L2
theorem doc_cases {H : Hp} {f : Ky → D} {kvs : List (L2.Key × V)} (m : ∀ k, MAt H (f k) (valV kvs (kK k))) {k : Ky} {u : V} (e : valV kvs (kK k) = some u) : DocAt H (f k) u := by
  have := m k
  rw [e] at this
  exact this
section
variable {P : Program} {w : World} {K : PySem.W.Frag} {mg : Str → Option Value} {base : Heap} {vs : List V} {H : Hp} {Q : VK} {E : XK}
/-! ### wrong_path(value, path): None -/
def sp_wrong_path (n : Nat) : Sp := fun vs H Q _ => ∃ v d p xs, vs = [v, .ref p] ∧ DocAt H d v ∧ d.dep < n ∧ H p = some (.tup xs) ∧ xs.length + n ≤ 100 ∧ ∀ H', Same H H' → Q .non H'
def t_wrong_path (K : PySem.W.Frag) (n : Nat) : TS :=
  (tSeq (tIfS (tB (tCall sp_is_atom [] C8.E0 (tCons (tVar 0) tNil))) (tRet (tC .non)) tNext)
    (tSeq (tIfS (tOr (tNot (tB (tCB (rIsi K) (tCons (tVar 0) (tCons (tC (.ty "dict")) tNil))))) (tNot (tB (tCB (rAll K) (tCons (tLk (tLc (iKeys (tVar 0)) (gName 2) tYes (tCB (rIsi K) (tCons (tVar 2) (tCons (tC (.ty "str")) tNil))) [2])) tNil))))) (tRet (tVar 1)) tNext)
    (tSeq (tFor (iList K (tCB rSortedD (tCons (tVar 0) tNil))) (gName 2)
      (tSeq (tAsg (tCall (sp_wrong_path n) [] C8.E0 (tCons (tDGet (tVar 0) (tVar 2)) (tCons (tOp (rCatA K) (tVar 1) (tTup (tCons (tVar 2) tNil))) tNil))) (gName 3))
    (tIfS (tB (tNotN (tVar 3))) (tRet (tVar 3)) tNext)))
    (tRet (tC .non)))))
theorem pu_wrong_path {n : Nat} (h : sp_wrong_path (n + 1) vs H Q E) : t_wrong_path K n { nx := fun _ H' => Q .non H', rt := Q } (L2.start ["value", "path", "key", "found"] vs) H := by
  obtain ⟨v, d, p, xs, rfl, hd, hn, hp, hx, q⟩ := h
  refine sSeq (sIf ⟨_, rfl, v, d, rfl, hd, fun H1 s1 => ⟨_, rfl, ?_⟩⟩)
  cases d with
  | abs => exact (show False from hd).elim
  | atom x => exact ifT rfl (q _ s1)
  | obj f =>
    have hd1 := hd.mono (Le.of s1)
    refine ifF rfl (sNext (sSeq (sIf (xOr (xNot (xDict rfl hd1 (ifF rfl (xNot (xB ?_)))))))))
    obtain ⟨a, kvs, rfl, r, ok, m⟩ := DocAt.obj_iff.mp hd1
    -- all([isinstance(key, str) for key in value])
    refine ⟨a, kvs, r, fun Hl od un hl lk => ?_⟩
    refine ⟨_, rfl, a, od, rfl, .inl ⟨kvs, hl, fun l hl' => ?_⟩⟩
    refine lc_it walk_keys (fun i H2 => Acc Hl l H2 ((kvs.take i).map fun _ => .bl true)) (Acc.start hl') (fun i H2 _ B => B.same _ _ hl) (fun i x H2 H3 hi B y => ?_) (fun H2 B => ?_)
    · obtain ⟨rfl, k, u, hk, rfl⟩ := y
      obtain ⟨k', e1, _⟩ := ok.nth hk
      have e1 : k = kK k' := e1
      subst e1
      refine ⟨rfl, _, rfl, .str (kS k'), .ty "str", _, _, true, rfl, .ty _, .base (.str _), kit_ty kb_str_str, _, B.at_, ?_, ?_⟩
      · rw [List.length_map, List.length_take]
        exact small1000 (by have := ok.len; omega)
      · have := B.push (.bl true)
        rw [take_more hk, List.map_append]
        exact this
    · rw [List.take_length] at B
      refine ⟨B.same _ _ hl, l, kvs.map fun _ => true, rfl, ?_, ?_⟩
      · exact SqL.of (by rw [lk.new hl', B.at_, List.map_map] <;> rfl)
      · have e2 : (kvs.map fun _ => true).all id = true := by simp
        rw [e2]
        have s2 : Same H (un H2) := s1.trans (lk.same B.same)
        have r2 : Rd (un H2) a (.dK kvs) := (Le.of (lk.same B.same)).d _ _ r
        have m2 := fun k => (m k).mono (Le.of (lk.same B.same))
        generalize un H2 = H3 at *
        refine ⟨_, rfl, ifF rfl (sNext ?_)⟩
        refine sSeq (sFor ?_)
        refine xCB1 rfl (sortedD_use ok r2 fun p2 hp2 => ?_)
        refine ⟨p2, rfl, ⟨_, .inl (.inl upd_same)⟩, ?_⟩
        have s3 : Same H3 (upd H3 p2 (.lst ((kys.filter fun k => (valV kvs (kK k)).isSome).map fun k => .str (kS k)))) := same_new hp2 _
        refine for_same (SqL.rd (.inl upd_same)) (fun i σ H4 => ∃ c e, σ = [some (.ref a), some (.ref p), c, e]) ⟨_, _, rfl⟩ (fun i x σ H4 hx s4 h => ?_) (fun σ H4 s4 h => ?_)
        · obtain ⟨c, e, rfl⟩ := h
          obtain ⟨k, hk, rfl⟩ := map_nth hx
          have sk := mem_filter_kys.mp (List.mem_of_getElem? hk)
          obtain ⟨u, hu⟩ := Option.isSome_iff_exists.mp sk
          have s5 := s3.trans s4
          refine sSeq (sAsg ?_)
          refine ⟨_, rfl, _, rfl, a, u, rfl, dgetU ((Le.of s5).d _ _ r2) hu, xPath rfl (s5 _ _ (s2 _ _ hp)) rfl (by omega) fun t H6 s6 ht => ?_⟩
          refine ⟨u, f k, t, _, rfl, (doc_cases m2 hu).mono (Le.of (s5.trans s6)), D.lt_kid hn k, ht, by rw [List.length_append]; show xs.length + 1 + n ≤ _; omega, fun H7 s7 => ?_⟩
          exact ⟨_, rfl, _, rfl, ifF rfl (sNext ⟨s4.trans (s6.trans s7), _, _, rfl⟩)⟩
        · exact q _ (s2.trans (s3.trans s4))
theorem ok_wrong_path (T : Tx K mg) : ∀ n, C8.Cal P w K mg base (n + 3) "wrong_path" (sp_wrong_path n) []
  | 0 => T.calF 3 (st := s_wrong_path) (ps := ["value", "path"]) rfl (by decide +kernel) (fun _ _ _ _ _ _ us hl => match us, hl with | [_, _], _ => rfl) fun vs H Q E ⟨_, _, _, _, _, _, h, _⟩ => absurd h (Nat.not_lt_zero _)
  | n + 1 => by
    have c_wrong_path := ok_wrong_path T n
    have c_is_atom := ok_is_atom (P := P) (w := w) (base := base) T
    have sc : FnScope ["value", "path", "key", "found"] ["value", "path"] (C8.fnScope s_wrong_path) := C8.fnScope_by (by decide +kernel)
    refine T.cal 3 (st := s_wrong_path) rfl (by decide +kernel) sc (fun _ _ _ _ _ _ us hl => match us, hl with | [_, _], _ => rfl) (fun vs H Q E ⟨_, _, _, _, h, _⟩ => by rw [h]; rfl) (fun cdv A outer s H vs Q E f hr h => ⟨t_wrong_path K n, ?_, pu_wrong_path h⟩)
    have hu := hu_of hr
    exact (pss_cons (ps_if (pt_val (C8.pe_c c_is_atom hr (by omega) rfl (pa_cons (pv 0) pa_nil))) (pss_one (ps_ret pe_non)) pss_nil)
    (pss_cons (ps_if (PW.pt (pw_or (pt_not (pt_val (pe_callB call_isi rfl T.f_isinstance bt_isinstance (pa_cons (pv 0) (pa_cons (pe_bltn (v := .ty "dict") rfl T.f_dict bt_dict rfl) pa_nil))))) (pw_or1 (pt_not (pt_val (pe_callB (cr_all rfl) rfl T.f_all bt_all (pa_cons (pe_lk (pe_lc (own := [("key", 2)]) (g := (gName 2)) (tt := tYes) (te := (tCB (rIsi K) (tCons (tVar 2) (tCons (tC (.ty "str")) tNil)))) rfl sc.nd (pi_keys (pv 0)) (blkOk_by (N := ["value", "path", "key", "found"]) (sc := C8.fnScope s_wrong_path) (by decide +kernel)) (fun _ _ _ _ _ => (pg_name (i := 2) sc.nd rfl (Or.inl rfl))) (fun _ _ _ _ _ => pts_nil) (fun _ _ _ _ _ => (pe_callB call_isi rfl T.f_isinstance bt_isinstance (pa_cons (pv 2) (pa_cons (pe_bltn (v := .ty "str") rfl T.f_str bt_str rfl) pa_nil)))))) pa_nil))))))) (pss_one (ps_ret (pv 1))) pss_nil)
    (pss_cons (ps_for PassesOwn.never rfl (pi_list (pe_callB (call_sortedD rfl) rfl T.f_sorted bt_sorted (pa_cons (pv 0) pa_nil))) (pg_name (i := 2) sc.nd rfl (Or.inl rfl))
      (pss_cons (ps_set (i := 3) sc.nd rfl (Or.inl rfl) (C8.pe_c c_wrong_path hr (by omega) rfl (pa_cons (pe_dget hu (pv 0) (pv 2) (fun _ _ => rfl)) (pa_cons (pe_op op_catA (pv 1) (pe_tup (pa_cons (pv 2) pa_nil))) pa_nil))))
    (pss_one (ps_if (pt_cmp (pc_notN (pv 3))) (pss_one (ps_ret (pv 3))) pss_nil))))
    (pss_one (ps_ret pe_non)))))
end
end Tp
end
section
set_option maxRecDepth 100000
set_option maxHeartbeats 4000000
namespace Tp
open PySem PySem.Spec PyProof.Rows L2
theorem tabOk.vnth {kvs : List (L2.Key × V)} (h : tabOk kvs) {i : Nat} {k : L2.Key} {u : V} (e : kvs[i]? = some (k, u)) : ∃ j : Ky, k = kK j ∧ valV kvs (kK j) = some u := by
  obtain ⟨j, h1, h2, _⟩ := h.nth e
  exact ⟨j, h1, h2⟩
section
variable {P : Program} {w : World} {K : PySem.W.Frag} {mg : Str → Option Value} {base : Heap} {vs : List V} {H : Hp} {Q : VK} {E : XK}
/-! ### depth_of(value) -/
def sp_depth_of (n : Nat) : Sp := fun vs H Q _ => ∃ v d, vs = [v] ∧ DocAt H d v ∧ d.dep < n ∧ ∀ H', Same H H' → Q (.int d.dep) H'
def t_depth_of (K : PySem.W.Frag) (n : Nat) : TS :=
  (tSeq (tIfS (tNot (tB (tCB (rIsi K) (tCons (tVar 0) (tCons (tC (.ty "dict")) tNil))))) (tRet (tC (.int 0))) tNext)
    (tRet (tOp (rI0 fun i j => .int (i + j)) (tC (.int 1)) (tCB (rMax K) (tCons (tOp rCat (tLst (tCons (tC (.int 0)) tNil)) (tLk (tLc (iVals (tVar 0)) (gName 1) tYes (tCall (sp_depth_of n) [] C8.E0 (tCons (tVar 1) tNil)) [1]))) tNil)))))
theorem pu_depth_of {n : Nat} (h : sp_depth_of (n + 1) vs H Q E) : t_depth_of K n { nx := fun _ H' => Q .non H', rt := Q } (L2.start ["value", "member"] vs) H := by
  obtain ⟨v, d, rfl, hd, hn, q⟩ := h
  refine sSeq (sIf (xNot (xDict rfl hd ?_)))
  cases d with
  | abs => exact (show False from hd).elim
  | atom x => exact ifT rfl (q _ (Same.refl H))
  | obj f =>
    refine ifF rfl (sNext ?_)
    obtain ⟨a, kvs, rfl, r, ok, m⟩ := DocAt.obj_iff.mp hd
    refine ⟨szO (show 1 ≤ 100000 by decide), fun p0 hp0 => ?_⟩
    have s0 := same_new hp0 (.lst [.int 0])
    refine ⟨a, kvs, (Le.of s0).d _ _ r, fun Hl od un hl lk => ?_⟩
    have m' := fun k => ((m k).mono (Le.of s0)).mono lk.le
    refine ⟨_, rfl, a, od, kvs, rfl, hl, fun p hp => ?_⟩
    refine lc_acc walk_values hp (fun i _ acc => acc = (kvs.take i).map fun kv => .int (look f kv.1).dep) (fun H5 s => s _ _ hl) (fun _ => rfl) (fun i x H2 H3 acc hi B hac he y => ?_) (fun H2 acc B _ he => ?_)
    · obtain ⟨rfl, k, hk⟩ := y
      obtain ⟨j, rfl, hj⟩ := ok.vnth hk
      refine ⟨rfl, _, rfl, x, f j, rfl, (doc_cases m' hj).mono (Le.of B.same), D.lt_kid hn j, fun H' s => ?_⟩
      refine accPush B hac (by have := ok.len; omega) s ?_
      rw [take_more hk, List.map_append, he]
      show _ = _ ++ [V.int (look f (kK j)).dep]
      rw [look_at]
    · rw [List.take_length] at he
      subst he
      refine ⟨B.same _ _ hl, ?_⟩
      have h0 : un H2 p0 = some (.lst [.int 0]) := lk.same B.same _ _ upd_same
      refine ⟨p0, p, _, _, rfl, rfl, h0, by rw [lk.new hp, B.at_], szO (by have := ok.len; rw [List.length_map]; show 1 + _ ≤ _; omega), fun p3 hp3 => ?_⟩
      refine ⟨p3, 0 :: kvs.map fun kv => ((look f kv.1).dep : Int), rfl, SqL.of (by rw [upd_same, List.map_cons, List.map_map] <;> rfl), Nat.succ_pos _, fun z hz hm => ?_⟩
      refine ⟨1, z, rfl, rfl, ?_⟩
      have e : (1 + z : Int) = ((D.obj f).dep : Nat) := by
        show 1 + z = ((1 + mx4 fun k => (f k).dep : Nat) : Int)
        have hz0 := hm 0 List.mem_cons_self
        have up : z ≤ (mx4 fun k => (f k).dep : Nat) := by
          rcases List.mem_cons.mp hz with e | h
          · omega
          · obtain ⟨kv, h1, h2⟩ := List.mem_map.mp h
            obtain ⟨k, e⟩ := ok.2 kv h1
            rw [e, look_at] at h2
            have := mx4_le.mp (Nat.le_refl (mx4 fun k => (f k).dep)) k
            omega
        have lo : (mx4 fun k => (f k).dep) ≤ z.toNat := mx4_le.mpr fun k => by
          have mk := m k
          cases hv : valV kvs (kK k) with
          | none =>
            rw [hv] at mk
            rw [show f k = .abs from mk]
            exact Nat.zero_le _
          | some u =>
            have hk : kK k ∈ kvs.map (·.1) := valV_iff.mp (by rw [hv] <;> rfl)
            obtain ⟨kv, h1, h2⟩ := List.mem_map.mp hk
            have := hm _ (List.mem_cons_of_mem _ (List.mem_map_of_mem (f := fun kv : L2.Key × V => ((look f kv.1).dep : Int)) h1))
            rw [h2, look_at] at this
            omega
        omega
      show Q (.int (1 + z)) _
      rw [e]
      exact q _ ((s0.trans (lk.same B.same)).trans (same_new hp3 _))
theorem ok_depth_of (T : Tx K mg) : ∀ n, C8.Cal P w K mg base n "depth_of" (sp_depth_of n) []
  | 0 => T.calF 4 (st := s_depth_of) (ps := ["value"]) rfl (by decide +kernel) (fun _ _ _ _ _ _ us hl => match us, hl with | [_], _ => rfl) fun vs H Q E ⟨_, _, _, _, h, _⟩ => absurd h (Nat.not_lt_zero _)
  | n + 1 => by
    have c_depth_of := ok_depth_of T n
    have sc : FnScope ["value", "member"] ["value"] (C8.fnScope s_depth_of) := C8.fnScope_by (by decide +kernel)
    refine T.cal 4 (st := s_depth_of) rfl (by decide +kernel) sc (fun _ _ _ _ _ _ us hl => match us, hl with | [_], _ => rfl) (fun vs H Q E ⟨_, _, h, _⟩ => by rw [h]; rfl) (fun cdv A outer s H vs Q E f hr h => ⟨t_depth_of K n, ?_, pu_depth_of h⟩)
    have hu := hu_of hr
    exact (pss_cons (ps_if (pt_not (pt_val (pe_callB call_isi rfl T.f_isinstance bt_isinstance (pa_cons (pv 0) (pa_cons (pe_bltn (v := .ty "dict") rfl T.f_dict bt_dict rfl) pa_nil))))) (pss_one (ps_ret pe_int)) pss_nil)
    (pss_one (ps_ret (pe_op op_add pe_int (pe_callB (cr_max rfl) rfl T.f_max bt_max (pa_cons (pe_op op_cat (pe_lst (pa_cons pe_int pa_nil)) (pe_lk (pe_lc (own := [("member", 1)]) (g := (gName 1)) (tt := tYes) (te := (tCall (sp_depth_of n) [] C8.E0 (tCons (tVar 1) tNil))) rfl sc.nd (pi_values (pv 0)) (blkOk_by (N := ["value", "member"]) (sc := C8.fnScope s_depth_of) (by decide +kernel)) (fun _ _ _ _ _ => (pg_name (i := 1) sc.nd rfl (Or.inl rfl))) (fun _ _ _ _ _ => pts_nil) (fun _ _ _ _ _ => (C8.pe_c c_depth_of hr (by omega) rfl (pa_cons (pv 1) pa_nil)))))) pa_nil))))))
/-! ### parts_of(value) -/
def sp_parts_of (n : Nat) : Sp := fun vs H Q _ => ∃ v d, vs = [v] ∧ DocAt H d v ∧ d.dep < n ∧ ∀ H', Same H H' → Q (.int d.par) H'
def t_parts_of (K : PySem.W.Frag) (n : Nat) : TS :=
  (tSeq (tIfS (tNot (tB (tCB (rIsi K) (tCons (tVar 0) (tCons (tC (.ty "dict")) tNil))))) (tRet (tC (.int 1))) tNext)
    (tRet (tOp (rI0 fun i j => .int (i + j)) (tC (.int 1)) (tCB (rSum K) (tCons (tLk (tLc (iVals (tVar 0)) (gName 1) tYes (tCall (sp_parts_of n) [] C8.E0 (tCons (tVar 1) tNil)) [1])) tNil)))))
theorem pu_parts_of {n : Nat} (h : sp_parts_of (n + 1) vs H Q E) : t_parts_of K n { nx := fun _ H' => Q .non H', rt := Q } (L2.start ["value", "member"] vs) H := by
  obtain ⟨v, d, rfl, hd, hn, q⟩ := h
  refine sSeq (sIf (xNot (xDict rfl hd ?_)))
  cases d with
  | abs => exact (show False from hd).elim
  | atom x => exact ifT rfl (q _ (Same.refl H))
  | obj f =>
    refine ifF rfl (sNext ?_)
    obtain ⟨a, kvs, rfl, r, ok, m⟩ := DocAt.obj_iff.mp hd
    refine ⟨a, kvs, r, fun Hl od un hl lk => ?_⟩
    have m' := fun k => (m k).mono lk.le
    refine ⟨_, rfl, a, od, kvs, rfl, hl, fun p hp => ?_⟩
    refine lc_acc walk_values hp (fun i _ acc => acc = (kvs.take i).map fun kv => .int (look f kv.1).par) (fun H5 s => s _ _ hl) (fun _ => rfl) (fun i x H2 H3 acc hi B hac he y => ?_) (fun H2 acc B _ he => ?_)
    · obtain ⟨rfl, k, hk⟩ := y
      obtain ⟨j, rfl, hj⟩ := ok.vnth hk
      refine ⟨rfl, _, rfl, x, f j, rfl, (doc_cases m' hj).mono (Le.of B.same), D.lt_kid hn j, fun H' s => ?_⟩
      refine accPush B hac (by have := ok.len; omega) s ?_
      rw [take_more hk, List.map_append, he]
      show _ = _ ++ [V.int (look f (kK j)).par]
      rw [look_at]
    · rw [List.take_length] at he
      subst he
      refine ⟨B.same _ _ hl, p, kvs.map fun kv => ((look f kv.1).par : Int), rfl, SqL.of (by rw [lk.new hp, B.at_, List.map_map] <;> rfl), 1, _, rfl, rfl, ?_⟩
      have e : (1 + (kvs.map fun kv => ((look f kv.1).par : Int)).sum) = ((D.obj f).par : Nat) := by
        rw [sum_keys ok f (fun d => (d.par : Int)) fun k hk => ?_]
        · show _ = ((1 + sm4 fun k => (f k).par : Nat) : Int)
          unfold sm4
          dsimp only
          omega
        · have mk := m k
          rw [hk] at mk
          rw [show f k = .abs from mk] <;> rfl
      show Q (.int (1 + (kvs.map fun kv => ((look f kv.1).par : Int)).sum)) _
      rw [e]
      exact q _ (lk.same B.same)
theorem ok_parts_of (T : Tx K mg) : ∀ n, C8.Cal P w K mg base n "parts_of" (sp_parts_of n) []
  | 0 => T.calF 5 (st := s_parts_of) (ps := ["value"]) rfl (by decide +kernel) (fun _ _ _ _ _ _ us hl => match us, hl with | [_], _ => rfl) fun vs H Q E ⟨_, _, _, _, h, _⟩ => absurd h (Nat.not_lt_zero _)
  | n + 1 => by
    have c_parts_of := ok_parts_of T n
    have sc : FnScope ["value", "member"] ["value"] (C8.fnScope s_parts_of) := C8.fnScope_by (by decide +kernel)
    refine T.cal 5 (st := s_parts_of) rfl (by decide +kernel) sc (fun _ _ _ _ _ _ us hl => match us, hl with | [_], _ => rfl) (fun vs H Q E ⟨_, _, h, _⟩ => by rw [h]; rfl) (fun cdv A outer s H vs Q E f hr h => ⟨t_parts_of K n, ?_, pu_parts_of h⟩)
    have hu := hu_of hr
    exact (pss_cons (ps_if (pt_not (pt_val (pe_callB call_isi rfl T.f_isinstance bt_isinstance (pa_cons (pv 0) (pa_cons (pe_bltn (v := .ty "dict") rfl T.f_dict bt_dict rfl) pa_nil))))) (pss_one (ps_ret pe_int)) pss_nil)
    (pss_one (ps_ret (pe_op op_add pe_int (pe_callB (cr_sum rfl) rfl T.f_sum bt_sum (pa_cons (pe_lk (pe_lc (own := [("member", 1)]) (g := (gName 1)) (tt := tYes) (te := (tCall (sp_parts_of n) [] C8.E0 (tCons (tVar 1) tNil))) rfl sc.nd (pi_values (pv 0)) (blkOk_by (N := ["value", "member"]) (sc := C8.fnScope s_parts_of) (by decide +kernel)) (fun _ _ _ _ _ => (pg_name (i := 1) sc.nd rfl (Or.inl rfl))) (fun _ _ _ _ _ => pts_nil) (fun _ _ _ _ _ => (C8.pe_c c_parts_of hr (by omega) rfl (pa_cons (pv 1) pa_nil))))) pa_nil))))))
end
end Tp
end
section
set_option maxRecDepth 100000
set_option maxHeartbeats 4000000
namespace Tp
open PySem PySem.Spec PyProof.Rows L2
def rowPar (ds : List D) : Nat := (ds.map D.par).sum
section
variable {P : Program} {w : World} {K : PySem.W.Frag} {mg : Str → Option Value} {base : Heap} {vs : List V} {H : Hp} {Q : VK} {E : XK}
/-! ### check(value) -/
def sp_check : Sp := fun vs H Q _ => ∃ v d, vs = [v] ∧ DocAt H d v ∧ d.dep ≤ 3 ∧ ∀ H', Same H H' → Q .non H'
def t_check (K : PySem.W.Frag) : TS :=
  (tSeq (tAsg (tCall (sp_wrong_path 4) [] C8.E0 (tCons (tVar 0) (tCons (tTup tNil) tNil))) (gName 1))
    (tSeq (tIfS (tB (tNotN (tVar 1))) tNever tNext)
    (tSeq (tIfS (tTest (tOp (rI0 fun i j => .bl (decide (j < i))) (tCall (sp_depth_of 4) [] C8.E0 (tCons (tVar 0) tNil)) (tC (.int 8)))) tNever tNext)
    (tIfS (tTest (tOp (rI0 fun i j => .bl (decide (j < i))) (tCall (sp_parts_of 4) [] C8.E0 (tCons (tVar 0) tNil)) (tC (.int 200)))) tNever tNext))))
theorem pu_check (h : sp_check vs H Q E) : t_check K { nx := fun _ H' => Q .non H', rt := Q } (L2.start ["value", "path"] vs) H := by
  obtain ⟨v, d, rfl, hd, hn, q⟩ := h
  have hp := D.par_le 3 d hn
  refine sSeq (sAsg ⟨_, rfl, Nat.zero_le _, fun p0 hp0 => ?_⟩)
  have s0 := same_new hp0 (.tup [])
  refine ⟨v, d, p0, [], rfl, hd.mono (Le.of s0), by omega, upd_same, by show 0 + 4 ≤ 100; omega, fun H1 s1 => ?_⟩
  have s1 := s0.trans s1
  refine sSeq (sIf ⟨_, rfl, _, rfl, ifF rfl (sNext ?_)⟩)
  refine sSeq (sIf ⟨_, rfl, v, d, rfl, hd.mono (Le.of s1), by omega, fun H2 s2 => ?_⟩)
  have s2 := s1.trans s2
  refine ⟨_, _, rfl, rfl, _, rfl, ifF (decide_eq_false (by omega)) (sNext ?_)⟩
  refine sIf ⟨_, rfl, v, d, rfl, hd.mono (Le.of s2), by omega, fun H3 s3 => ?_⟩
  refine ⟨_, _, rfl, rfl, _, rfl, ifF (decide_eq_false ?_) (sNext (q _ (s2.trans s3)))⟩
  have : D.cap 3 = 85 := rfl
  omega
theorem ok_check (T : Tx K mg) : C8.Cal P w K mg base 8 "check" sp_check [] := by
  have c_wrong_path := ok_wrong_path (P := P) (w := w) (base := base) T 4
  have c_depth_of := ok_depth_of (P := P) (w := w) (base := base) T 4
  have c_parts_of := ok_parts_of (P := P) (w := w) (base := base) T 4
  have sc : FnScope ["value", "path"] ["value"] (C8.fnScope s_check) := C8.fnScope_by (by decide +kernel)
  refine T.cal 6 (st := s_check) rfl (by decide +kernel) sc (fun _ _ _ _ _ _ us hl => match us, hl with | [_], _ => rfl) (fun vs H Q E ⟨_, _, h, _⟩ => by rw [h]; rfl) (fun cdv A outer s H vs Q E f hr h => ⟨t_check K, ?_, pu_check h⟩)
  have hu := hu_of hr
  exact (pss_cons (ps_set (i := 1) sc.nd rfl (Or.inl rfl) (C8.pe_c c_wrong_path hr (by omega) rfl (pa_cons (pv 0) (pa_cons (pe_tup pa_nil) pa_nil))))
    (pss_cons (ps_if (pt_cmp (pc_notN (pv 1))) pss_never pss_nil)
    (pss_cons (ps_if (pt_cmpR op_gt (C8.pe_c c_depth_of hr (by omega) rfl (pa_cons (pv 0) pa_nil)) (C8.pe_gc rfl T.v_MOST_DEPTH) (nomark _)) pss_never pss_nil)
    (pss_one (ps_if (pt_cmpR op_gt (C8.pe_c c_parts_of hr (by omega) rfl (pa_cons (pv 0) pa_nil)) (C8.pe_gc rfl T.v_MOST_PARTS) (nomark _)) pss_never pss_nil)))))
/-! ### check_row(row) -/
def sp_check_row : Sp := fun vs H Q _ => ∃ v ds, vs = [v] ∧ RowAt H ds v ∧ ds.length ≤ 900 ∧ (∀ d ∈ ds, d.dep ≤ 3) ∧ rowPar ds ≤ 200 ∧ ∀ H', Same H H' → Q .non H'
def t_check_row (K : PySem.W.Frag) : TS :=
  (tSeq (tFor (iList K (tVar 0)) (gName 1)
      (tDrop (tCall sp_check [] C8.E0 (tCons (tVar 1) tNil))))
    (tIfS (tTest (tOp (rI0 fun i j => .bl (decide (j < i))) (tCB (rSum K) (tCons (tLc (iList K (tVar 0)) (gName 1) tYes (tCall (sp_parts_of 4) [] C8.E0 (tCons (tVar 1) tNil)) [1]) tNil)) (tC (.int 200)))) tNever tNext))
theorem pu_check_row (h : sp_check_row vs H Q E) : t_check_row K { nx := fun _ H' => Q .non H', rt := Q } (L2.start ["row", "patch"] vs) H := by
  obtain ⟨v, ds, rfl, ⟨a, vs, rfl, r, hds⟩, hlen, hdep, hpar, q⟩ := h
  refine sSeq (sFor ?_)
  refine ⟨_, rfl, a, rfl, ⟨_, SqL.rd r⟩, ?_⟩
  refine for_same (SqL.rd r) (fun i σ H4 => ∃ c, σ = [some (.ref a), c]) ⟨_, rfl⟩ (fun i x σ H4 hx s4 h => ?_) (fun σ H4 s4 h => ?_)
  · obtain ⟨c, rfl⟩ := h
    obtain ⟨d, hd, hdx⟩ := hds.nth hx
    refine sDrop ⟨_, rfl, x, d, rfl, hdx.mono (Le.of s4), hdep d (List.mem_of_getElem? hd), fun H5 s5 => ?_⟩
    exact ⟨s4.trans s5, _, rfl⟩
  · obtain ⟨c, rfl⟩ := h
    have r4 := (Le.of s4).l _ _ r
    refine sIf ?_
    refine ⟨_, rfl, a, rfl, ⟨_, SqL.rd r4⟩, fun p hp => ?_⟩
    refine lc_acc (walk_list (xs := vs)) hp (fun i _ acc => acc = (ds.take i).map fun d => .int d.par) (fun H5 s => s.seq (SqL.rd r4)) (fun _ => rfl) (fun i x H2 H3 acc hi B hac he y => ?_) (fun H2 acc B _ he => ?_)
    · obtain ⟨rfl, hx⟩ := y
      obtain ⟨d, hd, hdx⟩ := hds.nth hx
      refine ⟨rfl, _, rfl, x, d, rfl, hdx.mono (Le.of (s4.trans B.same)), by have := hdep d (List.mem_of_getElem? hd); omega, fun H5 s5 => ?_⟩
      refine accPush B hac (by have := hds.len; omega) s5 ?_
      rw [take_more hd, List.map_append, he] <;> rfl
    · rw [hds.len, List.take_length] at he
      subst he
      refine ⟨p, ds.map fun d => (d.par : Int), rfl, SqL.of (by rw [B.at_, List.map_map] <;> rfl), ?_⟩
      refine ⟨_, _, rfl, rfl, _, rfl, ifF (decide_eq_false ?_) (sNext (q _ (s4.trans B.same)))⟩
      have e : ∀ l : List D, (l.map fun d => (d.par : Int)).sum = (rowPar l : Nat) := by
        intro l
        unfold rowPar
        induction l with
        | nil => rfl
        | cons x r ih => simp only [List.map_cons, List.sum_cons, ih]; omega
      rw [e]
      omega
theorem ok_check_row (T : Tx K mg) : C8.Cal P w K mg base 9 "check_row" sp_check_row [] := by
  have c_check := ok_check (P := P) (w := w) (base := base) T
  have c_parts_of := ok_parts_of (P := P) (w := w) (base := base) T 4
  have sc : FnScope ["row", "patch"] ["row"] (C8.fnScope s_check_row) := C8.fnScope_by (by decide +kernel)
  refine T.cal 7 (st := s_check_row) rfl (by decide +kernel) sc (fun _ _ _ _ _ _ us hl => match us, hl with | [_], _ => rfl) (fun vs H Q E ⟨_, _, h, _⟩ => by rw [h]; rfl) (fun cdv A outer s H vs Q E f hr h => ⟨t_check_row K, ?_, pu_check_row h⟩)
  have hu := hu_of hr
  exact (pss_cons (ps_for PassesOwn.never rfl (pi_list (pv 0)) (pg_name (i := 1) sc.nd rfl (Or.inl rfl))
      (pss_one (ps_expr (C8.pe_c c_check hr (by omega) rfl (pa_cons (pv 1) pa_nil)))))
    (pss_one (ps_if (pt_cmpR op_gt (pe_callB (cr_sum rfl) rfl T.f_sum bt_sum (pa_cons (pe_lc (own := [("patch", 1)]) (g := (gName 1)) (tt := tYes) (te := (tCall (sp_parts_of 4) [] C8.E0 (tCons (tVar 1) tNil))) rfl sc.nd (pi_list (pv 0)) (blkOk_by (N := ["row", "patch"]) (sc := C8.fnScope s_check_row) (by decide +kernel)) (fun _ _ _ _ _ => (pg_name (i := 1) sc.nd rfl (Or.inl rfl))) (fun _ _ _ _ _ => pts_nil) (fun _ _ _ _ _ => (C8.pe_c c_parts_of hr (by omega) rfl (pa_cons (pv 1) pa_nil)))) pa_nil)) (C8.pe_gc rfl T.v_MOST_PARTS) (nomark _)) pss_never pss_nil)))
end
end Tp
end
section
set_option maxRecDepth 100000
set_option maxHeartbeats 4000000
namespace Tp
open PySem PySem.Spec PyProof.Rows L2
/-- a document that is given where nothing is: None -/
def D.orN (d : D) : D := if d.isAbs = true then .atom non else d
theorem D.orN_abs : D.orN .abs = .atom non := rfl
theorem D.orN_ne {d : D} (h : d ≠ .abs) : d.orN = d := by
  unfold D.orN
  cases d with
  | abs => exact absurd rfl h
  | _ => rfl
theorem D.orN_dep {d : D} {n : Nat} (h : d.dep ≤ n) : d.orN.dep ≤ n := by
  cases d with
  | abs => exact Nat.zero_le _
  | _ => exact h
theorem mg_orN {d p : D} (h : p ≠ .abs) : mg d.orN p = mg d p := by
  cases d with
  | abs =>
    cases p with
    | abs => exact absurd rfl h
    | _ => rfl
  | _ => rfl
theorem MAt.getN {H : Hp} {d : D} {o : Option V} (h : MAt H d o) : DocAt H d.orN (o.getD .non) := by
  cases o with
  | none =>
    rw [show d = .abs from h]
    exact doc_non
  | some u =>
    rw [D.orN_ne (DocAt.ne h)]
    exact h
theorem kid_dep {d : D} {n : Nat} (h : d.dep ≤ n) (k : Ky) : (d.kid k).dep ≤ n := by
  cases d with
  | obj f =>
    have := mx4_le.mp (Nat.le_refl (mx4 fun k => (f k).dep)) k
    have h1 : 1 + mx4 (fun k => (f k).dep) ≤ n := h
    show (f k).dep ≤ n
    omega
  | _ => exact Nat.zero_le _
section
variable {P : Program} {w : World} {K : PySem.W.Frag} {mg : Str → Option Value} {base : Heap} {vs : List V} {H : Hp} {Q : VK} {E : XK}
/-! ### merged(document, patch) -/
def mgK (d : D) (p : Ky → D) (k : Ky) : D := if (p k).isAbs = true then d.kid k else if (p k).isNon = true then .abs else Tp.mg (d.kid k) (p k)
def sp_merged (n : Nat) : Sp := fun vs H Q _ => ∃ v u d p, vs = [v, u] ∧ DocAt H d v ∧ DocAt H p u ∧ d.dep ≤ 3 ∧ p.dep < n ∧ ∀ v' H', Fresh H H' (Tp.mg d p) v' → Q v' H'
def t_merged (K : PySem.W.Frag) (n : Nat) : TS :=
  (tSeq (tIfS (tNot (tB (tCB (rIsi K) (tCons (tVar 1) (tCons (tC (.ty "dict")) tNil))))) (tRet (tCall (sp_copied 4) [] C8.E0 (tCons (tVar 1) tNil))) tNext)
    (tSeq (tAsg (tIf (tB (tCB (rIsi K) (tCons (tVar 0) (tCons (tC (.ty "dict")) tNil)))) (tCall (sp_copied 4) [] C8.E0 (tCons (tVar 0) tNil)) tDNewK) (gName 2))
    (tSeq (tLkS (tFor (iItems (tVar 1)) (gTup K 2 (gCons (gName 3) (gCons (gName 4) gNil)))
      (tIfS (tB (tIsN (tVar 4))) (tDrop (tDPop2 (tVar 2) (tVar 3) (tC .non))) (sDPut (tVar 2) (tVar 3) (tCall (sp_merged n) [] C8.E0 (tCons (tDGet1 (tVar 2) (tVar 3)) (tCons (tVar 4) tNil)))))))
    (tRet (tVar 2)))))
theorem pu_merged {n : Nat} (h : sp_merged (n + 1) vs H Q E) : t_merged K n { nx := fun _ H' => Q .non H', rt := Q } (L2.start ["document", "patch", "found", "key", "member"] vs) H := by
  obtain ⟨v, u, d, p, rfl, hd, hp, hdd, hn, q⟩ := h
  refine sSeq (sIf (xNot (xDict rfl hp ?_)))
  have simple : p.isObj = false → Tp.mg d p = p := fun e => by
    cases p with
    | obj f => cases e
    | _ => rfl
  cases hob : p.isObj with
  | false =>
    refine ifT rfl (sRet ⟨_, rfl, u, p, rfl, hp, ?_, fun v' H' F => ?_⟩)
    · cases p with
      | obj f => cases hob
      | _ => exact Nat.succ_pos _
    · rw [simple hob] at q
      exact q _ _ F
  | true =>
    refine ifF rfl (sNext ?_)
    cases p with
    | abs => cases hob
    | atom x => cases hob
    | obj f =>
    obtain ⟨a, kvs, rfl, r, ok, m⟩ := DocAt.obj_iff.mp hp
    have key : ∀ (p : Addr) (H1 : Hp) (kvs0 : List (L2.Key × V)), Bld H p H1 kvs0 d.kid → (tSeq (tLkS (tFor (iItems (tVar 1)) (gTup K 2 (gCons (gName 3) (gCons (gName 4) gNil)))
      (tIfS (tB (tIsN (tVar 4))) (tDrop (tDPop2 (tVar 2) (tVar 3) (tC .non))) (sDPut (tVar 2) (tVar 3) (tCall (sp_merged n) [] C8.E0 (tCons (tDGet1 (tVar 2) (tVar 3)) (tCons (tVar 4) tNil)))))))
    (tRet (tVar 2))) ⟨fun _ H' => Q .non H', Q, fun _ _ => False, fun _ _ => False⟩ [some v, some (.ref a), some (.ref p), none, none] H1 := by
      intro p H1 kvs0 B0
      have hH : H a ≠ none := by
        rcases r with r | ⟨o, r⟩ <;> rw [r] <;> exact fun e => nomatch e
      refine sSeq (sLk ?_)
      refine ⟨a, kvs, (Le.of B0.same).d _ _ r, fun Hl od un hl lk => ?_⟩
      obtain ⟨Hm, leM, Bm, back⟩ := lk.mid B0 hH
      have m' := fun k => (m k).mono leM
      have hlm : Hm a = some (.frz od (.dK kvs)) := by
        cases e : Hm a with
        | none =>
          have := leM.d _ _ r
          rcases this with q | ⟨o, q⟩ <;> rw [e] at q <;> cases q
        | some o =>
          have := Bm.same _ _ e
          rw [hl] at this
          exact this.symm
      refine sFor ⟨_, rfl, a, od, kvs, rfl, hl, ?_⟩
      refine for_it (D := ⟨_, _, fun _ _ => False, fun _ _ => False⟩) walk_items (fun i σ H2 => (∃ c e, σ = [some v, some (.ref a), some (.ref p), c, e]) ∧ ∃ kvs2, Bld Hm p H2 kvs2 fun k => if upto (kvs.map (·.1)) i (kK k) = true then mgK d f k else d.kid k)
        ⟨⟨_, _, rfl⟩, kvs0, Bm.congr fun k => by rw [upto_zero] <;> rfl⟩ (fun i σ H2 _ ⟨_, _, B⟩ => B.same _ _ hlm) (fun i x σ H2 H3 hi ⟨⟨c, e, hσ⟩, kvs2, B⟩ y => ?_) (fun σ H2 ⟨⟨c, e, hσ⟩, kvs2, B⟩ => ?_)
      · subst hσ
        obtain ⟨t, k, u, rfl, ht, rfl, hv, hki⟩ := items_turn ok y
        have s1 := same_new ht (.tup [.str (kS k), u])
        have B1 := B.call s1
        have hu : DocAt Hm (f k) u := doc_cases m' hv
        have hk : (f k).dep < n := D.lt_kid hn k
        have nu := upto_not ok.1 hki
        have fne := hu.ne
        refine gPair upd_same ?_
        refine sIf ⟨_, rfl, _, rfl, ?_⟩
        rw [hu.is_non]
        cases hno : (f k).isNon with
        | true =>
          have ev : mgK d f k = .abs := by
            unfold mgK
            cases q : (f k).isAbs with
            | true => exact absurd (D.isAbs_iff.mp q) fne
            | false => rw [if_neg Bool.false_ne_true, hno, if_pos rfl]
          refine ifT rfl (sDrop ⟨_, rfl, p, rfl, .inl ⟨_, .inl B1.at_⟩, _, rfl, kvs2, kK k, B1.at_, rfl, fun v' hv' => ?_, fun hv' => ?_⟩)
          · exact ⟨⟨_, _, rfl⟩, _, (B1.drop (k := k)).congr fun j => upto_step hki ev j⟩
          · refine ⟨⟨_, _, rfl⟩, _, B1.congr fun j => ?_⟩
            rw [← upto_step hki ev j]
            by_cases q : j = k
            · subst q
              have := B1.mem j
              rw [hv'] at this
              rw [if_pos rfl]
              exact this
            · rw [if_neg q]
        | false =>
          have ev : mgK d f k = Tp.mg (d.kid k) (f k) := by
            unfold mgK
            cases q : (f k).isAbs with
            | true => exact absurd (D.isAbs_iff.mp q) fne
            | false => rw [if_neg Bool.false_ne_true, hno, if_neg Bool.false_ne_true]
          have mk := B1.mread k
          rw [if_neg (by rw [nu]; exact Bool.false_ne_true)] at mk
          refine ifF rfl ?_
          refine ⟨_, rfl, p, rfl, .inl ⟨_, .inl B1.at_⟩, _, rfl, _, dgetK (.inl B1.at_) k, _, rfl, ?_⟩
          refine ⟨_, _, (d.kid k).orN, f k, rfl, mk.getN, hu.mono (Le.of B1.same), D.orN_dep (kid_dep hdd k), hk, fun v' H' F => ?_⟩
          rw [mg_orN fne] at F
          have B2 := B1.call F.same
          exact ⟨_, rfl, _, rfl, p, _, rfl, dputK B2.at_ B2.ok k _, ⟨_, _, rfl⟩, _, (B2.put (k := k) (B1.into F.same F.doc)).congr fun j => upto_step hki ev j⟩
      · subst hσ
        refine ⟨B.same _ _ hlm, ?_⟩
        refine sRet ⟨_, rfl, q _ _ (Fresh.obj (back (B.congr fun k => ?_)))⟩
        rw [upto_all (by rw [List.length_map]; exact Nat.le_refl _), ← valV_mem]
        show _ = mgK d f k
        have := m k
        cases e : valV kvs (kK k) with
        | none =>
          rw [e] at this
          have fe : f k = .abs := this
          unfold mgK
          rw [fe] <;> rfl
        | some u => rfl
    refine sSeq (sAsg ?_)
    refine xIf (xDict rfl hd ?_)
    cases hdo : d.isObj with
    | true =>
      refine ifT rfl ⟨_, rfl, v, d, rfl, hd, by omega, fun v' H' F => ?_⟩
      cases d with
      | abs => cases hdo
      | atom x => cases hdo
      | obj g =>
        obtain ⟨_, p, kvs0, rfl, B⟩ := F
        exact key p H' kvs0 B
    | false =>
      refine ifF rfl fun p hp => ?_
      refine key p _ [] ((Bld.start hp).congr fun k => ?_)
      cases d with
      | obj g => cases hdo
      | _ => rfl
theorem ok_merged (T : Tx K mg) : ∀ n, C8.Cal P w K mg base (n + 4) "merged" (sp_merged n) []
  | 0 => T.calF 9 (st := s_merged) (ps := ["document", "patch"]) rfl (by decide +kernel) (fun _ _ _ _ _ _ us hl => match us, hl with | [_, _], _ => rfl) fun vs H Q E ⟨_, _, _, _, _, _, _, _, h, _⟩ => absurd h (Nat.not_lt_zero _)
  | n + 1 => by
    have c_merged := ok_merged T n
    have c_copied := ok_copied (P := P) (w := w) (base := base) T 4
    have sc : FnScope ["document", "patch", "found", "key", "member"] ["document", "patch"] (C8.fnScope s_merged) := C8.fnScope_by (by decide +kernel)
    refine T.cal 9 (st := s_merged) rfl (by decide +kernel) sc (fun _ _ _ _ _ _ us hl => match us, hl with | [_, _], _ => rfl) (fun vs H Q E ⟨_, _, _, _, h, _⟩ => by rw [h]; rfl) (fun cdv A outer s H vs Q E f hr h => ⟨t_merged K n, ?_, pu_merged h⟩)
    have hu := hu_of hr
    exact (pss_cons (ps_if (pt_not (pt_val (pe_callB call_isi rfl T.f_isinstance bt_isinstance (pa_cons (pv 1) (pa_cons (pe_bltn (v := .ty "dict") rfl T.f_dict bt_dict rfl) pa_nil))))) (pss_one (ps_ret (C8.pe_c c_copied hr (by omega) rfl (pa_cons (pv 1) pa_nil)))) pss_nil)
    (pss_cons (ps_set (i := 2) sc.nd rfl (Or.inl rfl) (pe_ifExp (pt_val (pe_callB call_isi rfl T.f_isinstance bt_isinstance (pa_cons (pv 0) (pa_cons (pe_bltn (v := .ty "dict") rfl T.f_dict bt_dict rfl) pa_nil)))) (C8.pe_c c_copied hr (by omega) rfl (pa_cons (pv 0) pa_nil)) pe_dnewK))
    (pss_cons (ps_lk (ps_for PassesOwn.never rfl (pi_items (pv 1)) (pg_tup rfl (pgs_cons (pg_name (i := 3) sc.nd rfl (Or.inl rfl)) (pgs_cons (pg_name (i := 4) sc.nd rfl (Or.inl rfl)) pgs_nil)))
      (pss_one (ps_if (pt_cmp (pc_isN (pv 4))) (pss_one (ps_expr (pe_dpop2 (pv 2) (pv 3) pe_non ⟨rfl, rfl, rfl, rfl⟩))) (pss_one (ps_dput hu (pv 2) (pv 3) (C8.pe_c c_merged hr (by omega) rfl (pa_cons (pe_dget1 hu (pv 2) (pv 3) ⟨rfl, rfl, rfl, rfl⟩) (pa_cons (pv 4) pa_nil))) rfl))))))
    (pss_one (ps_ret (pv 2))))))
end
end Tp
end
section
set_option maxRecDepth 100000
set_option maxHeartbeats 4000000
namespace Tp
open PySem PySem.Spec PyProof.Rows L2
theorem Fresh.wk {H H1 H2 : Hp} {d : D} {v : V} (s : Same H H1) (h : Fresh H1 H2 d v) : Fresh H H2 d v := by
  refine ⟨s.trans h.1, ?_⟩
  cases d with
  | obj f =>
    obtain ⟨_, p, kvs, rfl, B⟩ := h
    refine ⟨p, kvs, rfl, fun b o hb q => B.old b o hb (s _ _ q), s.free B.fr, B.at_, B.ok, fun k => (B.mem k).mono (Le.of (nw_mono (fun b q => ?_) (Same.refl H2)))⟩
    by_cases e : b = p
    · rw [e, upd_same] at q; cases q
    · rw [upd_ne e] at q ⊢
      exact s.free q
  | abs => exact h.2
  | atom x => exact DocAt.mono (Le.of (nw_mono (fun b q => s.free q) (Same.refl H2))) h.2
theorem Fresh.dep {H H' : Hp} {d : D} {v : V} (h : Fresh H H' d v) : d ≠ .abs := h.read.ne
structure Rok (ds : List D) : Prop where
  len : ds.length ≤ 900
  dep : ∀ d ∈ ds, d.dep ≤ 3
  par : rowPar ds ≤ 200
section
variable {P : Program} {w : World} {K : PySem.W.Frag} {mg : Str → Option Value} {base : Heap} {vs : List V} {H : Hp} {Q : VK} {E : XK}
/-! ### after_all(document, row) -/
def sp_after_all : Sp := fun vs H Q _ => ∃ v u d ds, vs = [v, u] ∧ DocAt H d v ∧ RowAt H ds u ∧ d.dep ≤ 3 ∧ (∀ p ∈ ds, p.dep ≤ 3) ∧ ∀ v' H', Fresh H H' (runD d ds) v' → Q v' H'
def t_after_all (K : PySem.W.Frag) : TS :=
  (tSeq (tAsg (tCall (sp_copied 4) [] C8.E0 (tCons (tVar 0) tNil)) (gName 2))
    (tSeq (tFor (iList K (tVar 1)) (gName 3)
      (tAsg (tCall (sp_merged 4) [] C8.E0 (tCons (tVar 2) (tCons (tVar 3) tNil))) (gName 2)))
    (tRet (tVar 2))))
theorem pu_after_all (h : sp_after_all vs H Q E) : t_after_all K { nx := fun _ H' => Q .non H', rt := Q } (L2.start ["document", "row", "found", "patch"] vs) H := by
  obtain ⟨v, u, d, ds, rfl, hd, ⟨a, vs, rfl, r, hds⟩, hdd, hdep, q⟩ := h
  refine sSeq (sAsg ⟨_, rfl, v, d, rfl, hd, by omega, fun v1 H1 F1 => ?_⟩)
  have r1 := (Le.of F1.same).l _ _ r
  refine sSeq (sFor ⟨_, rfl, a, rfl, ⟨_, SqL.rd r1⟩, ?_⟩)
  refine for_same (SqL.rd r1) (fun i σ H4 => ∃ v2 c, σ = [some v, some (.ref a), some v2, c] ∧ Fresh H H4 (runD d (ds.take i)) v2) ⟨_, _, rfl, F1⟩ (fun i x σ H4 hx s4 h => ?_) (fun σ H4 s4 h => ?_)
  · obtain ⟨v2, c, rfl, F2⟩ := h
    obtain ⟨p, hp, hpx⟩ := hds.nth hx
    have hpd := hdep p (List.mem_of_getElem? hp)
    refine sAsg ⟨_, rfl, _, rfl, v2, x, _, p, rfl, F2.read, hpx.mono (Le.of F2.same), runD_dep _ _ (fun p hp => hdep p (List.mem_of_mem_take hp)) hdd, by omega, fun v3 H5 F3 => ?_⟩
    refine ⟨s4.trans F3.same, v3, _, rfl, ?_⟩
    rw [take_more hp, runD_snoc]
    exact F3.wk F2.same
  · obtain ⟨v2, c, rfl, F2⟩ := h
    rw [hds.len, List.take_length] at F2
    exact sRet ⟨_, rfl, q _ _ F2⟩
theorem ok_after_all (T : Tx K mg) : C8.Cal P w K mg base 9 "after_all" sp_after_all [] := by
  have c_merged := ok_merged (P := P) (w := w) (base := base) T 4
  have c_copied := ok_copied (P := P) (w := w) (base := base) T 4
  have sc : FnScope ["document", "row", "found", "patch"] ["document", "row"] (C8.fnScope s_after_all) := C8.fnScope_by (by decide +kernel)
  refine T.cal 10 (st := s_after_all) rfl (by decide +kernel) sc (fun _ _ _ _ _ _ us hl => match us, hl with | [_, _], _ => rfl) (fun vs H Q E ⟨_, _, _, _, h, _⟩ => by rw [h]; rfl) (fun cdv A outer s H vs Q E f hr h => ⟨t_after_all K, ?_, pu_after_all h⟩)
  have hu := hu_of hr
  exact (pss_cons (ps_set (i := 2) sc.nd rfl (Or.inl rfl) (C8.pe_c c_copied hr (by omega) rfl (pa_cons (pv 0) pa_nil)))
    (pss_cons (ps_for PassesOwn.never rfl (pi_list (pv 1)) (pg_name (i := 3) sc.nd rfl (Or.inl rfl))
      (pss_one (ps_set (i := 2) sc.nd rfl (Or.inl rfl) (C8.pe_c c_merged hr (by omega) rfl (pa_cons (pv 2) (pa_cons (pv 3) pa_nil))))))
    (pss_one (ps_ret (pv 2)))))
/-! ### run(document, row) -/
def sp_run : Sp := fun vs H Q _ => ∃ v u d ds, vs = [v, u] ∧ DocAt H d v ∧ RowAt H ds u ∧ d.dep ≤ 3 ∧ Rok ds ∧ ∀ v' H', Fresh H H' (runD d ds) v' → Q v' H'
def t_run (K : PySem.W.Frag) : TS :=
  (tSeq (tDrop (tCall sp_check [] C8.E0 (tCons (tVar 0) tNil)))
    (tSeq (tDrop (tCall sp_check_row [] C8.E0 (tCons (tVar 1) tNil)))
    (tRet (tCall sp_after_all [] C8.E0 (tCons (tVar 0) (tCons (tVar 1) tNil))))))
theorem pu_run (h : sp_run vs H Q E) : t_run K { nx := fun _ H' => Q .non H', rt := Q } (L2.start ["document", "row"] vs) H := by
  obtain ⟨v, u, d, ds, rfl, hd, hds, hdd, ok, q⟩ := h
  refine sSeq (sDrop ⟨_, rfl, v, d, rfl, hd, hdd, fun H1 s1 => ?_⟩)
  refine sSeq (sDrop ⟨_, rfl, u, ds, rfl, hds.mono (Le.of s1), ok.len, ok.dep, ok.par, fun H2 s2 => ?_⟩)
  have s2 := s1.trans s2
  exact sRet ⟨_, rfl, _, rfl, v, u, d, ds, rfl, hd.mono (Le.of s2), hds.mono (Le.of s2), hdd, ok.dep, fun v' H' F => q _ _ (F.wk s2)⟩
theorem ok_run (T : Tx K mg) : C8.Cal P w K mg base 10 "run" sp_run [] := by
  have c_check := ok_check (P := P) (w := w) (base := base) T
  have c_check_row := ok_check_row (P := P) (w := w) (base := base) T
  have c_after_all := ok_after_all (P := P) (w := w) (base := base) T
  have sc : FnScope ["document", "row"] ["document", "row"] (C8.fnScope s_run) := C8.fnScope_by (by decide +kernel)
  refine T.cal 11 (st := s_run) rfl (by decide +kernel) sc (fun _ _ _ _ _ _ us hl => match us, hl with | [_, _], _ => rfl) (fun vs H Q E ⟨_, _, _, _, h, _⟩ => by rw [h]; rfl) (fun cdv A outer s H vs Q E f hr h => ⟨t_run K, ?_, pu_run h⟩)
  have hu := hu_of hr
  exact (pss_cons (ps_expr (C8.pe_c c_check hr (by omega) rfl (pa_cons (pv 0) pa_nil)))
    (pss_cons (ps_expr (C8.pe_c c_check_row hr (by omega) rfl (pa_cons (pv 1) pa_nil)))
    (pss_one (ps_ret (C8.pe_c c_after_all hr (by omega) rfl (pa_cons (pv 0) (pa_cons (pv 1) pa_nil)))))))
end
end Tp
end
section
set_option maxRecDepth 100000
set_option maxHeartbeats 4000000
namespace Tp
open PySem PySem.Spec PyProof.Rows L2
section
variable {P : Program} {w : World} {K : PySem.W.Frag} {mg : Str → Option Value} {base : Heap} {vs : List V} {H : Hp} {Q : VK} {E : XK}
/-! ### Effect(kind, atom, members) -/
def sp_Effect : Sp := fun vs H Q _ => ∃ x C dx kind w d lm ps kvs, vs = [.ref x, .str kind, w, .ref lm] ∧ Cls K C ∧ NoAttr K C "kind" ∧ NoAttr K C "atom" ∧ NoAttr K C "members" ∧ H x = some (.ins C dx []) ∧ DocAt H (.atom d) w ∧ H lm = some (.lst (ps.map V.ref)) ∧ PairsAt H ps kvs ∧ tabOk kvs ∧
  ∀ H' w' tp, (∀ b o, b ≠ x → H b = some o → H' b = some o) → H' x = some (.ins C dx (flds kind w' tp)) → AtOut H' d w' → MemAt H' (fun k => valV kvs (kK k)) tp → Q .non H'
def t_Effect (K : PySem.W.Frag) : TS :=
  (tSeq (sFld K (tVar 0) (tVar 1) "kind")
    (tSeq (sFld K (tVar 0) (tIf (tB (tCB (rIsi K) (tCons (tVar 2) (tCons (tC (.ty "list")) tNil)))) (tCB (rTupleOf K) (tCons (tVar 2) tNil)) (tVar 2)) "atom")
    (tSeq (tAsg (tCB (rDictP K) (tCons (tLc (iList K (tVar 3)) (gTup K 2 (gCons (gName 5) (gCons (gName 6) gNil))) tYes (tTup (tCons (tVar 5) (tCons (tVar 6) tNil))) [5, 6]) tNil)) (gName 4))
    (sFld K (tVar 0) (tCB (rTupleF K) (tCons (tLc (iList K (tCB rSortedD (tCons (tVar 4) tNil))) (gName 5) tYes (tTup (tCons (tVar 5) (tCons (tDGet (tVar 4) (tVar 5)) tNil))) [5]) tNil)) "members"))))
/-- new pairs in a new list -/
def PvP (kvs : List (L2.Key × V)) (i : Nat) (N : Hp) (acc : List V) : Prop := ∃ qs, acc = qs.map V.ref ∧ PairsAt N qs (kvs.take i)
theorem PvP.push {H1 H H' : Hp} {p t : Addr} {acc : List V} {kvs : List (L2.Key × V)} {kv : L2.Key × V} {i : Nat} (B : Acc H1 p H acc) (hl : acc.length ≤ i) (hi : i < 1000) (hq : PvP kvs i (nw (upd H1 p (.lst [])) H) acc) (hk : kvs[i]? = some kv)
    (s : Same H H') (ht : H' t = none) : ∃ acc, (upd H' t (.tup [kV kv.1, kv.2])) p = some (.lst acc) ∧ acc.length < sizeLine ∧ AccP H1 p (PvP kvs) (i + 1) (upd (upd H' t (.tup [kV kv.1, kv.2])) p (.lst (acc ++ [.ref t]))) := by
  have s2 := s.trans (same_new ht (.tup [kV kv.1, kv.2]))
  refine accPush B hl hi s2 ?_
  obtain ⟨qs, rfl, hp⟩ := hq
  refine ⟨qs ++ [t], by rw [List.map_append] <;> rfl, ?_⟩
  rw [take_more hk]
  refine PairsAt.snoc (hp.mono fun a xs e => nw_mono (fun _ q => q) s2 _ _ e) ?_
  show nw _ _ t = _
  rw [nw_at (B.none_of (s.free ht)), upd_same]
theorem docAtom_keep {H H' : Hp} {x C dx : Addr} {fs : List (Str × V)} {d : At} {w : V} (hx : H x = some (.ins C dx fs)) (k : ∀ b o, b ≠ x → H b = some o → H' b = some o) (h : DocAt H (.atom d) w) : DocAt H' (.atom d) w := by
  cases d with
  | pl y => exact h
  | lst ys =>
    obtain ⟨a, e, r, z⟩ := h
    refine ⟨a, e, ?_, z⟩
    rcases r with r | ⟨o, r⟩
    · exact .inl (k _ _ (fun e => by rw [e, hx] at r; cases r) r)
    · exact .inr ⟨o, k _ _ (fun e => by rw [e, hx] at r; cases r) r⟩
theorem pu_Effect (h : sp_Effect (K := K) vs H Q E) : t_Effect K { nx := fun _ H' => Q .non H', rt := Q } (L2.start ["self", "kind", "atom", "members", "found", "key", "one"] vs) H := by
  obtain ⟨x, C, dx, kind, w, d, lm, ps, kvs, rfl, hC, n1, n2, n3, hx, hw, hlm, hps, ok, q⟩ := h
  have ne : ∀ {b : Addr} {o : HO}, H b = some o → (∀ C dx fs, o ≠ .ins C dx fs) → b ≠ x := fun e n h => by rw [h, hx] at e; exact n _ _ _ (Option.some.inj e).symm
  have xl : lm ≠ x := ne hlm fun _ _ _ e => nomatch e
  have hps1 : ∀ {H' : Hp}, (∀ b o, b ≠ x → H b = some o → H' b = some o) → PairsAt H' ps kvs := fun k => Paired.mapP hps fun p kv e => k _ _ (ne e fun _ _ _ e => nomatch e) e
  -- self.kind
  refine sSeq ⟨_, rfl, _, rfl, x, C, dx, [], rfl, hx, hC, n1, by decide, ?_⟩
  have k1 : ∀ b o, b ≠ x → H b = some o → upd H x (.ins C dx [("kind", .str kind)]) b = some o := fun b o hb e => by rw [upd_ne hb]; exact e
  -- self.atom
  have key : ∀ (H2 : Hp) (w' : V), (∀ b o, b ≠ x → H b = some o → H2 b = some o) → H2 x = some (.ins C dx [("kind", .str kind), ("atom", w')]) → AtOut H2 d w' →
    (tSeq (tAsg (tCB (rDictP K) (tCons (tLc (iList K (tVar 3)) (gTup K 2 (gCons (gName 5) (gCons (gName 6) gNil))) tYes (tTup (tCons (tVar 5) (tCons (tVar 6) tNil))) [5, 6]) tNil)) (gName 4))
    (sFld K (tVar 0) (tCB (rTupleF K) (tCons (tLc (iList K (tCB rSortedD (tCons (tVar 4) tNil))) (gName 5) tYes (tTup (tCons (tVar 5) (tCons (tDGet (tVar 4) (tVar 5)) tNil))) [5]) tNil)) "members"))
      ⟨fun _ H' => Q .non H', Q, fun _ _ => False, fun _ _ => False⟩ [some (.ref x), some (.str kind), some w, some (.ref lm), none, none, none] H2 := by
    intro H2 w' k2 hx2 hw2
    have hlm2 := k2 _ _ xl hlm
    have hps2 := hps1 k2
    refine sSeq (sAsg ?_)
    refine ⟨_, rfl, lm, rfl, ⟨_, SqL.rd (.inl hlm2)⟩, fun p hp => ?_⟩
    refine lc_acc (walk_list (xs := ps.map V.ref)) hp (PvP kvs) (fun H5 s => s.seq (SqL.rd (.inl hlm2))) (fun _ => ⟨[], rfl, by rw [List.take_zero]; exact .nil⟩) (fun i y H5 H6 acc hi B hac hq hy => ?_) (fun H5 acc B hl hq => ?_)
    · obtain ⟨rfl, hy⟩ := hy
      obtain ⟨pp, kv, rfl, hkv, hpp⟩ := hps2.nth hy
      have hpp5 := B.same _ _ hpp
      refine gPair hpp5 ⟨rfl, _, rfl, _, rfl, twoS, fun t ht => ?_⟩
      exact PvP.push B hac (by rw [List.length_map] at hi; have := ok.len; have := hps.len; omega) hq hkv (Same.refl _) ht
    · obtain ⟨qs, rfl, hqs⟩ := hq
      rw [List.length_map, hps.len, List.take_length] at hqs
      refine ⟨p, qs, kvs, rfl, SqL.of B.at_, (hqs.mono fun a xs e => same_nw _ _ _ _ e).seqT, fun p2 hp2 => ?_⟩
      rw [ok.merge]
      have s5 := B.same
      have s6 := s5.trans (same_new hp2 (.dK kvs))
      -- self.members
      refine sFldI (xCB (aCons (xLc (iL (xCB1 rfl (sortedD_use ok (.inl upd_same) fun p3 hp3 => ?_))))))
      refine ⟨p3, rfl, ⟨_, .inl (.inl upd_same)⟩, fun p4 hp4 => ?_⟩
      have s7 := same_new hp3 (.lst ((kys.filter fun k => (valV kvs (kK k)).isSome).map fun k => .str (kS k)))
      refine lc_acc (walk_list (xs := (kys.filter fun k => (valV kvs (kK k)).isSome).map fun k => .str (kS k))) hp4 (PvP (prs (fun k => valV kvs (kK k)) kys)) (fun H5 s => s.seq (SqL.rd (.inl upd_same))) (fun _ => ⟨[], rfl, by rw [List.take_zero]; exact .nil⟩) (fun i y H5 H6 acc hi B3 hac hq hy => ?_) (fun H5 acc B3 hl hq => ?_)
      · obtain ⟨rfl, hy⟩ := hy
        obtain ⟨k, hk, rfl⟩ := map_nth hy
        obtain ⟨u, hu, hpr⟩ := prs_get (g := fun k => valV kvs (kK k)) hk
        refine ⟨rfl, _, rfl, _, rfl, _, rfl, p2, u, rfl, dgetU (.inl (B3.same _ _ (s7 _ _ upd_same))) hu, twoS, fun t ht => ?_⟩
        refine PvP.push B3 hac ?_ hq hpr (Same.refl _) ht
        have h1 := List.length_filter_le (fun k => (valV kvs (kK k)).isSome) kys
        rw [List.length_map] at hi
        have : kys.length = 4 := rfl
        omega
      · obtain ⟨qs, rfl, hqs⟩ := hq
        have e0 : (((kys.filter fun k => (valV kvs (kK k)).isSome).map fun k => V.str (kS k))).length = (prs (fun k => valV kvs (kK k)) kys).length := by
          have := congrArg List.length (prs_keys (fun k => valV kvs (kK k)) kys)
          rw [List.length_map, List.length_map] at this
          rw [List.length_map, this]
        rw [e0, List.take_length] at hqs
        refine ⟨p4, qs.map V.ref, rfl, SqL.of B3.at_, fun l o hl' ho => ?_⟩
        have s8 : Same H2 H5 := (s6.trans s7).trans B3.same
        have s9 := same_new hl' (.frz o (.tup (qs.map V.ref)))
        have hx9 := s9 _ _ (s8 _ _ hx2)
        refine ⟨_, rfl, x, C, dx, _, rfl, hx9, hC, n3, (show 2 < 1000 by decide), ?_⟩
        have xne : ∀ {b : Addr} {o : HO}, H5 b = some o → (∀ C dx fs, o ≠ .ins C dx fs) → b ≠ x := fun e n h => by rw [h, s8 _ _ hx2] at e; exact n _ _ _ (Option.some.inj e).symm
        have xl : l ≠ x := fun h => by rw [h, s8 _ _ hx2] at hl'; cases hl'
        refine q _ w' l (fun b o hb e => by rw [upd_ne hb]; exact s9 _ _ (s8 _ _ (k2 b o hb e))) upd_same ?_ ⟨qs, ⟨o, by rw [upd_ne xl, upd_same], ho⟩, Paired.mapP hqs fun p kv e => ?_⟩
        · cases d with
          | pl y => exact hw2
          | lst ys =>
            obtain ⟨pt, e1, e2, e3⟩ := hw2
            have e4 := s8 _ _ e2
            exact ⟨pt, e1, by rw [upd_ne (xne e4 fun _ _ _ e => nomatch e)]; exact s9 _ _ e4, e3⟩
        · have e4 := same_nw _ _ _ _ e
          show upd _ x _ p = _
          rw [upd_ne (xne e4 fun _ _ _ e => nomatch e)]
          exact s9 _ _ e4
  have hw1 := docAtom_keep hx k1 hw
  refine sSeq (sFldI (xIf (xList rfl hw1 ?_)))
  cases d with
  | pl y =>
    refine ifF rfl ⟨_, rfl, _, rfl, x, C, dx, [("kind", .str kind)], rfl, upd_same, hC, n2, (show 1 < 1000 by decide), ?_⟩
    exact key _ w (fun b o hb e => by rw [upd_ne hb]; exact k1 b o hb e) upd_same hw
  | lst ys =>
    obtain ⟨a, rfl, r, z⟩ := id hw1
    refine ifT rfl ⟨_, rfl, a, _, rfl, .inl ⟨SqL.rd r, fun l hl => ?_⟩⟩
    have xl : l ≠ x := fun h => by rw [h, upd_same] at hl; cases hl
    refine ⟨_, rfl, x, C, dx, [("kind", .str kind)], rfl, by rw [upd_ne (Ne.symm xl)]; exact upd_same, hC, n2, (show 1 < 1000 by decide), ?_⟩
    refine key _ (.ref l) (fun b o hb e => ?_) upd_same ⟨l, rfl, by rw [upd_ne xl]; exact upd_same, z⟩
    rw [upd_ne hb]
    exact same_new hl _ _ _ (k1 b o hb e)
theorem ok_Effect (T : Tx K mg) : C8.Mak P w K mg base 1 "Effect" (He.ga K "Effect") (sp_Effect (K := K)) [] := by
  have sc : FnScope ["self", "kind", "atom", "members", "found", "key", "one"] ["self", "kind", "atom", "members"] (C8.fnScope s_Effect_init) := C8.fnScope_by (by decide +kernel)
  refine T.mak 12 (st := s_Effect_init) rfl (by decide +kernel) T.kEffect sc (fun _ _ _ _ _ _ us hl => match us, hl with | [_, _, _, _], _ => rfl) (fun vs H Q E ⟨_, _, _, _, _, _, _, _, _, h, _⟩ => by rw [h]; rfl) (fun cdv A outer s H vs Q E f hr h => ⟨t_Effect K, ?_, pu_Effect h⟩)
  have hu := hu_of hr
  exact (pss_cons (ps_fld (pv 0) (pv 1) rfl)
    (pss_cons (ps_fld (pv 0) (pe_ifExp (pt_val (pe_callB call_isi rfl T.f_isinstance bt_isinstance (pa_cons (pv 2) (pa_cons (pe_bltn (v := .ty "list") rfl T.f_list bt_list rfl) pa_nil)))) (pe_callTy call_tuple_of rfl T.f_tuple bt_tuple (pa_cons (pv 2) pa_nil)) (pv 2)) rfl)
    (pss_cons (ps_set (i := 4) sc.nd rfl (Or.inr rfl) (pe_callTy (call_dictP rfl) rfl T.f_dict bt_dict (pa_cons (pe_lc (own := [("key", 5), ("one", 6)]) (g := (gTup K 2 (gCons (gName 5) (gCons (gName 6) gNil)))) (tt := tYes) (te := (tTup (tCons (tVar 5) (tCons (tVar 6) tNil)))) rfl sc.nd (pi_list (pv 3)) (blkOk_by (N := ["self", "kind", "atom", "members", "found", "key", "one"]) (sc := C8.fnScope s_Effect_init) (by decide +kernel)) (fun _ _ _ _ _ => (pg_tup rfl (pgs_cons (pg_name (i := 5) sc.nd rfl (Or.inl rfl)) (pgs_cons (pg_name (i := 6) sc.nd rfl (Or.inl rfl)) pgs_nil)))) (fun _ _ _ _ _ => pts_nil) (fun _ _ _ _ _ => (pe_tup (pa_cons (pv 5) (pa_cons (pv 6) pa_nil))))) pa_nil)))
    (pss_one (ps_fld (pv 0) (pe_callTy call_tupleF rfl T.f_tuple bt_tuple (pa_cons (pe_lc (own := [("key", 5)]) (g := (gName 5)) (tt := tYes) (te := (tTup (tCons (tVar 5) (tCons (tDGet (tVar 4) (tVar 5)) tNil)))) rfl sc.nd (pi_list (pe_callB (call_sortedD rfl) rfl T.f_sorted bt_sorted (pa_cons (pv 4) pa_nil))) (blkOk_by (N := ["self", "kind", "atom", "members", "found", "key", "one"]) (sc := C8.fnScope s_Effect_init) (by decide +kernel)) (fun _ _ _ _ _ => (pg_name (i := 5) sc.nd rfl (Or.inl rfl))) (fun _ _ _ _ _ => pts_nil) (fun _ _ _ _ _ => (pe_tup (pa_cons (pv 5) (pa_cons (pe_dget hu (pv 4) (pv 5) (fun _ _ => rfl)) pa_nil))))) pa_nil)) rfl)))))
/-- a new effect -/
theorem mkE (T : Tx K mg) {H1 : Hp} {kind : Str} {w : V} {d : At} {lm : Addr} {ps : List Addr} {kvs : List (L2.Key × V)} {Q : VK} (hw : DocAt H1 (.atom d) w) (hl : H1 lm = some (.lst (ps.map V.ref))) (hp : PairsAt H1 ps kvs) (ok : tabOk kvs)
    (q : ∀ v H', Same H1 H' → InsE (He.ga K "Effect") H' v kind d (fun k => valV kvs (kK k)) → Q v H') :
    ∀ x dx, H1 x = none → H1 dx = none → dx ≠ x → sp_Effect (K := K) (.ref x :: ([.str kind, w, .ref lm] ++ [])) (upd (upd H1 dx (.own x)) x (.ins (He.ga K "Effect") dx [])) (fun v H2 => v = .non ∧ Q (.ref x) H2) C8.E0 := by
  intro x dx hx hdx ne
  have s0 : Same H1 (upd (upd H1 dx (.own x)) x (.ins (He.ga K "Effect") dx [])) := fun b o e => by rw [upd_ne (ne_of_none e hx), upd_ne (ne_of_none e hdx)]; exact e
  refine ⟨x, _, dx, kind, w, d, lm, ps, kvs, rfl, T.cEffect, T.nEffect_kind, T.nEffect_atom, T.nEffect_members, upd_same, hw.mono (Le.of s0), s0 _ _ hl, hp.mono (fun a xs e => s0 _ _ e), ok, fun H' w' tp k e1 e2 e3 => ⟨rfl, ?_⟩⟩
  exact q _ _ (Same.made hx hdx fun b o e hb => k b o hb e) ⟨x, dx, w', tp, rfl, e1, e2, e3⟩
abbrev CE (K : PySem.W.Frag) : Addr := He.ga K "Effect"
end
end Tp
end
section
set_option maxRecDepth 100000
set_option maxHeartbeats 4000000
namespace Tp
open PySem PySem.Spec PyProof.Rows L2
section
variable {P : Program} {w : World} {K : PySem.W.Frag} {mg : Str → Option Value} {base : Heap} {vs : List V} {H : Hp} {Q : VK} {E : XK}
/-! ### keep(), drop() -/
def sp_keep (K : PySem.W.Frag) : Sp := fun vs H Q _ => vs = [] ∧ ∀ v H', Same H H' → EffAt (CE K) H' .keep v → Q v H'
def t_keep (K : PySem.W.Frag) : TS :=
  (tRet (tMake (He.ga K "Effect") (sp_Effect (K := K)) [] C8.E0 (tCons (tC (.str "keep")) (tCons (tC .non) (tCons (tLst tNil) tNil)))))
theorem pu_keep (T : Tx K mg) (h : sp_keep K vs H Q E) : t_keep K { nx := fun _ H' => Q .non H', rt := Q } (L2.start [] vs) H := by
  obtain ⟨rfl, q⟩ := h
  exact sRet ⟨Nat.zero_le _, fun p hp => mkE T (w := .non) (d := non) (ps := []) doc_non upd_same .nil tabOk_nil fun v H' s e => q v H' ((same_new hp _).trans s) e⟩
theorem ok_keep (T : Tx K mg) : C8.Cal P w K mg base 3 "keep" (sp_keep K) [] := by
  have m_Effect := ok_Effect (P := P) (w := w) (base := base) T
  have sc : FnScope [] [] (C8.fnScope s_keep) := C8.fnScope_by (by decide +kernel)
  refine T.cal 19 (st := s_keep) rfl (by decide +kernel) sc (fun _ _ _ _ _ _ us hl => match us, hl with | [], _ => rfl) (fun vs H Q E ⟨h, _⟩ => by rw [h]; rfl) (fun cdv A outer s H vs Q E f hr h => ⟨t_keep K, ?_, pu_keep T h⟩)
  exact (pss_one (ps_ret (C8.pe_mk m_Effect hr (by omega) rfl (pa_cons pe_str (pa_cons pe_non (pa_cons (pe_lst pa_nil) pa_nil))))))
def sp_drop (K : PySem.W.Frag) : Sp := fun vs H Q _ => vs = [] ∧ ∀ v H', Same H H' → EffAt (CE K) H' .drop v → Q v H'
def t_drop (K : PySem.W.Frag) : TS :=
  (tRet (tMake (He.ga K "Effect") (sp_Effect (K := K)) [] C8.E0 (tCons (tC (.str "drop")) (tCons (tC .non) (tCons (tLst tNil) tNil)))))
theorem pu_drop (T : Tx K mg) (h : sp_drop K vs H Q E) : t_drop K { nx := fun _ H' => Q .non H', rt := Q } (L2.start [] vs) H := by
  obtain ⟨rfl, q⟩ := h
  exact sRet ⟨Nat.zero_le _, fun p hp => mkE T (w := .non) (d := non) (ps := []) doc_non upd_same .nil tabOk_nil fun v H' s e => q v H' ((same_new hp _).trans s) e⟩
theorem ok_drop (T : Tx K mg) : C8.Cal P w K mg base 3 "drop" (sp_drop K) [] := by
  have m_Effect := ok_Effect (P := P) (w := w) (base := base) T
  have sc : FnScope [] [] (C8.fnScope s_drop) := C8.fnScope_by (by decide +kernel)
  refine T.cal 20 (st := s_drop) rfl (by decide +kernel) sc (fun _ _ _ _ _ _ us hl => match us, hl with | [], _ => rfl) (fun vs H Q E ⟨h, _⟩ => by rw [h]; rfl) (fun cdv A outer s H vs Q E f hr h => ⟨t_drop K, ?_, pu_drop T h⟩)
  exact (pss_one (ps_ret (C8.pe_mk m_Effect hr (by omega) rfl (pa_cons pe_str (pa_cons pe_non (pa_cons (pe_lst pa_nil) pa_nil))))))
/-! ### of_patch(patch, is_member) -/
def sp_of_patch (K : PySem.W.Frag) (n : Nat) : Sp := fun vs H Q _ => ∃ v b p, vs = [v, .bl b] ∧ DocAt H p v ∧ p.dep < n ∧ ∀ v' H', Same H H' → EffAt (CE K) H' (if b = true then ofM p else ofP p) v' → Q v' H'
def t_of_patch (K : PySem.W.Frag) (n : Nat) : TS :=
  (tSeq (tIfS (tB (tCB (rIsi K) (tCons (tVar 0) (tCons (tC (.ty "dict")) tNil)))) (tRet (tMake (He.ga K "Effect") (sp_Effect (K := K)) [] C8.E0 (tCons (tC (.str "merge")) (tCons (tC .non) (tCons (tLk (tLc (iItems (tVar 0)) (gTup K 2 (gCons (gName 2) (gCons (gName 3) gNil))) tYes (tTup (tCons (tVar 2) (tCons (tCall (sp_of_patch K n) [] C8.E0 (tCons (tVar 3) (tCons (tC (.bl true)) tNil))) tNil))) [2, 3])) tNil))))) tNext)
    (tSeq (tIfS (tAnd (tB (tIsN (tVar 0))) (tB (tVar 1))) (tRet (tCall (sp_drop K) [] C8.E0 tNil)) tNext)
    (tRet (tMake (He.ga K "Effect") (sp_Effect (K := K)) [] C8.E0 (tCons (tC (.str "set")) (tCons (tVar 0) (tCons (tLst tNil) tNil)))))))
theorem pu_of_patch (T : Tx K mg) {n : Nat} (h : sp_of_patch K (n + 1) vs H Q E) : t_of_patch K n { nx := fun _ H' => Q .non H', rt := Q } (L2.start ["patch", "is_member", "key", "member"] vs) H := by
  obtain ⟨v, b, p, rfl, hp, hn, q⟩ := h
  refine sSeq (sIf (xDict rfl hp ?_))
  cases p with
  | abs => exact (show False from hp).elim
  | atom x =>
    refine ifF rfl (sNext ?_)
    have set : ∀ {x : At}, DocAt H (.atom x) v → (if b = true then ofM (.atom x) else ofP (.atom x)) = .set x → (∀ v' H', Same H H' → EffAt (CE K) H' (.set x) v' → Q v' H') → tRet (tMake (He.ga K "Effect") (sp_Effect (K := K)) [] C8.E0 (tCons (tC (.str "set")) (tCons (tVar 0) (tCons (tLst tNil) tNil))))
      ⟨fun _ H' => Q .non H', Q, fun _ _ => False, fun _ _ => False⟩ [some v, some (.bl b), none, none] H := by
      intro x hp e q
      exact sRet ⟨_, rfl, Nat.zero_le _, fun p hp2 => mkE T (w := v) (d := x) (ps := []) (hp.mono (Le.of (same_new hp2 _))) upd_same .nil tabOk_nil fun v H' s e => q v H' ((same_new hp2 _).trans s) e⟩
    refine sSeq (sIf (xAnd ⟨_, rfl, _, rfl, ?_⟩))
    rw [hp.is_non]
    by_cases hx : x = non
    · subst hx
      refine ifT rfl ⟨_, rfl, _, rfl, ?_⟩
      cases b with
      | true => exact ifT rfl (sRet ⟨rfl, fun v' H' s e => q v' H' s e⟩)
      | false => exact ifF rfl (sNext (set hp rfl q))
    · have e : (D.atom x).isNon = false := by
        cases q : (D.atom x).isNon with
        | false => rfl
        | true => exact absurd (D.atom.inj (D.isNon_iff.mp q)) hx
      have e2 : (if b = true then ofM (.atom x) else ofP (.atom x)) = .set x := by
        cases b with
        | true => exact if_neg hx
        | false => rfl
      rw [e2] at q
      exact ifF e (ifF rfl (sNext (set hp e2 q)))
  | obj f =>
    obtain ⟨a, kvs, rfl, r, ok, m⟩ := DocAt.obj_iff.mp hp
    have e2 : (if b = true then ofM (.obj f) else ofP (.obj f)) = .mrg fun k => ofM (f k) := by cases b <;> rfl
    rw [e2] at q
    refine ifT rfl (sRet ?_)
    refine ⟨a, kvs, r, fun Hl od un hl lk => ?_⟩
    have m' := fun k => (m k).mono lk.le
    refine ⟨_, rfl, a, od, kvs, rfl, hl, fun l hl' => ?_⟩
    refine lc_im walk_items hl' (PvI fun i H kvs' => kvs'.map (·.1) = (kvs.map (·.1)).take i ∧ EfsAt (CE K) H (fun k => ofM (f k)) kvs') (fun H5 s => s _ _ hl) ⟨[], [], rfl, .nil, rfl, EfsAt.nil⟩ (fun i x H2 H3 acc hi B hac hq y => ?_) (fun H2 acc B hac hq => ?_)
    · obtain ⟨t, k, u, rfl, ht, rfl, hv, hki⟩ := items_turn ok y
      have s1 := same_new ht (.tup [.str (kS k), u])
      refine gPair upd_same ⟨rfl, _, rfl, _, rfl, u, true, f k, rfl, ((doc_cases m' hv).mono (Le.of B.same)).mono (Le.of s1), D.lt_kid hn k, fun v' H' s e => twoS_and fun t2 ht2 => ?_⟩
      refine pairI (C := CE K) (k := kK k) B hac (by have := ok.len; omega) hq (s1.trans s) ht2 fun kvs' H5 im ⟨h1, h2⟩ => ⟨?_, (h2.mono ((Im.of (s1.trans s)).trans im)).snoc (e.mono im)⟩
      rw [List.map_append, h1, take_more hki] <;> rfl
    · obtain ⟨qs, kvs', rfl, hps, hk, hes⟩ := hq
      rw [List.take_of_length_le (by rw [List.length_map]; exact Nat.le_refl _)] at hk
      have hd := B.same _ _ hl
      have ul := lk.ule (hd.trans hl.symm)
      have ok' : tabOk kvs' := tabOk_keys hk ok
      refine ⟨hd, mkE T (w := .non) (d := non) doc_non (by rw [lk.new hl']; exact B.at_) (hps.mono ul.t) ok' fun v H' s e => q v H' ((lk.same B.same).trans s) (EffAt.mrg_iff.mpr ⟨_, e, fun k => ?_⟩)⟩
      have im : Im (CE K) H2 H' := (Im.le ul).trans (Im.of s)
      have mk := m k
      have hkk := val_keys hk (kK k)
      cases e1 : valV kvs' (kK k) with
      | none =>
        rw [e1] at hkk
        rw [none_of hkk] at mk
        show ofM (f k) = .keep
        rw [show f k = .abs from mk] <;> rfl
      | some u =>
        refine ⟨?_, (hes.val e1).mono im⟩
        rw [e1] at hkk
        obtain ⟨u2, e3⟩ := Option.isSome_iff_exists.mp (show (valV kvs (kK k)).isSome = true from hkk.symm)
        rw [e3] at mk
        exact ofM_ne mk.ne
theorem ok_of_patch (T : Tx K mg) : ∀ n, C8.Cal P w K mg base (n + 4) "of_patch" (sp_of_patch K n) []
  | 0 => T.calF 21 (st := s_of_patch) (ps := ["patch", "is_member"]) rfl (by decide +kernel) (fun _ _ _ _ _ _ us hl => match us, hl with | [_, _], _ => rfl) fun vs H Q E ⟨_, _, _, _, _, h, _⟩ => absurd h (Nat.not_lt_zero _)
  | n + 1 => by
    have c_of_patch := ok_of_patch T n
    have c_drop := ok_drop (P := P) (w := w) (base := base) T
    have m_Effect := ok_Effect (P := P) (w := w) (base := base) T
    have sc : FnScope ["patch", "is_member", "key", "member"] ["patch", "is_member"] (C8.fnScope s_of_patch) := C8.fnScope_by (by decide +kernel)
    refine T.cal 21 (st := s_of_patch) rfl (by decide +kernel) sc (fun _ _ _ _ _ _ us hl => match us, hl with | [_, _], _ => rfl) (fun vs H Q E ⟨_, _, _, h, _⟩ => by rw [h]; rfl) (fun cdv A outer s H vs Q E f hr h => ⟨t_of_patch K n, ?_, pu_of_patch T h⟩)
    have hu := hu_of hr
    exact (pss_cons (ps_if (pt_val (pe_callB call_isi rfl T.f_isinstance bt_isinstance (pa_cons (pv 0) (pa_cons (pe_bltn (v := .ty "dict") rfl T.f_dict bt_dict rfl) pa_nil)))) (pss_one (ps_ret (C8.pe_mk m_Effect hr (by omega) rfl (pa_cons pe_str (pa_cons pe_non (pa_cons (pe_lk (pe_lc (own := [("key", 2), ("member", 3)]) (g := (gTup K 2 (gCons (gName 2) (gCons (gName 3) gNil)))) (tt := tYes) (te := (tTup (tCons (tVar 2) (tCons (tCall (sp_of_patch K n) [] C8.E0 (tCons (tVar 3) (tCons (tC (.bl true)) tNil))) tNil)))) rfl sc.nd (pi_items (pv 0)) (blkOk_by (N := ["patch", "is_member", "key", "member"]) (sc := C8.fnScope s_of_patch) (by decide +kernel)) (fun _ _ _ _ _ => (pg_tup rfl (pgs_cons (pg_name (i := 2) sc.nd rfl (Or.inl rfl)) (pgs_cons (pg_name (i := 3) sc.nd rfl (Or.inl rfl)) pgs_nil)))) (fun _ _ _ _ _ => pts_nil) (fun _ _ _ _ _ => (pe_tup (pa_cons (pv 2) (pa_cons (C8.pe_c c_of_patch hr (by omega) rfl (pa_cons (pv 3) (pa_cons pe_bl pa_nil))) pa_nil)))))) pa_nil)))))) pss_nil)
    (pss_cons (ps_if (PW.pt (pw_and (pt_cmp (pc_isN (pv 0))) (pw_and1 (pt_val (pv 1))))) (pss_one (ps_ret (pe_c0 c_drop hr (by omega) rfl))) pss_nil)
    (pss_one (ps_ret (C8.pe_mk m_Effect hr (by omega) rfl (pa_cons pe_str (pa_cons (pv 0) (pa_cons (pe_lst pa_nil) pa_nil))))))))
end
end Tp
end
section
set_option maxRecDepth 100000
set_option maxHeartbeats 4000000
namespace Tp
open PySem PySem.Spec PyProof.Rows L2
section
variable {P : Program} {w : World} {K : PySem.W.Frag} {mg : Str → Option Value} {base : Heap} {vs : List V} {H : Hp} {Q : VK} {E : XK}
section
variable {σ : L2.St} {i : Nat} {a dx tp : Addr} {kind : Str} {w : V}
theorem fKind (T : Tx K mg) (hs : σ[i]? = some (some (.ref a))) (h : H a = some (.ins (CE K) dx (flds kind w tp))) (q : Q (.str kind) H) : tFld K (tVar i) "kind" σ H Q := ⟨_, hs, a, _, dx, _, _, rfl, h, T.cEffect, T.nEffect_kind, rfl, q⟩
theorem fAtom (T : Tx K mg) (hs : σ[i]? = some (some (.ref a))) (h : H a = some (.ins (CE K) dx (flds kind w tp))) (q : Q w H) : tFld K (tVar i) "atom" σ H Q := ⟨_, hs, a, _, dx, _, _, rfl, h, T.cEffect, T.nEffect_atom, rfl, q⟩
theorem fMem (T : Tx K mg) (hs : σ[i]? = some (some (.ref a))) (h : H a = some (.ins (CE K) dx (flds kind w tp))) (q : Q (.ref tp) H) : tFld K (tVar i) "members" σ H Q := ⟨_, hs, a, _, dx, _, _, rfl, h, T.cEffect, T.nEffect_members, rfl, q⟩
end
/-- a member's turn: the pair, its key, its effect -/
theorem mem_turn {C : Addr} {H : Hp} {e : Tp.E} {g : Ky → Option V} {ps : List Addr} (hp : PairsAt H ps (prs g kys)) (m : ∀ k, MoE C H e.nil (e.kid k) (g k)) {i : Nat} {x : V} (hx : (ps.map V.ref)[i]? = some x) :
    ∃ p k u, x = .ref p ∧ H p = some (.tup [.str (kS k), u]) ∧ (prs g kys)[i]? = some (kK k, u) ∧ g k = some u ∧ EffAt C H (e.kid k) u ∧ e.kid k ≠ e.nil := by
  obtain ⟨p, kv, rfl, hk, hq⟩ := hp.nth hx
  obtain ⟨k, u, rfl, hg, _⟩ := prs_nth hk
  have mk := m k
  rw [hg] at mk
  exact ⟨p, k, u, rfl, hq, hk, hg, mk.2, mk.1⟩
/-! ### facts() -/
def fmem (e : Tp.E) (kv : L2.Key × V) : PyData := if kv.1 = kK .a then .tuple [.str (kS .a), fct (e.kid .a)] else if kv.1 = kK .b then .tuple [.str (kS .b), fct (e.kid .b)] else if kv.1 = kK .c then .tuple [.str (kS .c), fct (e.kid .c)] else .tuple [.str (kS .z), fct (e.kid .z)]
theorem fmem_at (e : Tp.E) (k : Ky) (u : V) : fmem e (kK k, u) = .tuple [.str (kS k), fct (e.kid k)] := by
  unfold fmem
  cases k
  · rw [if_pos rfl]
  · rw [if_neg (show ¬ (kK .b = kK .a) by decide), if_pos rfl]
  · rw [if_neg (show ¬ (kK .c = kK .a) by decide), if_neg (show ¬ (kK .c = kK .b) by decide), if_pos rfl]
  · rw [if_neg (show ¬ (kK .z = kK .a) by decide), if_neg (show ¬ (kK .z = kK .b) by decide), if_neg (show ¬ (kK .z = kK .c) by decide)]
theorem fmem_all {C : Addr} {H : Hp} {e : Tp.E} {g : Ky → Option V} (m : ∀ k, MoE C H e.nil (e.kid k) (g k)) :
    fct e = .tuple [.str e.kind, e.atm.d, .tuple ((prs g kys).map (fmem e))] := by
  have key : ∀ (p : Ky → Bool), (∀ k, p k = !(g k).isSome) → ∀ ks : List Ky, (ks.flatMap fun k => if p k = true then [] else [.tuple [.str (kS k), fct (e.kid k)]]) = (prs g ks).map (fmem e) := by
    intro p hp ks
    induction ks with
    | nil => rfl
    | cons k r ih =>
      rw [List.flatMap_cons, ih, hp k]
      unfold prs
      rw [List.filterMap_cons]
      cases eg : g k with
      | none => rfl
      | some u =>
        show [PyData.tuple [.str (kS k), fct (e.kid k)]] ++ _ = fmem e (kK k, u) :: _
        rw [fmem_at] <;> rfl
  have emp : (∀ k, e.kid k = e.nil) → prs g kys = [] := by
    intro h
    have : ∀ k, g k = none := fun k => by
      have := m k
      cases eg : g k with
      | none => rfl
      | some u => rw [eg] at this; exact absurd (h k) this.1
    unfold prs kys
    simp [this]
  cases e with
  | keep => rw [emp fun _ => rfl] <;> rfl
  | drop => rw [emp fun _ => rfl] <;> rfl
  | set x => rw [emp fun _ => rfl] <;> rfl
  | mrg f =>
    show PyData.tuple [.str "merge", .none, .tuple (kys.flatMap fun k => if (f k).isKeep = true then [] else [.tuple [.str (kS k), fct (f k)]])] = _
    rw [← key (fun k => (f k).isKeep) (fun k => ?_) kys]
    · rfl
    · have := m k
      cases eg : g k with
      | none => rw [eg] at this; rw [show f k = .keep from this] <;> rfl
      | some u =>
        rw [eg] at this
        cases q : (f k).isKeep with
        | true => exact absurd (E.isKeep_iff.mp q) this.1
        | false => rfl
  | bld f =>
    show PyData.tuple [.str "build", .none, .tuple (kys.flatMap fun k => if (f k).isDrop = true then [] else [.tuple [.str (kS k), fct (f k)]])] = _
    rw [← key (fun k => (f k).isDrop) (fun k => ?_) kys]
    · rfl
    · have := m k
      cases eg : g k with
      | none => rw [eg] at this; rw [show f k = .drop from this] <;> rfl
      | some u =>
        rw [eg] at this
        cases q : (f k).isDrop with
        | true => exact absurd (E.isDrop_iff.mp q) this.1
        | false => rfl
theorem noLs_fmem (e : Tp.E) (g : Ky → Option V) (i : Nat) : noLs (((prs g kys).take i).map (fmem e)) = true := by
  have : ∀ l : List (L2.Key × V), noLs (l.map (fmem e)) = true := by
    intro l
    induction l with
    | nil => rfl
    | cons x r ih =>
      have h1 : ∀ e : Tp.E, noL (fct e) = true := fun e => (shp_fct e _ (Nat.le_refl _)).l
      have h2 : noL (fmem e x) = true := by
        unfold fmem
        split <;> (try split) <;> (try split) <;> simp [noL, noLs, h1]
      show (noL (fmem e x) && noLs (r.map (fmem e))) = true
      rw [h2, ih] <;> rfl
  exact this _
theorem prs_len (g : Ky → Option V) : (prs g kys).length ≤ 4 := (prs_ok g).len
def sp_facts (K : PySem.W.Frag) (n : Nat) : Sp := fun vs H Q _ => ∃ v e, vs = [v] ∧ EffAt (CE K) H e v ∧ e.dep < n ∧ ∀ v' H', Same H H' → Dp K H' v' (fct e) → Q v' H'
def t_facts (K : PySem.W.Frag) (n : Nat) : TS :=
  (tRet (tTup (tCons (tFld K (tVar 0) "kind") (tCons (tFld K (tVar 0) "atom") (tCons (tCB (rTupleOf K) (tCons (tLc (iTup K (tFld K (tVar 0) "members")) (gTup K 2 (gCons (gName 1) (gCons (gName 2) gNil))) tYes (tTup (tCons (tVar 1) (tCons (tMeth (He.ga K "Effect") "facts" (sp_facts K n) [] C8.E0 (tVar 2) tNil) tNil))) [1, 2]) tNil)) tNil)))))
theorem pu_facts (T : Tx K mg) {n : Nat} (h : sp_facts K (n + 1) vs H Q E) : t_facts K n { nx := fun _ H' => Q .non H', rt := Q } (L2.start ["self", "key", "one"] vs) H := by
  obtain ⟨v, e, rfl, he, hn, q⟩ := h
  obtain ⟨a, dx, w, tp, ps, g, rfl, hi, ha, ht, hp, m⟩ := he.dec
  refine sRet (aCons (fKind T rfl hi (aCons (fAtom T rfl hi (aCons (xCB (aCons (xLc (iT (fMem T rfl hi ?_)))))))))) 
  refine ⟨tp, rfl, ⟨_, ht.seq⟩, fun p hpn => ?_⟩
  refine lc_im (walk_tup (xs := ps.map V.ref)) hpn (fun i H acc => DpAll K H acc (((prs g kys).take i).map (fmem e))) (fun H5 s => SqT.im (Im.of (C := CE K) s) ht.seq) .nil (fun i x H2 H3 acc hlt B hac hq y => ?_) (fun H2 acc B hac hq => ?_)
  · obtain ⟨rfl, hx⟩ := y
    obtain ⟨p1, k, u, rfl, hp1, hk, hg, hu, hne⟩ := mem_turn hp m hx
    refine gPair (B.same _ _ hp1) ⟨rfl, _, rfl, _, rfl, ?_⟩
    obtain ⟨au, dxu, wu, tpu, psu, gu, eu, hiu, _⟩ := hu.dec
    subst eu
    refine ⟨au, dxu, _, rfl, B.same _ _ hiu, rfl, _, _, rfl, hu.mono (Im.of B.same), ?_, fun v' H' s hd => twoS_and fun t htn => ?_⟩
    · exact kid_lt hn (m k) hg
    · have s1 := same_new htn (.tup [.str (kS k), v'])
      have hps := (s.trans s1) _ _ B.at_
      have im : Im (CE K) (upd H' t (.tup [.str (kS k), v'])) (upd (upd H' t (.tup [.str (kS k), v'])) p (.lst (acc ++ [.ref t]))) := Im.lst hps
      refine pushI B hac (by rw [List.length_map, hp.len] at hlt; have := prs_len g; omega) (s.trans s1) ?_
      rw [take_more hk, List.map_append]
      refine dpAll_snoc (Dp.ims ((Im.of (s.trans s1)).trans im) _ _ (noLs_fmem e g i) hq) ?_
      show Dp K _ (.ref t) (fmem e (kK k, _))
      rw [fmem_at]
      exact .tup (SqT.of (im.t _ _ upd_same)) (.cons (.str _) (.cons (Dp.im ((Im.of s1).trans im) _ _ (shp_fct _ _ (Nat.le_refl _)).l hd) .nil))
  · have el : (prs g kys).take (ps.map V.ref).length = prs g kys := List.take_of_length_le (by rw [List.length_map, hp.len]; exact Nat.le_refl _)
    rw [el] at hq
    refine ⟨p, acc, rfl, .inl ⟨SqL.of B.at_, fun l hl => ?_⟩⟩
    refine ⟨szO (show 3 ≤ 100000 by decide), fun r hr => ?_⟩
    have s1 := same_new hl (.tup acc)
    have s2 := same_new hr (.tup [.str e.kind, w, .ref l])
    refine q _ _ ((B.same.trans s1).trans s2) ?_
    rw [fmem_all m]
    refine .tup (SqT.of upd_same) (.cons (.str _) (.cons (dp_out (ha.mono (Im.of (C := CE K) ((B.same.trans s1).trans s2)))) (.cons (.tup (SqT.of (s2 _ _ upd_same)) (Dp.ims (Im.of (C := CE K) (s1.trans s2)) _ _ ?_ hq)) .nil)))
    have := noLs_fmem e g (prs g kys).length
    rw [List.take_length] at this
    exact this
theorem ok_facts (T : Tx K mg) : ∀ n, C8.Met P w K mg base n (CE K) "facts" (sp_facts K n) []
  | 0 => T.metF 13 (st := s_Effect_facts) (ps := ["self"]) rfl T.cEffect T.mEffect_facts (fun _ _ _ _ _ _ us hl => match us, hl with | [_], _ => rfl) fun vs H Q E ⟨_, _, _, _, h, _⟩ => absurd h (Nat.not_lt_zero _)
  | n + 1 => by
    have c_facts := ok_facts T n
    have sc : FnScope ["self", "key", "one"] ["self"] (C8.fnScope s_Effect_facts) := C8.fnScope_by (by decide +kernel)
    refine T.met 13 (st := s_Effect_facts) rfl T.cEffect T.mEffect_facts sc (fun _ _ _ _ _ _ us hl => match us, hl with | [_], _ => rfl) (fun vs H Q E ⟨_, _, h, _⟩ => by rw [h]; rfl) (fun cdv A outer s H vs Q E f hr h => ⟨t_facts K n, ?_, pu_facts T h⟩)
    exact (pss_one (ps_ret (pe_tup (pa_cons (pe_fld (pv 0) rfl) (pa_cons (pe_fld (pv 0) rfl) (pa_cons (pe_callTy call_tuple_of rfl T.f_tuple bt_tuple (pa_cons (pe_lc (own := [("key", 1), ("one", 2)]) (g := (gTup K 2 (gCons (gName 1) (gCons (gName 2) gNil)))) (tt := tYes) (te := (tTup (tCons (tVar 1) (tCons (tMeth (He.ga K "Effect") "facts" (sp_facts K n) [] C8.E0 (tVar 2) tNil) tNil)))) rfl sc.nd (pi_tup (pe_fld (pv 0) rfl)) (blkOk_by (N := ["self", "key", "one"]) (sc := C8.fnScope s_Effect_facts) (by decide +kernel)) (fun _ _ _ _ _ => (pg_tup rfl (pgs_cons (pg_name (i := 1) sc.nd rfl (Or.inl rfl)) (pgs_cons (pg_name (i := 2) sc.nd rfl (Or.inl rfl)) pgs_nil)))) (fun _ _ _ _ _ => pts_nil) (fun _ _ _ _ _ => (pe_tup (pa_cons (pv 1) (pa_cons (C8.pe_mt0 c_facts hr (by omega) (pv 2)) pa_nil))))) pa_nil)) pa_nil))))))
/-! ### one == other, where it is so -/
def REff (K : PySem.W.Frag) (a b : Addr) (H : Hp) : Prop := ∃ e : Tp.E, e.dep < 20 ∧ EffAt (CE K) H e (.ref a) ∧ EffAt (CE K) H e (.ref b)
theorem EffAt.tyX (T : Tx K mg) {e : Tp.E} {a : Addr} (h : EffAt (CE K) H e (.ref a)) : TyX K H (.ref a) (.ref (CE K)) := by
  obtain ⟨b, dx, w, tp, ps, g, eb, hi, _⟩ := h.dec
  cases eb
  exact .base (.ins hi T.cEffect T.xEffect.ha T.xEffect.hn T.xEffect.htk T.xEffect.hm)
def t_eq (K : PySem.W.Frag) : TS :=
  (tRet (tAndV (tCB (rIsi K) (tCons (tVar 1) (tCons (tC (.ref (He.ga K "Effect"))) tNil))) (tOp (rEqD K) (tMeth (He.ga K "Effect") "facts" (sp_facts K 20) [] C8.E0 (tVar 0) tNil) (tMeth (He.ga K "Effect") "facts" (sp_facts K 20) [] C8.E0 (tVar 1) tNil))))
theorem pu_eq (T : Tx K mg) (h : spEq (REff K) vs H Q E) : t_eq K { nx := fun _ H' => Q .non H', rt := Q } (L2.start ["self", "other"] vs) H := by
  obtain ⟨a, b, rfl, ⟨e, hn, ha, hb⟩, q⟩ := h
  obtain ⟨a1, dx, w, tp, ps, g, e1, hi, _⟩ := ha.dec
  obtain ⟨b1, dx2, w2, tp2, ps2, g2, e2, hi2, _⟩ := hb.dec
  cases e1
  cases e2
  refine sRet ⟨_, rfl, .ref b, .ref (CE K), _, _, true, rfl, .own _, EffAt.tyX T hb, T.xEffect.me, true, rfl, ifT rfl ?_⟩
  refine ⟨_, rfl, a, dx, _, rfl, hi, rfl, _, e, rfl, ha, hn, fun v1 H1 s1 d1 => ?_⟩
  refine ⟨_, rfl, b, dx2, _, rfl, s1 _ _ hi2, rfl, _, e, rfl, hb.mono (Im.of s1), hn, fun v2 H2 s2 d2 => ?_⟩
  have sh := shaped_fct (e := e) (by omega)
  refine ⟨fct e, fct e, Dp.im (Im.of (C := CE K) s2) _ _ (shp_fct e _ (Nat.le_refl _)).l d1, d2, sh, sh, ?_⟩
  rw [fct_dec, decide_eq_true rfl]
  exact q _ (s1.trans s2)
theorem ok_eq (T : Tx K mg) : C8.Met P w K mg base 21 (CE K) "__eq__" (spEq (REff K)) [] := by
  have c_facts := ok_facts (P := P) (w := w) (base := base) T 20
  have sc : FnScope ["self", "other"] ["self", "other"] (C8.fnScope s_Effect_eq) := C8.fnScope_by (by decide +kernel)
  refine T.met 14 (st := s_Effect_eq) rfl T.cEffect T.mEffect_eq sc (fun _ _ _ _ _ _ us hl => match us, hl with | [_, _], _ => rfl) (fun vs H Q E ⟨_, _, h, _⟩ => by rw [h]; rfl) (fun cdv A outer s H vs Q E f hr h => ⟨t_eq K, ?_, pu_eq T h⟩)
  have hu := hu_of hr
  exact (pss_one (ps_ret (pe_and (pe_callB call_isi rfl T.f_isinstance bt_isinstance (pa_cons (pv 1) (pa_cons (pe_glob (v := .ref (He.ga K "Effect")) rfl T.g_Effect rfl) pa_nil))) (pe_one (pe_cmpR (op_eqD hr.units) (C8.pe_mt0 c_facts hr (by omega) (pv 0)) (C8.pe_mt0 c_facts hr (by omega) (pv 1)) (nomark _))))))
/-! ### by_key() -/
def sp_by_key (K : PySem.W.Frag) : Sp := fun vs H Q _ => ∃ v e, vs = [v] ∧ EffAt (CE K) H e v ∧ ∀ g p, H p = none → (∀ k, MoE (CE K) H e.nil (e.kid k) (g k)) → Q (.ref p) (upd H p (.dK (prs g kys)))
def t_by_key (K : PySem.W.Frag) : TS :=
  (tRet (tCB (rDictF K) (tCons (tFld K (tVar 0) "members") tNil)))
theorem pu_by_key (T : Tx K mg) (h : sp_by_key K vs H Q E) : t_by_key K { nx := fun _ H' => Q .non H', rt := Q } (L2.start ["self"] vs) H := by
  obtain ⟨v, e, rfl, he, q⟩ := h
  obtain ⟨a, dx, w, tp, ps, g, rfl, hi, ha, ht, hp, m⟩ := he.dec
  refine sRet (xCB (aCons (fMem T rfl hi ⟨tp, ps, prs g kys, rfl, ht, hp.seqT, fun p hpn => ?_⟩)))
  rw [(prs_ok g).merge]
  exact q g p hpn m
theorem ok_by_key (T : Tx K mg) : C8.Met P w K mg base 1 (CE K) "by_key" (sp_by_key K) [] := by
  have sc : FnScope ["self"] ["self"] (C8.fnScope s_Effect_by_key) := C8.fnScope_by (by decide +kernel)
  refine T.met 17 (st := s_Effect_by_key) rfl T.cEffect T.mEffect_by_key sc (fun _ _ _ _ _ _ us hl => match us, hl with | [_], _ => rfl) (fun vs H Q E ⟨_, _, h, _⟩ => by rw [h]; rfl) (fun cdv A outer s H vs Q E f hr h => ⟨t_by_key K, ?_, pu_by_key T h⟩)
  have hu := hu_of hr
  exact (pss_one (ps_ret (pe_callTy (call_dictF rfl) rfl T.f_dict bt_dict (pa_cons (pe_fld (pv 0) rfl) pa_nil))))
/-! ### builds() -/
def sp_builds (K : PySem.W.Frag) (n : Nat) : Sp := fun vs H Q _ => ∃ v e, vs = [v] ∧ EffAt (CE K) H e v ∧ e.dep < n ∧ ∀ H', Same H H' → Q (.bl (bs e)) H'
def t_builds (K : PySem.W.Frag) (n : Nat) : TS :=
  (tRet (tOrV (tOp rEq (tFld K (tVar 0) "kind") (tC (.str "build"))) (tCB (rAny K) (tCons (tLc (iTup K (tFld K (tVar 0) "members")) (gTup K 2 (gCons (gName 1) (gCons (gName 2) gNil))) tYes (tMeth (He.ga K "Effect") "builds" (sp_builds K n) [] C8.E0 (tVar 2) tNil) [1, 2]) tNil))))
def bsK (e : Tp.E) (x : L2.Key) : Bool := if x = kK .a then bs (e.kid .a) else if x = kK .b then bs (e.kid .b) else if x = kK .c then bs (e.kid .c) else bs (e.kid .z)
theorem bsK_at (e : Tp.E) (k : Ky) : bsK e (kK k) = bs (e.kid k) := by
  unfold bsK
  cases k
  · rw [if_pos rfl]
  · rw [if_neg (show ¬ (kK .b = kK .a) by decide), if_pos rfl]
  · rw [if_neg (show ¬ (kK .c = kK .a) by decide), if_neg (show ¬ (kK .c = kK .b) by decide), if_pos rfl]
  · rw [if_neg (show ¬ (kK .z = kK .a) by decide), if_neg (show ¬ (kK .z = kK .b) by decide), if_neg (show ¬ (kK .z = kK .c) by decide)]
theorem bs_any {C : Addr} {e : Tp.E} {g : Ky → Option V} (hb : e.isBld = false) (m : ∀ k, MoE C H e.nil (e.kid k) (g k)) : ((prs g kys).map fun kv => bsK e kv.1).any id = bs e := by
  have all : (∀ k, g k = none → bs (e.kid k) = false) → (((prs g kys).map fun kv => bsK e kv.1).any id = true ↔ ∃ k, bs (e.kid k) = true) := by
    intro hn
    rw [List.any_eq_true]
    constructor
    · rintro ⟨b, hm, hb⟩
      obtain ⟨kv, h1, rfl⟩ := List.mem_map.mp hm
      obtain ⟨k, e1⟩ := (prs_ok g).2 kv h1
      refine ⟨k, ?_⟩
      rw [← bsK_at, ← e1]
      exact hb
    · rintro ⟨k, hk⟩
      cases eg : g k with
      | none => rw [hn k eg] at hk; cases hk
      | some u =>
        obtain ⟨i, hi⟩ := prs_of eg
        refine ⟨_, List.mem_map.mpr ⟨(kK k, u), List.mem_of_getElem? hi, rfl⟩, ?_⟩
        show bsK e (kK k) = true
        rw [bsK_at]
        exact hk
  have hn : ∀ k, g k = none → bs (e.kid k) = false := fun k eg => by
    have := m k
    rw [eg] at this
    rw [show e.kid k = e.nil from this]
    cases e <;> rfl
  have h2 : bs e = true ↔ ∃ k, bs (e.kid k) = true := by
    cases e with
    | bld f => cases hb
    | mrg f => exact any4_iff
    | _ => exact ⟨fun h => (by cases h), fun ⟨k, h⟩ => (by cases h)⟩
  have := (all hn).trans h2.symm
  cases x : ((prs g kys).map fun kv => bsK e kv.1).any id <;> cases y : bs e <;> simp_all
theorem pu_builds (T : Tx K mg) {n : Nat} (h : sp_builds K (n + 1) vs H Q E) : t_builds K n { nx := fun _ H' => Q .non H', rt := Q } (L2.start ["self", "key", "one"] vs) H := by
  obtain ⟨v, e, rfl, he, hn, q⟩ := h
  obtain ⟨a, dx, w, tp, ps, g, rfl, hi, ha, ht, hp, m⟩ := he.dec
  refine sRet (xOrV (xOp (fKind T rfl hi ⟨rfl, _, rfl, ?_⟩)))
  cases hb : e.isBld with
  | true =>
    cases e with
    | bld f => exact ifT rfl (q _ (Same.refl H))
    | _ => cases hb
  | false =>
    refine ifF ?_ (xCB (aCons (xLc (iT (fMem T rfl hi ⟨tp, rfl, ⟨_, ht.seq⟩, fun p hpn => ?_⟩)))))
    · cases e with
      | bld f => cases hb
      | keep => exact decide_eq_false (by decide)
      | drop => exact decide_eq_false (by decide)
      | set x => exact decide_eq_false (show ¬ (V.str "set" = V.str "build") by decide)
      | mrg f => exact decide_eq_false (show ¬ (V.str "merge" = V.str "build") by decide)
    · refine lc_im (walk_tup (xs := ps.map V.ref)) hpn (fun i H acc => acc = ((prs g kys).take i).map fun kv => .bl (bsK e kv.1)) (fun H5 s => SqT.im (Im.of (C := CE K) s) ht.seq) rfl (fun i x H2 H3 acc hlt B hac hq y => ?_) (fun H2 acc B hac hq => ?_)
      · obtain ⟨rfl, hx⟩ := y
        obtain ⟨p1, k, u, rfl, hp1, hk, hg, hu, hne⟩ := mem_turn hp m hx
        refine gPair (B.same _ _ hp1) ⟨rfl, _, rfl, ?_⟩
        obtain ⟨au, dxu, wu, tpu, psu, gu, eu, hiu, _⟩ := hu.dec
        subst eu
        refine ⟨au, dxu, _, rfl, B.same _ _ hiu, rfl, _, _, rfl, hu.mono (Im.of B.same), kid_lt hn (m k) hg, fun H' s => ?_⟩
        refine pushI B hac (by rw [List.length_map, hp.len] at hlt; have := prs_len g; omega) s ?_
        rw [take_more hk, List.map_append, hq]
        show _ = _ ++ [V.bl (bsK e (kK k))]
        rw [bsK_at]
      · have el : (prs g kys).take (ps.map V.ref).length = prs g kys := List.take_of_length_le (by rw [List.length_map, hp.len]; exact Nat.le_refl _)
        rw [el] at hq
        subst hq
        refine ⟨p, (prs g kys).map fun kv => bsK e kv.1, rfl, SqL.of (by rw [B.at_, List.map_map] <;> rfl), ?_⟩
        rw [bs_any hb m]
        exact q _ B.same
theorem ok_builds (T : Tx K mg) : ∀ n, C8.Met P w K mg base n (CE K) "builds" (sp_builds K n) []
  | 0 => T.metF 18 (st := s_Effect_builds) (ps := ["self"]) rfl T.cEffect T.mEffect_builds (fun _ _ _ _ _ _ us hl => match us, hl with | [_], _ => rfl) fun vs H Q E ⟨_, _, _, _, h, _⟩ => absurd h (Nat.not_lt_zero _)
  | n + 1 => by
    have c_builds := ok_builds T n
    have sc : FnScope ["self", "key", "one"] ["self"] (C8.fnScope s_Effect_builds) := C8.fnScope_by (by decide +kernel)
    refine T.met 18 (st := s_Effect_builds) rfl T.cEffect T.mEffect_builds sc (fun _ _ _ _ _ _ us hl => match us, hl with | [_], _ => rfl) (fun vs H Q E ⟨_, _, h, _⟩ => by rw [h]; rfl) (fun cdv A outer s H vs Q E f hr h => ⟨t_builds K n, ?_, pu_builds T h⟩)
    exact (pss_one (ps_ret (pe_or (pe_cmpR op_eq (pe_fld (pv 0) rfl) pe_str (nomark _)) (pe_one (pe_callB (cr_any rfl) rfl T.f_any bt_any (pa_cons (pe_lc (own := [("key", 1), ("one", 2)]) (g := (gTup K 2 (gCons (gName 1) (gCons (gName 2) gNil)))) (tt := tYes) (te := (tMeth (He.ga K "Effect") "builds" (sp_builds K n) [] C8.E0 (tVar 2) tNil)) rfl sc.nd (pi_tup (pe_fld (pv 0) rfl)) (blkOk_by (N := ["self", "key", "one"]) (sc := C8.fnScope s_Effect_builds) (by decide +kernel)) (fun _ _ _ _ _ => (pg_tup rfl (pgs_cons (pg_name (i := 1) sc.nd rfl (Or.inl rfl)) (pgs_cons (pg_name (i := 2) sc.nd rfl (Or.inl rfl)) pgs_nil)))) (fun _ _ _ _ _ => pts_nil) (fun _ _ _ _ _ => (C8.pe_mt0 c_builds hr (by omega) (pv 2)))) pa_nil))))))
end
end Tp
end
section
set_option maxRecDepth 100000
set_option maxHeartbeats 4000000
namespace Tp
open PySem PySem.Spec PyProof.Rows L2
section
variable {P : Program} {w : World} {K : PySem.W.Frag} {mg : Str → Option Value} {base : Heap} {vs : List V} {H : Hp} {Q : VK} {E : XK}
section
variable {σ : L2.St} {i : Nat} {a dx tp : Addr} {kind z : Str} {w : V} {QT : Bool → Hp → Prop} {b : Bool}
/-- o.kind == z, o.kind != z, o.kind in (y, z) -/
theorem qEq (T : Tx K mg) (hs : σ[i]? = some (some (.ref a))) (h : H a = some (.ins (CE K) dx (flds kind w tp))) (e : decide (V.str kind = V.str z) = b) (q : QT b H) : tTest (tOp rEq (tFld K (tVar i) "kind") (tC (.str z))) σ H QT :=
  xTest (xOp (fKind T hs h ⟨rfl, _, rfl, by rw [e]; exact q⟩))
theorem qNe (T : Tx K mg) (hs : σ[i]? = some (some (.ref a))) (h : H a = some (.ins (CE K) dx (flds kind w tp))) (e : decide (V.str kind = V.str z) = b) (q : QT (!b) H) : tTest (tOp rNe (tFld K (tVar i) "kind") (tC (.str z))) σ H QT :=
  xTest (xOp (fKind T hs h ⟨rfl, _, rfl, by rw [e]; exact q⟩))
theorem qIn (T : Tx K mg) {y : Str} (hs : σ[i]? = some (some (.ref a))) (h : H a = some (.ins (CE K) dx (flds kind w tp))) (e : inV (V.str kind) [.str y, .str z] = b) (q : ∀ H', Same H H' → QT b H') :
    tTest (tOp (rIn K false) (tFld K (tVar i) "kind") (tTup (tCons (tC (.str y)) (tCons (tC (.str z)) tNil)))) σ H QT :=
  xTest (xOp (fKind T hs h ⟨twoS, fun p hp => ⟨p, _, rfl, .inr (SqT.of upd_same), rfl, rfl, _, rfl, by
    rw [if_neg Bool.false_ne_true, e]
    exact q _ (same_new hp _)⟩⟩))
end
theorem EffAt.same {H H' : Hp} {C : Addr} {e : Tp.E} {v : V} (h : EffAt C H e v) (s : Same H H') : EffAt C H' e v := h.mono (Im.of s)
/-! ### built(one) -/
def sp_built (K : PySem.W.Frag) (n : Nat) : Sp := fun vs H Q _ => ∃ v e, vs = [v] ∧ EffAt (CE K) H e v ∧ e.dep < n ∧ ∀ v' H', Same H H' → (if (blt e).isDrop = true then v' = .non else EffAt (CE K) H' (blt e) v') → Q v' H'
def t_built (K : PySem.W.Frag) (n : Nat) : TS :=
  (tSeq (tIfS (tTest (tOp (rIn K false) (tFld K (tVar 0) "kind") (tTup (tCons (tC (.str "keep")) (tCons (tC (.str "drop")) tNil))))) (tRet (tC .non)) tNext)
    (tSeq (tIfS (tTest (tOp rNe (tFld K (tVar 0) "kind") (tC (.str "merge")))) (tRet (tVar 0)) tNext)
    (tSeq (tAsg (tLc (iTup K (tFld K (tVar 0) "members")) (gTup K 2 (gCons (gName 2) (gCons (gName 3) gNil))) tYes (tTup (tCons (tVar 2) (tCons (tCall (sp_built K n) [] C8.E0 (tCons (tVar 3) tNil)) tNil))) [2, 3]) (gName 1))
    (tRet (tMake (He.ga K "Effect") (sp_Effect (K := K)) [] C8.E0 (tCons (tC (.str "build")) (tCons (tC .non) (tCons (tLc (iList K (tVar 1)) (gTup K 2 (gCons (gName 2) (gCons (gName 3) gNil))) (tB (tNotN (tVar 3))) (tTup (tCons (tVar 2) (tCons (tVar 3) tNil))) [2, 3]) tNil))))))))
/-- what built makes of a member -/
def BuAt (C : Addr) (H : Hp) (e : Tp.E) (v : V) : Prop := if (blt e).isDrop = true then v = .non else EffAt C H (blt e) v
theorem BuAt.mono {H H' : Hp} {C : Addr} {e : Tp.E} {v : V} (im : Im C H H') (h : BuAt C H e v) : BuAt C H' e v := by
  unfold BuAt at h ⊢
  split
  · rename_i q; rw [if_pos q] at h; exact h
  · rename_i q; rw [if_neg q] at h; exact h.mono im
theorem pu_built (T : Tx K mg) {n : Nat} (h : sp_built K (n + 1) vs H Q E) : t_built K n { nx := fun _ H' => Q .non H', rt := Q } (L2.start ["one", "members", "key", "member"] vs) H := by
  obtain ⟨v, e, rfl, he, hn, q⟩ := h
  obtain ⟨a, dx, w, tp, ps, g, rfl, hi, ha, ht, hp, m⟩ := he.dec
  refine sSeq (sIf (qIn T rfl hi (k_in_kd e) fun H1 s1 => ?_))
  cases hkd : (e.isKeep || e.isDrop) with
  | true =>
    refine ifT rfl (sRet (q _ _ s1 ?_))
    cases e with
    | keep => exact ifT rfl rfl
    | drop => exact ifT rfl rfl
    | set x => cases hkd
    | mrg f => cases hkd
    | bld f => cases hkd
  | false =>
    refine ifF rfl (sNext (sSeq (sIf (qNe T rfl (s1 _ _ hi) (k_mrg e) ?_))))
    cases hm : e.isMrg with
    | false =>
      refine ifT rfl (sRet ⟨_, rfl, q _ _ s1 ?_⟩)
      cases e with
      | keep => cases hkd
      | drop => cases hkd
      | set x => exact ifF rfl (he.same s1)
      | mrg f => cases hm
      | bld f => exact ifF rfl (he.same s1)
    | true =>
      cases e with
      | mrg f =>
        refine ifF rfl (sNext (sSeq (sAsg (xLc (iT (fMem T rfl (s1 _ _ hi) ⟨tp, rfl, ⟨_, (TupF.seq (Le.tf (Le.of s1) ht))⟩, fun p hpn => ?_⟩))))))
        have ht1 : SqT K H1 tp (ps.map V.ref) := (Le.tf (Le.of s1) ht).seq
        have hp1 := hp.mono (fun a xs e => s1 _ _ e)
        have m1 := fun k => (m k).mono (Im.of s1)
        refine lc_im (walk_tup (xs := ps.map V.ref)) hpn (PvI fun i H kvs => kvs.map (·.1) = ((prs g kys).map (·.1)).take i ∧ ∀ kv ∈ kvs, ∃ k, kv.1 = kK k ∧ BuAt (CE K) H (f k) kv.2) (fun H5 s => SqT.im (Im.of (C := CE K) s) ht1) ⟨[], [], rfl, .nil, rfl, fun _ h => nomatch h⟩ (fun i x H2 H3 acc hlt B hac hq y => ?_) (fun H2 acc B hac hq => ?_)
        · obtain ⟨rfl, hx⟩ := y
          obtain ⟨p1, k, u, rfl, hpp, hk, hg, hu, hne⟩ := mem_turn hp1 m1 hx
          refine gPair (B.same _ _ hpp) ⟨rfl, _, rfl, _, rfl, u, f k, rfl, hu.mono (Im.of B.same), kid_lt hn (m k) hg, fun v' H' s hb => twoS_and fun t htn => ?_⟩
          refine pairI (C := CE K) (k := kK k) B hac (by rw [List.length_map, hp.len] at hlt; have := prs_len g; omega) hq s htn fun kvs H5 im ⟨h1, h2⟩ => ⟨?_, fun kv hkv => ?_⟩
          · have hk2 : ((prs g kys).map (·.1))[i]? = some (kK k) := by rw [List.getElem?_map, hk] <;> rfl
            rw [List.map_append, h1, take_more hk2] <;> rfl
          · rcases List.mem_append.mp hkv with h3 | h3
            · obtain ⟨j, e1, e2⟩ := h2 kv h3
              exact ⟨j, e1, e2.mono ((Im.of s).trans im)⟩
            · rw [List.mem_singleton.mp h3]
              exact ⟨k, rfl, BuAt.mono im hb⟩
        · obtain ⟨qs, kvs, rfl, hqs, hkeys, hall⟩ := hq
          rw [List.take_of_length_le (by rw [List.length_map, List.length_map, hp.len]; exact Nat.le_refl _)] at hkeys
          -- the second list
          refine sRet (aCons (xC (aCons (xC (aCons (xLc (iL ⟨_, rfl, p, rfl, ⟨_, SqL.of B.at_⟩, fun p2 hp2 => ?_⟩)))))))
          refine lc_im (walk_list (xs := qs.map V.ref)) hp2 (PvI (RFil kvs fun kv => decide (kv.2 ≠ .non))) (fun H5 s => s.seq (SqL.of B.at_)) ⟨[], [], rfl, .nil, RFil.zero⟩ (fun i x H4 H5 acc hlt B2 hac hq y => ?_) (fun H4 acc B2 hac hq => ?_)
          · obtain ⟨rfl, hx⟩ := y
            obtain ⟨p1, kv, rfl, hkv, hpp⟩ := hqs.nth hx
            have hlen : i < 1000 := by
              rw [List.length_map, hqs.len] at hlt
              have h1 := congrArg List.length hkeys
              rw [List.length_map, List.length_map] at h1
              have := prs_len g
              omega
            refine gPair (B2.same _ _ hpp) ⟨rfl, _, rfl, _, rfl, ?_⟩
            cases hnon : decide (kv.2 = .non) with
            | true =>
              refine ifF (by simp [hnon]) (skipI B2 hac (Same.refl _) ?_)
              obtain ⟨qs', kvs', rfl, h1, h2⟩ := hq
              exact ⟨qs', kvs', rfl, h1, h2.no hkv (by simp [of_decide_eq_true hnon])⟩
            | false =>
              refine ifT (by simp [hnon]) ⟨_, rfl, _, rfl, twoS_and fun t htn => ?_⟩
              refine pairI (C := CE K) (k := kv.1) B2 hac hlen hq (Same.refl _) htn fun kvs' H5 im h2 => h2.yes hkv (by simp [of_decide_eq_false hnon])
          · obtain ⟨qs', kvs', rfl, hqs', hfil⟩ := hq
            have hfil := hfil.all (by rw [List.length_map, hqs.len]; exact Nat.le_refl _)
            subst hfil
            have ok : tabOk kvs := tabOk_keys hkeys (prs_ok g)
            have ok' : tabOk (kvs.filter fun kv => decide (kv.2 ≠ .non)) := ⟨ok.1.sublist ((List.filter_sublist).map _), fun p hp => ok.2 p (List.mem_filter.mp hp).1⟩
            refine mkE T (w := .non) (d := non) doc_non B2.at_ hqs' ok' fun v H' s e => q v H' ((s1.trans B.same).trans (B2.same.trans s)) (ifF rfl (EffAt.bld_iff.mpr ⟨_, e, fun k => ?_⟩))
            have im : Im (CE K) H2 H' := (Im.of B2.same).trans (Im.of s)
            have hkk := val_keys hkeys (kK k)
            rw [prs_at] at hkk
            have mk := m k
            show MoE (CE K) H' .drop (blt (f k)) (valV (kvs.filter fun kv => decide (kv.2 ≠ .non)) (kK k))
            rw [valV_filter ok.1]
            cases e1 : valV kvs (kK k) with
            | none =>
              rw [e1] at hkk
              rw [none_of hkk] at mk
              have : f k = .keep := mk
              show blt (f k) = .drop
              rw [this] <;> rfl
            | some u =>
              obtain ⟨j, ej, hb⟩ := hall _ (valV_some_mem e1)
              have ej := kK_inj ej
              subst ej
              unfold BuAt at hb
              cases hd : (blt (f k)).isDrop with
              | true =>
                rw [hd, if_pos rfl] at hb
                show MoE _ _ _ _ (if decide (u ≠ .non) = true then some u else none)
                rw [show u = .non from hb]
                exact Tp.E.isDrop_iff.mp hd
              | false =>
                rw [hd, if_neg Bool.false_ne_true] at hb
                obtain ⟨au, _, _, _, _, _, eu, _⟩ := hb.dec
                show MoE _ _ _ _ (if decide (u ≠ .non) = true then some u else none)
                have eu : u = .ref au := eu
                subst eu
                rw [if_pos (by simp)]
                exact ⟨fun z => (by rw [z] at hd; cases hd), hb.mono im⟩
      | _ => cases hm
theorem ok_built (T : Tx K mg) : ∀ n, C8.Cal P w K mg base (n + 2) "built" (sp_built K n) []
  | 0 => T.calF 22 (st := s_built) (ps := ["one"]) rfl (by decide +kernel) (fun _ _ _ _ _ _ us hl => match us, hl with | [_], _ => rfl) fun vs H Q E ⟨_, _, _, _, h, _⟩ => absurd h (Nat.not_lt_zero _)
  | n + 1 => by
    have c_built := ok_built T n
    have m_Effect := ok_Effect (P := P) (w := w) (base := base) T
    have sc : FnScope ["one", "members", "key", "member"] ["one"] (C8.fnScope s_built) := C8.fnScope_by (by decide +kernel)
    refine T.cal 22 (st := s_built) rfl (by decide +kernel) sc (fun _ _ _ _ _ _ us hl => match us, hl with | [_], _ => rfl) (fun vs H Q E ⟨_, _, h, _⟩ => by rw [h]; rfl) (fun cdv A outer s H vs Q E f hr h => ⟨t_built K n, ?_, pu_built T h⟩)
    have hu := hu_of hr
    exact (pss_cons (ps_if (pt_cmpR op_in_seq (pe_fld (pv 0) rfl) (pe_tup (pa_cons pe_str (pa_cons pe_str pa_nil))) rfl) (pss_one (ps_ret pe_non)) pss_nil)
    (pss_cons (ps_if (pt_cmpR op_ne (pe_fld (pv 0) rfl) pe_str (nomark _)) (pss_one (ps_ret (pv 0))) pss_nil)
    (pss_cons (ps_setLc (i := 1) (own := [("key", 2), ("member", 3)]) (g := (gTup K 2 (gCons (gName 2) (gCons (gName 3) gNil)))) (tt := tYes) (te := (tTup (tCons (tVar 2) (tCons (tCall (sp_built K n) [] C8.E0 (tCons (tVar 3) tNil)) tNil)))) rfl sc.nd rfl rfl (sw_true rfl rfl rfl (by decide +kernel)) (pi_tup (pe_fld (pv 0) rfl)) (blkOk_by (N := ["one", "members", "key", "member"]) (sc := C8.fnScope s_built) (by decide +kernel)) (fun _ _ _ _ _ => (pg_tup rfl (pgs_cons (pg_name (i := 2) sc.nd rfl (Or.inl rfl)) (pgs_cons (pg_name (i := 3) sc.nd rfl (Or.inl rfl)) pgs_nil)))) (fun _ _ _ _ _ => pts_nil) (fun _ _ _ _ _ => (pe_tup (pa_cons (pv 2) (pa_cons (C8.pe_c c_built hr (by omega) rfl (pa_cons (pv 3) pa_nil)) pa_nil)))))
    (pss_one (ps_ret (C8.pe_mk m_Effect hr (by omega) rfl (pa_cons pe_str (pa_cons pe_non (pa_cons (pe_lc (own := [("key", 2), ("member", 3)]) (g := (gTup K 2 (gCons (gName 2) (gCons (gName 3) gNil)))) (tt := (tB (tNotN (tVar 3)))) (te := (tTup (tCons (tVar 2) (tCons (tVar 3) tNil)))) rfl sc.nd (pi_list (pv 1)) (blkOk_by (N := ["one", "members", "key", "member"]) (sc := C8.fnScope s_built) (by decide +kernel)) (fun _ _ _ _ _ => (pg_tup rfl (pgs_cons (pg_name (i := 2) sc.nd rfl (Or.inl rfl)) (pgs_cons (pg_name (i := 3) sc.nd rfl (Or.inl rfl)) pgs_nil)))) (fun _ _ _ _ _ => (pts_one (pt_cmp (pc_notN (pv 3))))) (fun _ _ _ _ _ => (pe_tup (pa_cons (pv 2) (pa_cons (pv 3) pa_nil))))) pa_nil)))))))))
end
end Tp
end
section
set_option maxRecDepth 100000
set_option maxHeartbeats 4000000
namespace Tp
open PySem PySem.Spec PyProof.Rows L2
def RJ (C : Addr) (ks : List L2.Key) (F : Ky → Tp.E) (i : Nat) (H : Hp) (l : List (L2.Key × V)) : Prop := l.map (·.1) = ks.take i ∧ EfsAt C H F l
theorem RJ.zero {C : Addr} {ks : List L2.Key} {F : Ky → Tp.E} {H : Hp} : RJ C ks F 0 H [] := ⟨by rw [List.take_zero] <;> rfl, EfsAt.nil⟩
theorem RJ.push {C : Addr} {ks : List L2.Key} {F : Ky → Tp.E} {i : Nat} {H H' : Hp} {l : List (L2.Key × V)} {k : Ky} {u : V} (h : RJ C ks F i H l) (im : Im C H H') (hk : ks[i]? = some (kK k)) (hu : EffAt C H' (F k) u) : RJ C ks F (i + 1) H' (l ++ [(kK k, u)]) :=
  ⟨by rw [List.map_append, h.1, take_more hk] <;> rfl, (h.2.mono im).snoc hu⟩
def RN (C : Addr) (ks : List L2.Key) (no : L2.Key → Bool) (F : Ky → Tp.E) (i : Nat) (H : Hp) (l : List (L2.Key × V)) : Prop := l.map (·.1) = (ks.take i).filter (fun x => !no x) ∧ EfsAt C H F l
theorem RN.zero {C : Addr} {ks : List L2.Key} {no : L2.Key → Bool} {F : Ky → Tp.E} {H : Hp} : RN C ks no F 0 H [] := ⟨by rw [List.take_zero] <;> rfl, EfsAt.nil⟩
theorem RN.yes {C : Addr} {ks : List L2.Key} {no : L2.Key → Bool} {F : Ky → Tp.E} {i : Nat} {H H' : Hp} {l : List (L2.Key × V)} {k : Ky} {u : V} (h : RN C ks no F i H l) (im : Im C H H') (hk : ks[i]? = some (kK k)) (hn : no (kK k) = false) (hu : EffAt C H' (F k) u) : RN C ks no F (i + 1) H' (l ++ [(kK k, u)]) :=
  ⟨by rw [List.map_append, h.1, take_more hk, List.filter_append, List.filter_cons, if_pos (by rw [hn]; rfl)] <;> rfl, (h.2.mono im).snoc hu⟩
theorem RN.no {C : Addr} {ks : List L2.Key} {no : L2.Key → Bool} {F : Ky → Tp.E} {i : Nat} {H H' : Hp} {l : List (L2.Key × V)} {k : Ky} (h : RN C ks no F i H l) (im : Im C H H') (hk : ks[i]? = some (kK k)) (hn : no (kK k) = true) : RN C ks no F (i + 1) H' l :=
  ⟨by rw [h.1, take_more hk, List.filter_append, List.filter_cons, if_neg (by rw [hn]; exact Bool.false_ne_true)]; simp, h.2.mono im⟩
section
variable {P : Program} {w : World} {K : PySem.W.Frag} {mg : Str → Option Value} {base : Heap} {vs : List V} {H : Hp} {Q : VK} {E : XK}
/-! ### joined(first, second) -/
def sp_joined (K : PySem.W.Frag) (n : Nat) : Sp := fun vs H Q _ => ∃ v1 v2 e1 e2, vs = [v1, v2] ∧ EffAt (CE K) H e1 v1 ∧ EffAt (CE K) H e2 v2 ∧ e2.dep < n ∧ ∀ v' H', Same H H' → EffAt (CE K) H' (jn e1 e2) v' → Q v' H'
def t_joined (K : PySem.W.Frag) (n : Nat) : TS :=
  (tSeq (tIfS (tTest (tOp rEq (tFld K (tVar 1) "kind") (tC (.str "keep")))) (tRet (tVar 0)) tNext)
    (tSeq (tIfS (tOr (tTest (tOp rNe (tFld K (tVar 1) "kind") (tC (.str "merge")))) (tTest (tOp rEq (tFld K (tVar 0) "kind") (tC (.str "keep"))))) (tRet (tVar 1)) tNext)
    (tSeq (tIfS (tTest (tOp (rIn K false) (tFld K (tVar 0) "kind") (tTup (tCons (tC (.str "set")) (tCons (tC (.str "drop")) tNil))))) (tRet (tCall (sp_built K (n + 1)) [] C8.E0 (tCons (tVar 1) tNil))) tNext)
    (tSeq (tAsg (tIf (tTest (tOp rEq (tFld K (tVar 0) "kind") (tC (.str "merge")))) (tCall (sp_keep K) [] C8.E0 tNil) (tCall (sp_drop K) [] C8.E0 tNil)) (gName 2))
    (tSeq (tAsg (tTup (tCons (tCB (rDictF K) (tCons (tFld K (tVar 0) "members") tNil)) (tCons (tCB (rDictF K) (tCons (tFld K (tVar 1) "members") tNil)) tNil))) (gTup K 2 (gCons (gName 3) (gCons (gName 4) gNil))))
    (tSeq (tLkS (tAsg (tLc (iKeys (tVar 4)) (gName 6) tYes (tTup (tCons (tVar 6) (tCons (tCall (sp_joined K n) [] C8.E0 (tCons (tDGet2 (tVar 3) (tVar 6) (tVar 2)) (tCons (tDGet (tVar 4) (tVar 6)) tNil))) tNil))) [6]) (gName 5)))
    (tSeq (tAsg (tOp rCat (tVar 5) (tLc (iTup K (tFld K (tVar 0) "members")) (gTup K 2 (gCons (gName 6) (gCons (gName 7) gNil))) (tB (tDNotIn (tVar 6) (tVar 4))) (tTup (tCons (tVar 6) (tCons (tVar 7) tNil))) [6, 7])) (gName 5))
    (tSeq (tIfS (tTest (tOp rEq (tFld K (tVar 0) "kind") (tC (.str "build")))) (tAsg (tLc (iList K (tVar 5)) (gTup K 2 (gCons (gName 6) (gCons (gName 7) gNil))) (tTest (tOp rNe (tFld K (tVar 7) "kind") (tC (.str "drop")))) (tTup (tCons (tVar 6) (tCons (tVar 7) tNil))) [6, 7]) (gName 5)) tNext)
    (tRet (tMake (He.ga K "Effect") (sp_Effect (K := K)) [] C8.E0 (tCons (tFld K (tVar 0) "kind") (tCons (tC .non) (tCons (tVar 5) tNil)))))))))))))
theorem pu_joined (T : Tx K mg) {n : Nat} (h : sp_joined K (n + 1) vs H Q E) : t_joined K n { nx := fun _ H' => Q .non H', rt := Q } (L2.start ["first", "second", "missing", "ours", "theirs", "members", "key", "one"] vs) H := by
  obtain ⟨v1, v2, e1, e2, rfl, h1, h2, hn, q⟩ := h
  obtain ⟨a1, dx1, w1, tp1, ps1, g1, rfl, hi1, _, ht1, hp1, m1⟩ := h1.dec
  obtain ⟨a2, dx2, w2, tp2, ps2, g2, rfl, hi2, _, ht2, hp2, m2⟩ := h2.dec
  refine sSeq (sIf (qEq T rfl hi2 (k_keep e2) ?_))
  cases hk2 : e2.isKeep with
  | true =>
    refine ifT rfl (sRet ⟨_, rfl, q _ _ (Same.refl H) ?_⟩)
    rw [Tp.E.isKeep_iff.mp hk2, jn_keep]
    exact h1
  | false =>
  refine ifF rfl (sNext (sSeq (sIf (xOr (qNe T rfl hi2 (k_mrg e2) ?_)))))
  cases hm2 : e2.isMrg with
  | false =>
    refine ifT rfl (ifT rfl (sRet ⟨_, rfl, q _ _ (Same.refl H) ?_⟩))
    cases e2 with
    | keep => cases hk2
    | mrg f => cases hm2
    | drop => cases e1 <;> exact h2
    | set x => cases e1 <;> exact h2
    | bld f => cases e1 <;> exact h2
  | true =>
  cases e2 with
  | keep => cases hm2
  | drop => cases hm2
  | set x => cases hm2
  | bld f => cases hm2
  | mrg f =>
  refine ifF rfl (qEq T rfl hi1 (k_keep e1) ?_)
  cases hk1 : e1.isKeep with
  | true =>
    refine ifT rfl (sRet ⟨_, rfl, q _ _ (Same.refl H) ?_⟩)
    rw [Tp.E.isKeep_iff.mp hk1, keep_jn]
    exact h2
  | false =>
  refine ifF rfl (sNext (sSeq (sIf (qIn T rfl hi1 (k_in_sd e1) fun H1 s1 => ?_))))
  cases hsd : (e1.isSet || e1.isDrop) with
  | true =>
    refine ifT rfl (sRet ⟨_, rfl, _, _, rfl, h2.same s1, hn, fun v' H' s hb => q v' H' (s1.trans s) ?_⟩)
    have hb : EffAt (CE K) H' (blt (.mrg f)) v' := by
      rw [if_neg (show ¬ (blt (.mrg f)).isDrop = true from Bool.false_ne_true)] at hb
      exact hb
    cases e1 with
    | keep => cases hk1
    | mrg g => cases hsd
    | bld g => cases hsd
    | drop => exact hb
    | set x => exact hb
  | false =>
  have e1k : e1.isMrg = true ∨ e1.isBld = true := by
    cases e1 with
    | keep => cases hk1
    | mrg g => exact .inl rfl
    | bld g => exact .inr rfl
    | drop => cases hsd
    | set x => cases hsd
  refine ifF rfl (sNext (sSeq (sAsg ?_)))
  -- missing
  have key : ∀ (vm : V) (H2 : Hp), Same H1 H2 → EffAt (CE K) H2 e1.nil vm → ((tSeq (tAsg (tTup (tCons (tCB (rDictF K) (tCons (tFld K (tVar 0) "members") tNil)) (tCons (tCB (rDictF K) (tCons (tFld K (tVar 1) "members") tNil)) tNil))) (gTup K 2 (gCons (gName 3) (gCons (gName 4) gNil))))
    (tSeq (tLkS (tAsg (tLc (iKeys (tVar 4)) (gName 6) tYes (tTup (tCons (tVar 6) (tCons (tCall (sp_joined K n) [] C8.E0 (tCons (tDGet2 (tVar 3) (tVar 6) (tVar 2)) (tCons (tDGet (tVar 4) (tVar 6)) tNil))) tNil))) [6]) (gName 5)))
    (tSeq (tAsg (tOp rCat (tVar 5) (tLc (iTup K (tFld K (tVar 0) "members")) (gTup K 2 (gCons (gName 6) (gCons (gName 7) gNil))) (tB (tDNotIn (tVar 6) (tVar 4))) (tTup (tCons (tVar 6) (tCons (tVar 7) tNil))) [6, 7])) (gName 5))
    (tSeq (tIfS (tTest (tOp rEq (tFld K (tVar 0) "kind") (tC (.str "build")))) (tAsg (tLc (iList K (tVar 5)) (gTup K 2 (gCons (gName 6) (gCons (gName 7) gNil))) (tTest (tOp rNe (tFld K (tVar 7) "kind") (tC (.str "drop")))) (tTup (tCons (tVar 6) (tCons (tVar 7) tNil))) [6, 7]) (gName 5)) tNext)
    (tRet (tMake (He.ga K "Effect") (sp_Effect (K := K)) [] C8.E0 (tCons (tFld K (tVar 0) "kind") (tCons (tC .non) (tCons (tVar 5) tNil)))))))))) ⟨fun _ H' => Q .non H', Q, fun _ _ => False, fun _ _ => False⟩ [some (.ref a1), some (.ref a2), some vm, none, none, none, none, none] H2 := by
    intro vm H2 s2 hvm
    have s2 := s1.trans s2
    refine sSeq (sAsg (xTup (aCons (xCB (aCons (fMem T rfl (s2 _ _ hi1) ⟨tp1, ps1, prs g1 kys, rfl, (Le.of s2).tf ht1, (hp1.mono fun a xs e => s2 _ _ e).seqT, fun p1 hpn1 => ?_⟩))))))
    rw [(prs_ok g1).merge]
    have s3 := same_new hpn1 (.dK (prs g1 kys))
    have s23 := s2.trans s3
    refine aCons (xCB (aCons (fMem T rfl (s23 _ _ hi2) ⟨tp2, ps2, prs g2 kys, rfl, (Le.of s23).tf ht2, (hp2.mono fun a xs e => s23 _ _ e).seqT, fun p2 hpn2 => ?_⟩)))
    rw [(prs_ok g2).merge]
    have s4 := same_new hpn2 (.dK (prs g2 kys))
    have hd1 := s4 _ _ (upd_same (H := H2) (a := p1) (o := .dK (prs g1 kys)))
    refine ⟨twoS, fun t ht => gPair upd_same ?_⟩
    have s5 := same_new ht (.tup [.ref p1, .ref p2])
    have hd1 := s5 _ _ hd1
    have hd2 := s5 _ _ (upd_same (H := upd H2 p1 (.dK (prs g1 kys))) (a := p2) (o := .dK (prs g2 kys)))
    have s25 : Same H2 _ := (s3.trans s4).trans s5
    have s05 : Same H _ := s2.trans s25
    have hvm5 := hvm.same s25
    generalize upd (upd (upd H2 p1 (.dK (prs g1 kys))) p2 (.dK (prs g2 kys))) t (.tup [.ref p1, .ref p2]) = H5 at *
    have m1' := fun k => (m1 k).mono (Im.of s05)
    have m2' := fun k => (m2 k).mono (Im.of s05)
    -- what the members' effects are
    have moe : ∀ {H7 : Hp} {kvs : List (L2.Key × V)}, EfsAt (CE K) H7 (fun k => jn (e1.kid k) (f k)) kvs → (∀ k, valV kvs (kK k) = none → jn (e1.kid k) (f k) = e1.nil) → (∀ k u, valV kvs (kK k) = some u → jn (e1.kid k) (f k) ≠ e1.nil) →
        ∀ k, MoE (CE K) H7 e1.nil (jn (e1.kid k) (f k)) (valV kvs (kK k)) := fun {H7 kvs} he h0 h1 k => by
      cases e : valV kvs (kK k) with
      | none => exact h0 k e
      | some u => exact ⟨h1 k u e, he.val e⟩
    have fin : ∀ (l : Addr) (H7 : Hp) (qs : List Addr) (kvs : List (L2.Key × V)) (c d x y z : Option V), Same H5 H7 → H7 l = some (.lst (qs.map V.ref)) → PairsAt H7 qs kvs → tabOk kvs → (∀ k, MoE (CE K) H7 e1.nil (jn (e1.kid k) (f k)) (valV kvs (kK k))) →
        ((tRet (tMake (He.ga K "Effect") (sp_Effect (K := K)) [] C8.E0 (tCons (tFld K (tVar 0) "kind") (tCons (tC .non) (tCons (tVar 5) tNil)))))) ⟨fun _ H' => Q .non H', Q, fun _ _ => False, fun _ _ => False⟩ [some (.ref a1), x, y, c, d, some (.ref l), z, none] H7 := by
      intro l H7 qs kvs c d x y z s7 hl hqs ok hm
      refine sRet (aCons (fKind T rfl ((s05.trans s7) _ _ hi1) (aCons (xC (aCons (xVar rfl (aNil (mkE T (w := .non) (d := non) doc_non hl hqs ok fun v H' s e => q v H' ((s05.trans s7).trans s) ?_))))))))
      have hm' := fun k => (hm k).mono (Im.of s)
      cases e1 with
      | mrg g => exact EffAt.mrg_iff.mpr ⟨_, e, hm'⟩
      | bld g => exact EffAt.bld_iff.mpr ⟨_, e, hm'⟩
      | keep => cases hk1
      | set x => cases hsd
      | drop => cases hsd
    -- the first list
    refine sSeq (sLk ⟨p2, prs g2 kys, .inl hd2, fun Hl od un hl lk => ?_⟩)
    have iml : Im (CE K) H5 Hl := Im.le lk.le
    refine sAsg (xLc ⟨_, rfl, p2, od, rfl, .inl ⟨_, hl, fun l hl' => ?_⟩⟩)
    refine lc_im walk_keys hl' (PvI (RJ (CE K) ((prs g2 kys).map (·.1)) fun k => jn (e1.kid k) (f k))) (fun H6 s => s _ _ hl) ⟨[], [], rfl, .nil, RJ.zero⟩ (fun i x H6 H7 acc hlt B hac hq y => ?_) (fun H6 acc B hac hq => ?_)
    · obtain ⟨rfl, k0, u0, hk0, rfl⟩ := y
      obtain ⟨k, u, ek, hg, hki⟩ := prs_nth hk0
      cases ek
      have i6 := iml.trans (Im.of (C := CE K) B.same)
      have r1 : Rd H7 p1 (.dK (prs g1 kys)) := (lk.le.trans (Le.of B.same)).d _ _ (.inl hd1)
      have r2 : Rd H7 p2 (.dK (prs g2 kys)) := (lk.le.trans (Le.of B.same)).d _ _ (.inl hd2)
      have mk2 := m2' k
      rw [hg] at mk2
      have he1 : EffAt (CE K) H7 (e1.kid k) ((g1 k).getD vm) := by
        have mk1 := m1' k
        cases e : g1 k with
        | none =>
          rw [e] at mk1
          rw [show e1.kid k = e1.nil from mk1]
          exact hvm5.mono i6
        | some u1 =>
          rw [e] at mk1
          exact mk1.2.mono i6
      refine ⟨rfl, _, rfl, _, rfl, p1, rfl, .inl ⟨_, r1⟩, _, rfl, _, rfl, g1 k, by rw [← prs_at g1 k]; exact dgetK r1 k, _, rfl, _, rfl, p2, u0, rfl, dgetU r2 (by rw [prs_at]; exact hg), ?_⟩
      refine ⟨_, _, e1.kid k, f k, rfl, he1, mk2.2.mono i6, kid_lt hn (m2 k) hg, fun v' H' s he => twoS_and fun t ht => ?_⟩
      exact pairI (C := CE K) (k := kK k) B hac (by have := prs_len g2; omega) hq s ht fun kvs H8 im hr => hr.push ((Im.of s).trans im) hki (he.mono im)
    · obtain ⟨qs, kvs, rfl, hqs, hrj⟩ := hq
      have hkl : kvs.map (·.1) = (prs g2 kys).map (·.1) := by
        have := hrj.1
        rw [List.take_of_length_le (by rw [List.length_map]; exact Nat.le_refl _)] at this
        exact this
      have hef := hrj.2
      have hd := B.same _ _ hl
      have ul := lk.ule (hd.trans hl.symm)
      refine ⟨hd, ?_⟩
      have s6 : Same H5 (un H6) := lk.same B.same
      have hl6 : (un H6) l = some (.lst (qs.map V.ref)) := by rw [lk.new hl']; exact B.at_
      have hqs := hqs.mono ul.t
      have hef := hef.mono (Im.le (C := CE K) ul)
      generalize un H6 = H6 at *
      -- the second list
      refine sSeq (sAsg (xOp (xVar rfl (xLc (iT (fMem T rfl ((s05.trans s6) _ _ hi1) ⟨tp1, rfl, ⟨_, ((Le.of (s05.trans s6)).tf ht1).seq⟩, fun l2 hl2 => ?_⟩))))))
      have hp1' := hp1.mono fun a xs e => (s05.trans s6) _ _ e
      have m1'' := fun k => (m1 k).mono (Im.of (s05.trans s6))
      refine lc_im (walk_tup (xs := ps1.map V.ref)) hl2 (PvI (RN (CE K) ((prs g1 kys).map (·.1)) (fun x => (valV (prs g2 kys) x).isSome) fun k => jn (e1.kid k) (f k))) (fun H7 s => SqT.im (Im.of (C := CE K) s) ((Le.of (s05.trans s6)).tf ht1).seq) ⟨[], [], rfl, .nil, RN.zero⟩ (fun i x H7 H8 acc hlt B2 hac hq y => ?_) (fun H7 acc B2 hac hq => ?_)
      · obtain ⟨rfl, hx⟩ := y
        obtain ⟨pp, k, u, rfl, hpp, hk, hg, hu, hne⟩ := mem_turn hp1' m1'' hx
        have hki : ((prs g1 kys).map (·.1))[i]? = some (kK k) := by rw [List.getElem?_map, hk] <;> rfl
        have r2 : Rd H8 p2 (.dK (prs g2 kys)) := .inl ((s6.trans B2.same) _ _ hd2)
        refine gPair (B2.same _ _ hpp) ⟨rfl, _, rfl, _, rfl, p2, _, rfl, dgetK r2 k, _, rfl, ?_⟩
        cases hno : (valV (prs g2 kys) (kK k)).isSome with
        | true =>
          refine ifF rfl (skipI B2 hac (Same.refl _) ?_)
          obtain ⟨qs', kvs', rfl, h1, h2⟩ := hq
          exact ⟨qs', kvs', rfl, h1, h2.no (Im.refl _ _) hki hno⟩
        | false =>
          refine ifT rfl ⟨_, rfl, _, rfl, twoS_and fun t ht => ?_⟩
          refine pairI (C := CE K) (k := kK k) B2 hac (by rw [List.length_map, hp1.len] at hlt; have := prs_len g1; omega) hq (Same.refl _) ht fun kvs' H9 im hr => hr.yes im hki hno ?_
          have mk2 := m2 k
          rw [prs_at] at hno
          rw [none_of (show (none : Option V).isSome = (g2 k).isSome from hno.symm)] at mk2
          have fk : f k = .keep := mk2
          show EffAt (CE K) H9 (jn (e1.kid k) (f k)) u
          rw [fk, jn_keep]
          exact hu.mono ((Im.of B2.same).trans im)
      · obtain ⟨qs2, kvs2, rfl, hqs2, hrn⟩ := hq
        have hk2l : kvs2.map (·.1) = ((prs g1 kys).map (·.1)).filter fun x => !(valV (prs g2 kys) x).isSome := by
          have := hrn.1
          rw [List.take_of_length_le (by rw [List.length_map, List.length_map, hp1.len]; exact Nat.le_refl _)] at this
          exact this
        have hl7 := B2.same _ _ hl6
        have len1 := hqs.len
        have len2 := hqs2.len
        have hlen : qs.length + qs2.length ≤ 8 := by
          have h1 := congrArg List.length hkl
          have h2 := congrArg List.length hk2l
          have h3 := List.length_filter_le (fun x => !(valV (prs g2 kys) x).isSome) ((prs g1 kys).map (·.1))
          rw [List.length_map, List.length_map] at h1
          rw [List.length_map] at h2 h3
          have := prs_len g1
          have := prs_len g2
          omega
        refine ⟨l, l2, _, _, rfl, rfl, hl7, B2.at_, szO (by rw [List.length_map, List.length_map]; omega), fun l3 hl3 => ?_⟩
        rw [← List.map_append]
        have s7 := same_new hl3 (.lst ((qs ++ qs2).map V.ref))
        have s57 : Same H5 _ := (s6.trans B2.same).trans s7
        have hqs3 : PairsAt (upd H7 l3 (.lst ((qs ++ qs2).map V.ref))) (qs ++ qs2) (kvs ++ kvs2) := PairsAt.app (hqs.mono fun a xs e => (B2.same.trans s7) _ _ e) (hqs2.mono fun a xs e => s7 _ _ e)
        have hef3 : EfsAt (CE K) (upd H7 l3 (.lst ((qs ++ qs2).map V.ref))) (fun k => jn (e1.kid k) (f k)) (kvs ++ kvs2) := EfsAt.app (hef.mono (Im.of (B2.same.trans s7))) (hrn.2.mono (Im.of s7))
        have mem3 : ∀ k, kK k ∈ (kvs ++ kvs2).map (·.1) ↔ (g2 k).isSome = true ∨ (g1 k).isSome = true := fun k => by
          rw [List.map_append, List.mem_append, hkl, hk2l, List.mem_filter, ← valV_iff, ← valV_iff, prs_at, prs_at]
          cases (g2 k).isSome <;> simp
        have ok3 : tabOk (kvs ++ kvs2) := by
          refine ⟨?_, fun p hp => ?_⟩
          · rw [List.map_append, hkl, hk2l]
            refine List.nodup_append.mpr ⟨(prs_ok g2).1, (prs_ok g1).1.sublist List.filter_sublist, fun a ha b hb e => ?_⟩
            subst e
            have h1 := valV_iff.mpr ha
            have h2 := (List.mem_filter.mp hb).2
            rw [h1] at h2
            cases h2
          · rcases List.mem_append.mp hp with h | h
            · obtain ⟨k, e, _⟩ := hef p h
              exact ⟨k, e⟩
            · obtain ⟨k, e, _⟩ := hrn.2 p h
              exact ⟨k, e⟩
        have none3 : ∀ k, valV (kvs ++ kvs2) (kK k) = none → f k = .keep ∧ e1.kid k = e1.nil := fun k e => by
          have h1 : ¬ ((g2 k).isSome = true ∨ (g1 k).isSome = true) := fun h => by
            have := valV_iff.mpr ((mem3 k).mpr h)
            rw [e] at this
            cases this
          have hm2 := m2 k
          have hm1 := m1 k
          constructor
          · cases e2 : g2 k with
            | none => rw [e2] at hm2; exact hm2
            | some u => exact (h1 (.inl (by rw [e2] <;> rfl))).elim
          · cases e2 : g1 k with
            | none => rw [e2] at hm1; exact hm1
            | some u => exact (h1 (.inr (by rw [e2] <;> rfl))).elim
        refine sSeq (sIf (qEq T rfl ((s05.trans s57) _ _ hi1) (k_bld e1) ?_))
        cases hb1 : e1.isBld with
        | false =>
          refine ifF rfl (sNext (fin l3 _ (qs ++ qs2) (kvs ++ kvs2) _ _ _ _ _ s57 upd_same hqs3 ok3 (moe hef3 (fun k e => ?_) fun k u e z => ?_)))
          · obtain ⟨h1, h2⟩ := none3 k e
            rw [h1, jn_keep, h2]
          · have en : e1.nil = .keep := by
              rcases e1k with h | h
              · cases e1 with
                | mrg g => rfl
                | _ => cases h
              · rw [h] at hb1; cases hb1
            rw [en] at z
            obtain ⟨z1, z2⟩ := jn_eq_keep z
            have hin := (mem3 k).mp (valV_iff.mp (by rw [e] <;> rfl))
            have hm2 := m2 k
            have hm1 := m1 k
            rcases hin with h | h
            · obtain ⟨u2, e2⟩ := Option.isSome_iff_exists.mp h
              rw [e2] at hm2
              exact hm2.1 z2
            · obtain ⟨u2, e2⟩ := Option.isSome_iff_exists.mp h
              rw [e2, en] at hm1
              exact hm1.1 z1
        | true =>
          have en : e1.nil = .drop := by
            cases e1 with
            | bld g => rfl
            | _ => cases hb1
          refine ifT rfl (sAsg (xLc (iL ⟨_, rfl, l3, rfl, ⟨_, SqL.of upd_same⟩, fun l4 hl4 => ?_⟩)))
          refine lc_im (walk_list (xs := (qs ++ qs2).map V.ref)) hl4 (PvI (RFil (kvs ++ kvs2) fun kv => !(lookE (fun k => jn (e1.kid k) (f k)) kv.1).isDrop)) (fun H8 s => s.seq (SqL.of upd_same)) ⟨[], [], rfl, .nil, RFil.zero⟩ (fun i x H8 H9 acc hlt B3 hac hq y => ?_) (fun H8 acc B3 hac hq => ?_)
          · obtain ⟨rfl, hx⟩ := y
            obtain ⟨pp, ⟨k0, u⟩, rfl, hkv, hpp⟩ := hqs3.nth hx
            obtain ⟨k, ek, hu⟩ := hef3 _ (List.mem_of_getElem? hkv)
            have ek : k0 = kK k := ek
            subst ek
            have hu := hu.mono (Im.of B3.same)
            obtain ⟨au, dxu, wu, tpu, psu, gu, eu, hiu, _⟩ := hu.dec
            have eu : u = .ref au := eu
            subst eu
            refine gPair (B3.same _ _ hpp) ⟨rfl, qNe T rfl hiu (k_drop _) ?_⟩
            have hlen : i < 1000 := by
              rw [List.length_map, List.length_append] at hlt
              omega
            cases hdr : (jn (e1.kid k) (f k)).isDrop with
            | true =>
              refine ifF rfl (skipI B3 hac (Same.refl _) ?_)
              obtain ⟨qs', kvs', rfl, h1, h2⟩ := hq
              exact ⟨qs', kvs', rfl, h1, h2.no hkv (by rw [lookE_at, hdr] <;> rfl)⟩
            | false =>
              refine ifT rfl ⟨_, rfl, _, rfl, twoS_and fun t ht => ?_⟩
              exact pairI (C := CE K) (k := kK k) B3 hac hlen hq (Same.refl _) ht fun kvs' H10 im hr => hr.yes hkv (by rw [lookE_at, hdr] <;> rfl)
          · obtain ⟨qs3, kvs3, rfl, hqs4, hfil⟩ := hq
            have hfil := hfil.all (by rw [List.length_map, hqs3.len]; exact Nat.le_refl _)
            subst hfil
            refine fin l4 H8 qs3 _ _ _ _ _ _ (s57.trans B3.same) B3.at_ hqs4 (ok3.filter _) (moe ((hef3.mono (Im.of B3.same)).filter _) (fun k e => ?_) fun k u e z => ?_)
            · rw [valV_filter ok3.1] at e
              cases e3 : valV (kvs ++ kvs2) (kK k) with
              | none =>
                obtain ⟨h1, h2⟩ := none3 k e3
                rw [h1, jn_keep, h2]
              | some u =>
                rw [e3] at e
                have e : (if (!(lookE (fun k => jn (e1.kid k) (f k)) (kK k)).isDrop) = true then some u else none) = none := e
                rw [lookE_at] at e
                rw [en]
                cases hdr : (jn (e1.kid k) (f k)).isDrop with
                | true => exact Tp.E.isDrop_iff.mp hdr
                | false => rw [hdr] at e; cases e
            · rw [valV_filter ok3.1] at e
              cases e3 : valV (kvs ++ kvs2) (kK k) with
              | none => rw [e3] at e; cases e
              | some u2 =>
                rw [e3] at e
                have e : (if (!(lookE (fun k => jn (e1.kid k) (f k)) (kK k)).isDrop) = true then some u2 else none) = some u := e
                rw [lookE_at, z, en] at e
                cases e
  refine xIf (qEq T rfl (s1 _ _ hi1) (k_mrg e1) ?_)
  cases hm1 : e1.isMrg with
  | true =>
    refine ifT rfl ⟨rfl, fun v' H' s he => key v' H' s ?_⟩
    cases e1 with
    | mrg g => exact he
    | _ => cases hm1
  | false =>
    refine ifF rfl ⟨rfl, fun v' H' s he => key v' H' s ?_⟩
    cases e1 with
    | bld g => exact he
    | mrg g => cases hm1
    | keep => cases hk1
    | set x => cases hsd
    | drop => cases hsd
theorem ok_joined (T : Tx K mg) : ∀ n, n ≤ 900 → C8.Cal P w K mg base (n + 4) "joined" (sp_joined K n) []
  | 0, _ => T.calF 23 (st := s_joined) (ps := ["first", "second"]) rfl (by decide +kernel) (fun _ _ _ _ _ _ us hl => match us, hl with | [_, _], _ => rfl) fun vs H Q E ⟨_, _, _, _, _, _, _, h, _⟩ => absurd h (Nat.not_lt_zero _)
  | n + 1, hn => by
    have c_joined := ok_joined T n (by omega)
    have c_built := ok_built (P := P) (w := w) (base := base) T (n + 1)
    have c_keep := ok_keep (P := P) (w := w) (base := base) T
    have c_drop := ok_drop (P := P) (w := w) (base := base) T
    have m_Effect := ok_Effect (P := P) (w := w) (base := base) T
    have sc : FnScope ["first", "second", "missing", "ours", "theirs", "members", "key", "one"] ["first", "second"] (C8.fnScope s_joined) := C8.fnScope_by (by decide +kernel)
    refine T.cal 23 (st := s_joined) rfl (by decide +kernel) sc (fun _ _ _ _ _ _ us hl => match us, hl with | [_, _], _ => rfl) (fun vs H Q E ⟨_, _, _, _, h, _⟩ => by rw [h]; rfl) (fun cdv A outer s H vs Q E f hr h => ⟨t_joined K n, ?_, pu_joined T h⟩)
    have hu := hu_of hr
    exact (pss_cons (ps_if (pt_cmpR op_eq (pe_fld (pv 1) rfl) pe_str (nomark _)) (pss_one (ps_ret (pv 0))) pss_nil)
    (pss_cons (ps_if (PW.pt (pw_or (pt_cmpR op_ne (pe_fld (pv 1) rfl) pe_str (nomark _)) (pw_or1 (pt_cmpR op_eq (pe_fld (pv 0) rfl) pe_str (nomark _))))) (pss_one (ps_ret (pv 1))) pss_nil)
    (pss_cons (ps_if (pt_cmpR op_in_seq (pe_fld (pv 0) rfl) (pe_tup (pa_cons pe_str (pa_cons pe_str pa_nil))) rfl) (pss_one (ps_ret (C8.pe_c c_built hr (by omega) rfl (pa_cons (pv 1) pa_nil)))) pss_nil)
    (pss_cons (ps_set (i := 2) sc.nd rfl (Or.inr rfl) (pe_ifExp (pt_cmpR op_eq (pe_fld (pv 0) rfl) pe_str (nomark _)) (pe_c0 c_keep hr (by omega) rfl) (pe_c0 c_drop hr (by omega) rfl)))
    (pss_cons (ps_asg (pe_tup (pa_cons (pe_callTy (call_dictF rfl) rfl T.f_dict bt_dict (pa_cons (pe_fld (pv 0) rfl) pa_nil)) (pa_cons (pe_callTy (call_dictF rfl) rfl T.f_dict bt_dict (pa_cons (pe_fld (pv 1) rfl) pa_nil)) pa_nil))) (pg_tup rfl (pgs_cons (pg_name (i := 3) sc.nd rfl (Or.inr rfl)) (pgs_cons (pg_name (i := 4) sc.nd rfl (Or.inr rfl)) pgs_nil))))
    (pss_cons (ps_lk (ps_setLc (i := 5) (own := [("key", 6)]) (g := (gName 6)) (tt := tYes) (te := (tTup (tCons (tVar 6) (tCons (tCall (sp_joined K n) [] C8.E0 (tCons (tDGet2 (tVar 3) (tVar 6) (tVar 2)) (tCons (tDGet (tVar 4) (tVar 6)) tNil))) tNil)))) rfl sc.nd rfl rfl (sw_true rfl rfl rfl (by decide +kernel)) (pi_keys (pv 4)) (blkOk_by (N := ["first", "second", "missing", "ours", "theirs", "members", "key", "one"]) (sc := C8.fnScope s_joined) (by decide +kernel)) (fun _ _ _ _ _ => (pg_name (i := 6) sc.nd rfl (Or.inl rfl))) (fun _ _ _ _ _ => pts_nil) (fun _ _ _ _ _ => (pe_tup (pa_cons (pv 6) (pa_cons (C8.pe_c c_joined hr (by omega) rfl (pa_cons (pe_dget2 hu (pv 3) (pv 6) (pv 2) ⟨rfl, rfl, rfl, rfl⟩) (pa_cons (pe_dget hu (pv 4) (pv 6) (fun _ _ => rfl)) pa_nil))) pa_nil))))))
    (pss_cons (ps_set (i := 5) sc.nd rfl (Or.inl rfl) (pe_op op_cat (pv 5) (pe_lc (own := [("key", 6), ("one", 7)]) (g := (gTup K 2 (gCons (gName 6) (gCons (gName 7) gNil)))) (tt := (tB (tDNotIn (tVar 6) (tVar 4)))) (te := (tTup (tCons (tVar 6) (tCons (tVar 7) tNil)))) rfl sc.nd (pi_tup (pe_fld (pv 0) rfl)) (blkOk_by (N := ["first", "second", "missing", "ours", "theirs", "members", "key", "one"]) (sc := C8.fnScope s_joined) (by decide +kernel)) (fun _ _ _ _ _ => (pg_tup rfl (pgs_cons (pg_name (i := 6) sc.nd rfl (Or.inl rfl)) (pgs_cons (pg_name (i := 7) sc.nd rfl (Or.inl rfl)) pgs_nil)))) (fun _ _ _ _ _ => (pts_one (pt_cmp (pc_dnotin hu (pv 6) (pv 4))))) (fun _ _ _ _ _ => (pe_tup (pa_cons (pv 6) (pa_cons (pv 7) pa_nil)))))))
    (pss_cons (ps_if (pt_cmpR op_eq (pe_fld (pv 0) rfl) pe_str (nomark _)) (pss_one (ps_setLc (i := 5) (own := [("key", 6), ("one", 7)]) (g := (gTup K 2 (gCons (gName 6) (gCons (gName 7) gNil)))) (tt := (tTest (tOp rNe (tFld K (tVar 7) "kind") (tC (.str "drop"))))) (te := (tTup (tCons (tVar 6) (tCons (tVar 7) tNil)))) rfl sc.nd rfl rfl (sw_true rfl rfl rfl (by decide +kernel)) (pi_list (pv 5)) (blkOk_by (N := ["first", "second", "missing", "ours", "theirs", "members", "key", "one"]) (sc := C8.fnScope s_joined) (by decide +kernel)) (fun _ _ _ _ _ => (pg_tup rfl (pgs_cons (pg_name (i := 6) sc.nd rfl (Or.inl rfl)) (pgs_cons (pg_name (i := 7) sc.nd rfl (Or.inl rfl)) pgs_nil)))) (fun _ _ _ _ _ => (pts_one (pt_cmpR op_ne (pe_fld (pv 7) rfl) pe_str (nomark _)))) (fun _ _ _ _ _ => (pe_tup (pa_cons (pv 6) (pa_cons (pv 7) pa_nil)))))) pss_nil)
    (pss_one (ps_ret (C8.pe_mk m_Effect hr (by omega) rfl (pa_cons (pe_fld (pv 0) rfl) (pa_cons pe_non (pa_cons (pv 5) pa_nil))))))))))))))
end
end Tp
end
section
set_option maxRecDepth 100000
set_option maxHeartbeats 4000000
namespace Tp
open PySem PySem.Spec PyProof.Rows L2
section
variable {P : Program} {w : World} {K : PySem.W.Frag} {mg : Str → Option Value} {base : Heap} {vs : List V} {H : Hp} {Q : VK} {E : XK}
/-! ### acted(one, document) -/
/-- a stored atom as a new document -/
theorem atom_new (T : Tx K mg) {σ : L2.St} {a dx tp : Addr} {kind : Str} {x : At} {w : V} {i : Nat} (hs : σ[i]? = some (some (.ref a))) (hi : H a = some (.ins (CE K) dx (flds kind w tp))) (ha : AtOut H x w) (q : ∀ v' H', Fresh H H' (.atom x) v' → Q v' H') :
    tIf (tB (tCB (rIsi K) (tCons (tFld K (tVar i) "atom") (tCons (tC (.ty "tuple")) tNil)))) (tCB (rListOf K) (tCons (tFld K (tVar i) "atom") tNil)) (tFld K (tVar i) "atom") σ H Q := by
  refine xIf (xB (xCB (aCons (fAtom T hs hi (aCons (xC (aNil ?_)))))))
  cases x with
  | pl y =>
    have e : w = y.v := ha
    subst e
    have go : ∀ {ty : String}, TyX K H y.v (.type ty) → kitB ty "tuple" = some false → rIsi K [y.v, .ty "tuple"] H fun x H1 => ∃ b, x = .bl b ∧ if b = true then tCB (rListOf K) (tCons (tFld K (tVar i) "atom") tNil) σ H1 Q else tFld K (tVar i) "atom" σ H1 Q :=
      fun ht hk => ⟨_, _, _, _, false, rfl, .ty _, ht, kit_ty hk, false, rfl, ifF rfl (fAtom T hs hi (q _ _ Fresh.pl))⟩
    cases y with
    | non => exact go (.base .non) kb_NoneType_tuple
    | int j => exact go (.base (.int j)) kb_int_tuple
    | str z => exact go (.base (.str z.1)) kb_str_tuple
  | lst ys =>
    obtain ⟨p, rfl, hp, hz⟩ := ha
    refine ⟨_, _, _, _, true, rfl, .ty _, .base (.tup hp), kit_ty kb_tuple_tuple, true, rfl, ifT rfl (xCB (aCons (fAtom T hs hi ⟨p, _, rfl, .inr (SqT.of hp), fun l hl => ?_⟩)))⟩
    exact q _ _ (Fresh.lst hl hz)
def baseK (e : Tp.E) (d : D) (k : Ky) : D := if e.isMrg = true then d.kid k else .abs
theorem act_kid {e : Tp.E} (h : e.isMrg = true ∨ e.isBld = true) (d : D) : act e d = .obj fun k => act (e.kid k) (baseK e d k) := by
  cases e with
  | mrg f => rfl
  | bld f => rfl
  | _ => rcases h with h | h <;> cases h
theorem wk_kid' {e : Tp.E} (h : wk e = true) (k : Ky) : wk (e.kid k) = true := by
  cases e with
  | mrg f => exact all4_iff.mp h k
  | bld f =>
    have q := all4_iff.mp h k
    simp only [Bool.and_eq_true] at q
    exact q.1
  | _ => rfl
theorem kid_keep {C : Addr} {e : Tp.E} (h : wk e = true) {k : Ky} {o : Option V} (m : MoE C H e.nil (e.kid k) o) {u : V} (ho : o = some u) : e.kid k ≠ .keep := by
  subst ho
  cases e with
  | mrg f => exact m.1
  | bld f =>
    have q := all4_iff.mp h k
    simp only [Bool.and_eq_true, Bool.not_eq_true'] at q
    intro z
    have z : f k = .keep := z
    rw [z] at q
    cases q.2
  | _ => exact absurd rfl m.1
def sp_acted (K : PySem.W.Frag) (n : Nat) : Sp := fun vs H Q _ => ∃ v u e d, vs = [v, u] ∧ EffAt (CE K) H e v ∧ DocAt H d.orN u ∧ (e = .keep → d ≠ .abs) ∧ e ≠ .drop ∧ wk e = true ∧ e.dep < n ∧ d.dep ≤ 3 ∧ ∀ v' H', Fresh H H' (act e d) v' → Q v' H'
def t_acted (K : PySem.W.Frag) (n : Nat) : TS :=
  (tSeq (tIfS (tTest (tOp rEq (tFld K (tVar 0) "kind") (tC (.str "keep")))) (tRet (tCall (sp_copied 4) [] C8.E0 (tCons (tVar 1) tNil))) tNext)
    (tSeq (tIfS (tTest (tOp rEq (tFld K (tVar 0) "kind") (tC (.str "set")))) (tRet (tIf (tB (tCB (rIsi K) (tCons (tFld K (tVar 0) "atom") (tCons (tC (.ty "tuple")) tNil)))) (tCB (rListOf K) (tCons (tFld K (tVar 0) "atom") tNil)) (tFld K (tVar 0) "atom"))) tNext)
    (tSeq (tAsg (tIf (tAnd (tTest (tOp rEq (tFld K (tVar 0) "kind") (tC (.str "merge")))) (tB (tCB (rIsi K) (tCons (tVar 1) (tCons (tC (.ty "dict")) tNil))))) (tCall (sp_copied 4) [] C8.E0 (tCons (tVar 1) tNil)) tDNewK) (gName 2))
    (tSeq (tFor (iTup K (tFld K (tVar 0) "members")) (gTup K 2 (gCons (gName 3) (gCons (gName 4) gNil)))
      (tIfS (tTest (tOp rEq (tFld K (tVar 4) "kind") (tC (.str "drop")))) (tDrop (tDPop2 (tVar 2) (tVar 3) (tC .non))) (sDPut (tVar 2) (tVar 3) (tCall (sp_acted K n) [] C8.E0 (tCons (tVar 4) (tCons (tDGet1 (tVar 2) (tVar 3)) tNil))))))
    (tRet (tVar 2))))))
theorem pu_acted (T : Tx K mg) {n : Nat} (h : sp_acted K (n + 1) vs H Q E) : t_acted K n { nx := fun _ H' => Q .non H', rt := Q } (L2.start ["one", "document", "found", "key", "member"] vs) H := by
  obtain ⟨v, u, e, d, rfl, he, hd, hkd, hdr, hwk, hn, hdd, q⟩ := h
  obtain ⟨a, dx, w, tp, ps, g, rfl, hi, ha, ht, hp, m⟩ := he.dec
  refine sSeq (sIf (qEq T rfl hi (k_keep e) ?_))
  cases hk : e.isKeep with
  | true =>
    have ek := Tp.E.isKeep_iff.mp hk
    subst ek
    rw [D.orN_ne (hkd rfl)] at hd
    exact ifT rfl (sRet ⟨_, rfl, u, d, rfl, hd, by omega, fun v' H' F => q _ _ F⟩)
  | false =>
  refine ifF rfl (sNext (sSeq (sIf (qEq T rfl hi (k_set e) ?_))))
  cases hs : e.isSet with
  | true =>
    cases e with
    | set x => exact ifT rfl (sRet (atom_new T rfl hi ha fun v' H' F => q _ _ F))
    | _ => cases hs
  | false =>
  have ekk : e.isMrg = true ∨ e.isBld = true := by
    cases e with
    | keep => cases hk
    | mrg g => exact .inl rfl
    | bld g => exact .inr rfl
    | drop => exact absurd rfl hdr
    | set x => cases hs
  refine ifF rfl (sNext (sSeq (sAsg ?_)))
  rw [act_kid ekk] at q
  have key : ∀ (p : Addr) (H1 : Hp) (kvs0 : List (L2.Key × V)), Bld H p H1 kvs0 (baseK e d) → ((tSeq (tFor (iTup K (tFld K (tVar 0) "members")) (gTup K 2 (gCons (gName 3) (gCons (gName 4) gNil)))
      (tIfS (tTest (tOp rEq (tFld K (tVar 4) "kind") (tC (.str "drop")))) (tDrop (tDPop2 (tVar 2) (tVar 3) (tC .non))) (sDPut (tVar 2) (tVar 3) (tCall (sp_acted K n) [] C8.E0 (tCons (tVar 4) (tCons (tDGet1 (tVar 2) (tVar 3)) tNil))))))
    (tRet (tVar 2)))) ⟨fun _ H' => Q .non H', Q, fun _ _ => False, fun _ _ => False⟩ [some (.ref a), some u, some (.ref p), none, none] H1 := by
    intro p H1 kvs0 B0
    have s1 := B0.same
    have ht1 : SqT K H1 tp (ps.map V.ref) := ((Le.of s1).tf ht).seq
    refine sSeq (sFor (iT (fMem T rfl (s1 _ _ hi) ⟨tp, rfl, ⟨_, ht1⟩, ?_⟩)))
    refine for_it (D := ⟨_, _, fun _ _ => False, fun _ _ => False⟩) (walk_tup (xs := ps.map V.ref)) (fun i σ H2 => (∃ c z, σ = [some (.ref a), some u, some (.ref p), c, z]) ∧ ∃ kvs2, Bld H p H2 kvs2 fun k => if upto ((prs g kys).map (·.1)) i (kK k) = true then act (e.kid k) (baseK e d k) else baseK e d k)
      ⟨⟨_, _, rfl⟩, kvs0, B0.congr fun k => by rw [upto_zero] <;> rfl⟩ (fun i σ H2 _ ⟨_, _, B⟩ => SqT.im (Im.of (C := CE K) B.same) ht.seq) (fun i x σ H2 H3 hi2 ⟨⟨c, z, hσ⟩, kvs2, B⟩ y => ?_) (fun σ H2 ⟨⟨c, z, hσ⟩, kvs2, B⟩ => ?_)
    · subst hσ
      obtain ⟨rfl, hx⟩ := y
      obtain ⟨pp, k, u1, rfl, hpp, hk1, hg, hu, hne⟩ := mem_turn hp m hx
      have hki : ((prs g kys).map (·.1))[i]? = some (kK k) := by rw [List.getElem?_map, hk1] <;> rfl
      have nu := upto_not (prs_ok g).1 hki
      have kk := kid_keep hwk (m k) hg
      obtain ⟨au, dxu, wu, tpu, psu, gu, eu, hiu, _⟩ := hu.dec
      have eu : u1 = .ref au := eu
      subst eu
      refine gPair (B.same _ _ hpp) (sIf (qEq T rfl (B.same _ _ hiu) (k_drop _) ?_))
      cases hdd2 : (e.kid k).isDrop with
      | true =>
        have ev : act (e.kid k) (baseK e d k) = .abs := by rw [Tp.E.isDrop_iff.mp hdd2] <;> rfl
        refine ifT rfl (sDrop ⟨_, rfl, p, rfl, .inl ⟨_, .inl B.at_⟩, _, rfl, kvs2, kK k, B.at_, rfl, fun v' hv' => ?_, fun hv' => ?_⟩)
        · exact ⟨⟨_, _, rfl⟩, _, (B.drop (k := k)).congr fun j => upto_step hki (g := fun k => act (e.kid k) (baseK e d k)) ev j⟩
        · refine ⟨⟨_, _, rfl⟩, _, B.congr fun j => ?_⟩
          rw [← upto_step hki (g := fun k => act (e.kid k) (baseK e d k)) ev j]
          by_cases q : j = k
          · subst q
            have := B.mem j
            rw [hv'] at this
            rw [if_pos rfl]
            exact this
          · rw [if_neg q]
      | false =>
        have mk := B.mread k
        rw [if_neg (by rw [nu]; exact Bool.false_ne_true)] at mk
        refine ifF rfl ?_
        refine ⟨_, rfl, _, rfl, p, rfl, .inl ⟨_, .inl B.at_⟩, _, rfl, _, dgetK (.inl B.at_) k, ?_⟩
        refine ⟨_, _, e.kid k, baseK e d k, rfl, hu.same B.same, mk.getN, fun z => absurd z kk, fun z => (by rw [z] at hdd2; cases hdd2), wk_kid' hwk k, kid_lt hn (m k) hg, ?_, fun v' H' F => ?_⟩
        · unfold baseK
          split
          · exact kid_dep hdd k
          · exact Nat.zero_le _
        · have B2 := B.call F.same
          exact ⟨_, rfl, _, rfl, p, _, rfl, dputK B2.at_ B2.ok k _, ⟨_, _, rfl⟩, _, (B2.put (k := k) (B.into F.same F.doc)).congr fun j => upto_step hki (g := fun k => act (e.kid k) (baseK e d k)) rfl j⟩
    · subst hσ
      refine ⟨_, rfl, q _ _ (Fresh.obj (B.congr fun k => ?_))⟩
      rw [upto_all (by rw [List.length_map, List.length_map, hp.len]; exact Nat.le_refl _), ← valV_mem, prs_at]
      have mk := m k
      cases e2 : g k with
      | none =>
        rw [e2] at mk
        have mk : e.kid k = e.nil := mk
        rw [mk]
        cases e with
        | mrg f => rfl
        | bld f => rfl
        | _ => rcases ekk with h | h <;> cases h
      | some u => rfl
  refine xIf (xAnd (qEq T rfl hi (k_mrg e) ?_))
  have emp : (e.isMrg = true → d.isObj = false) → ∀ k, baseK e d k = .abs := fun h k => by
    unfold baseK
    cases hm : e.isMrg with
    | false => exact if_neg Bool.false_ne_true
    | true =>
      have := h hm
      cases d with
      | obj f => cases this
      | _ => exact if_pos rfl
  cases hm : e.isMrg with
  | false => exact ifF rfl (ifF rfl fun p hp => key p _ [] ((Bld.start hp).congr fun k => (emp (fun z => by rw [hm] at z; cases z) k).symm))
  | true =>
    refine ifT rfl (xDict rfl hd ?_)
    cases hdo : d.isObj with
    | false =>
      have : d.orN.isObj = false := by cases d <;> first | rfl | exact hdo
      rw [this]
      exact ifF rfl fun p hp => key p _ [] ((Bld.start hp).congr fun k => (emp (fun _ => hdo) k).symm)
    | true =>
      cases d with
      | abs => cases hdo
      | atom x => cases hdo
      | obj f =>
        refine ifT rfl ⟨_, rfl, u, .obj f, rfl, hd, by omega, fun v' H' F => ?_⟩
        obtain ⟨_, p, kvs0, rfl, B⟩ := F
        exact key p H' kvs0 (B.congr fun k => by unfold baseK; rw [hm, if_pos rfl] <;> rfl)
theorem ok_acted (T : Tx K mg) : ∀ n, C8.Cal P w K mg base (n + 4) "acted" (sp_acted K n) []
  | 0 => T.calF 24 (st := s_acted) (ps := ["one", "document"]) rfl (by decide +kernel) (fun _ _ _ _ _ _ us hl => match us, hl with | [_, _], _ => rfl) fun vs H Q E ⟨_, _, _, _, _, _, _, _, _, _, h, _⟩ => absurd h (Nat.not_lt_zero _)
  | n + 1 => by
    have c_acted := ok_acted T n
    have c_copied := ok_copied (P := P) (w := w) (base := base) T 4
    have sc : FnScope ["one", "document", "found", "key", "member"] ["one", "document"] (C8.fnScope s_acted) := C8.fnScope_by (by decide +kernel)
    refine T.cal 24 (st := s_acted) rfl (by decide +kernel) sc (fun _ _ _ _ _ _ us hl => match us, hl with | [_, _], _ => rfl) (fun vs H Q E ⟨_, _, _, _, h, _⟩ => by rw [h]; rfl) (fun cdv A outer s H vs Q E f hr h => ⟨t_acted K n, ?_, pu_acted T h⟩)
    have hu := hu_of hr
    exact (pss_cons (ps_if (pt_cmpR op_eq (pe_fld (pv 0) rfl) pe_str (nomark _)) (pss_one (ps_ret (C8.pe_c c_copied hr (by omega) rfl (pa_cons (pv 1) pa_nil)))) pss_nil)
    (pss_cons (ps_if (pt_cmpR op_eq (pe_fld (pv 0) rfl) pe_str (nomark _)) (pss_one (ps_ret (pe_ifExp (pt_val (pe_callB call_isi rfl T.f_isinstance bt_isinstance (pa_cons (pe_fld (pv 0) rfl) (pa_cons (pe_bltn (v := .ty "tuple") rfl T.f_tuple bt_tuple rfl) pa_nil)))) (pe_callTy call_list_of rfl T.f_list bt_list (pa_cons (pe_fld (pv 0) rfl) pa_nil)) (pe_fld (pv 0) rfl)))) pss_nil)
    (pss_cons (ps_set (i := 2) sc.nd rfl (Or.inl rfl) (pe_ifExp (PW.pt (pw_and (pt_cmpR op_eq (pe_fld (pv 0) rfl) pe_str (nomark _)) (pw_and1 (pt_val (pe_callB call_isi rfl T.f_isinstance bt_isinstance (pa_cons (pv 1) (pa_cons (pe_bltn (v := .ty "dict") rfl T.f_dict bt_dict rfl) pa_nil))))))) (C8.pe_c c_copied hr (by omega) rfl (pa_cons (pv 1) pa_nil)) pe_dnewK))
    (pss_cons (ps_for PassesOwn.never rfl (pi_tup (pe_fld (pv 0) rfl)) (pg_tup rfl (pgs_cons (pg_name (i := 3) sc.nd rfl (Or.inl rfl)) (pgs_cons (pg_name (i := 4) sc.nd rfl (Or.inl rfl)) pgs_nil)))
      (pss_one (ps_if (pt_cmpR op_eq (pe_fld (pv 4) rfl) pe_str (nomark _)) (pss_one (ps_expr (pe_dpop2 (pv 2) (pv 3) pe_non ⟨rfl, rfl, rfl, rfl⟩))) (pss_one (ps_dput hu (pv 2) (pv 3) (C8.pe_c c_acted hr (by omega) rfl (pa_cons (pv 4) (pa_cons (pe_dget1 hu (pv 2) (pv 3) ⟨rfl, rfl, rfl, rfl⟩) pa_nil))) rfl)))))
    (pss_one (ps_ret (pv 2)))))))
end
end Tp
end
section
set_option maxRecDepth 100000
set_option maxHeartbeats 4000000
namespace Tp
open PySem PySem.Spec PyProof.Rows L2
section
variable {P : Program} {w : World} {K : PySem.W.Frag} {mg : Str → Option Value} {base : Heap} {vs : List V} {H : Hp} {Q : VK} {E : XK}
/-! ### whole(row), effect(row) -/
def sp_whole (K : PySem.W.Frag) : Sp := fun vs H Q _ => ∃ v ds, vs = [v] ∧ RowAt H ds v ∧ (∀ d ∈ ds, d.dep ≤ 3) ∧ ∀ v' H', Same H H' → EffAt (CE K) H' (whole ds) v' → Q v' H'
def t_whole (K : PySem.W.Frag) : TS :=
  (tSeq (tAsg (tCall (sp_keep K) [] C8.E0 tNil) (gName 1))
    (tSeq (tFor (iList K (tVar 0)) (gName 2)
      (tAsg (tCall (sp_joined K 4) [] C8.E0 (tCons (tVar 1) (tCons (tCall (sp_of_patch K 4) [] C8.E0 (tCons (tVar 2) (tCons (tC (.bl false)) tNil))) tNil))) (gName 1)))
    (tRet (tVar 1))))
theorem pu_whole (h : sp_whole K vs H Q E) : t_whole K { nx := fun _ H' => Q .non H', rt := Q } (L2.start ["row", "found", "patch"] vs) H := by
  obtain ⟨v, ds, rfl, ⟨a, vs, rfl, r, hds⟩, hdep, q⟩ := h
  refine sSeq (sAsg ⟨rfl, fun v1 H1 s1 he1 => ?_⟩)
  have r1 := (Le.of s1).l _ _ r
  refine sSeq (sFor ⟨_, rfl, a, rfl, ⟨_, SqL.rd r1⟩, ?_⟩)
  refine for_same (SqL.rd r1) (fun i σ H4 => ∃ v2 c, σ = [some (.ref a), some v2, c] ∧ EffAt (CE K) H4 (whole (ds.take i)) v2) ⟨_, _, rfl, he1⟩ (fun i x σ H4 hx s4 h => ?_) (fun σ H4 s4 h => ?_)
  · obtain ⟨v2, c, rfl, he2⟩ := h
    obtain ⟨d, hd, hdx⟩ := hds.nth hx
    have hdd := hdep d (List.mem_of_getElem? hd)
    refine sAsg ⟨_, rfl, _, rfl, x, false, d, rfl, hdx.mono (Le.of (s1.trans s4)), by omega, fun v3 H5 s5 he3 => ?_⟩
    refine ⟨v2, v3, whole (ds.take i), ofP d, rfl, he2.same s5, he3, by rw [ofP_dep]; omega, fun v4 H6 s6 he4 => ⟨s4.trans (s5.trans s6), v4, _, rfl, ?_⟩⟩
    rw [take_more hd, whole_snoc]
    exact he4
  · obtain ⟨v2, c, rfl, he2⟩ := h
    rw [hds.len, List.take_length] at he2
    exact sRet ⟨_, rfl, q _ _ (s1.trans s4) he2⟩
theorem ok_whole (T : Tx K mg) : C8.Cal P w K mg base 9 "whole" (sp_whole K) [] := by
  have c_keep := ok_keep (P := P) (w := w) (base := base) T
  have c_joined := ok_joined (P := P) (w := w) (base := base) T 4 (by omega)
  have c_of_patch := ok_of_patch (P := P) (w := w) (base := base) T 4
  have sc : FnScope ["row", "found", "patch"] ["row"] (C8.fnScope s_whole) := C8.fnScope_by (by decide +kernel)
  refine T.cal 25 (st := s_whole) rfl (by decide +kernel) sc (fun _ _ _ _ _ _ us hl => match us, hl with | [_], _ => rfl) (fun vs H Q E ⟨_, _, h, _⟩ => by rw [h]; rfl) (fun cdv A outer s H vs Q E f hr h => ⟨t_whole K, ?_, pu_whole h⟩)
  have hu := hu_of hr
  exact (pss_cons (ps_set (i := 1) sc.nd rfl (Or.inl rfl) (pe_c0 c_keep hr (by omega) rfl))
    (pss_cons (ps_for PassesOwn.never rfl (pi_list (pv 0)) (pg_name (i := 2) sc.nd rfl (Or.inl rfl))
      (pss_one (ps_set (i := 1) sc.nd rfl (Or.inl rfl) (C8.pe_c c_joined hr (by omega) rfl (pa_cons (pv 1) (pa_cons (C8.pe_c c_of_patch hr (by omega) rfl (pa_cons (pv 2) (pa_cons pe_bl pa_nil))) pa_nil))))))
    (pss_one (ps_ret (pv 1)))))
def sp_effect (K : PySem.W.Frag) : Sp := fun vs H Q _ => ∃ v ds, vs = [v] ∧ RowAt H ds v ∧ Rok ds ∧ ∀ v' H', Same H H' → EffAt (CE K) H' (whole ds) v' → Q v' H'
def t_effect (K : PySem.W.Frag) : TS :=
  (tSeq (tDrop (tCall sp_check_row [] C8.E0 (tCons (tVar 0) tNil)))
    (tRet (tCall (sp_whole K) [] C8.E0 (tCons (tVar 0) tNil))))
theorem pu_effect (h : sp_effect K vs H Q E) : t_effect K { nx := fun _ H' => Q .non H', rt := Q } (L2.start ["row"] vs) H := by
  obtain ⟨v, ds, rfl, hds, ok, q⟩ := h
  refine sSeq (sDrop ⟨_, rfl, v, ds, rfl, hds, ok.len, ok.dep, ok.par, fun H1 s1 => ?_⟩)
  exact sRet ⟨_, rfl, v, ds, rfl, hds.mono (Le.of s1), ok.dep, fun v' H' s he => q v' H' (s1.trans s) he⟩
theorem ok_effect (T : Tx K mg) : C8.Cal P w K mg base 10 "effect" (sp_effect K) [] := by
  have c_check_row := ok_check_row (P := P) (w := w) (base := base) T
  have c_whole := ok_whole (P := P) (w := w) (base := base) T
  have sc : FnScope ["row"] ["row"] (C8.fnScope s_effect) := C8.fnScope_by (by decide +kernel)
  refine T.cal 26 (st := s_effect) rfl (by decide +kernel) sc (fun _ _ _ _ _ _ us hl => match us, hl with | [_], _ => rfl) (fun vs H Q E ⟨_, _, h, _⟩ => by rw [h]; rfl) (fun cdv A outer s H vs Q E f hr h => ⟨t_effect K, ?_, pu_effect h⟩)
  exact (pss_cons (ps_expr (C8.pe_c c_check_row hr (by omega) rfl (pa_cons (pv 0) pa_nil)))
    (pss_one (ps_ret (C8.pe_c c_whole hr (by omega) rfl (pa_cons (pv 0) pa_nil)))))
/-! ### one + other, one(document) -/
def t_add (K : PySem.W.Frag) : TS :=
  (tRet (tCall (sp_joined K 4) [] C8.E0 (tCons (tVar 0) (tCons (tVar 1) tNil))))
theorem ok_add (T : Tx K mg) : C8.Met P w K mg base 9 (CE K) "__add__" (sp_joined K 4) [] := by
  have c_joined := ok_joined (P := P) (w := w) (base := base) T 4 (by omega)
  have sc : FnScope ["self", "other"] ["self", "other"] (C8.fnScope s_Effect_add) := C8.fnScope_by (by decide +kernel)
  refine T.met 15 (st := s_Effect_add) rfl T.cEffect T.mEffect_add sc (fun _ _ _ _ _ _ us hl => match us, hl with | [_, _], _ => rfl) (fun vs H Q E ⟨_, _, _, _, h, _⟩ => by rw [h]; rfl) (fun cdv A outer s H vs Q E f hr h => ⟨t_add K, ?_, ?_⟩)
  · exact (pss_one (ps_ret (C8.pe_c c_joined hr (by omega) rfl (pa_cons (pv 0) (pa_cons (pv 1) pa_nil)))))
  · obtain ⟨v1, v2, e1, e2, rfl, h⟩ := h
    exact sRet ⟨_, rfl, _, rfl, v1, v2, e1, e2, rfl, h⟩
def sp_call (K : PySem.W.Frag) : Sp := fun vs H Q _ => ∃ v u e d, vs = [v, u] ∧ EffAt (CE K) H e v ∧ DocAt H d u ∧ e ≠ .drop ∧ wk e = true ∧ e.dep ≤ 3 ∧ d.dep ≤ 3 ∧ ∀ v' H', Fresh H H' (act e d) v' → Q v' H'
def t_call (K : PySem.W.Frag) : TS :=
  (tSeq (tDrop (tCall sp_check [] C8.E0 (tCons (tVar 1) tNil)))
    (tRet (tCall (sp_acted K 4) [] C8.E0 (tCons (tVar 0) (tCons (tVar 1) tNil)))))
theorem ok_call (T : Tx K mg) : C8.Met P w K mg base 9 (CE K) "__call__" (sp_call K) [] := by
  have c_check := ok_check (P := P) (w := w) (base := base) T
  have c_acted := ok_acted (P := P) (w := w) (base := base) T 4
  have sc : FnScope ["self", "document"] ["self", "document"] (C8.fnScope s_Effect_call) := C8.fnScope_by (by decide +kernel)
  refine T.met 16 (st := s_Effect_call) rfl T.cEffect T.mEffect_call sc (fun _ _ _ _ _ _ us hl => match us, hl with | [_, _], _ => rfl) (fun vs H Q E ⟨_, _, _, _, h, _⟩ => by rw [h]; rfl) (fun cdv A outer s H vs Q E f hr h => ⟨t_call K, ?_, ?_⟩)
  · exact (pss_cons (ps_expr (C8.pe_c c_check hr (by omega) rfl (pa_cons (pv 1) pa_nil)))
    (pss_one (ps_ret (C8.pe_c c_acted hr (by omega) rfl (pa_cons (pv 0) (pa_cons (pv 1) pa_nil))))))
  · obtain ⟨v, u, e, d, rfl, he, hd, h1, h2, h3, h4, q⟩ := h
    refine sSeq (sDrop ⟨_, rfl, u, d, rfl, hd, h4, fun H1 s1 => ?_⟩)
    refine sRet ⟨_, rfl, _, rfl, v, u, e, d, rfl, he.same s1, ?_, fun _ => hd.ne, h1, h2, by omega, h4, fun v' H' F => q _ _ (F.wk s1)⟩
    rw [D.orN_ne hd.ne]
    exact hd.mono (Le.of s1)
/-! ### as_patch(one) -/
def sp_as_patch (K : PySem.W.Frag) (n : Nat) : Sp := fun vs H Q _ => ∃ v e, vs = [v] ∧ EffAt (CE K) H e v ∧ e ≠ .keep ∧ wk e = true ∧ e.dep < n ∧ ∀ v' H', Fresh H H' (asP e) v' → Q v' H'
def t_as_patch (K : PySem.W.Frag) (n : Nat) : TS :=
  (tSeq (tIfS (tTest (tOp rEq (tFld K (tVar 0) "kind") (tC (.str "drop")))) (tRet (tC .non)) tNext)
    (tSeq (tIfS (tTest (tOp rEq (tFld K (tVar 0) "kind") (tC (.str "set")))) (tRet (tIf (tB (tCB (rIsi K) (tCons (tFld K (tVar 0) "atom") (tCons (tC (.ty "tuple")) tNil)))) (tCB (rListOf K) (tCons (tFld K (tVar 0) "atom") tNil)) (tFld K (tVar 0) "atom"))) tNext)
    (tRet (tDc (iTup K (tFld K (tVar 0) "members")) (gTup K 2 (gCons (gName 1) (gCons (gName 2) gNil))) tYes (tVar 1) (tCall (sp_as_patch K n) [] C8.E0 (tCons (tVar 2) tNil)) [1, 2]))))
theorem asP_kid {e : Tp.E} (h : e.isMrg = true ∨ e.isBld = true) : asP e = .obj fun k => if (e.kid k).isKeep = true ∨ e.kid k = e.nil then .abs else asP (e.kid k) := by
  cases e with
  | mrg f =>
    refine congrArg D.obj (funext fun k => ?_)
    show asP (f k) = if (f k).isKeep = true ∨ f k = .keep then .abs else asP (f k)
    split
    · rename_i h
      rcases h with h | h
      · rw [Tp.E.isKeep_iff.mp h] <;> rfl
      · rw [h] <;> rfl
    · rfl
  | bld f =>
    refine congrArg D.obj (funext fun k => ?_)
    show (if (f k).isDrop = true then .abs else asP (f k)) = if (f k).isKeep = true ∨ f k = .drop then .abs else asP (f k)
    by_cases hd : f k = .drop
    · rw [if_pos (Tp.E.isDrop_iff.mpr hd), if_pos (.inr hd)]
    · rw [if_neg (fun z => hd (Tp.E.isDrop_iff.mp z))]
      split
      · rename_i h
        rcases h with h | h
        · rw [Tp.E.isKeep_iff.mp h] <;> rfl
        · exact absurd h hd
      · rfl
  | _ => rcases h with h | h <;> cases h
theorem pu_as_patch (T : Tx K mg) {n : Nat} (h : sp_as_patch K (n + 1) vs H Q E) : t_as_patch K n { nx := fun _ H' => Q .non H', rt := Q } (L2.start ["one", "key", "member"] vs) H := by
  obtain ⟨v, e, rfl, he, hnk, hwk, hn, q⟩ := h
  obtain ⟨a, dx, w, tp, ps, g, rfl, hi, ha, ht, hp, m⟩ := he.dec
  refine sSeq (sIf (qEq T rfl hi (k_drop e) ?_))
  cases hdr : e.isDrop with
  | true =>
    have ed := Tp.E.isDrop_iff.mp hdr
    subst ed
    exact ifT rfl (sRet (q _ _ (Fresh.pl (x := .non))))
  | false =>
  refine ifF rfl (sNext (sSeq (sIf (qEq T rfl hi (k_set e) ?_))))
  cases hs : e.isSet with
  | true =>
    cases e with
    | set x => exact ifT rfl (sRet (atom_new T rfl hi ha fun v' H' F => q _ _ F))
    | _ => cases hs
  | false =>
  have ekk : e.isMrg = true ∨ e.isBld = true := by
    cases e with
    | keep => exact absurd rfl hnk
    | mrg g => exact .inl rfl
    | bld g => exact .inr rfl
    | drop => cases hdr
    | set x => cases hs
  rw [asP_kid ekk] at q
  refine ifF rfl (sNext (sRet (iT (fMem T rfl hi ⟨tp, rfl, ⟨_, ht.seq⟩, fun p hpn => ?_⟩))))
  refine dc_it (walk_tup (xs := ps.map V.ref)) (fun i H2 => ∃ kvs2, Bld H p H2 kvs2 fun k => if upto ((prs g kys).map (·.1)) i (kK k) = true then asP (e.kid k) else .abs) ⟨[], (Bld.start hpn).congr fun k => by rw [upto_zero] <;> rfl⟩
    (fun i H2 _ ⟨_, B⟩ => SqT.im (Im.of (C := CE K) B.same) ht.seq) (fun i x H2 H3 hlt ⟨kvs2, B⟩ y => ?_) (fun H2 ⟨kvs2, B⟩ => ?_)
  · obtain ⟨rfl, hx⟩ := y
    obtain ⟨pp, k, u, rfl, hpp, hk1, hg, hu, hne⟩ := mem_turn hp m hx
    have hki : ((prs g kys).map (·.1))[i]? = some (kK k) := by rw [List.getElem?_map, hk1] <;> rfl
    refine gPair (B.same _ _ hpp) ⟨rfl, _, rfl, _, rfl, u, e.kid k, rfl, hu.same B.same, kid_keep hwk (m k) hg, wk_kid' hwk k, kid_lt hn (m k) hg, fun v' H' F => ?_⟩
    have B2 := B.call F.same
    exact ⟨kvs2, kK k, rfl, B2.at_, B2.ok.lt, _, (B2.put (B.into F.same F.doc)).congr fun j => upto_step hki (g := fun k => asP (e.kid k)) (h := fun _ => .abs) rfl j⟩
  · refine q _ _ (Fresh.obj (B.congr fun k => ?_))
    rw [upto_all (by rw [List.length_map, List.length_map, hp.len]; exact Nat.le_refl _), ← valV_mem, prs_at]
    have mk := m k
    cases e2 : g k with
    | none =>
      rw [e2] at mk
      exact (if_pos (.inr mk)).symm
    | some u =>
      have kk := kid_keep hwk (m k) e2
      rw [e2] at mk
      exact (if_neg fun z => z.elim (fun z => kk (Tp.E.isKeep_iff.mp z)) fun z => mk.1 z).symm
theorem ok_as_patch (T : Tx K mg) : ∀ n, C8.Cal P w K mg base n "as_patch" (sp_as_patch K n) []
  | 0 => T.calF 27 (st := s_as_patch) (ps := ["one"]) rfl (by decide +kernel) (fun _ _ _ _ _ _ us hl => match us, hl with | [_], _ => rfl) fun vs H Q E ⟨_, _, _, _, _, _, h, _⟩ => absurd h (Nat.not_lt_zero _)
  | n + 1 => by
    have c_as_patch := ok_as_patch T n
    have sc : FnScope ["one", "key", "member"] ["one"] (C8.fnScope s_as_patch) := C8.fnScope_by (by decide +kernel)
    refine T.cal 27 (st := s_as_patch) rfl (by decide +kernel) sc (fun _ _ _ _ _ _ us hl => match us, hl with | [_], _ => rfl) (fun vs H Q E ⟨_, _, h, _⟩ => by rw [h]; rfl) (fun cdv A outer s H vs Q E f hr h => ⟨t_as_patch K n, ?_, pu_as_patch T h⟩)
    have hu := hu_of hr
    exact (pss_cons (ps_if (pt_cmpR op_eq (pe_fld (pv 0) rfl) pe_str (nomark _)) (pss_one (ps_ret pe_non)) pss_nil)
    (pss_cons (ps_if (pt_cmpR op_eq (pe_fld (pv 0) rfl) pe_str (nomark _)) (pss_one (ps_ret (pe_ifExp (pt_val (pe_callB call_isi rfl T.f_isinstance bt_isinstance (pa_cons (pe_fld (pv 0) rfl) (pa_cons (pe_bltn (v := .ty "tuple") rfl T.f_tuple bt_tuple rfl) pa_nil)))) (pe_callTy call_list_of rfl T.f_list bt_list (pa_cons (pe_fld (pv 0) rfl) pa_nil)) (pe_fld (pv 0) rfl)))) pss_nil)
    (pss_one (ps_ret (pe_dc (own := [("key", 1), ("member", 2)]) (g := (gTup K 2 (gCons (gName 1) (gCons (gName 2) gNil)))) (tt := tYes) (tk := (tVar 1)) (tv := (tCall (sp_as_patch K n) [] C8.E0 (tCons (tVar 2) tNil))) rfl sc.nd (pi_tup (pe_fld (pv 0) rfl)) (blkOk_by (N := ["one", "key", "member"]) (sc := C8.fnScope s_as_patch) (by decide +kernel)) (fun _ _ _ _ _ => (pg_tup rfl (pgs_cons (pg_name (i := 1) sc.nd rfl (Or.inl rfl)) (pgs_cons (pg_name (i := 2) sc.nd rfl (Or.inl rfl)) pgs_nil)))) (fun _ _ _ _ _ => pts_nil) (fun _ _ _ _ _ => (pv 1)) (fun _ _ _ _ _ => (C8.pe_c c_as_patch hr (by omega) rfl (pa_cons (pv 2) pa_nil))))))))
/-! ### clearing(one) -/
def sp_clearing (K : PySem.W.Frag) (n : Nat) : Sp := fun vs H Q _ => ∃ v e, vs = [v] ∧ EffAt (CE K) H e v ∧ bs e = true ∧ e.dep < n ∧ n ≤ 20 ∧ ∀ v' H', Fresh H H' (clr e) v' → Q v' H'
def t_clearing (K : PySem.W.Frag) (n : Nat) : TS :=
  (tSeq (tIfS (tTest (tOp rEq (tFld K (tVar 0) "kind") (tC (.str "build")))) (tRet (tC .non)) tNext)
    (tRet (tDc (iTup K (tFld K (tVar 0) "members")) (gTup K 2 (gCons (gName 1) (gCons (gName 2) gNil))) (tB (tMeth (He.ga K "Effect") "builds" (sp_builds K 20) [] C8.E0 (tVar 2) tNil)) (tVar 1) (tCall (sp_clearing K n) [] C8.E0 (tCons (tVar 2) tNil)) [1, 2])))
theorem pu_clearing (T : Tx K mg) {n : Nat} (h : sp_clearing K (n + 1) vs H Q E) : t_clearing K n { nx := fun _ H' => Q .non H', rt := Q } (L2.start ["one", "key", "member"] vs) H := by
  obtain ⟨v, e, rfl, he, hb, hn, hn20, q⟩ := h
  obtain ⟨a, dx, w, tp, ps, g, rfl, hi, ha, ht, hp, m⟩ := he.dec
  refine sSeq (sIf (qEq T rfl hi (k_bld e) ?_))
  cases e with
  | keep => cases hb
  | drop => cases hb
  | set x => cases hb
  | bld f => exact ifT rfl (sRet (q _ _ (Fresh.pl (x := .non))))
  | mrg f =>
  refine ifF rfl (sNext (sRet (iT (fMem T rfl hi ⟨tp, rfl, ⟨_, ht.seq⟩, fun p hpn => ?_⟩))))
  refine dc_it (walk_tup (xs := ps.map V.ref)) (fun i H2 => ∃ kvs2, Bld H p H2 kvs2 fun k => if upto ((prs g kys).map (·.1)) i (kK k) = true then (if bs (f k) = true then clr (f k) else .abs) else .abs) ⟨[], (Bld.start hpn).congr fun k => by rw [upto_zero] <;> rfl⟩
    (fun i H2 _ ⟨_, B⟩ => SqT.im (Im.of (C := CE K) B.same) ht.seq) (fun i x H2 H3 hlt ⟨kvs2, B⟩ y => ?_) (fun H2 ⟨kvs2, B⟩ => ?_)
  · obtain ⟨rfl, hx⟩ := y
    obtain ⟨pp, k, u, rfl, hpp, hk1, hg, hu, hne⟩ := mem_turn hp m hx
    have hki : ((prs g kys).map (·.1))[i]? = some (kK k) := by rw [List.getElem?_map, hk1] <;> rfl
    have hkd : (f k).dep < n := kid_lt hn (m k) hg
    have hu : EffAt (CE K) H (f k) u := hu
    obtain ⟨au, dxu, wu, tpu, psu, gu, eu, hiu, _⟩ := hu.dec
    have eu : u = .ref au := eu
    subst eu
    have step := fun (x : D) (ex : (if bs (f k) = true then clr (f k) else D.abs) = x) => upto_step hki (g := fun k => if bs (f k) = true then clr (f k) else D.abs) (h := fun _ => D.abs) (x := x) ex
    refine gPair (B.same _ _ hpp) ⟨rfl, _, rfl, au, dxu, _, rfl, B.same _ _ hiu, rfl, _, f k, rfl, hu.same B.same, by omega, fun H4 s4 => ?_⟩
    have B4 := B.call s4
    refine ⟨_, rfl, ?_⟩
    cases hbk : bs (f k) with
    | false =>
      refine ifF rfl ⟨kvs2, B4.congr fun j => ?_⟩
      rw [← step .abs (by rw [hbk] <;> rfl) j]
      by_cases q : j = k
      · subst q
        rw [if_pos rfl, if_neg (by rw [upto_not (prs_ok g).1 hki]; exact Bool.false_ne_true)]
      · rw [if_neg q]
    | true =>
      refine ifT rfl ⟨_, rfl, _, rfl, _, f k, rfl, (hu.same B.same).same s4, hbk, hkd, by omega, fun v' H' F => ?_⟩
      have B2 := B4.call F.same
      exact ⟨kvs2, kK k, rfl, B2.at_, B2.ok.lt, _, (B2.put (B4.into F.same F.doc)).congr fun j => step _ (by rw [hbk] <;> rfl) j⟩
  · refine q _ _ (Fresh.obj (B.congr fun k => ?_))
    rw [upto_all (by rw [List.length_map, List.length_map, hp.len]; exact Nat.le_refl _), ← valV_mem, prs_at]
    have mk := m k
    show _ = if bs (f k) = true then clr (f k) else .abs
    cases e2 : g k with
    | none =>
      rw [e2] at mk
      have mk : f k = .keep := mk
      rw [mk] <;> rfl
    | some u => rfl
theorem ok_clearing (T : Tx K mg) : ∀ n, C8.Cal P w K mg base (n + 20) "clearing" (sp_clearing K n) []
  | 0 => T.calF 28 (st := s_clearing) (ps := ["one"]) rfl (by decide +kernel) (fun _ _ _ _ _ _ us hl => match us, hl with | [_], _ => rfl) fun vs H Q E ⟨_, _, _, _, _, h, _⟩ => absurd h (Nat.not_lt_zero _)
  | n + 1 => by
    have c_clearing := ok_clearing T n
    have c_builds := ok_builds (P := P) (w := w) (base := base) T 20
    have sc : FnScope ["one", "key", "member"] ["one"] (C8.fnScope s_clearing) := C8.fnScope_by (by decide +kernel)
    refine T.cal 28 (st := s_clearing) rfl (by decide +kernel) sc (fun _ _ _ _ _ _ us hl => match us, hl with | [_], _ => rfl) (fun vs H Q E ⟨_, _, h, _⟩ => by rw [h]; rfl) (fun cdv A outer s H vs Q E f hr h => ⟨t_clearing K n, ?_, pu_clearing T h⟩)
    have hu := hu_of hr
    exact (pss_cons (ps_if (pt_cmpR op_eq (pe_fld (pv 0) rfl) pe_str (nomark _)) (pss_one (ps_ret pe_non)) pss_nil)
    (pss_one (ps_ret (pe_dc (own := [("key", 1), ("member", 2)]) (g := (gTup K 2 (gCons (gName 1) (gCons (gName 2) gNil)))) (tt := (tB (tMeth (He.ga K "Effect") "builds" (sp_builds K 20) [] C8.E0 (tVar 2) tNil))) (tk := (tVar 1)) (tv := (tCall (sp_clearing K n) [] C8.E0 (tCons (tVar 2) tNil))) rfl sc.nd (pi_tup (pe_fld (pv 0) rfl)) (blkOk_by (N := ["one", "key", "member"]) (sc := C8.fnScope s_clearing) (by decide +kernel)) (fun _ _ _ _ _ => (pg_tup rfl (pgs_cons (pg_name (i := 1) sc.nd rfl (Or.inl rfl)) (pgs_cons (pg_name (i := 2) sc.nd rfl (Or.inl rfl)) pgs_nil)))) (fun _ _ _ _ _ => (pts_one (pt_val (C8.pe_mt0 c_builds hr (by omega) (pv 2))))) (fun _ _ _ _ _ => (pv 1)) (fun _ _ _ _ _ => (C8.pe_c c_clearing hr (by omega) rfl (pa_cons (pv 2) pa_nil)))))))
/-! ### short(row), compact(row) -/
/-- a new list of new documents -/
def RowNew (H H' : Hp) (ds : List D) (v : V) : Prop := Same H H' ∧ ∃ a vs, v = .ref a ∧ H a = none ∧ H' a = some (.lst vs) ∧ DocsAt (nw H H') ds vs
theorem RowNew.row {H H' : Hp} {ds : List D} {v : V} (h : RowNew H H' ds v) : RowAt H' ds v := by
  obtain ⟨_, a, vs, e, _, h1, h2⟩ := h
  exact ⟨a, vs, e, .inl h1, h2.mono (Le.of (same_nw H H'))⟩
theorem RowNew.wk {H H1 H2 : Hp} {ds : List D} {v : V} (s : Same H H1) (h : RowNew H1 H2 ds v) : RowNew H H2 ds v := by
  obtain ⟨s2, a, vs, e, h0, h1, h2⟩ := h
  exact ⟨s.trans s2, a, vs, e, s.free h0, h1, h2.mono (Le.of (nw_mono (fun _ q => s.free q) (Same.refl H2)))⟩
def sp_short (K : PySem.W.Frag) : Sp := fun vs H Q _ => ∃ v ds, vs = [v] ∧ RowAt H ds v ∧ (∀ d ∈ ds, d.dep ≤ 3) ∧ ∀ v' H', RowNew H H' (short (whole ds)) v' → Q v' H'
def t_short (K : PySem.W.Frag) : TS :=
  (tSeq (tAsg (tCall (sp_whole K) [] C8.E0 (tCons (tVar 0) tNil)) (gName 1))
    (tSeq (tIfS (tTest (tOp rEq (tFld K (tVar 1) "kind") (tC (.str "keep")))) (tRet (tLst tNil)) tNext)
    (tSeq (tIfS (tNot (tB (tMeth (He.ga K "Effect") "builds" (sp_builds K 20) [] C8.E0 (tVar 1) tNil))) (tRet (tLst (tCons (tCall (sp_as_patch K 4) [] C8.E0 (tCons (tVar 1) tNil)) tNil))) tNext)
    (tRet (tLst (tCons (tCall (sp_clearing K 4) [] C8.E0 (tCons (tVar 1) tNil)) (tCons (tCall (sp_as_patch K 4) [] C8.E0 (tCons (tVar 1) tNil)) tNil)))))))
theorem pu_short (T : Tx K mg) (h : sp_short K vs H Q E) : t_short K { nx := fun _ H' => Q .non H', rt := Q } (L2.start ["row", "found"] vs) H := by
  obtain ⟨v, ds, rfl, hds, hdep, q⟩ := h
  refine sSeq (sAsg ⟨_, rfl, v, ds, rfl, hds, hdep, fun v1 H1 s1 he => ?_⟩)
  have hwf : wf (whole ds) = true := wf_whole ds fun p hp => by
    obtain ⟨a, vs, _, _, h⟩ := hds
    exact h.ne p hp
  have hd3 := whole_dep ds hdep
  obtain ⟨a, dx, w, tp, ps, g, rfl, hi, _⟩ := he.dec
  refine sSeq (sIf (qEq T rfl hi (k_keep _) ?_))
  cases hk : (whole ds).isKeep with
  | true =>
    refine ifT rfl (sRet ⟨Nat.zero_le _, fun l hl => q _ _ ⟨s1.trans (same_new hl _), l, [], rfl, s1.free hl, upd_same, ?_⟩⟩)
    unfold short
    rw [hk, if_pos rfl]
    exact .nil
  | false =>
  have hnk : whole ds ≠ .keep := fun z => by rw [z] at hk; cases hk
  refine ifF rfl (sNext (sSeq (sIf ⟨_, rfl, a, dx, _, rfl, hi, rfl, _, _, rfl, he, by omega, fun H2 s2 => ⟨_, rfl, ?_⟩⟩)))
  have he2 := he.same s2
  cases hb : bs (whole ds) with
  | false =>
    refine ifT rfl (sRet ⟨_, rfl, _, _, rfl, he2, hnk, wk_wf hwf, by omega, fun v' H' F => ⟨szO (show 1 ≤ 100000 by decide), fun l hl => ?_⟩⟩)
    have s12 := (s1.trans s2).trans F.same
    refine q _ _ ⟨s12.trans (same_new hl _), l, [v'], rfl, s12.free hl, upd_same, ?_⟩
    unfold short
    rw [hk, if_neg Bool.false_ne_true, hb, if_neg Bool.false_ne_true]
    exact .cons (F.keep (s1.trans s2) (same_new hl _)) .nil
  | true =>
    refine ifF rfl (sNext (sRet ⟨_, rfl, _, _, rfl, he2, hb, by omega, by omega, fun v' H' F => ?_⟩))
    refine ⟨_, rfl, _, _, rfl, he2.same F.same, hnk, wk_wf hwf, by omega, fun v2 H3 F2 => ⟨twoS, fun l hl => ?_⟩⟩
    have s12 := ((s1.trans s2).trans F.same).trans F2.same
    refine q _ _ ⟨s12.trans (same_new hl _), l, [v', v2], rfl, s12.free hl, upd_same, ?_⟩
    unfold short
    rw [hk, if_neg Bool.false_ne_true, hb, if_pos rfl]
    exact .cons (F.keep (s1.trans s2) (F2.same.trans (same_new hl _))) (.cons (F2.keep ((s1.trans s2).trans F.same) (same_new hl _)) .nil)
theorem ok_short (T : Tx K mg) : C8.Cal P w K mg base 25 "short" (sp_short K) [] := by
  have c_whole := ok_whole (P := P) (w := w) (base := base) T
  have c_builds := ok_builds (P := P) (w := w) (base := base) T 20
  have c_as_patch := ok_as_patch (P := P) (w := w) (base := base) T 4
  have c_clearing := ok_clearing (P := P) (w := w) (base := base) T 4
  have sc : FnScope ["row", "found"] ["row"] (C8.fnScope s_short) := C8.fnScope_by (by decide +kernel)
  refine T.cal 29 (st := s_short) rfl (by decide +kernel) sc (fun _ _ _ _ _ _ us hl => match us, hl with | [_], _ => rfl) (fun vs H Q E ⟨_, _, h, _⟩ => by rw [h]; rfl) (fun cdv A outer s H vs Q E f hr h => ⟨t_short K, ?_, pu_short T h⟩)
  have hu := hu_of hr
  exact (pss_cons (ps_set (i := 1) sc.nd rfl (Or.inl rfl) (C8.pe_c c_whole hr (by omega) rfl (pa_cons (pv 0) pa_nil)))
    (pss_cons (ps_if (pt_cmpR op_eq (pe_fld (pv 1) rfl) pe_str (nomark _)) (pss_one (ps_ret (pe_lst pa_nil))) pss_nil)
    (pss_cons (ps_if (pt_not (pt_val (C8.pe_mt0 c_builds hr (by omega) (pv 1)))) (pss_one (ps_ret (pe_lst (pa_cons (C8.pe_c c_as_patch hr (by omega) rfl (pa_cons (pv 1) pa_nil)) pa_nil)))) pss_nil)
    (pss_one (ps_ret (pe_lst (pa_cons (C8.pe_c c_clearing hr (by omega) rfl (pa_cons (pv 1) pa_nil)) (pa_cons (C8.pe_c c_as_patch hr (by omega) rfl (pa_cons (pv 1) pa_nil)) pa_nil))))))))
def sp_compact (K : PySem.W.Frag) : Sp := fun vs H Q _ => ∃ v ds, vs = [v] ∧ RowAt H ds v ∧ Rok ds ∧ ∀ v' H', RowNew H H' (short (whole ds)) v' → Q v' H'
def t_compact (K : PySem.W.Frag) : TS :=
  (tSeq (tDrop (tCall sp_check_row [] C8.E0 (tCons (tVar 0) tNil)))
    (tRet (tCall (sp_short K) [] C8.E0 (tCons (tVar 0) tNil))))
theorem pu_compact (h : sp_compact K vs H Q E) : t_compact K { nx := fun _ H' => Q .non H', rt := Q } (L2.start ["row"] vs) H := by
  obtain ⟨v, ds, rfl, hds, ok, q⟩ := h
  refine sSeq (sDrop ⟨_, rfl, v, ds, rfl, hds, ok.len, ok.dep, ok.par, fun H1 s1 => ?_⟩)
  exact sRet ⟨_, rfl, v, ds, rfl, hds.mono (Le.of s1), ok.dep, fun v' H' R => q v' H' (R.wk s1)⟩
theorem ok_compact (T : Tx K mg) : C8.Cal P w K mg base 26 "compact" (sp_compact K) [] := by
  have c_check_row := ok_check_row (P := P) (w := w) (base := base) T
  have c_short := ok_short (P := P) (w := w) (base := base) T
  have sc : FnScope ["row"] ["row"] (C8.fnScope s_compact) := C8.fnScope_by (by decide +kernel)
  refine T.cal 30 (st := s_compact) rfl (by decide +kernel) sc (fun _ _ _ _ _ _ us hl => match us, hl with | [_], _ => rfl) (fun vs H Q E ⟨_, _, h, _⟩ => by rw [h]; rfl) (fun cdv A outer s H vs Q E f hr h => ⟨t_compact K, ?_, pu_compact h⟩)
  exact (pss_cons (ps_expr (C8.pe_c c_check_row hr (by omega) rfl (pa_cons (pv 0) pa_nil)))
    (pss_one (ps_ret (C8.pe_c c_short hr (by omega) rfl (pa_cons (pv 0) pa_nil)))))
end
end Tp
end
section
set_option maxRecDepth 100000
set_option maxHeartbeats 4000000
namespace Tp
open PySem PySem.Spec PyProof.Rows L2
section
variable {P : Program} {w : World} {K : PySem.W.Frag} {mg : Str → Option Value} {base : Heap} {vs : List V} {H : Hp} {Q : VK} {E : XK}
abbrev CL (K : PySem.W.Frag) : Addr := He.ga K "Log"
section
variable {σ : L2.St} {i : Nat} {a hl dx : Addr} {vb vp : V}
theorem fBeg (T : Tx K mg) (hs : σ[i]? = some (some (.ref a))) (h : H a = some (.ins (CL K) dx (flL vb vp hl))) (q : Q vb H) : tFld K (tVar i) "begun" σ H Q := ⟨_, hs, a, _, dx, _, _, rfl, h, T.cLog, T.nLog_begun, rfl, q⟩
theorem fPat (T : Tx K mg) (hs : σ[i]? = some (some (.ref a))) (h : H a = some (.ins (CL K) dx (flL vb vp hl))) (q : Q vp H) : tFld K (tVar i) "patches" σ H Q := ⟨_, hs, a, _, dx, _, _, rfl, h, T.cLog, T.nLog_patches, rfl, q⟩
theorem fHis (T : Tx K mg) (hs : σ[i]? = some (some (.ref a))) (h : H a = some (.ins (CL K) dx (flL vb vp hl))) (q : Q (.ref hl) H) : tFld K (tVar i) "history" σ H Q := ⟨_, hs, a, _, dx, _, _, rfl, h, T.cLog, T.nLog_history, rfl, q⟩
end
/-! ### Log() -/
def sp_Log (K : PySem.W.Frag) : Sp := fun vs H Q _ => ∃ x dx, vs = [.ref x] ∧ H x = some (.ins (CL K) dx []) ∧ ∀ H' hl, (∀ b o, b ≠ x → H b = some o → H' b = some o) → H hl = none → (∀ sx, H sx ≠ none → LogAt sx (CL K) H' x hl (.obj fun _ => .abs) [] []) → Q .non H'
def t_Log (K : PySem.W.Frag) : TS :=
  (tSeq (sFld K (tVar 0) tDNewK "begun")
    (tSeq (sFld K (tVar 0) (tLst tNil) "patches")
    (sFld K (tVar 0) (tLst tNil) "history")))
theorem pu_Log (T : Tx K mg) (h : sp_Log K vs H Q E) : t_Log K { nx := fun _ H' => Q .non H', rt := Q } (L2.start ["self"] vs) H := by
  obtain ⟨x, dx, rfl, hx, q⟩ := h
  refine sSeq (sFldI fun p1 hp1 => ⟨_, rfl, x, _, dx, [], rfl, same_new hp1 _ _ _ hx, T.cLog, T.nLog_begun, (show 0 < 1000 by decide), ?_⟩)
  have n1 : p1 ≠ x := fun e => by rw [e, hx] at hp1; cases hp1
  refine sSeq (sFldI ⟨Nat.zero_le _, fun p2 hp2 => ⟨_, rfl, x, _, dx, [("begun", .ref p1)], rfl, same_new hp2 _ _ _ upd_same, T.cLog, T.nLog_patches, (show 1 < 1000 by decide), ?_⟩⟩)
  have n2 : p2 ≠ x := fun e => by rw [e, upd_same] at hp2; cases hp2
  have n12 : p2 ≠ p1 := fun e => by rw [e, upd_ne n1, upd_same] at hp2; cases hp2
  refine sFldI ⟨Nat.zero_le _, fun p3 hp3 => ⟨_, rfl, x, _, dx, [("begun", .ref p1), ("patches", .ref p2)], rfl, same_new hp3 _ _ _ upd_same, T.cLog, T.nLog_history, (show 2 < 1000 by decide), ?_⟩⟩
  have n3 : p3 ≠ x := fun e => by rw [e, upd_same] at hp3; cases hp3
  have n32 : p3 ≠ p2 := fun e => by rw [e, upd_ne n2, upd_same] at hp3; cases hp3
  have n31 : p3 ≠ p1 := fun e => by rw [e, upd_ne n1, upd_ne (Ne.symm n12), upd_ne n1, upd_same] at hp3; cases hp3
  have e3 : H p3 = none := by
    rw [upd_ne n3, upd_ne n32, upd_ne n3, upd_ne n31] at hp3
    exact hp3
  have e2 : H p2 = none := by
    rw [upd_ne n2, upd_ne n12] at hp2
    exact hp2
  have old : ∀ b o, b ≠ x → H b = some o → (upd (upd (upd (upd (upd (upd H p1 (.dK [])) x (.ins (CL K) dx (putF "begun" (.ref p1) []))) p2 (.lst [])) x (.ins (CL K) dx (putF "patches" (.ref p2) [("begun", .ref p1)]))) p3 (.lst [])) x (.ins (CL K) dx (putF "history" (.ref p3) [("begun", .ref p1), ("patches", .ref p2)]))) b = some o := fun b o hb e => by
    have h1 : b ≠ p1 := ne_of_none e hp1
    have h2 : b ≠ p2 := ne_of_none e e2
    have h3 : b ≠ p3 := ne_of_none e e3
    rw [upd_ne hb, upd_ne h3, upd_ne hb, upd_ne h2, upd_ne hb, upd_ne h1]
    exact e
  refine q _ p3 old e3 fun sx hsx => ?_
  have m1 : p1 ≠ sx := fun e => hsx (by rw [← e]; exact hp1)
  have m2 : p2 ≠ sx := fun e => hsx (by rw [← e]; exact e2)
  have m3 : p3 ≠ sx := fun e => hsx (by rw [← e]; exact e3)
  refine ⟨dx, .ref p1, .ref p2, [], upd_same, ?_, ?_, ?_, .nil, ?_, Ne.symm m3⟩
  · rw [upd_ne n3, upd_same] <;> rfl
  · refine DocAt.obj_iff.mpr ⟨p1, [], rfl, .inl (rs_of ?_ n1 (Ne.symm n31) m1), tabOk_nil, fun k => rfl⟩
    rw [upd_ne n1, upd_ne (Ne.symm n31), upd_ne n1, upd_ne (Ne.symm n12), upd_ne n1, upd_same]
  · refine ⟨p2, [], rfl, .inl (rs_of ?_ n2 (Ne.symm n32) m2), .nil⟩
    rw [upd_ne n2, upd_ne (Ne.symm n32), upd_ne n2, upd_same]
  · by_cases e : sx = x
    · rw [e, upd_same]
      exact fun z => nomatch z
    · cases z : H sx with
      | none => exact absurd z hsx
      | some o =>
        rw [old _ _ e z]
        exact fun z => nomatch z
theorem ok_Log (T : Tx K mg) : C8.Mak P w K mg base 1 "Log" (CL K) (sp_Log K) [] := by
  have sc : FnScope ["self"] ["self"] (C8.fnScope s_Log_init) := C8.fnScope_by (by decide +kernel)
  refine T.mak 31 (st := s_Log_init) rfl (by decide +kernel) T.kLog sc (fun _ _ _ _ _ _ us hl => match us, hl with | [_], _ => rfl) (fun vs H Q E ⟨_, _, h, _⟩ => by rw [h]; rfl) (fun cdv A outer s H vs Q E f hr h => ⟨t_Log K, ?_, pu_Log T h⟩)
  exact (pss_cons (ps_fld (pv 0) pe_dnewK rfl)
    (pss_cons (ps_fld (pv 0) (pe_lst pa_nil) rfl)
    (pss_one (ps_fld (pv 0) (pe_lst pa_nil) rfl))))
theorem mkL (T : Tx K mg) {H1 : Hp} {Q : VK} (q : ∀ a hl H', Same H1 H' → H1 a = none → H1 hl = none → (∀ sx, H1 sx ≠ none ∨ sx = a → LogAt sx (CL K) H' a hl (.obj fun _ => .abs) [] []) → Q (.ref a) H') :
    ∀ x dx, H1 x = none → H1 dx = none → dx ≠ x → sp_Log K (.ref x :: ([] ++ [])) (upd (upd H1 dx (.own x)) x (.ins (CL K) dx [])) (fun v H2 => v = .non ∧ Q (.ref x) H2) C8.E0 := by
  intro x dx hx hdx ne
  refine ⟨x, dx, rfl, upd_same, fun H' hl k hh L => ⟨rfl, ?_⟩⟩
  have n1 : hl ≠ x := fun e => by rw [e, upd_same] at hh; cases hh
  have n2 : hl ≠ dx := fun e => by rw [e, upd_ne ne, upd_same] at hh; cases hh
  rw [upd_ne n1, upd_ne n2] at hh
  refine q _ hl _ (Same.made hx hdx fun b o e hb => k b o hb e) hx hh fun sx h => L sx ?_
  rcases h with h | h
  · have m1 : sx ≠ x := fun e => h (by rw [e]; exact hx)
    have m2 : sx ≠ dx := fun e => h (by rw [e]; exact hdx)
    rw [upd_ne m1, upd_ne m2]
    exact h
  · rw [h, upd_same]
    exact fun z => nomatch z
/-! ### go_on(begun, patches) -/
def hist2 (d d' : D) (ds ds' : List D) (hist : List (D × List D)) : List (D × List D) := if d' = d ∧ ds' = ds then hist else hist ++ [(d, ds)]
def sp_go_on (K : PySem.W.Frag) : Sp := fun vs H Q _ => ∃ sx a hl d ds hist v u d' ds', vs = [.ref a, v, u] ∧ LogAt sx (CL K) H a hl d ds hist ∧ DocAt (rs sx H a hl) d' v ∧ RowAt (rs sx H a hl) ds' u ∧ d'.dep < 20 ∧ (∀ p ∈ ds', p.dep < 20) ∧ hist.length ≤ 900 ∧
  ∀ H', Same (rest H a hl) (rest H' a hl) → LogAt sx (CL K) H' a hl d' ds' (hist2 d d' ds ds' hist) → Q .non H'
def t_go_on (K : PySem.W.Frag) : TS :=
  (tIfS (tTest (tOp rNePair (tTup (tCons (tVar 1) (tCons (tVar 2) tNil))) (tTup (tCons (tFld K (tVar 0) "begun") (tCons (tFld K (tVar 0) "patches") tNil))))) (tSeq (tDrop (tBM K "list" rAppend (tFld K (tVar 0) "history") (tCons (tTup (tCons (tFld K (tVar 0) "begun") (tCons (tFld K (tVar 0) "patches") tNil))) tNil)))
    (tAsg (tTup (tCons (tVar 1) (tCons (tVar 2) tNil))) (gTup K 2 (gCons (gFld K (tVar 0) "begun") (gCons (gFld K (tVar 0) "patches") gNil))))) tNext)
theorem pu_go_on (T : Tx K mg) (h : sp_go_on K vs H Q E) : t_go_on K { nx := fun _ H' => Q .non H', rt := Q } (L2.start ["self", "begun", "patches"] vs) H := by
  obtain ⟨sx, a, hl, d, ds, hist, v, u, d', ds', rfl, ⟨dx, vb, vp, ps, L⟩, hv, hu, h1, h2, h3, q⟩ := h
  refine sIf (xTest (xOp (xTup ⟨_, rfl, _, rfl, twoS, fun p hp => ?_⟩)))
  have s1 := same_new hp (.tup [v, u])
  refine xTup (aCons (fBeg T rfl (s1 _ _ L.ins) (aCons (fPat T rfl (s1 _ _ L.ins) (aNil ⟨twoS, fun p' hp' => ?_⟩)))))
  have s2 := s1.trans (same_new hp' (.tup [vb, vp]))
  have sr := (same_rs (sx := sx) (H := H) (a := a) (hl := hl)).trans s2
  refine ⟨p, p', v, u, vb, vp, d', d, ds', ds, rfl, rfl, same_new hp' _ _ _ upd_same, upd_same, hv.mono (Le.of sr), L.doc.mono (Le.of sr), hu.mono (Le.of sr), L.row.mono (Le.of sr), h1, h2, _, rfl, ?_⟩
  have L2' := L.sm s2
  have hv2 := hv.mono (Le.of (rs_mono (sx := sx) (a := a) (hl := hl) s2))
  have hu2 := hu.mono (Le.of (rs_mono (sx := sx) (a := a) (hl := hl) s2))
  have sR := rest_mono (a := a) (hl := hl) s2
  generalize upd (upd H p (.tup [v, u])) p' (.tup [vb, vp]) = H2 at *
  by_cases same : d' = d ∧ ds' = ds
  · obtain ⟨e1, e2⟩ := same
    subst e1
    subst e2
    refine ifF (by simp) (sNext (q _ sR ⟨dx, vb, vp, ps, ?_⟩))
    unfold hist2
    rw [if_pos ⟨rfl, rfl⟩]
    exact L2'
  · refine ifT ?_ (sSeq (sDrop ?_))
    · rcases Classical.em (d' = d) with e1 | e1
      · have e2 : ds' ≠ ds := fun z => same ⟨e1, z⟩
        simp [e1, e2]
      · simp [e1]
    · refine fHis T rfl L2'.ins ⟨.inl ⟨rfl, _, SqL.of L2'.his⟩, ?_⟩
      refine aCons (xTup (aCons (fBeg T rfl L2'.ins (aCons (fPat T rfl L2'.ins (aNil ⟨twoS, fun p3 hp3 => ?_⟩))))))
      have s3 := same_new hp3 (.tup [vb, vp])
      have n3a : p3 ≠ a := fun e => by rw [e, L2'.ins] at hp3; cases hp3
      have n3h : p3 ≠ hl := fun e => by rw [e, L2'.his] at hp3; cases hp3
      have hlen : (ps.map V.ref).length < 1000 := by rw [List.length_map, Paired.length L.old]; omega
      refine ⟨hl, ps.map V.ref, .ref p3, rfl, rfl, s3 _ _ L2'.his, small1000 (by omega), ?_⟩
      have ane := L2'.ne
      refine sAsg (xTup ⟨_, rfl, _, rfl, twoS, fun p4 hp4 => ?_⟩)
      have n4a : p4 ≠ a := fun e => by rw [e, upd_ne ane, upd_ne (Ne.symm n3a), L2'.ins] at hp4; cases hp4
      have n4h : p4 ≠ hl := fun e => by rw [e, upd_same] at hp4; cases hp4
      have n43 : p4 ≠ p3 := fun e => by rw [e, upd_ne n3h, upd_same] at hp4; cases hp4
      have ia : (upd (upd (upd H2 p3 (.tup [vb, vp])) hl (.lst (ps.map V.ref ++ [.ref p3]))) p4 (.tup [v, u])) a = some (.ins (CL K) dx (flL vb vp hl)) := by
        rw [upd_ne (Ne.symm n4a), upd_ne ane, upd_ne (Ne.symm n3a)]
        exact L2'.ins
      refine ⟨p4, _, rfl, SqT.of upd_same, rfl, v, _, rfl, ⟨_, rfl, a, _, dx, _, rfl, ia, T.cLog, T.nLog_begun, (show 3 < 1000 by decide), ?_⟩⟩
      refine ⟨u, _, rfl, ⟨_, rfl, a, _, dx, _, rfl, upd_same, T.cLog, T.nLog_patches, (show 3 < 1000 by decide), ?_⟩⟩
      refine ⟨rfl, ?_⟩
      -- the heap behind it
      have hR : Same (rest H2 a hl) (rest (upd (upd (upd (upd (upd H2 p3 (.tup [vb, vp])) hl (.lst (ps.map V.ref ++ [.ref p3]))) p4 (.tup [v, u])) a (.ins (CL K) dx (putF "begun" v (flL vb vp hl)))) a (.ins (CL K) dx (putF "patches" u (putF "begun" v (flL vb vp hl))))) a hl) := by
        rw [rest_upd1, rest_upd1]
        refine Same.trans (rest_mono s3) ?_
        have e : rest (upd (upd H2 p3 (.tup [vb, vp])) hl (.lst (ps.map V.ref ++ [.ref p3]))) a hl = rest (upd H2 p3 (.tup [vb, vp])) a hl := rest_upd2
        rw [← e]
        exact rest_mono (same_new hp4 _)
      refine q _ (sR.trans hR) ⟨dx, v, u, ps ++ [p3], ?_⟩
      · unfold hist2
        rw [if_neg same]
        have hQ := rs_rest (sx := sx) hR
        have n3s : p3 ≠ sx := fun e => L2'.src (by rw [← e]; exact hp3)
        refine ⟨upd_same, ?_, hv2.mono (Le.of hQ), hu2.mono (Le.of hQ), pairedSnoc (Paired.mapP L2'.old fun _ _ h => h.mono hQ) ⟨vb, vp, ?_, L2'.doc.mono (Le.of hQ), L2'.row.mono (Le.of hQ)⟩, L2'.src2 hR (by rw [upd_same]; exact fun z => nomatch z), L2'.sn⟩
        · rw [upd_ne (Ne.symm ane), upd_ne (Ne.symm ane), upd_ne (Ne.symm n4h), upd_same, List.map_append] <;> rfl
        · refine rs_of ?_ n3a n3h n3s
          rw [upd_ne n3a, upd_ne n3a, upd_ne (Ne.symm n43), upd_ne n3h, upd_same]
theorem ok_go_on (T : Tx K mg) : C8.Met P w K mg base 2 (CL K) "go_on" (sp_go_on K) [] := by
  have sc : FnScope ["self", "begun", "patches"] ["self", "begun", "patches"] (C8.fnScope s_Log_go_on) := C8.fnScope_by (by decide +kernel)
  refine T.met 32 (st := s_Log_go_on) rfl T.cLog T.mLog_go_on sc (fun _ _ _ _ _ _ us hl => match us, hl with | [_, _, _], _ => rfl) (fun vs H Q E ⟨_, _, _, _, _, _, _, _, _, _, h, _⟩ => by rw [h]; rfl) (fun cdv A outer s H vs Q E f hr h => ⟨t_go_on K, ?_, pu_go_on T h⟩)
  have hu := hu_of hr
  exact (pss_one (ps_if (pt_cmpR (op_nePair hr.units) (pe_tup (pa_cons (pv 1) (pa_cons (pv 2) pa_nil))) (pe_tup (pa_cons (pe_fld (pv 0) rfl) (pa_cons (pe_fld (pv 0) rfl) pa_nil))) (nomark _)) (pss_cons (ps_expr (pe_bm PySem.F.plainAttrs_list PySem.F.slot_list_append PySem.F.type_list_append mt_append (pe_fld (pv 0) rfl) (pa_cons (pe_tup (pa_cons (pe_fld (pv 0) rfl) (pa_cons (pe_fld (pv 0) rfl) pa_nil))) pa_nil)))
    (pss_one (ps_asg (pe_tup (pa_cons (pv 1) (pa_cons (pv 2) pa_nil))) (pg_tup rfl (pgs_cons (pg_fld (pv 0)) (pgs_cons (pg_fld (pv 0)) pgs_nil)))))) pss_nil))
end
end Tp
end
section
set_option maxRecDepth 100000
set_option maxHeartbeats 4000000
namespace Tp
open PySem PySem.Spec PyProof.Rows L2
theorem hist2_len (d d' : D) (ds ds' : List D) (hist : List (D × List D)) : (hist2 d d' ds ds' hist).length ≤ hist.length + 1 := by
  unfold hist2
  split
  · omega
  · rw [List.length_append]
    exact Nat.le_refl _
theorem hist2_add (d : D) (ds : List D) (p : D) (hist : List (D × List D)) : hist2 d d ds (ds ++ [p]) hist = hist ++ [(d, ds)] := by
  unfold hist2
  rw [if_neg]
  rintro ⟨_, h⟩
  have := congrArg List.length h
  rw [List.length_append] at this
  simp at this
section
variable {P : Program} {w : World} {K : PySem.W.Frag} {mg : Str → Option Value} {base : Heap} {vs : List V} {H : Hp} {Q : VK} {E : XK}
theorem LogW.read {sx C : Addr} {a hl : Addr} {d : D} {ds : List D} {hist : List (D × List D)} {dx : Addr} {vb vp : V} {ps : List Addr} (L : LogW sx C H a hl d ds hist dx vb vp ps) : DocAt H d vb ∧ RowAt H ds vp := ⟨L.doc.mono (Le.of same_rs), L.row.mono (Le.of same_rs)⟩
/-! ### begin(document) -/
def sp_begin (K : PySem.W.Frag) : Sp := fun vs H Q _ => ∃ sx a hl d ds hist v d', vs = [.ref a, v] ∧ LogAt sx (CL K) H a hl d ds hist ∧ DocAt H d' v ∧ d'.dep ≤ 3 ∧ (∀ p ∈ ds, p.dep < 20) ∧ hist.length ≤ 900 ∧
  ∀ H', Same (rest H a hl) (rest H' a hl) → LogAt sx (CL K) H' a hl d' ds (hist2 d d' ds ds hist) → Q .non H'
def t_begin (K : PySem.W.Frag) : TS :=
  (tSeq (tDrop (tCall sp_check [] C8.E0 (tCons (tVar 1) tNil)))
    (tDrop (tMeth (He.ga K "Log") "go_on" (sp_go_on K) [] C8.E0 (tVar 0) (tCons (tCall (sp_copied 4) [] C8.E0 (tCons (tVar 1) tNil)) (tCons (tFld K (tVar 0) "patches") tNil)))))
theorem pu_begin (T : Tx K mg) (h : sp_begin K vs H Q E) : t_begin K { nx := fun _ H' => Q .non H', rt := Q } (L2.start ["self", "document"] vs) H := by
  obtain ⟨sx, a, hl, d, ds, hist, v, d', rfl, ⟨dx, vb, vp, ps, L⟩, hv, h1, h2, h3, q⟩ := h
  refine sSeq (sDrop ⟨_, rfl, v, d', rfl, hv, h1, fun H1 s1 => ?_⟩)
  have L1 := L.sm s1
  refine sDrop ⟨_, rfl, a, dx, _, rfl, L1.ins, rfl, aCons ⟨_, rfl, v, d', rfl, hv.mono (Le.of s1), by omega, fun v1 H2 F => ?_⟩⟩
  have L2' := L1.sm F.same
  refine aCons (fPat T rfl L2'.ins (aNil ⟨sx, a, hl, d, ds, hist, v1, vp, d', ds, rfl, ⟨dx, vb, vp, ps, L2'⟩, F.beside L1.ins L1.his L1.src, L2'.row, by omega, h2, h3, fun H3 s3 L3 => ?_⟩))
  exact q _ ((rest_mono (s1.trans F.same)).trans s3) L3
theorem ok_begin (T : Tx K mg) : C8.Met P w K mg base 9 (CL K) "begin" (sp_begin K) [] := by
  have c_check := ok_check (P := P) (w := w) (base := base) T
  have c_copied := ok_copied (P := P) (w := w) (base := base) T 4
  have c_go_on := ok_go_on (P := P) (w := w) (base := base) T
  have sc : FnScope ["self", "document"] ["self", "document"] (C8.fnScope s_Log_begin) := C8.fnScope_by (by decide +kernel)
  refine T.met 33 (st := s_Log_begin) rfl T.cLog T.mLog_begin sc (fun _ _ _ _ _ _ us hl => match us, hl with | [_, _], _ => rfl) (fun vs H Q E ⟨_, _, _, _, _, _, _, _, h, _⟩ => by rw [h]; rfl) (fun cdv A outer s H vs Q E f hr h => ⟨t_begin K, ?_, pu_begin T h⟩)
  have hu := hu_of hr
  exact (pss_cons (ps_expr (C8.pe_c c_check hr (by omega) rfl (pa_cons (pv 1) pa_nil)))
    (pss_one (ps_expr (C8.pe_mt c_go_on hr (by omega) (pv 0) (pa_cons (C8.pe_c c_copied hr (by omega) rfl (pa_cons (pv 1) pa_nil)) (pa_cons (pe_fld (pv 0) rfl) pa_nil))))))
/-! ### add(patch) -/
def sp_add (K : PySem.W.Frag) : Sp := fun vs H Q _ => ∃ sx a hl d ds hist v p, vs = [.ref a, v] ∧ LogAt sx (CL K) H a hl d ds hist ∧ DocAt H p v ∧ Rok (ds ++ [p]) ∧ d.dep < 20 ∧ hist.length ≤ 900 ∧
  ∀ H', Same (rest H a hl) (rest H' a hl) → LogAt sx (CL K) H' a hl d (ds ++ [p]) (hist ++ [(d, ds)]) → Q .non H'
def t_ladd (K : PySem.W.Frag) : TS :=
  (tSeq (tDrop (tCall sp_check [] C8.E0 (tCons (tVar 1) tNil)))
    (tSeq (tDrop (tCall sp_check_row [] C8.E0 (tCons (tOp (rCatL K) (tFld K (tVar 0) "patches") (tLst (tCons (tVar 1) tNil))) tNil)))
    (tDrop (tMeth (He.ga K "Log") "go_on" (sp_go_on K) [] C8.E0 (tVar 0) (tCons (tFld K (tVar 0) "begun") (tCons (tOp (rCatL K) (tFld K (tVar 0) "patches") (tLst (tCons (tCall (sp_copied 4) [] C8.E0 (tCons (tVar 1) tNil)) tNil))) tNil))))))
theorem pu_ladd (T : Tx K mg) (h : sp_add K vs H Q E) : t_ladd K { nx := fun _ H' => Q .non H', rt := Q } (L2.start ["self", "patch"] vs) H := by
  obtain ⟨sx, a, hl, d, ds, hist, v, p, rfl, ⟨dx, vb, vp, ps, L⟩, hv, ok, h2, h3, q⟩ := h
  have hp3 : p.dep ≤ 3 := ok.dep p (by simp)
  have hlen : ds.length + 1 ≤ 900 := by have := ok.len; rw [List.length_append] at this; exact this
  refine sSeq (sDrop ⟨_, rfl, v, p, rfl, hv, hp3, fun H1 s1 => ?_⟩)
  have L1 := L.sm s1
  have hv1 := hv.mono (Le.of s1)
  obtain ⟨l, us, rfl, hl1, hds1⟩ := L1.read.2
  refine sSeq (sDrop (aCons (xOp (fPat T rfl L1.ins (xLst ⟨_, rfl, szO (show 1 ≤ 100000 by decide), fun l1 hl1' => ?_⟩)))))
  have s2 := same_new hl1' (.lst [v])
  have hlu := hds1.len
  refine ⟨l, l1, us, [v], rfl, rfl, SqL.rd ((Le.of s2).l _ _ hl1), SqL.of upd_same, szO (by show us.length + 1 ≤ _; omega), fun l2 hl2 => ?_⟩
  have s3 := s2.trans (same_new hl2 (.lst (us ++ [v])))
  refine aNil ⟨.ref l2, ds ++ [p], rfl, ⟨l2, us ++ [v], rfl, .inl upd_same, (hds1.snoc hv1).mono (Le.of s3)⟩, ok.len, ok.dep, ok.par, fun H4 t4 => ?_⟩
  have s4 := s3.trans t4
  have L4 := L1.sm s4
  refine sDrop ⟨_, rfl, a, dx, _, rfl, L4.ins, rfl, aCons (fBeg T rfl L4.ins (aCons (xOp (fPat T rfl L4.ins (xLst (aCons ⟨_, rfl, v, p, rfl, hv1.mono (Le.of s4), by omega, fun v1 H5 F => aNil ⟨szO (show 1 ≤ 100000 by decide), fun l3 hl3 => ?_⟩⟩))))))⟩
  have L5 := L4.sm F.same
  have s5 := same_new hl3 (.lst [v1])
  refine ⟨l, l3, us, [v1], rfl, rfl, SqL.rd ((Le.of s5).l _ _ ((Le.of (s4.trans F.same)).l _ _ hl1)), SqL.of upd_same, szO (by show us.length + 1 ≤ _; omega), fun l4 hl4 => ?_⟩
  have s6 := s5.trans (same_new hl4 (.lst (us ++ [v1])))
  have L6 := L5.sm s6
  have n4a : l4 ≠ a := fun e => by rw [e, s5 _ _ L5.ins] at hl4; cases hl4
  have n4h : l4 ≠ hl := fun e => by rw [e, s5 _ _ L5.his] at hl4; cases hl4
  have n4s : l4 ≠ sx := fun e => by
    have := (L5.sm s5).src
    rw [← e] at this
    exact this hl4
  have hr6 : RowAt (rs sx (upd (upd H5 l3 (.lst [v1])) l4 (.lst (us ++ [v1]))) a hl) (ds ++ [p]) (.ref l4) := by
    refine ⟨l4, us ++ [v1], rfl, .inl (rs_of upd_same n4a n4h n4s), DocsAt.snoc ?_ ((F.beside L4.ins L4.his L4.src).mono (Le.of (rs_mono s6)))⟩
    obtain ⟨l', us', el, hl', hd'⟩ := L1.row
    cases el
    have : us' = us := by
      have h1 := (Le.of (same_rs (sx := sx) (H := H1) (a := a) (hl := hl))).l _ _ hl'
      rcases h1 with h1 | ⟨o1, h1⟩ <;> rcases hl1 with h2 | ⟨o2, h2⟩ <;> rw [h1] at h2 <;> cases h2 <;> rfl
    subst this
    exact hd'.mono (Le.of (rs_mono (s4.trans (F.same.trans s6))))
  refine aNil ⟨sx, a, hl, d, ds, hist, vb, .ref l4, d, ds ++ [p], rfl, ⟨dx, vb, .ref l, ps, L6⟩, L6.doc, hr6, h2, fun p' hp' => by have := ok.dep p' hp'; omega, h3, fun H7 s7 L7 => ?_⟩
  rw [hist2_add] at L7
  exact q _ ((rest_mono (s1.trans (s4.trans (F.same.trans s6)))).trans s7) L7
theorem ok_ladd (T : Tx K mg) : C8.Met P w K mg base 10 (CL K) "add" (sp_add K) [] := by
  have c_check := ok_check (P := P) (w := w) (base := base) T
  have c_check_row := ok_check_row (P := P) (w := w) (base := base) T
  have c_copied := ok_copied (P := P) (w := w) (base := base) T 4
  have c_go_on := ok_go_on (P := P) (w := w) (base := base) T
  have sc : FnScope ["self", "patch"] ["self", "patch"] (C8.fnScope s_Log_add) := C8.fnScope_by (by decide +kernel)
  refine T.met 34 (st := s_Log_add) rfl T.cLog T.mLog_add sc (fun _ _ _ _ _ _ us hl => match us, hl with | [_, _], _ => rfl) (fun vs H Q E ⟨_, _, _, _, _, _, _, _, h, _⟩ => by rw [h]; rfl) (fun cdv A outer s H vs Q E f hr h => ⟨t_ladd K, ?_, pu_ladd T h⟩)
  have hu := hu_of hr
  exact (pss_cons (ps_expr (C8.pe_c c_check hr (by omega) rfl (pa_cons (pv 1) pa_nil)))
    (pss_cons (ps_expr (C8.pe_c c_check_row hr (by omega) rfl (pa_cons (pe_op op_catL (pe_fld (pv 0) rfl) (pe_lst (pa_cons (pv 1) pa_nil))) pa_nil)))
    (pss_one (ps_expr (C8.pe_mt c_go_on hr (by omega) (pv 0) (pa_cons (pe_fld (pv 0) rfl) (pa_cons (pe_op op_catL (pe_fld (pv 0) rfl) (pe_lst (pa_cons (C8.pe_c c_copied hr (by omega) rfl (pa_cons (pv 1) pa_nil)) pa_nil))) pa_nil)))))))
/-! ### row(), first() -/
def sp_row (K : PySem.W.Frag) : Sp := fun vs H Q _ => ∃ sx a hl d ds hist, vs = [.ref a] ∧ LogAt sx (CL K) H a hl d ds hist ∧ ds.length ≤ 900 ∧ (∀ p ∈ ds, p.dep ≤ 3) ∧ ∀ v' H', RowNew H H' ds v' → Q v' H'
def t_row (K : PySem.W.Frag) : TS :=
  (tRet (tLc (iList K (tFld K (tVar 0) "patches")) (gName 1) tYes (tCall (sp_copied 4) [] C8.E0 (tCons (tVar 1) tNil)) [1]))
theorem pu_row (T : Tx K mg) (h : sp_row K vs H Q E) : t_row K { nx := fun _ H' => Q .non H', rt := Q } (L2.start ["self", "patch"] vs) H := by
  obtain ⟨sx, a, hl, d, ds, hist, rfl, ⟨dx, vb, vp, ps, L⟩, hlen, hdep, q⟩ := h
  obtain ⟨l, us, rfl, hl1, hds⟩ := L.read.2
  have hlu := hds.len
  refine sRet (xLc (iL (fPat T rfl L.ins ⟨l, rfl, ⟨us, SqL.rd hl1⟩, fun p hp => ?_⟩)))
  refine lc_acc (walk_list (xs := us)) hp (fun i N acc => DocsAt N (ds.take i) acc) (fun H5 s => s.seq (SqL.rd hl1)) (fun _ => .nil) (fun i x H2 H3 acc hi B hac he y => ?_) (fun H2 acc B _ he => ?_)
  · obtain ⟨rfl, hx⟩ := y
    obtain ⟨d1, hd1, hdx⟩ := hds.nth hx
    refine ⟨rfl, _, rfl, x, d1, rfl, hdx.mono (Le.of B.same), by have := hdep d1 (List.mem_of_getElem? hd1); omega, fun v5 H5 F => ?_⟩
    refine accPush B hac (by omega) F.same ?_
    rw [take_more hd1]
    exact DocsAt.snoc (DocsAt.mono (Le.of (nw_mono (fun _ h => h) F.same)) he) (F.doc.mono (Le.of (nw_mono (fun _ q => B.none_of q) (Same.refl H5))))
  · rw [hlu, List.take_length] at he
    exact q _ _ ⟨B.same, p, acc, rfl, hp, B.at_, he.mono (Le.of (nw_mono (fun b h => by
      by_cases e : b = p
      · rw [e]; exact hp
      · rw [upd_ne e] at h; exact h) (Same.refl H2)))⟩
theorem ok_row (T : Tx K mg) : C8.Met P w K mg base 5 (CL K) "row" (sp_row K) [] := by
  have c_copied := ok_copied (P := P) (w := w) (base := base) T 4
  have sc : FnScope ["self", "patch"] ["self"] (C8.fnScope s_Log_row) := C8.fnScope_by (by decide +kernel)
  refine T.met 35 (st := s_Log_row) rfl T.cLog T.mLog_row sc (fun _ _ _ _ _ _ us hl => match us, hl with | [_], _ => rfl) (fun vs H Q E ⟨_, _, _, _, _, _, h, _⟩ => by rw [h]; rfl) (fun cdv A outer s H vs Q E f hr h => ⟨t_row K, ?_, pu_row T h⟩)
  have hu := hu_of hr
  exact (pss_one (ps_ret (pe_lc (own := [("patch", 1)]) (g := (gName 1)) (tt := tYes) (te := (tCall (sp_copied 4) [] C8.E0 (tCons (tVar 1) tNil))) rfl sc.nd (pi_list (pe_fld (pv 0) rfl)) (blkOk_by (N := ["self", "patch"]) (sc := C8.fnScope s_Log_row) (by decide +kernel)) (fun _ _ _ _ _ => (pg_name (i := 1) sc.nd rfl (Or.inl rfl))) (fun _ _ _ _ _ => pts_nil) (fun _ _ _ _ _ => (C8.pe_c c_copied hr (by omega) rfl (pa_cons (pv 1) pa_nil))))))
def sp_first (K : PySem.W.Frag) : Sp := fun vs H Q _ => ∃ sx a hl d ds hist, vs = [.ref a] ∧ LogAt sx (CL K) H a hl d ds hist ∧ d.dep ≤ 3 ∧ ∀ v' H', Fresh H H' d v' → Q v' H'
def t_first (K : PySem.W.Frag) : TS :=
  (tRet (tCall (sp_copied 4) [] C8.E0 (tCons (tFld K (tVar 0) "begun") tNil)))
theorem pu_first (T : Tx K mg) (h : sp_first K vs H Q E) : t_first K { nx := fun _ H' => Q .non H', rt := Q } (L2.start ["self"] vs) H := by
  obtain ⟨sx, a, hl, d, ds, hist, rfl, ⟨dx, vb, vp, ps, L⟩, hdep, q⟩ := h
  exact sRet (aCons (fBeg T rfl L.ins (aNil ⟨vb, d, rfl, L.read.1, by omega, q⟩)))
theorem ok_first (T : Tx K mg) : C8.Met P w K mg base 5 (CL K) "first" (sp_first K) [] := by
  have c_copied := ok_copied (P := P) (w := w) (base := base) T 4
  have sc : FnScope ["self"] ["self"] (C8.fnScope s_Log_first) := C8.fnScope_by (by decide +kernel)
  refine T.met 36 (st := s_Log_first) rfl T.cLog T.mLog_first sc (fun _ _ _ _ _ _ us hl => match us, hl with | [_], _ => rfl) (fun vs H Q E ⟨_, _, _, _, _, _, h, _⟩ => by rw [h]; rfl) (fun cdv A outer s H vs Q E f hr h => ⟨t_first K, ?_, pu_first T h⟩)
  exact (pss_one (ps_ret (C8.pe_c c_copied hr (by omega) rfl (pa_cons (pe_fld (pv 0) rfl) pa_nil))))
end
end Tp
end
section
set_option maxRecDepth 100000
set_option maxHeartbeats 4000000
namespace Tp
open PySem PySem.Spec PyProof.Rows L2
section
variable {P : Program} {w : World} {K : PySem.W.Frag} {mg : Str → Option Value} {base : Heap} {vs : List V} {H : Hp} {Q : VK} {E : XK}
/-! ### check_time(time, least) -/
def sp_check_time (K : PySem.W.Frag) : Sp := fun vs H Q _ => ∃ sx a hl d ds hist, ∃ t m : Nat, vs = [.ref a, .int t, .int m] ∧ LogAt sx (CL K) H a hl d ds hist ∧ m ≤ t ∧ t ≤ ds.length ∧ Q .non H
def t_check_time (K : PySem.W.Frag) : TS :=
  (tIfS (tNot (tTest (tChain (rI0 fun i j => .bl (decide (i ≤ j))) (rI0 fun i j => .bl (decide (i ≤ j))) (tVar 2) (tVar 1) (tCB (rLenSeq K) (tCons (tFld K (tVar 0) "patches") tNil))))) tNever tNext)
theorem pu_check_time (T : Tx K mg) (h : sp_check_time K vs H Q E) : t_check_time K { nx := fun _ H' => Q .non H', rt := Q } (L2.start ["self", "time", "least"] vs) H := by
  obtain ⟨sx, a, hl, d, ds, hist, t, m, rfl, ⟨dx, vb, vp, ps, L⟩, h1, h2, q⟩ := h
  obtain ⟨l, us, rfl, hl1, hds⟩ := L.read.2
  have hlu := hds.len
  refine sIf (xNot (xTest ⟨_, rfl, _, rfl, _, _, rfl, rfl, _, rfl, ?_⟩))
  refine ifT (decide_eq_true (by omega)) ?_
  refine aCons (fPat T rfl L.ins (aNil ⟨l, us, rfl, .inl (SqL.rd hl1), _, _, rfl, rfl, _, rfl, ?_⟩))
  refine ifF ?_ (sNext q)
  rw [decide_eq_true (by omega)]
  rfl
theorem ok_check_time (T : Tx K mg) : C8.Met P w K mg base 1 (CL K) "check_time" (sp_check_time K) [] := by
  have sc : FnScope ["self", "time", "least"] ["self", "time", "least"] (C8.fnScope s_Log_check_time) := C8.fnScope_by (by decide +kernel)
  refine T.met 37 (st := s_Log_check_time) rfl T.cLog T.mLog_check_time sc (fun _ _ _ _ _ _ us hl => match us, hl with | [_, _, _], _ => rfl) (fun vs H Q E ⟨_, _, _, _, _, _, _, _, h, _⟩ => by rw [h]; rfl) (fun cdv A outer s H vs Q E f hr h => ⟨t_check_time K, ?_, pu_check_time T h⟩)
  exact (pss_one (ps_if (pt_not (pt_chain op_le op_le (pv 2) (pv 1) (pe_callB call_len_seq rfl T.f_len bt_len (pa_cons (pe_fld (pv 0) rfl) pa_nil)))) pss_never pss_nil))
/-! ### at(time), now() -/
def sp_at (K : PySem.W.Frag) : Sp := fun vs H Q _ => ∃ sx a hl d ds hist, ∃ t : Nat, vs = [.ref a, .int t] ∧ LogAt sx (CL K) H a hl d ds hist ∧ t ≤ ds.length ∧ d.dep ≤ 3 ∧ (∀ p ∈ ds, p.dep ≤ 3) ∧ ∀ v' H', Fresh H H' (runD d (ds.take t)) v' → Q v' H'
def t_at (K : PySem.W.Frag) : TS :=
  (tSeq (tDrop (tMeth (He.ga K "Log") "check_time" (sp_check_time K) [] C8.E0 (tVar 0) (tCons (tVar 1) (tCons (tC (.int 0)) tNil))))
    (tRet (tCall sp_after_all [] C8.E0 (tCons (tFld K (tVar 0) "begun") (tCons (tSl (rSlL K) (tFld K (tVar 0) "patches") tNoPart (tPart (tVar 1))) tNil)))))
theorem pu_at (T : Tx K mg) (h : sp_at K vs H Q E) : t_at K { nx := fun _ H' => Q .non H', rt := Q } (L2.start ["self", "time"] vs) H := by
  obtain ⟨sx, a, hl, d, ds, hist, t, rfl, L0, h1, h2, h3, q⟩ := h
  refine sSeq (sDrop ?_)
  obtain ⟨dx, vb, vp, ps, L⟩ := id L0
  obtain ⟨l, us, rfl, hl1, hds⟩ := L.read.2
  refine ⟨_, rfl, a, dx, _, rfl, L.ins, rfl, _, rfl, sx, a, hl, d, ds, hist, t, 0, rfl, L0, Nat.zero_le _, h1, ?_⟩
  refine sRet (aCons (fBeg T rfl L.ins (aCons (fPat T rfl L.ins ⟨_, rfl, _, rfl, l, us, rfl, SqL.rd hl1, fun p hp => ?_⟩))))
  have s1 := same_new hp (.lst (cutV us none (some (t : Int))))
  refine aNil ⟨vb, .ref p, d, ds.take t, rfl, L.read.1.mono (Le.of s1), ⟨p, _, rfl, .inl upd_same, ?_⟩, h2, fun x hx => h3 x (List.mem_of_mem_take hx), fun v' H' F => q v' H' (F.wk s1)⟩
  have := (hds.take t).mono (Le.of s1)
  rw [← cut_take us t] at this
  exact this
theorem ok_at (T : Tx K mg) : C8.Met P w K mg base 10 (CL K) "at" (sp_at K) [] := by
  have c_check_time := ok_check_time (P := P) (w := w) (base := base) T
  have c_after_all := ok_after_all (P := P) (w := w) (base := base) T
  have sc : FnScope ["self", "time"] ["self", "time"] (C8.fnScope s_Log_at) := C8.fnScope_by (by decide +kernel)
  refine T.met 38 (st := s_Log_at) rfl T.cLog T.mLog_at sc (fun _ _ _ _ _ _ us hl => match us, hl with | [_, _], _ => rfl) (fun vs H Q E ⟨_, _, _, _, _, _, _, h, _⟩ => by rw [h]; rfl) (fun cdv A outer s H vs Q E f hr h => ⟨t_at K, ?_, pu_at T h⟩)
  exact (pss_cons (ps_expr (C8.pe_mt c_check_time hr (by omega) (pv 0) (pa_cons (pv 1) (pa_cons pe_int pa_nil))))
    (pss_one (ps_ret (C8.pe_c c_after_all hr (by omega) rfl (pa_cons (pe_fld (pv 0) rfl) (pa_cons (pe_slice sl_list (pe_fld (pv 0) rfl) po_none (po_some (pv 1))) pa_nil))))))
def sp_now (K : PySem.W.Frag) : Sp := fun vs H Q _ => ∃ sx a hl d ds hist, vs = [.ref a] ∧ LogAt sx (CL K) H a hl d ds hist ∧ d.dep ≤ 3 ∧ (∀ p ∈ ds, p.dep ≤ 3) ∧ ∀ v' H', Fresh H H' (runD d ds) v' → Q v' H'
def t_now (K : PySem.W.Frag) : TS :=
  (tRet (tMeth (He.ga K "Log") "at" (sp_at K) [] C8.E0 (tVar 0) (tCons (tCB (rLenSeq K) (tCons (tFld K (tVar 0) "patches") tNil)) tNil)))
theorem pu_now (T : Tx K mg) (h : sp_now K vs H Q E) : t_now K { nx := fun _ H' => Q .non H', rt := Q } (L2.start ["self"] vs) H := by
  obtain ⟨sx, a, hl, d, ds, hist, rfl, L0, h2, h3, q⟩ := h
  obtain ⟨dx, vb, vp, ps, L⟩ := id L0
  obtain ⟨l, us, rfl, hl1, hds⟩ := L.read.2
  refine sRet ⟨_, rfl, a, dx, _, rfl, L.ins, rfl, aCons (aCons (fPat T rfl L.ins (aNil ⟨l, us, rfl, .inl (SqL.rd hl1), ?_⟩)))⟩
  rw [hds.len]
  refine aNil ⟨sx, a, hl, d, ds, hist, ds.length, rfl, L0, Nat.le_refl _, h2, h3, fun v' H' F => q v' H' ?_⟩
  rw [List.take_length] at F
  exact F
theorem ok_now (T : Tx K mg) : C8.Met P w K mg base 11 (CL K) "now" (sp_now K) [] := by
  have c_at := ok_at (P := P) (w := w) (base := base) T
  have sc : FnScope ["self"] ["self"] (C8.fnScope s_Log_now) := C8.fnScope_by (by decide +kernel)
  refine T.met 39 (st := s_Log_now) rfl T.cLog T.mLog_now sc (fun _ _ _ _ _ _ us hl => match us, hl with | [_], _ => rfl) (fun vs H Q E ⟨_, _, _, _, _, _, h, _⟩ => by rw [h]; rfl) (fun cdv A outer s H vs Q E f hr h => ⟨t_now K, ?_, pu_now T h⟩)
  exact (pss_one (ps_ret (C8.pe_mt c_at hr (by omega) (pv 0) (pa_cons (pe_callB call_len_seq rfl T.f_len bt_len (pa_cons (pe_fld (pv 0) rfl) pa_nil)) pa_nil))))
/-! ### squeeze(0, all) -/
def sp_squeeze (K : PySem.W.Frag) : Sp := fun vs H Q _ => ∃ sx a hl d ds hist, vs = [.ref a, .int 0, .int ds.length] ∧ LogAt sx (CL K) H a hl d ds hist ∧ d.dep < 20 ∧ (∀ p ∈ ds, p.dep ≤ 3) ∧ (∀ p ∈ short (whole ds), p.dep < 20) ∧ ds.length ≤ 900 ∧ hist.length ≤ 900 ∧
  ∀ H', Same (rest H a hl) (rest H' a hl) → LogAt sx (CL K) H' a hl d (short (whole ds)) (hist2 d d ds (short (whole ds)) hist) → Q .non H'
def t_squeeze (K : PySem.W.Frag) : TS :=
  (tSeq (tDrop (tMeth (He.ga K "Log") "check_time" (sp_check_time K) [] C8.E0 (tVar 0) (tCons (tVar 1) (tCons (tC (.int 0)) tNil))))
    (tSeq (tDrop (tMeth (He.ga K "Log") "check_time" (sp_check_time K) [] C8.E0 (tVar 0) (tCons (tVar 2) (tCons (tVar 1) tNil))))
    (tSeq (tAsg (tCall (sp_short K) [] C8.E0 (tCons (tSl (rSlL K) (tFld K (tVar 0) "patches") (tPart (tVar 1)) (tPart (tVar 2))) tNil)) (gName 3))
    (tDrop (tMeth (He.ga K "Log") "go_on" (sp_go_on K) [] C8.E0 (tVar 0) (tCons (tFld K (tVar 0) "begun") (tCons (tOp (rCatL K) (tOp (rCatL K) (tSl (rSlL K) (tFld K (tVar 0) "patches") tNoPart (tPart (tVar 1))) (tVar 3)) (tSl (rSlL K) (tFld K (tVar 0) "patches") (tPart (tVar 2)) tNoPart)) tNil)))))))
theorem pu_squeeze (T : Tx K mg) (h : sp_squeeze K vs H Q E) : t_squeeze K { nx := fun _ H' => Q .non H', rt := Q } (L2.start ["self", "begin", "end", "fewer"] vs) H := by
  obtain ⟨sx, a, hl, d, ds, hist, rfl, L0, h1, h2, h3, h4, h5, q⟩ := h
  obtain ⟨dx, vb, vp, ps, L⟩ := id L0
  obtain ⟨l, us, rfl, hl1, hds⟩ := L.read.2
  have hlu := hds.len
  refine sSeq (sDrop ⟨_, rfl, a, dx, _, rfl, L.ins, rfl, _, rfl, sx, a, hl, d, ds, hist, 0, 0, rfl, L0, Nat.le_refl _, Nat.zero_le _, ?_⟩)
  refine sSeq (sDrop ⟨_, rfl, a, dx, _, rfl, L.ins, rfl, _, rfl, _, rfl, sx, a, hl, d, ds, hist, ds.length, 0, rfl, L0, Nat.zero_le _, Nat.le_refl _, ?_⟩)
  refine sSeq (sAsg (aCons (fPat T rfl L.ins ⟨_, rfl, _, rfl, _, rfl, _, rfl, l, us, rfl, SqL.rd hl1, fun p hp => ?_⟩)))
  rw [cut_all us ds.length hlu.symm]
  have s1 := same_new hp (.lst us)
  refine aNil ⟨.ref p, ds, rfl, ⟨p, us, rfl, .inl upd_same, hds.mono (Le.of s1)⟩, h2, fun v1 H1 ⟨s2, p1, us1, ev, hp1, hat, hdn⟩ => ?_⟩
  subst ev
  have s12 := s1.trans s2
  have L1 := L.sm s12
  have hl2 := (Le.of s12).l _ _ hl1
  have n1a : p1 ≠ a := fun e => by rw [e, s1 _ _ L.ins] at hp1; cases hp1
  have n1h : p1 ≠ hl := fun e => by rw [e, s1 _ _ L.his] at hp1; cases hp1
  have hlen1 : us1.length ≤ 2 := by rw [hdn.len]; exact Nat.le_trans (short_len ds) (Nat.min_le_left _ _)
  refine sDrop ⟨_, rfl, a, dx, _, rfl, L1.ins, rfl, aCons (fBeg T rfl L1.ins (aCons (xOp (xOp (fPat T rfl L1.ins ⟨_, rfl, _, rfl, l, us, rfl, SqL.rd hl2, fun p2 hp2 => ?_⟩)))))⟩
  have e2 : cutV us none (some 0) = [] := by
    have := cut_take us 0
    simpa using this
  rw [e2]
  have s3 := same_new hp2 (.lst [])
  refine ⟨_, rfl, p2, p1, [], us1, rfl, rfl, SqL.of upd_same, SqL.of (s3 _ _ hat), szO (by show 0 + us1.length ≤ _; omega), fun p3 hp3 => ?_⟩
  rw [List.nil_append]
  have s4 := same_new hp3 (.lst us1)
  have s34 := s3.trans s4
  refine fPat T rfl (s34 _ _ L1.ins) ⟨_, rfl, _, rfl, l, us, rfl, SqL.rd ((Le.of s34).l _ _ hl2), fun p4 hp4 => ?_⟩
  rw [cut_drop, List.drop_eq_nil_of_le (by omega)]
  have s5 := same_new hp4 (.lst [])
  refine ⟨p3, p4, us1, [], rfl, rfl, SqL.of (s5 _ _ upd_same), SqL.of upd_same, szO (by show us1.length + 0 ≤ _; omega), fun p5 hp5 => ?_⟩
  rw [List.append_nil]
  have s6 := same_new hp5 (.lst us1)
  have sAll := s34.trans (s5.trans s6)
  have L2' := L1.sm sAll
  have n5a : p5 ≠ a := fun e => by rw [e, s5 _ _ (s34 _ _ L1.ins)] at hp5; cases hp5
  have n5h : p5 ≠ hl := fun e => by rw [e, s5 _ _ (s34 _ _ L1.his)] at hp5; cases hp5
  have n5s : p5 ≠ sx := fun e => by
    have := ((L1.sm s34).sm s5).src
    rw [← e] at this
    exact this hp5
  have dd : DocsAt (rs sx H1 a hl) (short (whole ds)) us1 := hdn.mono (Le.of (new_rs (s1 _ _ L.ins) (s1 _ _ L.his) (L.sm s1).src))
  have hr6 : RowAt (rs sx (upd (upd (upd (upd H1 p2 (.lst [])) p3 (.lst us1)) p4 (.lst [])) p5 (.lst us1)) a hl) (short (whole ds)) (.ref p5) := ⟨p5, us1, rfl, .inl (rs_of upd_same n5a n5h n5s), dd.mono (Le.of (rs_mono sAll))⟩
  exact aNil ⟨sx, a, hl, d, ds, hist, vb, .ref p5, d, short (whole ds), rfl, ⟨dx, vb, .ref l, ps, L2'⟩, L2'.doc, hr6, h1, h3, h5, fun H7 s7 L7 => q _ ((rest_mono (s12.trans sAll)).trans s7) L7⟩
theorem ok_squeeze (T : Tx K mg) : C8.Met P w K mg base 26 (CL K) "squeeze" (sp_squeeze K) [] := by
  have c_check_time := ok_check_time (P := P) (w := w) (base := base) T
  have c_short := ok_short (P := P) (w := w) (base := base) T
  have c_go_on := ok_go_on (P := P) (w := w) (base := base) T
  have sc : FnScope ["self", "begin", "end", "fewer"] ["self", "begin", "end"] (C8.fnScope s_Log_squeeze) := C8.fnScope_by (by decide +kernel)
  refine T.met 40 (st := s_Log_squeeze) rfl T.cLog T.mLog_squeeze sc (fun _ _ _ _ _ _ us hl => match us, hl with | [_, _, _], _ => rfl) (fun vs H Q E ⟨_, _, _, _, _, _, h, _⟩ => by rw [h]; rfl) (fun cdv A outer s H vs Q E f hr h => ⟨t_squeeze K, ?_, pu_squeeze T h⟩)
  exact (pss_cons (ps_expr (C8.pe_mt c_check_time hr (by omega) (pv 0) (pa_cons (pv 1) (pa_cons pe_int pa_nil))))
    (pss_cons (ps_expr (C8.pe_mt c_check_time hr (by omega) (pv 0) (pa_cons (pv 2) (pa_cons (pv 1) pa_nil))))
    (pss_cons (ps_set (i := 3) sc.nd rfl (Or.inl rfl) (C8.pe_c c_short hr (by omega) rfl (pa_cons (pe_slice sl_list (pe_fld (pv 0) rfl) (po_some (pv 1)) (po_some (pv 2))) pa_nil)))
    (pss_one (ps_expr (C8.pe_mt c_go_on hr (by omega) (pv 0) (pa_cons (pe_fld (pv 0) rfl) (pa_cons (pe_op op_catL (pe_op op_catL (pe_slice sl_list (pe_fld (pv 0) rfl) po_none (po_some (pv 1))) (pv 3)) (pe_slice sl_list (pe_fld (pv 0) rfl) (po_some (pv 2)) po_none)) pa_nil))))))))
/-! ### back() -/
def sp_back (K : PySem.W.Frag) : Sp := fun vs H Q _ => ∃ sx a hl d ds hist d0 ds0, vs = [.ref a] ∧ LogAt sx (CL K) H a hl d ds (hist ++ [(d0, ds0)]) ∧
  ∀ H', Same (rest H a hl) (rest H' a hl) → LogAt sx (CL K) H' a hl d0 ds0 hist → Q .non H'
def t_back (K : PySem.W.Frag) : TS :=
  (tSeq (tIfS (tTest (tOp (rEqNil K) (tFld K (tVar 0) "history") (tLst tNil))) tNever tNext)
    (tAsg (tBM0 K "list" rPop (tFld K (tVar 0) "history")) (gTup K 2 (gCons (gFld K (tVar 0) "begun") (gCons (gFld K (tVar 0) "patches") gNil)))))
theorem paired_split {α β : Type} {F : α → β → Prop} : ∀ {l : List α} {m : List β} {y : β}, Paired F l (m ++ [y]) → ∃ l' x, l = l' ++ [x] ∧ Paired F l' m ∧ F x y
  | _, [], y, .cons r .nil => ⟨[], _, rfl, .nil, r⟩
  | _, z :: m, y, .cons r t => by
    obtain ⟨l', x, e, h1, h2⟩ := paired_split (m := m) (y := y) t
    exact ⟨_ :: l', x, by rw [e] <;> rfl, .cons r h1, h2⟩
theorem pu_back (T : Tx K mg) (h : sp_back K vs H Q E) : t_back K { nx := fun _ H' => Q .non H', rt := Q } (L2.start ["self"] vs) H := by
  obtain ⟨sx, a, hl, d, ds, hist, d0, ds0, rfl, ⟨dx, vb, vp, ps0, L⟩, q⟩ := h
  obtain ⟨ps, p, eps, ho, b, r, hp, hb, hr⟩ := paired_split L.old
  subst eps
  refine sSeq (sIf (xTest (xOp (fHis T rfl L.ins (xLst (aNil ⟨Nat.zero_le _, fun p1 hp1 => ?_⟩))))))
  have s1 := same_new hp1 (.lst [])
  refine ⟨hl, p1, _, rfl, rfl, SqL.of (s1 _ _ L.his), SqL.of upd_same, _, rfl, ifF (by simp) (sNext ?_)⟩
  have L1 := L.sm s1
  have sR := rest_mono (a := a) (hl := hl) s1
  have sQ := rs_mono (sx := sx) (a := a) (hl := hl) s1
  have hp' := sQ _ _ hp
  have ho' := Paired.mapP ho fun _ _ (h : HistAt _ _ _) => h.mono sQ
  have hb' := hb.mono (Le.of sQ)
  have hr' := hr.mono (Le.of sQ)
  generalize upd H p1 (.lst []) = H1 at *
  obtain ⟨hp0, _, _⟩ := rest_some hp'
  obtain ⟨hp1, npa, nph⟩ := rest_some hp0
  have ane := L1.ne
  refine sAsg (fHis T rfl L1.ins ⟨.inl ⟨rfl, _, SqL.of L1.his⟩, ?_⟩)
  refine ⟨hl, _, .ref p, rfl, rfl, L1.his, ?_, ?_⟩
  · simp
  · have hd : ((ps ++ [p]).map V.ref).dropLast = ps.map V.ref := by simp
    rw [hd]
    refine ⟨p, [b, r], rfl, SqT.of (by rw [upd_ne nph]; exact hp1), rfl, b, [r], rfl, ⟨_, rfl, a, _, dx, flL vb vp hl, rfl, by rw [upd_ne ane]; exact L1.ins, T.cLog, T.nLog_begun, (show 3 < 1000 by decide), ?_⟩⟩
    refine ⟨r, [], rfl, ⟨_, rfl, a, _, dx, putF "begun" b (flL vb vp hl), rfl, upd_same, T.cLog, T.nLog_patches, (show 3 < 1000 by decide), ?_⟩⟩
    have hR : Same (rest H1 a hl) (rest (upd (upd (upd H1 hl (.lst (ps.map V.ref))) a (.ins (CL K) dx (putF "begun" b (flL vb vp hl)))) a (.ins (CL K) dx (putF "patches" r (putF "begun" b (flL vb vp hl))))) a hl) := by
      rw [rest_upd1, rest_upd1, rest_upd2]
      exact Same.refl _
    refine ⟨rfl, q _ (sR.trans hR) ⟨dx, b, r, ps, upd_same, ?_, ?_, ?_, ?_, L1.src2 hR (by rw [upd_same]; exact fun z => nomatch z), L1.sn⟩⟩
    · rw [upd_ne (Ne.symm ane), upd_ne (Ne.symm ane), upd_same] <;> rfl
    all_goals rw [rs_upd1, rs_upd1, rs_upd2]
    · exact hb'
    · exact hr'
    · exact ho'
theorem ok_back (T : Tx K mg) : C8.Met P w K mg base 1 (CL K) "back" (sp_back K) [] := by
  have sc : FnScope ["self"] ["self"] (C8.fnScope s_Log_back) := C8.fnScope_by (by decide +kernel)
  refine T.met 41 (st := s_Log_back) rfl T.cLog T.mLog_back sc (fun _ _ _ _ _ _ us hl => match us, hl with | [_], _ => rfl) (fun vs H Q E ⟨_, _, _, _, _, _, _, _, h, _⟩ => by rw [h]; rfl) (fun cdv A outer s H vs Q E f hr h => ⟨t_back K, ?_, pu_back T h⟩)
  exact (pss_cons (ps_if (pt_cmpR (op_eqNil hr.units) (pe_fld (pv 0) rfl) (pe_lst pa_nil) (nomark _)) pss_never pss_nil)
    (pss_one (ps_asg (pe_bm0 PySem.F.plainAttrs_list PySem.F.slot_list_pop PySem.F.type_list_pop mt_pop (pe_fld (pv 0) rfl)) (pg_tup rfl (pgs_cons (pg_fld (pv 0)) (pgs_cons (pg_fld (pv 0)) pgs_nil))))))
end
end Tp
end
section
set_option maxRecDepth 100000
set_option maxHeartbeats 4000000
namespace Tp
open PySem PySem.Spec PyProof.Rows L2
theorem eqEff {K : PySem.W.Frag} {H : Hp} {e : Tp.E} {u v : V} {Q : VK} (h1 : EffAt (CE K) H e u) (h2 : EffAt (CE K) H e v) (hd : e.dep < 20) (q : ∀ H', Same H H' → Q (.bl true) H') : rEqG (DIns (CE K) (REff K)) u v H Q := by
  obtain ⟨a, dx, w, tp, ps, g, rfl, hi, _⟩ := h1.dec
  obtain ⟨b, dx2, w2, tp2, ps2, g2, rfl, hi2, _⟩ := h2.dec
  exact ⟨⟨a, b, dx, dx2, _, _, rfl, rfl, hi, hi2, e, hd, h1, h2⟩, q⟩
section
variable {P : Program} {w : World} {K : PySem.W.Frag} {mg : Str → Option Value} {base : Heap} {vs : List V} {H : Hp} {Q : VK} {E : XK}
/-! ### same(row, other), where it is true -/
def sp_same (K : PySem.W.Frag) : Sp := fun vs H Q _ => ∃ v u ds es, vs = [v, u] ∧ RowAt H ds v ∧ RowAt H es u ∧ Rok ds ∧ Rok es ∧ whole ds = whole es ∧ ∀ H', Same H H' → Q (.bl true) H'
def t_same (K : PySem.W.Frag) : TS :=
  (tSeq (tDrop (tCall sp_check_row [] C8.E0 (tCons (tVar 0) tNil)))
    (tSeq (tDrop (tCall sp_check_row [] C8.E0 (tCons (tVar 1) tNil)))
    (tRet (tOp (rEqG (DIns (CE K) (REff K))) (tCall (sp_whole K) [] C8.E0 (tCons (tVar 0) tNil)) (tCall (sp_whole K) [] C8.E0 (tCons (tVar 1) tNil))))))
theorem pu_same (h : sp_same K vs H Q E) : t_same K { nx := fun _ H' => Q .non H', rt := Q } (L2.start ["row", "other"] vs) H := by
  obtain ⟨v, u, ds, es, rfl, hds, hes, o1, o2, e, q⟩ := h
  refine sSeq (sDrop ⟨_, rfl, v, ds, rfl, hds, o1.len, o1.dep, o1.par, fun H1 s1 => ?_⟩)
  refine sSeq (sDrop ⟨_, rfl, u, es, rfl, hes.mono (Le.of s1), o2.len, o2.dep, o2.par, fun H2 s2 => ?_⟩)
  have s2 := s1.trans s2
  refine sRet (xOp ⟨_, rfl, v, ds, rfl, hds.mono (Le.of s2), o1.dep, fun v1 H3 s3 h1 => ?_⟩)
  refine ⟨_, rfl, u, es, rfl, hes.mono (Le.of (s2.trans s3)), o2.dep, fun v2 H4 s4 h2 => ?_⟩
  rw [← e] at h2
  refine eqEff (h1.same s4) h2 (by have := whole_dep ds o1.dep; omega) fun H' s5 => q H' (((s2.trans s3).trans s4).trans s5)
theorem ok_same (T : Tx K mg) : C8.Cal P w K mg base 22 "same" (sp_same K) [] := by
  have c_check_row := ok_check_row (P := P) (w := w) (base := base) T
  have c_whole := ok_whole (P := P) (w := w) (base := base) T
  have c_eq := ok_eq (P := P) (w := w) (base := base) T
  have sc : FnScope ["row", "other"] ["row", "other"] (C8.fnScope s_same) := C8.fnScope_by (by decide +kernel)
  refine T.cal 42 (st := s_same) rfl (by decide +kernel) sc (fun _ _ _ _ _ _ us hl => match us, hl with | [_, _], _ => rfl) (fun vs H Q E ⟨_, _, _, _, h, _⟩ => by rw [h]; rfl) (fun cdv A outer s H vs Q E f hr h => ⟨t_same K, ?_, pu_same h⟩)
  exact (pss_cons (ps_expr (C8.pe_c c_check_row hr (by omega) rfl (pa_cons (pv 0) pa_nil)))
    (pss_cons (ps_expr (C8.pe_c c_check_row hr (by omega) rfl (pa_cons (pv 1) pa_nil)))
    (pss_one (ps_ret (pe_cmpR (op_eqO c_eq hr (by omega)) (C8.pe_c c_whole hr (by omega) rfl (pa_cons (pv 0) pa_nil)) (C8.pe_c c_whole hr (by omega) rfl (pa_cons (pv 1) pa_nil)) (nomark _))))))
/-! ### witness(one, other, is_root), where the two are the same -/
def sp_witness (K : PySem.W.Frag) : Sp := fun vs H Q _ => ∃ u v b e, vs = [u, v, b] ∧ EffAt (CE K) H e u ∧ EffAt (CE K) H e v ∧ e.dep < 20 ∧ ∀ H', Same H H' → Q .non H'
def t_witness (K : PySem.W.Frag) : TS := tSeq (tIfS (tTest (tOp (rEqG (DIns (CE K) (REff K))) (tVar 0) (tVar 1))) (tRet (tC .non)) tNext) tNever
theorem pu_witness (h : sp_witness K vs H Q E) : t_witness K { nx := fun _ H' => Q .non H', rt := Q } (L2.start ["one", "other", "is_root", "place", "ours", "theirs", "key", "found"] vs) H := by
  obtain ⟨u, v, b, e, rfl, h1, h2, hd, q⟩ := h
  exact sSeq (sIf (xTest ⟨_, rfl, _, rfl, eqEff h1 h2 hd fun H' s => ⟨_, rfl, ifT rfl (sRet (q H' s))⟩⟩))
theorem ok_witness (T : Tx K mg) : C8.Cal P w K mg base 22 "witness" (sp_witness K) [] := by
  have c_eq := ok_eq (P := P) (w := w) (base := base) T
  have sc : FnScope ["one", "other", "is_root", "place", "ours", "theirs", "key", "found"] ["one", "other", "is_root"] (C8.fnScope s_witness) := C8.fnScope_by (by decide +kernel)
  refine T.cal 43 (st := s_witness) rfl (by decide +kernel) sc (fun _ _ _ _ _ _ us hl => match us, hl with | [_, _, _], _ => rfl) (fun vs H Q E ⟨_, _, _, _, h, _⟩ => by rw [h]; rfl) (fun cdv A outer s H vs Q E f hr h => ⟨t_witness K, ?_, pu_witness h⟩)
  exact pss_cons (ps_if (pt_cmpR (op_eqO c_eq hr (by omega)) (pv 0) (pv 1) (nomark _)) (pss_one (ps_ret pe_non)) pss_nil) pss_never
/-! ### parting(row, other), where the two are the same -/
def sp_parting (K : PySem.W.Frag) : Sp := fun vs H Q _ => ∃ v u ds es, vs = [v, u] ∧ RowAt H ds v ∧ RowAt H es u ∧ Rok ds ∧ Rok es ∧ whole ds = whole es ∧ ∀ H', Same H H' → Q .non H'
def t_parting (K : PySem.W.Frag) : TS :=
  (tSeq (tDrop (tCall sp_check_row [] C8.E0 (tCons (tVar 0) tNil)))
    (tSeq (tDrop (tCall sp_check_row [] C8.E0 (tCons (tVar 1) tNil)))
    (tSeq (tAsg (tCall (sp_witness K) [] C8.E0 (tCons (tCall (sp_whole K) [] C8.E0 (tCons (tVar 0) tNil)) (tCons (tCall (sp_whole K) [] C8.E0 (tCons (tVar 1) tNil)) (tCons (tC (.bl true)) tNil)))) (gName 2))
    (tRet (tIf (tB (tIsN (tVar 2))) (tC .non) tNo)))))
theorem pu_parting (h : sp_parting K vs H Q E) : t_parting K { nx := fun _ H' => Q .non H', rt := Q } (L2.start ["row", "other", "found"] vs) H := by
  obtain ⟨v, u, ds, es, rfl, hds, hes, o1, o2, e, q⟩ := h
  refine sSeq (sDrop ⟨_, rfl, v, ds, rfl, hds, o1.len, o1.dep, o1.par, fun H1 s1 => ?_⟩)
  refine sSeq (sDrop ⟨_, rfl, u, es, rfl, hes.mono (Le.of s1), o2.len, o2.dep, o2.par, fun H2 s2 => ?_⟩)
  have s2 := s1.trans s2
  refine sSeq (sAsg ⟨_, rfl, v, ds, rfl, hds.mono (Le.of s2), o1.dep, fun v1 H3 s3 h1 => ?_⟩)
  refine ⟨_, rfl, u, es, rfl, hes.mono (Le.of (s2.trans s3)), o2.dep, fun v2 H4 s4 h2 => ?_⟩
  rw [← e] at h2
  refine aCons ⟨v1, v2, _, _, rfl, h1.same s4, h2, by have := whole_dep ds o1.dep; omega, fun H5 s5 => ?_⟩
  exact sRet (xIf ⟨_, rfl, true, rfl, ifT rfl (q _ (((s2.trans s3).trans s4).trans s5))⟩)
theorem ok_parting (T : Tx K mg) : C8.Cal P w K mg base 23 "parting" (sp_parting K) [] := by
  have c_check_row := ok_check_row (P := P) (w := w) (base := base) T
  have c_whole := ok_whole (P := P) (w := w) (base := base) T
  have c_witness := ok_witness (P := P) (w := w) (base := base) T
  have sc : FnScope ["row", "other", "found"] ["row", "other"] (C8.fnScope s_parting) := C8.fnScope_by (by decide +kernel)
  refine T.cal 44 (st := s_parting) rfl (by decide +kernel) sc (fun _ _ _ _ _ _ us hl => match us, hl with | [_, _], _ => rfl) (fun vs H Q E ⟨_, _, _, _, h, _⟩ => by rw [h]; rfl) (fun cdv A outer s H vs Q E f hr h => ⟨t_parting K, ?_, pu_parting h⟩)
  exact (pss_cons (ps_expr (C8.pe_c c_check_row hr (by omega) rfl (pa_cons (pv 0) pa_nil)))
    (pss_cons (ps_expr (C8.pe_c c_check_row hr (by omega) rfl (pa_cons (pv 1) pa_nil)))
    (pss_cons (ps_set (i := 2) sc.nd rfl (Or.inl rfl) (C8.pe_c c_witness hr (by omega) rfl (pa_cons (C8.pe_c c_whole hr (by omega) rfl (pa_cons (pv 0) pa_nil)) (pa_cons (C8.pe_c c_whole hr (by omega) rfl (pa_cons (pv 1) pa_nil)) (pa_cons pe_bl pa_nil)))))
    (pss_one (ps_ret (pe_ifExp (pt_cmp (pc_isN (pv 2))) pe_non pe_no))))))
end
end Tp
end
section
set_option maxRecDepth 100000
set_option maxHeartbeats 4000000
namespace Tp
open PySem PySem.Spec PyProof.Rows L2
/-- what made says of a document -/
def nnD (d : D) : Ft := match d with
  | .obj f => fitO fun k => nn (f k)
  | d => .ok d
theorem nnD_eq {d : D} (h : d.isNon = false) : nnD d = nn d := by
  cases d with
  | abs => rfl
  | obj f => rfl
  | atom x =>
    show Ft.ok _ = (if x = non then Ft.clash [] else .ok (.atom x))
    rw [if_neg]
    intro e
    subst e
    cases h
theorem nn_non {d : D} (h : d.isNon = true) : nn d = .clash [] := by
  rw [D.isNon_iff.mp h]
  exact if_pos rfl
theorem nnD_ok {d e : D} (h : nnD d = .ok e) : e = d := by
  cases d with
  | abs => cases h; rfl
  | atom x => cases h; rfl
  | obj f => exact (nn_ok (.obj f) h).1
section
variable {P : Program} {w : World} {K : PySem.W.Frag} {mg : Str → Option Value} {base : Heap} {vs : List V} {H : Hp} {Q : VK} {E : XK}
/-! ### none_path(value, path) -/
def sp_none_path (n : Nat) : Sp := fun vs H Q _ => ∃ v d p pre, vs = [v, .ref p] ∧ DocAt H d v ∧ d.dep < n ∧ H p = some (.tup (pth pre)) ∧ pre.length + n ≤ 100 ∧ (∀ H', Same H H' → (∃ e, nnD d = .ok e) → Q .non H') ∧ ∀ H' t q, Same H H' → nnD d = .clash q → H' t = some (.tup (pth (pre ++ q))) → Q (.ref t) H'
def t_none_path (K : PySem.W.Frag) (n : Nat) : TS :=
  (tSeq (tIfS (tB (tCB (rIsi K) (tCons (tVar 0) (tCons (tC (.ty "dict")) tNil)))) (tFor (iList K (tCB rSortedD (tCons (tVar 0) tNil))) (gName 2)
      (tSeq (tIfS (tB (tIsN (tDGet (tVar 0) (tVar 2)))) (tRet (tOp (rCatA K) (tVar 1) (tTup (tCons (tVar 2) tNil)))) tNext)
    (tSeq (tAsg (tCall (sp_none_path n) [] C8.E0 (tCons (tDGet (tVar 0) (tVar 2)) (tCons (tOp (rCatA K) (tVar 1) (tTup (tCons (tVar 2) tNil))) tNil))) (gName 3))
    (tIfS (tB (tNotN (tVar 3))) (tRet (tVar 3)) tNext)))) tNext)
    (tRet (tC .non)))
theorem pth_len (q : List Ky) : (pth q).length = q.length := by
  unfold pth
  rw [List.length_map]
theorem pu_none_path {n : Nat} (h : sp_none_path (n + 1) vs H Q E) : t_none_path K n { nx := fun _ H' => Q .non H', rt := Q } (L2.start ["value", "path", "key", "found"] vs) H := by
  obtain ⟨v, d, p, pre, rfl, hd, hn, hp, hx, q0, q1⟩ := h
  refine sSeq (sIf (xDict rfl hd ?_))
  cases d with
  | abs => exact (show False from hd).elim
  | atom x => exact ifF rfl (sNext (sRet (q0 _ (Same.refl H) ⟨_, rfl⟩)))
  | obj f =>
    refine ifT rfl (sFor ?_)
    obtain ⟨a, kvs, rfl, r, ok, m⟩ := DocAt.obj_iff.mp hd
    have pk : ∀ k, (valV kvs (kK k)).isSome = false → ∃ d, nn (f k) = .ok d := fun k hk => by
      have mk := m k
      cases e : valV kvs (kK k) with
      | none =>
        rw [e] at mk
        rw [show f k = .abs from mk]
        exact ⟨_, rfl⟩
      | some u => rw [e] at hk; cases hk
    refine xCB1 rfl (sortedD_use ok r fun p2 hp2 => ?_)
    refine ⟨p2, rfl, ⟨_, .inl (.inl upd_same)⟩, ?_⟩
    have s3 : Same H (upd H p2 (.lst ((kys.filter fun k => (valV kvs (kK k)).isSome).map fun k => .str (kS k)))) := same_new hp2 _
    refine for_same (SqL.rd (.inl upd_same)) (fun i σ H4 => (∀ x ∈ (kys.filter fun k => (valV kvs (kK k)).isSome).take i, ∃ d, nn (f x) = .ok d) ∧ ∃ c e, σ = [some (.ref a), some (.ref p), c, e]) ⟨(fun x hx => by simp at hx), _, _, rfl⟩ (fun i x σ H4 hx s4 h => ?_) (fun σ H4 s4 h => ?_)
    · obtain ⟨hpre, c, e, rfl⟩ := h
      obtain ⟨k, hk, rfl⟩ := map_nth hx
      have sk := mem_filter_kys.mp (List.mem_of_getElem? hk)
      obtain ⟨u, hu⟩ := Option.isSome_iff_exists.mp sk
      have s5 := s3.trans s4
      have du := (doc_cases m hu).mono (Le.of s5)
      refine sSeq (sIf (xB ⟨_, rfl, _, rfl, a, u, rfl, dgetU ((Le.of s5).d _ _ r) hu, _, rfl, ?_⟩))
      rw [du.is_non]
      cases hnon : (f k).isNon with
      | true =>
        refine ifT rfl (sRet (xPath rfl (s5 _ _ hp) rfl (by rw [pth_len]; omega) fun t H6 s6 ht => ?_))
        rw [pth_snoc] at ht
        exact q1 _ t [k] (s5.trans s6) (fitO_at (r := fun k => nn (f k)) pk hpre hk (nn_non hnon)) ht
      | false =>
        refine ifF rfl (sNext (sSeq (sAsg ?_)))
        refine ⟨_, rfl, _, rfl, a, u, rfl, dgetU ((Le.of s5).d _ _ r) hu, xPath rfl (s5 _ _ hp) rfl (by rw [pth_len]; omega) fun t H6 s6 ht => ?_⟩
        rw [pth_snoc] at ht
        refine ⟨u, f k, t, _, rfl, du.mono (Le.of s6), D.lt_kid hn k, ht, by rw [List.length_append]; show pre.length + 1 + n ≤ _; omega, fun H7 s7 hok => ?_, fun H7 t2 q s7 hcl ht2 => ?_⟩
        · rw [nnD_eq hnon] at hok
          refine sIf ⟨_, rfl, _, rfl, ifF rfl (sNext ⟨s4.trans (s6.trans s7), fun x hx => ?_, _, _, rfl⟩)⟩
          rw [take_more hk] at hx
          rcases List.mem_append.mp hx with h | h
          · exact hpre x h
          · rw [List.mem_singleton.mp h]
            exact hok
        · rw [nnD_eq hnon] at hcl
          refine sIf ⟨_, rfl, _, rfl, ifT rfl (sRet ⟨_, rfl, ?_⟩)⟩
          rw [List.append_assoc] at ht2
          exact q1 _ t2 (k :: q) (s5.trans (s6.trans s7)) (fitO_at (r := fun k => nn (f k)) pk hpre hk hcl) ht2
    · obtain ⟨hpre, c, e, rfl⟩ := h
      rw [List.length_map, List.take_length] at hpre
      refine sRet (q0 _ (s3.trans s4) ⟨_, fitO_all (r := fun k => nn (f k)) fun k => ?_⟩)
      cases e : (valV kvs (kK k)).isSome with
      | true => exact hpre k (mem_filter_kys.mpr e)
      | false => exact pk k e
theorem ok_none_path (T : Tx K mg) : ∀ n, C8.Cal P w K mg base n "none_path" (sp_none_path n) []
  | 0 => T.calF 45 (st := s_none_path) (ps := ["value", "path"]) rfl (by decide +kernel) (fun _ _ _ _ _ _ us hl => match us, hl with | [_, _], _ => rfl) fun vs H Q E ⟨_, _, _, _, _, _, h, _⟩ => absurd h (Nat.not_lt_zero _)
  | n + 1 => by
    have c_none_path := ok_none_path T n
    have sc : FnScope ["value", "path", "key", "found"] ["value", "path"] (C8.fnScope s_none_path) := C8.fnScope_by (by decide +kernel)
    refine T.cal 45 (st := s_none_path) rfl (by decide +kernel) sc (fun _ _ _ _ _ _ us hl => match us, hl with | [_, _], _ => rfl) (fun vs H Q E ⟨_, _, _, _, h, _⟩ => by rw [h]; rfl) (fun cdv A outer s H vs Q E f hr h => ⟨t_none_path K n, ?_, pu_none_path h⟩)
    have hu := hu_of hr
    exact (pss_cons (ps_if (pt_val (pe_callB call_isi rfl T.f_isinstance bt_isinstance (pa_cons (pv 0) (pa_cons (pe_bltn (v := .ty "dict") rfl T.f_dict bt_dict rfl) pa_nil)))) (pss_one (ps_for PassesOwn.never rfl (pi_list (pe_callB (call_sortedD rfl) rfl T.f_sorted bt_sorted (pa_cons (pv 0) pa_nil))) (pg_name (i := 2) sc.nd rfl (Or.inl rfl))
      (pss_cons (ps_if (pt_cmp (pc_isN (pe_dget hu (pv 0) (pv 2) (fun _ _ => rfl)))) (pss_one (ps_ret (pe_op op_catA (pv 1) (pe_tup (pa_cons (pv 2) pa_nil))))) pss_nil)
    (pss_cons (ps_set (i := 3) sc.nd rfl (Or.inl rfl) (C8.pe_c c_none_path hr (by omega) rfl (pa_cons (pe_dget hu (pv 0) (pv 2) (fun _ _ => rfl)) (pa_cons (pe_op op_catA (pv 1) (pe_tup (pa_cons (pv 2) pa_nil))) pa_nil))))
    (pss_one (ps_if (pt_cmp (pc_notN (pv 3))) (pss_one (ps_ret (pv 3))) pss_nil)))))) pss_nil)
    (pss_one (ps_ret pe_non)))
/-! ### made(value, path) -/
def sp_made (K : PySem.W.Frag) : Sp := fun vs H Q E => ∃ v d p pre, vs = [v, .ref p] ∧ DocAt H d v ∧ d.dep ≤ 3 ∧ H p = some (.tup (pth pre)) ∧ pre.length ≤ 90 ∧ (∀ v' H', (∃ e, nnD d = .ok e) → Fresh H H' d v' → Q v' H') ∧ ∀ q, nnD d = .clash q → NoW K H (pre ++ q) E
def t_made (K : PySem.W.Frag) (E : XK) : TS :=
  (tSeq (tAsg (tCall (sp_none_path 4) [] C8.E0 (tCons (tVar 0) (tCons (tVar 1) tNil))) (gName 2))
    (tSeq (tIfS (tB (tNotN (tVar 2))) (tNo1 K 2 E) tNext)
    (tRet (tCall (sp_copied 4) [] C8.E0 (tCons (tVar 0) tNil)))))
theorem pu_made (h : sp_made K vs H Q E) : t_made K E { nx := fun _ H' => Q .non H', rt := Q } (L2.start ["value", "path", "found"] vs) H := by
  obtain ⟨v, d, p, pre, rfl, hd, hn, hp, hx, q0, q1⟩ := h
  refine sSeq (sAsg ⟨_, rfl, _, rfl, v, d, p, pre, rfl, hd, by omega, hp, by omega, fun H1 s1 hok => ?_, fun H1 t q s1 hcl ht => ?_⟩)
  · refine sSeq (sIf ⟨_, rfl, _, rfl, ifF rfl (sNext (sRet ⟨_, rfl, v, d, rfl, hd.mono (Le.of s1), by omega, fun v' H' F => q0 v' H' hok (F.wk s1)⟩))⟩)
  · exact sSeq (sIf ⟨_, rfl, _, rfl, ifT rfl (no_raise rfl ht ((q1 q hcl).wk s1))⟩)
theorem ok_made (T : Tx K mg) (N : Nx K) : CalX P w K mg base 5 "made" (sp_made K) := by
  have c_none_path := ok_none_path (P := P) (w := w) (base := base) T 4
  have c_copied := ok_copied (P := P) (w := w) (base := base) T 4
  have sc : FnScope ["value", "path", "found"] ["value", "path"] (C8.fnScope s_made) := C8.fnScope_by (by decide +kernel)
  refine T.calX 46 (st := s_made) rfl (by decide +kernel) sc (fun _ _ _ _ _ _ us hl => match us, hl with | [_, _], _ => rfl) (fun vs H Q E ⟨_, _, _, _, h, _⟩ => by rw [h]; rfl) (fun cdv A outer s H vs Q E f hr h tk own => ⟨t_made K E, ?_, pu_made h⟩)
  have hu := hu_of hr
  exact (pss_cons (ps_set (i := 2) sc.nd rfl (Or.inl rfl) (C8.pe_c c_none_path hr (by omega) rfl (pa_cons (pv 0) (pa_cons (pv 1) pa_nil))))
    (pss_cons (ps_if (pt_cmp (pc_notN (pv 2))) (pss_one (ps_no T N rfl tk hr (by omega) rfl (pv 2))) pss_nil)
    (pss_one (ps_ret (C8.pe_c c_copied hr (by omega) rfl (pa_cons (pv 0) pa_nil))))))
end
end Tp
end
section
set_option maxRecDepth 100000
set_option maxHeartbeats 4000000
namespace Tp
open PySem PySem.Spec PyProof.Rows L2
theorem D.orN_isObj (d : D) : d.orN.isObj = d.isObj := by cases d <;> rfl
/-- lm of a place that is there and changes -/
theorem lm_no_obj {a b : D} (ne : b ≠ a) (hn : a.isNon = false) (ha : a ≠ .abs) (hb : (b.isObj && a.isObj) = false) : lm a b = nnD a := by
  cases a with
  | abs => exact absurd rfl ha
  | atom x =>
    unfold lm
    rw [if_neg ne, if_neg]
    · rfl
    · intro e
      subst e
      cases hn
  | obj g =>
    unfold lm
    rw [if_neg ne]
    cases b with
    | obj f => cases hb
    | abs => rfl
    | atom x => rfl
theorem lm_non {a b : D} (ne : b ≠ a) (hn : a.isNon = true) : lm a b = .clash [] := by
  have e := D.isNon_iff.mp hn
  subst e
  unfold lm
  rw [if_neg ne, if_pos rfl]
theorem lm_obj {f g : Ky → D} (ne : D.obj f ≠ .obj g) : lm (.obj g) (.obj f) = fitO fun k => lm (g k) (f k) := by
  show (if D.obj f = .obj g then Ft.ok .abs else fitO fun k => lm (g k) (f k)) = _
  rw [if_neg ne]
section
variable {P : Program} {w : World} {K : PySem.W.Frag} {mg : Str → Option Value} {base : Heap} {vs : List V} {H : Hp} {Q : VK} {E : XK}
def sp_changed (K : PySem.W.Frag) (n : Nat) : Sp := fun vs H Q E => ∃ v u p f g pre, vs = [v, u, .ref p] ∧ DocAt H (.obj f) v ∧ DocAt H (.obj g) u ∧ (D.obj g).dep < n ∧ (D.obj g).dep ≤ 3 ∧ (D.obj f).dep ≤ 3 ∧ H p = some (.tup (pth pre)) ∧ pre.length + n ≤ 50 ∧
  (∀ d v' H', (fitO fun k => lm (g k) (f k)) = .ok d → Fresh H H' d v' → Q v' H') ∧ ∀ q, (fitO fun k => lm (g k) (f k)) = .clash q → NoW K H (pre ++ q) E
def sp_new_member (K : PySem.W.Frag) (n : Nat) : Sp := fun vs H Q E => ∃ v u p b a pre, vs = [v, u, .ref p] ∧ DocAt H b.orN v ∧ DocAt H a u ∧ b ≠ a ∧ a.dep < n ∧ a.dep ≤ 3 ∧ b.dep ≤ 3 ∧ H p = some (.tup (pth pre)) ∧ pre.length + n ≤ 50 ∧
  (∀ d v' H', lm a b = .ok d → Fresh H H' d v' → Q v' H') ∧ ∀ q, lm a b = .clash q → NoW K H (pre ++ q) E
def t_new_member (K : PySem.W.Frag) (n : Nat) (E : XK) : TS :=
  (tSeq (tIfS (tB (tIsN (tVar 1))) (tNo1 K 2 E) tNext)
    (tSeq (tIfS (tAnd (tB (tCB (rIsi K) (tCons (tVar 0) (tCons (tC (.ty "dict")) tNil)))) (tB (tCB (rIsi K) (tCons (tVar 1) (tCons (tC (.ty "dict")) tNil))))) (tRet (tCall (sp_changed K n) [] E (tCons (tVar 0) (tCons (tVar 1) (tCons (tVar 2) tNil))))) tNext)
    (tRet (tCall (sp_made K) [] E (tCons (tVar 1) (tCons (tVar 2) tNil))))))
theorem pu_new_member {n : Nat} (h : sp_new_member K n vs H Q E) : t_new_member K n E { nx := fun _ H' => Q .non H', rt := Q } (L2.start ["before", "after", "path"] vs) H := by
  obtain ⟨v, u, p, b, a, pre, rfl, hb, ha, ne, hn, ha3, hb3, hp, hx, q0, q1⟩ := h
  refine sSeq (sIf (xB ⟨_, rfl, _, rfl, ?_⟩))
  rw [ha.is_non]
  cases hnon : a.isNon with
  | true =>
    have w := q1 [] (lm_non ne hnon)
    rw [List.append_nil] at w
    exact ifT rfl (no_raise rfl hp w)
  | false =>
    refine ifF rfl (sNext (sSeq (sIf (xAnd (xDict rfl hb ?_)))))
    rw [D.orN_isObj]
    have rest : (b.isObj && a.isObj) = false → (tRet (tCall (sp_made K) [] E (tCons (tVar 1) (tCons (tVar 2) tNil)))) ⟨fun _ H' => Q .non H', Q, fun _ _ => False, fun _ _ => False⟩ [some v, some u, some (.ref p)] H := fun e => by
      have el := lm_no_obj ne hnon ha.ne e
      refine sRet ⟨_, rfl, _, rfl, u, a, p, pre, rfl, ha, ha3, hp, by omega, fun v' H' ⟨e, he⟩ F => q0 a v' H' ?_ F, fun q hq => q1 q (by rw [el]; exact hq)⟩
      rw [el, he, nnD_ok he]
    cases hbo : b.isObj with
    | false => exact ifF rfl (ifF rfl (sNext (rest (by rw [hbo] <;> rfl))))
    | true =>
      refine ifT rfl (xDict rfl ha ?_)
      cases hao : a.isObj with
      | false => exact ifF rfl (sNext (rest (by rw [hbo, hao] <;> rfl)))
      | true =>
        cases b with
        | abs => cases hbo
        | atom x => cases hbo
        | obj f =>
          cases a with
          | abs => cases hao
          | atom x => cases hao
          | obj g =>
            rw [D.orN_ne (d := D.obj f) (fun z => nomatch z)] at hb
            refine ifT rfl (sRet ⟨_, rfl, _, rfl, _, rfl, v, u, p, f, g, pre, rfl, hb, ha, hn, ha3, hb3, hp, by omega, fun d v' H' e F => q0 d v' H' ?_ F, fun q e => q1 q ?_⟩)
            · rw [lm_obj ne]; exact e
            · rw [lm_obj ne]; exact e
def t_changed (P : Program) (w : World) (K : PySem.W.Frag) (n : Nat) (E : XK) : TS :=
  (tSeq (tAsg tDNewK (gName 3))
    (tSeq (tFor (iList K (tCB (rSortedL P w) (tCons (tCB (rSetL K P w) (tCons (tOp rCat (tCB rListR (tCons (tVar 0) tNil)) (tCB rListR (tCons (tVar 1) tNil))) tNil)) tNil))) (gName 4)
      (tIfS (tB (tDNotIn (tVar 4) (tVar 1))) (sDPut (tVar 3) (tVar 4) (tC .non)) (tIfS (tOr (tB (tDNotIn (tVar 4) (tVar 0))) (tTest (tOp rNeDoc (tDGet (tVar 0) (tVar 4)) (tDGet (tVar 1) (tVar 4))))) (sDPut (tVar 3) (tVar 4) (tCall (sp_new_member K n) [] E (tCons (tDGet1 (tVar 0) (tVar 4)) (tCons (tDGet (tVar 1) (tVar 4)) (tCons (tOp (rCatA K) (tVar 2) (tTup (tCons (tVar 4) tNil))) tNil))))) tNext)))
    (tRet (tVar 3))))
theorem pu_changed {n : Nat} (h : sp_changed K (n + 1) vs H Q E) : t_changed P w K n E { nx := fun _ H' => Q .non H', rt := Q } (L2.start ["before", "after", "path", "found", "key"] vs) H := by
  obtain ⟨v, u, p, f, g, pre, rfl, hv, hu, hn, hg3, hf3, hp, hx, q0, q1⟩ := h
  obtain ⟨a, kvs, rfl, ra, ok1, m1⟩ := DocAt.obj_iff.mp hv
  obtain ⟨b, lvs, rfl, rb, ok2, m2⟩ := DocAt.obj_iff.mp hu
  refine sSeq (sAsg fun pf hpf => ?_)
  have B0 := Bld.start hpf
  have s0 := B0.same
  refine sSeq (sFor (iL (union_keys rfl rfl ((Le.of s0).d _ _ ra) ((Le.of s0).d _ _ rb) ok1 ok2 fun l H1 s1 hl0 hl => ⟨l, rfl, ⟨_, SqL.of hl⟩, ?_⟩)))
  have B1 := B0.call s1
  have nl : l ≠ pf := fun e => by rw [e, upd_same] at hl0; cases hl0
  generalize hks : (kys.filter fun k => (valV kvs (kK k)).isSome || (valV lvs (kK k)).isSome) = ks at *
  have pk : ∀ k, ((valV kvs (kK k)).isSome || (valV lvs (kK k)).isSome) = false → ∃ d, lm (g k) (f k) = .ok d := fun k hk => by
    rw [Bool.or_eq_false_iff] at hk
    have mk1 := m1 k
    have mk2 := m2 k
    cases e1 : valV kvs (kK k) with
    | some x => rw [e1] at hk; cases hk.1
    | none =>
      cases e2 : valV lvs (kK k) with
      | some x => rw [e2] at hk; cases hk.2
      | none =>
        rw [e1] at mk1
        rw [e2] at mk2
        rw [show f k = .abs from mk1, show g k = .abs from mk2]
        exact ⟨_, rfl⟩
  have ndl : ks.Nodup := by rw [← hks]; exact filter_nd _
  have ndk : (ks.map kK).Nodup := List.Pairwise.map kK (fun a b ne q => ne (kK_inj q)) ndl
  refine for_it (D := ⟨_, _, fun _ _ => False, fun _ _ => False⟩) (walk_list (xs := ks.map fun k => V.str (kS k)))
    (fun i σ H2 => (∃ c, σ = [some (.ref a), some (.ref b), some (.ref p), some (.ref pf), c]) ∧ H2 l = some (.lst (ks.map fun k => V.str (kS k))) ∧ (∀ x ∈ ks.take i, ∃ d, lm (g x) (f x) = .ok d) ∧ ∃ kvs2, Bld H pf H2 kvs2 fun k => if upto (ks.map kK) i (kK k) = true then (lm (g k) (f k)).doc else .abs)
    ⟨⟨_, rfl⟩, hl, (fun x hx => by simp at hx), _, B1.congr fun k => by rw [upto_zero] <;> rfl⟩ (fun i σ H2 _ ⟨_, h, _⟩ => SqL.of h) (fun i x σ H2 H3 hi ⟨⟨c, hσ⟩, hl2, hpre, kvs2, B⟩ y => ?_) (fun σ H2 ⟨⟨c, hσ⟩, hl2, hpre, kvs2, B⟩ => ?_)
  · subst hσ
    obtain ⟨rfl, hx⟩ := y
    obtain ⟨k, hk, rfl⟩ := map_nth hx
    have hki : (ks.map kK)[i]? = some (kK k) := by rw [List.getElem?_map, hk] <;> rfl
    have nu := upto_not ndk hki
    have hin : ((valV kvs (kK k)).isSome || (valV lvs (kK k)).isSome) = true := by
      have := List.mem_of_getElem? hk
      rw [← hks] at this
      exact mem_filter_kys.mp this
    have sB := B.same
    have ra3 := (Le.of sB).d _ _ ra
    have rb3 := (Le.of sB).d _ _ rb
    have snoc : (∃ d, lm (g k) (f k) = .ok d) → ∀ x ∈ ks.take (i + 1), ∃ d, lm (g x) (f x) = .ok d := fun hd x hx => by
      rw [take_more hk] at hx
      rcases List.mem_append.mp hx with h | h
      · exact hpre x h
      · rw [List.mem_singleton.mp h]
        exact hd
    -- found[key] = new_member(..)
    have put : f k ≠ g k → ∀ u, valV lvs (kK k) = some u → (sDPut (tVar 3) (tVar 4) (tCall (sp_new_member K n) [] E (tCons (tDGet1 (tVar 0) (tVar 4)) (tCons (tDGet (tVar 1) (tVar 4)) (tCons (tOp (rCatA K) (tVar 2) (tTup (tCons (tVar 4) tNil))) tNil)))))
        ⟨fun σ H2 => (∃ c, σ = [some (.ref a), some (.ref b), some (.ref p), some (.ref pf), c]) ∧ H2 l = some (.lst (ks.map fun k => V.str (kS k))) ∧ (∀ x ∈ ks.take (i + 1), ∃ d, lm (g x) (f x) = .ok d) ∧ ∃ kvs2, Bld H pf H2 kvs2 fun k => if upto (ks.map kK) (i + 1) (kK k) = true then (lm (g k) (f k)).doc else .abs, Q, fun _ _ => False,
         fun σ H2 => (∃ c, σ = [some (.ref a), some (.ref b), some (.ref p), some (.ref pf), c]) ∧ H2 l = some (.lst (ks.map fun k => V.str (kS k))) ∧ (∀ x ∈ ks.take (i + 1), ∃ d, lm (g x) (f x) = .ok d) ∧ ∃ kvs2, Bld H pf H2 kvs2 fun k => if upto (ks.map kK) (i + 1) (kK k) = true then (lm (g k) (f k)).doc else .abs⟩
        [some (.ref a), some (.ref b), some (.ref p), some (.ref pf), some (.str (kS k))] H3 := fun ne u hu2 => by
      refine ⟨_, rfl, a, rfl, .inl ⟨_, ra3⟩, _, rfl, _, dgetK ra3 k, ?_⟩
      refine ⟨_, rfl, _, rfl, b, u, rfl, dgetU rb3 hu2, xPath rfl (sB _ _ hp) rfl (by rw [pth_len]; omega) fun t H4 s4 ht => ?_⟩
      rw [pth_snoc] at ht
      have mk1 := (m1 k).mono (Le.of (sB.trans s4))
      have du := (doc_cases m2 hu2).mono (Le.of (sB.trans s4))
      refine ⟨_, u, t, f k, g k, _, rfl, mk1.getN, du, ne, D.lt_kid hn k, ?_, ?_, ht, by rw [List.length_append]; show pre.length + 1 + n ≤ _; omega, fun d v' H5 hd F => ?_, fun q hq => ?_⟩
      · exact kid_dep hg3 k
      · exact kid_dep hf3 k
      · have s5 := s4.trans F.same
        have B5 := B.call s5
        refine ⟨_, rfl, _, rfl, pf, _, rfl, dputK B5.at_ B5.ok k _, ⟨_, rfl⟩, ?_, snoc ⟨_, hd⟩, _, (B5.put (k := k) ((B.call s4).into F.same F.doc)).congr fun j => upto_step hki (g := fun k => (lm (g k) (f k)).doc) (h := fun _ => .abs) (by show (lm (g k) (f k)).doc = d; rw [hd] <;> rfl) j⟩
        rw [upd_ne nl]
        exact s5 _ _ hl2
      · have := q1 (k :: q) (fitO_at (r := fun k => lm (g k) (f k)) pk (by rw [hks]; exact hpre) (by rw [hks]; exact hk) hq)
        rw [List.append_assoc]
        exact this.wk (sB.trans s4)
    refine sIf (xB ⟨_, rfl, _, rfl, b, _, rfl, dgetK rb3 k, _, rfl, ?_⟩)
    cases e2 : valV lvs (kK k) with
    | none =>
      refine ifT rfl ?_
      have mk2 := m2 k
      rw [e2] at mk2
      have eg : g k = .abs := mk2
      have mk1 := m1 k
      cases e1 : valV kvs (kK k) with
      | none => rw [e1, e2] at hin; cases hin
      | some x =>
        rw [e1] at mk1
        have ef : f k ≠ .abs := DocAt.ne mk1
        have el : lm (g k) (f k) = .ok (.atom non) := by
          rw [eg]
          show (if (f k).isAbs = true then Ft.ok .abs else .ok (.atom non)) = _
          rw [if_neg (fun z => ef (D.isAbs_iff.mp z))]
        refine ⟨_, rfl, _, rfl, pf, _, rfl, dputK B.at_ B.ok k _, ⟨_, rfl⟩, by rw [upd_ne nl]; exact hl2, snoc ⟨_, el⟩, _, (B.put (k := k) (d := .atom non) (u := .non) doc_non).congr fun j => upto_step hki (g := fun k => (lm (g k) (f k)).doc) (h := fun _ => .abs) (by show (lm (g k) (f k)).doc = _; rw [el] <;> rfl) j⟩
    | some u =>
      refine ifF rfl (sIf (xOr (xB ⟨_, rfl, _, rfl, a, _, rfl, dgetK ra3 k, _, rfl, ?_⟩)))
      have mk2 := doc_cases m2 e2
      cases e1 : valV kvs (kK k) with
      | none =>
        have mk1 := m1 k
        rw [e1] at mk1
        refine ifT rfl (ifT rfl (put (fun z => mk2.ne (z.symm.trans mk1)) u e2))
      | some x =>
        refine ifF rfl (xTest ⟨_, rfl, _, rfl, a, x, rfl, dgetU ra3 e1, _, rfl, _, rfl, b, u, rfl, dgetU rb3 e2, f k, g k, (doc_cases m1 e1).mono (Le.of sB), mk2.mono (Le.of sB), ?_, _, rfl, ?_⟩)
        · have := kid_dep hf3 k
          exact Nat.le_trans this (by decide)
        · by_cases e : f k = g k
          · refine ifF (by simp [e]) (sNext ⟨⟨_, rfl⟩, hl2, snoc ⟨.abs, by rw [e]; exact lm_self _⟩, kvs2, B.congr fun j => ?_⟩)
            rw [← upto_step hki (g := fun k => (lm (g k) (f k)).doc) (h := fun _ => D.abs) rfl j]
            by_cases q : j = k
            · subst q
              rw [if_pos rfl, if_neg (by rw [nu]; exact Bool.false_ne_true), e, lm_self] <;> rfl
            · rw [if_neg q]
          · exact ifT (by simp [e]) (put e u e2)
  · subst hσ
    rw [List.length_map, List.take_length] at hpre
    have all : ∀ k, ∃ d, lm (g k) (f k) = .ok d := fun k => by
      cases e : ((valV kvs (kK k)).isSome || (valV lvs (kK k)).isSome) with
      | true => exact hpre k (by rw [← hks]; exact mem_filter_kys.mpr e)
      | false => exact pk k e
    refine ⟨_, rfl, q0 _ _ _ (fitO_all (r := fun k => lm (g k) (f k)) all) (Fresh.obj (B.congr fun k => ?_))⟩
    rw [upto_all (by rw [List.length_map, List.length_map]; exact Nat.le_refl _)]
    cases e : ((valV kvs (kK k)).isSome || (valV lvs (kK k)).isSome) with
    | true =>
      have hm : kK k ∈ ks.map kK := List.mem_map_of_mem (by rw [← hks]; exact mem_filter_kys.mpr e)
      rw [if_pos (by simpa using hm)]
    | false =>
      have hm : ¬ kK k ∈ ks.map kK := fun z => by
        obtain ⟨k', h1, h2⟩ := List.mem_map.mp z
        rw [kK_inj h2, ← hks] at h1
        have := mem_filter_kys.mp h1
        rw [e] at this
        cases this
      have h2 : (lm (g k) (f k)).doc = .abs := by
        rw [Bool.or_eq_false_iff] at e
        have mk1 := m1 k
        have mk2 := m2 k
        cases e1 : valV kvs (kK k) with
        | some x => rw [e1] at e; cases e.1
        | none =>
          cases e2 : valV lvs (kK k) with
          | some x => rw [e2] at e; cases e.2
          | none =>
            rw [e1] at mk1
            rw [e2] at mk2
            rw [show f k = .abs from mk1, show g k = .abs from mk2] <;> rfl
      rw [h2]
      split <;> rfl
mutual
theorem ok_changed (T : Tx K mg) (N : Nx K) : ∀ n, CalX P w K mg base (2 * n + 6) "changed" (sp_changed K n)
  | 0 => T.calXF 47 (st := s_changed) (ps := ["before", "after", "path"]) rfl (by decide +kernel) (fun _ _ _ _ _ _ us hl => match us, hl with | [_, _, _], _ => rfl) fun vs H Q E ⟨_, _, _, _, _, _, _, _, _, h, _⟩ => absurd h (Nat.not_lt_zero _)
  | n + 1 => by
    have c_new_member := ok_new_member T N n
    have sc : FnScope ["before", "after", "path", "found", "key"] ["before", "after", "path"] (C8.fnScope s_changed) := C8.fnScope_by (by decide +kernel)
    refine T.calX 47 (st := s_changed) rfl (by decide +kernel) sc (fun _ _ _ _ _ _ us hl => match us, hl with | [_, _, _], _ => rfl) (fun vs H Q E ⟨_, _, _, _, _, _, h, _⟩ => by rw [h]; rfl) (fun cdv A outer s H vs Q E f hr h tk own => ⟨t_changed P w K n E, ?_, pu_changed h⟩)
    have hu := hu_of hr
    exact (pss_cons (ps_set (i := 3) sc.nd rfl (Or.inl rfl) pe_dnewK)
    (pss_cons (ps_for own rfl (pi_list (pe_callB (call_sortedL rfl) rfl T.f_sorted bt_sorted (pa_cons (pe_callTy (call_setL rfl) rfl T.f_set bt_set (pa_cons (pe_op op_cat (pe_callTy (call_listR rfl) rfl T.f_list bt_list (pa_cons (pv 0) pa_nil)) (pe_callTy (call_listR rfl) rfl T.f_list bt_list (pa_cons (pv 1) pa_nil))) pa_nil)) pa_nil))) (pg_name (i := 4) sc.nd rfl (Or.inl rfl))
      (pss_one (ps_if (pt_cmp (pc_dnotin hu (pv 4) (pv 1))) (pss_one (ps_dput hu (pv 3) (pv 4) pe_non rfl)) (pss_one (ps_if (PW.pt (pw_or (pt_cmp (pc_dnotin hu (pv 4) (pv 0))) (pw_or1 (pt_cmpR (op_neDoc hr.units) (pe_dget hu (pv 0) (pv 4) (fun _ _ => rfl)) (pe_dget hu (pv 1) (pv 4) (fun _ _ => rfl)) (nomark _))))) (pss_one (ps_dput hu (pv 3) (pv 4) (pe_cX c_new_member hr (by omega) tk (fun _ _ _ _ h => h) rfl (pa_cons (pe_dget1 hu (pv 0) (pv 4) ⟨rfl, rfl, rfl, rfl⟩) (pa_cons (pe_dget hu (pv 1) (pv 4) (fun _ _ => rfl)) (pa_cons (pe_op op_catA (pv 2) (pe_tup (pa_cons (pv 4) pa_nil))) pa_nil)))) rfl)) pss_nil)))))
    (pss_one (ps_ret (pv 3)))))
theorem ok_new_member (T : Tx K mg) (N : Nx K) : ∀ n, CalX P w K mg base (2 * n + 7) "new_member" (sp_new_member K n)
  | 0 => T.calXF 48 (st := s_new_member) (ps := ["before", "after", "path"]) rfl (by decide +kernel) (fun _ _ _ _ _ _ us hl => match us, hl with | [_, _, _], _ => rfl) fun vs H Q E ⟨_, _, _, _, _, _, _, _, _, _, h, _⟩ => absurd h (Nat.not_lt_zero _)
  | n + 1 => by
    have c_changed := ok_changed T N (n + 1)
    have c_made := ok_made (P := P) (w := w) (base := base) T N
    have sc : FnScope ["before", "after", "path"] ["before", "after", "path"] (C8.fnScope s_new_member) := C8.fnScope_by (by decide +kernel)
    refine T.calX 48 (st := s_new_member) rfl (by decide +kernel) sc (fun _ _ _ _ _ _ us hl => match us, hl with | [_, _, _], _ => rfl) (fun vs H Q E ⟨_, _, _, _, _, _, h, _⟩ => by rw [h]; rfl) (fun cdv A outer s H vs Q E f hr h tk own => ⟨t_new_member K (n + 1) E, ?_, pu_new_member h⟩)
    have hu := hu_of hr
    exact (pss_cons (ps_if (pt_cmp (pc_isN (pv 1))) (pss_one (ps_no T N rfl tk hr (by omega) rfl (pv 2))) pss_nil)
    (pss_cons (ps_if (PW.pt (pw_and (pt_val (pe_callB call_isi rfl T.f_isinstance bt_isinstance (pa_cons (pv 0) (pa_cons (pe_bltn (v := .ty "dict") rfl T.f_dict bt_dict rfl) pa_nil)))) (pw_and1 (pt_val (pe_callB call_isi rfl T.f_isinstance bt_isinstance (pa_cons (pv 1) (pa_cons (pe_bltn (v := .ty "dict") rfl T.f_dict bt_dict rfl) pa_nil))))))) (pss_one (ps_ret (pe_cX c_changed hr (by omega) tk (fun _ _ _ _ h => h) rfl (pa_cons (pv 0) (pa_cons (pv 1) (pa_cons (pv 2) pa_nil)))))) pss_nil)
    (pss_one (ps_ret (pe_cX c_made hr (by omega) tk (fun _ _ _ _ h => h) rfl (pa_cons (pv 1) (pa_cons (pv 2) pa_nil)))))))
end
end
end Tp
end
section
set_option maxRecDepth 100000
set_option maxHeartbeats 4000000
namespace Tp
open PySem PySem.Spec PyProof.Rows L2
theorem led_noObj {a b : D} (h : (b.isObj && a.isObj) = false) : led b a = nnD a := by
  cases a with
  | abs => rfl
  | atom x => rfl
  | obj g =>
    cases b with
    | obj f => cases h
    | abs => rfl
    | atom x => rfl
section
variable {P : Program} {w : World} {K : PySem.W.Frag} {mg : Str → Option Value} {base : Heap} {vs : List V} {H : Hp} {Q : VK} {E : XK}
/-- what led and change wish -/
def LedW (K : PySem.W.Frag) (H : Hp) (b a : D) (Q : VK) (E : XK) : Prop := (∀ d v' H', led b a = .ok d → Fresh H H' d v' → Q v' H') ∧ ∀ q, led b a = .clash q → NoW K H q E
theorem LedW.wk {H H1 : Hp} {b a : D} (s : Same H H1) (h : LedW K H b a Q E) : LedW K H1 b a Q E := ⟨fun d v' H' e F => h.1 d v' H' e (F.wk s), fun q e => (h.2 q e).wk s⟩
def sp_led (K : PySem.W.Frag) : Sp := fun vs H Q E => ∃ v u b a, vs = [v, u] ∧ DocAt H b v ∧ DocAt H a u ∧ b.dep ≤ 3 ∧ a.dep ≤ 3 ∧ LedW K H b a Q E
def t_led (K : PySem.W.Frag) (E : XK) : TS :=
  (tSeq (tIfS (tAnd (tB (tCB (rIsi K) (tCons (tVar 0) (tCons (tC (.ty "dict")) tNil)))) (tB (tCB (rIsi K) (tCons (tVar 1) (tCons (tC (.ty "dict")) tNil))))) (tRet (tCall (sp_changed K 4) [] E (tCons (tVar 0) (tCons (tVar 1) (tCons (tTup tNil) tNil))))) tNext)
    (tRet (tCall (sp_made K) [] E (tCons (tVar 1) (tCons (tTup tNil) tNil)))))
theorem pu_led (h : sp_led K vs H Q E) : t_led K E { nx := fun _ H' => Q .non H', rt := Q } (L2.start ["before", "after"] vs) H := by
  obtain ⟨v, u, b, a, rfl, hb, ha, hb3, ha3, q0, q1⟩ := h
  refine sSeq (sIf (xAnd (xDict rfl hb ?_)))
  have rest : (b.isObj && a.isObj) = false → (tRet (tCall (sp_made K) [] E (tCons (tVar 1) (tCons (tTup tNil) tNil)))) ⟨fun _ H' => Q .non H', Q, fun _ _ => False, fun _ _ => False⟩ [some v, some u] H := fun e => by
    have el := led_noObj e
    refine sRet ⟨_, rfl, Nat.zero_le _, fun p hp => ?_⟩
    have s := same_new hp (.tup [])
    refine ⟨u, a, p, [], rfl, ha.mono (Le.of s), ha3, upd_same, Nat.zero_le _, fun v' H' ⟨e, he⟩ F => q0 a v' H' ?_ (F.wk s), fun q hq => ?_⟩
    · rw [el, he, nnD_ok he]
    · exact (q1 q (by rw [el]; exact hq)).wk s
  cases hbo : b.isObj with
  | false => exact ifF rfl (ifF rfl (sNext (rest (by rw [hbo] <;> rfl))))
  | true =>
    refine ifT rfl (xDict rfl ha ?_)
    cases hao : a.isObj with
    | false => exact ifF rfl (sNext (rest (by rw [hbo, hao] <;> rfl)))
    | true =>
      cases b with
      | abs => cases hbo
      | atom x => cases hbo
      | obj f =>
        cases a with
        | abs => cases hao
        | atom x => cases hao
        | obj g =>
          refine ifT rfl (sRet ⟨_, rfl, _, rfl, Nat.zero_le _, fun p hp => ?_⟩)
          have s := same_new hp (.tup [])
          exact ⟨v, u, p, f, g, [], rfl, hb.mono (Le.of s), ha.mono (Le.of s), by omega, ha3, hb3, upd_same, (show 0 + 4 ≤ 50 by decide), fun d v' H' e F => q0 d v' H' e (F.wk s), fun q e => (q1 q e).wk s⟩
theorem ok_led (T : Tx K mg) (N : Nx K) : CalX P w K mg base 15 "led" (sp_led K) := by
  have c_changed := ok_changed (P := P) (w := w) (base := base) T N 4
  have c_made := ok_made (P := P) (w := w) (base := base) T N
  have sc : FnScope ["before", "after"] ["before", "after"] (C8.fnScope s_led) := C8.fnScope_by (by decide +kernel)
  refine T.calX 49 (st := s_led) rfl (by decide +kernel) sc (fun _ _ _ _ _ _ us hl => match us, hl with | [_, _], _ => rfl) (fun vs H Q E ⟨_, _, _, _, h, _⟩ => by rw [h]; rfl) (fun cdv A outer s H vs Q E f hr h tk own => ⟨t_led K E, ?_, pu_led h⟩)
  exact (pss_cons (ps_if (PW.pt (pw_and (pt_val (pe_callB call_isi rfl T.f_isinstance bt_isinstance (pa_cons (pv 0) (pa_cons (pe_bltn (v := .ty "dict") rfl T.f_dict bt_dict rfl) pa_nil)))) (pw_and1 (pt_val (pe_callB call_isi rfl T.f_isinstance bt_isinstance (pa_cons (pv 1) (pa_cons (pe_bltn (v := .ty "dict") rfl T.f_dict bt_dict rfl) pa_nil))))))) (pss_one (ps_ret (pe_cX c_changed hr (by omega) tk (fun _ _ _ _ h => h) rfl (pa_cons (pv 0) (pa_cons (pv 1) (pa_cons (pe_tup pa_nil) pa_nil)))))) pss_nil)
    (pss_one (ps_ret (pe_cX c_made hr (by omega) tk (fun _ _ _ _ h => h) rfl (pa_cons (pv 1) (pa_cons (pe_tup pa_nil) pa_nil))))))
/-! ### change(before, after) -/
def t_change (K : PySem.W.Frag) (E : XK) : TS :=
  (tSeq (tDrop (tCall sp_check [] C8.E0 (tCons (tVar 0) tNil)))
    (tSeq (tDrop (tCall sp_check [] C8.E0 (tCons (tVar 1) tNil)))
    (tRet (tCall (sp_led K) [] E (tCons (tVar 0) (tCons (tVar 1) tNil))))))
theorem pu_change (h : sp_led K vs H Q E) : t_change K E { nx := fun _ H' => Q .non H', rt := Q } (L2.start ["before", "after"] vs) H := by
  obtain ⟨v, u, b, a, rfl, hb, ha, hb3, ha3, W⟩ := h
  refine sSeq (sDrop ⟨_, rfl, v, b, rfl, hb, hb3, fun H1 s1 => ?_⟩)
  refine sSeq (sDrop ⟨_, rfl, u, a, rfl, ha.mono (Le.of s1), ha3, fun H2 s2 => ?_⟩)
  have s2 := s1.trans s2
  exact sRet ⟨_, rfl, _, rfl, v, u, b, a, rfl, hb.mono (Le.of s2), ha.mono (Le.of s2), hb3, ha3, W.wk s2⟩
theorem ok_change (T : Tx K mg) (N : Nx K) : CalX P w K mg base 16 "change" (sp_led K) := by
  have c_check := ok_check (P := P) (w := w) (base := base) T
  have c_led := ok_led (P := P) (w := w) (base := base) T N
  have sc : FnScope ["before", "after"] ["before", "after"] (C8.fnScope s_change) := C8.fnScope_by (by decide +kernel)
  refine T.calX 50 (st := s_change) rfl (by decide +kernel) sc (fun _ _ _ _ _ _ us hl => match us, hl with | [_, _], _ => rfl) (fun vs H Q E ⟨_, _, _, _, h, _⟩ => by rw [h]; rfl) (fun cdv A outer s H vs Q E f hr h tk own => ⟨t_change K E, ?_, pu_change h⟩)
  exact (pss_cons (ps_expr (C8.pe_c c_check hr (by omega) rfl (pa_cons (pv 0) pa_nil)))
    (pss_cons (ps_expr (C8.pe_c c_check hr (by omega) rfl (pa_cons (pv 1) pa_nil)))
    (pss_one (ps_ret (pe_cX c_led hr (by omega) tk (fun _ _ _ _ h => h) rfl (pa_cons (pv 0) (pa_cons (pv 1) pa_nil)))))))
/-! ### undoing(document, row) -/
def sp_undoing (K : PySem.W.Frag) : Sp := fun vs H Q E => ∃ v u d ds, vs = [v, u] ∧ DocAt H d v ∧ RowAt H ds u ∧ d.dep ≤ 3 ∧ Rok ds ∧ LedW K H (runD d ds) d Q E
def t_undoing (K : PySem.W.Frag) (E : XK) : TS :=
  (tSeq (tDrop (tCall sp_check [] C8.E0 (tCons (tVar 0) tNil)))
    (tSeq (tDrop (tCall sp_check_row [] C8.E0 (tCons (tVar 1) tNil)))
    (tRet (tCall (sp_led K) [] E (tCons (tCall sp_after_all [] C8.E0 (tCons (tVar 0) (tCons (tVar 1) tNil))) (tCons (tVar 0) tNil))))))
theorem pu_undoing (h : sp_undoing K vs H Q E) : t_undoing K E { nx := fun _ H' => Q .non H', rt := Q } (L2.start ["document", "row"] vs) H := by
  obtain ⟨v, u, d, ds, rfl, hd, hds, hd3, ok, W⟩ := h
  refine sSeq (sDrop ⟨_, rfl, v, d, rfl, hd, hd3, fun H1 s1 => ?_⟩)
  refine sSeq (sDrop ⟨_, rfl, u, ds, rfl, hds.mono (Le.of s1), ok.len, ok.dep, ok.par, fun H2 s2 => ?_⟩)
  have s2 := s1.trans s2
  refine sRet ⟨_, rfl, _, rfl, v, u, d, ds, rfl, hd.mono (Le.of s2), hds.mono (Le.of s2), hd3, ok.dep, fun v3 H3 F => ?_⟩
  have s3 := s2.trans F.same
  exact ⟨_, rfl, v3, v, _, d, rfl, F.read, hd.mono (Le.of s3), runD_dep _ _ ok.dep hd3, hd3, W.wk s3⟩
theorem ok_undoing (T : Tx K mg) (N : Nx K) : CalX P w K mg base 16 "undoing" (sp_undoing K) := by
  have c_check := ok_check (P := P) (w := w) (base := base) T
  have c_check_row := ok_check_row (P := P) (w := w) (base := base) T
  have c_after_all := ok_after_all (P := P) (w := w) (base := base) T
  have c_led := ok_led (P := P) (w := w) (base := base) T N
  have sc : FnScope ["document", "row"] ["document", "row"] (C8.fnScope s_undoing) := C8.fnScope_by (by decide +kernel)
  refine T.calX 51 (st := s_undoing) rfl (by decide +kernel) sc (fun _ _ _ _ _ _ us hl => match us, hl with | [_, _], _ => rfl) (fun vs H Q E ⟨_, _, _, _, h, _⟩ => by rw [h]; rfl) (fun cdv A outer s H vs Q E f hr h tk own => ⟨t_undoing K E, ?_, pu_undoing h⟩)
  exact (pss_cons (ps_expr (C8.pe_c c_check hr (by omega) rfl (pa_cons (pv 0) pa_nil)))
    (pss_cons (ps_expr (C8.pe_c c_check_row hr (by omega) rfl (pa_cons (pv 1) pa_nil)))
    (pss_one (ps_ret (pe_cX c_led hr (by omega) tk (fun _ _ _ _ h => h) rfl (pa_cons (C8.pe_c c_after_all hr (by omega) rfl (pa_cons (pv 0) (pa_cons (pv 1) pa_nil))) (pa_cons (pv 0) pa_nil)))))))
/-! ### is_result(row, document) -/
def sp_is_result : Sp := fun vs H Q _ => ∃ v u d ds, vs = [u, v] ∧ DocAt H d v ∧ RowAt H ds u ∧ d.dep ≤ 3 ∧ Rok ds ∧ ∀ H', Same H H' → Q (.bl (decide (runD d ds = d))) H'
def t_is_result (K : PySem.W.Frag) : TS :=
  (tSeq (tDrop (tCall sp_check_row [] C8.E0 (tCons (tVar 0) tNil)))
    (tSeq (tDrop (tCall sp_check [] C8.E0 (tCons (tVar 1) tNil)))
    (tRet (tOp rEqDoc (tCall sp_after_all [] C8.E0 (tCons (tVar 1) (tCons (tVar 0) tNil))) (tVar 1)))))
theorem pu_is_result (h : sp_is_result vs H Q E) : t_is_result K { nx := fun _ H' => Q .non H', rt := Q } (L2.start ["row", "document"] vs) H := by
  obtain ⟨v, u, d, ds, rfl, hd, hds, hd3, ok, q⟩ := h
  refine sSeq (sDrop ⟨_, rfl, u, ds, rfl, hds, ok.len, ok.dep, ok.par, fun H1 s1 => ?_⟩)
  refine sSeq (sDrop ⟨_, rfl, v, d, rfl, hd.mono (Le.of s1), hd3, fun H2 s2 => ?_⟩)
  have s2 := s1.trans s2
  refine sRet (xOp ⟨_, rfl, _, rfl, v, u, d, ds, rfl, hd.mono (Le.of s2), hds.mono (Le.of s2), hd3, ok.dep, fun v3 H3 F => ?_⟩)
  have s3 := s2.trans F.same
  exact ⟨v, rfl, _, d, F.read, hd.mono (Le.of s3), Nat.le_trans (runD_dep _ _ ok.dep hd3) (by decide), q _ s3⟩
theorem ok_is_result (T : Tx K mg) : C8.Cal P w K mg base 10 "is_result" sp_is_result [] := by
  have c_check := ok_check (P := P) (w := w) (base := base) T
  have c_check_row := ok_check_row (P := P) (w := w) (base := base) T
  have c_after_all := ok_after_all (P := P) (w := w) (base := base) T
  have sc : FnScope ["row", "document"] ["row", "document"] (C8.fnScope s_is_result) := C8.fnScope_by (by decide +kernel)
  refine T.cal 52 (st := s_is_result) rfl (by decide +kernel) sc (fun _ _ _ _ _ _ us hl => match us, hl with | [_, _], _ => rfl) (fun vs H Q E ⟨_, _, _, _, h, _⟩ => by rw [h]; rfl) (fun cdv A outer s H vs Q E f hr h => ⟨t_is_result K, ?_, pu_is_result h⟩)
  exact (pss_cons (ps_expr (C8.pe_c c_check_row hr (by omega) rfl (pa_cons (pv 0) pa_nil)))
    (pss_cons (ps_expr (C8.pe_c c_check hr (by omega) rfl (pa_cons (pv 1) pa_nil)))
    (pss_one (ps_ret (pe_cmpR (op_eqDoc hr.units) (C8.pe_c c_after_all hr (by omega) rfl (pa_cons (pv 1) (pa_cons (pv 0) pa_nil))) (pv 1) (nomark _))))))
end
end Tp
end
section
set_option maxRecDepth 100000
set_option maxHeartbeats 4000000
namespace Tp
open PySem PySem.Spec PyProof.Rows L2
/-! ### ways as data -/
def pthD (q : List Ky) : PyData := .tuple (q.map fun k => .str (kS k))
theorem dp_pth {K : PySem.W.Frag} {H : Hp} {t : Addr} {q : List Ky} (h : SqT K H t (pth q)) : Dp K H (.ref t) (pthD q) := by
  refine .tup h ?_
  unfold pth
  clear h
  induction q with
  | nil => exact .nil
  | cons k r ih => exact .cons (.str _) ih
theorem canLay_pth (q : List Ky) : PyData.canLay0 (pthD q) = true ∧ (pthD q).depth ≤ 2 := by
  unfold pthD
  constructor
  · induction q with
    | nil => decide
    | cons k r ih =>
      have hk : PyData.strOk (kS k) = true := by cases k <;> decide +kernel
      simp_all [PyData.canLay0, PyData.canLayAll0]
  · induction q with
    | nil => decide
    | cons k r ih => simp_all [PyData.depth, PyData.depthAll]
theorem shaped_pth (q : List Ky) : SeqAt.shaped (pthD q) = true := by
  unfold SeqAt.shaped
  rw [(canLay_pth q).1, decide_eq_true (Nat.le_trans (canLay_pth q).2 (by decide))] <;> rfl
theorem eqv_pth : ∀ q r : List Ky, PyData.eqv (pthD q) (pthD r) = decide (q = r) := by
  intro q
  show ∀ r : List Ky, PyData.eqvAll (q.map fun k => PyData.str (kS k)) (r.map fun k => PyData.str (kS k)) = decide (q = r)
  induction q with
  | nil =>
    intro r
    cases r with
    | nil => simp [PyData.eqvAll]
    | cons k r => simp [PyData.eqvAll]
  | cons k q ih =>
    intro r
    cases r with
    | nil => simp [PyData.eqvAll]
    | cons j r =>
      rw [List.map_cons, List.map_cons]
      show (PyData.eqv (.str (kS k)) (.str (kS j)) && PyData.eqvAll _ _) = _
      rw [ih]
      by_cases e : k = j
      · subst e
        simp [PyData.eqv]
      · have : kS k ≠ kS j := fun z => e (kS_inj z)
        simp [PyData.eqv, e, this]
/-! ### the cases of ft -/
theorem ft_keep {e1 e2 : Tp.E} (h : (e1.isKeep || e2.isKeep) = true) : ft e1 e2 = .ok (act (if e1.isKeep = true then e2 else e1) .abs) := by
  cases e1 with
  | keep => cases e2 <;> rfl
  | drop => cases e2 <;> first | rfl | cases h
  | set x => cases e2 <;> first | rfl | cases h
  | mrg f => cases e2 <;> first | rfl | cases h
  | bld f => cases e2 <;> first | rfl | cases h
theorem ft_sd {e1 e2 : Tp.E} (hk : (e1.isKeep || e2.isKeep) = false) (h : ((e1.isSet || e1.isDrop) || (e2.isSet || e2.isDrop)) = true) : ft e1 e2 = if e1 = e2 then .ok (act e1 .abs) else .clash [] := by
  cases e1 with
  | keep => cases hk
  | set x =>
    cases e2 with
    | keep => cases hk
    | set y =>
      show (if Tp.E.set y = .set x then Ft.ok (.atom x) else .clash []) = _
      by_cases e : y = x
      · subst e; rw [if_pos rfl, if_pos rfl] <;> rfl
      · rw [if_neg (fun z => e (Tp.E.set.inj z)), if_neg (fun z => e (Tp.E.set.inj z).symm)]
    | drop => rw [if_neg (fun z => nomatch z)]; exact if_neg (fun z => nomatch z)
    | mrg f => rw [if_neg (fun z => nomatch z)]; exact if_neg (fun z => nomatch z)
    | bld f => rw [if_neg (fun z => nomatch z)]; exact if_neg (fun z => nomatch z)
  | drop =>
    cases e2 with
    | keep => cases hk
    | set y => rw [if_neg (fun z => nomatch z)]; exact if_neg (fun z => nomatch z)
    | drop => rfl
    | mrg f => rw [if_neg (fun z => nomatch z)]; exact if_neg (fun z => nomatch z)
    | bld f => rw [if_neg (fun z => nomatch z)]; exact if_neg (fun z => nomatch z)
  | mrg f =>
    cases e2 with
    | keep => cases hk
    | set y => rw [if_neg (fun z => nomatch z)] <;> rfl
    | drop => rw [if_neg (fun z => nomatch z)] <;> rfl
    | mrg g => cases h
    | bld g => cases h
  | bld f =>
    cases e2 with
    | keep => cases hk
    | set y => rw [if_neg (fun z => nomatch z)] <;> rfl
    | drop => rw [if_neg (fun z => nomatch z)] <;> rfl
    | mrg g => cases h
    | bld g => cases h
theorem ft_mb {e1 e2 : Tp.E} (hk : (e1.isKeep || e2.isKeep) = false) (h : ((e1.isSet || e1.isDrop) || (e2.isSet || e2.isDrop)) = false) : ft e1 e2 = fitO fun k => ft (e1.kid k) (e2.kid k) := by
  cases e1 with
  | keep => cases hk
  | set x => cases h
  | drop => cases h
  | mrg f =>
    cases e2 with
    | keep => cases hk
    | set y => cases h
    | drop => cases h
    | mrg g => rfl
    | bld g => rfl
  | bld f =>
    cases e2 with
    | keep => cases hk
    | set y => cases h
    | drop => cases h
    | mrg g => rfl
    | bld g => rfl
theorem ft_nil (e1 e2 : Tp.E) : ft e1.nil e2.nil = .ok .abs := by cases e1 <;> cases e2 <;> rfl
def lst1 (d : D) : List D := if d.isAbs = true then [] else [d]
theorem lst1_ne {d : D} (h : d ≠ .abs) : lst1 d = [d] := by
  unfold lst1
  rw [if_neg (fun z => h (D.isAbs_iff.mp z))]
section
variable {P : Program} {w : World} {K : PySem.W.Frag} {mg : Str → Option Value} {base : Heap} {vs : List V} {H : Hp} {Q : VK} {E : XK}
abbrev CC (K : PySem.W.Frag) : Addr := He.ga K "Clash"
def ClAt (K : PySem.W.Frag) (H : Hp) (q : List Ky) (v : V) : Prop := ∃ a dx t, v = .ref a ∧ H a = some (.ins (CC K) dx [("path", .ref t)]) ∧ H t = some (.tup (pth q))
theorem ClAt.same {H H' : Hp} {q : List Ky} {v : V} (h : ClAt K H q v) (s : Same H H') : ClAt K H' q v := let ⟨a, dx, t, e, h1, h2⟩ := h; ⟨a, dx, t, e, s _ _ h1, s _ _ h2⟩
/-! ### Clash(path) -/
def sp_Clash (K : PySem.W.Frag) : Sp := fun vs H Q _ => ∃ x dx t q, vs = [.ref x, .ref t] ∧ H x = some (.ins (CC K) dx []) ∧ H t = some (.tup (pth q)) ∧ Q .non (upd H x (.ins (CC K) dx [("path", .ref t)]))
def t_Clash (K : PySem.W.Frag) : TS :=
  (sFld K (tVar 0) (tCB (rTupleOf K) (tCons (tVar 1) tNil)) "path")
theorem pu_Clash (T : Tx K mg) (h : sp_Clash K vs H Q E) : t_Clash K { nx := fun _ H' => Q .non H', rt := Q } (L2.start ["self", "path"] vs) H := by
  obtain ⟨x, dx, t, q0, rfl, hx, ht, q⟩ := h
  exact sFldI (xCB ⟨_, rfl, t, _, rfl, .inr ⟨SqT.of ht, _, rfl, x, _, dx, [], rfl, hx, T.cClash, T.nClash_path, (show 0 < 1000 by decide), q⟩⟩)
theorem ok_Clash (T : Tx K mg) : C8.Mak P w K mg base 1 "Clash" (CC K) (sp_Clash K) [] := by
  have sc : FnScope ["self", "path"] ["self", "path"] (C8.fnScope s_Clash_init) := C8.fnScope_by (by decide +kernel)
  refine T.mak 53 (st := s_Clash_init) rfl (by decide +kernel) T.kClash sc (fun _ _ _ _ _ _ us hl => match us, hl with | [_, _], _ => rfl) (fun vs H Q E ⟨_, _, _, _, h, _⟩ => by rw [h]; rfl) (fun cdv A outer s H vs Q E f hr h => ⟨t_Clash K, ?_, pu_Clash T h⟩)
  exact (pss_one (ps_fld (pv 0) (pe_callTy call_tuple_of rfl T.f_tuple bt_tuple (pa_cons (pv 1) pa_nil)) rfl))
theorem mkC {H1 : Hp} {Q : VK} {t : Addr} {q0 : List Ky} (ht : H1 t = some (.tup (pth q0))) (q : ∀ v H', Same H1 H' → ClAt K H' q0 v → Q v H') :
    ∀ x dx, H1 x = none → H1 dx = none → dx ≠ x → sp_Clash K (.ref x :: ([.ref t] ++ [])) (upd (upd H1 dx (.own x)) x (.ins (CC K) dx [])) (fun v H2 => v = .non ∧ Q (.ref x) H2) C8.E0 := by
  intro x dx hx hdx ne
  have n1 : t ≠ x := fun e => by rw [e, hx] at ht; cases ht
  have n2 : t ≠ dx := fun e => by rw [e, hdx] at ht; cases ht
  refine ⟨x, dx, t, q0, rfl, upd_same, by rw [upd_ne n1, upd_ne n2]; exact ht, rfl, q _ _ ?_ ⟨x, dx, t, rfl, upd_same, by rw [upd_ne n1, upd_ne n1, upd_ne n2]; exact ht⟩⟩
  intro b o e
  have b1 : b ≠ x := ne_of_none e hx
  have b2 : b ≠ dx := ne_of_none e hdx
  rw [upd_ne b1, upd_ne b1, upd_ne b2]
  exact e
theorem ClAt.tyX (T : Tx K mg) {q : List Ky} {v : V} (h : ClAt K H q v) : TyX K H v (.ref (CC K)) := by
  obtain ⟨a, dx, t, rfl, hi, _⟩ := h
  exact .base (.ins hi T.cClash T.xClash.ha T.xClash.hn T.xClash.htk T.xClash.hm)
theorem isiC_yes (T : Tx K mg) {q : List Ky} {v : V} {Q : VK} (h : ClAt K H q v) (k : Q (.bl true) H) : rIsi K [v, .ref (CC K)] H Q := ⟨v, .ref (CC K), _, _, true, rfl, .own _, h.tyX T, T.xClash.me, k⟩
theorem kitC (T : Tx K mg) {t : String} (h : (["NoneType", "int", "str", "list", "dict"] : List String).contains t = true) : PySem.W.kitOne K (.type t) (.ref (CC K)) = some false := by
  have := List.all_eq_true.mp T.yClash t (by simpa using h)
  simpa using this
theorem isiC_lst (T : Tx K mg) {a : Addr} {xs : List V} {Q : VK} (h : H a = some (.lst xs)) (k : Q (.bl false) H) : rIsi K [.ref a, .ref (CC K)] H Q := by
  exact ⟨.ref a, .ref (CC K), .type "list", _, false, rfl, .own _, .base (.lst h), kitC T (by decide), k⟩
theorem isiC_doc (T : Tx K mg) {d : D} {v : V} {Q : VK} (h : DocAt H d v) (k : Q (.bl false) H) : rIsi K [v, .ref (CC K)] H Q := by
  refine ⟨v, .ref (CC K), .type d.ty, _, false, rfl, .own _, h.tyX, kitC T ?_, k⟩
  have key : ∀ t : String, t = "NoneType" ∨ t = "int" ∨ t = "str" ∨ t = "list" ∨ t = "dict" → (["NoneType", "int", "str", "list", "dict"] : List String).contains t = true := by
    rintro t (rfl | rfl | rfl | rfl | rfl) <;> decide
  refine key _ ?_
  cases d with
  | abs => exact (show False from h).elim
  | atom x =>
    cases x with
    | pl y =>
      cases y with
      | non => exact .inl rfl
      | int i => exact .inr (.inl rfl)
      | str x => exact .inr (.inr (.inl rfl))
    | lst ys => exact .inr (.inr (.inr (.inl rfl)))
  | obj f => exact .inr (.inr (.inr (.inr rfl)))
/-! ### clash == clash, where it is so -/
def RCl (K : PySem.W.Frag) (a b : Addr) (H : Hp) : Prop := ∃ q, ClAt K H q (.ref a) ∧ ClAt K H q (.ref b)
def t_ceq (K : PySem.W.Frag) : TS :=
  (tRet (tAndV (tCB (rIsi K) (tCons (tVar 1) (tCons (tC (.ref (He.ga K "Clash"))) tNil))) (tOp (rEqD K) (tFld K (tVar 0) "path") (tFld K (tVar 1) "path"))))
theorem pu_ceq (T : Tx K mg) (h : spEq (RCl K) vs H Q E) : t_ceq K { nx := fun _ H' => Q .non H', rt := Q } (L2.start ["self", "other"] vs) H := by
  obtain ⟨a, b, rfl, ⟨q0, ha, hb⟩, q⟩ := h
  obtain ⟨a1, dx, t, e1, hi, ht⟩ := id ha
  obtain ⟨b1, dx2, t2, e2, hi2, ht2⟩ := id hb
  cases e1
  cases e2
  refine sRet (xAndV (xCB (aCons (xVar rfl (aCons (xC (aNil (isiC_yes T hb ⟨true, rfl, ifT rfl ?_⟩))))))))
  refine xOp ⟨_, rfl, a, _, dx, _, _, rfl, hi, T.cClash, T.nClash_path, rfl, _, rfl, b, _, dx2, _, _, rfl, hi2, T.cClash, T.nClash_path, rfl, pthD q0, pthD q0, dp_pth (SqT.of ht), dp_pth (SqT.of ht2), shaped_pth q0, shaped_pth q0, ?_⟩
  rw [eqv_pth, decide_eq_true rfl]
  exact q _ (Same.refl H)
theorem ok_ceq (T : Tx K mg) : C8.Met P w K mg base 1 (CC K) "__eq__" (spEq (RCl K)) [] := by
  have sc : FnScope ["self", "other"] ["self", "other"] (C8.fnScope s_Clash_eq) := C8.fnScope_by (by decide +kernel)
  refine T.met 54 (st := s_Clash_eq) rfl T.cClash T.mClash_eq sc (fun _ _ _ _ _ _ us hl => match us, hl with | [_, _], _ => rfl) (fun vs H Q E ⟨_, _, h, _⟩ => by rw [h]; rfl) (fun cdv A outer s H vs Q E f hr h => ⟨t_ceq K, ?_, pu_ceq T h⟩)
  exact (pss_one (ps_ret (pe_and (pe_callB call_isi rfl T.f_isinstance bt_isinstance (pa_cons (pv 1) (pa_cons (pe_glob (v := .ref (He.ga K "Clash")) rfl T.g_Clash rfl) pa_nil))) (pe_one (pe_cmpR (op_eqD hr.units) (pe_fld (pv 0) rfl) (pe_fld (pv 1) rfl) (nomark _))))))
/-! ### least(one) -/
def sp_least (K : PySem.W.Frag) : Sp := fun vs H Q _ => ∃ v e, vs = [v] ∧ EffAt (CE K) H e v ∧ wk e = true ∧ e.dep ≤ 3 ∧ ∀ v' H', RowNew H H' (lst1 (act e .abs)) v' → Q v' H'
def t_least (K : PySem.W.Frag) : TS :=
  (tSeq (tIfS (tTest (tOp (rIn K false) (tFld K (tVar 0) "kind") (tTup (tCons (tC (.str "keep")) (tCons (tC (.str "drop")) tNil))))) (tRet (tLst tNil)) tNext)
    (tRet (tLst (tCons (tCall (sp_acted K 4) [] C8.E0 (tCons (tVar 0) (tCons (tC .non) tNil))) tNil))))
theorem pu_least (T : Tx K mg) (h : sp_least K vs H Q E) : t_least K { nx := fun _ H' => Q .non H', rt := Q } (L2.start ["one"] vs) H := by
  obtain ⟨v, e, rfl, he, hw, h3, q⟩ := h
  obtain ⟨a, dx, w, tp, ps, g, rfl, hi, _⟩ := he.dec
  refine sSeq (sIf (qIn T rfl hi (k_in_kd e) fun H1 s1 => ?_))
  cases hkd : (e.isKeep || e.isDrop) with
  | true =>
    have ea : act e .abs = .abs := by
      cases e with
      | keep => rfl
      | drop => rfl
      | set x => cases hkd
      | mrg f => cases hkd
      | bld f => cases hkd
    rw [ea] at q
    exact ifT rfl (sRet (xLst ⟨Nat.zero_le _, fun p hp => q _ _ ⟨s1.trans (same_new hp _), p, [], rfl, s1.free hp, upd_same, .nil⟩⟩))
  | false =>
    have hk : e ≠ .keep := fun z => by rw [z] at hkd; cases hkd
    have hd : e ≠ .drop := fun z => by rw [z] at hkd; cases hkd
    have ea : act e .abs ≠ .abs := by
      cases e with
      | keep => exact absurd rfl hk
      | drop => exact absurd rfl hd
      | set x => exact fun z => nomatch z
      | mrg f => exact fun z => nomatch z
      | bld f => exact fun z => nomatch z
    rw [lst1_ne ea] at q
    refine ifF rfl (sNext (sRet (xLst (aCons ⟨_, rfl, _, _, e, .abs, rfl, he.same s1, doc_non, fun z => absurd z hk, hd, hw, by omega, by decide, fun v' H' F => aNil ⟨szO (show 1 ≤ 100000 by decide), fun p hp => ?_⟩⟩))))
    exact q _ _ ⟨(s1.trans F.same).trans (same_new hp _), p, [v'], rfl, (s1.trans F.same).free hp, upd_same, .cons (F.keep s1 (same_new hp _)) .nil⟩
theorem ok_least (T : Tx K mg) : C8.Cal P w K mg base 9 "least" (sp_least K) [] := by
  have c_acted := ok_acted (P := P) (w := w) (base := base) T 4
  have sc : FnScope ["one"] ["one"] (C8.fnScope s_least) := C8.fnScope_by (by decide +kernel)
  refine T.cal 55 (st := s_least) rfl (by decide +kernel) sc (fun _ _ _ _ _ _ us hl => match us, hl with | [_], _ => rfl) (fun vs H Q E ⟨_, _, h, _⟩ => by rw [h]; rfl) (fun cdv A outer s H vs Q E f hr h => ⟨t_least K, ?_, pu_least T h⟩)
  exact (pss_cons (ps_if (pt_cmpR op_in_seq (pe_fld (pv 0) rfl) (pe_tup (pa_cons pe_str (pa_cons pe_str pa_nil))) rfl) (pss_one (ps_ret (pe_lst pa_nil))) pss_nil)
    (pss_one (ps_ret (pe_lst (pa_cons (C8.pe_c c_acted hr (by omega) rfl (pa_cons (pv 0) (pa_cons pe_non pa_nil))) pa_nil)))))
end
end Tp
end
section
set_option maxRecDepth 100000
set_option maxHeartbeats 4000000
namespace Tp
open PySem PySem.Spec PyProof.Rows L2
theorem wk_kidE {e : Tp.E} (h : wk e = true) (k : Ky) : wk (e.kid k) = true := by
  have := wk_kid h k
  cases e <;> exact this
theorem kidE_dep {e : Tp.E} {n : Nat} (h : e.dep ≤ n) (k : Ky) : (e.kid k).dep ≤ n := by
  cases e with
  | mrg f =>
    have h1 : 1 + mx4 (fun k => (f k).dep) ≤ n := h
    have := mx4_le.mp (Nat.le_refl (mx4 fun k => (f k).dep)) k
    show (f k).dep ≤ n
    omega
  | bld f =>
    have h1 : 1 + mx4 (fun k => (f k).dep) ≤ n := h
    have := mx4_le.mp (Nat.le_refl (mx4 fun k => (f k).dep)) k
    show (f k).dep ≤ n
    omega
  | keep => exact Nat.zero_le _
  | drop => exact Nat.zero_le _
  | set x => exact Nat.zero_le _
theorem kidE_lt {e : Tp.E} {n : Nat} (h : e.dep < n + 1) (he : e.isMrg = true ∨ e.isBld = true) (k : Ky) : (e.kid k).dep < n := by
  cases e with
  | mrg f =>
    have h1 : 1 + mx4 (fun k => (f k).dep) < n + 1 := h
    have := mx4_le.mp (Nat.le_refl (mx4 fun k => (f k).dep)) k
    show (f k).dep < n
    omega
  | bld f =>
    have h1 : 1 + mx4 (fun k => (f k).dep) < n + 1 := h
    have := mx4_le.mp (Nat.le_refl (mx4 fun k => (f k).dep)) k
    show (f k).dep < n
    omega
  | keep => rcases he with h | h <;> cases h
  | drop => rcases he with h | h <;> cases h
  | set x => rcases he with h | h <;> cases h
theorem mb_of {e : Tp.E} (h1 : e.isKeep = false) (h2 : (e.isSet || e.isDrop) = false) : e.isMrg = true ∨ e.isBld = true := by
  cases e with
  | mrg f => exact .inl rfl
  | bld f => exact .inr rfl
  | keep => cases h1
  | set x => cases h2
  | drop => cases h2
section
variable {P : Program} {w : World} {K : PySem.W.Frag} {mg : Str → Option Value} {base : Heap} {vs : List V} {H : Hp} {Q : VK} {E : XK}
def sp_fitted (K : PySem.W.Frag) (n : Nat) : Sp := fun vs H Q _ => ∃ v u p e1 e2 pre, vs = [v, u, .ref p] ∧ EffAt (CE K) H e1 v ∧ EffAt (CE K) H e2 u ∧ wk e1 = true ∧ wk e2 = true ∧ e1.dep < n ∧ e2.dep < n ∧ e1.dep ≤ 3 ∧ e2.dep ≤ 3 ∧ H p = some (.tup (pth pre)) ∧ pre.length + n ≤ 50 ∧
  (∀ d v' H', ft e1 e2 = .ok d → RowNew H H' (lst1 d) v' → Q v' H') ∧ ∀ q v' H', ft e1 e2 = .clash q → Same H H' → ClAt K H' (pre ++ q) v' → Q v' H'
def t_fitted (P : Program) (w : World) (K : PySem.W.Frag) (n : Nat) : TS :=
  (tSeq (tIfS (tOr (tTest (tOp rEq (tFld K (tVar 0) "kind") (tC (.str "keep")))) (tTest (tOp rEq (tFld K (tVar 1) "kind") (tC (.str "keep"))))) (tRet (tCall (sp_least K) [] C8.E0 (tCons (tIf (tTest (tOp rEq (tFld K (tVar 0) "kind") (tC (.str "keep")))) (tVar 1) (tVar 0)) tNil))) tNext)
    (tSeq (tIfS (tOr (tTest (tOp (rIn K false) (tFld K (tVar 0) "kind") (tTup (tCons (tC (.str "set")) (tCons (tC (.str "drop")) tNil))))) (tTest (tOp (rIn K false) (tFld K (tVar 1) "kind") (tTup (tCons (tC (.str "set")) (tCons (tC (.str "drop")) tNil)))))) (tRet (tIf (tTest (tOp (rEqD K) (tMeth (He.ga K "Effect") "facts" (sp_facts K 20) [] C8.E0 (tVar 0) tNil) (tMeth (He.ga K "Effect") "facts" (sp_facts K 20) [] C8.E0 (tVar 1) tNil))) (tCall (sp_least K) [] C8.E0 (tCons (tVar 0) tNil)) (tMake (He.ga K "Clash") (sp_Clash K) [] C8.E0 (tCons (tVar 2) tNil)))) tNext)
    (tSeq (tPar 3 4 (tCons (tMeth (He.ga K "Effect") "by_key" (sp_by_key K) [] C8.E0 (tVar 0) tNil) (tCons (tMeth (He.ga K "Effect") "by_key" (sp_by_key K) [] C8.E0 (tVar 1) tNil) tNil)))
    (tSeq (tAsg tDNewK (gName 5))
    (tSeq (tFor (iList K (tCB (rSortedL P w) (tCons (tCB (rSetL K P w) (tCons (tOp rCat (tCB rListR (tCons (tVar 3) tNil)) (tCB rListR (tCons (tVar 4) tNil))) tNil)) tNil))) (gName 6)
      (tSeq (tAsg (tDGet2 (tVar 3) (tVar 6) (tIf (tTest (tOp rEq (tFld K (tVar 0) "kind") (tC (.str "merge")))) (tCall (sp_keep K) [] C8.E0 tNil) (tCall (sp_drop K) [] C8.E0 tNil))) (gName 7))
    (tSeq (tAsg (tDGet2 (tVar 4) (tVar 6) (tIf (tTest (tOp rEq (tFld K (tVar 1) "kind") (tC (.str "merge")))) (tCall (sp_keep K) [] C8.E0 tNil) (tCall (sp_drop K) [] C8.E0 tNil))) (gName 8))
    (tSeq (tAsg (tCall (sp_fitted K n) [] C8.E0 (tCons (tVar 7) (tCons (tVar 8) (tCons (tOp (rCatA K) (tVar 2) (tTup (tCons (tVar 6) tNil))) tNil)))) (gName 9))
    (tSeq (tIfS (tB (tCB (rIsi K) (tCons (tVar 9) (tCons (tC (.ref (He.ga K "Clash"))) tNil)))) (tRet (tVar 9)) tNext)
    (tIfS (tTest (tOp (rNeNil K) (tVar 9) (tLst tNil))) (sDPut (tVar 5) (tVar 6) (tOp (rIxL K) (tVar 9) (tC (.int 0)))) tNext))))))
    (tRet (tLst (tCons (tVar 5) tNil))))))))
theorem sPar {i j : Nat} {ta : TA} {en eb ec : L2.St → Hp → Prop} {er : VK} {σ : L2.St} {H : Hp} (h : ta σ H fun vs H1 => ∃ v w, vs = [v, w] ∧ en ((σ.set i (some v)).set j (some w)) H1) : tPar i j ta ⟨en, er, eb, ec⟩ σ H := h
/-- the first of the member's effects, or the effect of nothing there -/
theorem getE (T : Tx K mg) {σ : L2.St} {i j l a p : Nat} {dx : Addr} {w : V} {tp : Addr} {e : Tp.E} {g : Ky → Option V} {k : Ky} {Q : VK} (hs : σ[i]? = some (some (.ref p))) (hj : σ[j]? = some (some (.str (kS k)))) (hl : σ[l]? = some (some (.ref a))) (hp : H p = some (.dK (prs g kys))) (hi : H a = some (.ins (CE K) dx (flds e.kind w tp)))
    (hmb : e.isMrg = true ∨ e.isBld = true) (m : MoE (CE K) H e.nil (e.kid k) (g k)) (q : ∀ v H', Same H H' → EffAt (CE K) H' (e.kid k) v → Q v H') :
    (tDGet2 (tVar i) (tVar j) (tIf (tTest (tOp rEq (tFld K (tVar l) "kind") (tC (.str "merge")))) (tCall (sp_keep K) [] C8.E0 tNil) (tCall (sp_drop K) [] C8.E0 tNil))) σ H Q := by
  refine ⟨_, hs, p, rfl, .inl ⟨_, .inl hp⟩, _, hj, xIf (qEq T hl hi (k_mrg e) ?_)⟩
  have fin : ∀ (z : V) (H1 : Hp), Same H H1 → EffAt (CE K) H1 e.nil z → ∃ o, DGet H1 p (.str (kS k)) o ∧ Q (o.getD z) H1 := fun z H1 s hz => by
    refine ⟨_, dgetK (.inl (s _ _ hp)) k, ?_⟩
    rw [prs_at]
    refine q _ _ s ?_
    cases e1 : g k with
    | none =>
      rw [e1] at m
      rw [show e.kid k = e.nil from m]
      exact hz
    | some u =>
      rw [e1] at m
      exact m.2.same s
  cases hm : e.isMrg with
  | true =>
    refine ifT rfl ⟨rfl, fun z H1 s hz => fin z H1 s ?_⟩
    cases e with
    | mrg f => exact hz
    | _ => cases hm
  | false =>
    refine ifF rfl ⟨rfl, fun z H1 s hz => fin z H1 s ?_⟩
    cases e with
    | bld f => exact hz
    | mrg f => cases hm
    | _ => rcases hmb with h | h <;> cases h
theorem pu_fitted (T : Tx K mg) {n : Nat} (h : sp_fitted K (n + 1) vs H Q E) : t_fitted P w K n { nx := fun _ H' => Q .non H', rt := Q } (L2.start ["one", "other", "path", "ours", "theirs", "found", "key", "first", "second", "member"] vs) H := by
  obtain ⟨v, u, p, e1, e2, pre, rfl, h1, h2, w1, w2, n1, n2, d1, d2, hp, hx, q0, q1⟩ := h
  obtain ⟨a1, dx1, x1, tp1, ps1, g1, rfl, hi1, _⟩ := h1.dec
  obtain ⟨a2, dx2, x2, tp2, ps2, g2, rfl, hi2, _⟩ := h2.dec
  refine sSeq (sIf (xOr (qEq T rfl hi1 (k_keep e1) ?_)))
  have kk : (e1.isKeep || e2.isKeep) = true → (tRet (tCall (sp_least K) [] C8.E0 (tCons (tIf (tTest (tOp rEq (tFld K (tVar 0) "kind") (tC (.str "keep")))) (tVar 1) (tVar 0)) tNil))) ⟨fun _ H' => Q .non H', Q, fun _ _ => False, fun _ _ => False⟩ [some (.ref a1), some (.ref a2), some (.ref p), none, none, none, none, none, none, none] H := fun hk => by
    refine sRet (aCons (xIf (qEq T rfl hi1 (k_keep e1) ?_)))
    have ek := ft_keep hk
    cases e1k : e1.isKeep with
    | true =>
      rw [e1k, if_pos rfl] at ek
      exact ifT rfl ⟨_, rfl, _, e2, rfl, h2, w2, d2, fun v' H' R => q0 _ v' H' ek R⟩
    | false =>
      rw [e1k, if_neg Bool.false_ne_true] at ek
      exact ifF rfl ⟨_, rfl, _, e1, rfl, h1, w1, d1, fun v' H' R => q0 _ v' H' ek R⟩
  cases e1k : e1.isKeep with
  | true => exact ifT rfl (ifT rfl (kk (by rw [e1k] <;> rfl)))
  | false =>
  refine ifF rfl (qEq T rfl hi2 (k_keep e2) ?_)
  cases e2k : e2.isKeep with
  | true => exact ifT rfl (kk (by rw [e1k, e2k] <;> rfl))
  | false =>
  have ek : (e1.isKeep || e2.isKeep) = false := by rw [e1k, e2k] <;> rfl
  refine ifF rfl (sNext (sSeq (sIf (xOr (qIn T rfl hi1 (k_in_sd e1) fun H1 s1 => ?_)))))
  -- one of them a set or a drop
  have sd : ((e1.isSet || e1.isDrop) || (e2.isSet || e2.isDrop)) = true → ∀ H1, Same H H1 → (tRet (tIf (tTest (tOp (rEqD K) (tMeth (He.ga K "Effect") "facts" (sp_facts K 20) [] C8.E0 (tVar 0) tNil) (tMeth (He.ga K "Effect") "facts" (sp_facts K 20) [] C8.E0 (tVar 1) tNil))) (tCall (sp_least K) [] C8.E0 (tCons (tVar 0) tNil)) (tMake (He.ga K "Clash") (sp_Clash K) [] C8.E0 (tCons (tVar 2) tNil))))
      ⟨fun _ H' => Q .non H', Q, fun _ _ => False, fun _ _ => False⟩ [some (.ref a1), some (.ref a2), some (.ref p), none, none, none, none, none, none, none] H1 := fun hsd H1 s1 => by
    refine sRet (xIf (xTest (xOp ⟨_, rfl, a1, dx1, _, rfl, s1 _ _ hi1, rfl, _, e1, rfl, h1.same s1, by omega, fun v1 H2 s2 f1 => ?_⟩)))
    refine ⟨_, rfl, a2, dx2, _, rfl, s2 _ _ (s1 _ _ hi2), rfl, _, e2, rfl, h2.same (s1.trans s2), by omega, fun v2 H3 s3 f2 => ?_⟩
    have s13 := (s1.trans s2).trans s3
    refine ⟨fct e1, fct e2, Dp.im (Im.of (C := CE K) s3) _ _ (shp_fct e1 _ (Nat.le_refl _)).l f1, f2, shaped_fct (by omega), shaped_fct (by omega), _, rfl, ?_⟩
    rw [fct_dec]
    have eft := ft_sd ek hsd
    by_cases e : e1 = e2
    · rw [if_pos e] at eft
      exact ifT (decide_eq_true e) ⟨_, rfl, _, e1, rfl, h1.same s13, w1, d1, fun v' H' R => q0 _ v' H' eft (R.wk s13)⟩
    · rw [if_neg e] at eft
      refine ifF (decide_eq_false e) (aCons (xVar rfl (aNil (mkC (s13 _ _ hp) fun v' H' s c => q1 [] v' H' eft (s13.trans s) ?_))))
      rw [List.append_nil]
      exact c
  cases e1s : (e1.isSet || e1.isDrop) with
  | true => exact ifT rfl (ifT rfl (sd (by rw [e1s] <;> rfl) H1 s1))
  | false =>
  refine ifF rfl (qIn T rfl (s1 _ _ hi2) (k_in_sd e2) fun H2 s2 => ?_)
  have s2 := s1.trans s2
  cases e2s : (e2.isSet || e2.isDrop) with
  | true => exact ifT rfl (sd (by rw [e1s, e2s] <;> rfl) H2 s2)
  | false =>
  have eft := ft_mb ek (by rw [e1s, e2s] <;> rfl)
  have mb1 := mb_of e1k e1s
  have mb2 := mb_of e2k e2s
  clear sd kk
  refine ifF rfl (sNext (sSeq (sPar (aCons ⟨_, rfl, a1, dx1, _, rfl, s2 _ _ hi1, rfl, _, e1, rfl, h1.same s2, fun g1 p1 hp1 m1 => ?_⟩))))
  have s3 := same_new hp1 (.dK (prs g1 kys))
  have s23 := s2.trans s3
  refine aCons ⟨_, rfl, a2, dx2, _, rfl, s23 _ _ hi2, rfl, _, e2, rfl, h2.same s23, fun g2 p2 hp2 m2 => aNil ⟨_, _, rfl, ?_⟩⟩
  have s4 := same_new hp2 (.dK (prs g2 kys))
  have hd1 := s4 _ _ (upd_same (H := H2) (a := p1) (o := .dK (prs g1 kys)))
  have hd2 := upd_same (H := upd H2 p1 (.dK (prs g1 kys))) (a := p2) (o := .dK (prs g2 kys))
  have sb : Same H2 _ := s3.trans s4
  have m1' := fun k => (m1 k).mono (Im.of (C := CE K) sb)
  have m2' := fun k => (m2 k).mono (Im.of (C := CE K) s4)
  have sH : Same H _ := s2.trans sb
  clear m1 m2 hp1 hp2 s23 s3 s4
  generalize upd (upd H2 p1 (.dK (prs g1 kys))) p2 (.dK (prs g2 kys)) = H5 at *
  refine sSeq (sAsg fun pf hpf => ?_)
  have B0 := Bld.start hpf
  have s0 := B0.same
  refine sSeq (sFor (iL (union_keys rfl rfl (.inl (s0 _ _ hd1)) (.inl (s0 _ _ hd2)) (prs_ok g1) (prs_ok g2) fun l H6 s6 hl0 hl => ⟨l, rfl, ⟨_, SqL.of hl⟩, ?_⟩)))
  have B1 := B0.call s6
  have nl : l ≠ pf := fun e => by rw [e, upd_same] at hl0; cases hl0
  have ep : (fun k => (valV (prs g1 kys) (kK k)).isSome || (valV (prs g2 kys) (kK k)).isSome) = fun k => (g1 k).isSome || (g2 k).isSome := by
    funext k
    rw [prs_at, prs_at]
  rw [ep] at hl
  generalize hks : (kys.filter fun k => (g1 k).isSome || (g2 k).isSome) = ks at *
  have pk : ∀ k, ((g1 k).isSome || (g2 k).isSome) = false → ft (e1.kid k) (e2.kid k) = .ok .abs := fun k hk => by
    rw [Bool.or_eq_false_iff] at hk
    have mk1 := m1' k
    have mk2 := m2' k
    cases c1 : g1 k with
    | some x => rw [c1] at hk; cases hk.1
    | none =>
      cases c2 : g2 k with
      | some x => rw [c2] at hk; cases hk.2
      | none =>
        rw [c1] at mk1
        rw [c2] at mk2
        rw [show e1.kid k = e1.nil from mk1, show e2.kid k = e2.nil from mk2]
        exact ft_nil e1 e2
  have ndl : ks.Nodup := by rw [← hks]; exact filter_nd _
  have ndk : (ks.map kK).Nodup := List.Pairwise.map kK (fun a b ne q => ne (kK_inj q)) ndl
  refine for_it (D := ⟨_, _, fun _ _ => False, fun _ _ => False⟩) (walk_list (xs := ks.map fun k => V.str (kS k)))
    (fun i σ H2 => (∃ c1 c2 c3 c4, σ = [some (.ref a1), some (.ref a2), some (.ref p), some (.ref p1), some (.ref p2), some (.ref pf), c1, c2, c3, c4]) ∧ H2 l = some (.lst (ks.map fun k => V.str (kS k))) ∧ (∀ x ∈ ks.take i, ∃ d, ft (e1.kid x) (e2.kid x) = .ok d) ∧ ∃ kvs2, Bld H5 pf H2 kvs2 fun k => if upto (ks.map kK) i (kK k) = true then (ft (e1.kid k) (e2.kid k)).doc else .abs)
    ⟨⟨_, _, _, _, rfl⟩, hl, (fun x hx => by simp at hx), _, B1.congr fun k => by rw [upto_zero] <;> rfl⟩ (fun i σ H2 _ ⟨_, h, _⟩ => SqL.of h) (fun i x σ H7 H8 hi ⟨⟨c1, c2, c3, c4, hσ⟩, hl2, hpre, kvs2, B⟩ y => ?_) (fun σ H7 ⟨⟨c1, c2, c3, c4, hσ⟩, hl2, hpre, kvs2, B⟩ => ?_)
  · subst hσ
    obtain ⟨rfl, hx⟩ := y
    obtain ⟨k, hk, rfl⟩ := map_nth hx
    have hki : (ks.map kK)[i]? = some (kK k) := by rw [List.getElem?_map, hk] <;> rfl
    have nu := upto_not ndk hki
    have sB := B.same
    refine sSeq (sAsg (getE T rfl rfl rfl (sB _ _ hd1) (sB _ _ (sH _ _ hi1)) mb1 ((m1' k).mono (Im.of sB)) fun v1 H9 s9 hv1 => ?_))
    have sB9 := sB.trans s9
    refine sSeq (sAsg (getE T rfl rfl rfl (sB9 _ _ hd2) (sB9 _ _ (sH _ _ hi2)) mb2 ((m2' k).mono (Im.of sB9)) fun v2 H10 s10 hv2 => ?_))
    have sB10 := sB9.trans s10
    refine sSeq (sAsg ⟨_, rfl, _, rfl, xPath rfl (sB10 _ _ (sH _ _ hp)) rfl (by rw [pth_len]; omega) fun t H11 s11 ht => ?_⟩)
    rw [pth_snoc] at ht
    have sB11 := sB10.trans s11
    have s711 := (s9.trans s10).trans s11
    refine ⟨v1, v2, t, e1.kid k, e2.kid k, _, rfl, hv1.same (s10.trans s11), hv2.same s11, wk_kidE w1 k, wk_kidE w2 k, kidE_lt n1 mb1 k, kidE_lt n2 mb2 k, kidE_dep d1 k, kidE_dep d2 k, ht, by rw [List.length_append]; show pre.length + 1 + n ≤ _; omega, fun d v' H12 hd R => ?_, fun q v' H12 hq s12 c => ?_⟩
    · have snoc : ∀ x ∈ ks.take (i + 1), ∃ d, ft (e1.kid x) (e2.kid x) = .ok d := fun x hx => by
        rw [take_more hk] at hx
        rcases List.mem_append.mp hx with h | h
        · exact hpre x h
        · rw [List.mem_singleton.mp h]
          exact ⟨_, hd⟩
      obtain ⟨s12, lm, us, rfl, hlm, hat, hdn⟩ := R
      have s712 := s711.trans s12
      have B12 := B.call s712
      refine sSeq (sIf (xB (xCB (aCons (xVar rfl (aCons (xC (aNil (isiC_lst T hat ⟨false, rfl, ifF rfl (sNext ?_)⟩)))))))))
      refine sIf (xTest (xOp ⟨_, rfl, xLst (aNil ⟨Nat.zero_le _, fun z hz => ?_⟩)⟩))
      have s13 := same_new hz (.lst [])
      have B13 := B12.call s13
      refine ⟨lm, z, us, rfl, rfl, SqL.of (s13 _ _ hat), SqL.of upd_same, _, rfl, ?_⟩
      have ed : (ft (e1.kid k) (e2.kid k)).doc = d := by rw [hd] <;> rfl
      by_cases hab : d = .abs
      · subst hab
        cases us with
        | cons x r => cases hdn
        | nil =>
          refine ifF (by simp) (sNext ⟨⟨_, _, _, _, rfl⟩, (s712.trans s13) _ _ hl2, snoc, kvs2, B13.congr fun j => ?_⟩)
          rw [← upto_step hki (g := fun k => (ft (e1.kid k) (e2.kid k)).doc) (h := fun _ => D.abs) rfl j]
          by_cases q : j = k
          · subst q
            rw [if_pos rfl, if_neg (by rw [nu]; exact Bool.false_ne_true), ed]
          · rw [if_neg q]
      · rw [lst1_ne hab] at hdn
        cases hdn with
        | cons hx ht2 =>
          cases ht2 with
          | nil =>
            rename_i x
            refine ifT (by simp) ⟨_, rfl, lm, [x], 0, x, rfl, rfl, SqL.of (s13 _ _ hat), rfl, _, rfl, _, rfl, pf, _, rfl, dputK B13.at_ B13.ok k _, ⟨_, _, _, _, rfl⟩, ?_, snoc, _, (B13.put (k := k) (d := d) ?_).congr fun j => upto_step hki (g := fun k => (ft (e1.kid k) (e2.kid k)).doc) (h := fun _ => .abs) ed j⟩
            · rw [upd_ne nl]
              exact (s712.trans s13) _ _ hl2
            · exact ((B.call s711).into s12 hx).mono (Le.of (nw_mono (fun _ h => h) s13))
    · have := q1 (k :: q) v' H12 (by rw [eft]; exact fitO_at (r := fun k => ft (e1.kid k) (e2.kid k)) (fun k hk => ⟨_, pk k hk⟩) (by rw [hks]; exact hpre) (by rw [hks]; exact hk) hq) (sH.trans (sB11.trans s12)) (by rw [List.append_assoc] at c; exact c)
      exact sSeq (sIf (xB (xCB (aCons (xVar rfl (aCons (xC (aNil (isiC_yes T c ⟨true, rfl, ifT rfl (sRet ⟨_, rfl, this⟩)⟩)))))))))
  · subst hσ
    rw [List.length_map, List.take_length] at hpre
    have all : ∀ k, ∃ d, ft (e1.kid k) (e2.kid k) = .ok d := fun k => by
      cases e : ((g1 k).isSome || (g2 k).isSome) with
      | true => exact hpre k (by rw [← hks]; exact mem_filter_kys.mpr e)
      | false => exact ⟨_, pk k e⟩
    have B2 : Bld H5 pf H7 kvs2 fun k => (ft (e1.kid k) (e2.kid k)).doc := B.congr fun k => by
      rw [upto_all (by rw [List.length_map, List.length_map]; exact Nat.le_refl _)]
      cases e : ((g1 k).isSome || (g2 k).isSome) with
      | true =>
        have hm : kK k ∈ ks.map kK := List.mem_map_of_mem (by rw [← hks]; exact mem_filter_kys.mpr e)
        rw [if_pos (by simpa using hm)]
      | false =>
        rw [pk k e]
        split <;> rfl
    have F := Fresh.obj B2
    refine xLst (aCons (xVar rfl (aNil ⟨szO (show 1 ≤ 100000 by decide), fun z hz => ?_⟩)))
    refine q0 _ _ _ (by rw [eft]; exact fitO_all (r := fun k => ft (e1.kid k) (e2.kid k)) all) ?_
    have s8 := same_new hz (.lst [.ref pf])
    exact ⟨sH.trans (B2.same.trans s8), z, [.ref pf], rfl, (sH.trans B2.same).free hz, upd_same, .cons (F.keep sH s8) .nil⟩
theorem ok_fitted (T : Tx K mg) : ∀ n, C8.Cal P w K mg base (n + 21) "fitted" (sp_fitted K n) []
  | 0 => T.calF 56 (st := s_fitted) (ps := ["one", "other", "path"]) rfl (by decide +kernel) (fun _ _ _ _ _ _ us hl => match us, hl with | [_, _, _], _ => rfl) fun vs H Q E ⟨_, _, _, _, _, _, _, _, _, _, _, h, _⟩ => absurd h (Nat.not_lt_zero _)
  | n + 1 => by
    have c_fitted := ok_fitted T n
    have c_least := ok_least (P := P) (w := w) (base := base) T
    have c_facts := ok_facts (P := P) (w := w) (base := base) T 20
    have c_by_key := ok_by_key (P := P) (w := w) (base := base) T
    have c_keep := ok_keep (P := P) (w := w) (base := base) T
    have c_drop := ok_drop (P := P) (w := w) (base := base) T
    have m_Clash := ok_Clash (P := P) (w := w) (base := base) T
    have sc : FnScope ["one", "other", "path", "ours", "theirs", "found", "key", "first", "second", "member"] ["one", "other", "path"] (C8.fnScope s_fitted) := C8.fnScope_by (by decide +kernel)
    refine T.cal 56 (st := s_fitted) rfl (by decide +kernel) sc (fun _ _ _ _ _ _ us hl => match us, hl with | [_, _, _], _ => rfl) (fun vs H Q E ⟨_, _, _, _, _, _, h, _⟩ => by rw [h]; rfl) (fun cdv A outer s H vs Q E f hr h => ⟨t_fitted P w K n, ?_, pu_fitted T h⟩)
    have hu := hu_of hr
    exact (pss_cons (ps_if (PW.pt (pw_or (pt_cmpR op_eq (pe_fld (pv 0) rfl) pe_str (nomark _)) (pw_or1 (pt_cmpR op_eq (pe_fld (pv 1) rfl) pe_str (nomark _))))) (pss_one (ps_ret (C8.pe_c c_least hr (by omega) rfl (pa_cons (pe_ifExp (pt_cmpR op_eq (pe_fld (pv 0) rfl) pe_str (nomark _)) (pv 1) (pv 0)) pa_nil)))) pss_nil)
    (pss_cons (ps_if (PW.pt (pw_or (pt_cmpR op_in_seq (pe_fld (pv 0) rfl) (pe_tup (pa_cons pe_str (pa_cons pe_str pa_nil))) rfl) (pw_or1 (pt_cmpR op_in_seq (pe_fld (pv 1) rfl) (pe_tup (pa_cons pe_str (pa_cons pe_str pa_nil))) rfl)))) (pss_one (ps_ret (pe_ifExp (pt_cmpR (op_eqD hr.units) (C8.pe_mt0 c_facts hr (by omega) (pv 0)) (C8.pe_mt0 c_facts hr (by omega) (pv 1)) (nomark _)) (C8.pe_c c_least hr (by omega) rfl (pa_cons (pv 0) pa_nil)) (C8.pe_mk m_Clash hr (by omega) rfl (pa_cons (pv 2) pa_nil))))) pss_nil)
    (pss_cons (ps_par (i := 3) (j := 4) rfl sc.nd rfl rfl (by decide) rfl rfl (pa_cons (C8.pe_mt0 c_by_key hr (by omega) (pv 0)) (pa_cons (C8.pe_mt0 c_by_key hr (by omega) (pv 1)) pa_nil)) (by rfl))
    (pss_cons (ps_set (i := 5) sc.nd rfl (Or.inl rfl) pe_dnewK)
    (pss_cons (ps_for PassesOwn.never rfl (pi_list (pe_callB (call_sortedL rfl) rfl T.f_sorted bt_sorted (pa_cons (pe_callTy (call_setL rfl) rfl T.f_set bt_set (pa_cons (pe_op op_cat (pe_callTy (call_listR rfl) rfl T.f_list bt_list (pa_cons (pv 3) pa_nil)) (pe_callTy (call_listR rfl) rfl T.f_list bt_list (pa_cons (pv 4) pa_nil))) pa_nil)) pa_nil))) (pg_name (i := 6) sc.nd rfl (Or.inl rfl))
      (pss_cons (ps_set (i := 7) sc.nd rfl (Or.inl rfl) (pe_dget2 hu (pv 3) (pv 6) (pe_ifExp (pt_cmpR op_eq (pe_fld (pv 0) rfl) pe_str (nomark _)) (pe_c0 c_keep hr (by omega) rfl) (pe_c0 c_drop hr (by omega) rfl)) ⟨rfl, rfl, rfl, rfl⟩))
    (pss_cons (ps_set (i := 8) sc.nd rfl (Or.inl rfl) (pe_dget2 hu (pv 4) (pv 6) (pe_ifExp (pt_cmpR op_eq (pe_fld (pv 1) rfl) pe_str (nomark _)) (pe_c0 c_keep hr (by omega) rfl) (pe_c0 c_drop hr (by omega) rfl)) ⟨rfl, rfl, rfl, rfl⟩))
    (pss_cons (ps_set (i := 9) sc.nd rfl (Or.inl rfl) (C8.pe_c c_fitted hr (by omega) rfl (pa_cons (pv 7) (pa_cons (pv 8) (pa_cons (pe_op op_catA (pv 2) (pe_tup (pa_cons (pv 6) pa_nil))) pa_nil)))))
    (pss_cons (ps_if (pt_val (pe_callB call_isi rfl T.f_isinstance bt_isinstance (pa_cons (pv 9) (pa_cons (pe_glob (v := .ref (He.ga K "Clash")) rfl T.g_Clash rfl) pa_nil)))) (pss_one (ps_ret (pv 9))) pss_nil)
    (pss_one (ps_if (pt_cmpR (op_neNil hr.units) (pv 9) (pe_lst pa_nil) (nomark _)) (pss_one (ps_dput hu (pv 5) (pv 6) (pe_ix ix_list (pv 9) pe_int (fun _ _ => rfl)) rfl)) pss_nil)))))))
    (pss_one (ps_ret (pe_lst (pa_cons (pv 5) pa_nil)))))))))
end
end Tp
end
section
set_option maxRecDepth 100000
set_option maxHeartbeats 4000000
namespace Tp
open PySem PySem.Spec PyProof.Rows L2
theorem ft_ne {e1 e2 : Tp.E} {d : D} (w1 : wf e1 = true) (w2 : wf e2 = true) (hk : (e1.isKeep && e2.isKeep) = false) (h : ft e1 e2 = .ok d) : d ≠ .abs := by
  have actne : ∀ e : Tp.E, wf e = true → e.isKeep = false → act e .abs ≠ .abs := fun e w k => by
    cases e with
    | keep => cases k
    | drop => cases w
    | set x => exact fun z => nomatch z
    | mrg f => exact fun z => nomatch z
    | bld f => exact fun z => nomatch z
  cases ek : (e1.isKeep || e2.isKeep) with
  | true =>
    rw [ft_keep ek] at h
    have h := Ft.ok.inj h
    rw [← h]
    cases e1k : e1.isKeep with
    | true =>
      rw [e1k] at hk
      exact actne e2 w2 (by simpa using hk)
    | false => exact actne e1 w1 e1k
  | false =>
    cases esd : ((e1.isSet || e1.isDrop) || (e2.isSet || e2.isDrop)) with
    | true =>
      rw [ft_sd ek esd] at h
      split at h
      · rw [← Ft.ok.inj h]
        rw [Bool.or_eq_false_iff] at ek
        exact actne e1 w1 ek.1
      · cases h
    | false =>
      rw [ft_mb ek esd] at h
      rw [(fitO_ok h).2]
      exact fun z => nomatch z
section
variable {P : Program} {w : World} {K : PySem.W.Frag} {mg : Str → Option Value} {base : Heap} {vs : List V} {H : Hp} {Q : VK} {E : XK}
def sp_shared (K : PySem.W.Frag) : Sp := fun vs H Q _ => ∃ v u ds es, vs = [v, u] ∧ RowAt H ds v ∧ RowAt H es u ∧ Rok ds ∧ Rok es ∧
  (∀ d v' H', ft (whole ds) (whole es) = .ok d → Same H H' → DocAt H' d.orN v' → Q v' H') ∧ ∀ q v' H', ft (whole ds) (whole es) = .clash q → Same H H' → ClAt K H' q v' → Q v' H'
def t_shared (K : PySem.W.Frag) : TS :=
  (tSeq (tDrop (tCall sp_check_row [] C8.E0 (tCons (tVar 0) tNil)))
    (tSeq (tDrop (tCall sp_check_row [] C8.E0 (tCons (tVar 1) tNil)))
    (tSeq (tPar 2 3 (tCons (tCall (sp_whole K) [] C8.E0 (tCons (tVar 0) tNil)) (tCons (tCall (sp_whole K) [] C8.E0 (tCons (tVar 1) tNil)) tNil)))
    (tSeq (tIfS (tAnd (tTest (tOp rEq (tFld K (tVar 2) "kind") (tC (.str "keep")))) (tTest (tOp rEq (tFld K (tVar 3) "kind") (tC (.str "keep"))))) (tRet (tC .non)) tNext)
    (tSeq (tAsg (tCall (sp_fitted K 4) [] C8.E0 (tCons (tVar 2) (tCons (tVar 3) (tCons (tTup tNil) tNil)))) (gName 4))
    (tRet (tIf (tB (tCB (rIsi K) (tCons (tVar 4) (tCons (tC (.ref (He.ga K "Clash"))) tNil)))) (tVar 4) (tOp (rIxL K) (tVar 4) (tC (.int 0))))))))))
theorem pu_shared (T : Tx K mg) (h : sp_shared K vs H Q E) : t_shared K { nx := fun _ H' => Q .non H', rt := Q } (L2.start ["row", "other", "one", "two", "found"] vs) H := by
  obtain ⟨v, u, ds, es, rfl, hds, hes, o1, o2, q0, q1⟩ := h
  have wf1 := wf_whole ds fun p hp => by
    obtain ⟨a, vs, _, _, h⟩ := hds
    exact h.ne p hp
  have wf2 := wf_whole es fun p hp => by
    obtain ⟨a, vs, _, _, h⟩ := hes
    exact h.ne p hp
  refine sSeq (sDrop ⟨_, rfl, v, ds, rfl, hds, o1.len, o1.dep, o1.par, fun H1 s1 => ?_⟩)
  refine sSeq (sDrop ⟨_, rfl, u, es, rfl, hes.mono (Le.of s1), o2.len, o2.dep, o2.par, fun H2 s2 => ?_⟩)
  have s2 := s1.trans s2
  refine sSeq (sPar (aCons ⟨_, rfl, v, ds, rfl, hds.mono (Le.of s2), o1.dep, fun v1 H3 s3 h1 => ?_⟩))
  refine aCons ⟨_, rfl, u, es, rfl, hes.mono (Le.of (s2.trans s3)), o2.dep, fun v2 H4 s4 h2 => aNil ⟨_, _, rfl, ?_⟩⟩
  have h1 := h1.same s4
  have sH := (s2.trans s3).trans s4
  have d1 := whole_dep ds o1.dep
  have d2 := whole_dep es o2.dep
  generalize whole ds = e1 at *
  generalize whole es = e2 at *
  obtain ⟨a1, dx1, x1, tp1, ps1, g1, rfl, hi1, _⟩ := h1.dec
  obtain ⟨a2, dx2, x2, tp2, ps2, g2, rfl, hi2, _⟩ := h2.dec
  refine sSeq (sIf (xAnd (qEq T rfl hi1 (k_keep e1) ?_)))
  have rest : (e1.isKeep && e2.isKeep) = false → ((tSeq (tAsg (tCall (sp_fitted K 4) [] C8.E0 (tCons (tVar 2) (tCons (tVar 3) (tCons (tTup tNil) tNil)))) (gName 4))
    (tRet (tIf (tB (tCB (rIsi K) (tCons (tVar 4) (tCons (tC (.ref (He.ga K "Clash"))) tNil)))) (tVar 4) (tOp (rIxL K) (tVar 4) (tC (.int 0))))))) ⟨fun _ H' => Q .non H', Q, fun _ _ => False, fun _ _ => False⟩ [some v, some u, some (.ref a1), some (.ref a2), none] H4 := fun hk => by
    refine sSeq (sAsg ⟨_, rfl, _, rfl, Nat.zero_le _, fun p hp => ?_⟩)
    have s5 := same_new hp (.tup [])
    have s05 := sH.trans s5
    refine ⟨_, _, p, e1, e2, [], rfl, h1.same s5, h2.same s5, wk_wf wf1, wk_wf wf2, by omega, by omega, d1, d2, upd_same, (show 0 + 4 ≤ 50 by decide), fun d v' H' hd R => ?_, fun q v' H' hq s c => ?_⟩
    · have hne := ft_ne wf1 wf2 hk hd
      rw [lst1_ne hne] at R
      obtain ⟨s6, l, us, rfl, _, hat, hdn⟩ := R
      cases hdn with
      | cons hx ht =>
        cases ht with
        | nil =>
          rename_i x
          refine sRet (xIf (xB (xCB (aCons (xVar rfl (aCons (xC (aNil (isiC_lst T hat ⟨false, rfl, ifF rfl ?_⟩)))))))))
          refine ⟨_, rfl, l, [x], 0, x, rfl, rfl, SqL.of hat, rfl, q0 d _ _ hd (s05.trans s6) ?_⟩
          rw [D.orN_ne hne]
          exact hx.mono (Le.of (same_nw _ _))
    · exact sRet (xIf (xB (xCB (aCons (xVar rfl (aCons (xC (aNil (isiC_yes T c ⟨true, rfl, ifT rfl ⟨_, rfl, q1 q _ _ hq (s05.trans s) c⟩⟩)))))))))
  cases e1k : e1.isKeep with
  | false => exact ifF rfl (ifF rfl (sNext (rest (by rw [e1k] <;> rfl))))
  | true =>
    refine ifT rfl (qEq T rfl hi2 (k_keep e2) ?_)
    cases e2k : e2.isKeep with
    | false => exact ifF rfl (sNext (rest (by rw [e1k, e2k] <;> rfl)))
    | true =>
      refine ifT rfl (sRet (q0 .abs _ _ ?_ sH doc_non))
      rw [Tp.E.isKeep_iff.mp e1k, Tp.E.isKeep_iff.mp e2k] <;> rfl
theorem ok_shared (T : Tx K mg) : C8.Cal P w K mg base 26 "shared" (sp_shared K) [] := by
  have c_check_row := ok_check_row (P := P) (w := w) (base := base) T
  have c_whole := ok_whole (P := P) (w := w) (base := base) T
  have c_fitted := ok_fitted (P := P) (w := w) (base := base) T 4
  have sc : FnScope ["row", "other", "one", "two", "found"] ["row", "other"] (C8.fnScope s_shared) := C8.fnScope_by (by decide +kernel)
  refine T.cal 57 (st := s_shared) rfl (by decide +kernel) sc (fun _ _ _ _ _ _ us hl => match us, hl with | [_, _], _ => rfl) (fun vs H Q E ⟨_, _, _, _, h, _⟩ => by rw [h]; rfl) (fun cdv A outer s H vs Q E f hr h => ⟨t_shared K, ?_, pu_shared T h⟩)
  have hu := hu_of hr
  exact (pss_cons (ps_expr (C8.pe_c c_check_row hr (by omega) rfl (pa_cons (pv 0) pa_nil)))
    (pss_cons (ps_expr (C8.pe_c c_check_row hr (by omega) rfl (pa_cons (pv 1) pa_nil)))
    (pss_cons (ps_par (i := 2) (j := 3) rfl sc.nd rfl rfl (by decide) rfl rfl (pa_cons (C8.pe_c c_whole hr (by omega) rfl (pa_cons (pv 0) pa_nil)) (pa_cons (C8.pe_c c_whole hr (by omega) rfl (pa_cons (pv 1) pa_nil)) pa_nil)) (by rfl))
    (pss_cons (ps_if (PW.pt (pw_and (pt_cmpR op_eq (pe_fld (pv 2) rfl) pe_str (nomark _)) (pw_and1 (pt_cmpR op_eq (pe_fld (pv 3) rfl) pe_str (nomark _))))) (pss_one (ps_ret pe_non)) pss_nil)
    (pss_cons (ps_set (i := 4) sc.nd rfl (Or.inl rfl) (C8.pe_c c_fitted hr (by omega) rfl (pa_cons (pv 2) (pa_cons (pv 3) (pa_cons (pe_tup pa_nil) pa_nil)))))
    (pss_one (ps_ret (pe_ifExp (pt_val (pe_callB call_isi rfl T.f_isinstance bt_isinstance (pa_cons (pv 4) (pa_cons (pe_glob (v := .ref (He.ga K "Clash")) rfl T.g_Clash rfl) pa_nil)))) (pv 4) (pe_ix ix_list (pv 4) pe_int (fun _ _ => rfl))))))))))
end
end Tp
end
section
set_option maxRecDepth 100000
set_option maxHeartbeats 4000000
namespace Tp
open PySem PySem.Spec PyProof.Rows L2
/-- the source of draws at a -/
def SrcAt (H : Hp) (a : Addr) : Prop := ∃ x y z : Int, H a = some (.lst [.int x, .int y, .int z])
/-- the heap beside it -/
abbrev hid (a : Addr) (H : Hp) : Hp := rest H a a
section
variable {P : Program} {w : World} {K : PySem.W.Frag} {mg : Str → Option Value} {base : Heap} {vs : List V} {H : Hp} {Q : VK} {E : XK}
/-! ### cell_at(script, index) -/
def sp_law_cell_at (K : PySem.W.Frag) : Sp := fun vs H Q _ => ∃ a, ∃ ns : List Int, ∃ i : Nat, vs = [.ref a, .int i] ∧ SqL K H a (ns.map V.int) ∧ ∀ z : Int, Q (.int z) H
def t_law_cell_at (K : PySem.W.Frag) : TS :=
  (tSeq (tIfS (tTest (tOp (rI0 fun i j => .bl (decide (i < j))) (tVar 1) (tCB (rLenSeq K) (tCons (tVar 0) tNil)))) (tRet (tOp (rIxL K) (tVar 0) (tVar 1))) tNext)
    (tRet (tC (.int 0))))
theorem pu_law_cell_at (h : sp_law_cell_at K vs H Q E) : t_law_cell_at K { nx := fun _ H' => Q .non H', rt := Q } (L2.start ["_law_script", "_law_index"] vs) H := by
  obtain ⟨a, ns, i, rfl, ha, q⟩ := h
  refine sSeq (sIf (xTest (xOp ⟨_, rfl, _, rfl, a, _, rfl, .inl ha, _, _, rfl, rfl, _, rfl, ?_⟩)))
  rw [List.length_map]
  by_cases e : i < ns.length
  · refine ifT (decide_eq_true (by omega)) (sRet ⟨_, rfl, _, rfl, a, _, i, .int (ns[i]'e), rfl, rfl, ha, ?_, q _⟩)
    unfold atI ixN
    rw [if_pos (by omega), if_pos (by rw [List.length_map]; omega)]
    simp [e]
  · exact ifF (decide_eq_false (by omega)) (sNext (sRet (q 0)))
theorem ok_law_cell_at (T : Tx K mg) : C8.Cal P w K mg base 1 "_law_cell_at" (sp_law_cell_at K) [] := by
  have sc : FnScope ["_law_script", "_law_index"] ["_law_script", "_law_index"] (C8.fnScope s_law_cell_at) := C8.fnScope_by (by decide +kernel)
  refine T.cal 58 (st := s_law_cell_at) rfl (by decide +kernel) sc (fun _ _ _ _ _ _ us hl => match us, hl with | [_, _], _ => rfl) (fun vs H Q E ⟨_, _, _, h, _⟩ => by rw [h]; rfl) (fun cdv A outer s H vs Q E f hr h => ⟨t_law_cell_at K, ?_, pu_law_cell_at h⟩)
  exact (pss_cons (ps_if (pt_cmpR op_lt (pv 1) (pe_callB call_len_seq rfl T.f_len bt_len (pa_cons (pv 0) pa_nil)) (nomark _)) (pss_one (ps_ret (pe_ix ix_list (pv 0) (pv 1) (fun _ _ => rfl)))) pss_nil)
    (pss_one (ps_ret pe_int)))
/-! ### source(cell) -/
def sp_law_source : Sp := fun vs H Q _ => ∃ z : Int, vs = [.int z] ∧ ∀ a H', Same H H' → H a = none → SrcAt H' a → Q (.ref a) H'
def t_law_source (K : PySem.W.Frag) : TS :=
  (tRet (tLst (tCons (tOp (rI CMul fun i j => .int (i * j)) (tVar 0) (tCB rInt1 (tCons (tOp (rI0 fun i j => .bl (decide (j ≤ i))) (tVar 0) (tOp (rI CPow fun i j => .int (i ^ j.toNat)) (tC (.int 10)) (tC (.int 18)))) tNil))) (tCons (tOp (rI (fun _ j => 0 < j) fun i j => .int (i % j)) (tVar 0) (tC (.int 2147483587))) (tCons (tC (.int 0)) tNil)))))
theorem pu_law_source (h : sp_law_source vs H Q E) : t_law_source K { nx := fun _ H' => Q .non H', rt := Q } (L2.start ["_law_cell"] vs) H := by
  obtain ⟨z, rfl, q⟩ := h
  refine sRet (xLst (aCons (xOp ⟨_, rfl, ?_⟩)))
  refine xCB (aCons (xOp ⟨_, rfl, 10, 18, rfl, rfl, ⟨by decide, by decide, by decide⟩, _, _, rfl, rfl, aNil (.inr ⟨_, rfl, ?_⟩)⟩))
  refine ⟨_, _, rfl, rfl, .inr ?_, aCons (xOp ⟨_, rfl, _, _, rfl, rfl, (show (0 : Int) < 2147483587 by decide), aCons (xC (aNil ⟨szO (show 3 ≤ 100000 by decide), fun p hp => q p _ (same_new hp _) hp ⟨_, _, _, upd_same⟩⟩))⟩)⟩
  split <;> decide
theorem ok_law_source (T : Tx K mg) : C8.Cal P w K mg base 1 "_law_source" sp_law_source [] := by
  have sc : FnScope ["_law_cell"] ["_law_cell"] (C8.fnScope s_law_source) := C8.fnScope_by (by decide +kernel)
  refine T.cal 59 (st := s_law_source) rfl (by decide +kernel) sc (fun _ _ _ _ _ _ us hl => match us, hl with | [_], _ => rfl) (fun vs H Q E ⟨_, h, _⟩ => by rw [h]; rfl) (fun cdv A outer s H vs Q E f hr h => ⟨t_law_source K, ?_, pu_law_source h⟩)
  exact (pss_one (ps_ret (pe_lst (pa_cons (pe_op op_mul (pv 0) (pe_callTy call_int1 rfl T.f_int bt_int (pa_cons (pe_cmpR op_ge (pv 0) (pe_op op_pow pe_int pe_int) (nomark _)) pa_nil))) (pa_cons (pe_op op_mod (pv 0) pe_int) (pa_cons pe_int pa_nil))))))
/-! ### draw(source, limit) -/
def sp_law_draw : Sp := fun vs H Q _ => ∃ a, ∃ n : Nat, vs = [.ref a, .int n] ∧ SrcAt H a ∧ 0 < n ∧ n < 1000000 ∧ ∀ (v : Nat) (x y z : Int), v < n → Q (.int v) (upd H a (.lst [.int x, .int y, .int z]))
def t_law_draw (K : PySem.W.Frag) : TS :=
  (tSeq (tIfS (tTest (tOp (rI0 fun i j => .bl (decide (j < i))) (tOp (rIxL K) (tVar 0) (tC (.int 0))) (tC (.int 0)))) (tSeq (tAsg (tOp (rI (fun _ j => 0 < j) fun i j => .int (i % j)) (tOp (rIxL K) (tVar 0) (tC (.int 0))) (tVar 1)) (gName 2))
    (tSeq (tAsg (tOp (rI CDiv fun i j => .int (i / j)) (tOp (rIxL K) (tVar 0) (tC (.int 0))) (tVar 1)) (gSub (tVar 0) (tC (.int 0)) L2.rSetL))
    (tRet (tVar 2)))) tNext)
    (tSeq (tAsg (tOp (rI0 fun i j => .int (i + j)) (tOp (rIxL K) (tVar 0) (tC (.int 2))) (tC (.int 1))) (gSub (tVar 0) (tC (.int 2)) L2.rSetL))
    (tSeq (tAsg (tOp (rI (fun _ j => 0 < j) fun i j => .int (i % j)) (tOp (rI CMul fun i j => .int (i * j)) (tOp (rI0 fun i j => .int (i + j)) (tOp (rI0 fun i j => .int (i + j)) (tOp (rIxL K) (tVar 0) (tC (.int 1))) (tOp (rI CMul fun i j => .int (i * j)) (tC (.int 51787)) (tOp (rIxL K) (tVar 0) (tC (.int 2))))) (tC (.int 17))) (tC (.int 48271))) (tC (.int 2147483563))) (gName 2))
    (tSeq (tAsg (tOp (rI (fun _ j => 0 < j) fun i j => .int (i % j)) (tOp (rI CMul fun i j => .int (i * j)) (tVar 2) (tOp (rI0 fun i j => .int (i + j)) (tOp (rI0 fun i j => .int (i + j)) (tOp (rI CDiv fun i j => .int (i / j)) (tVar 2) (tC (.int 1013))) (tC (.int 62089))) (tOp (rIxL K) (tVar 0) (tC (.int 2))))) (tC (.int 2147483549))) (gName 2))
    (tRet (tOp (rI (fun _ j => 0 < j) fun i j => .int (i % j)) (tOp (rI CDiv fun i j => .int (i / j)) (tOp (rI (fun _ j => 0 < j) fun i j => .int (i % j)) (tOp (rI CMul fun i j => .int (i * j)) (tVar 2) (tOp (rI0 fun i j => .int (i + j)) (tOp (rI CDiv fun i j => .int (i / j)) (tVar 2) (tC (.int 2011))) (tC (.int 40692)))) (tC (.int 2147483543))) (tC (.int 7))) (tVar 1)))))))
theorem at3_0 (x y z : V) : atI [x, y, z] 0 = some x := rfl
theorem at3_1 (x y z : V) : atI [x, y, z] 1 = some y := rfl
theorem at3_2 (x y z : V) : atI [x, y, z] 2 = some z := rfl
theorem nat_of {v n : Int} (h1 : 0 ≤ v) (h2 : v < n) : ∃ k : Nat, v = (k : Int) ∧ (k : Int) < n := ⟨v.toNat, by omega, by omega⟩
theorem pu_law_draw (h : sp_law_draw vs H Q E) : t_law_draw K { nx := fun _ H' => Q .non H', rt := Q } (L2.start ["_law_source_here", "_law_limit", "_law_value"] vs) H := by
  obtain ⟨a, n, rfl, ⟨x, y, z, ha⟩, hn, hn2, q⟩ := h
  have hn' : (0 : Int) < (n : Int) := by omega
  refine sSeq (sIf (xTest (xOp ⟨_, rfl, a, _, 0, .int x, rfl, rfl, SqL.of ha, at3_0 _ _ _, _, _, rfl, rfl, _, rfl, ?_⟩)))
  by_cases hx : 0 < x
  · refine ifT (decide_eq_true hx) (sSeq (sAsg (xOp ⟨_, rfl, a, _, 0, .int x, rfl, rfl, SqL.of ha, at3_0 _ _ _, _, rfl, _, _, rfl, rfl, hn', ?_⟩)))
    refine sSeq (sAsg (xOp ⟨_, rfl, a, _, 0, .int x, rfl, rfl, SqL.of ha, at3_0 _ _ _, _, rfl, _, _, rfl, rfl, ⟨hn', by omega⟩, ?_⟩))
    refine ⟨_, rfl, a, _, 0, 0, rfl, rfl, ha, rfl, sRet ⟨_, rfl, ?_⟩⟩
    obtain ⟨k, e, h⟩ := nat_of (Int.emod_nonneg x (by omega : (n : Int) ≠ 0)) (Int.emod_lt_of_pos x hn')
    dsimp only
    rw [e]
    exact q k _ _ _ (by omega)
  · refine ifF (decide_eq_false hx) (sNext ?_)
    refine sSeq (sAsg (xOp ⟨_, rfl, a, _, 2, .int z, rfl, rfl, SqL.of ha, at3_2 _ _ _, _, _, rfl, rfl, ?_⟩))
    refine ⟨_, rfl, a, _, 2, 2, rfl, rfl, ha, rfl, ?_⟩
    have hb : upd H a (.lst ([V.int x, V.int y, V.int z].set 2 (.int (z + 1)))) a = some (.lst [.int x, .int y, .int (z + 1)]) := upd_same
    have hq : ∀ v : Nat, v < n → Q (.int v) (upd H a (.lst ([V.int x, V.int y, V.int z].set 2 (.int (z + 1))))) := fun v hv => q v _ _ _ hv
    generalize upd H a (.lst ([V.int x, V.int y, V.int z].set 2 (.int (z + 1)))) = H1 at *
    refine sSeq (sAsg (xOp (xOp (xOp (xOp ⟨_, rfl, a, _, 1, .int y, rfl, rfl, SqL.of hb, at3_1 _ _ _, ?_⟩)))))
    refine xOp ⟨_, rfl, a, _, 2, .int (z + 1), rfl, rfl, SqL.of hb, at3_2 _ _ _, _, _, rfl, rfl, .inl (by decide), _, _, rfl, rfl, _, _, rfl, rfl, _, _, rfl, rfl, .inr (by decide), _, _, rfl, rfl, (show (0 : Int) < 2147483563 by decide), ?_⟩
    dsimp only
    generalize hv : (y + 51787 * (z + 1) + 17) * 48271 % 2147483563 = v
    have v0 : 0 ≤ v := by rw [← hv]; exact Int.emod_nonneg _ (by decide)
    have v1 : v < 2147483563 := by rw [← hv]; exact Int.emod_lt_of_pos _ (by decide)
    refine sSeq (sAsg (xOp (xOp ⟨_, rfl, ?_⟩)))
    refine xOp (xOp (xOp ⟨_, rfl, _, _, rfl, rfl, ⟨by decide, by decide⟩, _, _, rfl, rfl, ?_⟩))
    refine ⟨_, rfl, a, _, 2, .int (z + 1), rfl, rfl, SqL.of hb, at3_2 _ _ _, _, _, rfl, rfl, _, _, rfl, rfl, .inl ⟨by omega, by omega⟩, _, _, rfl, rfl, (show (0 : Int) < 2147483549 by decide), ?_⟩
    dsimp only
    generalize hu : v * (v / 1013 + 62089 + (z + 1)) % 2147483549 = u
    have u0 : 0 ≤ u := by rw [← hu]; exact Int.emod_nonneg _ (by decide)
    have u1 : u < 2147483549 := by rw [← hu]; exact Int.emod_lt_of_pos _ (by decide)
    refine sRet (xOp (xOp (xOp (xOp ⟨_, rfl, ?_⟩))))
    refine xOp (xOp ⟨_, rfl, _, _, rfl, rfl, ⟨by decide, by decide⟩, _, _, rfl, rfl, _, _, rfl, rfl, .inl ⟨by omega, by omega⟩, _, _, rfl, rfl, (show (0 : Int) < 2147483543 by decide), _, _, rfl, rfl, ⟨by decide, by decide⟩, ?_⟩)
    refine ⟨_, rfl, _, _, rfl, rfl, hn', ?_⟩
    obtain ⟨k, e, h⟩ := nat_of (Int.emod_nonneg (u * (u / 2011 + 40692) % 2147483543 / 7) (by omega : (n : Int) ≠ 0)) (Int.emod_lt_of_pos _ hn')
    dsimp only
    rw [e]
    exact hq k (by omega)
theorem ok_law_draw (T : Tx K mg) : C8.Cal P w K mg base 1 "_law_draw" sp_law_draw [] := by
  have sc : FnScope ["_law_source_here", "_law_limit", "_law_value"] ["_law_source_here", "_law_limit"] (C8.fnScope s_law_draw) := C8.fnScope_by (by decide +kernel)
  refine T.cal 60 (st := s_law_draw) rfl (by decide +kernel) sc (fun _ _ _ _ _ _ us hl => match us, hl with | [_, _], _ => rfl) (fun vs H Q E ⟨_, _, h, _⟩ => by rw [h]; rfl) (fun cdv A outer s H vs Q E f hr h => ⟨t_law_draw K, ?_, pu_law_draw h⟩)
  have hu := hu_of hr
  exact (pss_cons (ps_if (pt_cmpR op_gt (pe_ix ix_list (pv 0) pe_int (fun _ _ => rfl)) pe_int (nomark _)) (pss_cons (ps_set (i := 2) sc.nd rfl (Or.inl rfl) (pe_op op_mod (pe_ix ix_list (pv 0) pe_int (fun _ _ => rfl)) (pv 1)))
    (pss_cons (ps_asg (pe_op op_fdiv (pe_ix ix_list (pv 0) pe_int (fun _ _ => rfl)) (pv 1)) (pg_sub (pv 0) pe_int set_list))
    (pss_one (ps_ret (pv 2))))) pss_nil)
    (pss_cons (ps_asg (pe_op op_add (pe_ix ix_list (pv 0) pe_int (fun _ _ => rfl)) pe_int) (pg_sub (pv 0) pe_int set_list))
    (pss_cons (ps_set (i := 2) sc.nd rfl (Or.inl rfl) (pe_op op_mod (pe_op op_mul (pe_op op_add (pe_op op_add (pe_ix ix_list (pv 0) pe_int (fun _ _ => rfl)) (pe_op op_mul pe_int (pe_ix ix_list (pv 0) pe_int (fun _ _ => rfl)))) pe_int) pe_int) pe_int))
    (pss_cons (ps_set (i := 2) sc.nd rfl (Or.inl rfl) (pe_op op_mod (pe_op op_mul (pv 2) (pe_op op_add (pe_op op_add (pe_op op_fdiv (pv 2) pe_int) pe_int) (pe_ix ix_list (pv 0) pe_int (fun _ _ => rfl)))) pe_int))
    (pss_one (ps_ret (pe_op op_mod (pe_op op_fdiv (pe_op op_mod (pe_op op_mul (pv 2) (pe_op op_add (pe_op op_fdiv (pv 2) pe_int) pe_int)) pe_int) pe_int) (pv 1))))))))
end
end Tp
end
section
set_option maxRecDepth 100000
set_option maxHeartbeats 4000000
namespace Tp
open PySem PySem.Spec PyProof.Rows L2
theorem hid_upd {a : Addr} {H : Hp} {o : HO} : hid a (upd H a o) = hid a H := rest_upd1
theorem hid_ne {a b : Addr} {H : Hp} {o : HO} (n : b ≠ a) : hid a (upd H b o) = upd (hid a H) b o := by
  funext c
  unfold hid rest
  by_cases e1 : c = b
  · subst e1
    rw [upd_same, upd_same, if_neg (fun z => z.elim n n)]
  · rw [upd_ne e1, upd_ne e1]
theorem hid_none {a b : Addr} {H : Hp} (h : H b = none) : hid a H b = none := by
  unfold hid rest
  split
  · rfl
  · exact h
theorem SrcAt.upd {a : Addr} {H : Hp} {x y z : Int} : SrcAt (L2.upd H a (.lst [.int x, .int y, .int z])) a := ⟨x, y, z, upd_same⟩
theorem SrcAt.same {a : Addr} {H H' : Hp} (h : SrcAt H a) (s : Same H H') : SrcAt H' a := let ⟨x, y, z, e⟩ := h; ⟨x, y, z, s _ _ e⟩
theorem SrcAt.ne {a : Addr} {H : Hp} (h : SrcAt H a) {b : Addr} (n : H b = none) : b ≠ a := fun e => by
  obtain ⟨x, y, z, q⟩ := h
  rw [e, q] at n
  cases n
theorem atI_nat {xs : List V} {k : Nat} {v : V} (h : xs[k]? = some v) : atI xs (k : Int) = some v := by
  have hl : k < xs.length := by
    by_cases q : k < xs.length
    · exact q
    · rw [List.getElem?_eq_none (by omega)] at h; cases h
  unfold atI ixN
  rw [if_pos (by omega), if_pos (by omega)]
  simpa using h
/-- a document that is made beside the source -/
def DocNew (a : Addr) (H H' : Hp) (n : Nat) (v : V) : Prop := ∃ d : D, d.dep ≤ n ∧ Fresh (hid a H) (hid a H') d v ∧ SrcAt H' a
section
variable {P : Program} {w : World} {K : PySem.W.Frag} {mg : Str → Option Value} {base : Heap} {vs : List V} {H : Hp} {Q : VK} {E : XK}
/-! ### choice(source, items) -/
def sp_law_choice : Sp := fun vs H Q _ => ∃ a l xs, vs = [.ref a, .ref l] ∧ SrcAt H a ∧ H l = some (.lst xs) ∧ l ≠ a ∧ xs ≠ [] ∧ xs.length < 1000000 ∧ ∀ (i : Nat) v (x y z : Int), xs[i]? = some v → Q v (upd H a (.lst [.int x, .int y, .int z]))
def t_law_choice (K : PySem.W.Frag) : TS :=
  (tRet (tOp (rIxL K) (tVar 1) (tCall sp_law_draw [] C8.E0 (tCons (tVar 0) (tCons (tCB (rLenSeq K) (tCons (tVar 1) tNil)) tNil)))))
theorem pu_law_choice (h : sp_law_choice vs H Q E) : t_law_choice K { nx := fun _ H' => Q .non H', rt := Q } (L2.start ["_law_source_here", "_law_items"] vs) H := by
  obtain ⟨a, l, xs, rfl, ha, hl, ne, hx, hx2, q⟩ := h
  have hpos : 0 < xs.length := by
    cases xs with
    | nil => exact absurd rfl hx
    | cons _ _ => exact Nat.succ_pos _
  refine sRet (xOp ⟨_, rfl, _, rfl, _, rfl, l, xs, rfl, .inl (SqL.of hl), a, xs.length, rfl, ha, hpos, hx2, fun v x y z hv => ?_⟩)
  have e : xs[v]? = some (xs[v]'hv) := List.getElem?_eq_getElem hv
  exact ⟨l, xs, v, _, rfl, rfl, SqL.of (by rw [upd_ne ne]; exact hl), atI_nat e, q v _ x y z e⟩
theorem ok_law_choice (T : Tx K mg) : C8.Cal P w K mg base 2 "_law_choice" sp_law_choice [] := by
  have c_law_draw := ok_law_draw (P := P) (w := w) (base := base) T
  have sc : FnScope ["_law_source_here", "_law_items"] ["_law_source_here", "_law_items"] (C8.fnScope s_law_choice) := C8.fnScope_by (by decide +kernel)
  refine T.cal 61 (st := s_law_choice) rfl (by decide +kernel) sc (fun _ _ _ _ _ _ us hl => match us, hl with | [_, _], _ => rfl) (fun vs H Q E ⟨_, _, _, h, _⟩ => by rw [h]; rfl) (fun cdv A outer s H vs Q E f hr h => ⟨t_law_choice K, ?_, pu_law_choice h⟩)
  exact (pss_one (ps_ret (pe_ix ix_list (pv 1) (C8.pe_c c_law_draw hr (by omega) rfl (pa_cons (pv 0) (pa_cons (pe_callB call_len_seq rfl T.f_len bt_len (pa_cons (pv 1) pa_nil)) pa_nil))) (fun _ _ => rfl))))
/-! ### atom(source) -/
def sp_law_atom : Sp := fun vs H Q _ => ∃ a, vs = [.ref a] ∧ SrcAt H a ∧ ∀ v H', DocNew a H H' 0 v → Q v H'
def t_law_atom (K : PySem.W.Frag) : TS :=
  (tRet (tCall sp_law_choice [] C8.E0 (tCons (tVar 0) (tCons (tLst (tCons (tC (.int 0)) (tCons (tC (.int 1)) (tCons (tC (.int 2)) (tCons (tUn (rU fun i => .int (-i)) (tC (.int 7))) (tCons (tOp (rI CPow fun i j => .int (i ^ j.toNat)) (tC (.int 10)) (tC (.int 20))) (tCons (tC (.str "a")) (tCons (tC (.str "b")) (tCons (tC (.str "")) (tCons (tC (.str "null")) (tCons (tLst tNil) (tCons (tLst (tCons (tC (.int 1)) (tCons (tC (.str "a")) tNil))) (tCons (tLst (tCons (tC .non) (tCons (tC (.int 1)) tNil))) tNil))))))))))))) tNil))))
theorem pu_law_atom (h : sp_law_atom vs H Q E) : t_law_atom K { nx := fun _ H' => Q .non H', rt := Q } (L2.start ["_law_source_here"] vs) H := by
  obtain ⟨a, rfl, ha, q⟩ := h
  refine sRet (aCons (xVar rfl (aCons (xLst ?_))))
  refine aCons (xC (aCons (xC (aCons (xC (aCons ⟨_, rfl, aCons (xOp ⟨_, _, rfl, rfl, ⟨by decide, by decide, by decide⟩, ?_⟩)⟩))))))
  refine aCons (xC (aCons (xC (aCons (xC (aCons (xC ?_)))))))
  refine aCons (xLst (aNil ⟨Nat.zero_le _, fun p1 hp1 => ?_⟩))
  have s1 := same_new hp1 (.lst [])
  refine aCons (xLst (aCons (xC (aCons (xC (aNil ⟨szO (show 2 ≤ 100000 by decide), fun p2 hp2 => ?_⟩))))))
  have s2 := same_new hp2 (.lst [.int 1, .str "a"])
  refine aCons (xLst (aCons (xC (aCons (xC (aNil ⟨szO (show 2 ≤ 100000 by decide), fun p3 hp3 => ?_⟩))))))
  have s3 := same_new hp3 (.lst [.non, .int 1])
  refine aNil ⟨szO (show 12 ≤ 100000 by decide), fun p4 hp4 => ?_⟩
  have s4 := fun o => same_new hp4 o
  have n1 := ha.ne hp1
  have n2 := (ha.same s1).ne hp2
  have n3 := (ha.same (s1.trans s2)).ne hp3
  have n4 := (ha.same ((s1.trans s2).trans s3)).ne hp4
  have hp2' := s1.free hp2
  have hp3' := (s1.trans s2).free hp3
  refine aNil ⟨a, p4, _, rfl, ha.same (((s1.trans s2).trans s3).trans (s4 _)), upd_same, n4, (fun z => nomatch z), (show 12 < 1000000 by decide), fun i v x y z hv => ?_⟩
  have sAll : ∀ o, Same H (upd (upd (upd (upd H p1 (.lst [])) p2 (.lst [.int 1, .str "a"])) p3 (.lst [.non, .int 1])) p4 o) := fun o => ((s1.trans s2).trans s3).trans (s4 o)
  have fin : ∀ x0 : At, DocAt (nw (hid a H) (hid a (upd (upd (upd (upd H p1 (.lst [])) p2 (.lst [.int 1, .str "a"])) p3 (.lst [.non, .int 1])) p4 (.lst [.int 0, .int 1, .int 2, .int (-7), .int (10 ^ 20), .str "a", .str "b", .str "", .str "null", .ref p1, .ref p2, .ref p3])))) (.atom x0) v → Q v _ := fun x0 h =>
    q v (upd _ a (.lst [.int x, .int y, .int z])) ⟨.atom x0, Nat.le_refl _, by rw [hid_upd]; exact ⟨rest_mono (sAll _), h⟩, SrcAt.upd⟩
  have rd : ∀ (p : Addr) (o : HO), H p = none → p ≠ a → (upd (upd (upd (upd H p1 (.lst [])) p2 (.lst [.int 1, .str "a"])) p3 (.lst [.non, .int 1])) p4 (.lst [.int 0, .int 1, .int 2, .int (-7), .int (10 ^ 20), .str "a", .str "b", .str "", .str "null", .ref p1, .ref p2, .ref p3])) p = some o → nw (hid a H) (hid a (upd (upd (upd (upd H p1 (.lst [])) p2 (.lst [.int 1, .str "a"])) p3 (.lst [.non, .int 1])) p4 (.lst [.int 0, .int 1, .int 2, .int (-7), .int (10 ^ 20), .str "a", .str "b", .str "", .str "null", .ref p1, .ref p2, .ref p3]))) p = some o := fun p o h0 hn h => by
    rw [nw_at (hid_none h0)]
    exact rest_of h hn hn
  match i, hv with
  | 0, hv => cases hv; exact fin (.pl (.int 0)) rfl
  | 1, hv => cases hv; exact fin (.pl (.int 1)) rfl
  | 2, hv => cases hv; exact fin (.pl (.int 2)) rfl
  | 3, hv => cases hv; exact fin (.pl (.int (-7))) rfl
  | 4, hv => cases hv; exact fin (.pl (.int (10 ^ 20))) rfl
  | 5, hv => cases hv; exact fin (.pl (.str ⟨"a", by decide +kernel⟩)) rfl
  | 6, hv => cases hv; exact fin (.pl (.str ⟨"b", by decide +kernel⟩)) rfl
  | 7, hv => cases hv; exact fin (.pl (.str ⟨"", by decide +kernel⟩)) rfl
  | 8, hv => cases hv; exact fin (.pl (.str ⟨"null", by decide +kernel⟩)) rfl
  | 9, hv =>
    cases hv
    exact fin (.lst []) ⟨p1, rfl, .inl (rd p1 _ hp1 n1 ((s4 _) _ _ (s3 _ _ (s2 _ _ upd_same)))), by decide⟩
  | 10, hv =>
    cases hv
    exact fin (.lst [.int 1, .str ⟨"a", by decide +kernel⟩]) ⟨p2, rfl, .inl (rd p2 _ hp2' n2 ((s4 _) _ _ (s3 _ _ upd_same))), by decide⟩
  | 11, hv =>
    cases hv
    exact fin (.lst [.non, .int 1]) ⟨p3, rfl, .inl (rd p3 _ hp3' n3 ((s4 _) _ _ upd_same)), by decide⟩
  | n + 12, hv => cases hv
theorem ok_law_atom (T : Tx K mg) : C8.Cal P w K mg base 3 "_law_atom" sp_law_atom [] := by
  have c_law_choice := ok_law_choice (P := P) (w := w) (base := base) T
  have sc : FnScope ["_law_source_here"] ["_law_source_here"] (C8.fnScope s_law_atom) := C8.fnScope_by (by decide +kernel)
  refine T.cal 62 (st := s_law_atom) rfl (by decide +kernel) sc (fun _ _ _ _ _ _ us hl => match us, hl with | [_], _ => rfl) (fun vs H Q E ⟨_, h, _⟩ => by rw [h]; rfl) (fun cdv A outer s H vs Q E f hr h => ⟨t_law_atom K, ?_, pu_law_atom h⟩)
  exact (pss_one (ps_ret (C8.pe_c c_law_choice hr (by omega) rfl (pa_cons (pv 0) (pa_cons (pe_lst (pa_cons pe_int (pa_cons pe_int (pa_cons pe_int (pa_cons (pe_un un_neg pe_int) (pa_cons (pe_op op_pow pe_int pe_int) (pa_cons pe_str (pa_cons pe_str (pa_cons pe_str (pa_cons pe_str (pa_cons (pe_lst pa_nil) (pa_cons (pe_lst (pa_cons pe_int (pa_cons pe_str pa_nil))) (pa_cons (pe_lst (pa_cons pe_non (pa_cons pe_int pa_nil))) pa_nil))))))))))))) pa_nil)))))
end
end Tp
end
section
set_option maxRecDepth 100000
set_option maxHeartbeats 4000000
namespace Tp
open PySem PySem.Spec PyProof.Rows L2
/-- a promise that can't be asked -/
def spNo : Sp := fun _ _ _ _ => False
theorem SrcAt.put {a b : Addr} {H : Hp} {o : HO} (h : SrcAt H a) (n : b ≠ a) : SrcAt (L2.upd H b o) a := let ⟨x, y, z, e⟩ := h; ⟨x, y, z, by rw [upd_ne (Ne.symm n)]; exact e⟩
theorem range_le {n : Nat} (h : n < 1000000) : (-(2 : Int) ^ 62) ≤ (n : Int) ∧ (n : Int) < 2 ^ 62 := ⟨by omega, by omega⟩
/-- an object that is being made beside the source -/
def Obj (a : Addr) (H0 : Hp) (m : Nat) (pf : Addr) (H : Hp) : Prop := SrcAt H a ∧ pf ≠ a ∧ ∃ kvs f, Bld (hid a H0) pf (hid a H) kvs f ∧ ∀ k, (f k).dep ≤ m
theorem Obj.start {a : Addr} {H0 H : Hp} {m : Nat} {pf : Addr} (s : Same (hid a H0) (hid a H)) (h : SrcAt H a) (hp : H pf = none) : Obj a H0 m pf (upd H pf (.dK [])) := by
  have n := h.ne hp
  have hpn : hid a H0 pf = none := s.free (hid_none hp)
  refine ⟨h.put n, n, [], fun _ => .abs, ?_, fun _ => Nat.zero_le _⟩
  rw [hid_ne n]
  refine ⟨fun b o hb q => by rw [upd_ne hb]; exact s _ _ q, hpn, upd_same, tabOk_nil, fun _ => rfl⟩
theorem Obj.call {a : Addr} {H0 H H' : Hp} {m : Nat} {pf : Addr} (o : Obj a H0 m pf H) (s : Same (hid a H) (hid a H')) (h : SrcAt H' a) : Obj a H0 m pf H' :=
  let ⟨_, n, kvs, f, B, d⟩ := o; ⟨h, n, kvs, f, B.call s, d⟩
/-- found[k] = v of a document that was made -/
theorem Obj.put {a : Addr} {H0 H H' : Hp} {m : Nat} {pf : Addr} {v : V} (o : Obj a H0 m pf H) (h : DocNew a H H' m v) (k : Ky) : ∃ H4, DPut H' pf (.str (kS k)) v H4 ∧ Obj a H0 m pf H4 := by
  obtain ⟨_, n, kvs, f, B, hd⟩ := o
  obtain ⟨d, hdd, F, src⟩ := h
  have B2 := B.call F.same
  have e := (rest_some B2.at_).1
  have B3 := B2.put (k := k) (B.into F.same F.doc)
  rw [← hid_ne n] at B3
  refine ⟨_, dputK e B2.ok k v, src.put n, n, _, _, B3, fun j => ?_⟩
  show D.dep (if j = k then d else f j) ≤ m
  split
  · exact hdd
  · exact hd j
theorem Obj.done {a : Addr} {H0 H : Hp} {m : Nat} {pf : Addr} (o : Obj a H0 m pf H) : DocNew a H0 H (m + 1) (.ref pf) := by
  obtain ⟨src, n, kvs, f, B, hd⟩ := o
  exact ⟨.obj f, D.dep_obj hd, Fresh.obj B, src⟩
theorem DocNew.le {a : Addr} {H H' : Hp} {n m : Nat} {v : V} (h : DocNew a H H' n v) (l : n ≤ m) : DocNew a H H' m v := let ⟨d, e, F, s⟩ := h; ⟨d, Nat.le_trans e l, F, s⟩
theorem DocNew.wk {a : Addr} {H H1 H' : Hp} {n : Nat} {v : V} (h : DocNew a H1 H' n v) (s : Same (hid a H) (hid a H1)) : DocNew a H H' n v := let ⟨d, e, F, z⟩ := h; ⟨d, e, F.wk s, z⟩
/-- .. a patch: at most two members in an object -/
def cp : Nat → Nat
  | 0 => 1
  | n + 1 => 1 + 2 * cp n
theorem cp_mono : ∀ n, cp n ≤ cp (n + 1)
  | 0 => by decide
  | n + 1 => by
    have := cp_mono n
    show 1 + 2 * cp n ≤ 1 + 2 * cp (n + 1)
    omega
theorem cp_pos : ∀ n, 1 ≤ cp n
  | 0 => Nat.le_refl _
  | n + 1 => Nat.le_add_right _ _
def PatNew (a : Addr) (H H' : Hp) (n : Nat) (v : V) : Prop := ∃ d : D, (d.dep ≤ n ∧ d.par ≤ cp n) ∧ Fresh (hid a H) (hid a H') d v ∧ SrcAt H' a
theorem PatNew.wk {a : Addr} {H H1 H' : Hp} {n : Nat} {v : V} (h : PatNew a H1 H' n v) (s : Same (hid a H) (hid a H1)) : PatNew a H H' n v := let ⟨d, e, F, z⟩ := h; ⟨d, e, F.wk s, z⟩
/-- a patch's object after i members -/
def ObP (a : Addr) (H0 : Hp) (m : Nat) (pf : Addr) (i : Nat) (H : Hp) : Prop := SrcAt H a ∧ pf ≠ a ∧ ∃ kvs f, Bld (hid a H0) pf (hid a H) kvs f ∧ (∀ k, (f k).dep ≤ m) ∧ sm4 (fun k => (f k).par) ≤ i * cp m
theorem ObP.start {a : Addr} {H0 H : Hp} {m : Nat} {pf : Addr} (s : Same (hid a H0) (hid a H)) (h : SrcAt H a) (hp : H pf = none) : ObP a H0 m pf 0 (upd H pf (.dK [])) := by
  have n := h.ne hp
  have hpn : hid a H0 pf = none := s.free (hid_none hp)
  refine ⟨h.put n, n, [], fun _ => .abs, ?_, fun _ => Nat.zero_le _, Nat.zero_le _⟩
  rw [hid_ne n]
  exact ⟨fun b o hb q => by rw [upd_ne hb]; exact s _ _ q, hpn, upd_same, tabOk_nil, fun _ => rfl⟩
theorem ObP.call {a : Addr} {H0 H H' : Hp} {m i : Nat} {pf : Addr} (o : ObP a H0 m pf i H) (s : Same (hid a H) (hid a H')) (h : SrcAt H' a) : ObP a H0 m pf i H' :=
  let ⟨_, n, kvs, f, B, d⟩ := o; ⟨h, n, kvs, f, B.call s, d⟩
theorem sm4_put (f : Ky → D) (k : Ky) (d : D) : sm4 (fun j => (if j = k then d else f j).par) ≤ sm4 (fun j => (f j).par) + d.par := by
  unfold sm4
  cases k <;> simp <;> omega
theorem ObP.put {a : Addr} {H0 H H' : Hp} {m i : Nat} {pf : Addr} {v : V} (o : ObP a H0 m pf i H) (h : PatNew a H H' m v) (k : Ky) : ∃ H4, DPut H' pf (.str (kS k)) v H4 ∧ ObP a H0 m pf (i + 1) H4 := by
  obtain ⟨_, n, kvs, f, B, hd, hs⟩ := o
  obtain ⟨d, ⟨hdd, hdp⟩, F, src⟩ := h
  have B2 := B.call F.same
  have e := (rest_some B2.at_).1
  have B3 := B2.put (k := k) (B.into F.same F.doc)
  rw [← hid_ne n] at B3
  refine ⟨_, dputK e B2.ok k v, src.put n, n, _, _, B3, fun j => ?_, ?_⟩
  · show D.dep (if j = k then d else f j) ≤ m
    split
    · exact hdd
    · exact hd j
  · refine Nat.le_trans (sm4_put f k d) ?_
    rw [Nat.add_mul, Nat.one_mul]
    omega
theorem ObP.done {a : Addr} {H0 H : Hp} {m i : Nat} {pf : Addr} (o : ObP a H0 m pf i H) (hi : i ≤ 2) : PatNew a H0 H (m + 1) (.ref pf) := by
  obtain ⟨src, n, kvs, f, B, hd, hs⟩ := o
  refine ⟨.obj f, ⟨D.dep_obj hd, ?_⟩, Fresh.obj B, src⟩
  show 1 + sm4 (fun k => (f k).par) ≤ 1 + 2 * cp m
  have := Nat.mul_le_mul_right (cp m) hi
  omega
theorem DocNew.pat {a : Addr} {H H' : Hp} {v : V} (h : DocNew a H H' 0 v) (n : Nat) : PatNew a H H' n v := by
  obtain ⟨d, e, F, s⟩ := h
  refine ⟨d, ⟨by omega, ?_⟩, F, s⟩
  have := D.par_le 0 d e
  have := cp_pos n
  have : D.cap 0 = 1 := rfl
  omega
theorem mem_nth {xs : List V} {i : Nat} {v : V} (h : xs[i]? = some v) : v ∈ xs := List.mem_of_getElem? h
section
variable {P : Program} {w : World} {K : PySem.W.Frag} {mg : Str → Option Value} {base : Heap} {vs : List V} {H : Hp} {Q : VK} {E : XK}
/-! ### document(source, deep) -/
def sp_law_document (n : Nat) : Sp := fun vs H Q _ => ∃ a, vs = [.ref a, .int (n : Int)] ∧ SrcAt H a ∧ ∀ v H', DocNew a H H' n v → Q v H'
def t_law_document (K : PySem.W.Frag) (spr : Sp) : TS :=
  (tSeq (tAsg (tCall sp_law_draw [] C8.E0 (tCons (tVar 0) (tCons (tC (.int 6)) tNil))) (gName 2))
    (tSeq (tIfS (tTest (tOp rEq (tVar 2) (tC (.int 0)))) (tRet (tC .non)) tNext)
    (tSeq (tIfS (tOr (tTest (tOp rEq (tVar 2) (tC (.int 1)))) (tTest (tOp rEq (tVar 1) (tC (.int 0))))) (tRet (tCall sp_law_atom [] C8.E0 (tCons (tVar 0) tNil))) tNext)
    (tSeq (tAsg tDNewK (gName 3))
    (tSeq (tFor (iRng1 (tCons (tCall sp_law_draw [] C8.E0 (tCons (tVar 0) (tCons (tC (.int 4)) tNil))) tNil)) (gName 4)
      (tSeq (tAsg (tCall sp_law_choice [] C8.E0 (tCons (tVar 0) (tCons (tLst (tCons (tC (.str "a")) (tCons (tC (.str "b")) (tCons (tC (.str "c")) (tCons (tC (.str "a")) (tCons (tC (.str "b")) (tCons (tC (.str "z")) tNil))))))) tNil))) (gName 5))
    (sDPut (tVar 3) (tVar 5) (tCall spr [] C8.E0 (tCons (tVar 0) (tCons (tOp (rI0 fun i j => .int (i - j)) (tVar 1) (tC (.int 1))) tNil))))))
    (tRet (tVar 3)))))))
theorem pu_law_document {n : Nat} {spr : Sp} (hsp : ∀ m, n = m + 1 → spr = sp_law_document m) (h : sp_law_document n vs H Q E) : t_law_document K spr { nx := fun _ H' => Q .non H', rt := Q } (L2.start ["_law_source_here", "_law_deep", "_law_way", "_law_result", "_law_attempt", "_law_key"] vs) H := by
  obtain ⟨a, rfl, ha, q⟩ := h
  refine sSeq (sAsg ⟨_, rfl, a, 6, rfl, ha, by decide, by decide, fun way x y z hw => ?_⟩)
  have h1 : SrcAt (upd H a (.lst [.int x, .int y, .int z])) a := SrcAt.upd
  have e1 : hid a (upd H a (.lst [.int x, .int y, .int z])) = hid a H := hid_upd
  generalize upd H a (.lst [.int x, .int y, .int z]) = H1 at *
  have s1 : Same (hid a H) (hid a H1) := by rw [e1]; exact Same.refl _
  refine sSeq (sIf (xTest (xOp ⟨_, rfl, rfl, _, rfl, ?_⟩)))
  by_cases w0 : way = 0
  · subst w0
    refine ifT (by simp) (sRet (q _ _ ⟨.atom non, Nat.zero_le _, ⟨s1, rfl⟩, h1⟩))
  · refine ifF (by simp [w0]) (sNext (sSeq (sIf (xOr (xTest (xOp ⟨_, rfl, rfl, _, rfl, ?_⟩)))))) 
    have atom : (tRet (tCall sp_law_atom [] C8.E0 (tCons (tVar 0) tNil))) ⟨fun _ H' => Q .non H', Q, fun _ _ => False, fun _ _ => False⟩ [some (.ref a), some (.int n), some (.int way), none, none, none] H1 :=
      sRet ⟨_, rfl, a, rfl, h1, fun v H' N => q v H' ((N.le (Nat.zero_le _)).wk s1)⟩
    by_cases w1 : way = 1
    · subst w1
      exact ifT (by simp) (ifT rfl atom)
    · refine ifF (by simp; omega) (xTest (xOp ⟨_, rfl, rfl, _, rfl, ?_⟩))
      cases n with
      | zero => exact ifT (by simp) atom
      | succ m =>
        refine ifF (by simp; omega) (sNext (sSeq (sAsg fun pf hpf => ?_)))
        have O := Obj.start (m := m) s1 h1 hpf
        refine sSeq (sFor ⟨_, rfl, a, 4, rfl, O.1, by decide, by decide, fun j x y z hj => ?_⟩)
        have O1 : Obj a H m pf (upd (upd H1 pf (.dK [])) a (.lst [.int x, .int y, .int z])) := O.call (by rw [hid_upd]; exact Same.refl _) SrcAt.upd
        refine ⟨(j : Int), rfl, by omega, by omega, ?_⟩
        refine for_it (D := ⟨_, _, fun _ _ => False, fun _ _ => False⟩) (walk_range (lo := 0) (n := (j : Int).toNat)) (fun i σ H4 => (∃ c1 c2, σ = [some (.ref a), some (.int ((m + 1 : Nat) : Int)), some (.int way), some (.ref pf), c1, c2]) ∧ Obj a H m pf H4)
          ⟨⟨_, _, rfl⟩, O1⟩ (fun _ _ _ _ _ => True.intro) (fun i x σ H4 H5 hi ⟨⟨c1, c2, hσ⟩, O4⟩ y => ?_) (fun σ H4 ⟨⟨c1, c2, hσ⟩, O4⟩ => ?_)
        · subst hσ
          obtain ⟨rfl, hx⟩ := y
          refine sSeq (sAsg (aCons (xVar rfl (aCons (xLst (aCons (xC (aCons (xC (aCons (xC (aCons (xC (aCons (xC (aCons (xC (aNil ⟨szO (show 6 ≤ 100000 by decide), fun l hl => ?_⟩))))))))))))))))))
          have nl := O4.1.ne hl
          have O5 : Obj a H m pf (upd H5 l (.lst [.str "a", .str "b", .str "c", .str "a", .str "b", .str "z"])) := O4.call (rest_mono (same_new hl _)) (O4.1.same (same_new hl _))
          refine aNil ⟨a, l, _, rfl, O5.1, upd_same, nl, (fun z => nomatch z), (show 6 < 1000000 by decide), fun i v x y z hv => ?_⟩
          have O6 : Obj a H m pf (upd (upd H5 l (.lst [.str "a", .str "b", .str "c", .str "a", .str "b", .str "z"])) a (.lst [.int x, .int y, .int z])) := O5.call (by rw [hid_upd]; exact Same.refl _) SrcAt.upd
          obtain ⟨k, rfl⟩ : ∃ k, v = .str (kS k) := by
            have := mem_nth hv
            simp only [List.mem_cons, List.not_mem_nil, or_false] at this
            rcases this with h | h | h | h | h | h
            · exact ⟨.a, h⟩
            · exact ⟨.b, h⟩
            · exact ⟨.c, h⟩
            · exact ⟨.a, h⟩
            · exact ⟨.b, h⟩
            · exact ⟨.z, h⟩
          have hs := hsp m rfl
          subst hs
          have em : ((m + 1 : Nat) : Int) - 1 = (m : Int) := by omega
          refine ⟨_, rfl, _, rfl, _, _, rfl, rfl, a, ?_, O6.1, fun v H7 N => ?_⟩
          · show [V.ref a, V.int (((m + 1 : Nat) : Int) - 1)] = _
            rw [em]
          · obtain ⟨H8, hp, O8⟩ := O6.put N k
            exact ⟨_, rfl, _, rfl, pf, H8, rfl, hp, ⟨_, _, rfl⟩, O8⟩
        · subst hσ
          exact ⟨_, rfl, q _ _ O4.done⟩
theorem ok_law_document (T : Tx K mg) : ∀ n, C8.Cal P w K mg base (n + 4) "_law_document" (sp_law_document n) [] := by
  have go : ∀ n (spr : Sp), (∀ m, n = m + 1 → spr = sp_law_document m) → C8.Cal P w K mg base (n + 3) "_law_document" spr [] → C8.Cal P w K mg base (n + 4) "_law_document" (sp_law_document n) [] := fun n spr hsp c_law_document => by
    have c_law_draw := ok_law_draw (P := P) (w := w) (base := base) T
    have c_law_choice := ok_law_choice (P := P) (w := w) (base := base) T
    have c_law_atom := ok_law_atom (P := P) (w := w) (base := base) T
    have sc : FnScope ["_law_source_here", "_law_deep", "_law_way", "_law_result", "_law_attempt", "_law_key"] ["_law_source_here", "_law_deep"] (C8.fnScope s_law_document) := C8.fnScope_by (by decide +kernel)
    refine T.cal 63 (st := s_law_document) rfl (by decide +kernel) sc (fun _ _ _ _ _ _ us hl => match us, hl with | [_, _], _ => rfl) (fun vs H Q E ⟨_, h, _⟩ => by rw [h]; rfl) (fun cdv A outer s H vs Q E f hr h => ⟨t_law_document K spr, ?_, pu_law_document hsp h⟩)
    have hu := hu_of hr
    exact (pss_cons (ps_set (i := 2) sc.nd rfl (Or.inl rfl) (C8.pe_c c_law_draw hr (by omega) rfl (pa_cons (pv 0) (pa_cons pe_int pa_nil))))
    (pss_cons (ps_if (pt_cmpR op_eq (pv 2) pe_int (nomark _)) (pss_one (ps_ret pe_non)) pss_nil)
    (pss_cons (ps_if (PW.pt (pw_or (pt_cmpR op_eq (pv 2) pe_int (nomark _)) (pw_or1 (pt_cmpR op_eq (pv 1) pe_int (nomark _))))) (pss_one (ps_ret (C8.pe_c c_law_atom hr (by omega) rfl (pa_cons (pv 0) pa_nil)))) pss_nil)
    (pss_cons (ps_set (i := 3) sc.nd rfl (Or.inl rfl) pe_dnewK)
    (pss_cons (ps_for PassesOwn.never rfl (pi_range1 rfl T.f_range (pa_cons (C8.pe_c c_law_draw hr (by omega) rfl (pa_cons (pv 0) (pa_cons pe_int pa_nil))) pa_nil)) (pg_name (i := 4) sc.nd rfl (Or.inl rfl))
      (pss_cons (ps_set (i := 5) sc.nd rfl (Or.inl rfl) (C8.pe_c c_law_choice hr (by omega) rfl (pa_cons (pv 0) (pa_cons (pe_lst (pa_cons pe_str (pa_cons pe_str (pa_cons pe_str (pa_cons pe_str (pa_cons pe_str (pa_cons pe_str pa_nil))))))) pa_nil))))
    (pss_one (ps_dput hu (pv 3) (pv 5) (C8.pe_c c_law_document hr (by omega) rfl (pa_cons (pv 0) (pa_cons (pe_op op_sub (pv 1) pe_int) pa_nil))) rfl))))
    (pss_one (ps_ret (pv 3))))))))
  intro n
  induction n with
  | zero => exact go 0 spNo (fun m h => by cases h) (T.calF 63 (st := s_law_document) (ps := ["_law_source_here", "_law_deep"]) rfl (by decide +kernel) (fun _ _ _ _ _ _ us hl => match us, hl with | [_, _], _ => rfl) fun _ _ _ _ h => h)
  | succ n ih => exact go (n + 1) (sp_law_document n) (fun m h => by cases h; rfl) ih
/-! ### patch(source, deep) -/
def sp_law_patch (n : Nat) : Sp := fun vs H Q _ => ∃ a, vs = [.ref a, .int (n : Int)] ∧ SrcAt H a ∧ ∀ v H', PatNew a H H' n v → Q v H'
def t_law_patch (K : PySem.W.Frag) (spr : Sp) : TS :=
  (tSeq (tAsg (tCall sp_law_draw [] C8.E0 (tCons (tVar 0) (tCons (tC (.int 7)) tNil))) (gName 2))
    (tSeq (tIfS (tTest (tOp rEq (tVar 2) (tC (.int 0)))) (tRet (tC .non)) tNext)
    (tSeq (tIfS (tOr (tTest (tOp rEq (tVar 2) (tC (.int 1)))) (tTest (tOp rEq (tVar 1) (tC (.int 0))))) (tRet (tCall sp_law_atom [] C8.E0 (tCons (tVar 0) tNil))) tNext)
    (tSeq (tAsg tDNewK (gName 3))
    (tSeq (tFor (iRng1 (tCons (tCall sp_law_draw [] C8.E0 (tCons (tVar 0) (tCons (tC (.int 3)) tNil))) tNil)) (gName 4)
      (tSeq (tAsg (tCall sp_law_choice [] C8.E0 (tCons (tVar 0) (tCons (tLst (tCons (tC (.str "a")) (tCons (tC (.str "b")) (tCons (tC (.str "c")) tNil)))) tNil))) (gName 5))
    (sDPut (tVar 3) (tVar 5) (tCall spr [] C8.E0 (tCons (tVar 0) (tCons (tOp (rI0 fun i j => .int (i - j)) (tVar 1) (tC (.int 1))) tNil))))))
    (tRet (tVar 3)))))))
theorem pu_law_patch {n : Nat} {spr : Sp} (hsp : ∀ m, n = m + 1 → spr = sp_law_patch m) (h : sp_law_patch n vs H Q E) : t_law_patch K spr { nx := fun _ H' => Q .non H', rt := Q } (L2.start ["_law_source_here", "_law_deep", "_law_way", "_law_result", "_law_attempt", "_law_key"] vs) H := by
  obtain ⟨a, rfl, ha, q⟩ := h
  refine sSeq (sAsg ⟨_, rfl, a, 7, rfl, ha, by decide, by decide, fun way x y z hw => ?_⟩)
  have h1 : SrcAt (upd H a (.lst [.int x, .int y, .int z])) a := SrcAt.upd
  have e1 : hid a (upd H a (.lst [.int x, .int y, .int z])) = hid a H := hid_upd
  generalize upd H a (.lst [.int x, .int y, .int z]) = H1 at *
  have s1 : Same (hid a H) (hid a H1) := by rw [e1]; exact Same.refl _
  refine sSeq (sIf (xTest (xOp ⟨_, rfl, rfl, _, rfl, ?_⟩)))
  by_cases w0 : way = 0
  · subst w0
    refine ifT (by simp) (sRet (q _ _ ⟨.atom non, ⟨Nat.zero_le _, cp_pos n⟩, ⟨s1, rfl⟩, h1⟩))
  · refine ifF (by simp [w0]) (sNext (sSeq (sIf (xOr (xTest (xOp ⟨_, rfl, rfl, _, rfl, ?_⟩)))))) 
    have atom : (tRet (tCall sp_law_atom [] C8.E0 (tCons (tVar 0) tNil))) ⟨fun _ H' => Q .non H', Q, fun _ _ => False, fun _ _ => False⟩ [some (.ref a), some (.int n), some (.int way), none, none, none] H1 :=
      sRet ⟨_, rfl, a, rfl, h1, fun v H' N => q v H' ((N.pat n).wk s1)⟩
    by_cases w1 : way = 1
    · subst w1
      exact ifT (by simp) (ifT rfl atom)
    · refine ifF (by simp; omega) (xTest (xOp ⟨_, rfl, rfl, _, rfl, ?_⟩))
      cases n with
      | zero => exact ifT (by simp) atom
      | succ m =>
        refine ifF (by simp; omega) (sNext (sSeq (sAsg fun pf hpf => ?_)))
        have O := ObP.start (m := m) s1 h1 hpf
        refine sSeq (sFor ⟨_, rfl, a, 3, rfl, O.1, by decide, by decide, fun j x y z hj => ?_⟩)
        have O1 : ObP a H m pf 0 (upd (upd H1 pf (.dK [])) a (.lst [.int x, .int y, .int z])) := O.call (by rw [hid_upd]; exact Same.refl _) SrcAt.upd
        refine ⟨(j : Int), rfl, by omega, by omega, ?_⟩
        refine for_it (D := ⟨_, _, fun _ _ => False, fun _ _ => False⟩) (walk_range (lo := 0) (n := (j : Int).toNat)) (fun i σ H4 => (∃ c1 c2, σ = [some (.ref a), some (.int ((m + 1 : Nat) : Int)), some (.int way), some (.ref pf), c1, c2]) ∧ ObP a H m pf i H4)
          ⟨⟨_, _, rfl⟩, O1⟩ (fun _ _ _ _ _ => True.intro) (fun i x σ H4 H5 hi ⟨⟨c1, c2, hσ⟩, O4⟩ y => ?_) (fun σ H4 ⟨⟨c1, c2, hσ⟩, O4⟩ => ?_)
        · subst hσ
          obtain ⟨rfl, hx⟩ := y
          refine sSeq (sAsg (aCons (xVar rfl (aCons (xLst (aCons (xC (aCons (xC (aCons (xC (aNil ⟨szO (show 3 ≤ 100000 by decide), fun l hl => ?_⟩))))))))))))
          have nl := O4.1.ne hl
          have O5 : ObP a H m pf i (upd H5 l (.lst [.str "a", .str "b", .str "c"])) := O4.call (rest_mono (same_new hl _)) (O4.1.same (same_new hl _))
          refine aNil ⟨a, l, _, rfl, O5.1, upd_same, nl, (fun z => nomatch z), (show 3 < 1000000 by decide), fun i0 v x y z hv => ?_⟩
          have O6 : ObP a H m pf i (upd (upd H5 l (.lst [.str "a", .str "b", .str "c"])) a (.lst [.int x, .int y, .int z])) := O5.call (by rw [hid_upd]; exact Same.refl _) SrcAt.upd
          obtain ⟨k, rfl⟩ : ∃ k, v = .str (kS k) := by
            have := mem_nth hv
            simp only [List.mem_cons, List.not_mem_nil, or_false] at this
            rcases this with h | h | h
            · exact ⟨.a, h⟩
            · exact ⟨.b, h⟩
            · exact ⟨.c, h⟩
          have hs := hsp m rfl
          subst hs
          have em : ((m + 1 : Nat) : Int) - 1 = (m : Int) := by omega
          refine ⟨_, rfl, _, rfl, _, _, rfl, rfl, a, ?_, O6.1, fun v H7 N => ?_⟩
          · show [V.ref a, V.int (((m + 1 : Nat) : Int) - 1)] = _
            rw [em]
          · obtain ⟨H8, hp, O8⟩ := O6.put N k
            exact ⟨_, rfl, _, rfl, pf, H8, rfl, hp, ⟨_, _, rfl⟩, O8⟩
        · subst hσ
          exact ⟨_, rfl, q _ _ (O4.done (by omega))⟩
theorem ok_law_patch (T : Tx K mg) : ∀ n, C8.Cal P w K mg base (n + 4) "_law_patch" (sp_law_patch n) [] := by
  have go : ∀ n (spr : Sp), (∀ m, n = m + 1 → spr = sp_law_patch m) → C8.Cal P w K mg base (n + 3) "_law_patch" spr [] → C8.Cal P w K mg base (n + 4) "_law_patch" (sp_law_patch n) [] := fun n spr hsp c_law_patch => by
    have c_law_draw := ok_law_draw (P := P) (w := w) (base := base) T
    have c_law_choice := ok_law_choice (P := P) (w := w) (base := base) T
    have c_law_atom := ok_law_atom (P := P) (w := w) (base := base) T
    have sc : FnScope ["_law_source_here", "_law_deep", "_law_way", "_law_result", "_law_attempt", "_law_key"] ["_law_source_here", "_law_deep"] (C8.fnScope s_law_patch) := C8.fnScope_by (by decide +kernel)
    refine T.cal 64 (st := s_law_patch) rfl (by decide +kernel) sc (fun _ _ _ _ _ _ us hl => match us, hl with | [_, _], _ => rfl) (fun vs H Q E ⟨_, h, _⟩ => by rw [h]; rfl) (fun cdv A outer s H vs Q E f hr h => ⟨t_law_patch K spr, ?_, pu_law_patch hsp h⟩)
    have hu := hu_of hr
    exact (pss_cons (ps_set (i := 2) sc.nd rfl (Or.inl rfl) (C8.pe_c c_law_draw hr (by omega) rfl (pa_cons (pv 0) (pa_cons pe_int pa_nil))))
    (pss_cons (ps_if (pt_cmpR op_eq (pv 2) pe_int (nomark _)) (pss_one (ps_ret pe_non)) pss_nil)
    (pss_cons (ps_if (PW.pt (pw_or (pt_cmpR op_eq (pv 2) pe_int (nomark _)) (pw_or1 (pt_cmpR op_eq (pv 1) pe_int (nomark _))))) (pss_one (ps_ret (C8.pe_c c_law_atom hr (by omega) rfl (pa_cons (pv 0) pa_nil)))) pss_nil)
    (pss_cons (ps_set (i := 3) sc.nd rfl (Or.inl rfl) pe_dnewK)
    (pss_cons (ps_for PassesOwn.never rfl (pi_range1 rfl T.f_range (pa_cons (C8.pe_c c_law_draw hr (by omega) rfl (pa_cons (pv 0) (pa_cons pe_int pa_nil))) pa_nil)) (pg_name (i := 4) sc.nd rfl (Or.inl rfl))
      (pss_cons (ps_set (i := 5) sc.nd rfl (Or.inl rfl) (C8.pe_c c_law_choice hr (by omega) rfl (pa_cons (pv 0) (pa_cons (pe_lst (pa_cons pe_str (pa_cons pe_str (pa_cons pe_str pa_nil)))) pa_nil))))
    (pss_one (ps_dput hu (pv 3) (pv 5) (C8.pe_c c_law_patch hr (by omega) rfl (pa_cons (pv 0) (pa_cons (pe_op op_sub (pv 1) pe_int) pa_nil))) rfl))))
    (pss_one (ps_ret (pv 3))))))))
  intro n
  induction n with
  | zero => exact go 0 spNo (fun m h => by cases h) (T.calF 64 (st := s_law_patch) (ps := ["_law_source_here", "_law_deep"]) rfl (by decide +kernel) (fun _ _ _ _ _ _ us hl => match us, hl with | [_, _], _ => rfl) fun _ _ _ _ h => h)
  | succ n ih => exact go (n + 1) (sp_law_patch n) (fun m h => by cases h; rfl) ih
end
end Tp
end
section
set_option maxRecDepth 100000
set_option maxHeartbeats 4000000
namespace Tp
open PySem PySem.Spec PyProof.Rows L2
section
variable {P : Program} {w : World} {K : PySem.W.Frag} {mg : Str → Option Value} {base : Heap} {vs : List V} {H : Hp} {Q : VK} {E : XK}
/-! ### parts(value) -/
def sp_law_parts (n : Nat) : Sp := fun vs H Q _ => ∃ v d, vs = [v] ∧ DocAt H d v ∧ d.dep < n ∧ ∀ H', Same H H' → Q (.int d.par) H'
def t_law_parts (K : PySem.W.Frag) (n : Nat) : TS :=
  (tSeq (tIfS (tNot (tB (tCB (rIsi K) (tCons (tVar 0) (tCons (tC (.ty "dict")) tNil))))) (tRet (tC (.int 1))) tNext)
    (tRet (tOp (rI0 fun i j => .int (i + j)) (tC (.int 1)) (tCB (rSum K) (tCons (tLk (tLc (iKeys (tVar 0)) (gName 1) tYes (tCall (sp_law_parts n) [] C8.E0 (tCons (tDGet (tVar 0) (tVar 1)) tNil)) [1])) tNil)))))
theorem pu_law_parts {n : Nat} (h : sp_law_parts (n + 1) vs H Q E) : t_law_parts K n { nx := fun _ H' => Q .non H', rt := Q } (L2.start ["_law_value", "_law_key"] vs) H := by
  obtain ⟨v, d, rfl, hd, hn, q⟩ := h
  refine sSeq (sIf (xNot (xDict rfl hd ?_)))
  cases d with
  | abs => exact (show False from hd).elim
  | atom x => exact ifT rfl (q _ (Same.refl H))
  | obj f =>
    refine ifF rfl (sNext ?_)
    obtain ⟨a, kvs, rfl, r, ok, m⟩ := DocAt.obj_iff.mp hd
    refine ⟨a, kvs, r, fun Hl od un hl lk => ?_⟩
    have m' := fun k => (m k).mono lk.le
    refine ⟨_, rfl, a, od, rfl, .inl ⟨kvs, hl, fun p hp => ?_⟩⟩
    refine lc_acc walk_keys hp (fun i _ acc => acc = (kvs.take i).map fun kv => .int (look f kv.1).par) (fun H5 s => s _ _ hl) (fun _ => rfl) (fun i x H2 H3 acc hi B hac he y => ?_) (fun H2 acc B _ he => ?_)
    · obtain ⟨rfl, k, u, hk, rfl⟩ := y
      obtain ⟨j, rfl, hj⟩ := ok.vnth hk
      refine ⟨rfl, _, rfl, _, rfl, a, u, rfl, dgetU (.inr ⟨od, B.same _ _ hl⟩) hj, u, f j, rfl, (doc_cases m' hj).mono (Le.of B.same), D.lt_kid hn j, fun H' s => ?_⟩
      refine accPush B hac (by have := ok.len; omega) s ?_
      rw [take_more hk, List.map_append, he]
      show _ = _ ++ [V.int (look f (kK j)).par]
      rw [look_at]
    · rw [List.take_length] at he
      subst he
      refine ⟨B.same _ _ hl, p, kvs.map fun kv => ((look f kv.1).par : Int), rfl, SqL.of (by rw [lk.new hp, B.at_, List.map_map] <;> rfl), 1, _, rfl, rfl, ?_⟩
      have e : (1 + (kvs.map fun kv => ((look f kv.1).par : Int)).sum) = ((D.obj f).par : Nat) := by
        rw [sum_keys ok f (fun d => (d.par : Int)) fun k hk => ?_]
        · show _ = ((1 + sm4 fun k => (f k).par : Nat) : Int)
          unfold sm4
          dsimp only
          omega
        · have mk := m k
          rw [hk] at mk
          rw [show f k = .abs from mk] <;> rfl
      show Q (.int (1 + (kvs.map fun kv => ((look f kv.1).par : Int)).sum)) _
      rw [e]
      exact q _ (lk.same B.same)
theorem ok_law_parts (T : Tx K mg) : ∀ n, C8.Cal P w K mg base n "_law_parts" (sp_law_parts n) []
  | 0 => T.calF 65 (st := s_law_parts) (ps := ["_law_value"]) rfl (by decide +kernel) (fun _ _ _ _ _ _ us hl => match us, hl with | [_], _ => rfl) fun vs H Q E ⟨_, _, _, _, h, _⟩ => absurd h (Nat.not_lt_zero _)
  | n + 1 => by
    have c_law_parts := ok_law_parts T n
    have sc : FnScope ["_law_value", "_law_key"] ["_law_value"] (C8.fnScope s_law_parts) := C8.fnScope_by (by decide +kernel)
    refine T.cal 65 (st := s_law_parts) rfl (by decide +kernel) sc (fun _ _ _ _ _ _ us hl => match us, hl with | [_], _ => rfl) (fun vs H Q E ⟨_, _, h, _⟩ => by rw [h]; rfl) (fun cdv A outer s H vs Q E f hr h => ⟨t_law_parts K n, ?_, pu_law_parts h⟩)
    have hu := hu_of hr
    exact (pss_cons (ps_if (pt_not (pt_val (pe_callB call_isi rfl T.f_isinstance bt_isinstance (pa_cons (pv 0) (pa_cons (pe_bltn (v := .ty "dict") rfl T.f_dict bt_dict rfl) pa_nil))))) (pss_one (ps_ret pe_int)) pss_nil)
    (pss_one (ps_ret (pe_op op_add pe_int (pe_callB (cr_sum rfl) rfl T.f_sum bt_sum (pa_cons (pe_lk (pe_lc (own := [("_law_key", 1)]) (g := (gName 1)) (tt := tYes) (te := (tCall (sp_law_parts n) [] C8.E0 (tCons (tDGet (tVar 0) (tVar 1)) tNil))) rfl sc.nd (pi_keys (pv 0)) (blkOk_by (N := ["_law_value", "_law_key"]) (sc := C8.fnScope s_law_parts) (by decide +kernel)) (fun _ _ _ _ _ => (pg_name (i := 1) sc.nd rfl (Or.inl rfl))) (fun _ _ _ _ _ => pts_nil) (fun _ _ _ _ _ => (C8.pe_c c_law_parts hr (by omega) rfl (pa_cons (pe_dget hu (pv 0) (pv 1) (fun _ _ => rfl)) pa_nil))))) pa_nil))))))
/-! ### same_again(value) -/
def sp_law_same_again (n : Nat) : Sp := fun vs H Q _ => ∃ v d, vs = [v] ∧ DocAt H d v ∧ d.dep < n ∧ ∀ v' H', Fresh H H' d v' → Q v' H'
def t_law_same_again (K : PySem.W.Frag) (n : Nat) : TS :=
  (tSeq (tIfS (tB (tCB (rIsi K) (tCons (tVar 0) (tCons (tC (.ty "dict")) tNil)))) (tRet (tCB (rDictP K) (tCons (tLk (tLc (iKeys (tVar 0)) (gName 1) tYes (tTup (tCons (tVar 1) (tCons (tCall (sp_law_same_again n) [] C8.E0 (tCons (tDGet (tVar 0) (tVar 1)) tNil)) tNil))) [1])) tNil))) tNext)
    (tRet (tIf (tB (tCB (rIsi K) (tCons (tVar 0) (tCons (tC (.ty "list")) tNil)))) (tCB (rListOf K) (tCons (tVar 0) tNil)) (tVar 0))))
/-- the pairs that are made so far -/
def PvS (f : Ky → D) (kvs : List (L2.Key × V)) (i : Nat) (N : Hp) (acc : List V) : Prop := ∃ (ps : List Addr) (kvs2 : List (L2.Key × V)), acc = ps.map V.ref ∧ Paired (fun (p : Addr) (kv : L2.Key × V) => N p = some (.tup [kV kv.1, kv.2])) ps kvs2 ∧ kvs2.map (·.1) = (kvs.take i).map (·.1) ∧ ∀ kv ∈ kvs2, ∀ k, kv.1 = kK k → DocAt N (f k) kv.2
theorem PvS.mono {f : Ky → D} {kvs : List (L2.Key × V)} {i : Nat} {N N' : Hp} {acc : List V} (s : Same N N') (h : PvS f kvs i N acc) : PvS f kvs i N' acc := by
  obtain ⟨ps, kvs2, e, h1, h2, h3⟩ := h
  exact ⟨ps, kvs2, e, Paired.mapP h1 fun _ _ q => s _ _ q, h2, fun kv hm k e => (h3 kv hm k e).mono (Le.of s)⟩
theorem nw_late {H H2 : Hp} {p : Addr} {x : HO} (h : H2 p = none) : Same (nw H H2) (nw (upd H p x) H2) := fun b o q => by
  obtain ⟨q1, q2⟩ := nw_some q
  have ne : b ≠ p := fun e => by rw [e, h] at q2; cases q2
  rw [nw_at (by rw [upd_ne ne]; exact q1)]
  exact q2
theorem pu_law_same_again {n : Nat} (h : sp_law_same_again (n + 1) vs H Q E) : t_law_same_again K n { nx := fun _ H' => Q .non H', rt := Q } (L2.start ["_law_value", "_law_key"] vs) H := by
  obtain ⟨v, d, rfl, hd, hn, q⟩ := h
  refine sSeq (sIf (xDict rfl hd ?_))
  cases d with
  | abs => exact (show False from hd).elim
  | atom x =>
    refine ifF rfl (sNext (sRet (xIf (xList rfl hd ?_))))
    cases x with
    | pl y =>
      refine ifF rfl ⟨_, rfl, ?_⟩
      have e : v = y.v := hd
      subst e
      exact q _ _ Fresh.pl
    | lst ys =>
      obtain ⟨a, rfl, r, z⟩ := hd
      exact ifT rfl ⟨_, rfl, a, _, rfl, .inl (SqL.rd r), fun l hl => q _ _ (Fresh.lst hl z)⟩
  | obj f =>
    obtain ⟨a, kvs, rfl, r, ok, m⟩ := DocAt.obj_iff.mp hd
    refine ifT rfl (sRet (xCB (aCons ?_)))
    refine ⟨a, kvs, r, fun Hl od un hl lk => ?_⟩
    have m' := fun k => (m k).mono lk.le
    refine ⟨_, rfl, a, od, rfl, .inl ⟨kvs, hl, fun l hln => ?_⟩⟩
    refine lc_acc walk_keys hln (PvS f kvs) (fun H5 s => s _ _ hl) (fun _ => ⟨[], [], rfl, .nil, by simp, fun _ h => nomatch h⟩) (fun i x H2 H3 acc hi B hac hq y => ?_) (fun H2 acc B _ hq => ?_)
    · obtain ⟨rfl, k, u, hk, rfl⟩ := y
      obtain ⟨j, rfl, hj⟩ := ok.vnth hk
      refine ⟨rfl, _, rfl, _, rfl, _, rfl, a, u, rfl, dgetU (.inr ⟨od, B.same _ _ hl⟩) hj, u, f j, rfl, (doc_cases m' hj).mono (Le.of B.same), D.lt_kid hn j, fun v' H' F => ⟨twoS, fun t ht => ?_⟩⟩
      have s1 := same_new ht (.tup [.str (kS j), v'])
      refine accPush B hac (by have := ok.len; omega) (F.same.trans s1) ?_
      have sN : Same (nw (upd Hl l (.lst [])) H3) (nw (upd Hl l (.lst [])) (upd H' t (.tup [.str (kS j), v']))) := nw_mono (fun _ h => h) (F.same.trans s1)
      obtain ⟨ps, kvs2, e, h1, h2, h3⟩ := hq.mono sN
      have htn : upd Hl l (.lst []) t = none := B.none_of (F.same.free ht)
      refine ⟨ps ++ [t], kvs2 ++ [(kK j, v')], by rw [e, List.map_append] <;> rfl, pairedSnoc h1 ?_, ?_, fun kv hm k ek => ?_⟩
      · show nw _ _ t = _
        rw [nw_at htn, upd_same] <;> rfl
      · rw [take_more hk, List.map_append, List.map_append, h2] <;> rfl
      · rcases List.mem_append.mp hm with hm | hm
        · exact h3 kv hm k ek
        · rw [List.mem_singleton.mp hm] at ek ⊢
          have ek : kK j = kK k := ek
          rw [← kK_inj ek]
          exact (F.doc.mono (Le.of (nw_mono (fun _ q => B.none_of q) s1)))
    · obtain ⟨ps, kvs2, rfl, h1, h2, h3⟩ := hq
      rw [List.take_length] at h2
      have ok2 : tabOk kvs2 := by
        refine ⟨by rw [h2]; exact ok.1, fun p hp => ?_⟩
        have : p.1 ∈ kvs.map (·.1) := by rw [← h2]; exact List.mem_map_of_mem hp
        obtain ⟨p', h4, h5⟩ := List.mem_map.mp this
        obtain ⟨k, e⟩ := ok.2 p' h4
        exact ⟨k, h5.symm.trans e⟩
      have sH := lk.same B.same
      have sN : Same (nw (upd Hl l (.lst [])) H2) (nw H (un H2)) := fun b o h => by
        obtain ⟨h4, h5⟩ := nw_some h
        have ne : b ≠ l := fun e => by rw [e, upd_same] at h4; cases h4
        rw [upd_ne ne] at h4
        rw [lk.nw, nw_at h4]
        exact h5
      have sU : Same (nw (upd Hl l (.lst [])) H2) (un H2) := sN.trans (same_nw _ _)
      refine ⟨B.same _ _ hl, l, ps, kvs2, rfl, SqL.of (by rw [lk.new hln, B.at_]), Paired.mapP h1 fun _ _ e => SqT.of (sU _ _ e), fun p hp => ?_⟩
      rw [ok2.merge]
      have hpH : H p = none := sH.free hp
      refine q _ _ (Fresh.obj ⟨fun b o hb e => by rw [upd_ne hb]; exact sH _ _ e, hpH, upd_same, ok2, fun k => ?_⟩)
      rw [nw_upd]
      have sL : Same (nw (upd Hl l (.lst [])) H2) (nw (upd H p (.dK [])) (un H2)) := sN.trans (nw_late hp)
      cases e : valV kvs2 (kK k) with
      | some u =>
        obtain ⟨kv, h4, h5, h6⟩ : ∃ kv ∈ kvs2, kv.1 = kK k ∧ kv.2 = u := by
          clear h1 h2 h3 ok2
          induction kvs2 with
          | nil => cases e
          | cons x r ih =>
            by_cases c : x.1 = kK k
            · rw [valV_pos c] at e
              exact ⟨x, List.mem_cons_self, c, Option.some.inj e⟩
            · rw [valV_neg c] at e
              obtain ⟨kv, h4, h5⟩ := ih e
              exact ⟨kv, List.mem_cons_of_mem _ h4, h5⟩
        have := (h3 kv h4 k h5).mono (Le.of sL)
        rw [h6] at this
        exact this
      | none =>
        have hn2 : ¬ (valV kvs (kK k)).isSome = true := by
          rw [valV_iff, ← h2, ← valV_iff, e]
          exact Bool.false_ne_true
        have mk := m k
        cases e2 : valV kvs (kK k) with
        | none => rw [e2] at mk; exact mk
        | some u => rw [e2] at hn2; exact absurd rfl hn2
theorem ok_law_same_again (T : Tx K mg) : ∀ n, C8.Cal P w K mg base n "_law_same_again" (sp_law_same_again n) []
  | 0 => T.calF 67 (st := s_law_same_again) (ps := ["_law_value"]) rfl (by decide +kernel) (fun _ _ _ _ _ _ us hl => match us, hl with | [_], _ => rfl) fun vs H Q E ⟨_, _, _, _, h, _⟩ => absurd h (Nat.not_lt_zero _)
  | n + 1 => by
    have c_law_same_again := ok_law_same_again T n
    have sc : FnScope ["_law_value", "_law_key"] ["_law_value"] (C8.fnScope s_law_same_again) := C8.fnScope_by (by decide +kernel)
    refine T.cal 67 (st := s_law_same_again) rfl (by decide +kernel) sc (fun _ _ _ _ _ _ us hl => match us, hl with | [_], _ => rfl) (fun vs H Q E ⟨_, _, h, _⟩ => by rw [h]; rfl) (fun cdv A outer s H vs Q E f hr h => ⟨t_law_same_again K n, ?_, pu_law_same_again h⟩)
    have hu := hu_of hr
    exact (pss_cons (ps_if (pt_val (pe_callB call_isi rfl T.f_isinstance bt_isinstance (pa_cons (pv 0) (pa_cons (pe_bltn (v := .ty "dict") rfl T.f_dict bt_dict rfl) pa_nil)))) (pss_one (ps_ret (pe_callTy (call_dictP rfl) rfl T.f_dict bt_dict (pa_cons (pe_lk (pe_lc (own := [("_law_key", 1)]) (g := (gName 1)) (tt := tYes) (te := (tTup (tCons (tVar 1) (tCons (tCall (sp_law_same_again n) [] C8.E0 (tCons (tDGet (tVar 0) (tVar 1)) tNil)) tNil)))) rfl sc.nd (pi_keys (pv 0)) (blkOk_by (N := ["_law_value", "_law_key"]) (sc := C8.fnScope s_law_same_again) (by decide +kernel)) (fun _ _ _ _ _ => (pg_name (i := 1) sc.nd rfl (Or.inl rfl))) (fun _ _ _ _ _ => pts_nil) (fun _ _ _ _ _ => (pe_tup (pa_cons (pv 1) (pa_cons (C8.pe_c c_law_same_again hr (by omega) rfl (pa_cons (pe_dget hu (pv 0) (pv 1) (fun _ _ => rfl)) pa_nil)) pa_nil)))))) pa_nil)))) pss_nil)
    (pss_one (ps_ret (pe_ifExp (pt_val (pe_callB call_isi rfl T.f_isinstance bt_isinstance (pa_cons (pv 0) (pa_cons (pe_bltn (v := .ty "list") rfl T.f_list bt_list rfl) pa_nil)))) (pe_callTy call_list_of rfl T.f_list bt_list (pa_cons (pv 0) pa_nil)) (pv 0)))))
end
end Tp
end
section
set_option maxRecDepth 100000
set_option maxHeartbeats 4000000
namespace Tp
open PySem PySem.Spec PyProof.Rows L2
section
variable {P : Program} {w : World} {K : PySem.W.Frag} {mg : Str → Option Value} {base : Heap} {vs : List V} {H : Hp} {Q : VK} {E : XK}
/-! ### after(value, patch) -/
def sp_law_after (n : Nat) : Sp := fun vs H Q _ => ∃ v u d p, vs = [v, u] ∧ DocAt H d v ∧ DocAt H p u ∧ d.dep ≤ 3 ∧ p.dep < n ∧ ∀ v' H', Fresh H H' (Tp.mg d p) v' → Q v' H'
def t_law_after (K : PySem.W.Frag) (n : Nat) : TS :=
  (tSeq (tIfS (tNot (tB (tCB (rIsi K) (tCons (tVar 1) (tCons (tC (.ty "dict")) tNil))))) (tRet (tCall (sp_law_same_again 4) [] C8.E0 (tCons (tVar 1) tNil))) tNext)
    (tSeq (tAsg (tIf (tB (tCB (rIsi K) (tCons (tVar 0) (tCons (tC (.ty "dict")) tNil)))) (tCall (sp_law_same_again 4) [] C8.E0 (tCons (tVar 0) tNil)) tDNewK) (gName 2))
    (tSeq (tLkS (tFor (iKeys (tVar 1)) (gName 3)
      (tIfS (tB (tIsN (tDGet (tVar 1) (tVar 3)))) (tDrop (tDPop2 (tVar 2) (tVar 3) (tC .non))) (sDPut (tVar 2) (tVar 3) (tCall (sp_law_after n) [] C8.E0 (tCons (tDGet1 (tVar 2) (tVar 3)) (tCons (tDGet (tVar 1) (tVar 3)) tNil)))))))
    (tRet (tVar 2)))))
theorem pu_law_after {n : Nat} (h : sp_law_after (n + 1) vs H Q E) : t_law_after K n { nx := fun _ H' => Q .non H', rt := Q } (L2.start ["_law_value", "_law_patch_here", "_law_result", "_law_key"] vs) H := by
  obtain ⟨v, u, d, p, rfl, hd, hp, hdd, hn, q⟩ := h
  refine sSeq (sIf (xNot (xDict rfl hp ?_)))
  have simple : p.isObj = false → Tp.mg d p = p := fun e => by
    cases p with
    | obj f => cases e
    | _ => rfl
  cases hob : p.isObj with
  | false =>
    refine ifT rfl (sRet ⟨_, rfl, u, p, rfl, hp, ?_, fun v' H' F => ?_⟩)
    · cases p with
      | obj f => cases hob
      | _ => exact Nat.succ_pos _
    · rw [simple hob] at q
      exact q _ _ F
  | true =>
    refine ifF rfl (sNext ?_)
    cases p with
    | abs => cases hob
    | atom x => cases hob
    | obj f =>
    obtain ⟨a, kvs, rfl, r, ok, m⟩ := DocAt.obj_iff.mp hp
    have key : ∀ (p : Addr) (H1 : Hp) (kvs0 : List (L2.Key × V)), Bld H p H1 kvs0 d.kid → ((tSeq (tLkS (tFor (iKeys (tVar 1)) (gName 3)
      (tIfS (tB (tIsN (tDGet (tVar 1) (tVar 3)))) (tDrop (tDPop2 (tVar 2) (tVar 3) (tC .non))) (sDPut (tVar 2) (tVar 3) (tCall (sp_law_after n) [] C8.E0 (tCons (tDGet1 (tVar 2) (tVar 3)) (tCons (tDGet (tVar 1) (tVar 3)) tNil)))))))
    (tRet (tVar 2)))) ⟨fun _ H' => Q .non H', Q, fun _ _ => False, fun _ _ => False⟩ [some v, some (.ref a), some (.ref p), none] H1 := by
      intro p H1 kvs0 B0
      have hH : H a ≠ none := by
        rcases r with r | ⟨o, r⟩ <;> rw [r] <;> exact fun e => nomatch e
      refine sSeq (sLk ?_)
      refine ⟨a, kvs, (Le.of B0.same).d _ _ r, fun Hl od un hl lk => ?_⟩
      obtain ⟨Hm, leM, Bm, back⟩ := lk.mid B0 hH
      have m' := fun k => (m k).mono leM
      have hlm : Hm a = some (.frz od (.dK kvs)) := by
        cases e : Hm a with
        | none =>
          have := leM.d _ _ r
          rcases this with q | ⟨o, q⟩ <;> rw [e] at q <;> cases q
        | some o =>
          have := Bm.same _ _ e
          rw [hl] at this
          exact this.symm
      refine sFor ⟨_, rfl, a, od, rfl, .inl ⟨kvs, hl, ?_⟩⟩
      refine for_it (D := ⟨_, _, fun _ _ => False, fun _ _ => False⟩) walk_keys (fun i σ H2 => (∃ c, σ = [some v, some (.ref a), some (.ref p), c]) ∧ ∃ kvs2, Bld Hm p H2 kvs2 fun k => if upto (kvs.map (·.1)) i (kK k) = true then mgK d f k else d.kid k)
        ⟨⟨_, rfl⟩, kvs0, Bm.congr fun k => by rw [upto_zero] <;> rfl⟩ (fun i σ H2 _ ⟨_, _, B⟩ => B.same _ _ hlm) (fun i x σ H2 H3 hi ⟨⟨c, hσ⟩, kvs2, B⟩ y => ?_) (fun σ H2 ⟨⟨c, hσ⟩, kvs2, B⟩ => ?_)
      · subst hσ
        obtain ⟨rfl, k0, u, hk0, rfl⟩ := y
        obtain ⟨k, rfl, hv, hki⟩ := ok.nth hk0
        have hv : valV kvs (kK k) = some u := hv
        have hu : DocAt Hm (f k) u := doc_cases m' hv
        have hk : (f k).dep < n := D.lt_kid hn k
        have nu := upto_not ok.1 hki
        have fne := hu.ne
        have ra : Rd H3 a (.dK kvs) := .inr ⟨od, B.same _ _ hlm⟩
        refine sIf (xB ⟨_, rfl, _, rfl, a, u, rfl, dgetU ra hv, _, rfl, ?_⟩)
        rw [hu.is_non]
        cases hno : (f k).isNon with
        | true =>
          have ev : mgK d f k = .abs := by
            unfold mgK
            cases q : (f k).isAbs with
            | true => exact absurd (D.isAbs_iff.mp q) fne
            | false => rw [if_neg Bool.false_ne_true, hno, if_pos rfl]
          refine ifT rfl (sDrop ⟨_, rfl, p, rfl, .inl ⟨_, .inl B.at_⟩, _, rfl, kvs2, kK k, B.at_, rfl, fun v' hv' => ?_, fun hv' => ?_⟩)
          · exact ⟨⟨_, rfl⟩, _, (B.drop (k := k)).congr fun j => upto_step hki ev j⟩
          · refine ⟨⟨_, rfl⟩, _, B.congr fun j => ?_⟩
            rw [← upto_step hki ev j]
            by_cases q : j = k
            · subst q
              have := B.mem j
              rw [hv'] at this
              rw [if_pos rfl]
              exact this
            · rw [if_neg q]
        | false =>
          have ev : mgK d f k = Tp.mg (d.kid k) (f k) := by
            unfold mgK
            cases q : (f k).isAbs with
            | true => exact absurd (D.isAbs_iff.mp q) fne
            | false => rw [if_neg Bool.false_ne_true, hno, if_neg Bool.false_ne_true]
          have mk := B.mread k
          rw [if_neg (by rw [nu]; exact Bool.false_ne_true)] at mk
          refine ifF rfl ?_
          refine ⟨_, rfl, p, rfl, .inl ⟨_, .inl B.at_⟩, _, rfl, _, dgetK (.inl B.at_) k, _, rfl, _, rfl, a, u, rfl, dgetU ra hv, ?_⟩
          refine ⟨_, _, (d.kid k).orN, f k, rfl, mk.getN, hu.mono (Le.of B.same), D.orN_dep (kid_dep hdd k), hk, fun v' H' F => ?_⟩
          rw [mg_orN fne] at F
          have B2 := B.call F.same
          exact ⟨_, rfl, _, rfl, p, _, rfl, dputK B2.at_ B2.ok k _, ⟨_, rfl⟩, _, (B2.put (k := k) (B.into F.same F.doc)).congr fun j => upto_step hki ev j⟩
      · subst hσ
        refine ⟨B.same _ _ hlm, ?_⟩
        refine sRet ⟨_, rfl, q _ _ (Fresh.obj (back (B.congr fun k => ?_)))⟩
        rw [upto_all (by rw [List.length_map]; exact Nat.le_refl _), ← valV_mem]
        show _ = mgK d f k
        have := m k
        cases e : valV kvs (kK k) with
        | none =>
          rw [e] at this
          have fe : f k = .abs := this
          unfold mgK
          rw [fe] <;> rfl
        | some u => rfl
    refine sSeq (sAsg ?_)
    refine xIf (xDict rfl hd ?_)
    cases hdo : d.isObj with
    | true =>
      refine ifT rfl ⟨_, rfl, v, d, rfl, hd, by omega, fun v' H' F => ?_⟩
      cases d with
      | abs => cases hdo
      | atom x => cases hdo
      | obj g =>
        obtain ⟨_, p, kvs0, rfl, B⟩ := F
        exact key p H' kvs0 B
    | false =>
      refine ifF rfl fun p hp => ?_
      refine key p _ [] ((Bld.start hp).congr fun k => ?_)
      cases d with
      | obj g => cases hdo
      | _ => rfl
theorem ok_law_after (T : Tx K mg) : ∀ n, C8.Cal P w K mg base (n + 4) "_law_after" (sp_law_after n) []
  | 0 => T.calF 68 (st := s_law_after) (ps := ["_law_value", "_law_patch_here"]) rfl (by decide +kernel) (fun _ _ _ _ _ _ us hl => match us, hl with | [_, _], _ => rfl) fun vs H Q E ⟨_, _, _, _, _, _, _, _, h, _⟩ => absurd h (Nat.not_lt_zero _)
  | n + 1 => by
    have c_law_after := ok_law_after T n
    have c_law_same_again := ok_law_same_again (P := P) (w := w) (base := base) T 4
    have sc : FnScope ["_law_value", "_law_patch_here", "_law_result", "_law_key"] ["_law_value", "_law_patch_here"] (C8.fnScope s_law_after) := C8.fnScope_by (by decide +kernel)
    refine T.cal 68 (st := s_law_after) rfl (by decide +kernel) sc (fun _ _ _ _ _ _ us hl => match us, hl with | [_, _], _ => rfl) (fun vs H Q E ⟨_, _, _, _, h, _⟩ => by rw [h]; rfl) (fun cdv A outer s H vs Q E f hr h => ⟨t_law_after K n, ?_, pu_law_after h⟩)
    have hu := hu_of hr
    exact (pss_cons (ps_if (pt_not (pt_val (pe_callB call_isi rfl T.f_isinstance bt_isinstance (pa_cons (pv 1) (pa_cons (pe_bltn (v := .ty "dict") rfl T.f_dict bt_dict rfl) pa_nil))))) (pss_one (ps_ret (C8.pe_c c_law_same_again hr (by omega) rfl (pa_cons (pv 1) pa_nil)))) pss_nil)
    (pss_cons (ps_set (i := 2) sc.nd rfl (Or.inl rfl) (pe_ifExp (pt_val (pe_callB call_isi rfl T.f_isinstance bt_isinstance (pa_cons (pv 0) (pa_cons (pe_bltn (v := .ty "dict") rfl T.f_dict bt_dict rfl) pa_nil)))) (C8.pe_c c_law_same_again hr (by omega) rfl (pa_cons (pv 0) pa_nil)) pe_dnewK))
    (pss_cons (ps_lk (ps_for PassesOwn.never rfl (pi_keys (pv 1)) (pg_name (i := 3) sc.nd rfl (Or.inl rfl))
      (pss_one (ps_if (pt_cmp (pc_isN (pe_dget hu (pv 1) (pv 3) (fun _ _ => rfl)))) (pss_one (ps_expr (pe_dpop2 (pv 2) (pv 3) pe_non ⟨rfl, rfl, rfl, rfl⟩))) (pss_one (ps_dput hu (pv 2) (pv 3) (C8.pe_c c_law_after hr (by omega) rfl (pa_cons (pe_dget1 hu (pv 2) (pv 3) ⟨rfl, rfl, rfl, rfl⟩) (pa_cons (pe_dget hu (pv 1) (pv 3) (fun _ _ => rfl)) pa_nil))) rfl))))))
    (pss_one (ps_ret (pv 2))))))
/-! ### end(value, patches) -/
def t_law_end (K : PySem.W.Frag) : TS :=
  (tSeq (tAsg (tCall (sp_law_same_again 4) [] C8.E0 (tCons (tVar 0) tNil)) (gName 2))
    (tSeq (tFor (iList K (tVar 1)) (gName 3)
      (tAsg (tCall (sp_law_after 4) [] C8.E0 (tCons (tVar 2) (tCons (tVar 3) tNil))) (gName 2)))
    (tRet (tVar 2))))
theorem pu_law_end (h : sp_after_all vs H Q E) : t_law_end K { nx := fun _ H' => Q .non H', rt := Q } (L2.start ["_law_value", "_law_patches", "_law_result", "_law_patch_here"] vs) H := by
  obtain ⟨v, u, d, ds, rfl, hd, ⟨a, vs, rfl, r, hds⟩, hdd, hdep, q⟩ := h
  refine sSeq (sAsg ⟨_, rfl, v, d, rfl, hd, by omega, fun v1 H1 F1 => ?_⟩)
  have r1 := (Le.of F1.same).l _ _ r
  refine sSeq (sFor ⟨_, rfl, a, rfl, ⟨_, SqL.rd r1⟩, ?_⟩)
  refine for_same (SqL.rd r1) (fun i σ H4 => ∃ v2 c, σ = [some v, some (.ref a), some v2, c] ∧ Fresh H H4 (runD d (ds.take i)) v2) ⟨_, _, rfl, F1⟩ (fun i x σ H4 hx s4 h => ?_) (fun σ H4 s4 h => ?_)
  · obtain ⟨v2, c, rfl, F2⟩ := h
    obtain ⟨p, hp, hpx⟩ := hds.nth hx
    have hpd := hdep p (List.mem_of_getElem? hp)
    refine sAsg ⟨_, rfl, _, rfl, v2, x, _, p, rfl, F2.read, hpx.mono (Le.of F2.same), runD_dep _ _ (fun p hp => hdep p (List.mem_of_mem_take hp)) hdd, by omega, fun v3 H5 F3 => ?_⟩
    refine ⟨s4.trans F3.same, v3, _, rfl, ?_⟩
    rw [take_more hp, runD_snoc]
    exact F3.wk F2.same
  · obtain ⟨v2, c, rfl, F2⟩ := h
    rw [hds.len, List.take_length] at F2
    exact sRet ⟨_, rfl, q _ _ F2⟩
theorem ok_law_end (T : Tx K mg) : C8.Cal P w K mg base 9 "_law_end" sp_after_all [] := by
  have c_law_after := ok_law_after (P := P) (w := w) (base := base) T 4
  have c_law_same_again := ok_law_same_again (P := P) (w := w) (base := base) T 4
  have sc : FnScope ["_law_value", "_law_patches", "_law_result", "_law_patch_here"] ["_law_value", "_law_patches"] (C8.fnScope s_law_end) := C8.fnScope_by (by decide +kernel)
  refine T.cal 69 (st := s_law_end) rfl (by decide +kernel) sc (fun _ _ _ _ _ _ us hl => match us, hl with | [_, _], _ => rfl) (fun vs H Q E ⟨_, _, _, _, h, _⟩ => by rw [h]; rfl) (fun cdv A outer s H vs Q E f hr h => ⟨t_law_end K, ?_, pu_law_end h⟩)
  have hu := hu_of hr
  exact (pss_cons (ps_set (i := 2) sc.nd rfl (Or.inl rfl) (C8.pe_c c_law_same_again hr (by omega) rfl (pa_cons (pv 0) pa_nil)))
    (pss_cons (ps_for PassesOwn.never rfl (pi_list (pv 1)) (pg_name (i := 3) sc.nd rfl (Or.inl rfl))
      (pss_one (ps_set (i := 2) sc.nd rfl (Or.inl rfl) (C8.pe_c c_law_after hr (by omega) rfl (pa_cons (pv 2) (pa_cons (pv 3) pa_nil))))))
    (pss_one (ps_ret (pv 2)))))
end
end Tp
end
section
set_option maxRecDepth 100000
set_option maxHeartbeats 4000000
namespace Tp
open PySem PySem.Spec PyProof.Rows L2
/-- a patch of a row -/
def Pd (d : D) : Prop := d.dep ≤ 2 ∧ d.par ≤ 7
/-- a row that is being made beside the source -/
def RowB (a : Addr) (H0 : Hp) (p : Addr) (H : Hp) (ds : List D) (us : List V) : Prop := SrcAt H a ∧ p ≠ a ∧ Acc (hid a H0) p (hid a H) us ∧ DocsAt (nw (upd (hid a H0) p (.lst [])) (hid a H)) ds us ∧ (∀ d ∈ ds, Pd d) ∧ rowPar ds ≤ 150
theorem RowB.call {a p : Addr} {H0 H H' : Hp} {ds : List D} {us : List V} (o : RowB a H0 p H ds us) (s : Same (hid a H) (hid a H')) (h : SrcAt H' a) : RowB a H0 p H' ds us :=
  let ⟨_, n, A, d, e, f⟩ := o; ⟨h, n, A.call s, d.mono (Le.of (nw_mono (fun _ h => h) s)), e, f⟩
theorem RowB.at {a p : Addr} {H0 H : Hp} {ds : List D} {us : List V} (o : RowB a H0 p H ds us) : H p = some (.lst us) := (rest_some o.2.2.1.at_).1
theorem RowB.docs {a p : Addr} {H0 H : Hp} {ds : List D} {us : List V} (o : RowB a H0 p H ds us) : DocsAt H ds us := o.2.2.2.1.mono (Le.of ((same_nw _ _).trans same_rest))
theorem RowB.start {a p : Addr} {H0 H : Hp} (s : Same (hid a H0) (hid a H)) (h : SrcAt H a) (hp : H p = none) : RowB a H0 p (upd H p (.lst [])) [] [] := by
  have n := h.ne hp
  refine ⟨h.put n, n, ?_, .nil, (fun _ h => nomatch h), Nat.zero_le _⟩
  rw [hid_ne n]
  exact ⟨fun b o hb q => by rw [upd_ne hb]; exact s _ _ q, s.free (hid_none hp), upd_same⟩
theorem RowB.push {a p : Addr} {H0 H : Hp} {ds : List D} {us : List V} {d : D} {v : V} (o : RowB a H0 p H ds us) (h : DocAt (nw (upd (hid a H0) p (.lst [])) (hid a H)) d v) (hd : Pd d) (hp : rowPar (ds ++ [d]) ≤ 150) : RowB a H0 p (upd H p (.lst (us ++ [v]))) (ds ++ [d]) (us ++ [v]) := by
  obtain ⟨src, n, A, dd, e, f⟩ := o
  refine ⟨src.put n, n, ?_, ?_, ?_, hp⟩
  · rw [hid_ne n]
    exact A.push v
  · rw [hid_ne n, nw_upd]
    exact DocsAt.snoc dd h
  · intro x hx
    rcases List.mem_append.mp hx with hx | hx
    · exact e x hx
    · rw [List.mem_singleton.mp hx]
      exact hd
theorem RowB.done {a p : Addr} {H0 H : Hp} {ds : List D} {us : List V} (o : RowB a H0 p H ds us) : RowNew (hid a H0) (hid a H) ds (.ref p) := by
  obtain ⟨src, n, A, dd, e, f⟩ := o
  refine ⟨A.same, p, us, rfl, A.fr, A.at_, dd.mono (Le.of (nw_mono (fun b h => ?_) (Same.refl _)))⟩
  by_cases c : b = p
  · rw [c]; exact A.fr
  · rw [upd_ne c] at h; exact h
section
variable {P : Program} {w : World} {K : PySem.W.Frag} {mg : Str → Option Value} {base : Heap} {vs : List V} {H : Hp} {Q : VK} {E : XK}
def sp_law_rows : Sp := fun vs H Q _ => ∃ a, ∃ k : Nat, vs = [.ref a, .int k, .int 2] ∧ SrcAt H a ∧ k < 100 ∧ ∀ v H' ds, RowNew (hid a H) (hid a H') ds v → SrcAt H' a → (∀ d ∈ ds, Pd d) → ds.length ≤ k → rowPar ds ≤ 150 → Q v H'
def t_law_rows (K : PySem.W.Frag) : TS :=
  (tSeq (tAsg (tLst tNil) (gName 3))
    (tSeq (tFor (iRng1 (tCons (tCall sp_law_draw [] C8.E0 (tCons (tVar 0) (tCons (tOp (rI0 fun i j => .int (i + j)) (tVar 1) (tC (.int 1))) tNil))) tNil)) (gName 4)
      (tSeq (tIfS (tAnd (tTest (tOp (rNeNil K) (tVar 3) (tLst tNil))) (tTest (tOp rEq (tCall sp_law_draw [] C8.E0 (tCons (tVar 0) (tCons (tC (.int 4)) tNil))) (tC (.int 0))))) (tAsg (tCall sp_law_choice [] C8.E0 (tCons (tVar 0) (tCons (tVar 3) tNil))) (gName 5)) (tAsg (tCall (sp_law_patch 2) [] C8.E0 (tCons (tVar 0) (tCons (tVar 2) tNil))) (gName 5)))
    (tIfS (tTest (tOp (rI0 fun i j => .bl (decide (i ≤ j))) (tCB (rSum K) (tCons (tLc (iList K (tOp (rCatL K) (tVar 3) (tLst (tCons (tVar 5) tNil)))) (gName 6) tYes (tCall (sp_law_parts 4) [] C8.E0 (tCons (tVar 6) tNil)) [6]) tNil)) (tC (.int 150)))) (tDrop (tBM K "list" rAppend (tVar 3) (tCons (tVar 5) tNil))) tNext)))
    (tRet (tVar 3))))
theorem pu_law_rows (h : sp_law_rows vs H Q E) : t_law_rows K { nx := fun _ H' => Q .non H', rt := Q } (L2.start ["_law_source_here", "_law_most", "_law_deep", "_law_result", "_law_attempt", "_law_patch_here", "_law_one"] vs) H := by
  obtain ⟨a, k, rfl, ha, hk, q⟩ := h
  refine sSeq (sAsg (xLst ⟨Nat.zero_le _, fun p hp => ?_⟩))
  have O := RowB.start (Same.refl (hid a H)) ha hp
  have ek : (k : Int) + 1 = ((k + 1 : Nat) : Int) := by omega
  refine sSeq (sFor ⟨_, rfl, _, rfl, _, _, rfl, rfl, a, k + 1, by rw [← ek] <;> rfl, O.1, Nat.succ_pos _, by omega, fun j x y z hj => ?_⟩)
  have O1 : RowB a H p (upd (upd H p (.lst [])) a (.lst [.int x, .int y, .int z])) [] [] := O.call (by rw [hid_upd]; exact Same.refl _) SrcAt.upd
  refine ⟨(j : Int), rfl, by omega, by omega, ?_⟩
  refine for_it (D := ⟨_, _, fun _ _ => False, fun _ _ => False⟩) (walk_range (lo := 0) (n := (j : Int).toNat)) (fun i σ H4 => ∃ ds us, (∃ c1 c2, σ = [some (.ref a), some (.int (k : Int)), some (.int 2), some (.ref p), c1, c2, none]) ∧ ds.length ≤ i ∧ RowB a H p H4 ds us)
    ⟨[], [], ⟨_, _, rfl⟩, Nat.le_refl _, O1⟩ (fun _ _ _ _ _ => True.intro) (fun i x σ H4 H5 hi ⟨ds, us, ⟨c1, c2, hσ⟩, hlen, O4⟩ y => ?_) (fun σ H4 ⟨ds, us, ⟨c1, c2, hσ⟩, hlen, O4⟩ => ?_)
  · subst hσ
    obtain ⟨rfl, hx⟩ := y
    -- behind the patch: the sum, the push
    have back : ∀ (en eb ec : L2.St → Hp → Prop) (er : VK) (H6 : Hp) (d : D) (v : V), (∀ σ' H', (∃ ds us, (∃ c1 c2, σ' = [some (.ref a), some (.int (k : Int)), some (.int 2), some (.ref p), c1, c2, none]) ∧ ds.length ≤ i + 1 ∧ RowB a H p H' ds us) → en σ' H') →
        RowB a H p H6 ds us → DocAt (nw (upd (hid a H) p (.lst [])) (hid a H6)) d v → Pd d →
        (tIfS (tTest (tOp (rI0 fun i j => .bl (decide (i ≤ j))) (tCB (rSum K) (tCons (tLc (iList K (tOp (rCatL K) (tVar 3) (tLst (tCons (tVar 5) tNil)))) (gName 6) tYes (tCall (sp_law_parts 4) [] C8.E0 (tCons (tVar 6) tNil)) [6]) tNil)) (tC (.int 150)))) (tDrop (tBM K "list" rAppend (tVar 3) (tCons (tVar 5) tNil))) tNext)
          ⟨en, er, eb, ec⟩ [some (.ref a), some (.int (k : Int)), some (.int 2), some (.ref p), some x, some v, none] H6 := by
      intro en eb ec er H6 d v hen O6 hv hd
      have hvr : DocAt H6 d v := hv.mono (Le.of ((same_nw _ _).trans same_rest))
      have hus := O6.docs.len
      refine sIf (xTest (xOp (xCB (aCons (xLc (iL (xOp ⟨_, rfl, xLst (aCons (xVar rfl (aNil ⟨szO (show 1 ≤ 100000 by decide), fun l1 hl1 => ?_⟩)))⟩)))))))
      have s1 := same_new hl1 (.lst [v])
      refine ⟨p, l1, us, [v], rfl, rfl, SqL.of (s1 _ _ O6.at), SqL.of upd_same, szO (by show us.length + 1 ≤ _; omega), fun l2 hl2 => ⟨l2, rfl, ⟨_, SqL.of upd_same⟩, fun l3 hl3 => ?_⟩⟩
      have s2 := s1.trans (same_new hl2 (.lst (us ++ [v])))
      have hds : DocsAt (upd (upd H6 l1 (.lst [v])) l2 (.lst (us ++ [v]))) (ds ++ [d]) (us ++ [v]) := (DocsAt.snoc O6.docs hvr).mono (Le.of s2)
      have hl2' : upd (upd H6 l1 (.lst [v])) l2 (.lst (us ++ [v])) l2 = some (.lst (us ++ [v])) := upd_same
      have dep : ∀ x ∈ ds ++ [d], Pd x := fun x hx => by
        rcases List.mem_append.mp hx with hx | hx
        · exact O6.2.2.2.2.1 x hx
        · rw [List.mem_singleton.mp hx]; exact hd
      generalize upd (upd H6 l1 (.lst [v])) l2 (.lst (us ++ [v])) = H7 at *
      refine lc_acc (walk_list (xs := us ++ [v])) hl3 (fun i _ acc => acc = ((ds ++ [d]).take i).map fun d => .int d.par) (fun H5 s => s.seq (SqL.of hl2')) (fun _ => rfl) (fun i x H2 H3 acc hi B hac he y => ?_) (fun H2 acc B _ he => ?_)
      · obtain ⟨rfl, hx⟩ := y
        obtain ⟨d1, hd1, hdx⟩ := hds.nth hx
        refine ⟨rfl, _, rfl, x, d1, rfl, hdx.mono (Le.of B.same), by have := (dep d1 (List.mem_of_getElem? hd1)).1; omega, fun H5 s5 => ?_⟩
        refine accPush B hac (by rw [List.length_append] at hi; have : [v].length = 1 := rfl; omega) s5 ?_
        rw [take_more hd1, List.map_append, he] <;> rfl
      · rw [hds.len, List.take_length] at he
        subst he
        refine aNil ⟨l3, (ds ++ [d]).map fun d => (d.par : Int), rfl, SqL.of (by rw [B.at_, List.map_map] <;> rfl), xC ⟨_, _, rfl, rfl, _, rfl, ?_⟩⟩
        have e : ∀ l : List D, (l.map fun d => (d.par : Int)).sum = (rowPar l : Nat) := by
          intro l
          unfold rowPar
          induction l with
          | nil => rfl
          | cons x r ih => simp only [List.map_cons, List.sum_cons, ih]; omega
        rw [e]
        have s3 := s2.trans B.same
        have hH : Same (hid a H6) (hid a H2) := rest_mono s3
        have O7 := O6.call hH (O6.1.same s3)
        have hv7 := hv.mono (Le.of (nw_mono (H := upd (hid a H) p (.lst [])) (fun _ h => h) hH))
        by_cases c : rowPar (ds ++ [d]) ≤ 150
        · refine ifT (decide_eq_true (by omega)) (sDrop ⟨_, rfl, .inl ⟨rfl, _, SqL.of O7.at⟩, xVar rfl (aNil ⟨p, us, v, rfl, rfl, O7.at, small1000 (by omega), ?_⟩)⟩)
          refine hen _ _ ⟨ds ++ [d], us ++ [v], ⟨_, _, rfl⟩, ?_, O7.push hv7 hd c⟩
          rw [List.length_append]
          show ds.length + 1 ≤ _
          omega
        · exact ifF (decide_eq_false (by omega)) (sNext (hen _ _ ⟨ds, us, ⟨_, _, rfl⟩, by omega, O7⟩))
    have patch : ∀ (en eb ec : L2.St → Hp → Prop) (er : VK) (H6 : Hp) (c : Option V), RowB a H p H6 ds us → (∀ v H' d, RowB a H p H' ds us → DocAt (nw (upd (hid a H) p (.lst [])) (hid a H')) d v → Pd d → en [some (.ref a), some (.int (k : Int)), some (.int 2), some (.ref p), some x, some v, none] H') →
        (tAsg (tCall (sp_law_patch 2) [] C8.E0 (tCons (tVar 0) (tCons (tVar 2) tNil))) (gName 5)) ⟨en, er, eb, ec⟩ [some (.ref a), some (.int (k : Int)), some (.int 2), some (.ref p), some x, c, none] H6 := by
      intro en eb ec er H6 c O6 hen
      refine sAsg ⟨_, rfl, _, rfl, a, rfl, O6.1, fun v H' ⟨d, hd, F, src⟩ => hen v H' d (O6.call F.same src) ?_ hd⟩
      refine F.doc.mono (Le.of (nw_mono (fun b h => ?_) (Same.refl _)))
      have ne : b ≠ p := fun e => by rw [e, O6.2.2.1.at_] at h; cases h
      rw [upd_ne ne]
      exact O6.2.2.1.same.free h
    refine sSeq (sIf (xAnd (xTest (xOp ⟨_, rfl, xLst (aNil ⟨Nat.zero_le _, fun z hz => ?_⟩)⟩))))
    have sz := same_new hz (.lst [])
    refine ⟨p, z, us, rfl, rfl, SqL.of (sz _ _ O4.at), SqL.of upd_same, _, rfl, ?_⟩
    have O5 := O4.call (rest_mono (a := a) (hl := a) sz) (O4.1.same sz)
    generalize upd H5 z (.lst []) = H6 at *
    by_cases hus : us = []
    · refine ifF (by simp [hus]) (ifF rfl (patch _ _ _ _ H6 _ O5 fun v H' d O7 hv hd => back _ _ _ _ H' d v (fun _ _ h => h) O7 hv hd))
    · refine ifT (by simp [hus]) (xTest (xOp ⟨_, rfl, a, 4, rfl, O5.1, by decide, by decide, fun w x1 y1 z1 hw => ⟨rfl, _, rfl, ?_⟩⟩))
      have O6 := O5.call (H' := upd H6 a (.lst [.int x1, .int y1, .int z1])) (by rw [hid_upd]; exact Same.refl _) SrcAt.upd
      generalize upd H6 a (.lst [.int x1, .int y1, .int z1]) = H7 at *
      by_cases w0 : w = 0
      · subst w0
        refine ifT (by simp) (sAsg ⟨_, rfl, _, rfl, a, p, us, rfl, O6.1, O6.at, O6.2.1, hus, ?_, fun i2 v x2 y2 z2 hv => ?_⟩)
        · have := O6.docs.len
          omega
        · obtain ⟨d, hd, hdv⟩ := O6.2.2.2.1.nth hv
          have O8 := O6.call (H' := upd H7 a (.lst [.int x2, .int y2, .int z2])) (by rw [hid_upd]; exact Same.refl _) SrcAt.upd
          exact back _ _ _ _ _ d v (fun _ _ h => h) O8 (by rw [hid_upd]; exact hdv) (O6.2.2.2.2.1 d (List.mem_of_getElem? hd))
      · exact ifF (by simp [w0]) (patch _ _ _ _ H7 _ O6 fun v H' d O7 hv hd => back _ _ _ _ H' d v (fun _ _ h => h) O7 hv hd)
  · subst hσ
    have := Nat.le_trans hlen (show (j : Int).toNat ≤ k by omega)
    exact ⟨_, rfl, q _ _ ds O4.done O4.1 O4.2.2.2.2.1 this O4.2.2.2.2.2⟩
theorem ok_law_rows (T : Tx K mg) : C8.Cal P w K mg base 7 "_law_rows" sp_law_rows [] := by
  have c_law_draw := ok_law_draw (P := P) (w := w) (base := base) T
  have c_law_choice := ok_law_choice (P := P) (w := w) (base := base) T
  have c_law_patch := ok_law_patch (P := P) (w := w) (base := base) T 2
  have c_law_parts := ok_law_parts (P := P) (w := w) (base := base) T 4
  have sc : FnScope ["_law_source_here", "_law_most", "_law_deep", "_law_result", "_law_attempt", "_law_patch_here", "_law_one"] ["_law_source_here", "_law_most", "_law_deep"] (C8.fnScope s_law_rows) := C8.fnScope_by (by decide +kernel)
  refine T.cal 66 (st := s_law_rows) rfl (by decide +kernel) sc (fun _ _ _ _ _ _ us hl => match us, hl with | [_, _, _], _ => rfl) (fun vs H Q E ⟨_, _, h, _⟩ => by rw [h]; rfl) (fun cdv A outer s H vs Q E f hr h => ⟨t_law_rows K, ?_, pu_law_rows h⟩)
  have hu := hu_of hr
  exact (pss_cons (ps_set (i := 3) sc.nd rfl (Or.inl rfl) (pe_lst pa_nil))
    (pss_cons (ps_for PassesOwn.never rfl (pi_range1 rfl T.f_range (pa_cons (C8.pe_c c_law_draw hr (by omega) rfl (pa_cons (pv 0) (pa_cons (pe_op op_add (pv 1) pe_int) pa_nil))) pa_nil)) (pg_name (i := 4) sc.nd rfl (Or.inl rfl))
      (pss_cons (ps_if (PW.pt (pw_and (pt_cmpR (op_neNil hr.units) (pv 3) (pe_lst pa_nil) (nomark _)) (pw_and1 (pt_cmpR op_eq (C8.pe_c c_law_draw hr (by omega) rfl (pa_cons (pv 0) (pa_cons pe_int pa_nil))) pe_int (nomark _))))) (pss_one (ps_set (i := 5) sc.nd rfl (Or.inl rfl) (C8.pe_c c_law_choice hr (by omega) rfl (pa_cons (pv 0) (pa_cons (pv 3) pa_nil))))) (pss_one (ps_set (i := 5) sc.nd rfl (Or.inl rfl) (C8.pe_c c_law_patch hr (by omega) rfl (pa_cons (pv 0) (pa_cons (pv 2) pa_nil))))))
    (pss_one (ps_if (pt_cmpR op_le (pe_callB (cr_sum rfl) rfl T.f_sum bt_sum (pa_cons (pe_lc (own := [("_law_one", 6)]) (g := (gName 6)) (tt := tYes) (te := (tCall (sp_law_parts 4) [] C8.E0 (tCons (tVar 6) tNil))) rfl sc.nd (pi_list (pe_op op_catL (pv 3) (pe_lst (pa_cons (pv 5) pa_nil)))) (blkOk_by (N := ["_law_source_here", "_law_most", "_law_deep", "_law_result", "_law_attempt", "_law_patch_here", "_law_one"]) (sc := C8.fnScope s_law_rows) (by decide +kernel)) (fun _ _ _ _ _ => (pg_name (i := 6) sc.nd rfl (Or.inl rfl))) (fun _ _ _ _ _ => pts_nil) (fun _ _ _ _ _ => (C8.pe_c c_law_parts hr (by omega) rfl (pa_cons (pv 6) pa_nil)))) pa_nil)) pe_int (nomark _)) (pss_one (ps_expr (pe_bm PySem.F.plainAttrs_list PySem.F.slot_list_append PySem.F.type_list_append mt_append (pv 3) (pa_cons (pv 5) pa_nil)))) pss_nil))))
    (pss_one (ps_ret (pv 3)))))
end
end Tp
end
section
set_option maxRecDepth 100000
set_option maxHeartbeats 4000000
namespace Tp
open PySem PySem.Spec PyProof.Rows L2
theorem same_beside {H H1 : Hp} {a hl : Addr} (s : Same H H1) (ha : H a = none) (hh : H hl = none) : Same H (rest H1 a hl) := fun b o e =>
  rest_of (s _ _ e) (fun z => by rw [z, ha] at e; cases e) (fun z => by rw [z, hh] at e; cases e)
theorem rowPar_take (ds : List D) (n : Nat) : rowPar (ds.take n) ≤ rowPar ds := by
  unfold rowPar
  induction ds generalizing n with
  | nil => simp
  | cons d r ih =>
    cases n with
    | zero => simp
    | succ n =>
      have := ih n
      simp only [List.take_succ_cons, List.map_cons, List.sum_cons]
      omega
theorem Rok.take {ds : List D} (h : Rok ds) (n : Nat) : Rok (ds.take n) := ⟨by have := h.len; rw [List.length_take]; omega, fun d hd => h.dep d (List.mem_of_mem_take hd), Nat.le_trans (rowPar_take ds n) h.par⟩
section
variable {P : Program} {w : World} {K : PySem.W.Frag} {mg : Str → Option Value} {base : Heap} {vs : List V} {H : Hp} {Q : VK} {E : XK}
/-! ### logged(value, patches) -/
def sp_law_logged (K : PySem.W.Frag) : Sp := fun vs H Q _ => ∃ (so : Option Addr) (v u : V) (d : D) (ds : List D), vs = [v, u] ∧ DocAt H d v ∧ RowAt H ds u ∧ d.dep ≤ 3 ∧ Rok ds ∧ ds.length ≤ 800 ∧ (∀ sx, so = some sx → H sx ≠ none) ∧
  ∀ a hl H' hist, Same H (rest H' a hl) → H a = none → H hl = none → LogAt (so.getD a) (CL K) H' a hl d ds hist → hist.length ≤ ds.length + 1 → Q (.ref a) H'
def t_law_logged (K : PySem.W.Frag) : TS :=
  (tSeq (tAsg (tMake (He.ga K "Log") (sp_Log K) [] C8.E0 tNil) (gName 2))
    (tSeq (tDrop (tMeth (He.ga K "Log") "begin" (sp_begin K) [] C8.E0 (tVar 2) (tCons (tVar 0) tNil)))
    (tSeq (tFor (iList K (tVar 1)) (gName 3)
      (tDrop (tMeth (He.ga K "Log") "add" (sp_add K) [] C8.E0 (tVar 2) (tCons (tVar 3) tNil))))
    (tRet (tVar 2)))))
theorem pu_law_logged (T : Tx K mg) (h : sp_law_logged K vs H Q E) : t_law_logged K { nx := fun _ H' => Q .non H', rt := Q } (L2.start ["_law_value", "_law_patches", "_law_log", "_law_patch_here"] vs) H := by
  obtain ⟨so, v, u, d, ds, rfl, hd, hds, hd3, ok, hlen, hso, q⟩ := h
  refine sSeq (sAsg (aNil ?_))
  refine mkL (Q := fun x H1 => gName 2 x _ H1 _) T fun a hl H1 s1 ha hh L => ?_
  have L1 := L (so.getD a) (by
    cases so with
    | none => exact .inr rfl
    | some sx => exact .inl (hso sx rfl))
  have r1 := same_beside s1 ha hh
  generalize hsx : so.getD a = sx at L1
  obtain ⟨dx, vb, vp, ps, LW⟩ := id L1
  refine sSeq (sDrop ⟨_, rfl, a, dx, _, rfl, LW.ins, rfl, _, rfl, sx, a, hl, _, [], [], v, d, rfl, L1, hd.mono (Le.of s1), hd3, (fun _ h => nomatch h), Nat.zero_le _, fun H2 s2 L2' => ?_⟩)
  have r2 := r1.trans s2
  have hh2 := hist2_len (.obj fun _ => .abs) d [] [] []
  generalize hist2 (.obj fun _ => .abs) d [] [] [] = h0 at *
  obtain ⟨l, us, rfl, rl, hdn⟩ := hds
  have rl2 := (Le.of (r2.trans same_rest)).l _ _ rl
  refine sSeq (sFor ⟨_, rfl, l, rfl, ⟨_, SqL.rd rl2⟩, ?_⟩)
  refine for_it (D := ⟨_, _, fun _ _ => False, fun _ _ => False⟩) (walk_list (xs := us)) (fun i σ H4 => (∃ c, σ = [some v, some (.ref l), some (.ref a), c]) ∧ Same H (rest H4 a hl) ∧ ∃ hist, LogAt sx (CL K) H4 a hl d (ds.take i) hist ∧ hist.length ≤ i + 1)
    ⟨⟨_, rfl⟩, r2, h0, L2', hh2⟩ (fun i σ H4 _ ⟨_, s, _⟩ => SqL.rd ((Le.of (s.trans same_rest)).l _ _ rl)) (fun i x σ H4 H5 hi ⟨⟨c, hσ⟩, s4, hist, L4, hh4⟩ y => ?_) (fun σ H4 ⟨⟨c, hσ⟩, s4, hist, L4, hh4⟩ => ?_)
  · subst hσ
    obtain ⟨rfl, hx⟩ := y
    obtain ⟨p, hp, hpx⟩ := hdn.nth hx
    obtain ⟨dx4, vb4, vp4, ps4, LW4⟩ := id L4
    have hu := hdn.len
    have ok4 := ok.take (i + 1)
    rw [take_more hp] at ok4
    refine sDrop ⟨_, rfl, a, dx4, _, rfl, LW4.ins, rfl, _, rfl, sx, a, hl, d, _, hist, x, p, rfl, L4, hpx.mono (Le.of (s4.trans same_rest)), ok4, by omega, by omega, fun H6 s6 L6 => ?_⟩
    refine ⟨⟨_, rfl⟩, s4.trans s6, _, by rw [take_more hp]; exact L6, ?_⟩
    rw [List.length_append]
    show hist.length + 1 ≤ _
    omega
  · subst hσ
    rw [hdn.len, List.take_length] at L4
    rw [hdn.len] at hh4
    exact ⟨_, rfl, q a hl H4 hist s4 ha hh (by rw [hsx]; exact L4) hh4⟩
theorem ok_law_logged (T : Tx K mg) : C8.Cal P w K mg base 11 "_law_logged" (sp_law_logged K) [] := by
  have m_Log := ok_Log (P := P) (w := w) (base := base) T
  have c_begin := ok_begin (P := P) (w := w) (base := base) T
  have c_add := ok_ladd (P := P) (w := w) (base := base) T
  have sc : FnScope ["_law_value", "_law_patches", "_law_log", "_law_patch_here"] ["_law_value", "_law_patches"] (C8.fnScope s_law_logged) := C8.fnScope_by (by decide +kernel)
  refine T.cal 70 (st := s_law_logged) rfl (by decide +kernel) sc (fun _ _ _ _ _ _ us hl => match us, hl with | [_, _], _ => rfl) (fun vs H Q E ⟨_, _, _, _, _, h, _⟩ => by rw [h]; rfl) (fun cdv A outer s H vs Q E f hr h => ⟨t_law_logged K, ?_, pu_law_logged T h⟩)
  exact (pss_cons (ps_set (i := 2) sc.nd rfl (Or.inl rfl) (pe_mk0 m_Log hr (by omega) rfl))
    (pss_cons (ps_expr (C8.pe_mt c_begin hr (by omega) (pv 2) (pa_cons (pv 0) pa_nil)))
    (pss_cons (ps_for PassesOwn.never rfl (pi_list (pv 1)) (pg_name (i := 3) sc.nd rfl (Or.inl rfl))
      (pss_one (ps_expr (C8.pe_mt c_add hr (by omega) (pv 2) (pa_cons (pv 3) pa_nil)))))
    (pss_one (ps_ret (pv 2))))))
end
end Tp
end
section
set_option maxRecDepth 100000
set_option maxHeartbeats 4000000
namespace Tp
open PySem PySem.Spec PyProof.Rows L2
/-- f(e, ..), f an expression that gives an effect -/
def tCallE (C : Addr) (sp : Sp) (tf : TE) (t : TA) : TE := fun σ H Q => tf σ H fun y H1 => ∃ a, y = V.ref a ∧ t σ H1 fun vs H2 => ((∃ dx ws, SlX.Slt H2 a C dx ws) ∨ ∃ dx fs, H2 a = some (.ins C dx fs)) ∧ sp (V.ref a :: vs) H2 Q C8.E0
theorem pe_cE {X : Cx} {k j : Nat} {C g : Addr} {sp : Sp} {fe e : Expr} {es : List Expr} {tf : TE} {t : TA} {pos : Pos} (hf : PE X fe tf) (c : C8.Met X.prog X.w X.K X.mg X.base k C "__call__" sp []) (co : StX.CallO X.K C g) (hr : Room j X.A) (hk : k ≤ j) (ha : PA X (e :: es) t)
    (ht : eval (.Call fe (e :: es) [] pos) X.env = (do callWith pos (← eval fe X.env) [] (backTo pos (starEach (e :: es) X.env)) (backToKw pos (keywordEach [] X.env))) := by rfl)
    (he : starEach (e :: es) X.env = (false, eval e X.env) :: starEach es X.env := by rfl) (hpl : (backTo pos (starEach es X.env)).any (·.1) = false := by rfl) : PE X (.Call fe (e :: es) [] pos) (tCallE C sp tf t) := pe_cO hf c co hr hk ha ht he hpl
theorem Rok.drop {ds : List D} (h : Rok ds) (n : Nat) : Rok (ds.drop n) := by
  refine ⟨by have := h.len; rw [List.length_drop]; omega, fun d hd => h.dep d (List.mem_of_mem_drop hd), Nat.le_trans ?_ h.par⟩
  have e := congrArg rowPar (List.take_append_drop n ds)
  unfold rowPar at *
  rw [List.map_append, List.sum_append] at e
  omega
theorem RowAt.ne {H : Hp} {ds : List D} {v : V} (h : RowAt H ds v) : ∀ d ∈ ds, d ≠ .abs := let ⟨_, _, _, _, h⟩ := h; h.ne
/-- xs[:n], xs[n:] of a row -/
theorem slTake {K : PySem.W.Frag} {σ : L2.St} {H : Hp} {i j : Nat} {u : V} {n : Nat} {ds : List D} {Q : VK} (h1 : σ[i]? = some (some u)) (h2 : σ[j]? = some (some (.int (n : Int)))) (h : RowAt H ds u) (q : ∀ p H', Same H H' → RowAt H' (ds.take n) (.ref p) → Q (.ref p) H') : tSl (rSlL K) (tVar i) tNoPart (tPart (tVar j)) σ H Q := by
  obtain ⟨l, us, rfl, hl, hd⟩ := h
  refine ⟨_, h1, _, h2, _, rfl, l, us, rfl, SqL.rd hl, fun p hp => ?_⟩
  have s1 := same_new hp (.lst (cutV us none (some (n : Int))))
  refine q p _ s1 ⟨p, _, rfl, .inl upd_same, ?_⟩
  rw [cut_take]
  exact (hd.take n).mono (Le.of (by rw [← cut_take]; exact s1))
theorem slDrop {K : PySem.W.Frag} {σ : L2.St} {H : Hp} {i j : Nat} {u : V} {n : Nat} {ds : List D} {Q : VK} (h1 : σ[i]? = some (some u)) (h2 : σ[j]? = some (some (.int (n : Int)))) (h : RowAt H ds u) (q : ∀ p H', Same H H' → RowAt H' (ds.drop n) (.ref p) → Q (.ref p) H') : tSl (rSlL K) (tVar i) (tPart (tVar j)) tNoPart σ H Q := by
  obtain ⟨l, us, rfl, hl, hd⟩ := h
  refine ⟨_, h1, _, h2, _, rfl, l, us, rfl, SqL.rd hl, fun p hp => ?_⟩
  have s1 := same_new hp (.lst (cutV us (some (n : Int)) none))
  refine q p _ s1 ⟨p, _, rfl, .inl upd_same, ?_⟩
  rw [cut_drop]
  exact (hd.drop n).mono (Le.of (by rw [← cut_drop]; exact s1))
section
variable {P : Program} {w : World} {K : PySem.W.Frag} {mg : Str → Option Value} {base : Heap} {vs : List V} {H : Hp} {Q : VK} {E : XK}
/-! ### times_right(source, log, patches) -/
def sp_law_times_right (K : PySem.W.Frag) : Sp := fun vs H Q _ => ∃ sx a hl u d ds hist, vs = [.ref sx, .ref a, u] ∧ LogAt sx (CL K) H a hl d ds hist ∧ SrcAt H sx ∧ RowAt (hid sx H) ds u ∧ d.dep ≤ 3 ∧ Rok ds ∧
  ∀ H', Same (hid sx H) (hid sx H') → SrcAt H' sx → Q (.bl true) H'
def t_law_times_right (K : PySem.W.Frag) : TS :=
  (tSeq (tAsg (tMeth (He.ga K "Log") "first" (sp_first K) [] C8.E0 (tVar 1) tNil) (gName 3))
    (tSeq (tFor (iRng1 (tCons (tOp (rI0 fun i j => .int (i + j)) (tCB (rLenSeq K) (tCons (tVar 2) tNil)) (tC (.int 1))) tNil)) (gName 4)
      (tSeq (tAsg (tMeth (He.ga K "Log") "at" (sp_at K) [] C8.E0 (tVar 1) (tCons (tVar 4) tNil)) (gName 5))
    (tSeq (tIfS (tOr (tTest (tOp rNeDoc (tVar 5) (tCall sp_run [] C8.E0 (tCons (tVar 3) (tCons (tSl (rSlL K) (tVar 2) tNoPart (tPart (tVar 4))) tNil))))) (tTest (tOp rNeDoc (tVar 5) (tCallE (CE K) (sp_call K) (tCall (sp_effect K) [] C8.E0 (tCons (tSl (rSlL K) (tVar 2) tNoPart (tPart (tVar 4))) tNil)) (tCons (tVar 3) tNil))))) (tRet (tC (.bl false))) tNext)
    (tIfS (tOr (tTest (tOp rNeDoc (tVar 5) (tCall sp_after_all [] C8.E0 (tCons (tVar 3) (tCons (tSl (rSlL K) (tVar 2) tNoPart (tPart (tVar 4))) tNil))))) (tNot (tB (tCall sp_is_result [] C8.E0 (tCons (tSl (rSlL K) (tVar 2) tNoPart (tPart (tVar 4))) (tCons (tVar 5) tNil)))))) (tRet (tC (.bl false))) tNext))))
    (tSeq (tAsg (tCall sp_law_draw [] C8.E0 (tCons (tVar 0) (tCons (tOp (rI0 fun i j => .int (i + j)) (tCB (rLenSeq K) (tCons (tVar 2) tNil)) (tC (.int 1))) tNil))) (gName 4))
    (tRet (tOp (rEqG (DIns (CE K) (REff K))) (tOp (rAddO (CE K) (sp_joined K 4)) (tCall (sp_effect K) [] C8.E0 (tCons (tSl (rSlL K) (tVar 2) tNoPart (tPart (tVar 4))) tNil)) (tCall (sp_effect K) [] C8.E0 (tCons (tSl (rSlL K) (tVar 2) (tPart (tVar 4)) tNoPart) tNil))) (tCall (sp_effect K) [] C8.E0 (tCons (tVar 2) tNil)))))))
theorem pu_law_times_right (T : Tx K mg) (h : sp_law_times_right K vs H Q E) : t_law_times_right K { nx := fun _ H' => Q .non H', rt := Q } (L2.start ["_law_source_here", "_law_log", "_law_patches", "_law_value", "_law_moment", "_law_there"] vs) H := by
  obtain ⟨sx, a, hl, u, d, ds, hist, rfl, L0, src, hu, hd3, ok, q⟩ := h
  have wfd := wf_whole ds hu.ne
  obtain ⟨dx, vb, vp, ps, LW⟩ := id L0
  refine sSeq (sAsg ⟨_, rfl, a, dx, _, rfl, LW.ins, rfl, sx, a, hl, d, ds, hist, rfl, L0, hd3, fun v1 H1 F1 => ?_⟩)
  have hu0 := hu.mono (Le.of (same_rest (H := H) (a := sx) (hl := sx)))
  obtain ⟨l, us, rfl, hl0, hds⟩ := id hu0
  have hlu := hds.len
  refine sSeq (sFor ⟨_, rfl, l, us, rfl, .inl (SqL.rd ((Le.of F1.same).l _ _ hl0)), _, _, rfl, rfl, ?_⟩)
  have em : (us.length : Int) + 1 = ((ds.length + 1 : Nat) : Int) := by omega
  refine ⟨((ds.length + 1 : Nat) : Int), by rw [← em] <;> rfl, by have := ok.len; omega, by have := ok.len; omega, ?_⟩
  refine for_it (D := ⟨_, _, fun _ _ => False, fun _ _ => False⟩) (walk_range (lo := 0) (n := ((ds.length + 1 : Nat) : Int).toNat)) (fun i σ H4 => (∃ c1 c2, σ = [some (.ref sx), some (.ref a), some (.ref l), some v1, c1, c2]) ∧ Same H1 H4)
    ⟨⟨_, _, rfl⟩, Same.refl _⟩ (fun _ _ _ _ _ => True.intro) (fun i x σ H4 H5 hi ⟨⟨c1, c2, hσ⟩, s4⟩ y => ?_) (fun σ H4 ⟨⟨c1, c2, hσ⟩, s4⟩ => ?_)
  · subst hσ
    obtain ⟨rfl, hx⟩ := y
    have hx : x = .int (i : Int) := by rw [hx]; simp
    subst hx
    have hi : i ≤ ds.length := by omega
    have s5 := F1.same.trans s4
    have L5 := L0.same s5
    obtain ⟨dx5, vb5, vp5, ps5, LW5⟩ := id L5
    refine sSeq (sAsg ⟨_, rfl, a, dx5, _, rfl, LW5.ins, rfl, _, rfl, sx, a, hl, d, ds, hist, i, rfl, L5, hi, hd3, ok.dep, fun v2 H6 F2 => ?_⟩)
    have hrd : (runD d (ds.take i)).dep ≤ 20 := Nat.le_trans (runD_dep _ _ (fun p hp => ok.dep p (List.mem_of_mem_take hp)) hd3) (by decide)
    have row6 := hu0.mono (Le.of (s5.trans F2.same))
    have val6 := (F1.read.mono (Le.of s4)).mono (Le.of F2.same)
    refine sSeq (sIf (xOr (xTest (xOp ⟨_, rfl, _, rfl, slTake rfl rfl row6 fun p3 H7 s7 r7 => ?_⟩))))
    refine ⟨v1, .ref p3, d, _, rfl, val6.mono (Le.of s7), r7, hd3, ok.take i, fun v4 H8 F4 => ?_⟩
    refine ⟨_, _, (F2.read.mono (Le.of s7)).mono (Le.of F4.same), F4.read, hrd, _, rfl, ?_⟩
    have s68 := s7.trans F4.same
    refine ifF (by simp) (xTest (xOp ⟨_, rfl, slTake rfl rfl (row6.mono (Le.of s68)) fun p4 H9 s9 r9 => ?_⟩))
    refine ⟨_, _, rfl, r9, ok.take i, fun v5 H10 s10 e5 => ?_⟩
    have wft := wf_whole (ds.take i) fun p hp => hu.ne p (List.mem_of_mem_take hp)
    have edep := whole_dep (ds.take i) fun p hp => ok.dep p (List.mem_of_mem_take hp)
    have s610 := (s68.trans s9).trans s10
    obtain ⟨a5, dx5', x5, tp5, ps5', g5, rfl, hi5, _⟩ := e5.dec
    refine ⟨a5, rfl, aCons (xVar rfl (aNil ⟨.inr ⟨_, _, hi5⟩, .ref a5, v1, _, d, rfl, e5, val6.mono (Le.of s610), ?_, wk_wf wft, edep, hd3, fun v6 H11 F6 => ?_⟩))⟩
    · intro z
      rw [z] at wft
      cases wft
    rw [act_whole _ (fun p hp => hu.ne p (List.mem_of_mem_take hp))] at F6
    have s611 := s610.trans F6.same
    refine ⟨_, _, F2.read.mono (Le.of s611), F6.read, hrd, _, rfl, ifF (by simp) (sNext ?_)⟩
    have row11 := row6.mono (Le.of s611)
    refine sIf (xOr (xTest (xOp ⟨_, rfl, _, rfl, slTake rfl rfl row11 fun p5 H12 s12 r12 => ?_⟩)))
    have s612 := s611.trans s12
    refine ⟨v1, .ref p5, d, _, rfl, val6.mono (Le.of s612), r12, hd3, (ok.take i).dep, fun v7 H13 F7 => ?_⟩
    have s613 := s612.trans F7.same
    refine ⟨_, _, F2.read.mono (Le.of s613), F7.read, hrd, _, rfl, ifF (by simp) ?_⟩
    refine xNot (xB (slTake rfl rfl (row6.mono (Le.of s613)) fun p6 H14 s14 r14 => ?_))
    have s614 := s613.trans s14
    refine ⟨_, rfl, v2, .ref p6, runD d (ds.take i), ds.take i, rfl, F2.read.mono (Le.of s614), r14, runD_dep _ _ (ok.take i).dep hd3, ok.take i, fun H15 s15 => ?_⟩
    rw [run_run _ (fun p hp => hu.ne p (List.mem_of_mem_take hp)), decide_eq_true rfl]
    exact ⟨true, rfl, ifF rfl (sNext ⟨⟨_, _, rfl⟩, s4.trans (F2.same.trans (s614.trans s15))⟩)⟩
  · subst hσ
    have s4' := F1.same.trans s4
    have row4 := hu0.mono (Le.of s4')
    obtain ⟨l4, us4, el, hl4, hds4⟩ := id row4
    cases el
    have hlu4 := hds4.len
    show ((tSeq (tAsg (tCall sp_law_draw [] C8.E0 (tCons (tVar 0) (tCons (tOp (rI0 fun i j => .int (i + j)) (tCB (rLenSeq K) (tCons (tVar 2) tNil)) (tC (.int 1))) tNil))) (gName 4))
    (tRet (tOp (rEqG (DIns (CE K) (REff K))) (tOp (rAddO (CE K) (sp_joined K 4)) (tCall (sp_effect K) [] C8.E0 (tCons (tSl (rSlL K) (tVar 2) tNoPart (tPart (tVar 4))) tNil)) (tCall (sp_effect K) [] C8.E0 (tCons (tSl (rSlL K) (tVar 2) (tPart (tVar 4)) tNoPart) tNil))) (tCall (sp_effect K) [] C8.E0 (tCons (tVar 2) tNil)))))) ⟨fun _ H' => Q .non H', Q, fun _ _ => False, fun _ _ => False⟩ [some (.ref sx), some (.ref a), some (.ref l), some v1, c1, c2] H4
    refine sSeq (sAsg ⟨_, rfl, _, rfl, l, us4, rfl, .inl (SqL.rd hl4), _, _, rfl, rfl, ?_⟩)
    have em4 : (us4.length : Int) + 1 = ((ds.length + 1 : Nat) : Int) := by omega
    refine ⟨sx, ds.length + 1, by rw [← em4] <;> rfl, src.same s4', Nat.succ_pos _, by have := ok.len; omega, fun m x y z hm => ?_⟩
    have hr5 : RowAt (hid sx (upd H4 sx (.lst [.int x, .int y, .int z]))) ds (.ref l) := by
      rw [hid_upd]
      exact hu.mono (Le.of (rest_mono s4'))
    have hS : Same (hid sx H) (hid sx (upd H4 sx (.lst [.int x, .int y, .int z]))) := by
      rw [hid_upd]
      exact rest_mono s4'
    have srcN : SrcAt (upd H4 sx (.lst [.int x, .int y, .int z])) sx := SrcAt.upd
    generalize upd H4 sx (.lst [.int x, .int y, .int z]) = H5 at *
    have row5 := hr5.mono (Le.of same_rest)
    refine sRet (xOp (xOp (slTake rfl rfl row5 fun p6 H6 s6 r6 => ?_)))
    refine ⟨_, _, rfl, r6, ok.take m, fun v7 H7 s7 e7 => ?_⟩
    have s57 := s6.trans s7
    refine slDrop rfl rfl (row5.mono (Le.of s57)) fun p8 H8 s8 r8 => ?_
    refine ⟨_, _, rfl, r8, ok.drop m, fun v9 H9 s9 e9 => ?_⟩
    have e79 := e7.same (s8.trans s9)
    obtain ⟨a7, dx7, x7, tp7, ps7, g7, rfl, hi7, _⟩ := e79.dec
    obtain ⟨a9, dx9, x9, tp9, ps9, g9, rfl, hi9, _⟩ := e9.dec
    refine ⟨a7, a9, dx7, dx9, _, _, rfl, rfl, hi7, hi9, .ref a7, .ref a9, _, _, rfl, e79, e9, by have := whole_dep (ds.drop m) (ok.drop m).dep; omega, fun v10 H10 s10 e10 => ?_⟩
    rw [← whole_append, List.take_append_drop] at e10
    have s510 := s57.trans ((s8.trans s9).trans s10)
    refine ⟨_, rfl, .ref l, ds, rfl, row5.mono (Le.of s510), ok, fun v11 H11 s11 e11 => ?_⟩
    exact eqEff (e10.same s11) e11 (by have := whole_dep ds ok.dep; omega) fun H' s12 => q H' (hS.trans (rest_mono ((s510.trans s11).trans s12))) (srcN.same ((s510.trans s11).trans s12))
theorem ok_law_times_right (T : Tx K mg) : C8.Cal P w K mg base 22 "_law_times_right" (sp_law_times_right K) [] := by
  have c_first := ok_first (P := P) (w := w) (base := base) T
  have c_at := ok_at (P := P) (w := w) (base := base) T
  have c_run := ok_run (P := P) (w := w) (base := base) T
  have c_effect := ok_effect (P := P) (w := w) (base := base) T
  have c_call := ok_call (P := P) (w := w) (base := base) T
  have c_law_end := ok_law_end (P := P) (w := w) (base := base) T
  have c_is_result := ok_is_result (P := P) (w := w) (base := base) T
  have c_law_draw := ok_law_draw (P := P) (w := w) (base := base) T
  have c_plus := ok_add (P := P) (w := w) (base := base) T
  have c_eq := ok_eq (P := P) (w := w) (base := base) T
  have sc : FnScope ["_law_source_here", "_law_log", "_law_patches", "_law_value", "_law_moment", "_law_there"] ["_law_source_here", "_law_log", "_law_patches"] (C8.fnScope s_law_times_right) := C8.fnScope_by (by decide +kernel)
  refine T.cal 71 (st := s_law_times_right) rfl (by decide +kernel) sc (fun _ _ _ _ _ _ us hl => match us, hl with | [_, _, _], _ => rfl) (fun vs H Q E ⟨_, _, _, _, _, _, _, h, _⟩ => by rw [h]; rfl) (fun cdv A outer s H vs Q E f hr h => ⟨t_law_times_right K, ?_, pu_law_times_right T h⟩)
  exact (pss_cons (ps_set (i := 3) sc.nd rfl (Or.inl rfl) (C8.pe_mt0 c_first hr (by omega) (pv 1)))
    (pss_cons (ps_for PassesOwn.never rfl (pi_range1 rfl T.f_range (pa_cons (pe_op op_add (pe_callB call_len_seq rfl T.f_len bt_len (pa_cons (pv 2) pa_nil)) pe_int) pa_nil)) (pg_name (i := 4) sc.nd rfl (Or.inl rfl))
      (pss_cons (ps_set (i := 5) sc.nd rfl (Or.inl rfl) (C8.pe_mt c_at hr (by omega) (pv 1) (pa_cons (pv 4) pa_nil)))
    (pss_cons (ps_if (PW.pt (pw_or (pt_cmpR (op_neDoc hr.units) (pv 5) (C8.pe_c c_run hr (by omega) rfl (pa_cons (pv 3) (pa_cons (pe_slice sl_list (pv 2) po_none (po_some (pv 4))) pa_nil))) (nomark _)) (pw_or1 (pt_cmpR (op_neDoc hr.units) (pv 5) (pe_cE (C8.pe_c c_effect hr (by omega) rfl (pa_cons (pe_slice sl_list (pv 2) po_none (po_some (pv 4))) pa_nil)) c_call T.oEffect hr (by omega) (pa_cons (pv 3) pa_nil)) (nomark _))))) (pss_one (ps_ret pe_bl)) pss_nil)
    (pss_one (ps_if (PW.pt (pw_or (pt_cmpR (op_neDoc hr.units) (pv 5) (C8.pe_c c_law_end hr (by omega) rfl (pa_cons (pv 3) (pa_cons (pe_slice sl_list (pv 2) po_none (po_some (pv 4))) pa_nil))) (nomark _)) (pw_or1 (pt_not (pt_val (C8.pe_c c_is_result hr (by omega) rfl (pa_cons (pe_slice sl_list (pv 2) po_none (po_some (pv 4))) (pa_cons (pv 5) pa_nil)))))))) (pss_one (ps_ret pe_bl)) pss_nil)))))
    (pss_cons (ps_set (i := 4) sc.nd rfl (Or.inl rfl) (C8.pe_c c_law_draw hr (by omega) rfl (pa_cons (pv 0) (pa_cons (pe_op op_add (pe_callB call_len_seq rfl T.f_len bt_len (pa_cons (pv 2) pa_nil)) pe_int) pa_nil))))
    (pss_one (ps_ret (pe_cmpR (op_eqO c_eq hr (by omega)) (pe_op (op_addO c_plus T.aEffect hr (by omega)) (C8.pe_c c_effect hr (by omega) rfl (pa_cons (pe_slice sl_list (pv 2) po_none (po_some (pv 4))) pa_nil)) (C8.pe_c c_effect hr (by omega) rfl (pa_cons (pe_slice sl_list (pv 2) (po_some (pv 4)) po_none) pa_nil))) (C8.pe_c c_effect hr (by omega) rfl (pa_cons (pv 2) pa_nil)) (nomark _)))))))
end
end Tp
end
section
set_option maxRecDepth 100000
set_option maxHeartbeats 4000000
namespace Tp
open PySem PySem.Spec PyProof.Rows L2
theorem RowNew.same {H H' : Hp} {ds : List D} {v : V} (h : RowNew H H' ds v) : Same H H' := h.1
theorem RowNew.beside {H H' : Hp} {ds : List D} {v : V} {a hl : Addr} {oa oh : HO} (h : RowNew H H' ds v) (ha : H a = some oa) (hh : H hl = some oh) : RowAt (rest H' a hl) ds v := by
  obtain ⟨_, p, us, e, hn, hat, hd⟩ := h
  exact ⟨p, us, e, .inl (rest_of hat (fun z => by rw [z, ha] at hn; cases hn) (fun z => by rw [z, hh] at hn; cases hn)), hd.mono (Le.of (new_rest ha hh))⟩
theorem rowPar_le {ds : List D} (h : ∀ d ∈ ds, d.dep ≤ 3) : rowPar ds ≤ 85 * ds.length := by
  unfold rowPar
  induction ds with
  | nil => exact Nat.le_refl _
  | cons d r ih =>
    have h1 := D.par_le 3 d (h d List.mem_cons_self)
    have h2 := ih fun x hx => h x (List.mem_cons_of_mem _ hx)
    have h3 : D.cap 3 = 85 := rfl
    simp only [List.map_cons, List.sum_cons, List.length_cons]
    omega
theorem rok_short {ds : List D} (ok : Rok ds) : Rok (short (whole ds)) := by
  have h2 := short_two (whole ds)
  have hd := short_dep (whole_dep ds ok.dep)
  have hp := rowPar_le hd
  exact ⟨by omega, hd, by omega⟩
theorem whole_short2 {ds : List D} (h : ∀ p ∈ ds, p ≠ .abs) : whole (short (whole ds)) = whole ds := whole_short _ (wf_whole ds h)
theorem runD_short {ds : List D} (h : ∀ p ∈ ds, p ≠ .abs) (d : D) : runD d (short (whole ds)) = runD d ds := by
  rw [← act_whole _ (short_ne _), whole_short2 h, act_whole _ h]
section
variable {P : Program} {w : World} {K : PySem.W.Frag} {mg : Str → Option Value} {base : Heap} {vs : List V} {H : Hp} {Q : VK} {E : XK}
/-! ### squeezed_right(value, patches) -/
def sp_law_squeezed_right : Sp := fun vs H Q _ => ∃ v u d ds, vs = [v, u] ∧ DocAt H d v ∧ RowAt H ds u ∧ d.dep ≤ 3 ∧ Rok ds ∧ ds.length ≤ 800 ∧ ∀ H', Same H H' → Q (.bl true) H'
def t_law_squeezed_right (K : PySem.W.Frag) : TS :=
  (tSeq (tAsg (tCall (sp_law_logged K) [] C8.E0 (tCons (tVar 0) (tCons (tVar 1) tNil))) (gName 2))
    (tSeq (tPar 3 4 (tCons (tMeth (He.ga K "Log") "now" (sp_now K) [] C8.E0 (tVar 2) tNil) (tCons (tCall (sp_compact K) [] C8.E0 (tCons (tVar 1) tNil)) tNil)))
    (tSeq (tDrop (tMeth (He.ga K "Log") "squeeze" (sp_squeeze K) [] C8.E0 (tVar 2) (tCons (tC (.int 0)) (tCons (tCB (rLenSeq K) (tCons (tVar 1) tNil)) tNil))))
    (tSeq (tIfS (tOr (tTest (tOp rNeRow (tMeth (He.ga K "Log") "row" (sp_row K) [] C8.E0 (tVar 2) tNil) (tVar 4))) (tOr (tTest (tOp rNeDoc (tMeth (He.ga K "Log") "now" (sp_now K) [] C8.E0 (tVar 2) tNil) (tVar 3))) (tOr (tNot (tB (tCall (sp_same K) [] C8.E0 (tCons (tVar 4) (tCons (tVar 1) tNil))))) (tB (tNotN (tCall (sp_parting K) [] C8.E0 (tCons (tVar 4) (tCons (tVar 1) tNil)))))))) (tRet (tC (.bl false))) tNext)
    (tRet (tAndV (tOp (rI0 fun i j => .bl (decide (i ≤ j))) (tCB (rLenSeq K) (tCons (tVar 4) tNil)) (tCB rMin2 (tCons (tC (.int 2)) (tCons (tCB (rLenSeq K) (tCons (tVar 1) tNil)) tNil)))) (tAndV (tOp (rEqG (DIns (CE K) (REff K))) (tCall (sp_effect K) [] C8.E0 (tCons (tVar 4) tNil)) (tCall (sp_effect K) [] C8.E0 (tCons (tVar 1) tNil))) (tOp rEqRow (tCall (sp_compact K) [] C8.E0 (tCons (tVar 4) tNil)) (tVar 4)))))))))
theorem pu_law_squeezed_right (T : Tx K mg) (h : sp_law_squeezed_right vs H Q E) : t_law_squeezed_right K { nx := fun _ H' => Q .non H', rt := Q } (L2.start ["_law_value", "_law_patches", "_law_log", "_law_now", "_law_fewer"] vs) H := by
  obtain ⟨v, u, d, ds, rfl, hd, hu, hd3, ok, hlen, q⟩ := h
  have hne := hu.ne
  have fok := rok_short ok
  have fws := whole_short2 hne
  have fru := runD_short hne d
  have fne := short_ne (whole ds)
  refine sSeq (sAsg ⟨_, rfl, _, rfl, none, v, u, d, ds, rfl, hd, hu, hd3, ok, hlen, (fun _ e => nomatch e), fun a hl H1 hist s1 ha hh L hhl => ?_⟩)
  have L : LogAt a (CL K) H1 a hl d ds hist := L
  obtain ⟨dx, vb, vp, ps, LW⟩ := id L
  refine sSeq (sPar (aCons ⟨_, rfl, a, dx, _, rfl, LW.ins, rfl, a, a, hl, d, ds, hist, rfl, L, hd3, ok.dep, fun v2 H2 F2 => ?_⟩))
  have r2 := s1.trans (rest_mono (a := a) (hl := hl) F2.same)
  have d2 := F2.doc.mono (Le.of (new_rest (H' := H2) LW.ins LW.his))
  have L2' := L.same F2.same
  obtain ⟨dx2, vb2, vp2, ps2, LW2⟩ := id L2'
  have hu2 := (hu.mono (Le.of r2)).mono (Le.of same_rest)
  refine aCons ⟨_, rfl, u, ds, rfl, hu2, ok, fun v3 H3 R3 => aNil ⟨_, _, rfl, ?_⟩⟩
  have r3 := r2.trans (rest_mono (a := a) (hl := hl) R3.same)
  have f3 := R3.beside LW2.ins LW2.his
  have d3 := d2.mono (Le.of (rest_mono (a := a) (hl := hl) R3.same))
  have L3 := L2'.same R3.same
  obtain ⟨dx3, vb3, vp3, ps3, LW3⟩ := id L3
  have hu3 := (hu.mono (Le.of r3)).mono (Le.of same_rest)
  obtain ⟨l, us, el, hl3, hds3⟩ := id hu3
  subst el
  have hlu := hds3.len
  refine sSeq (sDrop ⟨_, rfl, a, dx3, _, rfl, LW3.ins, rfl, _, rfl, l, us, rfl, .inl (SqL.rd hl3), a, a, hl, d, ds, hist, by rw [hlu] <;> rfl, L3, by omega, ok.dep, fun p hp => by have := fok.dep p hp; omega, ok.len, by omega, fun H4 s4 L4 => ?_⟩)
  have r4 := r3.trans s4
  have f4 := f3.mono (Le.of s4)
  have d4 := d3.mono (Le.of s4)
  obtain ⟨dx4, vb4, vp4, ps4, LW4⟩ := id L4
  generalize hfw : short (whole ds) = fw at *
  generalize hist2 d d ds fw hist = hist' at *
  have fdep : ∀ p ∈ fw, p.dep < 20 := fun p hp => by have := fok.dep p hp; omega
  refine sSeq (sIf (xOr (xTest (xOp ⟨_, rfl, a, dx4, _, rfl, LW4.ins, rfl, a, a, hl, d, fw, hist', rfl, L4, fok.len, fok.dep, fun v5 H5 R5 => ?_⟩))))
  have s5 := R5.same
  have f5 := (f4.mono (Le.of (rest_mono (a := a) (hl := hl) s5)))
  refine ⟨_, rfl, fw, fw, R5.row, f5.mono (Le.of same_rest), fdep, _, rfl, ifF (by simp) (xOr (xTest (xOp ?_)))⟩
  have L5 := L4.same s5
  obtain ⟨dx5, vb5, vp5, ps5, LW5⟩ := id L5
  refine ⟨_, rfl, a, dx5, _, rfl, LW5.ins, rfl, a, a, hl, d, fw, hist', rfl, L5, hd3, fok.dep, fun v6 H6 F6 => ?_⟩
  rw [fru] at F6
  have r6 := rest_mono (a := a) (hl := hl) (s5.trans F6.same)
  have d6 := (d4.mono (Le.of r6)).mono (Le.of same_rest)
  have f6 := (f4.mono (Le.of r6)).mono (Le.of same_rest)
  have hu6 := (hu.mono (Le.of (r4.trans r6))).mono (Le.of same_rest)
  have sH6 := (r4.trans r6).trans same_rest
  refine ⟨_, rfl, _, _, F6.read, d6, Nat.le_trans (runD_dep _ _ ok.dep hd3) (by decide), _, rfl, ifF (by simp) (xOr (xNot (xB ?_)))⟩
  refine ⟨_, rfl, _, rfl, v3, .ref l, fw, ds, rfl, f6, hu6, fok, ok, fws, fun H7 s7 => ⟨_, rfl, ifF rfl ?_⟩⟩
  refine xB ⟨_, rfl, _, rfl, v3, .ref l, fw, ds, rfl, f6.mono (Le.of s7), hu6.mono (Le.of s7), fok, ok, fws, fun H8 s8 => ⟨_, rfl, ifF rfl (sNext ?_)⟩⟩
  have s78 := s7.trans s8
  have f8 := f6.mono (Le.of s78)
  have hu8 := hu6.mono (Le.of s78)
  obtain ⟨p9, us9, e9, hl9, hds9⟩ := id f8
  subst e9
  obtain ⟨p10, us10, e10, hl10, hds10⟩ := id hu8
  cases e10
  have hll := short_len ds
  rw [hfw] at hll
  refine sRet (xAndV (xOp ⟨_, rfl, p9, us9, rfl, .inl (SqL.rd hl9), _, rfl, l, us10, rfl, .inl (SqL.rd hl10), 2, _, rfl, _, _, rfl, rfl, ⟨_, rfl, ifT ?_ ?_⟩⟩))
  · rw [hds9.len, hds10.len]
    refine decide_eq_true ?_
    have := Nat.le_min.mp hll
    split <;> omega
  refine xAndV (xOp ⟨_, rfl, .ref p9, fw, rfl, f8, fok, fun v11 H11 s11 e11 => ?_⟩)
  refine ⟨_, rfl, .ref l, ds, rfl, hu8.mono (Le.of s11), ok, fun v12 H12 s12 e12 => ?_⟩
  rw [fws] at e11
  refine eqEff (e11.same s12) e12 (by have := whole_dep ds ok.dep; omega) fun H13 s13 => ⟨_, rfl, ifT rfl ?_⟩
  have s813 := (s11.trans s12).trans s13
  have f13 := f8.mono (Le.of s813)
  refine xOp ⟨_, rfl, .ref p9, fw, rfl, f13, fok, fun v14 H14 R14 => ?_⟩
  rw [fws, hfw] at R14
  refine ⟨_, rfl, fw, fw, R14.row, f13.mono (Le.of R14.same), fdep, ?_⟩
  rw [decide_eq_true rfl]
  exact q _ (((sH6.trans s78).trans s813).trans R14.same)
theorem ok_law_squeezed_right (T : Tx K mg) : C8.Cal P w K mg base 27 "_law_squeezed_right" sp_law_squeezed_right [] := by
  have c_law_logged := ok_law_logged (P := P) (w := w) (base := base) T
  have c_now := ok_now (P := P) (w := w) (base := base) T
  have c_row := ok_row (P := P) (w := w) (base := base) T
  have c_squeeze := ok_squeeze (P := P) (w := w) (base := base) T
  have c_compact := ok_compact (P := P) (w := w) (base := base) T
  have c_same := ok_same (P := P) (w := w) (base := base) T
  have c_parting := ok_parting (P := P) (w := w) (base := base) T
  have c_effect := ok_effect (P := P) (w := w) (base := base) T
  have c_eq := ok_eq (P := P) (w := w) (base := base) T
  have sc : FnScope ["_law_value", "_law_patches", "_law_log", "_law_now", "_law_fewer"] ["_law_value", "_law_patches"] (C8.fnScope s_law_squeezed_right) := C8.fnScope_by (by decide +kernel)
  refine T.cal 72 (st := s_law_squeezed_right) rfl (by decide +kernel) sc (fun _ _ _ _ _ _ us hl => match us, hl with | [_, _], _ => rfl) (fun vs H Q E ⟨_, _, _, _, h, _⟩ => by rw [h]; rfl) (fun cdv A outer s H vs Q E f hr h => ⟨t_law_squeezed_right K, ?_, pu_law_squeezed_right T h⟩)
  exact (pss_cons (ps_set (i := 2) sc.nd rfl (Or.inl rfl) (C8.pe_c c_law_logged hr (by omega) rfl (pa_cons (pv 0) (pa_cons (pv 1) pa_nil))))
    (pss_cons (ps_par (i := 3) (j := 4) rfl sc.nd rfl rfl (by decide) rfl rfl (pa_cons (C8.pe_mt0 c_now hr (by omega) (pv 2)) (pa_cons (C8.pe_c c_compact hr (by omega) rfl (pa_cons (pv 1) pa_nil)) pa_nil)) (by rfl))
    (pss_cons (ps_expr (C8.pe_mt c_squeeze hr (by omega) (pv 2) (pa_cons pe_int (pa_cons (pe_callB call_len_seq rfl T.f_len bt_len (pa_cons (pv 1) pa_nil)) pa_nil))))
    (pss_cons (ps_if (PW.pt (pw_or (pt_cmpR (op_neRow hr.units) (C8.pe_mt0 c_row hr (by omega) (pv 2)) (pv 4) (nomark _)) (pw_or (pt_cmpR (op_neDoc hr.units) (C8.pe_mt0 c_now hr (by omega) (pv 2)) (pv 3) (nomark _)) (pw_or (pt_not (pt_val (C8.pe_c c_same hr (by omega) rfl (pa_cons (pv 4) (pa_cons (pv 1) pa_nil))))) (pw_or1 (pt_cmp (pc_notN (C8.pe_c c_parting hr (by omega) rfl (pa_cons (pv 4) (pa_cons (pv 1) pa_nil)))))))))) (pss_one (ps_ret pe_bl)) pss_nil)
    (pss_one (ps_ret (pe_and (pe_cmpR op_le (pe_callB call_len_seq rfl T.f_len bt_len (pa_cons (pv 4) pa_nil)) (pe_callB (call_min2 rfl) rfl T.f_min bt_min (pa_cons pe_int (pa_cons (pe_callB call_len_seq rfl T.f_len bt_len (pa_cons (pv 1) pa_nil)) pa_nil))) (nomark _)) (pe_and (pe_cmpR (op_eqO c_eq hr (by omega)) (C8.pe_c c_effect hr (by omega) rfl (pa_cons (pv 4) pa_nil)) (C8.pe_c c_effect hr (by omega) rfl (pa_cons (pv 1) pa_nil)) (nomark _)) (pe_one (pe_cmpR (op_eqRow hr.units) (C8.pe_c c_compact hr (by omega) rfl (pa_cons (pv 4) pa_nil)) (pv 4) (nomark _)))))))))))
end
end Tp
end
section
set_option maxRecDepth 100000
set_option maxHeartbeats 4000000
namespace Tp
open PySem PySem.Spec PyProof.Rows L2
theorem ft_fix {ds es : List D} (h1 : ∀ p ∈ ds, p ≠ .abs) (h2 : ∀ p ∈ es, p ≠ .abs) {d : D} (h : ft (whole ds) (whole es) = .ok d) : runD d.orN ds = d.orN ∧ runD d.orN es = d.orN := by
  rw [← act_whole _ h1, ← act_whole _ h2]
  have w1 := wf_whole ds h1
  have w2 := wf_whole es h2
  generalize whole ds = e1 at *
  generalize whole es = e2 at *
  cases hk : e1.isKeep && e2.isKeep with
  | true =>
    rw [Bool.and_eq_true] at hk
    rw [E.isKeep_iff.mp hk.1, E.isKeep_iff.mp hk.2]
    exact ⟨rfl, rfl⟩
  | false =>
    rw [D.orN_ne (ft_ne w1 w2 hk h)]
    exact ft_ok e1 e2 (wm_wf w1) (wm_wf w2) h
theorem ft_never {ds es : List D} (h1 : ∀ p ∈ ds, p ≠ .abs) (h2 : ∀ p ∈ es, p ≠ .abs) {q : List Ky} (h : ft (whole ds) (whole es) = .clash q) {x : D} (e1 : runD x ds = x) (e2 : runD x es = x) : False :=
  ft_clash _ _ h x (by unfold Fix; rw [act_whole _ h1]; exact e1) (by unfold Fix; rw [act_whole _ h2]; exact e2)
section
variable {P : Program} {w : World} {K : PySem.W.Frag} {mg : Str → Option Value} {base : Heap} {vs : List V} {H : Hp} {Q : VK} {E : XK}
theorem eqCl {q : List Ky} {u v : V} (h1 : ClAt K H q u) (h2 : ClAt K H q v) (k : ∀ H', Same H H' → Q (.bl true) H') : rEqG (DIns (CC K) (RCl K)) u v H Q := by
  obtain ⟨a, dx, t, rfl, hi, _⟩ := id h1
  obtain ⟨b, dx2, t2, rfl, hi2, _⟩ := id h2
  exact ⟨⟨a, b, dx, dx2, _, _, rfl, rfl, hi, hi2, q, h1, h2⟩, k⟩
/-! ### shared_right(one, two, values) -/
def sp_law_shared_right : Sp := fun vs H Q _ => ∃ v u l ds es xs ws, vs = [v, u, .ref l] ∧ RowAt H ds v ∧ RowAt H es u ∧ Rok ds ∧ Rok es ∧ Rd H l (.lst ws) ∧ DocsAt H xs ws ∧ (∀ d ∈ xs, d.dep ≤ 3) ∧ ∀ H', Same H H' → Q (.bl true) H'
def t_law_shared_right (K : PySem.W.Frag) : TS :=
  (tSeq (tAsg (tCall (sp_shared K) [] C8.E0 (tCons (tVar 0) (tCons (tVar 1) tNil))) (gName 3))
    (tSeq (tIfS (tNot (tB (tCB (rIsi K) (tCons (tVar 3) (tCons (tC (.ref (He.ga K "Clash"))) tNil))))) (tRet (tAndV (tOp rEqDoc (tCall sp_after_all [] C8.E0 (tCons (tVar 3) (tCons (tVar 0) tNil))) (tVar 3)) (tOp rEqDoc (tCall sp_after_all [] C8.E0 (tCons (tVar 3) (tCons (tVar 1) tNil))) (tVar 3)))) tNext)
    (tSeq (tFor (iList K (tVar 2)) (gName 4)
      (tIfS (tOr (tB (tCall sp_is_result [] C8.E0 (tCons (tVar 1) (tCons (tCall sp_run [] C8.E0 (tCons (tVar 4) (tCons (tVar 0) tNil))) tNil)))) (tB (tCall sp_is_result [] C8.E0 (tCons (tVar 0) (tCons (tCall sp_run [] C8.E0 (tCons (tVar 4) (tCons (tVar 1) tNil))) tNil))))) (tRet (tC (.bl false))) tNext))
    (tRet (tAndV (tCB (rIsi K) (tCons (tCall (sp_shared K) [] C8.E0 (tCons (tVar 1) (tCons (tVar 0) tNil))) (tCons (tC (.ref (He.ga K "Clash"))) tNil))) (tOp (rEqG (DIns (CC K) (RCl K))) (tCall (sp_shared K) [] C8.E0 (tCons (tVar 1) (tCons (tVar 0) tNil))) (tVar 3)))))))
theorem pu_law_shared_right (T : Tx K mg) (h : sp_law_shared_right vs H Q E) : t_law_shared_right K { nx := fun _ H' => Q .non H', rt := Q } (L2.start ["_law_one", "_law_two", "_law_values", "_law_told", "_law_value"] vs) H := by
  obtain ⟨v, u, l, ds, es, xs, ws, rfl, hds, hes, o1, o2, hl, hws, hdep, q⟩ := h
  have n1 := hds.ne
  have n2 := hes.ne
  refine sSeq (sAsg ⟨_, rfl, _, rfl, v, u, ds, es, rfl, hds, hes, o1, o2, fun d v1 H1 hd s1 h1 => ?_, fun p v1 H1 hp s1 h1 => ?_⟩)
  · have fx := ft_fix n1 n2 hd
    have d3 : d.orN.dep ≤ 3 := D.orN_dep (ft_dep _ _ (whole_dep ds o1.dep) (whole_dep es o2.dep) hd)
    generalize d.orN = x at *
    refine sSeq (sIf (xNot (xB (xCB (aCons (xVar rfl (aCons (xC (aNil (isiC_doc T h1 ⟨false, rfl, ifT rfl ?_⟩))))))))))
    refine sRet (xAndV (xOp ⟨_, rfl, _, rfl, v1, v, x, ds, rfl, h1, hds.mono (Le.of s1), d3, o1.dep, fun v2 H2 F2 => ?_⟩))
    rw [fx.1] at F2
    refine ⟨_, rfl, x, x, F2.read, h1.mono (Le.of F2.same), by omega, _, rfl, ifT (decide_eq_true rfl) ?_⟩
    have s2 := s1.trans F2.same
    refine xOp ⟨_, rfl, _, rfl, v1, u, x, es, rfl, h1.mono (Le.of F2.same), hes.mono (Le.of s2), d3, o2.dep, fun v3 H3 F3 => ?_⟩
    rw [fx.2] at F3
    refine ⟨_, rfl, x, x, F3.read, h1.mono (Le.of (F2.same.trans F3.same)), by omega, ?_⟩
    rw [decide_eq_true rfl]
    exact q _ (s2.trans F3.same)
  · refine sSeq (sIf (xNot (xB (xCB (aCons (xVar rfl (aCons (xC (aNil (isiC_yes T h1 ⟨true, rfl, ifF rfl (sNext ?_)⟩))))))))))
    have hl1 := (Le.of s1).l _ _ hl
    refine sSeq (sFor ⟨_, rfl, l, rfl, ⟨_, SqL.rd hl1⟩, ?_⟩)
    refine for_same (SqL.rd hl1) (fun i σ H4 => ∃ c, σ = [some v, some u, some (.ref l), some v1, c]) ⟨_, rfl⟩ (fun i y σ H4 hy s4 h => ?_) (fun σ H4 s4 h => ?_)
    · obtain ⟨c, rfl⟩ := h
      obtain ⟨x, hx, hyx⟩ := hws.nth hy
      have x3 := hdep x (List.mem_of_getElem? hx)
      have s14 := s1.trans s4
      have r1 := run_run ds n1 x
      have r2 := run_run es n2 x
      refine sIf (xOr (xB ⟨_, rfl, _, rfl, _, rfl, y, v, x, ds, rfl, hyx.mono (Le.of s14), hds.mono (Le.of s14), x3, o1, fun v5 H5 F5 => ?_⟩))
      have s5 := s14.trans F5.same
      refine ⟨v5, u, runD x ds, es, rfl, F5.read, hes.mono (Le.of s5), runD_dep _ _ o1.dep x3, o2, fun H6 t6 => ⟨_, rfl, ?_⟩⟩
      refine ifF (decide_eq_false fun z => ft_never n1 n2 hp r1 z) ?_
      have s6 := s5.trans t6
      refine xB ⟨_, rfl, _, rfl, _, rfl, y, u, x, es, rfl, hyx.mono (Le.of s6), hes.mono (Le.of s6), x3, o2, fun v7 H7 F7 => ?_⟩
      have s7 := s6.trans F7.same
      refine ⟨v7, v, runD x es, ds, rfl, F7.read, hds.mono (Le.of s7), runD_dep _ _ o2.dep x3, o1, fun H8 s8 => ⟨_, rfl, ?_⟩⟩
      refine ifF (decide_eq_false fun z => ft_never n1 n2 hp z r2) (sNext ⟨s4.trans (F5.same.trans (t6.trans (F7.same.trans s8))), _, rfl⟩)
    · obtain ⟨c, rfl⟩ := h
      show ((tRet (tAndV (tCB (rIsi K) (tCons (tCall (sp_shared K) [] C8.E0 (tCons (tVar 1) (tCons (tVar 0) tNil))) (tCons (tC (.ref (He.ga K "Clash"))) tNil))) (tOp (rEqG (DIns (CC K) (RCl K))) (tCall (sp_shared K) [] C8.E0 (tCons (tVar 1) (tCons (tVar 0) tNil))) (tVar 3))))) ⟨fun _ H' => Q .non H', Q, fun _ _ => False, fun _ _ => False⟩ [some v, some u, some (.ref l), some v1, c] H4
      have s14 := s1.trans s4
      have hp2 : ft (whole es) (whole ds) = .clash p := by rw [ft_comm]; exact hp
      refine sRet (xAndV (xCB (aCons ⟨_, rfl, _, rfl, u, v, es, ds, rfl, hes.mono (Le.of s14), hds.mono (Le.of s14), o2, o1, fun d v5 H5 hd _ _ => ?_, fun p5 v5 H5 hp5 s5 h5 => ?_⟩)))
      · rw [hp2] at hd; cases hd
      rw [hp2] at hp5
      cases hp5
      refine aCons (xC (aNil (isiC_yes T h5 ⟨true, rfl, ifT rfl ?_⟩)))
      have s5' := s14.trans s5
      refine xOp ⟨_, rfl, _, rfl, u, v, es, ds, rfl, hes.mono (Le.of s5'), hds.mono (Le.of s5'), o2, o1, fun d v6 H6 hd _ _ => ?_, fun p6 v6 H6 hp6 s6 h6 => ?_⟩
      · rw [hp2] at hd; cases hd
      rw [hp2] at hp6
      cases hp6
      exact ⟨_, rfl, eqCl h6 (h1.same ((s4.trans s5).trans s6)) fun H7 s7 => q _ ((s5'.trans s6).trans s7)⟩
theorem ok_law_shared_right (T : Tx K mg) : C8.Cal P w K mg base 27 "_law_shared_right" sp_law_shared_right [] := by
  have c_shared := ok_shared (P := P) (w := w) (base := base) T
  have c_law_end := ok_law_end (P := P) (w := w) (base := base) T
  have c_is_result := ok_is_result (P := P) (w := w) (base := base) T
  have c_run := ok_run (P := P) (w := w) (base := base) T
  have c_ceq := ok_ceq (P := P) (w := w) (base := base) T
  have sc : FnScope ["_law_one", "_law_two", "_law_values", "_law_told", "_law_value"] ["_law_one", "_law_two", "_law_values"] (C8.fnScope s_law_shared_right) := C8.fnScope_by (by decide +kernel)
  refine T.cal 75 (st := s_law_shared_right) rfl (by decide +kernel) sc (fun _ _ _ _ _ _ us hl => match us, hl with | [_, _, _], _ => rfl) (fun vs H Q E ⟨_, _, _, _, _, _, _, h, _⟩ => by rw [h]; rfl) (fun cdv A outer s H vs Q E f hr h => ⟨t_law_shared_right K, ?_, pu_law_shared_right T h⟩)
  exact (pss_cons (ps_set (i := 3) sc.nd rfl (Or.inl rfl) (C8.pe_c c_shared hr (by omega) rfl (pa_cons (pv 0) (pa_cons (pv 1) pa_nil))))
    (pss_cons (ps_if (pt_not (pt_val (pe_callB call_isi rfl T.f_isinstance bt_isinstance (pa_cons (pv 3) (pa_cons (pe_glob (v := .ref (He.ga K "Clash")) rfl T.g_Clash rfl) pa_nil))))) (pss_one (ps_ret (pe_and (pe_cmpR (op_eqDoc hr.units) (C8.pe_c c_law_end hr (by omega) rfl (pa_cons (pv 3) (pa_cons (pv 0) pa_nil))) (pv 3) (nomark _)) (pe_one (pe_cmpR (op_eqDoc hr.units) (C8.pe_c c_law_end hr (by omega) rfl (pa_cons (pv 3) (pa_cons (pv 1) pa_nil))) (pv 3) (nomark _)))))) pss_nil)
    (pss_cons (ps_for PassesOwn.never rfl (pi_list (pv 2)) (pg_name (i := 4) sc.nd rfl (Or.inl rfl))
      (pss_one (ps_if (PW.pt (pw_or (pt_val (C8.pe_c c_is_result hr (by omega) rfl (pa_cons (pv 1) (pa_cons (C8.pe_c c_run hr (by omega) rfl (pa_cons (pv 4) (pa_cons (pv 0) pa_nil))) pa_nil)))) (pw_or1 (pt_val (C8.pe_c c_is_result hr (by omega) rfl (pa_cons (pv 0) (pa_cons (C8.pe_c c_run hr (by omega) rfl (pa_cons (pv 4) (pa_cons (pv 1) pa_nil))) pa_nil))))))) (pss_one (ps_ret pe_bl)) pss_nil)))
    (pss_one (ps_ret (pe_and (pe_callB call_isi rfl T.f_isinstance bt_isinstance (pa_cons (C8.pe_c c_shared hr (by omega) rfl (pa_cons (pv 1) (pa_cons (pv 0) pa_nil))) (pa_cons (pe_glob (v := .ref (He.ga K "Clash")) rfl T.g_Clash rfl) pa_nil))) (pe_one (pe_cmpR (op_eqO c_ceq hr (by omega)) (C8.pe_c c_shared hr (by omega) rfl (pa_cons (pv 1) (pa_cons (pv 0) pa_nil))) (pv 3) (nomark _)))))))))
end
end Tp
end
section
set_option maxRecDepth 100000
set_option maxHeartbeats 4000000
/-! A lambda of the law's own frame, handed on through two defs. -/
namespace Tp
open PySem PySem.Spec PyProof.Rows L2 LamX
/-- what may change beside: frames of fs0, and what was not there -/
def Okf (fs0 : List Addr) (s : Shared) (fs : List Addr) : Prop := ∀ b ∈ fs, b ∈ fs0 ∨ s.heap.get? b = none
/-- the object at f is a function -/
def IsF (h : Heap) (f : Addr) : Prop := ∃ (c : Value) (od : Option Addr) (fd : FuncData) (sl : Array (Option Value)), h.get? f = some ⟨c, od, .func fd, sl⟩
/-- f() at a state from (s, H) on -/
def Core (P : Program) (w : World) (K : PySem.W.Frag) (mg : Str → Option Value) (base : Heap) (k : Nat) (fs0 : List Addr) (f : Addr) (tl : XK → Hp → VK → Prop) (s : Shared) (H : Hp) : Prop :=
  ∀ (A : Around) (outer : List Env) (s1 : Shared) (H1 : Hp), Room k A → Env0 P w K mg base A outer s1 H1 → Un fs0 [] H H1 s.heap s1.heap →
    IsF s1.heap f ∧ ∀ (Q : VK) (E : XK), tl E H1 Q → codeAny (model P w) A (.call (.ref f) ⟨[], []⟩) (CR (L2.CX P w) outer P w H1 s1 Q E) s1
/-- .. at (s, H), made at s0 -/
def Acts (P : Program) (w : World) (K : PySem.W.Frag) (mg : Str → Option Value) (base : Heap) (k : Nat) (fs0 : List Addr) (f : Addr) (tl : XK → Hp → VK → Prop) (s0 s : Shared) (H : Hp) : Prop :=
  ∃ (H0 : Hp) (fs : List Addr), Okf fs0 s0 fs ∧ Un fs [] H0 H s0.heap s.heap ∧ Core P w K mg base k fs0 f tl s0 H0
theorem un_shrink {fs fs0 : List Addr} {H H' : Hp} {s : Shared} {h' : Heap} (ok : Okf fs0 s fs) (u : Un fs [] H H' s.heap h') : Un fs0 [] H H' s.heap h' := by
  have no : ∀ (b : Addr) (o : PySem.Obj), s.heap.get? b = some o → b ∉ fs0 → b ∉ fs := fun b o e n hb => by
    rcases ok b hb with z | z
    · exact n z
    · rw [e] at z; cases z
  refine ⟨fun b o e n h1 h2 => u.keep b o e n (no b o e h1) h2, fun b o e n h1 h2 => ?_, u.free, u.there, u.tups, u.frzs, u.tbls⟩
  by_cases hb : b ∈ fs
  · exact u.slot b o e n hb h2
  · exact ⟨o.slots, u.keep b o e n hb h2⟩
section
variable {P : Program} {w : World} {K : PySem.W.Frag} {mg : Str → Option Value} {base : Heap} {k : Nat} {fs0 fs : List Addr} {f : Addr} {tl : XK → Hp → VK → Prop} {s0 s s1 : Shared} {H H1 : Hp}
theorem Acts.later (a : Acts P w K mg base k fs0 f tl s0 s H) (ok : Okf fs0 s0 fs) (u : Un fs [] H H1 s.heap s1.heap) : Acts P w K mg base k fs0 f tl s0 s1 H1 := by
  obtain ⟨H0, fs1, ok1, u1, c⟩ := a
  refine ⟨H0, fs1 ++ fs, fun b hb => ?_, (u1.mono (fun b hb => List.mem_append_left _ hb) fun b hb => hb).trans (u.mono (fun b hb => List.mem_append_right _ hb) fun b hb => hb), c⟩
  rcases List.mem_append.mp hb with h | h
  · exact ok1 b h
  · exact ok b h
theorem Acts.run (a : Acts P w K mg base k fs0 f tl s0 s H) {A : Around} {outer : List Env} (hr : Room k A) (e0 : Env0 P w K mg base A outer s H) :
    IsF s.heap f ∧ ∀ (Q : VK) (E : XK), tl E H Q → codeAny (model P w) A (.call (.ref f) ⟨[], []⟩) (CR (L2.CX P w) outer P w H s Q E) s := by
  obtain ⟨H0, fs2, ok2, u2, c⟩ := a
  exact c A outer s H hr e0 (un_shrink ok2 u2)
/-- a frame that is new -/
theorem Acts.frame (a : Acts P w K mg base k fs0 f tl s0 s H) {outer : List Env} (ok : Okf fs0 s0 (frs outer)) {q : Str} {sc : Scope} {g : Addr} {cd : Value} : Okf fs0 s0 (frs (envOfC q sc s.heap.objs.size g cd :: outer)) := by
  obtain ⟨H0, fs, ok1, u, c⟩ := a
  intro b hb
  have hb : b ∈ s.heap.objs.size :: frs outer := hb
  rcases List.mem_cons.mp hb with e | h
  · subst e
    refine .inr ?_
    cases e : s0.heap.get? s.heap.objs.size with
    | none => rfl
    | some o =>
      obtain ⟨o', e'⟩ := u.there _ o e (fun q => nomatch q)
      exact absurd (Heap.lt_size e') (Nat.lt_irrefl _)
  · exact ok b h
end
/-- the lambda is made: so it acts -/
theorem acts_make {X : Cx} {pins : List (Addr × PySem.Obj)} {σ : L2.St} {H : Hp} {s : Shared} {f c' : Addr} {pm ctv : Value} {params : Arguments} {body : Expr} {scope : Scope} {k : Nat} {tb : XK → TE}
    (I : Inv X pins σ H s) (L : LamS X.env.scope scope) (hf : s.heap.get? f = some (PySem.W.kla_obj "<lambda>" (X.env.qual ++ "<lambda>") params body scope (cloFrom X.env.cells scope.names []) pm c' ctv)) (hfn : H f = none) (hfr : f ∉ frs X.stack)
    (hbind : bindArgs (PySem.W.kla_fn "<lambda>" (X.env.qual ++ "<lambda>") params body scope (cloFrom X.env.cells scope.names []) pm (.ref c') ctv) ⟨[], []⟩ = pure [])
    (hbody : ∀ (A : Around) (outer : List Env) (s' : Shared) (H' : Hp) (E : XK), Room k (A.deeper (lamEnv X scope s'.heap.objs.size f c')) → PE (lamCx X A outer s' H' E scope f c') body (tb E)) :
    Acts X.prog X.w X.K X.mg X.base (k + 1) (frs X.stack) f (fun E H1 Q => H1 c' = some (CodeO c' (X.env.qual ++ "<lambda>")) ∧ tb E σ H1 Q) s s H := by
  refine ⟨H, [], (fun b hb => nomatch hb), Un.refl, fun A outer s1 H1 hr e0 un => ?_⟩
  have of1 := un.keep f _ hf hfn hfr (fun z => nomatch z)
  refine ⟨⟨_, _, _, _, of1⟩, fun Q E ⟨hc, ht⟩ => ?_⟩
  obtain ⟨⟨oc, vs, t, hoc, hdc, hvc⟩, _, _⟩ := e0.hok c' _ hc
  have lim : s1.heap.NoLimit := e0.mod.nolimit.keeps fun b o e => (e0.bs b o e).1
  refine PySem.W.kla_callFunE hr.depth of1 rfl L.co L.gen rfl ⟨c', oc, vs, t, rfl, hoc, hdc, hvc⟩ ?_
  rw [hbind]
  refine wpAny_pure (wpAny_newFunctionEnv (fun y hy => (L.own y hy).2) (fun y hy => nomatch hy) (fun h2 hns hsb => ⟨lim.fresh _ hsb, ?_⟩) L.kind)
  have kp : ∀ b o, s1.heap.get? b = some o → h2.get? b = some o := fun b o e => hsb.extBut b o (Nat.ne_of_lt (Heap.lt_size e)) (Heap.get?_push_of_some _ e)
  show codeAny _ A (.expr body (lamEnv X scope s1.heap.objs.size f c')) _ _
  have J := lam_start2 (E := E) (f := f) (c' := c') (tk := s1.toks + ([] : List (Str × Value)).length) I L e0 hr.hd un hns kp
  refine PySem.W.kla_codeExpr (wpAny_mono ((hbody A outer s1 H1 E (hr.deeper _)).run [] _ _ H1 Q J ht) (fun v s2 hq => ?_) fun e s2 hq => hq)
  obtain ⟨x, H2, J2, rv, q⟩ := hq
  exact ⟨x, H2, J2.os, J2.bare, J2.base, J2.hok, rv, q⟩
/-- x(), where the slot i holds f, in a def that was entered when f acts -/
def tAct (f : Addr) (tl : XK → Hp → VK → Prop) (i : Nat) (W : WX) : TE := fun σ H Q => σ[i]? = some (some (.ref f)) ∧ ∃ E : XK, (∀ cls d H', E cls d H' → W cls d σ H') ∧ tl E H Q
theorem pe_acts {CXg : CXT} {P : Program} {w : World} {K : PySem.W.Frag} {mg : Str → Option Value} {base : Heap} {A : Around} {outer : List Env} {s0 s : Shared} {H : Hp} {Eg : XK} {Ng : List Str} {qg : Str} {sg : Scope} {g f : Addr} {cdg : Value} {k i : Nat} {a : Str} {pn : List (Addr × PySem.Obj)} {xe : Value → Shared → Prop} {W : WX} {p1 p2 : Pos} {fs0 : List Addr} {tl : XK → Hp → VK → Prop}
    (ac : Acts P w K mg base k fs0 f tl s0 s H) (ok : Okf fs0 s0 (frs outer)) (tk : Takes ((cxOf CXg P w K mg base Ng qg sg g cdg A outer s H Eg).tr pn xe) W) (hr : Room k (A.deeper (envOfC qg sg s.heap.objs.size g cdg)))
    (hN : Ng[i]? = some a) (hv : Vis sg a) (hd : (a == ("__debug__" : Str)) = false := by decide) (hcd : (a == ("__classdict__" : Str)) = false := by decide) :
    PE ((cxOf CXg P w K mg base Ng qg sg g cdg A outer s H Eg).tr pn xe) (.Call (.Name a p1) [] [] p2) (tAct f tl i W) := by
  refine ⟨fun pz sz σz Hz Q Iz ⟨hs, E, hW, ht⟩ => ?_⟩
  refine wpAny_Call_Name_kw (thn ((pe_var (pos := p1) (i := i) hN hv hd hcd).run pz sz σz Hz (fun v H1 => v = .ref f ∧ H1 = Hz) Iz ⟨.ref f, hs, rfl, rfl⟩) fun u s1 ⟨v, H1, I1, r1, ev, eH⟩ => ?_)
  subst ev
  subst eH
  obtain rfl : u = Value.ref f := r1
  have un : Un (frs outer) [] H H1 s.heap s1.heap := I1.base
  obtain ⟨isf, run⟩ := (ac.later ok un).run hr I1.env0
  refine PySem.W.callWith_F0 isf (wpAny_call (codeAny_mono (run Q E ht) fun r s2 hq => ?_))
  match r, hq with
  | .error e, hq => exact tk e s2 (XE.of_call I1 (fun cls d H' h => hW cls d H' h) hq)
  | .ok (.ret u), hq => exact I1.after hq
  | .ok .next, hq => exact hq.elim
  | .ok .brk, hq => exact hq.elim
  | .ok .cont, hq => exact hq.elim
end Tp
end
section
set_option maxRecDepth 100000
set_option maxHeartbeats 4000000
namespace Tp
open PySem PySem.Spec PyProof.Rows L2 LamX
/-! ### asked(ask) -/
def sp_law_asked (K : PySem.W.Frag) (f : Addr) (tl : XK → Hp → VK → Prop) : Sp := fun vs H Q _ => vs = [.ref f] ∧
  tl (fun cls d H' => cls = .ref (CN K) ∧ ∃ dd v, d = some dd ∧ H' dd = some (.xd [("path", v)]) ∧ ∀ t, H' t = none → Q (.ref t) (upd H' t (.tup [.str "none", v]))) H (fun v H' => [V.str "patch", v].length ≤ sizeLine ∧ ∀ t, H' t = none → Q (.ref t) (upd H' t (.tup [.str "patch", v])))
section
variable {P : Program} {w : World} {K : PySem.W.Frag} {mg : Str → Option Value} {base : Heap} {k : Nat} {fs0 : List Addr} {f : Addr} {tl : XK → Hp → VK → Prop} {s0 s : Shared} {H : Hp} {A : Around} {outer : List Env} {Q : VK}
theorem run_asked (T : Tx K mg) (N : Nx K) (ac : Acts P w K mg base k fs0 f tl s0 s H) (ok : Okf fs0 s0 (frs outer)) (hr : Room (k + 1) A) (e0 : Env0 P w K mg base A outer s H) (h : sp_law_asked K f tl [.ref f] H Q C8.E0) :
    codeAny (model P w) A (.call (.ref (He.ga K "_law_asked")) ⟨[.ref f], []⟩) (CR C8.CX0 outer P w H s Q C8.E0) s := by
  obtain ⟨fd, F⟩ := T.dfs 73 _ rfl
  obtain ⟨F0, df⟩ := Fun_of (st := s_law_asked) F
  have b : Binds K fd ["_law_ask"] [] := F0.binds df fun _ _ _ _ _ _ us hl => match us, hl with | [_], _ => rfl
  have sc : FnScope ["_law_ask", "e"] ["_law_ask"] (C8.fnScope s_law_asked) := C8.fnScope_by (by decide +kernel)
  obtain ⟨oc, od, dV, kV, doc, pm, an, cdv, ct, osl, rfl, lk, hcd⟩ := F0.ex
  refine run_ofS (CX := C8.CX0) (N := ["_law_ask", "e"]) (ps := ["_law_ask"]) (us := [.ref f]) (vs := [.ref f]) lk hcd sc hr e0 (b s [.ref f] (e0.mod.kin.keeps fun b o e => (e0.bs b o e).1) rfl) (.cons rfl .nil) rfl fun hr2 => ?_
  refine ⟨_, PSs.nox (pss_one (ps_try_as (i := 1) (c := .ref (CN K)) (Wout := fun _ _ _ _ => False) (tb := fun W => tRet (tTup (tCons (tC (.str "patch")) (tCons (tAct f tl 0 W) tNil))))
      (ts := fun a cls d => tRet (tTup (tCons (tC (.str "none")) (tCons (tXf a cls d (CN K) "path" (tVar 1)) tNil)))) rfl rfl sc.nd rfl rfl ⟨rfl, by decide, .inl T.g_NoChange⟩ takes0 (fun W pn xe tk _ => pss_one (ps_ret (pe_tup (pa_cons pe_str (pa_cons (pe_acts (CXg := C8.CX0) (Eg := C8.E0) ac ok tk hr2 rfl (.inl rfl)) pa_nil)))))
      (fun a oe cls d pn hz hf => pss_one (ps_ret (pe_tup (pa_cons pe_str (pa_cons (pe_xf N.xfc N.pth hz hf (pv 1)) pa_nil))))))), ?_⟩
  obtain ⟨_, h⟩ := h
  refine ⟨rfl, fun cls d H' => cls = .ref (CN K) ∧ ∃ dd v, d = some dd ∧ H' dd = some (.xd [("path", v)]) ∧ ∀ t, H' t = none → Q (.ref t) (upd H' t (.tup [.str "none", v])), fun cls d H' hE => ?_, ?_⟩
  · obtain ⟨rfl, dd, v, rfl, hx, q⟩ := hE
    exact ⟨true, N.exm, fun _ a ha => ⟨_, rfl, rfl, rfl, dd, _, v, rfl, hx, rfl, twoS, q⟩, fun z => nomatch z⟩
  · exact h
end
end Tp
end
section
set_option maxRecDepth 100000
set_option maxHeartbeats 4000000
namespace Tp
open PySem PySem.Spec PyProof.Rows L2 LamX
theorem way_app : ∀ (p q : List Ky) (d : D), wayTo d (p ++ q) = wayTo (wayTo d p) q
  | [], _, _ => rfl
  | k :: p, q, d => way_app p q (d.kid k)
/-- a step on the way to an atom -/
theorem way_step {d : D} {x : At} {q : List Ky} (h : wayTo d q = .atom x) {i : Nat} {k : Ky} (hk : q[i]? = some k) : ∃ f, wayTo d (q.take i) = .obj f ∧ f k ≠ .abs ∧ wayTo d (q.take (i + 1)) = f k := by
  have e : wayTo d (q.take (i + 1)) = (wayTo d (q.take i)).kid k := by
    rw [take_more hk, way_app] <;> rfl
  have h2 : wayTo (wayTo d (q.take (i + 1))) (q.drop (i + 1)) = .atom x := by rw [← way_app, List.take_append_drop]; exact h
  have ne : wayTo d (q.take (i + 1)) ≠ .abs := fun z => by
    rw [z, way_abs] at h2
    cases h2
  rw [e] at ne
  cases hd : wayTo d (q.take i) with
  | abs => rw [hd] at ne; exact absurd rfl ne
  | atom y => rw [hd] at ne; exact absurd rfl ne
  | obj f =>
    rw [hd] at ne e
    exact ⟨f, rfl, ne, e⟩
section
variable {P : Program} {w : World} {K : PySem.W.Frag} {mg : Str → Option Value} {base : Heap} {k : Nat} {fs0 : List Addr} {f : Addr} {tl : XK → Hp → VK → Prop} {s0 s : Shared} {H : Hp} {A : Around} {outer : List Env} {Q : VK} {E : XK}
theorem pe_asked {CXg : CXT} {Eg : XK} {Ng : List Str} {qg : Str} {sg : Scope} {g : Addr} {cdg : Value} {p pos : Pos} {e : Expr} {es : List Expr} {t : TA} (T : Tx K mg) (N : Nx K) (ac : Acts P w K mg base k fs0 f tl s0 s H) (ok : Okf fs0 s0 (frs outer)) (hr : Room (k + 1) (A.deeper (envOfC qg sg s.heap.objs.size g cdg)))
    (hg : Gl (cxOf CXg P w K mg base Ng qg sg g cdg A outer s H Eg).nox "_law_asked") (ha : PA (cxOf CXg P w K mg base Ng qg sg g cdg A outer s H Eg).nox (e :: es) t)
    (hdb : (("_law_asked" : Str) == ("__debug__" : Str)) = false := by decide) (he : starEach (e :: es) (cxOf CXg P w K mg base Ng qg sg g cdg A outer s H Eg).nox.env = (false, eval e (cxOf CXg P w K mg base Ng qg sg g cdg A outer s H Eg).nox.env) :: starEach es (cxOf CXg P w K mg base Ng qg sg g cdg A outer s H Eg).nox.env := by rfl)
    (hpl : (backTo pos (starEach es (cxOf CXg P w K mg base Ng qg sg g cdg A outer s H Eg).nox.env)).any (·.1) = false := by rfl) :
    PE (cxOf CXg P w K mg base Ng qg sg g cdg A outer s H Eg).nox (.Call (.Name "_law_asked" p) (e :: es) [] pos) (tCall (sp_law_asked K f tl) [] C8.E0 t) := by
  obtain ⟨fd, F⟩ := T.dfs 73 _ rfl
  refine ⟨fun pz sz σz Hz Q Iz h => ?_⟩
  refine wpAny_Call_Name_kw (ld_glob Iz hg T.g__law_asked ?_ hdb)
  refine PySem.W.callWith_K (h₀ := base) Iz.ok.mod.kin F.kp (thn (ha.run pos pz sz σz Hz _ Iz h) fun us s1 ⟨ws, H1, I1, r, q⟩ => ⟨I1.kIn, ?_⟩) he hpl
  have q : sp_law_asked K f tl (ws ++ []) H1 Q C8.E0 := q
  rw [List.append_nil] at q
  obtain ⟨ew, _⟩ := id q
  subst ew
  obtain ⟨u, eu, ru⟩ := vals1 r
  subst eu
  obtain rfl : u = Value.ref f := ru
  have un : Un (frs outer) [] H H1 s.heap s1.heap := I1.base
  refine wpAny_call (codeAny_mono (run_asked T N (ac.later ok un) (ac.frame ok) hr I1.env0 q) fun r s2 hq => ?_)
  match r, hq with
  | .error e, hq => exact (show False from hq).elim
  | .ok (.ret u), hq => exact I1.after hq
  | .ok .next, hq => exact hq.elim
  | .ok .brk, hq => exact hq.elim
  | .ok .cont, hq => exact hq.elim
/-! ### led_right(log, ask, goal) -/
def sp_law_led_right (K : PySem.W.Frag) (f : Addr) (tl : XK → Hp → VK → Prop) : Sp := fun vs H Q _ => ∃ sx a hl d ds hist g gd, vs = [.ref a, .ref f, g] ∧ LogAt sx (CL K) H a hl d ds hist ∧ DocAt (rs sx H a hl) gd g ∧ d.dep ≤ 3 ∧ gd.dep ≤ 3 ∧ ds.length ≤ 100 ∧ (∀ p ∈ ds, p.dep ≤ 3) ∧ rowPar ds ≤ 115 ∧ hist.length ≤ 900 ∧
  (∀ E1 Q1, LedW K H (runD d ds) gd Q1 E1 → tl E1 H Q1) ∧ ∀ H', Same (rest H a hl) (rest H' a hl) → LogAt sx (CL K) H' a hl d ds hist → Q (.bl true) H'
def t_law_led_right (K : PySem.W.Frag) (f : Addr) (tl : XK → Hp → VK → Prop) : TS :=
  (tSeq (tAsg (tCall (sp_law_asked K f tl) [] C8.E0 (tCons (tVar 1) tNil)) (gTup K 2 (gCons (gName 3) (gCons (gName 4) gNil))))
    (tSeq (tIfS (tTest (tOp rEq (tVar 3) (tC (.str "none")))) (tSeq (tAsg (tVar 2) (gName 5))
    (tSeq (tFor (iTup K (tVar 4)) (gName 6)
      (tAsg (tDGet (tVar 5) (tVar 6)) (gName 5)))
    (tRet (tAndV (tIsN (tVar 5)) (tOp (rNeD K) (tVar 4) (tTup tNil)))))) tNext)
    (tSeq (tDrop (tMeth (He.ga K "Log") "add" (sp_add K) [] C8.E0 (tVar 0) (tCons (tVar 4) tNil)))
    (tSeq (tIfS (tOr (tTest (tOp rNeDoc (tMeth (He.ga K "Log") "now" (sp_now K) [] C8.E0 (tVar 0) tNil) (tVar 2))) (tTest (tOp rNeDoc (tCall (sp_led K) [] C8.E0 (tCons (tMeth (He.ga K "Log") "now" (sp_now K) [] C8.E0 (tVar 0) tNil) (tCons (tVar 2) tNil))) (tIf (tB (tCB (rIsi K) (tCons (tVar 2) (tCons (tC (.ty "dict")) tNil)))) tDNewK (tVar 2))))) (tRet (tC (.bl false))) tNext)
    (tSeq (tDrop (tMeth (He.ga K "Log") "back" (sp_back K) [] C8.E0 (tVar 0) tNil))
    (tRet (tC (.bl true))))))))
theorem pu_law_led_right (T : Tx K mg) {vs : List V} (h : sp_law_led_right K f tl vs H Q E) : t_law_led_right K f tl { nx := fun _ H' => Q .non H', rt := Q } (L2.start ["_law_log", "_law_ask", "_law_goal", "_law_word", "_law_patch_here", "_law_here", "_law_key"] vs) H := by
  obtain ⟨sx, a, hl, d, ds, hist, g, gd, rfl, L, hg, hd3, hg3, hlen, hdep, hpar, hh, act, q⟩ := h
  have hgH := hg.mono (Le.of (same_rs (sx := sx) (H := H) (a := a) (hl := hl)))
  have gne := hgH.ne
  refine sSeq (sAsg ⟨_, rfl, rfl, act _ _ ⟨fun p v1 H1 hp F => ⟨twoS, fun t ht => ?_⟩, fun q0 hq d0 t H1 s1 h1 h2 => ⟨rfl, d0, _, rfl, h1, fun t2 ht2 => ?_⟩⟩⟩)
  · -- a patch
    obtain ⟨e1, pne⟩ := led_ok gne hp
    have p3 : p.dep ≤ 3 := Nat.le_trans (led_dep hp) hg3
    have s2 := F.same.trans (same_new ht (.tup [.str "patch", v1]))
    have hpv := F.read.mono (Le.of (same_new ht (.tup [.str "patch", v1])))
    refine gPair upd_same ?_
    generalize upd H1 t (.tup [.str "patch", v1]) = H2 at *
    refine sSeq (sIf (xTest (xOp ⟨_, rfl, rfl, _, rfl, ifF (by decide) (sNext ?_)⟩)))
    have L2' := L.same s2
    obtain ⟨dx2, vb2, vp2, ps2, LW2⟩ := id L2'
    have rk : Rok (ds ++ [p]) := by
      refine ⟨by rw [List.length_append]; show ds.length + 1 ≤ 900; omega, fun x hx => ?_, ?_⟩
      · rcases List.mem_append.mp hx with hx | hx
        · exact hdep x hx
        · rw [List.mem_singleton.mp hx]; exact p3
      · have h1 := D.par_le 3 p p3
        have h2 : D.cap 3 = 85 := rfl
        unfold rowPar at *
        rw [List.map_append, List.sum_append]
        show _ + (p.par + 0) ≤ 200
        omega
    refine sSeq (sDrop ⟨_, rfl, a, dx2, _, rfl, LW2.ins, rfl, _, rfl, sx, a, hl, d, ds, hist, v1, p, rfl, L2', hpv, rk, by omega, hh, fun H3 s3 L3 => ?_⟩)
    have r3 := (rest_mono (a := a) (hl := hl) s2).trans s3
    have e3 : runD d (ds ++ [p]) = gd := by rw [runD_snoc]; exact e1
    obtain ⟨dx3, vb3, vp3, ps3, LW3⟩ := id L3
    have g3 : DocAt (rest H3 a hl) gd g := (hg.mono (Le.of same_rest)).mono (Le.of r3)
    refine sSeq (sIf (xOr (xTest (xOp ⟨_, rfl, a, dx3, _, rfl, LW3.ins, rfl, sx, a, hl, d, _, _, rfl, L3, hd3, rk.dep, fun v4 H4 F4 => ?_⟩))))
    rw [e3] at F4
    have g4 := g3.mono (Le.of (rest_mono (a := a) (hl := hl) F4.same))
    refine ⟨_, rfl, gd, gd, F4.read, g4.mono (Le.of same_rest), by omega, _, rfl, ifF (by simp) ?_⟩
    have L4 := L3.same F4.same
    obtain ⟨dx4, vb4, vp4, ps4, LW4⟩ := id L4
    refine xTest (xOp ⟨_, rfl, a, dx4, _, rfl, LW4.ins, rfl, sx, a, hl, d, _, _, rfl, L4, hd3, rk.dep, fun v5 H5 F5 => ?_⟩)
    rw [e3] at F5
    have g5 := (g4.mono (Le.of (rest_mono (a := a) (hl := hl) F5.same))).mono (Le.of same_rest)
    refine ⟨_, rfl, v5, g, gd, gd, rfl, F5.read, g5, hg3, hg3, fun r v6 H6 hr F6 => ?_, fun q0 hq => ?_⟩
    · rw [led_self] at hr
      have hr := Ft.ok.inj hr
      have g6 := g5.mono (Le.of F6.same)
      have s456 := F4.same.trans (F5.same.trans F6.same)
      have fin : ∀ H7, Same H6 H7 → (tSeq (tDrop (tMeth (He.ga K "Log") "back" (sp_back K) [] C8.E0 (tVar 0) tNil)) (tRet (tC (.bl true)))) ⟨fun _ H' => Q .non H', Q, fun _ _ => False, fun _ _ => False⟩ [some (.ref a), some (.ref f), some g, some (.str "patch"), some v1, none, none] H7 := fun H7 s7 => by
        have L7 := L3.same (s456.trans s7)
        obtain ⟨dx7, vb7, vp7, ps7, LW7⟩ := id L7
        refine sSeq (sDrop ⟨_, rfl, a, dx7, _, rfl, LW7.ins, rfl, sx, a, hl, d, _, hist, d, ds, rfl, L7, fun H8 s8 L8 => ?_⟩)
        exact sRet (q H8 ((r3.trans (rest_mono (s456.trans s7))).trans s8) L8)
      refine xIf (xDict rfl g6 ?_)
      cases ho : gd.isObj with
      | true =>
        rw [ho, if_pos rfl] at hr
        refine ifT rfl fun p7 hp7 => ?_
        have s7 := same_new hp7 (.dK [])
        have hD : DocAt (upd H6 p7 (.dK [])) (.obj fun _ => .abs) (.ref p7) := DocAt.obj_iff.mpr ⟨p7, [], rfl, .inl upd_same, tabOk_nil, fun k => rfl⟩
        have h6 := F6.read.mono (Le.of s7)
        rw [← hr] at h6
        exact ⟨_, _, h6, hD, by decide, _, rfl, ifF (by simp) (sNext (fin _ s7))⟩
      | false =>
        rw [ho, if_neg Bool.false_ne_true] at hr
        subst hr
        exact ifF rfl ⟨_, rfl, _, _, F6.read, g6, by omega, _, rfl, ifF (by simp) (sNext (fin _ (Same.refl _)))⟩
    · rw [led_self] at hq; cases hq
  · -- no patch
    obtain ⟨qne, hway⟩ := led_no hq
    have s2 := s1.trans (same_new ht2 (.tup [.str "none", .ref t]))
    have ht : (upd H1 t2 (.tup [.str "none", .ref t])) t = some (.tup (pth q0)) := same_new ht2 _ _ _ h2
    refine gPair upd_same ?_
    generalize upd H1 t2 (.tup [.str "none", .ref t]) = H2 at *
    have g2 := hgH.mono (Le.of s2)
    refine sSeq (sIf (xTest (xOp ⟨_, rfl, rfl, _, rfl, ifT (by decide) ?_⟩)))
    refine sSeq (sAsg ⟨_, rfl, ?_⟩)
    refine sSeq (sFor ⟨_, rfl, t, rfl, ⟨_, SqT.of ht⟩, ?_⟩)
    refine for_it (D := ⟨_, _, fun _ _ => False, fun _ _ => False⟩) (walk_tup (xs := pth q0)) (fun i σ H4 => H4 = H2 ∧ ∃ u c, σ = [some (.ref a), some (.ref f), some g, some (.str "none"), some (.ref t), some u, c] ∧ DocAt H2 (wayTo gd (q0.take i)) u)
      ⟨rfl, _, _, rfl, g2⟩ (fun _ _ _ _ h => by rw [h.1]; exact SqT.of ht) (fun i x σ H4 H5 hi h y => ?_) (fun σ H4 h => ?_)
    · obtain ⟨rfl, u, c, rfl, hu⟩ := h
      obtain ⟨rfl, hx⟩ := y
      obtain ⟨k, hk, rfl⟩ := map_nth hx
      obtain ⟨f0, e0, fne, e1⟩ := way_step hway hk
      rw [e0] at hu
      obtain ⟨b, kvs, rfl, r, tok, m⟩ := DocAt.obj_iff.mp hu
      have mk := m k
      cases hv : valV kvs (kK k) with
      | none => exact absurd (mk.abs_iff.mp hv) fne
      | some z =>
        rw [hv] at mk
        exact sAsg ⟨_, rfl, _, rfl, b, z, rfl, dgetU r hv, rfl, z, _, rfl, by rw [e1]; exact mk⟩
    · obtain ⟨rfl, u, c, rfl, hu⟩ := h
      show (tRet (tAndV (tIsN (tVar 5)) (tOp (rNeD K) (tVar 4) (tTup tNil)))) ⟨fun _ H' => Q .non H', Q, fun _ _ => False, fun _ _ => False⟩ [some (.ref a), some (.ref f), some g, some (.str "none"), some (.ref t), some u, c] H4
      have el : (pth q0).length = q0.length := by unfold pth; rw [List.length_map]
      rw [el, List.take_length, hway] at hu
      have hu : u = .non := hu
      subst hu
      refine sRet (xAndV ⟨_, rfl, true, rfl, ifT rfl (xOp ⟨_, rfl, xTup (aNil ⟨Nat.zero_le _, fun p hp => ?_⟩)⟩)⟩)
      have s3 := same_new hp (.tup [])
      refine ⟨pthD q0, pthD [], dp_pth (SqT.of (s3 _ _ ht)), dp_pth (SqT.of upd_same), shaped_pth _, shaped_pth _, ?_⟩
      rw [eqv_pth, decide_eq_false qne]
      exact q _ (rest_mono (s2.trans s3)) (L.same (s2.trans s3))
end
end Tp
end
section
set_option maxRecDepth 100000
set_option maxHeartbeats 4000000
namespace Tp
open PySem PySem.Spec PyProof.Rows L2 LamX
section
variable {P : Program} {w : World} {K : PySem.W.Frag} {mg : Str → Option Value} {base : Heap} {fs0 : List Addr} {f : Addr} {tl : XK → Hp → VK → Prop} {s0 s : Shared} {H : Hp} {A : Around} {outer : List Env} {Q : VK}
theorem run_led (T : Tx K mg) (N : Nx K) (ac : Acts P w K mg base 17 fs0 f tl s0 s H) (ok : Okf fs0 s0 (frs outer)) (hr : Room 19 A) (e0 : Env0 P w K mg base A outer s H) {vs : List V} {us : List Value} (h : sp_law_led_right K f tl vs H Q C8.E0) (r : Vals vs us) :
    codeAny (model P w) A (.call (.ref (He.ga K "_law_led_right")) ⟨us, []⟩) (CR C8.CX0 outer P w H s Q C8.E0) s := by
  have c_change := ok_change (P := P) (w := w) (base := base) T N
  have c_now := ok_now (P := P) (w := w) (base := base) T
  have c_add := ok_ladd (P := P) (w := w) (base := base) T
  have c_back := ok_back (P := P) (w := w) (base := base) T
  obtain ⟨fd, F⟩ := T.dfs 74 _ rfl
  obtain ⟨F0, df⟩ := Fun_of (st := s_law_led_right) F
  have b : Binds K fd ["_law_log", "_law_ask", "_law_goal"] [] := F0.binds df fun _ _ _ _ _ _ us hl => match us, hl with | [_, _, _], _ => rfl
  have sc : FnScope ["_law_log", "_law_ask", "_law_goal", "_law_word", "_law_patch_here", "_law_here", "_law_key"] ["_law_log", "_law_ask", "_law_goal"] (C8.fnScope s_law_led_right) := C8.fnScope_by (by decide +kernel)
  obtain ⟨oc, od, dV, kV, doc, pm, an, cdv, ct, osl, rfl, lk, hcd⟩ := F0.ex
  have hl : vs.length = 3 := by
    obtain ⟨_, _, _, _, _, _, _, _, e, _⟩ := id h
    rw [e] <;> rfl
  have hl2 : us.length = 3 := by rw [← r.length]; exact hl
  have hb := b s us (e0.mod.kin.keeps fun b o e => (e0.bs b o e).1) (by rw [List.append_nil]; exact hl2)
  rw [List.append_nil] at hb
  refine run_ofS (CX := C8.CX0) (N := ["_law_log", "_law_ask", "_law_goal", "_law_word", "_law_patch_here", "_law_here", "_law_key"]) (ps := ["_law_log", "_law_ask", "_law_goal"]) (us := us) (vs := vs) lk hcd sc hr e0 hb r hl fun hr => ?_
  have hu := hu_of hr
  refine ⟨t_law_led_right K f tl, PSs.nox ?_, pu_law_led_right T h⟩
  exact (pss_cons (ps_asg (pe_asked (CXg := C8.CX0) (Eg := C8.E0) T N ac ok hr rfl (pa_cons (pv 1) pa_nil)) (pg_tup rfl (pgs_cons (pg_name (i := 3) sc.nd rfl (Or.inl rfl)) (pgs_cons (pg_name (i := 4) sc.nd rfl (Or.inl rfl)) pgs_nil))))
    (pss_cons (ps_if (pt_cmpR op_eq (pv 3) pe_str (nomark _)) (pss_cons (ps_set (i := 5) sc.nd rfl (Or.inl rfl) (pv 2))
    (pss_cons (ps_for PassesOwn.never rfl (pi_tup (pv 4)) (pg_name (i := 6) sc.nd rfl (Or.inl rfl))
      (pss_one (ps_set (i := 5) sc.nd rfl (Or.inl rfl) (pe_dget hu (pv 5) (pv 6) (fun _ _ => rfl)))))
    (pss_one (ps_ret (pe_and (pe_cmp (pc_isN (pv 5))) (pe_one (pe_cmpR (op_neD hr.units) (pv 4) (pe_tup pa_nil) (nomark _)))))))) pss_nil)
    (pss_cons (ps_expr (C8.pe_mt c_add hr (by omega) (pv 0) (pa_cons (pv 4) pa_nil)))
    (pss_cons (ps_if (PW.pt (pw_or (pt_cmpR (op_neDoc hr.units) (C8.pe_mt0 c_now hr (by omega) (pv 0)) (pv 2) (nomark _)) (pw_or1 (pt_cmpR (op_neDoc hr.units) (pe_cX (E := C8.E0) c_change hr (by omega) takes0 (fun _ _ _ _ h => h) rfl (pa_cons (C8.pe_mt0 c_now hr (by omega) (pv 0)) (pa_cons (pv 2) pa_nil))) (pe_ifExp (pt_val (pe_callB call_isi rfl T.f_isinstance bt_isinstance (pa_cons (pv 2) (pa_cons (pe_bltn (v := .ty "dict") rfl T.f_dict bt_dict rfl) pa_nil)))) pe_dnewK (pv 2)) (nomark _))))) (pss_one (ps_ret pe_bl)) pss_nil)
    (pss_cons (ps_expr (C8.pe_mt0 c_back hr (by omega) (pv 0)))
    (pss_one (ps_ret pe_bl)))))))
end
/-- _law_led_right(x, lambda: body, y) in the law's frame -/
def tLed (K : PySem.W.Frag) (Pt : Addr) (q : Str) (i j : Nat) (tb : XK → TE) : TE := fun σ H Q => ∃ v1 v3, σ[i]? = some (some v1) ∧ σ[j]? = some (some v3) ∧ TabS H Pt q ∧ ∀ H1 f c', ExtN H H1 → TabS H1 Pt q → H1 f = none → H1 c' = some (CodeO c' q) →
  sp_law_led_right K f (fun E H2 Q2 => H2 c' = some (CodeO c' q) ∧ tb E σ H2 Q2) [v1, .ref f, v3] H1 Q C8.E0
theorem pe_led {X : Cx} (T : Tx X.K X.mg) (N : Nx X.K) {i j : Nat} {x1 x3 : Expr} {params : Arguments} {body : Expr} {scope : Scope} {lpos p pos : Pos} {c Pt : Addr} {tb : XK → TE} (h1 : PE X x1 (tVar i)) (h3 : PE X x3 (tVar j)) (hg : Gl X "_law_led_right")
    (TB : TabB X.base X.mg c Pt) (hcode : X.env.code = .ref c) (hr : Room 19 X.A) (L : LamS X.env.scope scope) (hdef : defaultsOf params X.env = ([], []))
    (hbind : ∀ (q : Str) (cl : List (Str × Addr)) (pm cv ctv : Value), bindArgs (PySem.W.kla_fn "<lambda>" q params body scope cl pm cv ctv) ⟨[], []⟩ = pure [])
    (hbody : ∀ (f c' : Addr) (A : Around) (outer : List Env) (s : Shared) (H : Hp) (E : XK), Room 16 (A.deeper (lamEnv X scope s.heap.objs.size f c')) → PE (lamCx X A outer s H E scope f c') body (tb E))
    (hdb : (("_law_led_right" : Str) == ("__debug__" : Str)) = false := by decide) (he : starEach [x1, .Lambda params body scope lpos, x3] X.env = (false, eval x1 X.env) :: starEach [.Lambda params body scope lpos, x3] X.env := by rfl)
    (he2 : starEach [.Lambda params body scope lpos, x3] X.env = [(false, eval (.Lambda params body scope lpos) X.env), (false, eval x3 X.env)] := by rfl)
    (hpl : (backTo pos (starEach [.Lambda params body scope lpos, x3] X.env)).any (·.1) = false := by rfl) :
    PE X (.Call (.Name "_law_led_right" p) [x1, .Lambda params body scope lpos, x3] [] pos) (tLed X.K Pt (X.env.qual ++ "<lambda>") i j tb) := by
  obtain ⟨fd, F⟩ := T.dfs 74 _ rfl
  refine ⟨fun pins s σ H Q I ⟨v1, v3, e1, e3, hT, h⟩ => ?_⟩
  refine wpAny_Call_Name_kw (ld_glob I hg T.g__law_led_right ?_ hdb)
  refine PySem.W.callWith_K (h₀ := X.base) I.ok.mod.kin F.kp ?_ he hpl
  rw [he, he2]
  show wpAny _ _ (spliced ((false, eval x1 X.env) :: (false, eval (.Lambda params body scope lpos) X.env) :: (false, eval x3 X.env) :: [])) _ _ s
  refine Calls.spliced_cons (thn (h1.run pins s σ H (fun v H1 => v = v1 ∧ H1 = H) I ⟨v1, e1, rfl, rfl⟩) fun u1 s1 ⟨x, H0, I1, r1, ex, eH⟩ => ?_)
  subst ex
  subst eH
  refine Calls.spliced_cons (lam_make2 (T := [(Pt, X.env.qual ++ "<lambda>")]) I1 TB hcode List.mem_cons_self (fun p hp _ => by rw [List.mem_singleton.mp hp]) (fun p hp => by rw [List.mem_singleton.mp hp]; exact hT) hdef (L.has I.ok) fun f c' pm ctv H1 s2 I2 eN T1 hf hfn hfr hco => ?_)
  have hT1 : TabS H1 Pt (X.env.qual ++ "<lambda>") := T1 _ List.mem_cons_self
  have nloc : f ≠ X.env.locals := fun z => by
    obtain ⟨m, ⟨o, es, ep, ho, hd, _⟩, _⟩ := I2.loc
    rw [← z, hf] at ho
    cases ho
    cases hd
  have nfs : f ∉ X.fs := fun z => by
    rcases I2.ok.stk with hs | ⟨hs, _⟩
    · exact hfr (by rw [hs]; exact z)
    · refine hfr ?_
      rw [hs]
      obtain ⟨en, hen, e⟩ := List.mem_filterMap.mp z
      exact List.mem_filterMap.mpr ⟨en, List.mem_cons_of_mem _ hen, e⟩
  have I2p : Inv X ((f, PySem.W.kla_obj "<lambda>" (X.env.qual ++ "<lambda>") params body scope (cloFrom X.env.cells scope.names []) pm c' ctv) :: pins) σ H1 s2 := by
    refine ⟨I2.ok, I2.os, I2.bare, I2.base, I2.loc, I2.cell, I2.free, I2.freeC, fun p hp => ?_, I2.hok, I2.len⟩
    rcases List.mem_append.mp hp with hp | hp
    · exact I2.pin p (List.mem_append_left _ hp)
    · rcases List.mem_cons.mp hp with e | hp
      · subst e
        exact ⟨hf, hfn, nloc, nfs, fun v z => nomatch z⟩
      · exact I2.pin p (List.mem_append_right _ hp)
  refine Calls.spliced_cons (thn (h3.run _ s2 σ H1 (fun v H2 => v = v3 ∧ H2 = H1) I2p ⟨v3, e3, rfl, rfl⟩) fun u3 s3 ⟨x, H2, I3p, r3, ex, eH⟩ => ?_)
  subst ex
  subst eH
  have hf3 := (I3p.pin _ (List.mem_append_right _ List.mem_cons_self)).1
  have I3 : Inv X pins σ H2 s3 := ⟨I3p.ok, I3p.os, I3p.bare, I3p.base, I3p.loc, I3p.cell, I3p.free, I3p.freeC, fun p hp => I3p.pin p (by
    rcases List.mem_append.mp hp with hp | hp
    · exact List.mem_append_left _ hp
    · exact List.mem_append_right _ (List.mem_cons_of_mem _ hp)), I3p.hok, I3p.len⟩
  refine Calls.spliced_nil ⟨I3.kIn, ?_⟩
  have ac := acts_make (k := 16) (tb := tb) I3 L hf3 hfn hfr (hbind _ _ _ _ _) fun A outer s' H' E hr2 => hbody f c' A outer s' H' E hr2
  refine wpAny_call (codeAny_mono (run_led T N ac (fun b hb => .inl hb) hr I3.env0 (h H2 f c' eN hT1 hfn hco) (.cons r1 (.cons rfl (.cons r3 .nil)))) fun r s4 hq => ?_)
  match r, hq with
  | .error e, hq => exact (show False from hq).elim
  | .ok (.ret u), hq => exact I3.after hq
  | .ok .next, hq => exact hq.elim
  | .ok .brk, hq => exact hq.elim
  | .ok .cont, hq => exact hq.elim
end Tp
end
section
set_option maxRecDepth 100000
set_option maxHeartbeats 4000000
/-! What stands while the law runs: the script, the table, the drawn things, the source, the log. -/
namespace Tp
open PySem PySem.Spec PyProof.Rows L2 LamX
theorem Le.ext {H H' : Hp} (e : ExtN H H') : Le H H' :=
  ⟨fun a xs h => h.imp (fun h => e _ _ h (fun _ z => nomatch z)) fun ⟨o, h⟩ => ⟨o, e _ _ h (fun _ z => nomatch z)⟩, fun a xs h => h.imp (fun h => e _ _ h (fun _ z => nomatch z)) fun ⟨o, h⟩ => ⟨o, e _ _ h (fun _ z => nomatch z)⟩, fun a xs h => e _ _ h (fun _ z => nomatch z), fun _ _ _ _ h => e _ _ h (fun _ z => nomatch z), fun _ _ _ h => e _ _ h (fun _ z => nomatch z)⟩
theorem ExtN.rest {H H' : Hp} {x y : Addr} (e : ExtN H H') : ExtN (Tp.rest H x y) (Tp.rest H' x y) := fun b o h n => by
  obtain ⟨h1, h2, h3⟩ := rest_some h
  exact rest_of (e _ _ h1 n) h2 h3
theorem Le.seq {K : PySem.W.Frag} {H H' : Hp} (le : Le H H') {a : Addr} {xs : List V} (h : SqL K H a xs) : SqL K H' a xs := h.imp (le.l _ _) id
/-- neither a table nor a code object -/
def Pla (o : HO) : Prop := (∀ ps, o ≠ .tbl ps) ∧ ∀ c q, o ≠ CodeO c q
theorem pla_lst {xs : List V} : Pla (.lst xs) := ⟨(fun _ z => nomatch z), fun c q z => by unfold CodeO at z; cases z⟩
theorem pla_ins {C dx : Addr} {fs : List (Str × V)} : Pla (.ins C dx fs) := ⟨(fun _ z => nomatch z), fun c q z => by unfold CodeO at z; cases z⟩
theorem _root_.LamX.TabS.hide {H : Hp} {P x y : Addr} {q : Str} {ox oy : HO} (t : TabS H P q) (hx : H x = some ox) (hy : H y = some oy) (px : Pla ox) (py : Pla oy) : TabS (Tp.rest H x y) P q := by
  obtain ⟨ps, h1, h2, h3⟩ := t
  refine ⟨ps, rest_of h1 (fun z => ?_) (fun z => ?_), h2, fun pos cv hc => ?_⟩
  · rw [z, hx] at h1
    exact px.1 _ (Option.some.inj h1)
  · rw [z, hy] at h1
    exact py.1 _ (Option.some.inj h1)
  · obtain ⟨c, e, h⟩ := h3 pos cv hc
    refine ⟨c, e, rest_of h (fun z => ?_) (fun z => ?_)⟩
    · rw [z, hx] at h
      exact px.2 _ _ (Option.some.inj h)
    · rw [z, hy] at h
      exact py.2 _ _ (Option.some.inj h)
structure Bx (K : PySem.W.Frag) (Pt : Addr) (q : Str) (a : Addr) (xs : List V) (sx lg hl : Addr) (d g : D) (ds : List D) (v1 v2 v3 : V) (hist : List (D × List D)) (H : Hp) : Prop where
  scr : SqL K (rs sx H lg hl) a xs
  tab : TabS H Pt q
  val : DocAt (rs sx H lg hl) d v1
  goal : DocAt (rs sx H lg hl) g v2
  row : RowAt (rs sx H lg hl) ds v3
  src : SrcAt H sx
  log : LogAt sx (CL K) H lg hl d ds hist
section
variable {K : PySem.W.Frag} {Pt : Addr} {q : Str} {a : Addr} {xs : List V} {sx lg hl : Addr} {d g : D} {ds : List D} {v1 v2 v3 : V} {hist hist' : List (D × List D)} {H H' : Hp}
theorem Bx.na (b : Bx K Pt q a xs sx lg hl d g ds v1 v2 v3 hist H) : sx ≠ lg := fun z => by
  obtain ⟨x, y, w, e⟩ := b.src
  obtain ⟨dx, vb, vp, ps, L⟩ := b.log
  rw [z, L.ins] at e
  cases e
theorem Bx.nh (b : Bx K Pt q a xs sx lg hl d g ds v1 v2 v3 hist H) : sx ≠ hl := let ⟨_, _, _, _, L⟩ := b.log; L.sn
theorem Bx.same (b : Bx K Pt q a xs sx lg hl d g ds v1 v2 v3 hist H) (s : Same H H') : Bx K Pt q a xs sx lg hl d g ds v1 v2 v3 hist H' := by
  have r := Le.of (rs_mono (sx := sx) (a := lg) (hl := hl) s)
  exact ⟨r.seq b.scr, b.tab.ext s, b.val.mono r, b.goal.mono r, b.row.mono r, b.src.same s, b.log.same s⟩
theorem Bx.drawn (b : Bx K Pt q a xs sx lg hl d g ds v1 v2 v3 hist H) (s : Same (hid sx H) (hid sx H')) (src : SrcAt H' sx) : Bx K Pt q a xs sx lg hl d g ds v1 v2 v3 hist H' := by
  have r : Le (rs sx H lg hl) (rs sx H' lg hl) := Le.of (by
    unfold rs
    rw [rest_comm, rest_comm]
    exact rest_mono s)
  obtain ⟨x, y, z, e⟩ := b.src
  obtain ⟨x2, y2, z2, e2⟩ := id src
  obtain ⟨dx, vb, vp, ps, L⟩ := b.log
  exact ⟨r.seq b.scr, ((b.tab.hide e e pla_lst pla_lst).ext s).ext same_rest, b.val.mono r, b.goal.mono r, b.row.mono r, src, dx, vb, vp, ps, L.drawn b.na s (by rw [e2]; exact fun z => nomatch z)⟩
theorem Bx.logd (b : Bx K Pt q a xs sx lg hl d g ds v1 v2 v3 hist H) (s : Same (rest H lg hl) (rest H' lg hl)) (L' : LogAt sx (CL K) H' lg hl d ds hist') : Bx K Pt q a xs sx lg hl d g ds v1 v2 v3 hist' H' := by
  have r : Le (rs sx H lg hl) (rs sx H' lg hl) := Le.of (rs_rest s)
  obtain ⟨x, y, z, e⟩ := b.src
  obtain ⟨dx, vb, vp, ps, L⟩ := b.log
  exact ⟨r.seq b.scr, ((b.tab.hide L.ins L.his pla_ins pla_lst).ext s).ext same_rest, b.val.mono r, b.goal.mono r, b.row.mono r, ⟨x, y, z, (rest_some (s _ _ (rest_of e b.na b.nh))).1⟩, L'⟩
theorem HistAt.le {R R' : Hp} (s : Le R R') {p : Addr} {h : D × List D} (x : HistAt R p h) : HistAt R' p h := let ⟨b, r, e, h1, h2⟩ := x; ⟨b, r, s.t _ _ e, h1.mono s, h2.mono s⟩
theorem Bx.ext (b : Bx K Pt q a xs sx lg hl d g ds v1 v2 v3 hist H) (e : ExtN H H') (t : TabS H' Pt q) : Bx K Pt q a xs sx lg hl d g ds v1 v2 v3 hist H' := by
  have r : Le (rs sx H lg hl) (rs sx H' lg hl) := Le.ext (ExtN.rest (ExtN.rest e))
  obtain ⟨x, y, z, e2⟩ := b.src
  have e3 := e _ _ e2 (fun _ z => nomatch z)
  obtain ⟨dx, vb, vp, ps, L⟩ := b.log
  exact ⟨r.seq b.scr, t, b.val.mono r, b.goal.mono r, b.row.mono r, ⟨x, y, z, e3⟩, dx, vb, vp, ps, e _ _ L.ins (fun _ z => nomatch z), e _ _ L.his (fun _ z => nomatch z), L.doc.mono r, L.row.mono r, Paired.mapP L.old fun _ _ h => h.le r, by rw [e3]; exact (fun z => nomatch z), L.sn⟩
theorem Bx.scrH (b : Bx K Pt q a xs sx lg hl d g ds v1 v2 v3 hist H) : SqL K H a xs := (Le.of same_rs).seq b.scr
theorem Bx.valH (b : Bx K Pt q a xs sx lg hl d g ds v1 v2 v3 hist H) : DocAt H d v1 := b.val.mono (Le.of same_rs)
theorem Bx.goalH (b : Bx K Pt q a xs sx lg hl d g ds v1 v2 v3 hist H) : DocAt H g v2 := b.goal.mono (Le.of same_rs)
theorem Bx.rowH (b : Bx K Pt q a xs sx lg hl d g ds v1 v2 v3 hist H) : RowAt H ds v3 := b.row.mono (Le.of same_rs)
/-- beside the source alone -/
theorem same_rsh : Same (rs sx H lg hl) (hid sx H) := by
  unfold rs
  rw [rest_comm]
  exact same_rest
theorem Bx.rowX (b : Bx K Pt q a xs sx lg hl d g ds v1 v2 v3 hist H) : RowAt (hid sx H) ds v3 := b.row.mono (Le.of same_rsh)
end
theorem rowPar7 {ds : List D} (h : ∀ d ∈ ds, Pd d) : rowPar ds ≤ 7 * ds.length := by
  unfold rowPar
  induction ds with
  | nil => exact Nat.le_refl _
  | cons d r ih =>
    have h1 := (h d List.mem_cons_self).2
    have h2 := ih fun x hx => h x (List.mem_cons_of_mem _ hx)
    simp only [List.map_cons, List.sum_cons, List.length_cons]
    omega
theorem rok_of {ds : List D} (h : ∀ d ∈ ds, Pd d) (l : ds.length ≤ 28) : Rok ds := ⟨by omega, fun d hd => by have := (h d hd).1; omega, by have := rowPar7 h; omega⟩
/-- the patches that are taken again -/
def Again (sx : Addr) (H0 : Hp) (ds : List D) (p : Addr) (H : Hp) (acc : List V) (es : List D) : Prop := SrcAt H sx ∧ p ≠ sx ∧ Acc (hid sx H0) p (hid sx H) acc ∧ DocsAt (hid sx H0) es acc ∧ ∀ d ∈ es, d ∈ ds
theorem Again.start {sx : Addr} {H0 : Hp} {ds : List D} {p : Addr} (h : SrcAt H0 sx) (hp : H0 p = none) : Again sx H0 ds p (upd H0 p (.lst [])) [] [] := by
  have n := h.ne hp
  refine ⟨h.put n, n, ?_, .nil, fun _ z => nomatch z⟩
  rw [hid_ne n]
  exact Acc.start (hid_none hp)
theorem Again.draw {sx : Addr} {H0 H : Hp} {ds : List D} {p : Addr} {acc : List V} {es : List D} (b : Again sx H0 ds p H acc es) {x y z : Int} : Again sx H0 ds p (upd H sx (.lst [.int x, .int y, .int z])) acc es := by
  obtain ⟨src, n, A, dd, e⟩ := b
  refine ⟨SrcAt.upd, n, ?_, dd, e⟩
  rw [hid_upd]
  exact A
theorem Again.at {sx : Addr} {H0 H : Hp} {ds : List D} {p : Addr} {acc : List V} {es : List D} (b : Again sx H0 ds p H acc es) : H p = some (.lst acc) := (rest_some b.2.2.1.at_).1
theorem Again.push {sx : Addr} {H0 H : Hp} {ds : List D} {p : Addr} {acc : List V} {es : List D} (b : Again sx H0 ds p H acc es) {v : V} {d : D} (h : DocAt (hid sx H0) d v) (hd : d ∈ ds) : Again sx H0 ds p (upd H p (.lst (acc ++ [v]))) (acc ++ [v]) (es ++ [d]) := by
  obtain ⟨src, n, A, dd, e⟩ := b
  refine ⟨src.put n, n, ?_, DocsAt.snoc dd h, fun x hx => ?_⟩
  · rw [hid_ne n]
    exact A.push v
  · rcases List.mem_append.mp hx with hx | hx
    · exact e x hx
    · rw [List.mem_singleton.mp hx]; exact hd
end Tp
end
section
set_option maxRecDepth 100000
set_option maxHeartbeats 4000000
namespace Tp
open PySem PySem.Spec PyProof.Rows L2 LamX
/-- the name that the law's lambdas bear -/
def lamQ : Str := ("law" ++ ".<locals>.") ++ "<lambda>"
def sp_law (K : PySem.W.Frag) (Pt : Addr) : Sp := fun vs H Q _ => ∃ a, ∃ ns : List Int, vs = [.ref a] ∧ SqL K H a (ns.map V.int) ∧ TabS H Pt lamQ ∧ ∀ H', Q (.bl true) H'
section
variable {P : Program} {w : World} {K : PySem.W.Frag} {mg : Str → Option Value} {base : Heap} {vs : List V} {H : Hp} {Q : VK} {E : XK}
def t_law (K : PySem.W.Frag) (Pt : Addr) : TS :=
  (tSeq (tFor (iRng1 (tCons (tCB rMax2 (tCons (tC (.int 1)) (tCons (tCB rMin2 (tCons (tC (.int 3)) (tCons (tCB (rLenSeq K) (tCons (tVar 0) tNil)) tNil))) tNil))) tNil)) (gName 1)
      (tSeq (tAsg (tCall sp_law_source [] C8.E0 (tCons (tCall (sp_law_cell_at K) [] C8.E0 (tCons (tVar 0) (tCons (tVar 1) tNil))) tNil)) (gName 2))
    (tSeq (tAsg (tTup (tCons (tCall (sp_law_document 3) [] C8.E0 (tCons (tVar 2) (tCons (tC (.int 3)) tNil))) (tCons (tCall (sp_law_document 3) [] C8.E0 (tCons (tVar 2) (tCons (tC (.int 3)) tNil))) (tCons (tCall sp_law_rows [] C8.E0 (tCons (tVar 2) (tCons (tC (.int 8)) (tCons (tC (.int 2)) tNil)))) tNil)))) (gTup K 3 (gCons (gName 3) (gCons (gName 4) (gCons (gName 5) gNil)))))
    (tSeq (tAsg (tCall (sp_law_logged K) [] C8.E0 (tCons (tVar 3) (tCons (tVar 5) tNil))) (gName 6))
    (tSeq (tIfS (tOr (tTest (tOp rNeRow (tMeth (He.ga K "Log") "row" (sp_row K) [] C8.E0 (tVar 6) tNil) (tVar 5))) (tNot (tB (tCall (sp_law_times_right K) [] C8.E0 (tCons (tVar 2) (tCons (tVar 6) (tCons (tVar 5) tNil))))))) (tRet (tC (.bl false))) tNext)
    (tSeq (tIfS (tNot (tB (tCall sp_law_squeezed_right [] C8.E0 (tCons (tVar 3) (tCons (tVar 5) tNil))))) (tRet (tC (.bl false))) tNext)
    (tSeq (tIfS (tNot (tB (tLed K Pt lamQ 6 3 fun E => tCall (sp_undoing K) [] E (tCons (tVar 3) (tCons (tVar 5) tNil))))) (tRet (tC (.bl false))) tNext)
    (tSeq (tIfS (tNot (tB (tLed K Pt lamQ 6 4 fun E => tCall (sp_led K) [] E (tCons (tMeth (He.ga K "Log") "now" (sp_now K) [] C8.E0 (tVar 6) tNil) (tCons (tVar 4) tNil))))) (tRet (tC (.bl false))) tNext)
    (tSeq (tAsg (tOp (rCatL K) (tCall sp_law_rows [] C8.E0 (tCons (tVar 2) (tCons (tC (.int 3)) (tCons (tC (.int 2)) tNil)))) (tSl (rSlL K) (tLc (iList K (tVar 5)) (gName 8) (tTest (tOp rEq (tCall sp_law_draw [] C8.E0 (tCons (tVar 2) (tCons (tC (.int 3)) tNil))) (tC (.int 0)))) (tVar 8) [8]) tNoPart (tPart (tC (.int 4))))) (gName 7))
    (tIfS (tNot (tB (tCall sp_law_shared_right [] C8.E0 (tCons (tVar 5) (tCons (tVar 7) (tCons (tLst (tCons (tVar 3) (tCons (tVar 4) (tCons tDNewK (tCons (tMeth (He.ga K "Log") "now" (sp_now K) [] C8.E0 (tVar 6) tNil) tNil))))) tNil)))))) (tRet (tC (.bl false))) tNext))))))))))
    (tRet (tC (.bl true))))
def t_turn (K : PySem.W.Frag) (Pt : Addr) : TS :=
  (tSeq (tAsg (tCall sp_law_source [] C8.E0 (tCons (tCall (sp_law_cell_at K) [] C8.E0 (tCons (tVar 0) (tCons (tVar 1) tNil))) tNil)) (gName 2))
    (tSeq (tAsg (tTup (tCons (tCall (sp_law_document 3) [] C8.E0 (tCons (tVar 2) (tCons (tC (.int 3)) tNil))) (tCons (tCall (sp_law_document 3) [] C8.E0 (tCons (tVar 2) (tCons (tC (.int 3)) tNil))) (tCons (tCall sp_law_rows [] C8.E0 (tCons (tVar 2) (tCons (tC (.int 8)) (tCons (tC (.int 2)) tNil)))) tNil)))) (gTup K 3 (gCons (gName 3) (gCons (gName 4) (gCons (gName 5) gNil)))))
    (tSeq (tAsg (tCall (sp_law_logged K) [] C8.E0 (tCons (tVar 3) (tCons (tVar 5) tNil))) (gName 6))
    (tSeq (tIfS (tOr (tTest (tOp rNeRow (tMeth (He.ga K "Log") "row" (sp_row K) [] C8.E0 (tVar 6) tNil) (tVar 5))) (tNot (tB (tCall (sp_law_times_right K) [] C8.E0 (tCons (tVar 2) (tCons (tVar 6) (tCons (tVar 5) tNil))))))) (tRet (tC (.bl false))) tNext)
    (tSeq (tIfS (tNot (tB (tCall sp_law_squeezed_right [] C8.E0 (tCons (tVar 3) (tCons (tVar 5) tNil))))) (tRet (tC (.bl false))) tNext)
    (tSeq (tIfS (tNot (tB (tLed K Pt lamQ 6 3 fun E => tCall (sp_undoing K) [] E (tCons (tVar 3) (tCons (tVar 5) tNil))))) (tRet (tC (.bl false))) tNext)
    (tSeq (tIfS (tNot (tB (tLed K Pt lamQ 6 4 fun E => tCall (sp_led K) [] E (tCons (tMeth (He.ga K "Log") "now" (sp_now K) [] C8.E0 (tVar 6) tNil) (tCons (tVar 4) tNil))))) (tRet (tC (.bl false))) tNext)
    (tSeq (tAsg (tOp (rCatL K) (tCall sp_law_rows [] C8.E0 (tCons (tVar 2) (tCons (tC (.int 3)) (tCons (tC (.int 2)) tNil)))) (tSl (rSlL K) (tLc (iList K (tVar 5)) (gName 8) (tTest (tOp rEq (tCall sp_law_draw [] C8.E0 (tCons (tVar 2) (tCons (tC (.int 3)) tNil))) (tC (.int 0)))) (tVar 8) [8]) tNoPart (tPart (tC (.int 4))))) (gName 7))
    (tIfS (tNot (tB (tCall sp_law_shared_right [] C8.E0 (tCons (tVar 5) (tCons (tVar 7) (tCons (tLst (tCons (tVar 3) (tCons (tVar 4) (tCons tDNewK (tCons (tMeth (He.ga K "Log") "now" (sp_now K) [] C8.E0 (tVar 6) tNil) tNil))))) tNil)))))) (tRet (tC (.bl false))) tNext)))))))))
theorem xSl {r : V → Option Int → Option Int → Hp → VK → Prop} {te : TE} {tl th : TO} {σ : L2.St} {H : Hp} {Q : VK} (h : te σ H fun x H1 => tl σ H1 fun l H2 => th σ H2 fun u H3 => r x l u H3 Q) : L2.tSl r te tl th σ H Q := h
/-- a turn of the law's loop -/
theorem pu_turn {Pt : Addr} (T : Tx K mg) {a : Addr} {ns : List Int} {i : Nat} {c2 c3 c4 c5 c6 c7 c8 : Option V} {H4 : Hp} {en eb ec : L2.St → Hp → Prop} (hs4 : SqL K H4 a (ns.map V.int)) (t4 : TabS H4 Pt lamQ)
    (hen : ∀ H' c2 c3 c4 c5 c6 c7 c8, SqL K H' a (ns.map V.int) → TabS H' Pt lamQ → en [some (.ref a), some (.int (i : Int)), c2, c3, c4, c5, c6, c7, c8] H') :
    t_turn K Pt ⟨en, Q, eb, ec⟩ [some (.ref a), some (.int (i : Int)), c2, c3, c4, c5, c6, c7, c8] H4 := by
  refine sSeq (sAsg ⟨_, rfl, _, rfl, a, ns, i, rfl, hs4, fun z => ⟨z, rfl, fun sx H6 s6 hsx src6 => ?_⟩⟩)
  refine sSeq (sAsg ⟨_, rfl, sx, rfl, src6, fun v1 H7 ⟨d, d3, F1, src7⟩ => ?_⟩)
  refine ⟨_, rfl, sx, rfl, src7, fun v2 H8 ⟨g, g3, F2, src8⟩ => ?_⟩
  refine ⟨_, rfl, sx, 8, rfl, src8, by decide, fun v3 H9 ds R src9 hP hlen hpar => ?_⟩
  refine aNil ⟨szO (show 3 ≤ 100000 by decide), fun t ht => ⟨t, [v1, v2, v3], rfl, SqT.of upd_same, rfl, v1, [v2, v3], rfl, v2, [v3], rfl, v3, [], rfl, rfl, ?_⟩⟩
  have s6' := same_beside s6 hsx hsx
  have s9 := rest_mono (a := sx) (hl := sx) (same_new ht (.tup [v1, v2, v3]))
  have s810 := R.same.trans s9
  have s710 := F2.same.trans s810
  have r10 := (s6'.trans F1.same).trans s710
  have scr10 := r10.seq hs4
  have tab10 := t4.ext r10
  have val10 := F1.read.mono (Le.of s710)
  have goal10 := F2.read.mono (Le.of s810)
  have row10 := R.row.mono (Le.of s9)
  have src10 := src9.same (same_new ht (.tup [v1, v2, v3]))
  generalize upd H9 t (.tup [v1, v2, v3]) = H10 at *
  have ok := rok_of hP (by omega)
  have dep := ok.dep
  have par7 := rowPar7 hP
  refine sSeq (sAsg ⟨_, rfl, _, rfl, some sx, v1, v3, d, ds, rfl, val10.mono (Le.of same_rest), row10.mono (Le.of same_rest), d3, ok, by omega, fun s e => ?_, fun lg hl H11 hist s11 hlg hhl L hh => ?_⟩)
  · cases e
    obtain ⟨_, _, _, e⟩ := src10
    rw [e]
    exact fun z => nomatch z
  have r11 : Same (hid sx H10) (rs sx H11 lg hl) := rest_mono s11
  have B11 : Bx K Pt lamQ a (ns.map V.int) sx lg hl d g ds v1 v2 v3 hist H11 := ⟨r11.seq scr10, (tab10.ext r11).ext same_rs, val10.mono (Le.of r11), goal10.mono (Le.of r11), row10.mono (Le.of r11), (src10.same s11).same same_rest, L⟩
  obtain ⟨dx, vb, vp, ps, LW⟩ := id B11.log
  refine sSeq (sIf (xOr (xTest (xOp ⟨_, rfl, lg, dx, _, rfl, LW.ins, rfl, sx, lg, hl, d, ds, hist, rfl, B11.log, by omega, dep, fun v5 H12 R5 => ?_⟩))))
  have B12 := B11.same R5.same
  refine ⟨_, rfl, ds, ds, R5.row, B12.rowH, fun x hx => by have := dep x hx; omega, _, rfl, ifF (by simp) ?_⟩
  refine xNot (xB ⟨_, rfl, _, rfl, _, rfl, sx, lg, hl, v3, d, ds, hist, rfl, B12.log, B12.src, B12.rowX, d3, ok, fun H13 s13 src13 => ⟨_, rfl, ifF rfl (sNext ?_)⟩⟩)
  have B13 := B12.drawn s13 src13
  refine sSeq (sIf (xNot (xB ⟨_, rfl, _, rfl, v1, v3, d, ds, rfl, B13.valH, B13.rowH, d3, ok, by omega, fun H14 s14 => ⟨_, rfl, ifF rfl (sNext ?_)⟩⟩)))
  have B14 := B13.same s14
  refine sSeq (sIf (xNot (xB ⟨.ref lg, v1, rfl, rfl, B14.tab, fun H15 f c' eN tab15 hf hc => ?_⟩)))
  have B15 := B14.ext eN tab15
  refine ⟨sx, lg, hl, d, ds, hist, v1, d, rfl, B15.log, B15.val, d3, d3, by omega, dep, by omega, by omega, fun E1 Q1 W => ⟨hc, _, rfl, _, rfl, v1, v3, d, ds, rfl, B15.valH, B15.rowH, d3, ok, W⟩, fun H16 s16 L16 => ⟨_, rfl, ifF rfl (sNext ?_)⟩⟩
  have B16 := B15.logd s16 L16
  refine sSeq (sIf (xNot (xB ⟨.ref lg, v2, rfl, rfl, B16.tab, fun H17 f c' eN tab17 hf hc => ?_⟩)))
  have B17 := B16.ext eN tab17
  obtain ⟨dx17, vb17, vp17, ps17, LW17⟩ := id B17.log
  refine ⟨sx, lg, hl, d, ds, hist, v2, g, rfl, B17.log, B17.goal, d3, g3, by omega, dep, by omega, by omega, fun E1 Q1 W => ⟨hc, _, rfl, lg, dx17, _, rfl, LW17.ins, rfl, sx, lg, hl, d, ds, hist, rfl, B17.log, d3, dep, fun v' H' F => ⟨_, rfl, v', v2, runD d ds, g, rfl, F.read, (B17.same F.same).goalH, runD_dep _ _ dep d3, g3, W.wk F.same⟩⟩, fun H18 s18 L18 => ⟨_, rfl, ifF rfl (sNext ?_)⟩⟩
  have B18 := B17.logd s18 L18
  refine sSeq (sAsg (xOp ⟨_, rfl, sx, 3, rfl, B18.src, by decide, fun v7 H19 es R7 src19 hPe hle hpe => ?_⟩))
  have B19 := B18.drawn R7.same src19
  obtain ⟨l, us, el, hl19, hds19⟩ := id B19.rowX
  obtain ⟨p7, us7, e7, hl7, hds7⟩ := id R7.row
  subst el
  subst e7
  refine xSl (xLc (iL (xVar rfl ⟨l, rfl, ⟨us, SqL.rd ((Le.of same_rest).l _ _ hl19)⟩, fun p hp => ?_⟩)))
  refine lc_it (walk_list (xs := us)) (fun i H => ∃ acc es', Again sx H19 ds p H acc es' ∧ acc.length ≤ i) ⟨[], [], Again.start B19.src hp, Nat.le_refl _⟩ (fun i H _ ⟨acc, es', A, _⟩ => SqL.rd ((Le.of (A.2.2.1.same.trans same_rest)).l _ _ hl19)) (fun i x H H' hi ⟨acc, es', A, hle⟩ y => ?_) (fun H20 ⟨acc, es', A, hle⟩ => ?_)
  · obtain ⟨rfl, hx⟩ := y
    obtain ⟨d', hd', hdx⟩ := hds19.nth hx
    have hu := hds19.len
    refine ⟨rfl, xTest (xOp ⟨_, rfl, sx, 3, rfl, A.1, by decide, by decide, fun w x1 y1 z1 hw => ⟨rfl, _, rfl, ?_⟩⟩)⟩
    have A2 := A.draw (x := x1) (y := y1) (z := z1)
    by_cases w0 : w = 0
    · subst w0
      exact ifT (by simp) (xVar rfl ⟨acc, A2.at, small1000 (by omega), acc ++ [x], es' ++ [d'], A2.push hdx (List.mem_of_getElem? hd'), by rw [List.length_append]; show acc.length + 1 ≤ i + 1; omega⟩)
    · exact ifF (by simp [w0]) ⟨acc, es', A2, by omega⟩
  · have hPa : ∀ x ∈ es ++ es'.take 4, Pd x := fun x hx => by
      rcases List.mem_append.mp hx with hx | hx
      · exact hPe x hx
      · exact hP x (A.2.2.2.2 x (List.mem_of_mem_take hx))
    have s1920 : Same (hid sx H19) (hid sx H20) := A.2.2.1.same
    have B20 := B19.drawn s1920 A.1
    have at20 := A.at
    have docs20 := (A.2.2.2.1.mono (Le.of s1920)).mono (Le.of (same_rest (H := H20) (a := sx) (hl := sx)))
    have docs7 := (hds7.mono (Le.of s1920)).mono (Le.of (same_rest (H := H20) (a := sx) (hl := sx)))
    have rd7 := (Le.of (s1920.trans (same_rest (H := H20) (a := sx) (hl := sx)))).l _ _ hl7
    refine ⟨4, rfl, p, acc, rfl, SqL.of at20, fun p2 hp2 => ?_⟩
    have e4 : cutV acc none (some 4) = acc.take 4 := cut_take acc 4
    rw [e4]
    have s2 := same_new hp2 (.lst (acc.take 4))
    refine ⟨p7, p2, us7, acc.take 4, rfl, rfl, SqL.rd ((Le.of s2).l _ _ rd7), SqL.of upd_same, szO ?_, fun p3 hp3 => ?_⟩
    · have h1 := hds7.len
      have h2 := List.length_take_le 4 acc
      omega
    have s3 := same_new hp3 (.lst (us7 ++ acc.take 4))
    have s23 := s2.trans s3
    have B22 := B20.same s23
    have row22 : RowAt (upd (upd H20 p2 (.lst (acc.take 4))) p3 (.lst (us7 ++ acc.take 4))) (es ++ es'.take 4) (.ref p3) := ⟨p3, _, rfl, .inl upd_same, (DocsAt.app docs7 (docs20.take 4)).mono (Le.of s23)⟩
    generalize upd (upd H20 p2 (.lst (acc.take 4))) p3 (.lst (us7 ++ acc.take 4)) = H22 at *
    have ok2 := rok_of hPa (by
      rw [List.length_append]
      have h2 := List.length_take_le 4 es'
      omega)
    refine sIf (xNot (xB (aCons (xVar rfl (aCons (xVar rfl (aCons (xLst (aCons (xVar rfl (aCons (xVar rfl (aCons fun p4 hp4 => ?_)))))))))))))
    have s4 := same_new hp4 (.dK [])
    have hD : DocAt (upd H22 p4 (.dK [])) (.obj fun _ => .abs) (.ref p4) := DocAt.obj_iff.mpr ⟨p4, [], rfl, .inl upd_same, tabOk_nil, fun k => rfl⟩
    have B23 := B22.same s4
    have row23 := row22.mono (Le.of s4)
    generalize upd H22 p4 (.dK []) = H23 at *
    obtain ⟨dx23, vb23, vp23, ps23, LW23⟩ := id B23.log
    refine aCons ⟨_, rfl, lg, dx23, _, rfl, LW23.ins, rfl, sx, lg, hl, d, ds, hist, rfl, B23.log, d3, dep, fun v9 H24 F9 => aNil ⟨szO (show 4 ≤ 100000 by decide), fun p5 hp5 => ?_⟩⟩
    have s5 := same_new hp5 (.lst [v1, v2, .ref p4, v9])
    have B24 := B23.same F9.same
    have B25 := B24.same s5
    have s45 := F9.same.trans s5
    refine aNil ⟨.ref l, .ref p3, p5, ds, es ++ es'.take 4, [d, g, .obj fun _ => .abs, runD d ds], [v1, v2, .ref p4, v9], rfl, B25.rowH, row23.mono (Le.of s45), ok, ok2, .inl upd_same, ?_, ?_, fun H26 s26 => ⟨_, rfl, ifF rfl (sNext ?_)⟩⟩
    · exact .cons B25.valH (.cons B25.goalH (.cons (hD.mono (Le.of s45)) (.cons (F9.read.mono (Le.of s5)) .nil)))
    · intro x hx
      simp only [List.mem_cons, List.not_mem_nil, or_false] at hx
      rcases hx with h | h | h | h
      · rw [h]; exact d3
      · rw [h]; exact g3
      · rw [h]; decide
      · rw [h]; exact runD_dep _ _ dep d3
    · have B26 := B25.same s26
      exact hen H26 _ _ _ _ _ _ _ B26.scrH B26.tab
theorem pu_law {Pt : Addr} (T : Tx K mg) (h : sp_law K Pt vs H Q E) : t_law K Pt { nx := fun _ H' => Q .non H', rt := Q } (L2.start ["_law_script", "_law_index", "_law_source_here", "_law_value", "_law_goal", "_law_patches", "_law_log", "_law_others", "_law_patch_here"] vs) H := by
  obtain ⟨a, ns, rfl, hs, tab, q⟩ := h
  refine sSeq (sFor ⟨_, rfl, a, _, rfl, .inl hs, 3, _, rfl, 1, _, rfl, ?_⟩)
  refine ⟨_, rfl, ?_, ?_, ?_⟩
  · split <;> split <;> omega
  · split <;> split <;> omega
  · refine for_it (D := ⟨_, _, fun _ _ => False, fun _ _ => False⟩) (walk_range (lo := 0) (n := _)) (fun i σ H4 => (∃ c1 c2 c3 c4 c5 c6 c7 c8, σ = [some (.ref a), c1, c2, c3, c4, c5, c6, c7, c8]) ∧ SqL K H4 a (ns.map V.int) ∧ TabS H4 Pt lamQ)
      ⟨⟨_, _, _, _, _, _, _, _, rfl⟩, hs, tab⟩ (fun _ _ _ _ _ => True.intro) (fun i x σ H4 H5 hi ⟨⟨c1, c2, c3, c4, c5, c6, c7, c8, hσ⟩, hs4, t4⟩ y => ?_) (fun σ H4 ⟨⟨c1, c2, c3, c4, c5, c6, c7, c8, hσ⟩, hs4, t4⟩ => ?_)
    · subst hσ
      obtain ⟨rfl, hx⟩ := y
      have hx : x = .int (i : Int) := by rw [hx]; simp
      subst hx
      exact pu_turn T hs4 t4 fun H' c2 c3 c4 c5 c6 c7 c8 h1 h2 => ⟨⟨_, _, _, _, _, _, _, _, rfl⟩, h1, h2⟩
    · subst hσ
      exact q _
theorem ok_law (T : Tx K mg) (N : Nx K) (TB : TabB base mg (He.cT K ("law", none)).1 (He.cT K ("law", none)).2) {fd : FuncData} (F : FunD K "law" "law" (C8.fnArgs s_law) (C8.fnBody s_law) (C8.fnScope s_law) [] [] (He.ga K "law") fd) : FnOk P w K mg base C8.CX0 29 (He.ga K "law") fd ["_law_script"] (sp_law K (He.cT K ("law", none)).2) := by
  have c_law_source := ok_law_source (P := P) (w := w) (base := base) T
  have c_law_cell_at := ok_law_cell_at (P := P) (w := w) (base := base) T
  have c_law_document := ok_law_document (P := P) (w := w) (base := base) T 3
  have c_law_rows := ok_law_rows (P := P) (w := w) (base := base) T
  have c_law_logged := ok_law_logged (P := P) (w := w) (base := base) T
  have c_row := ok_row (P := P) (w := w) (base := base) T
  have c_law_times_right := ok_law_times_right (P := P) (w := w) (base := base) T
  have c_law_squeezed_right := ok_law_squeezed_right (P := P) (w := w) (base := base) T
  have c_law_draw := ok_law_draw (P := P) (w := w) (base := base) T
  have c_law_shared_right := ok_law_shared_right (P := P) (w := w) (base := base) T
  have c_now := ok_now (P := P) (w := w) (base := base) T
  have c_undoing := ok_undoing (P := P) (w := w) (base := base) T N
  have c_change := ok_change (P := P) (w := w) (base := base) T N
  have sc : FnScope ["_law_script", "_law_index", "_law_source_here", "_law_value", "_law_goal", "_law_patches", "_law_log", "_law_others", "_law_patch_here"] ["_law_script"] (C8.fnScope s_law) := C8.fnScope_by (by decide +kernel)
  obtain ⟨F0, df⟩ := Fun_of (st := s_law) F
  obtain ⟨oc, od, dV, kV, doc, pm, an, cdv, ct, osl, rfl, lk, hcd⟩ := F0.ex
  obtain ⟨c, rfl⟩ := He.codeIn_ref hcd
  have ec : (He.cT K ("law", none)).1 = c := He.codeOf_eq lk rfl
  rw [ec] at TB
  refine fn_of lk hcd sc (fun vs H Q E ⟨_, _, h, _⟩ => by rw [h] <;> rfl) fun A outer s H vs Q E hr h => ⟨t_law K (He.cT K ("law", none)).2, PSs.nox ?_, pu_law T h⟩
  have hu := hu_of hr
  exact (pss_cons (ps_for PassesOwn.never rfl (pi_range1 rfl T.f_range (pa_cons (pe_callB (call_max2 rfl) rfl T.f_max bt_max (pa_cons pe_int (pa_cons (pe_callB (call_min2 rfl) rfl T.f_min bt_min (pa_cons pe_int (pa_cons (pe_callB call_len_seq rfl T.f_len bt_len (pa_cons (pv 0) pa_nil)) pa_nil))) pa_nil))) pa_nil)) (pg_name (i := 1) sc.nd rfl (Or.inl rfl))
      (pss_cons (ps_set (i := 2) sc.nd rfl (Or.inr rfl) (C8.pe_c c_law_source hr (by omega) rfl (pa_cons (C8.pe_c c_law_cell_at hr (by omega) rfl (pa_cons (pv 0) (pa_cons (pv 1) pa_nil))) pa_nil)))
    (pss_cons (ps_asg (pe_tup (pa_cons (C8.pe_c c_law_document hr (by omega) rfl (pa_cons (pv 2) (pa_cons pe_int pa_nil))) (pa_cons (C8.pe_c c_law_document hr (by omega) rfl (pa_cons (pv 2) (pa_cons pe_int pa_nil))) (pa_cons (C8.pe_c c_law_rows hr (by omega) rfl (pa_cons (pv 2) (pa_cons pe_int (pa_cons pe_int pa_nil)))) pa_nil)))) (pg_tup rfl (pgs_cons (pg_name (i := 3) sc.nd rfl (Or.inr rfl)) (pgs_cons (pg_name (i := 4) sc.nd rfl (Or.inr rfl)) (pgs_cons (pg_name (i := 5) sc.nd rfl (Or.inr rfl)) pgs_nil)))))
    (pss_cons (ps_set (i := 6) sc.nd rfl (Or.inr rfl) (C8.pe_c c_law_logged hr (by omega) rfl (pa_cons (pv 3) (pa_cons (pv 5) pa_nil))))
    (pss_cons (ps_if (PW.pt (pw_or (pt_cmpR (op_neRow hr.units) (C8.pe_mt0 c_row hr (by omega) (pv 6)) (pv 5) (nomark _)) (pw_or1 (pt_not (pt_val (C8.pe_c c_law_times_right hr (by omega) rfl (pa_cons (pv 2) (pa_cons (pv 6) (pa_cons (pv 5) pa_nil))))))))) (pss_one (ps_ret pe_bl)) pss_nil)
    (pss_cons (ps_if (pt_not (pt_val (C8.pe_c c_law_squeezed_right hr (by omega) rfl (pa_cons (pv 3) (pa_cons (pv 5) pa_nil))))) (pss_one (ps_ret pe_bl)) pss_nil)
    (pss_cons (ps_if (pt_not (pt_val (pe_led T N (pv 6) (pv 3) rfl TB rfl (hr.mono (by decide)) (lamS_by (sc := C8.fnScope s_law) (by decide +kernel)) rfl (fun _ _ _ _ _ => rfl) (fun f c2 A outer s H E hr2 => pe_cX (E := E) (c_undoing) hr2 (by omega) (takes_of rfl rfl rfl rfl) (fun _ _ _ _ h => h) rfl (pa_cons (pv 3) (pa_cons (pv 5) pa_nil)))))) (pss_one (ps_ret pe_bl)) pss_nil)
    (pss_cons (ps_if (pt_not (pt_val (pe_led T N (pv 6) (pv 4) rfl TB rfl (hr.mono (by decide)) (lamS_by (sc := C8.fnScope s_law) (by decide +kernel)) rfl (fun _ _ _ _ _ => rfl) (fun f c2 A outer s H E hr2 => pe_cX (E := E) (c_change) hr2 (by omega) (takes_of rfl rfl rfl rfl) (fun _ _ _ _ h => h) rfl (pa_cons (C8.pe_mt0 c_now hr2 (by omega) (pv 6)) (pa_cons (pv 4) pa_nil)))))) (pss_one (ps_ret pe_bl)) pss_nil)
    (pss_cons (ps_set (i := 7) sc.nd rfl (Or.inl rfl) (pe_op op_catL (C8.pe_c c_law_rows hr (by omega) rfl (pa_cons (pv 2) (pa_cons pe_int (pa_cons pe_int pa_nil)))) (pe_slice sl_list (pe_lc (own := [("_law_patch_here", 8)]) (g := (gName 8)) (tt := (tTest (tOp rEq (tCall sp_law_draw [] C8.E0 (tCons (tVar 2) (tCons (tC (.int 3)) tNil))) (tC (.int 0))))) (te := (tVar 8)) rfl sc.nd (pi_list (pv 5)) (blkOk_by (N := ["_law_script", "_law_index", "_law_source_here", "_law_value", "_law_goal", "_law_patches", "_law_log", "_law_others", "_law_patch_here"]) (sc := C8.fnScope s_law) (by decide +kernel)) (fun _ _ _ _ _ => (pg_name (i := 8) sc.nd rfl (Or.inl rfl))) (fun _ _ _ _ _ => (pts_one (pt_cmpR op_eq (C8.pe_c c_law_draw hr (by omega) rfl (pa_cons (pv 2) (pa_cons pe_int pa_nil))) pe_int (nomark _)))) (fun _ _ _ _ _ => (pv 8))) po_none (po_some pe_int))))
    (pss_one (ps_if (pt_not (pt_val (C8.pe_c c_law_shared_right hr (by omega) rfl (pa_cons (pv 5) (pa_cons (pv 7) (pa_cons (pe_lst (pa_cons (pv 3) (pa_cons (pv 4) (pa_cons pe_dnewK (pa_cons (C8.pe_mt0 c_now hr (by omega) (pv 6)) pa_nil))))) pa_nil)))))) (pss_one (ps_ret pe_bl)) pss_nil)))))))))))
    (pss_one (ps_ret pe_bl)))
end
end Tp
end
set_option maxRecDepth 100000
set_option maxHeartbeats 4000000
/-! What the top leaves is what the walk leans on. -/
namespace Tp
open PySem PySem.Spec PyProof.Rows L2 LamX
theorem str_mem {x : Str} {l : List Str} (h : l.contains x = true) : x ∈ l := by
  induction l with
  | nil => cases h
  | cons y r ih =>
    rw [List.contains_cons, Bool.or_eq_true] at h
    rcases h with h | h
    · rw [eq_of_beq h]; exact List.mem_cons_self
    · exact List.mem_cons_of_mem _ (ih h)
theorem insB_ok {K : PySem.W.Frag} {C : Addr} (c : Cls K C) (h : insB K C = true) : C8.InsC K C := by
  obtain ⟨h1, h⟩ := He.ba h
  obtain ⟨h2, h⟩ := He.ba h
  obtain ⟨h3, h⟩ := He.ba h
  obtain ⟨h4, h5⟩ := He.ba h
  exact ⟨c, He.eqO_ok h1, He.eqO_ok h2, of_decide_eq_true h3, of_decide_eq_true h4, of_decide_eq_true h5⟩
theorem excB_ok {K : PySem.W.Frag} {C : Addr} (h : excB K C = true) : ∃ nm q N bs bm sn sub ab col dd k0 k1 k2 k3 k5, K.lookup C = some (excClassObj nm q C N bs bm true sn sub ab col dd k0 k1 k2 k3 k5 "ValueError.__new__") ∧ PySem.HandSPX.refsVE bm = true := by
  unfold excB at h
  split at h
  · rename_i t dd cd sl hk
    split at h
    · rename_i C' bm k0 k1 k2 k3 n k5 hm hs
      obtain ⟨h1, h⟩ := He.ba h
      obtain ⟨h2, h⟩ := He.ba h
      obtain ⟨h3, h⟩ := He.ba h
      obtain ⟨h4, h⟩ := He.ba h
      obtain ⟨h5, h6⟩ := He.ba h
      have e1 := of_decide_eq_true h1
      have e2 := of_decide_eq_true h2
      have e3 := of_decide_eq_true h3
      obtain ⟨nm, bs, mro, ns, qn, hd, sn, sub, ab, col, del⟩ := cd
      obtain ⟨sl⟩ := sl
      have hs : sl = _ := hs
      have hm : mro = _ := hm
      have e4 : del = false := by simpa using h4
      have e5 : hd = true := h5
      subst e1 e2 e3 hs hm e4 e5
      exact ⟨_, _, _, _, _, _, _, _, _, _, _, _, _, _, _, hk, h6⟩
    · cases h
  · cases h
theorem oexB_ok {K : PySem.W.Frag} {C : Addr} (h : oexB K C = true) : OexC K C := by
  obtain ⟨h1, h⟩ := He.ba h
  obtain ⟨h2, h⟩ := He.ba h
  obtain ⟨h3, h⟩ := He.ba h
  obtain ⟨h4, h5⟩ := He.ba h
  exact ⟨excB_ok h1, He.eqO_ok h2, of_decide_eq_true h3, of_decide_eq_true h4, h5⟩
section
variable {K : PySem.W.Frag} {g : Addr → Option PySem.Obj} {h : Heap} {mg : Str → Option Value}
theorem all_facts (X : K.In h) (G : h.Ns mainGlobals mg) (c : obsK g K = valO) : Tx K mg ∧ Nx K ∧ tabB g K = true := by
  have c1 : good g K = true := congrArg (fun z : AlO => z.1) c
  have c2 : (fn.map fun d => He.fnW K d.at_) = fn.map He.DefD.val := congrArg (fun z : AlO => z.2) c
  obtain ⟨g1, c1⟩ := He.ba c1
  obtain ⟨g2, c1⟩ := He.ba c1
  obtain ⟨g3, c1⟩ := He.ba c1
  obtain ⟨g4, c1⟩ := He.ba c1
  obtain ⟨g5, c1⟩ := He.ba c1
  obtain ⟨g6, g7⟩ := He.ba c1
  obtain ⟨x1, g6⟩ := He.ba g6
  obtain ⟨x2, g6⟩ := He.ba g6
  obtain ⟨x3, g6⟩ := He.ba g6
  obtain ⟨x4, g6⟩ := He.ba g6
  obtain ⟨x5, g6⟩ := He.ba g6
  obtain ⟨x6, g6⟩ := He.ba g6
  obtain ⟨x7, g6⟩ := He.ba g6
  obtain ⟨x8, g6⟩ := He.ba g6
  obtain ⟨x9, g6⟩ := He.ba g6
  obtain ⟨x10, x11⟩ := He.ba g6
  have f1 : ∀ (i : Nat) (f : He.Fa), fa[i]? = some f → f.ok K = true := fun i f e => List.all_eq_true.mp g3 f (List.mem_of_getElem? e)
  have f2 : ∀ (i : Nat) (f : He.Fa), fa2[i]? = some f → f.ok K = true := fun i f e => List.all_eq_true.mp g4 f (List.mem_of_getElem? e)
  have dfs : ∀ (i : Nat) (d : He.DefD), fn[i]? = some d → ∃ fd, FunD K d.name d.qual d.params d.body d.scope (d.dvs K) (d.kws K) (He.fAd K d.at_) fd := fun i d e => by
    have e2 : (fn.map fun d => He.fnW K d.at_)[i]? = (fn.map He.DefD.val)[i]? := by rw [c2]
    rw [List.getElem?_map, List.getElem?_map, e] at e2
    exact He.DefD.funD (Option.some.inj e2) (List.all_eq_true.mp g5 d (List.mem_of_getElem? e))
  have cE := He.cls_ok (f1 2 _ rfl)
  have cL := He.cls_ok (f1 4 _ rfl)
  have cC := He.cls_ok (f1 6 _ rfl)
  have mC := He.meth_ok (f1 17 _ rfl)
  refine ⟨?_, ⟨oexB_ok x6, He.eqO_ok x7, of_decide_eq_true x8, He.eqO_ok x9, xfB_ok x10, of_decide_eq_true x11⟩, g7⟩
  exact {
    glo := fun x hx => He.glo_ok X G (List.all_eq_true.mp g1 x (str_mem hx))
    fre := fun x hx => He.free_ok X G (List.all_eq_true.mp g2 x (str_mem hx))
    dfs := dfs
    mdep := He.int_ok X G (f1 0 _ rfl)
    mpar := He.int_ok X G (f1 1 _ rfl)
    cEffect := cE
    kEffect := He.mkr_ok (f1 3 _ rfl)
    cLog := cL
    kLog := He.mkr_ok (f1 5 _ rfl)
    cClash := cC
    kClash := He.mkr_ok (f1 7 _ rfl)
    nEffect_kind := He.noat_ok (f1 8 _ rfl)
    nEffect_atom := He.noat_ok (f1 9 _ rfl)
    nEffect_members := He.noat_ok (f1 10 _ rfl)
    nLog_begun := He.noat_ok (f1 11 _ rfl)
    nLog_patches := He.noat_ok (f1 12 _ rfl)
    nLog_history := He.noat_ok (f1 13 _ rfl)
    nClash_path := He.noat_ok (f1 14 _ rfl)
    mEffect_eq := He.meth_ok (f1 15 _ rfl)
    mEffect_add := He.meth_ok (f1 16 _ rfl)
    mEffect_call := mC
    mClash_eq := He.meth_ok (f1 18 _ rfl)
    xEffect := insB_ok cE x1
    xClash := insB_ok cC x2
    yClash := x3
    aEffect := x4
    oEffect := ⟨mC.at_, mC.fn, x5⟩
    mEffect_facts := He.meth_ok (f1 19 _ rfl)
    mEffect_by_key := He.meth_ok (f1 20 _ rfl)
    mEffect_builds := He.meth_ok (f1 21 _ rfl)
    mLog_go_on := He.meth_ok (f2 0 _ rfl)
    mLog_begin := He.meth_ok (f2 1 _ rfl)
    mLog_add := He.meth_ok (f2 2 _ rfl)
    mLog_row := He.meth_ok (f2 3 _ rfl)
    mLog_first := He.meth_ok (f2 4 _ rfl)
    mLog_check_time := He.meth_ok (f2 5 _ rfl)
    mLog_at := He.meth_ok (f2 6 _ rfl)
    mLog_now := He.meth_ok (f2 7 _ rfl)
    mLog_squeeze := He.meth_ok (f2 8 _ rfl)
    mLog_back := He.meth_ok (f2 9 _ rfl) }
/-- the law's promise at the heap that the top leaves -/
theorem law_at {w : World} {f : Addr} (X : K.In h) (G : h.Ns mainGlobals mg) (c : obsK g K = valO) (hg : ∀ a o, g a = some o → h.get? a = some o) (hfa : mg ("law" : Str) = some (.ref f)) :
    LamX.LawAtS PySem.Challenge.rw_twopatches_k96_whole_logs_and_functions w K C8.CX0 29 63 "_law_script" mg f h := by
  obtain ⟨T, N, tb⟩ := all_facts X G c
  obtain ⟨t1, tb⟩ := He.ba tb
  obtain ⟨t2, t3⟩ := He.ba tb
  obtain ⟨fd, F⟩ := T.dfs 76 _ rfl
  have e := hfa.symm.trans T.g_law
  cases e
  have b := FunD.bindsA (ps := ["_law_script"]) F fun _ _ _ _ _ _ us hl => match us, hl with | [_], _ => rfl
  refine ⟨fd, [He.cT K ("law", none)], sp_law K (He.cT K ("law", none)).2, fun p hp => ?_, fun p hp => ?_, fun p hp => ?_, fun s v => b s [v] rfl, fun H a ns _ _ hT hS => ⟨a, ns, rfl, hS, TabS.nil (hT _ List.mem_cons_self), fun _ => rfl⟩, fun base _ _ hB => ok_law T N (hB _ List.mem_cons_self) F⟩
  · rw [List.mem_singleton.mp hp]
    cases q : g (He.cT K ("law", none)).2 with
    | none => rw [q] at t3; cases t3
    | some o =>
      rw [q] at t3
      rw [hg _ _ q, He.emptyTab_eq t3]
  · rw [List.mem_singleton.mp hp]
    exact Option.isNone_iff_eq_none.mp t2
  · rw [List.mem_singleton.mp hp]
    exact PySem.W.codeHd_of_K X t1
end
end Tp
open PySem PySem.W PySem.Calls PyProof.Rows
set_option maxRecDepth 100000 in
set_option maxHeartbeats 8000000 in
theorem PySem.Challenge.cw_twopatches_k96_whole_logs_and_functions_holds : PySem.Challenge.rw_twopatches_k96_whole_logs_and_functions.Holds := by
  w_on; o_law
  refine HandSHeadRun.head_any (r := OpenLaw.row PySem.Challenge.rw_twopatches_k96_whole_logs_and_functions) (q := view (OpenLaw.row PySem.Challenge.rw_twopatches_k96_whole_logs_and_functions).prog [82]) (H := Tp.hk) (ob := Tp.ob) (M := 6400) (loose := Tp.names) (d := HandSHeadRun.topDef (OpenLaw.row PySem.Challenge.rw_twopatches_k96_whole_logs_and_functions).prog 82) (kwd := []) Tp.ob_eq
    (by kernel_rfl) (fun s => by kernel_rfl) Tp.headRun (by kernel_rfl) (by kernel_rfl) (by kernel_rfl) (by rfl) (by first | assumption | decide +kernel) (by decide +kernel) ⟨rfl, rfl, rfl, rfl, rfl, by decide +kernel⟩ ?hw ?hc
  case hw => w_witness2
  case hc =>
    refine LamX.walk_ofTsE (l := PySem.Challenge.rw_twopatches_k96_whole_logs_and_functions) (n := 63) (k := 29) (x := "_law_script") (CX := fun _ => C8.CX0) rfl (by decide) (by kernel_rfl) ⟨rfl, by decide, by decide⟩ ?F (fun _ _ _ _ _ z => z)
    intro w mg fa h Y G hmg0
    obtain ⟨K, KX, g, c, hg⟩ := Y
    have hmg : mg ("law" : PySem.Str) = some (.ref fa) := by
      have e : (HandSHeadRun.topDef (OpenLaw.row PySem.Challenge.rw_twopatches_k96_whole_logs_and_functions).prog 82).name = ("law" : PySem.Str) := by kernel_rfl
      rw [← e]
      exact hmg0
    exact ⟨K, KX, Tp.law_at KX G c hg hmg⟩
